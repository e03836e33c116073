/- Contracts. No conditions. -/
import Derived.Test.YtekcnnngjoonbaaGreatWr
set_option linter.all false
set_option maxHeartbeats 8000000
set_option maxRecDepth 10000
namespace Go.Proofs.YtekcnnngjoonbaaGreat.VM
open List Nat
open Go Go.RowKit Go.Proofs Go.Proofs.Tryz
theorem nv(u:aX)(id:Int)(hb:il u):a_ prog 199 [.g [.v (iv u.Next),.v (iv u.bp),.h aa [],.h (aa+1) [],.h (aa+2) [],.h (aa+3) [],.h (aa+4) [],.h (aa+5) [],.h (aa+6) []],.v (iv id)] [.rt aa .ro (tr u.aP),.rt (aa+1) .ro (tr u.ag),.rt (aa+2) .ro (tr u.ao),.rt (aa+3) .ro (tr u.ak),.rt (aa+4) .ro (tr u.ay),.rt (aa+5) .ro (tr u.aN),.rt (aa+6) .ro (tr u.Out)] (λy _=>y= .v (iv (ky u id:Nat))):=by
 refine ob func199 ntmps199 ?_;refine AW.len (aa+1) [] rfl (by simp[bT]) rfl (λhl=>?_);have hrb:=qE hb id;refine go [.R,.B,.N,.a,.Z,.R,.a,.Z,.R2,.f,.N,.l,.h,.m,.Z] ?_;refine AW.block ?_;refine AW.aL (λi:cV u.ag.length=>[.sl 13 (.v (iv i.k)),.sl 5 (.v (iv (gL u id i.k:Nat))),.sl 1 (.v (iv id)),.sl 11 (.h (aa+1) []),.sl 12 (.v (iv u.ag.length)),.rt aa .ro (tr u.aP),.rt (aa+1) .ro (tr u.ag),.rt (aa+2) .ro (tr u.ao),.rt (aa+3) .ro (tr u.ak),.rt (aa+4) .ro (tr u.ay),.rt (aa+5) .ro (tr u.aN),.rt (aa+6) .ro (tr u.Out)]) (λi=>u.ag.length-i.k) ⟨0,zero_le _⟩ (ws) ?_;intro i;have hle:=i.le;have hm1:i.k<u.ag.length→gL u id (i.k+1)≤ky u id:=λh=>dK (by omega);have hs1:gL u id (i.k+1)=gL u id i.k+fY id (u.ag.getD i.k En.ab).cH (u.ag.getD i.k En.ab).cH.length:=rfl;refine go [.R,.b,.Z] ?_;refine AW.seq ?_;refine cd (λc1=>?_) λc1=>?_
 ·try simp only[ah]at c1
  refine jd (AW.seq (AW.block (sr ?_)));refine go [.i,.N,.G,.A,.N,.s,.Z,.R,.f,.N,.l,.h,.m,.Z] ?_;refine AW.block ?_;refine AW.aL (λj:cV (u.ag.getD i.k En.ab).cH.length=>[.sl 20 (.v (iv j.k)),.sl 13 (.v (iv i.k)),.sl 5 (.v (iv (gL u id i.k+fY id (u.ag.getD i.k En.ab).cH j.k:Nat))),.sl 18 (.h (aa+1) [(10,i.k,7)]),.sl 19 (.v (iv (u.ag.getD i.k En.ab).cH.length)),.sl 1 (.v (iv id)),.sl 11 (.h (aa+1) []),.sl 12 (.v (iv u.ag.length)),.rt aa .ro (tr u.aP),.rt (aa+1) .ro (tr u.ag),.rt (aa+2) .ro (tr u.ao),.rt (aa+3) .ro (tr u.ak),.rt (aa+4) .ro (tr u.ay),.rt (aa+5) .ro (tr u.aN),.rt (aa+6) .ro (tr u.Out)]) (λj=>(u.ag.getD i.k En.ab).cH.length-j.k) ⟨0,zero_le _⟩ (ws) ?_;intro j;have hlej:=j.le;have hm2:j.k<(u.ag.getD i.k En.ab).cH.length→fY id (u.ag.getD i.k En.ab).cH (j.k+1)≤fY id (u.ag.getD i.k En.ab).cH (u.ag.getD i.k En.ab).cH.length:=λh=>dK (by omega);have hs2:fY id (u.ag.getD i.k En.ab).cH (j.k+1)=fY id (u.ag.getD i.k En.ab).cH j.k+(if(u.ag.getD i.k En.ab).cH.getD j.k En.ab=id then 1 else 0):=rfl;refine AW.len (aa+1) [(10,i.k,7)] rfl (by refine⟨rfl,?_,by decide,trivial⟩;show i.k<u.ag.length;omega) rfl (λhl2=>?_);refine go [.R,.b,.Z] ?_;refine AW.seq ?_;refine cd (λc2=>?_) λc2=>?_
  ·try simp only[ah]at c2
   refine jd (AW.seq (AW.block (sr ?_)));refine go [.i,.N,.l,.a,.Z,.R,.m,.N,.m,.b,.Z] ?_;refine cd (λc3=>?_) λc3=>?_
   ·try simp only[ah]at c3
    refine go [.R1,.m,.N,.b,.a,.Z,.R1,.b,.N,.m,.Z] ?_;refine⟨⟨j.k+1,by omega⟩,ar.bb ⟨ew,rfl,by simp only[ax,reduceIte,Nat.reduceEqDiff];congr 2;rw[hs2];grind only,rfl,rfl,rfl,rfl,rfl,Rf rfl,Rf rfl,Rf rfl,Rf rfl,Rf rfl,Rf rfl,Rf rfl,trivial⟩ rfl rfl,?_⟩;show(u.ag.getD i.k En.ab).cH.length-(j.k+1)<(u.ag.getD i.k En.ab).cH.length-j.k;omega
   try simp only[ah]at c3
   refine go [.J,.R1,.b,.m,.Z] ?_;refine⟨⟨j.k+1,by omega⟩,ar.bb ⟨ew,rfl,by simp only[ax,reduceIte,Nat.reduceEqDiff];congr 2;rw[hs2];grind only,rfl,rfl,rfl,rfl,rfl,Rf rfl,Rf rfl,Rf rfl,Rf rfl,Rf rfl,Rf rfl,Rf rfl,trivial⟩ rfl rfl,?_⟩;show(u.ag.getD i.k En.ab).cH.length-(j.k+1)<(u.ag.getD i.k En.ab).cH.length-j.k;omega
  try simp only[ah]at c2
  refine AW.exit ?_;dsimp only[aD,au,reduceIte];refine go [.R1,.b,.N,.m,.Z] ?_;refine⟨⟨i.k+1,by omega⟩,ar.bb ⟨ew,by simp only[ax,reduceIte,Nat.reduceEqDiff];congr 2;rw[hs1,←(congrArg (fY id (u.ag.getD i.k En.ab).cH) (show j.k=(u.ag.getD i.k En.ab).cH.length by omega))],rfl,rfl,rfl,Rf rfl,Rf rfl,Rf rfl,Rf rfl,Rf rfl,Rf rfl,Rf rfl,trivial⟩ rfl rfl,?_⟩;show u.ag.length-(i.k+1)<u.ag.length-i.k;omega
 try simp only[ah]at c1
 refine AW.exit ?_;dsimp only[aD,au,reduceIte];refine go [.R,.m,.a,.Z] ?_;refine aQ 4 ?_;rw[show gL u id i.k=ky u id from congrArg (gL u id) (show i.k=u.ag.length by omega)];rfl
theorem vA(u:aX)(hb:il u):a_ prog 151 [.g [.v (iv u.Next),.v (iv u.bp),.h aa [],.h (aa+1) [],.h (aa+2) [],.h (aa+3) [],.h (aa+4) [],.h (aa+5) [],.h (aa+6) []]] [.rt aa .ro (tr u.aP),.rt (aa+1) .ro (tr u.ag),.rt (aa+2) .ro (tr u.ao),.rt (aa+3) .ro (tr u.ak),.rt (aa+4) .ro (tr u.ay),.rt (aa+5) .ro (tr u.aN),.rt (aa+6) .ro (tr u.Out)] (λy _=>y= .v (iv (om u.ag u.ag.length:Nat))):=by
 refine ob func151 ntmps151 ?_;refine AW.len (aa+1) [] rfl (by simp[bT]) rfl (λhl=>?_);have hmb:=hb.mem;refine go [.R,.B,.N,.a,.Z,.R,.a,.Z,.R2,.f,.N,.l,.h,.m,.Z] ?_;refine AW.block ?_;refine AW.aL (λi:cV u.ag.length=>[.sl 9 (.v (iv i.k)),.sl 3 (.v (iv (om u.ag i.k:Nat))),.sl 7 (.h (aa+1) []),.sl 8 (.v (iv u.ag.length)),.rt aa .ro (tr u.aP),.rt (aa+1) .ro (tr u.ag),.rt (aa+2) .ro (tr u.ao),.rt (aa+3) .ro (tr u.ak),.rt (aa+4) .ro (tr u.ay),.rt (aa+5) .ro (tr u.aN),.rt (aa+6) .ro (tr u.Out)]) (λi=>u.ag.length-i.k) ⟨0,zero_le _⟩ (ws) ?_;intro i;have hle:=i.le;have hm1:i.k<u.ag.length→om u.ag (i.k+1)≤om u.ag u.ag.length:=λh=>dK (by omega);have hs1:om u.ag (i.k+1)=om u.ag i.k+(u.ag.getD i.k En.ab).Mem.length:=rfl;refine go [.R,.b,.Z] ?_;refine AW.seq ?_;refine cd (λc1=>?_) λc1=>?_
 ·try simp only[ah]at c1
  refine jd (AW.seq (AW.block (sr ?_)));refine go [.i,.N,.G,.A,.N,.s,.Z,.R1,.m,.N,.f,.l,.h,.N,.b,.a,.Z,.R1,.b,.N,.m,.Z] ?_;refine⟨⟨i.k+1,by omega⟩,ar.bb ⟨ew,by simp only[ax,reduceIte,Nat.reduceEqDiff];congr 2;first|done|(rw[hs1];grind only),rfl,rfl,Rf rfl,Rf rfl,Rf rfl,Rf rfl,Rf rfl,Rf rfl,Rf rfl,trivial⟩ rfl rfl,?_⟩;show u.ag.length-(i.k+1)<u.ag.length-i.k;omega
 try simp only[ah]at c1
 refine AW.exit ?_;dsimp only[aD,au,reduceIte];refine go [.R,.m,.a,.Z] ?_;refine aQ 2 ?_;rw[show i.k=u.ag.length by omega];rfl
theorem px(u:aX)(o:az)(hb:il u):a_ prog 150 [.g [.v (iv u.Next),.v (iv u.bp),.h aa [],.h (aa+1) [],.h (aa+2) [],.h (aa+3) [],.h (aa+4) [],.h (aa+5) [],.h (aa+6) []],.g [.v (iv o.Id),.v (iv o.Kind),.v (iv o.Target),.v (iv o.j3),.v (iv o.fc)]] [.rt aa .ro (tr u.aP),.rt (aa+1) .ro (tr u.ag),.rt (aa+2) .ro (tr u.ao),.rt (aa+3) .ro (tr u.ak),.rt (aa+4) .ro (tr u.ay),.rt (aa+5) .ro (tr u.aN),.rt (aa+6) .ro (tr u.Out)] (λy _=>y= .v (.bool (b6 u o))):=by
 refine ob func150 ntmps150 ?_;have hfb:kx u o.Target<u.ay.length:=(l8 _ _).2;refine go [.R,.B,.N,.B,.N,.a,.Z] ?_;refine AW.seq (AW.seq ?_);refine go [.D [0,1,3,4,5,6,7,8,9,10,11,12,13,14,16,17],.t 0,.f,.t 1,.l,.N] ?_;refine a1 2 [] [1,0] rfl rfl (aE.aC rfl (by decide) call144 rfl rfl (de _ _ _)) ?_;refine go [.N,.t 3,.n,.t 4,.m] ?_;refine aO.split 10 rfl (λg1=>?_) (λg1=>?_)
 ·refine go [.t 5,.x,.N,.t 6,.x,.t 7,.x] ?_;refine tk 8 rfl (Qt.bj rfl g1) ?_;refine go [.N,.t 9,.m] ?_;refine aO.split 15 rfl (λg2=>?_) (λg2=>?_)
  ·refine go [.t 10,.x,.t 11,.x,.N,.t 12,.x,.t 13,.x,.t 14,.x,.N,.O 15 [10,11] [14,12,9,13,8,4,7,3,2,6,1,5,0],.x,.N,.g,.x,.g,.x,.N,.t 16,.x] ?_;refine tk 17 rfl (Qt.bj rfl g2) ?_;refine go [.Z] ?_;refine cd (λc3=>?_) λc3=>?_
   ·try simp only[ah]at c3
    refine go [.R,.a,.Z] ?_;refine aQ 4 ?_;refine rb ?_;simp only[b6];grind only
   try simp only[ah]at c3
   refine jd (dq ?_);refine go [.f,.N,.l,.Z] ?_;refine AW.block (sr ?_);refine go [.b,.a,.Z] ?_;refine cd (λc4=>?_) λc4=>?_
   ·try simp only[ah]at c4
    refine go [.R,.f,.N,.l,.b,.m,.N] ?_;apply aB.cut 3
    ·intro Kg5;refine aB.split 31 rfl (λg5=>?_) (λg5=>?_)
     ·refine go [.f,.l,.b,.N] ?_;exact bV 34 [32,33,34] (bY g5 _ undef) Kg5
     ·refine go [.x,.x,.x] ?_;exact bX 34 [32,33,34] (bU g5 undef _) Kg5
    refine qq (Qt.aG rfl rfl rfl) ?_;refine go [.a,.Z] ?_;refine aQ 4 ?_;refine rb ?_;simp only[b6];grind only
   try simp only[ah]at c4
   refine go [.R,.b,.N,.a,.Z] ?_;refine cd (λc6=>?_) λc6=>?_
   ·try simp only[ah]at c6
    refine go [.R,.G,.f,.N,.l] ?_;refine cv call200 rfl rfl (iS u _) ?_;refine go [.N,.a,.Z] ?_;refine AW.seq ?_;refine go [.D [0,1,2,3,4,5,6,7,8,9,10,11,13,14],.t 0,.m,.t 1,.b,.N,.t 2,.m] ?_;refine aO.split 44 rfl (λg7=>?_) (λg7=>?_)
    ·refine go [.t 3,.f,.t 4,.l,.N,.t 5,.f,.t 6,.l,.t 7,.m,.N,.t 8,.i,.t 9,.f,.t 10,.l,.N,.t 11,.h] ?_;refine a1 12 [] [11,4,2,10,3,1,9,0,8,7,6,5] rfl g7 (aE.aC rfl (by decide) call144 rfl rfl (de _ _ _)) ?_;refine go [.N] ?_;refine tk 13 rfl (Qt.bj rfl g7) ?_;refine go [.t 14,.a,.Z] ?_;refine aQ 4 ?_;refine rb ?_;simp only[b6];grind only
    refine go [.t 3,.x,.N,.t 4,.x,.t 5,.x,.t 6,.x,.N,.t 7,.x,.t 8,.x,.t 9,.x,.N,.t 10,.x,.t 11,.x,.O 12 [] [11,4,2,10,3,1,9,0,8,7,6,5],.x,.N] ?_;refine tk 13 rfl (Qt.bd rfl g7) ?_;refine go [.t 14,.a,.Z] ?_;refine aQ 4 ?_;refine rb ?_;simp only[b6];grind only
   try simp only[ah]at c6
   refine go [.R2,.b,.N,.a,.Z] ?_;refine cd (λc8=>?_) λc8=>?_
   ·have k8:=c8
    try simp only[ah]at c8
    refine go [.J] ?_;refine AW.jV rfl k8 ?_;refine go [.R,.G,.f,.N,.l] ?_;refine cv call201 rfl rfl (ep u _) ?_;refine go [.N,.b,.m] ?_;apply aB.cut 3
    ·intro Kg9;refine aB.split 64 rfl (λg9=>?_) (λg9=>?_)
     ·refine go [.f,.N,.l,.b] ?_;exact bV 67 [65,66,67] (bY g9 _ undef) Kg9
     ·refine go [.x,.x,.x] ?_;exact bX 67 [65,66,67] (bU g9 undef _) Kg9
    refine qq (Qt.aG rfl rfl rfl) ?_;refine go [.N,.a,.Z] ?_;refine aQ 4 ?_;refine rb ?_;simp only[b6];grind only
   have k8:=c8
   try simp only[ah]at c8
   refine go [.R1,.b,.a,.Z] ?_;refine cd (λc10=>?_) λc10=>?_
   ·try simp only[ah]at c10
    refine go [.R,.G,.N,.f,.l] ?_;refine cv call201 rfl rfl (ep u _) ?_;refine go [.N,.b,.m] ?_;apply aB.cut 3
    ·intro Kg11;refine aB.split 64 rfl (λg11=>?_) (λg11=>?_)
     ·refine go [.f,.N,.l,.b] ?_;exact bV 67 [65,66,67] (bY g11 _ undef) Kg11
     ·refine go [.x,.x,.x] ?_;exact bX 67 [65,66,67] (bU g11 undef _) Kg11
    refine qq (Qt.aG rfl rfl rfl) ?_;refine go [.N,.a,.Z] ?_;refine aQ 4 ?_;refine rb ?_;simp only[b6];grind only
   try simp only[ah]at c10
   refine go [.J,.R,.a,.Z] ?_;refine aQ 4 ?_;refine rb ?_;simp only[b6];grind only
  refine go [.t 10,.f,.N,.t 11,.l,.t 12,.G,.t 13,.f,.N,.t 14,.l] ?_;refine a1 15 [10,11] [14,12,9,13,8,4,7,3,2,6,1,5,0] rfl (nF g2) (aE.aC rfl (by decide) call199 rfl rfl (nv u _ hb)) ?_;refine go [.N,.g,.f,.g,.l,.N,.t 16,.b] ?_;refine tk 17 rfl (Qt.bd rfl g2) ?_;refine go [.Z] ?_;refine cd (λc12=>?_) λc12=>?_
  ·try simp only[ah]at c12
   refine go [.R,.a,.Z] ?_;refine aQ 4 ?_;refine rb ?_;simp only[b6];grind only
  try simp only[ah]at c12
  refine jd (dq ?_);refine go [.f,.N,.l,.Z] ?_;refine AW.block (sr ?_);refine go [.b,.a,.Z] ?_;refine cd (λc13=>?_) λc13=>?_
  ·try simp only[ah]at c13
   refine go [.R,.f,.N,.l,.b,.m,.N] ?_;apply aB.cut 3
   ·intro Kg14;refine aB.split 31 rfl (λg14=>?_) (λg14=>?_)
    ·refine go [.f,.l,.b,.N] ?_;exact bV 34 [32,33,34] (bY g14 _ undef) Kg14
    ·refine go [.x,.x,.x] ?_;exact bX 34 [32,33,34] (bU g14 undef _) Kg14
   refine qq (Qt.aG rfl rfl rfl) ?_;refine go [.a,.Z] ?_;refine aQ 4 ?_;refine rb ?_;simp only[b6];grind only
  try simp only[ah]at c13
  refine go [.R,.b,.N,.a,.Z] ?_;refine cd (λc15=>?_) λc15=>?_
  ·try simp only[ah]at c15
   refine go [.R,.G,.f,.N,.l] ?_;refine cv call200 rfl rfl (iS u _) ?_;refine go [.N,.a,.Z] ?_;refine AW.seq ?_;refine go [.D [0,1,2,3,4,5,6,7,8,9,10,11,13,14],.t 0,.m,.t 1,.b,.N,.t 2,.m] ?_;refine aO.split 44 rfl (λg16=>?_) (λg16=>?_)
   ·refine go [.t 3,.f,.t 4,.l,.N,.t 5,.f,.t 6,.l,.t 7,.m,.N,.t 8,.i,.t 9,.f,.t 10,.l,.N,.t 11,.h] ?_;refine a1 12 [] [11,4,2,10,3,1,9,0,8,7,6,5] rfl g16 (aE.aC rfl (by decide) call144 rfl rfl (de _ _ _)) ?_;refine go [.N] ?_;refine tk 13 rfl (Qt.bj rfl g16) ?_;refine go [.t 14,.a,.Z] ?_;refine aQ 4 ?_;refine rb ?_;simp only[b6];grind only
   refine go [.t 3,.x,.N,.t 4,.x,.t 5,.x,.t 6,.x,.N,.t 7,.x,.t 8,.x,.t 9,.x,.N,.t 10,.x,.t 11,.x,.O 12 [] [11,4,2,10,3,1,9,0,8,7,6,5],.x,.N] ?_;refine tk 13 rfl (Qt.bd rfl g16) ?_;refine go [.t 14,.a,.Z] ?_;refine aQ 4 ?_;refine rb ?_;simp only[b6];grind only
  try simp only[ah]at c15
  refine go [.R2,.b,.N,.a,.Z] ?_;refine cd (λc17=>?_) λc17=>?_
  ·have k17:=c17
   try simp only[ah]at c17
   refine go [.J] ?_;refine AW.jV rfl k17 ?_;refine go [.R,.G,.f,.N,.l] ?_;refine cv call201 rfl rfl (ep u _) ?_;refine go [.N,.b,.m] ?_;apply aB.cut 3
   ·intro Kg18;refine aB.split 64 rfl (λg18=>?_) (λg18=>?_)
    ·refine go [.f,.N,.l,.b] ?_;exact bV 67 [65,66,67] (bY g18 _ undef) Kg18
    ·refine go [.x,.x,.x] ?_;exact bX 67 [65,66,67] (bU g18 undef _) Kg18
   refine qq (Qt.aG rfl rfl rfl) ?_;refine go [.N,.a,.Z] ?_;refine aQ 4 ?_;refine rb ?_;simp only[b6];grind only
  have k17:=c17
  try simp only[ah]at c17
  refine go [.R1,.b,.a,.Z] ?_;refine cd (λc19=>?_) λc19=>?_
  ·try simp only[ah]at c19
   refine go [.R,.G,.N,.f,.l] ?_;refine cv call201 rfl rfl (ep u _) ?_;refine go [.N,.b,.m] ?_;apply aB.cut 3
   ·intro Kg20;refine aB.split 64 rfl (λg20=>?_) (λg20=>?_)
    ·refine go [.f,.N,.l,.b] ?_;exact bV 67 [65,66,67] (bY g20 _ undef) Kg20
    ·refine go [.x,.x,.x] ?_;exact bX 67 [65,66,67] (bU g20 undef _) Kg20
   refine qq (Qt.aG rfl rfl rfl) ?_;refine go [.N,.a,.Z] ?_;refine aQ 4 ?_;refine rb ?_;simp only[b6];grind only
  try simp only[ah]at c19
  refine go [.J,.R,.a,.Z] ?_;refine aQ 4 ?_;refine rb ?_;simp only[b6];grind only
 refine go [.t 5,.f,.N,.t 6,.l,.t 7,.b] ?_;refine tk 8 rfl (Qt.bd rfl g1) ?_;refine go [.N,.t 9,.m] ?_;refine aO.split 15 rfl (λg21=>?_) (λg21=>?_)
 ·refine go [.t 10,.x,.t 11,.x,.N,.t 12,.x,.t 13,.x,.t 14,.x,.N,.O 15 [10,11] [14,12,9,13,8,4,7,3,2,6,1,5,0],.x,.N,.g,.x,.g,.x,.N,.t 16,.x] ?_;refine tk 17 rfl (Qt.bj rfl g21) ?_;refine go [.Z] ?_;refine cd (λc22=>?_) λc22=>?_
  ·try simp only[ah]at c22
   refine go [.R,.a,.Z] ?_;refine aQ 4 ?_;refine rb ?_;simp only[b6];grind only
  try simp only[ah]at c22
  refine jd (dq ?_);refine go [.f,.N,.l,.Z] ?_;refine AW.block (sr ?_);refine go [.b,.a,.Z] ?_;refine cd (λc23=>?_) λc23=>?_
  ·try simp only[ah]at c23
   refine go [.R,.f,.N,.l,.b,.m,.N] ?_;apply aB.cut 3
   ·intro Kg24;refine aB.split 31 rfl (λg24=>?_) (λg24=>?_)
    ·refine go [.f,.l,.b,.N] ?_;exact bV 34 [32,33,34] (bY g24 _ undef) Kg24
    ·refine go [.x,.x,.x] ?_;exact bX 34 [32,33,34] (bU g24 undef _) Kg24
   refine qq (Qt.aG rfl rfl rfl) ?_;refine go [.a,.Z] ?_;refine aQ 4 ?_;refine rb ?_;simp only[b6];grind only
  try simp only[ah]at c23
  refine go [.R,.b,.N,.a,.Z] ?_;refine cd (λc25=>?_) λc25=>?_
  ·try simp only[ah]at c25
   refine go [.R,.G,.f,.N,.l] ?_;refine cv call200 rfl rfl (iS u _) ?_;refine go [.N,.a,.Z] ?_;refine AW.seq ?_;refine go [.D [0,1,2,3,4,5,6,7,8,9,10,11,13,14],.t 0,.m,.t 1,.b,.N,.t 2,.m] ?_;refine aO.split 44 rfl (λg26=>?_) (λg26=>?_)
   ·refine go [.t 3,.f,.t 4,.l,.N,.t 5,.f,.t 6,.l,.t 7,.m,.N,.t 8,.i,.t 9,.f,.t 10,.l,.N,.t 11,.h] ?_;refine a1 12 [] [11,4,2,10,3,1,9,0,8,7,6,5] rfl g26 (aE.aC rfl (by decide) call144 rfl rfl (de _ _ _)) ?_;refine go [.N] ?_;refine tk 13 rfl (Qt.bj rfl g26) ?_;refine go [.t 14,.a,.Z] ?_;refine aQ 4 ?_;refine rb ?_;simp only[b6];grind only
   refine go [.t 3,.x,.N,.t 4,.x,.t 5,.x,.t 6,.x,.N,.t 7,.x,.t 8,.x,.t 9,.x,.N,.t 10,.x,.t 11,.x,.O 12 [] [11,4,2,10,3,1,9,0,8,7,6,5],.x,.N] ?_;refine tk 13 rfl (Qt.bd rfl g26) ?_;refine go [.t 14,.a,.Z] ?_;refine aQ 4 ?_;refine rb ?_;simp only[b6];grind only
  try simp only[ah]at c25
  refine go [.R2,.b,.N,.a,.Z] ?_;refine cd (λc27=>?_) λc27=>?_
  ·have k27:=c27
   try simp only[ah]at c27
   refine go [.J] ?_;refine AW.jV rfl k27 ?_;refine go [.R,.G,.f,.N,.l] ?_;refine cv call201 rfl rfl (ep u _) ?_;refine go [.N,.b,.m] ?_;apply aB.cut 3
   ·intro Kg28;refine aB.split 64 rfl (λg28=>?_) (λg28=>?_)
    ·refine go [.f,.N,.l,.b] ?_;exact bV 67 [65,66,67] (bY g28 _ undef) Kg28
    ·refine go [.x,.x,.x] ?_;exact bX 67 [65,66,67] (bU g28 undef _) Kg28
   refine qq (Qt.aG rfl rfl rfl) ?_;refine go [.N,.a,.Z] ?_;refine aQ 4 ?_;refine rb ?_;simp only[b6];grind only
  have k27:=c27
  try simp only[ah]at c27
  refine go [.R1,.b,.a,.Z] ?_;refine cd (λc29=>?_) λc29=>?_
  ·try simp only[ah]at c29
   refine go [.R,.G,.N,.f,.l] ?_;refine cv call201 rfl rfl (ep u _) ?_;refine go [.N,.b,.m] ?_;apply aB.cut 3
   ·intro Kg30;refine aB.split 64 rfl (λg30=>?_) (λg30=>?_)
    ·refine go [.f,.N,.l,.b] ?_;exact bV 67 [65,66,67] (bY g30 _ undef) Kg30
    ·refine go [.x,.x,.x] ?_;exact bX 67 [65,66,67] (bU g30 undef _) Kg30
   refine qq (Qt.aG rfl rfl rfl) ?_;refine go [.N,.a,.Z] ?_;refine aQ 4 ?_;refine rb ?_;simp only[b6];grind only
  try simp only[ah]at c29
  refine go [.J,.R,.a,.Z] ?_;refine aQ 4 ?_;refine rb ?_;simp only[b6];grind only
 refine go [.t 10,.f,.N,.t 11,.l,.t 12,.G,.t 13,.f,.N,.t 14,.l] ?_;refine a1 15 [10,11] [14,12,9,13,8,4,7,3,2,6,1,5,0] rfl (nF g21) (aE.aC rfl (by decide) call199 rfl rfl (nv u _ hb)) ?_;refine go [.N,.g,.f,.g,.l,.N,.t 16,.b] ?_;refine tk 17 rfl (Qt.bd rfl g21) ?_;refine go [.Z] ?_;refine cd (λc31=>?_) λc31=>?_
 ·try simp only[ah]at c31
  refine go [.R,.a,.Z] ?_;refine aQ 4 ?_;refine rb ?_;simp only[b6];grind only
 try simp only[ah]at c31
 refine jd (dq ?_);refine go [.f,.N,.l,.Z] ?_;refine AW.block (sr ?_);refine go [.b,.a,.Z] ?_;refine cd (λc32=>?_) λc32=>?_
 ·try simp only[ah]at c32
  refine go [.R,.f,.N,.l,.b,.m,.N] ?_;apply aB.cut 3
  ·intro Kg33;refine aB.split 31 rfl (λg33=>?_) (λg33=>?_)
   ·refine go [.f,.l,.b,.N] ?_;exact bV 34 [32,33,34] (bY g33 _ undef) Kg33
   ·refine go [.x,.x,.x] ?_;exact bX 34 [32,33,34] (bU g33 undef _) Kg33
  refine qq (Qt.aG rfl rfl rfl) ?_;refine go [.a,.Z] ?_;refine aQ 4 ?_;refine rb ?_;simp only[b6];grind only
 try simp only[ah]at c32
 refine go [.R,.b,.N,.a,.Z] ?_;refine cd (λc34=>?_) λc34=>?_
 ·try simp only[ah]at c34
  refine go [.R,.G,.f,.N,.l] ?_;refine cv call200 rfl rfl (iS u _) ?_;refine go [.N,.a,.Z] ?_;refine AW.seq ?_;refine go [.D [0,1,2,3,4,5,6,7,8,9,10,11,13,14],.t 0,.m,.t 1,.b,.N,.t 2,.m] ?_;refine aO.split 44 rfl (λg35=>?_) (λg35=>?_)
  ·refine go [.t 3,.f,.t 4,.l,.N,.t 5,.f,.t 6,.l,.t 7,.m,.N,.t 8,.i,.t 9,.f,.t 10,.l,.N,.t 11,.h] ?_;refine a1 12 [] [11,4,2,10,3,1,9,0,8,7,6,5] rfl g35 (aE.aC rfl (by decide) call144 rfl rfl (de _ _ _)) ?_;refine go [.N] ?_;refine tk 13 rfl (Qt.bj rfl g35) ?_;refine go [.t 14,.a,.Z] ?_;refine aQ 4 ?_;refine rb ?_;simp only[b6];grind only
  refine go [.t 3,.x,.N,.t 4,.x,.t 5,.x,.t 6,.x,.N,.t 7,.x,.t 8,.x,.t 9,.x,.N,.t 10,.x,.t 11,.x,.O 12 [] [11,4,2,10,3,1,9,0,8,7,6,5],.x,.N] ?_;refine tk 13 rfl (Qt.bd rfl g35) ?_;refine go [.t 14,.a,.Z] ?_;refine aQ 4 ?_;refine rb ?_;simp only[b6];grind only
 try simp only[ah]at c34
 refine go [.R2,.b,.N,.a,.Z] ?_;refine cd (λc36=>?_) λc36=>?_
 ·have k36:=c36
  try simp only[ah]at c36
  refine go [.J] ?_;refine AW.jV rfl k36 ?_;refine go [.R,.G,.f,.N,.l] ?_;refine cv call201 rfl rfl (ep u _) ?_;refine go [.N,.b,.m] ?_;apply aB.cut 3
  ·intro Kg37;refine aB.split 64 rfl (λg37=>?_) (λg37=>?_)
   ·refine go [.f,.N,.l,.b] ?_;exact bV 67 [65,66,67] (bY g37 _ undef) Kg37
   ·refine go [.x,.x,.x] ?_;exact bX 67 [65,66,67] (bU g37 undef _) Kg37
  refine qq (Qt.aG rfl rfl rfl) ?_;refine go [.N,.a,.Z] ?_;refine aQ 4 ?_;refine rb ?_;simp only[b6];grind only
 have k36:=c36
 try simp only[ah]at c36
 refine go [.R1,.b,.a,.Z] ?_;refine cd (λc38=>?_) λc38=>?_
 ·try simp only[ah]at c38
  refine go [.R,.G,.N,.f,.l] ?_;refine cv call201 rfl rfl (ep u _) ?_;refine go [.N,.b,.m] ?_;apply aB.cut 3
  ·intro Kg39;refine aB.split 64 rfl (λg39=>?_) (λg39=>?_)
   ·refine go [.f,.N,.l,.b] ?_;exact bV 67 [65,66,67] (bY g39 _ undef) Kg39
   ·refine go [.x,.x,.x] ?_;exact bX 67 [65,66,67] (bU g39 undef _) Kg39
  refine qq (Qt.aG rfl rfl rfl) ?_;refine go [.N,.a,.Z] ?_;refine aQ 4 ?_;refine rb ?_;simp only[b6];grind only
 try simp only[ah]at c38
 refine go [.J,.R,.a,.Z] ?_;refine aQ 4 ?_;refine rb ?_;simp only[b6];grind only
theorem rq(l:List ca):a_ prog 153 [.h aa []] [.rt aa .ro (tr l)] (λy _=>y= .v (.bool (mD l))):=by
 refine ob func153 ntmps153 ?_;refine AW.len (aa) [] rfl (by simp[bT]) rfl (λhl=>?_);refine go [.R,.a,.Z,.R2,.m,.h,.N,.m,.Z] ?_;refine AW.block ?_;refine AW.aL (λi:q_ (bh l) l.length=>[.sl 7 (.v (iv i.k)),.sl 0 (.h aa []),.sl 5 (.h aa []),.sl 6 (.v (iv l.length)),.rt aa .ro (tr l)]) (λi=>l.length-i.k) ⟨0,zero_le _,λ_ h=>absurd h (not_lt_zero _)⟩ (ws) ?_;intro i;have hle:=i.le;have hTi:((i.k:Int)-1).toNat=i.k-1:=by omega
 refine go [.R,.b,.Z] ?_;refine AW.seq ?_;refine cd (λc1=>?_) λc1=>?_
 ·try simp only[ah]at c1
  refine jd (AW.seq (AW.block (sr ?_)));refine go [.m,.N,.i,.G,.A,.N,.a,.s,.Z] ?_;refine AW.seq ?_;refine go [.D [0,1,3,4,5,6,7,8,9,10,11,12,13,14,15,16,17,18,19,20,21,22,23,24,25,26,27,29,30],.t 0,.f,.N,.t 1,.l] ?_;refine a1 2 [] [1,0] rfl rfl (aE.aC rfl (by decide) call144 rfl rfl (de _ _ _)) ?_;refine go [.N,.t 3,.n,.t 4,.m] ?_;refine aO.split 16 rfl (λg2=>?_) (λg2=>?_)
  ·refine go [.t 5,.x,.N,.t 6,.x,.t 7,.x,.t 8,.x,.N,.t 9,.x,.t 10,.x,.t 11,.x,.N,.t 12,.x,.t 13,.x,.t 14,.x,.N,.t 15,.x,.t 16,.x,.t 17,.x,.N] ?_;refine tk 18 rfl (Qt.bj rfl g2) ?_;refine go [.t 19,.m] ?_;refine aO.split 31 rfl (λg3=>?_) (λg3=>?_)
   ·refine go [.t 20,.x,.N,.t 21,.x,.t 22,.x,.t 23,.x,.N] ?_;refine tk 24 rfl (Qt.bj rfl g3) ?_;refine go [.t 25,.m] ?_;refine aO.split 37 rfl (λg4=>?_) (λg4=>?_)
    ·refine go [.t 26,.x,.N,.t 27,.x,.O 28 [] [27,25,26,24,19,23,18,7,22,17,4,6,21,16,3,2,5,20,15,13,1,14,12,0,11,10,8,9],.x,.N,.t 29,.x] ?_;refine tk 30 rfl (Qt.bj rfl g4) ?_;refine go [.Z] ?_;refine cd (λc5=>?_) λc5=>?_
     ·try simp only[ah]at c5
      have hS:=i.stop (by omega) (show(bh l) i.k=false by simp only[bh,aI,bE];grind only);refine go [.R,.a,.Z] ?_;refine aQ 2 ?_;refine rb ?_;simp only[aR];grind only
     try simp only[ah]at c5
     refine go [.J,.R1,.b,.N,.m,.Z] ?_;refine⟨⟨i.k+1,by omega,i.next (show(bh l) i.k=true by simp only[bh,aI,bE];grind only)⟩,ws,?_⟩;show l.length-(i.k+1)<l.length-i.k;omega
    refine go [.t 26,.f,.t 27,.l,.N] ?_;refine a1 28 [] [27,25,26,24,19,23,18,7,22,17,4,6,21,16,3,2,5,20,15,13,1,14,12,0,11,10,8,9] rfl (nF g4) (aE.aC rfl (by decide) call145 rfl rfl (cg _)) ?_;refine go [.N,.t 29,.n] ?_;refine tk 30 rfl (Qt.bd rfl g4) ?_;refine go [.Z] ?_;refine cd (λc6=>?_) λc6=>?_
    ·try simp only[ah]at c6
     have hS:=i.stop (by omega) (show(bh l) i.k=false by simp only[bh,aI,bE];grind only);refine go [.R,.a,.Z] ?_;refine aQ 2 ?_;refine rb ?_;simp only[aR];grind only
    try simp only[ah]at c6
    refine go [.J,.R1,.b,.N,.m,.Z] ?_;refine⟨⟨i.k+1,by omega,i.next (show(bh l) i.k=true by simp only[bh,aI,bE];grind only)⟩,ws,?_⟩;show l.length-(i.k+1)<l.length-i.k;omega
   refine go [.t 20,.f,.t 21,.l,.N,.t 22,.h,.t 23,.b] ?_;refine tk 24 rfl (Qt.bd rfl g3) ?_;refine go [.N,.t 25,.m] ?_;refine aO.split 37 rfl (λg7=>?_) (λg7=>?_)
   ·refine go [.t 26,.x,.t 27,.x,.N,.O 28 [] [27,25,26,24,19,23,18,7,22,17,4,6,21,16,3,2,5,20,15,13,1,14,12,0,11,10,8,9],.x,.N,.t 29,.x] ?_;refine tk 30 rfl (Qt.bj rfl g7) ?_;refine go [.Z] ?_;refine cd (λc8=>?_) λc8=>?_
    ·try simp only[ah]at c8
     have hS:=i.stop (by omega) (show(bh l) i.k=false by simp only[bh,aI,bE];grind only);refine go [.R,.a,.Z] ?_;refine aQ 2 ?_;refine rb ?_;simp only[aR];grind only
    try simp only[ah]at c8
    refine go [.J,.R1,.b,.N,.m,.Z] ?_;refine⟨⟨i.k+1,by omega,i.next (show(bh l) i.k=true by simp only[bh,aI,bE];grind only)⟩,ws,?_⟩;show l.length-(i.k+1)<l.length-i.k;omega
   refine go [.t 26,.f,.t 27,.l,.N] ?_;refine a1 28 [] [27,25,26,24,19,23,18,7,22,17,4,6,21,16,3,2,5,20,15,13,1,14,12,0,11,10,8,9] rfl (nF g7) (aE.aC rfl (by decide) call145 rfl rfl (cg _)) ?_;refine go [.N,.t 29,.n] ?_;refine tk 30 rfl (Qt.bd rfl g7) ?_;refine go [.Z] ?_;refine cd (λc9=>?_) λc9=>?_
   ·try simp only[ah]at c9
    have hS:=i.stop (by omega) (show(bh l) i.k=false by simp only[bh,aI,bE];grind only);refine go [.R,.a,.Z] ?_;refine aQ 2 ?_;refine rb ?_;simp only[aR];grind only
   try simp only[ah]at c9
   refine go [.J,.R1,.b,.N,.m,.Z] ?_;refine⟨⟨i.k+1,by omega,i.next (show(bh l) i.k=true by simp only[bh,aI,bE];grind only)⟩,ws,?_⟩;show l.length-(i.k+1)<l.length-i.k;omega
  refine go [.t 5,.m,.t 6,.b,.N,.t 7,.m] ?_;refine aO.split 19 rfl (λg10=>?_) (λg10=>?_)
  ·refine go [.t 8,.m,.t 9,.m,.N,.t 10,.b,.t 11,.i,.t 12,.f,.N,.t 13,.l,.t 14,.f,.t 15,.l,.N,.t 16,.b] ?_;refine tg 17 rfl (nF g2) (Qt.bj rfl g10) ?_;refine tk 18 rfl (Qt.bd rfl g2) ?_;refine go [.N,.t 19,.m] ?_;refine aO.split 31 rfl (λg11=>?_) (λg11=>?_)
   ·refine go [.t 20,.x,.t 21,.x,.N,.t 22,.x,.t 23,.x] ?_;refine tk 24 rfl (Qt.bj rfl g11) ?_;refine go [.N,.t 25,.m] ?_;refine aO.split 37 rfl (λg12=>?_) (λg12=>?_)
    ·refine go [.t 26,.x,.t 27,.x,.N,.O 28 [] [27,25,26,24,19,23,18,7,22,17,4,6,21,16,3,2,5,20,15,13,1,14,12,0,11,10,8,9],.x,.N,.t 29,.x] ?_;refine tk 30 rfl (Qt.bj rfl g12) ?_;refine go [.Z] ?_;refine cd (λc13=>?_) λc13=>?_
     ·try simp only[ah]at c13
      have hS:=i.stop (by omega) (show(bh l) i.k=false by simp only[bh,aI,bE];grind only);refine go [.R,.a,.Z] ?_;refine aQ 2 ?_;refine rb ?_;simp only[aR];grind only
     try simp only[ah]at c13
     refine go [.J,.R1,.b,.N,.m,.Z] ?_;refine⟨⟨i.k+1,by omega,i.next (show(bh l) i.k=true by simp only[bh,aI,bE];grind only)⟩,ws,?_⟩;show l.length-(i.k+1)<l.length-i.k;omega
    refine go [.t 26,.f,.t 27,.l,.N] ?_;refine a1 28 [] [27,25,26,24,19,23,18,7,22,17,4,6,21,16,3,2,5,20,15,13,1,14,12,0,11,10,8,9] rfl (nF g12) (aE.aC rfl (by decide) call145 rfl rfl (cg _)) ?_;refine go [.N,.t 29,.n] ?_;refine tk 30 rfl (Qt.bd rfl g12) ?_;refine go [.Z] ?_;refine cd (λc14=>?_) λc14=>?_
    ·try simp only[ah]at c14
     have hS:=i.stop (by omega) (show(bh l) i.k=false by simp only[bh,aI,bE];grind only);refine go [.R,.a,.Z] ?_;refine aQ 2 ?_;refine rb ?_;simp only[aR];grind only
    try simp only[ah]at c14
    refine go [.J,.R1,.b,.N,.m,.Z] ?_;refine⟨⟨i.k+1,by omega,i.next (show(bh l) i.k=true by simp only[bh,aI,bE];grind only)⟩,ws,?_⟩;show l.length-(i.k+1)<l.length-i.k;omega
   refine go [.t 20,.f,.t 21,.l,.N,.t 22,.h,.t 23,.b] ?_;refine tk 24 rfl (Qt.bd rfl g11) ?_;refine go [.N,.t 25,.m] ?_;refine aO.split 37 rfl (λg15=>?_) (λg15=>?_)
   ·refine go [.t 26,.x,.t 27,.x,.N,.O 28 [] [27,25,26,24,19,23,18,7,22,17,4,6,21,16,3,2,5,20,15,13,1,14,12,0,11,10,8,9],.x,.N,.t 29,.x] ?_;refine tk 30 rfl (Qt.bj rfl g15) ?_;refine go [.Z] ?_;refine cd (λc16=>?_) λc16=>?_
    ·try simp only[ah]at c16
     have hS:=i.stop (by omega) (show(bh l) i.k=false by simp only[bh,aI,bE];grind only);refine go [.R,.a,.Z] ?_;refine aQ 2 ?_;refine rb ?_;simp only[aR];grind only
    try simp only[ah]at c16
    refine go [.J,.R1,.b,.N,.m,.Z] ?_;refine⟨⟨i.k+1,by omega,i.next (show(bh l) i.k=true by simp only[bh,aI,bE];grind only)⟩,ws,?_⟩;show l.length-(i.k+1)<l.length-i.k;omega
   refine go [.t 26,.f,.t 27,.l,.N] ?_;refine a1 28 [] [27,25,26,24,19,23,18,7,22,17,4,6,21,16,3,2,5,20,15,13,1,14,12,0,11,10,8,9] rfl (nF g15) (aE.aC rfl (by decide) call145 rfl rfl (cg _)) ?_;refine go [.N,.t 29,.n] ?_;refine tk 30 rfl (Qt.bd rfl g15) ?_;refine go [.Z] ?_;refine cd (λc17=>?_) λc17=>?_
   ·try simp only[ah]at c17
    have hS:=i.stop (by omega) (show(bh l) i.k=false by simp only[bh,aI,bE];grind only);refine go [.R,.a,.Z] ?_;refine aQ 2 ?_;refine rb ?_;simp only[aR];grind only
   try simp only[ah]at c17
   refine go [.J,.R1,.b,.N,.m,.Z] ?_;refine⟨⟨i.k+1,by omega,i.next (show(bh l) i.k=true by simp only[bh,aI,bE];grind only)⟩,ws,?_⟩;show l.length-(i.k+1)<l.length-i.k;omega
  refine go [.t 8,.x,.t 9,.x,.N,.t 10,.x,.t 11,.x,.t 12,.x,.N,.t 13,.x,.t 14,.x,.t 15,.x,.N,.t 16,.x] ?_;refine tg 17 rfl (nF g2) (Qt.bd rfl g10) ?_;refine tk 18 rfl (Qt.bd rfl g2) ?_;refine go [.N,.t 19,.m] ?_;refine aO.split 31 rfl (λg18=>?_) (λg18=>?_)
  ·refine go [.t 20,.x,.t 21,.x,.N,.t 22,.x,.t 23,.x] ?_;refine tk 24 rfl (Qt.bj rfl g18) ?_;refine go [.N,.t 25,.m] ?_;refine aO.split 37 rfl (λg19=>?_) (λg19=>?_)
   ·refine go [.t 26,.x,.t 27,.x,.N,.O 28 [] [27,25,26,24,19,23,18,7,22,17,4,6,21,16,3,2,5,20,15,13,1,14,12,0,11,10,8,9],.x,.N,.t 29,.x] ?_;refine tk 30 rfl (Qt.bj rfl g19) ?_;refine go [.Z] ?_;refine cd (λc20=>?_) λc20=>?_
    ·try simp only[ah]at c20
     have hS:=i.stop (by omega) (show(bh l) i.k=false by simp only[bh,aI,bE];grind only);refine go [.R,.a,.Z] ?_;refine aQ 2 ?_;refine rb ?_;simp only[aR];grind only
    try simp only[ah]at c20
    refine go [.J,.R1,.b,.N,.m,.Z] ?_;refine⟨⟨i.k+1,by omega,i.next (show(bh l) i.k=true by simp only[bh,aI,bE];grind only)⟩,ws,?_⟩;show l.length-(i.k+1)<l.length-i.k;omega
   refine go [.t 26,.f,.t 27,.l,.N] ?_;refine a1 28 [] [27,25,26,24,19,23,18,7,22,17,4,6,21,16,3,2,5,20,15,13,1,14,12,0,11,10,8,9] rfl (nF g19) (aE.aC rfl (by decide) call145 rfl rfl (cg _)) ?_;refine go [.N,.t 29,.n] ?_;refine tk 30 rfl (Qt.bd rfl g19) ?_;refine go [.Z] ?_;refine cd (λc21=>?_) λc21=>?_
   ·try simp only[ah]at c21
    have hS:=i.stop (by omega) (show(bh l) i.k=false by simp only[bh,aI,bE];grind only);refine go [.R,.a,.Z] ?_;refine aQ 2 ?_;refine rb ?_;simp only[aR];grind only
   try simp only[ah]at c21
   refine go [.J,.R1,.b,.N,.m,.Z] ?_;refine⟨⟨i.k+1,by omega,i.next (show(bh l) i.k=true by simp only[bh,aI,bE];grind only)⟩,ws,?_⟩;show l.length-(i.k+1)<l.length-i.k;omega
  refine go [.t 20,.f,.t 21,.l,.N,.t 22,.h,.t 23,.b] ?_;refine tk 24 rfl (Qt.bd rfl g18) ?_;refine go [.N,.t 25,.m] ?_;refine aO.split 37 rfl (λg22=>?_) (λg22=>?_)
  ·refine go [.t 26,.x,.t 27,.x,.N,.O 28 [] [27,25,26,24,19,23,18,7,22,17,4,6,21,16,3,2,5,20,15,13,1,14,12,0,11,10,8,9],.x,.N,.t 29,.x] ?_;refine tk 30 rfl (Qt.bj rfl g22) ?_;refine go [.Z] ?_;refine cd (λc23=>?_) λc23=>?_
   ·try simp only[ah]at c23
    have hS:=i.stop (by omega) (show(bh l) i.k=false by simp only[bh,aI,bE];grind only);refine go [.R,.a,.Z] ?_;refine aQ 2 ?_;refine rb ?_;simp only[aR];grind only
   try simp only[ah]at c23
   refine go [.J,.R1,.b,.N,.m,.Z] ?_;refine⟨⟨i.k+1,by omega,i.next (show(bh l) i.k=true by simp only[bh,aI,bE];grind only)⟩,ws,?_⟩;show l.length-(i.k+1)<l.length-i.k;omega
  refine go [.t 26,.f,.t 27,.l,.N] ?_;refine a1 28 [] [27,25,26,24,19,23,18,7,22,17,4,6,21,16,3,2,5,20,15,13,1,14,12,0,11,10,8,9] rfl (nF g22) (aE.aC rfl (by decide) call145 rfl rfl (cg _)) ?_;refine go [.N,.t 29,.n] ?_;refine tk 30 rfl (Qt.bd rfl g22) ?_;refine go [.Z] ?_;refine cd (λc24=>?_) λc24=>?_
  ·try simp only[ah]at c24
   have hS:=i.stop (by omega) (show(bh l) i.k=false by simp only[bh,aI,bE];grind only);refine go [.R,.a,.Z] ?_;refine aQ 2 ?_;refine rb ?_;simp only[aR];grind only
  try simp only[ah]at c24
  refine go [.J,.R1,.b,.N,.m,.Z] ?_;refine⟨⟨i.k+1,by omega,i.next (show(bh l) i.k=true by simp only[bh,aI,bE];grind only)⟩,ws,?_⟩;show l.length-(i.k+1)<l.length-i.k;omega
 try simp only[ah]at c1
 have hA:=i.full (by omega);refine AW.exit ?_;dsimp only[aD,au,reduceIte];refine go [.R,.m,.h,.N,.b,.a,.Z] ?_;refine aQ 2 ?_;refine rb ?_;simp only[aR];grind only
theorem cI(p:cK)(o:az):a_ prog 203 [.g [.v (iv o.Id),.v (iv o.Kind),.v (iv o.Target),.v (iv o.j3),.v (iv o.fc)],.p aa [] 2 0 0] [.rt aa .ro (tr [p])] (λy _=>y= .v (.bool (py p.Id o))):=by
 refine ob func203 ntmps203 ?_;refine go [.R,.B,.N,.a,.Z,.R,.G,.f,.N,.l] ?_;refine cv call204 rfl rfl (xH _ _) ?_;refine go [.N,.a,.Z] ?_;refine aQ 3 ?_;rfl
theorem zT{fid:FuncId}{p:az→Bool}(u0:cK)(hE:lL prog fid)(hp:∀x:az,a_ prog fid [.g [.v (iv x.Id),.v (iv x.Kind),.v (iv x.Target),.v (iv x.j3),.v (iv x.fc)],.p aa [] 2 0 0] [.rt aa .ro (tr [u0])] (λy _=>y= .v (.bool (p x))))(l:List az):a_ prog 230 [.h aa [],.f fid [.p (aa+1) [] 2 0 0]] [.rt aa .ro (tr l),.rt (aa+1) .ro (tr [u0])] (λy _=>y= .v (iv (fq p l))):=by
 refine ob func230 ntmps230 ?_;refine AW.len aa [] rfl (by simp[bT]) rfl (λhl=>?_);refine go [.R,.a,.Z,.R2,.m,.h,.N,.m,.Z] ?_;refine AW.block ?_;refine AW.aL (λi:fo p l=>[.sl 8 (.v (iv i.k)),.sl 7 (.v (iv l.length)),.sl 0 (.h aa []),.sl 1 (.f fid [.p (aa+1) [] 2 0 0]),.rt aa .ro (tr l),.rt (aa+1) .ro (tr [u0])]) (λi=>l.length-i.k) ⟨0,zero_le _,rfl⟩ (ws) ?_;intro i;have hle:=i.le;refine go [.R,.b,.Z] ?_;refine AW.seq ?_;refine cd (λc1=>?_) λc1=>?_
 ·try simp only[ah]at c1
  refine jd (AW.seq (AW.block (sr ?_)));refine go [.m,.N,.a,.Z,.R,.m,.m,.N,.m,.i,.G,.N] ?_;refine cv hE rfl rfl (a_.gy (hp (l.getD i.k En.ab)) ⟨⟨_,rfl,(cA (λc hc=>match c,hc with|0,_=>aw|1,_=>aw|c+2,hc=>absurd hc (by simp only[En.n];omega)))⟩,trivial⟩ rfl rfl rfl) ?_;refine go [.Z] ?_;refine cd (λc2=>?_) λc2=>?_
  ·try simp only[ah]at c2
   refine go [.R,.m,.N,.a,.Z] ?_;refine aQ 4 ?_;rw[cZ i En.ab (by omega) c2];rfl
  try simp only[ah]at c2
  refine go [.J,.R1,.b,.m,.Z] ?_;refine⟨⟨i.k+1,by omega,i.next En.ab (by omega) c2⟩,ws,?_⟩;show l.length-(i.k+1)<l.length-i.k;omega
 try simp only[ah]at c1
 refine AW.exit ?_;dsimp only[aD,au,reduceIte];refine go [.R,.a,.Z] ?_;refine aQ 4 ?_;rw[cC i (by omega)];rfl
theorem dL{fid:FuncId}{p:az→Bool}(u0:cK)(hE:lL prog fid)(hp:∀x:az,a_ prog fid [.g [.v (iv x.Id),.v (iv x.Kind),.v (iv x.Target),.v (iv x.j3),.v (iv x.fc)],.p aa [] 2 0 0] [.rt aa .ro (tr [u0])] (λy _=>y= .v (.bool (p x))))(l:List az):a_ prog 202 [.h aa [],.f fid [.p (aa+1) [] 2 0 0]] [.rt aa .ro (tr l),.rt (aa+1) .ro (tr [u0])] (λy _=>y= .v (.bool (l.any p))):=by
 refine ob func202 ntmps202 ?_;refine go [.R,.a,.Z,.R,.m,.m,.N] ?_;refine cv call230 rfl rfl (a_.gy (zT u0 hE hp l) ⟨⟨_,rfl,aw⟩,⟨_,rfl,(cA (λc hc=>match c,hc with|0,_=>aw|1,_=>aw|c+2,hc=>absurd hc (by simp only[En.n];omega)))⟩,trivial⟩ rfl rfl rfl) ?_;refine go [.N,.b,.a,.Z] ?_;refine aQ 4 ?_;rw[←gk];rfl
theorem rM(u:aX):a_ prog 152 [.g [.v (iv u.Next),.v (iv u.bp),.h aa [],.h (aa+1) [],.h (aa+2) [],.h (aa+3) [],.h (aa+4) [],.h (aa+5) [],.h (aa+6) []]] [.rt aa .ro (tr u.aP),.rt (aa+1) .ro (tr u.ag),.rt (aa+2) .ro (tr u.ao),.rt (aa+3) .ro (tr u.ak),.rt (aa+4) .ro (tr u.ay),.rt (aa+5) .ro (tr u.aN),.rt (aa+6) .ro (tr u.Out)] (λy _=>y= .v (.bool (mg u))):=by
 refine ob func152 ntmps152 ?_;refine AW.len (aa+3) [] rfl (by simp[bT]) rfl (λhl=>?_);refine go [.R,.B,.N,.a,.Z,.R2,.f,.l,.N,.h,.m,.Z] ?_;refine AW.block ?_;refine AW.aL (λi:q_ (aM u) u.ak.length=>[.sl 8 (.v (iv i.k)),.rt 1 .box (T.s 9 1 λk c=>([(T.v (iv u.Next),none),(T.v (iv u.bp),none),(T.j,none),(T.j,none),(T.j,none),(T.j,none),(T.j,none),(T.j,none),(T.j,none)].getD (k*9+c) (T.j,none)).fst),.al 1 2 (.h aa []),.al 1 3 (.h (aa+1) []),.al 1 4 (.h (aa+2) []),.al 1 5 (.h (aa+3) []),.al 1 6 (.h (aa+4) []),.al 1 7 (.h (aa+5) []),.al 1 8 (.h (aa+6) []),.rt aa .ro (tr u.aP),.rt (aa+1) .ro (tr u.ag),.rt (aa+2) .ro (tr u.ao),.rt (aa+3) .ro (tr u.ak),.rt (aa+4) .ro (tr u.ay),.rt (aa+5) .ro (tr u.aN),.rt (aa+6) .ro (tr u.Out),.sl 1 (.p 1 [] 9 0 0),.sl 6 (.h (aa+3) []),.sl 7 (.v (iv u.ak.length))]) (λi=>u.ak.length-i.k) ⟨0,zero_le _,λ_ h=>absurd h (not_lt_zero _)⟩ (ws) ?_;intro i;have hle:=i.le;have hTi:((i.k:Int)-1).toNat=i.k-1:=by omega
 refine go [.R,.b,.Z] ?_;refine AW.seq ?_;refine cd (λc1=>?_) λc1=>?_
 ·try simp only[ah]at c1
  refine jd (AW.seq (AW.block (sr ?_)));refine go [.m,.N,.i,.G,.A,.N,.a,.s,.Z] ?_;refine AW.seq (AW.seq ?_);refine go [.D [0,1,3,4,5,6,7,8,9,10,11,12,13,14,15,16,17,18,19,20,21,22,23,24,25,26,27,28,30,31],.t 0,.f,.N,.t 1,.l] ?_;refine a1 2 [] [1,0] rfl rfl (aE.aC rfl (by decide) call144 rfl rfl (de _ _ _)) ?_;refine go [.N,.t 3,.n,.t 4,.m] ?_;refine aO.split 17 rfl (λg2=>?_) (λg2=>?_)
  ·refine go [.t 5,.x,.N,.t 6,.x,.t 7,.x,.t 8,.x,.N,.t 9,.x,.t 10,.x,.t 11,.x,.N,.t 12,.x,.t 13,.x,.t 14,.x,.N,.t 15,.x,.t 16,.x,.t 17,.x,.N,.t 18,.x] ?_;refine tk 19 rfl (Qt.bj rfl g2) ?_;refine go [.t 20,.m,.N] ?_;refine aO.split 33 rfl (λg3=>?_) (λg3=>?_)
   ·refine go [.t 21,.x,.t 22,.x,.t 23,.x,.N,.t 24,.x] ?_;refine tk 25 rfl (Qt.bj rfl g3) ?_;refine go [.t 26,.m,.N] ?_;refine aO.split 39 rfl (λg4=>?_) (λg4=>?_)
    ·refine go [.t 27,.x,.t 28,.x,.O 29 [] [28,26,27,25,20,24,19,7,23,18,4,6,22,17,3,2,5,21,16,14,1,15,13,0,12,11,9,10,8],.x,.N,.t 30,.x] ?_;refine tk 31 rfl (Qt.bj rfl g4) ?_;refine go [.Z] ?_;refine cd (λc5=>?_) λc5=>?_
     ·try simp only[ah]at c5
      have hS:=i.stop (by omega) (show(aM u) i.k=false by simp only[aM,aI,aY];grind only);refine go [.R,.a,.Z] ?_;refine aQ 2 ?_;refine rb ?_;simp only[aH];grind only
     try simp only[ah]at c5
     refine go [.J,.R,.f,.N,.l] ?_;refine qq Qt.makeFunc ?_;refine cv call202 rfl rfl (a_.gy (dL (u.ak.getD i.k En.ab) call203 (λx=>cI (u.ak.getD i.k En.ab) x) u.ao) ⟨⟨_,rfl,aw⟩,⟨_,rfl,(cA (λc hc=>match c,hc with|0,_=>aw|1,_=>aw|c+2,hc=>absurd hc (by simp only[En.n];omega)))⟩,trivial⟩ rfl rfl rfl) ?_;refine go [.N,.n,.Z] ?_;refine cd (λc6=>?_) λc6=>?_
     ·try simp only[ah]at c6
      have hS:=i.stop (by omega) (show(aM u) i.k=false by simp only[aM,aI,aY];grind only);refine go [.R,.a,.Z] ?_;refine aQ 2 ?_;refine rb ?_;simp only[aH];grind only
     try simp only[ah]at c6
     refine go [.J,.R1,.b,.N,.m,.Z] ?_;refine⟨⟨i.k+1,by omega,i.next (show(aM u) i.k=true by simp only[aM,aI,aY];grind only)⟩,ws,?_⟩;show u.ak.length-(i.k+1)<u.ak.length-i.k;omega
    refine go [.t 27,.f,.t 28,.l,.N] ?_;refine a1 29 [] [28,26,27,25,20,24,19,7,23,18,4,6,22,17,3,2,5,21,16,14,1,15,13,0,12,11,9,10,8] rfl (nF g4) (aE.aC rfl (by decide) call145 rfl rfl (cg _)) ?_;refine go [.N,.t 30,.n] ?_;refine tk 31 rfl (Qt.bd rfl g4) ?_;refine go [.Z] ?_;refine cd (λc7=>?_) λc7=>?_
    ·try simp only[ah]at c7
     have hS:=i.stop (by omega) (show(aM u) i.k=false by simp only[aM,aI,aY];grind only);refine go [.R,.a,.Z] ?_;refine aQ 2 ?_;refine rb ?_;simp only[aH];grind only
    try simp only[ah]at c7
    refine go [.J,.R,.f,.N,.l] ?_;refine qq Qt.makeFunc ?_;refine cv call202 rfl rfl (a_.gy (dL (u.ak.getD i.k En.ab) call203 (λx=>cI (u.ak.getD i.k En.ab) x) u.ao) ⟨⟨_,rfl,aw⟩,⟨_,rfl,(cA (λc hc=>match c,hc with|0,_=>aw|1,_=>aw|c+2,hc=>absurd hc (by simp only[En.n];omega)))⟩,trivial⟩ rfl rfl rfl) ?_;refine go [.N,.n,.Z] ?_;refine cd (λc8=>?_) λc8=>?_
    ·try simp only[ah]at c8
     have hS:=i.stop (by omega) (show(aM u) i.k=false by simp only[aM,aI,aY];grind only);refine go [.R,.a,.Z] ?_;refine aQ 2 ?_;refine rb ?_;simp only[aH];grind only
    try simp only[ah]at c8
    refine go [.J,.R1,.b,.N,.m,.Z] ?_;refine⟨⟨i.k+1,by omega,i.next (show(aM u) i.k=true by simp only[aM,aI,aY];grind only)⟩,ws,?_⟩;show u.ak.length-(i.k+1)<u.ak.length-i.k;omega
   refine go [.t 21,.f,.t 22,.l,.N,.t 23,.h,.t 24,.b] ?_;refine tk 25 rfl (Qt.bd rfl g3) ?_;refine go [.N,.t 26,.m] ?_;refine aO.split 39 rfl (λg9=>?_) (λg9=>?_)
   ·refine go [.t 27,.x,.t 28,.x,.N,.O 29 [] [28,26,27,25,20,24,19,7,23,18,4,6,22,17,3,2,5,21,16,14,1,15,13,0,12,11,9,10,8],.x,.N,.t 30,.x] ?_;refine tk 31 rfl (Qt.bj rfl g9) ?_;refine go [.Z] ?_;refine cd (λc10=>?_) λc10=>?_
    ·try simp only[ah]at c10
     have hS:=i.stop (by omega) (show(aM u) i.k=false by simp only[aM,aI,aY];grind only);refine go [.R,.a,.Z] ?_;refine aQ 2 ?_;refine rb ?_;simp only[aH];grind only
    try simp only[ah]at c10
    refine go [.J,.R,.f,.N,.l] ?_;refine qq Qt.makeFunc ?_;refine cv call202 rfl rfl (a_.gy (dL (u.ak.getD i.k En.ab) call203 (λx=>cI (u.ak.getD i.k En.ab) x) u.ao) ⟨⟨_,rfl,aw⟩,⟨_,rfl,(cA (λc hc=>match c,hc with|0,_=>aw|1,_=>aw|c+2,hc=>absurd hc (by simp only[En.n];omega)))⟩,trivial⟩ rfl rfl rfl) ?_;refine go [.N,.n,.Z] ?_;refine cd (λc11=>?_) λc11=>?_
    ·try simp only[ah]at c11
     have hS:=i.stop (by omega) (show(aM u) i.k=false by simp only[aM,aI,aY];grind only);refine go [.R,.a,.Z] ?_;refine aQ 2 ?_;refine rb ?_;simp only[aH];grind only
    try simp only[ah]at c11
    refine go [.J,.R1,.b,.N,.m,.Z] ?_;refine⟨⟨i.k+1,by omega,i.next (show(aM u) i.k=true by simp only[aM,aI,aY];grind only)⟩,ws,?_⟩;show u.ak.length-(i.k+1)<u.ak.length-i.k;omega
   refine go [.t 27,.f,.t 28,.l,.N] ?_;refine a1 29 [] [28,26,27,25,20,24,19,7,23,18,4,6,22,17,3,2,5,21,16,14,1,15,13,0,12,11,9,10,8] rfl (nF g9) (aE.aC rfl (by decide) call145 rfl rfl (cg _)) ?_;refine go [.N,.t 30,.n] ?_;refine tk 31 rfl (Qt.bd rfl g9) ?_;refine go [.Z] ?_;refine cd (λc12=>?_) λc12=>?_
   ·try simp only[ah]at c12
    have hS:=i.stop (by omega) (show(aM u) i.k=false by simp only[aM,aI,aY];grind only);refine go [.R,.a,.Z] ?_;refine aQ 2 ?_;refine rb ?_;simp only[aH];grind only
   try simp only[ah]at c12
   refine go [.J,.R,.f,.N,.l] ?_;refine qq Qt.makeFunc ?_;refine cv call202 rfl rfl (a_.gy (dL (u.ak.getD i.k En.ab) call203 (λx=>cI (u.ak.getD i.k En.ab) x) u.ao) ⟨⟨_,rfl,aw⟩,⟨_,rfl,(cA (λc hc=>match c,hc with|0,_=>aw|1,_=>aw|c+2,hc=>absurd hc (by simp only[En.n];omega)))⟩,trivial⟩ rfl rfl rfl) ?_;refine go [.N,.n,.Z] ?_;refine cd (λc13=>?_) λc13=>?_
   ·try simp only[ah]at c13
    have hS:=i.stop (by omega) (show(aM u) i.k=false by simp only[aM,aI,aY];grind only);refine go [.R,.a,.Z] ?_;refine aQ 2 ?_;refine rb ?_;simp only[aH];grind only
   try simp only[ah]at c13
   refine go [.J,.R1,.b,.N,.m,.Z] ?_;refine⟨⟨i.k+1,by omega,i.next (show(aM u) i.k=true by simp only[aM,aI,aY];grind only)⟩,ws,?_⟩;show u.ak.length-(i.k+1)<u.ak.length-i.k;omega
  refine go [.t 5,.m,.t 6,.b,.N,.t 7,.m] ?_;refine aO.split 20 rfl (λg14=>?_) (λg14=>?_)
  ·refine go [.t 8,.f,.t 9,.l,.N,.t 10,.m,.t 11,.b,.t 12,.i,.N,.t 13,.f,.t 14,.l,.t 15,.f,.N,.t 16,.l,.t 17,.b] ?_;refine tg 18 rfl (nF g2) (Qt.bj rfl g14) ?_;refine go [.N] ?_;refine tk 19 rfl (Qt.bd rfl g2) ?_;refine go [.t 20,.m] ?_;refine aO.split 33 rfl (λg15=>?_) (λg15=>?_)
   ·refine go [.t 21,.x,.N,.t 22,.x,.t 23,.x,.t 24,.x,.N] ?_;refine tk 25 rfl (Qt.bj rfl g15) ?_;refine go [.t 26,.m] ?_;refine aO.split 39 rfl (λg16=>?_) (λg16=>?_)
    ·refine go [.t 27,.x,.N,.t 28,.x,.O 29 [] [28,26,27,25,20,24,19,7,23,18,4,6,22,17,3,2,5,21,16,14,1,15,13,0,12,11,9,10,8],.x,.N,.t 30,.x] ?_;refine tk 31 rfl (Qt.bj rfl g16) ?_;refine go [.Z] ?_;refine cd (λc17=>?_) λc17=>?_
     ·try simp only[ah]at c17
      have hS:=i.stop (by omega) (show(aM u) i.k=false by simp only[aM,aI,aY];grind only);refine go [.R,.a,.Z] ?_;refine aQ 2 ?_;refine rb ?_;simp only[aH];grind only
     try simp only[ah]at c17
     refine go [.J,.R,.f,.N,.l] ?_;refine qq Qt.makeFunc ?_;refine cv call202 rfl rfl (a_.gy (dL (u.ak.getD i.k En.ab) call203 (λx=>cI (u.ak.getD i.k En.ab) x) u.ao) ⟨⟨_,rfl,aw⟩,⟨_,rfl,(cA (λc hc=>match c,hc with|0,_=>aw|1,_=>aw|c+2,hc=>absurd hc (by simp only[En.n];omega)))⟩,trivial⟩ rfl rfl rfl) ?_;refine go [.N,.n,.Z] ?_;refine cd (λc18=>?_) λc18=>?_
     ·try simp only[ah]at c18
      have hS:=i.stop (by omega) (show(aM u) i.k=false by simp only[aM,aI,aY];grind only);refine go [.R,.a,.Z] ?_;refine aQ 2 ?_;refine rb ?_;simp only[aH];grind only
     try simp only[ah]at c18
     refine go [.J,.R1,.b,.N,.m,.Z] ?_;refine⟨⟨i.k+1,by omega,i.next (show(aM u) i.k=true by simp only[aM,aI,aY];grind only)⟩,ws,?_⟩;show u.ak.length-(i.k+1)<u.ak.length-i.k;omega
    refine go [.t 27,.f,.t 28,.l,.N] ?_;refine a1 29 [] [28,26,27,25,20,24,19,7,23,18,4,6,22,17,3,2,5,21,16,14,1,15,13,0,12,11,9,10,8] rfl (nF g16) (aE.aC rfl (by decide) call145 rfl rfl (cg _)) ?_;refine go [.N,.t 30,.n] ?_;refine tk 31 rfl (Qt.bd rfl g16) ?_;refine go [.Z] ?_;refine cd (λc19=>?_) λc19=>?_
    ·try simp only[ah]at c19
     have hS:=i.stop (by omega) (show(aM u) i.k=false by simp only[aM,aI,aY];grind only);refine go [.R,.a,.Z] ?_;refine aQ 2 ?_;refine rb ?_;simp only[aH];grind only
    try simp only[ah]at c19
    refine go [.J,.R,.f,.N,.l] ?_;refine qq Qt.makeFunc ?_;refine cv call202 rfl rfl (a_.gy (dL (u.ak.getD i.k En.ab) call203 (λx=>cI (u.ak.getD i.k En.ab) x) u.ao) ⟨⟨_,rfl,aw⟩,⟨_,rfl,(cA (λc hc=>match c,hc with|0,_=>aw|1,_=>aw|c+2,hc=>absurd hc (by simp only[En.n];omega)))⟩,trivial⟩ rfl rfl rfl) ?_;refine go [.N,.n,.Z] ?_;refine cd (λc20=>?_) λc20=>?_
    ·try simp only[ah]at c20
     have hS:=i.stop (by omega) (show(aM u) i.k=false by simp only[aM,aI,aY];grind only);refine go [.R,.a,.Z] ?_;refine aQ 2 ?_;refine rb ?_;simp only[aH];grind only
    try simp only[ah]at c20
    refine go [.J,.R1,.b,.N,.m,.Z] ?_;refine⟨⟨i.k+1,by omega,i.next (show(aM u) i.k=true by simp only[aM,aI,aY];grind only)⟩,ws,?_⟩;show u.ak.length-(i.k+1)<u.ak.length-i.k;omega
   refine go [.t 21,.f,.t 22,.l,.N,.t 23,.h,.t 24,.b] ?_;refine tk 25 rfl (Qt.bd rfl g15) ?_;refine go [.N,.t 26,.m] ?_;refine aO.split 39 rfl (λg21=>?_) (λg21=>?_)
   ·refine go [.t 27,.x,.t 28,.x,.N,.O 29 [] [28,26,27,25,20,24,19,7,23,18,4,6,22,17,3,2,5,21,16,14,1,15,13,0,12,11,9,10,8],.x,.N,.t 30,.x] ?_;refine tk 31 rfl (Qt.bj rfl g21) ?_;refine go [.Z] ?_;refine cd (λc22=>?_) λc22=>?_
    ·try simp only[ah]at c22
     have hS:=i.stop (by omega) (show(aM u) i.k=false by simp only[aM,aI,aY];grind only);refine go [.R,.a,.Z] ?_;refine aQ 2 ?_;refine rb ?_;simp only[aH];grind only
    try simp only[ah]at c22
    refine go [.J,.R,.f,.N,.l] ?_;refine qq Qt.makeFunc ?_;refine cv call202 rfl rfl (a_.gy (dL (u.ak.getD i.k En.ab) call203 (λx=>cI (u.ak.getD i.k En.ab) x) u.ao) ⟨⟨_,rfl,aw⟩,⟨_,rfl,(cA (λc hc=>match c,hc with|0,_=>aw|1,_=>aw|c+2,hc=>absurd hc (by simp only[En.n];omega)))⟩,trivial⟩ rfl rfl rfl) ?_;refine go [.N,.n,.Z] ?_;refine cd (λc23=>?_) λc23=>?_
    ·try simp only[ah]at c23
     have hS:=i.stop (by omega) (show(aM u) i.k=false by simp only[aM,aI,aY];grind only);refine go [.R,.a,.Z] ?_;refine aQ 2 ?_;refine rb ?_;simp only[aH];grind only
    try simp only[ah]at c23
    refine go [.J,.R1,.b,.N,.m,.Z] ?_;refine⟨⟨i.k+1,by omega,i.next (show(aM u) i.k=true by simp only[aM,aI,aY];grind only)⟩,ws,?_⟩;show u.ak.length-(i.k+1)<u.ak.length-i.k;omega
   refine go [.t 27,.f,.t 28,.l,.N] ?_;refine a1 29 [] [28,26,27,25,20,24,19,7,23,18,4,6,22,17,3,2,5,21,16,14,1,15,13,0,12,11,9,10,8] rfl (nF g21) (aE.aC rfl (by decide) call145 rfl rfl (cg _)) ?_;refine go [.N,.t 30,.n] ?_;refine tk 31 rfl (Qt.bd rfl g21) ?_;refine go [.Z] ?_;refine cd (λc24=>?_) λc24=>?_
   ·try simp only[ah]at c24
    have hS:=i.stop (by omega) (show(aM u) i.k=false by simp only[aM,aI,aY];grind only);refine go [.R,.a,.Z] ?_;refine aQ 2 ?_;refine rb ?_;simp only[aH];grind only
   try simp only[ah]at c24
   refine go [.J,.R,.f,.N,.l] ?_;refine qq Qt.makeFunc ?_;refine cv call202 rfl rfl (a_.gy (dL (u.ak.getD i.k En.ab) call203 (λx=>cI (u.ak.getD i.k En.ab) x) u.ao) ⟨⟨_,rfl,aw⟩,⟨_,rfl,(cA (λc hc=>match c,hc with|0,_=>aw|1,_=>aw|c+2,hc=>absurd hc (by simp only[En.n];omega)))⟩,trivial⟩ rfl rfl rfl) ?_;refine go [.N,.n,.Z] ?_;refine cd (λc25=>?_) λc25=>?_
   ·try simp only[ah]at c25
    have hS:=i.stop (by omega) (show(aM u) i.k=false by simp only[aM,aI,aY];grind only);refine go [.R,.a,.Z] ?_;refine aQ 2 ?_;refine rb ?_;simp only[aH];grind only
   try simp only[ah]at c25
   refine go [.J,.R1,.b,.N,.m,.Z] ?_;refine⟨⟨i.k+1,by omega,i.next (show(aM u) i.k=true by simp only[aM,aI,aY];grind only)⟩,ws,?_⟩;show u.ak.length-(i.k+1)<u.ak.length-i.k;omega
  refine go [.t 8,.x,.t 9,.x,.N,.t 10,.x,.t 11,.x,.t 12,.x,.N,.t 13,.x,.t 14,.x,.t 15,.x,.N,.t 16,.x,.t 17,.x] ?_;refine tg 18 rfl (nF g2) (Qt.bd rfl g14) ?_;refine go [.N] ?_;refine tk 19 rfl (Qt.bd rfl g2) ?_;refine go [.t 20,.m] ?_;refine aO.split 33 rfl (λg26=>?_) (λg26=>?_)
  ·refine go [.t 21,.x,.N,.t 22,.x,.t 23,.x,.t 24,.x,.N] ?_;refine tk 25 rfl (Qt.bj rfl g26) ?_;refine go [.t 26,.m] ?_;refine aO.split 39 rfl (λg27=>?_) (λg27=>?_)
   ·refine go [.t 27,.x,.N,.t 28,.x,.O 29 [] [28,26,27,25,20,24,19,7,23,18,4,6,22,17,3,2,5,21,16,14,1,15,13,0,12,11,9,10,8],.x,.N,.t 30,.x] ?_;refine tk 31 rfl (Qt.bj rfl g27) ?_;refine go [.Z] ?_;refine cd (λc28=>?_) λc28=>?_
    ·try simp only[ah]at c28
     have hS:=i.stop (by omega) (show(aM u) i.k=false by simp only[aM,aI,aY];grind only);refine go [.R,.a,.Z] ?_;refine aQ 2 ?_;refine rb ?_;simp only[aH];grind only
    try simp only[ah]at c28
    refine go [.J,.R,.f,.N,.l] ?_;refine qq Qt.makeFunc ?_;refine cv call202 rfl rfl (a_.gy (dL (u.ak.getD i.k En.ab) call203 (λx=>cI (u.ak.getD i.k En.ab) x) u.ao) ⟨⟨_,rfl,aw⟩,⟨_,rfl,(cA (λc hc=>match c,hc with|0,_=>aw|1,_=>aw|c+2,hc=>absurd hc (by simp only[En.n];omega)))⟩,trivial⟩ rfl rfl rfl) ?_;refine go [.N,.n,.Z] ?_;refine cd (λc29=>?_) λc29=>?_
    ·try simp only[ah]at c29
     have hS:=i.stop (by omega) (show(aM u) i.k=false by simp only[aM,aI,aY];grind only);refine go [.R,.a,.Z] ?_;refine aQ 2 ?_;refine rb ?_;simp only[aH];grind only
    try simp only[ah]at c29
    refine go [.J,.R1,.b,.N,.m,.Z] ?_;refine⟨⟨i.k+1,by omega,i.next (show(aM u) i.k=true by simp only[aM,aI,aY];grind only)⟩,ws,?_⟩;show u.ak.length-(i.k+1)<u.ak.length-i.k;omega
   refine go [.t 27,.f,.t 28,.l,.N] ?_;refine a1 29 [] [28,26,27,25,20,24,19,7,23,18,4,6,22,17,3,2,5,21,16,14,1,15,13,0,12,11,9,10,8] rfl (nF g27) (aE.aC rfl (by decide) call145 rfl rfl (cg _)) ?_;refine go [.N,.t 30,.n] ?_;refine tk 31 rfl (Qt.bd rfl g27) ?_;refine go [.Z] ?_;refine cd (λc30=>?_) λc30=>?_
   ·try simp only[ah]at c30
    have hS:=i.stop (by omega) (show(aM u) i.k=false by simp only[aM,aI,aY];grind only);refine go [.R,.a,.Z] ?_;refine aQ 2 ?_;refine rb ?_;simp only[aH];grind only
   try simp only[ah]at c30
   refine go [.J,.R,.f,.N,.l] ?_;refine qq Qt.makeFunc ?_;refine cv call202 rfl rfl (a_.gy (dL (u.ak.getD i.k En.ab) call203 (λx=>cI (u.ak.getD i.k En.ab) x) u.ao) ⟨⟨_,rfl,aw⟩,⟨_,rfl,(cA (λc hc=>match c,hc with|0,_=>aw|1,_=>aw|c+2,hc=>absurd hc (by simp only[En.n];omega)))⟩,trivial⟩ rfl rfl rfl) ?_;refine go [.N,.n,.Z] ?_;refine cd (λc31=>?_) λc31=>?_
   ·try simp only[ah]at c31
    have hS:=i.stop (by omega) (show(aM u) i.k=false by simp only[aM,aI,aY];grind only);refine go [.R,.a,.Z] ?_;refine aQ 2 ?_;refine rb ?_;simp only[aH];grind only
   try simp only[ah]at c31
   refine go [.J,.R1,.b,.N,.m,.Z] ?_;refine⟨⟨i.k+1,by omega,i.next (show(aM u) i.k=true by simp only[aM,aI,aY];grind only)⟩,ws,?_⟩;show u.ak.length-(i.k+1)<u.ak.length-i.k;omega
  refine go [.t 21,.f,.t 22,.l,.N,.t 23,.h,.t 24,.b] ?_;refine tk 25 rfl (Qt.bd rfl g26) ?_;refine go [.N,.t 26,.m] ?_;refine aO.split 39 rfl (λg32=>?_) (λg32=>?_)
  ·refine go [.t 27,.x,.t 28,.x,.N,.O 29 [] [28,26,27,25,20,24,19,7,23,18,4,6,22,17,3,2,5,21,16,14,1,15,13,0,12,11,9,10,8],.x,.N,.t 30,.x] ?_;refine tk 31 rfl (Qt.bj rfl g32) ?_;refine go [.Z] ?_;refine cd (λc33=>?_) λc33=>?_
   ·try simp only[ah]at c33
    have hS:=i.stop (by omega) (show(aM u) i.k=false by simp only[aM,aI,aY];grind only);refine go [.R,.a,.Z] ?_;refine aQ 2 ?_;refine rb ?_;simp only[aH];grind only
   try simp only[ah]at c33
   refine go [.J,.R,.f,.N,.l] ?_;refine qq Qt.makeFunc ?_;refine cv call202 rfl rfl (a_.gy (dL (u.ak.getD i.k En.ab) call203 (λx=>cI (u.ak.getD i.k En.ab) x) u.ao) ⟨⟨_,rfl,aw⟩,⟨_,rfl,(cA (λc hc=>match c,hc with|0,_=>aw|1,_=>aw|c+2,hc=>absurd hc (by simp only[En.n];omega)))⟩,trivial⟩ rfl rfl rfl) ?_;refine go [.N,.n,.Z] ?_;refine cd (λc34=>?_) λc34=>?_
   ·try simp only[ah]at c34
    have hS:=i.stop (by omega) (show(aM u) i.k=false by simp only[aM,aI,aY];grind only);refine go [.R,.a,.Z] ?_;refine aQ 2 ?_;refine rb ?_;simp only[aH];grind only
   try simp only[ah]at c34
   refine go [.J,.R1,.b,.N,.m,.Z] ?_;refine⟨⟨i.k+1,by omega,i.next (show(aM u) i.k=true by simp only[aM,aI,aY];grind only)⟩,ws,?_⟩;show u.ak.length-(i.k+1)<u.ak.length-i.k;omega
  refine go [.t 27,.f,.t 28,.l,.N] ?_;refine a1 29 [] [28,26,27,25,20,24,19,7,23,18,4,6,22,17,3,2,5,21,16,14,1,15,13,0,12,11,9,10,8] rfl (nF g32) (aE.aC rfl (by decide) call145 rfl rfl (cg _)) ?_;refine go [.N,.t 30,.n] ?_;refine tk 31 rfl (Qt.bd rfl g32) ?_;refine go [.Z] ?_;refine cd (λc35=>?_) λc35=>?_
  ·try simp only[ah]at c35
   have hS:=i.stop (by omega) (show(aM u) i.k=false by simp only[aM,aI,aY];grind only);refine go [.R,.a,.Z] ?_;refine aQ 2 ?_;refine rb ?_;simp only[aH];grind only
  try simp only[ah]at c35
  refine go [.J,.R,.f,.N,.l] ?_;refine qq Qt.makeFunc ?_;refine cv call202 rfl rfl (a_.gy (dL (u.ak.getD i.k En.ab) call203 (λx=>cI (u.ak.getD i.k En.ab) x) u.ao) ⟨⟨_,rfl,aw⟩,⟨_,rfl,(cA (λc hc=>match c,hc with|0,_=>aw|1,_=>aw|c+2,hc=>absurd hc (by simp only[En.n];omega)))⟩,trivial⟩ rfl rfl rfl) ?_;refine go [.N,.n,.Z] ?_;refine cd (λc36=>?_) λc36=>?_
  ·try simp only[ah]at c36
   have hS:=i.stop (by omega) (show(aM u) i.k=false by simp only[aM,aI,aY];grind only);refine go [.R,.a,.Z] ?_;refine aQ 2 ?_;refine rb ?_;simp only[aH];grind only
  try simp only[ah]at c36
  refine go [.J,.R1,.b,.N,.m,.Z] ?_;refine⟨⟨i.k+1,by omega,i.next (show(aM u) i.k=true by simp only[aM,aI,aY];grind only)⟩,ws,?_⟩;show u.ak.length-(i.k+1)<u.ak.length-i.k;omega
 try simp only[ah]at c1
 have hA:=i.full (by omega);refine AW.exit ?_;dsimp only[aD,au,reduceIte];refine go [.R,.f,.l,.N,.h,.b,.a,.Z] ?_;refine aQ 2 ?_;refine rb ?_;simp only[aH];grind only
end Go.Proofs.YtekcnnngjoonbaaGreat.VM

