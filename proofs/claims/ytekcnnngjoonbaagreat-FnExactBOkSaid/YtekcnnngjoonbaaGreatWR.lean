/- Contracts. No conditions. -/
import Derived.Test.YtekcnnngjoonbaaGreatWQ
set_option linter.all false
set_option maxHeartbeats 8000000
set_option maxRecDepth 10000
namespace Go.Proofs.YtekcnnngjoonbaaGreat.VM
open List Nat
open Go Go.RowKit Go.Proofs
theorem mV(u:bt)(id:Int)(hb:jw u):bf Tryz.prog 199 [.g [.v (iv u.Next), .v (iv u.bF), .h aa [], .h (aa+1) [], .h (aa+2) [], .h (aa+3) [], .h (aa+4) [], .h (aa+5) [], .h (aa+6) []], .v (iv id)] [.rt aa .ro (tr u.aV), .rt (aa+1) .ro (tr u.ah), .rt (aa+2) .ro (tr u.ax), .rt (aa+3) .ro (tr u.ao), .rt (aa+4) .ro (tr u.aC), .rt (aa+5) .ro (tr u.aR), .rt (aa+6) .ro (tr u.Out)] (λy _=>y= .v (iv (kr u id:Nat))):=by
 refine ob Tryz.func199 Tryz.ntmps199 ?_;refine AW.len (aa+1) [] rfl (by simp[ck]) rfl (λhl=>?_);have hrb:=pE hb id;refine go [.R,.B,.N,.a,.Z,.R,.a,.Z,.R2,.f,.N,.l,.h,.m,.Z] (k:=?_);refine AW.block ?_;refine AW.bw (λi:ei u.ah.length=>[.sl 13 (.v (iv i.k)), .sl 5 (.v (iv (gP u id i.k:Nat))), .sl 1 (.v (iv id)), .sl 11 (.h (aa+1) []), .sl 12 (.v (iv u.ah.length)), .rt aa .ro (tr u.aV), .rt (aa+1) .ro (tr u.ah), .rt (aa+2) .ro (tr u.ax), .rt (aa+3) .ro (tr u.ao), .rt (aa+4) .ro (tr u.aC), .rt (aa+5) .ro (tr u.aR), .rt (aa+6) .ro (tr u.Out)]) (λi=>u.ah.length-i.k) ⟨0,zero_le _⟩ (ws) ?_;intro i;have hle:=i.le;have hm1:i.k<u.ah.length→gP u id (i.k+1)≤kr u id:=λh=>dQ (by omega);have hs1:gP u id (i.k+1)=gP u id i.k+gm id (u.ah.getD i.k En.ab).cV (u.ah.getD i.k En.ab).cV.length:=rfl;refine go [.R,.b,.Z] (k:=?_);refine AW.seq ?_;refine cd (λc1=>?_) λc1=>?_
 ·try simp only[ai]at c1
  refine jd (AW.seq (AW.block (sr ?_)));refine go [.i,.N,.G,.A,.N,.s,.Z,.R,.f,.N,.l,.h,.m,.Z] (k:=?_);refine AW.block ?_;refine AW.bw (λj:ei (u.ah.getD i.k En.ab).cV.length=>[.sl 20 (.v (iv j.k)), .sl 13 (.v (iv i.k)), .sl 5 (.v (iv (gP u id i.k+gm id (u.ah.getD i.k En.ab).cV j.k:Nat))), .sl 18 (.h (aa+1) [(10,i.k,7)]), .sl 19 (.v (iv (u.ah.getD i.k En.ab).cV.length)), .sl 1 (.v (iv id)), .sl 11 (.h (aa+1) []), .sl 12 (.v (iv u.ah.length)), .rt aa .ro (tr u.aV), .rt (aa+1) .ro (tr u.ah), .rt (aa+2) .ro (tr u.ax), .rt (aa+3) .ro (tr u.ao), .rt (aa+4) .ro (tr u.aC), .rt (aa+5) .ro (tr u.aR), .rt (aa+6) .ro (tr u.Out)]) (λj=>(u.ah.getD i.k En.ab).cV.length-j.k) ⟨0,zero_le _⟩ (ws) ?_;intro j;have hlej:=j.le;have hm2:j.k<(u.ah.getD i.k En.ab).cV.length→gm id (u.ah.getD i.k En.ab).cV (j.k+1)≤gm id (u.ah.getD i.k En.ab).cV (u.ah.getD i.k En.ab).cV.length:=λh=>dQ (by omega);have hs2:gm id (u.ah.getD i.k En.ab).cV (j.k+1)=gm id (u.ah.getD i.k En.ab).cV j.k+(if(u.ah.getD i.k En.ab).cV.getD j.k En.ab=id then 1 else 0):=rfl;refine AW.len (aa+1) [(10,i.k,7)] rfl (by refine⟨rfl,?_,by decide,trivial⟩;show i.k<u.ah.length;omega) rfl (λhl2=>?_);refine go [.R,.b,.Z] (k:=?_);refine AW.seq ?_;refine cd (λc2=>?_) λc2=>?_
  ·try simp only[ai]at c2
   refine jd (AW.seq (AW.block (sr ?_)));refine go [.i,.N,.l,.a,.Z,.R,.m,.N,.m,.b,.Z] (k:=?_);refine cd (λc3=>?_) λc3=>?_
   ·try simp only[ai]at c3
    refine go [.R1,.m,.N,.b,.a,.Z,.R1,.b,.N,.m,.Z] (k:=?_);refine⟨⟨j.k+1,by omega⟩,ar.aZ ⟨fe,rfl,by simp only[aA,reduceIte,Nat.reduceEqDiff];congr 2;rw[hs2];grind only,rfl,rfl,rfl,rfl,rfl,Rf rfl,Rf rfl,Rf rfl,Rf rfl,Rf rfl,Rf rfl,Rf rfl,trivial⟩ rfl rfl,?_⟩;show(u.ah.getD i.k En.ab).cV.length-(j.k+1)<(u.ah.getD i.k En.ab).cV.length-j.k;omega
   try simp only[ai]at c3
   refine go [.J,.R1,.b,.m,.Z] (k:=?_);refine⟨⟨j.k+1,by omega⟩,ar.aZ ⟨fe,rfl,by simp only[aA,reduceIte,Nat.reduceEqDiff];congr 2;rw[hs2];grind only,rfl,rfl,rfl,rfl,rfl,Rf rfl,Rf rfl,Rf rfl,Rf rfl,Rf rfl,Rf rfl,Rf rfl,trivial⟩ rfl rfl,?_⟩;show(u.ah.getD i.k En.ab).cV.length-(j.k+1)<(u.ah.getD i.k En.ab).cV.length-j.k;omega
  try simp only[ai]at c2
  refine AW.exit ?_;dsimp only[aJ,ay,reduceIte];refine go [.R1,.b,.N,.m,.Z] (k:=?_);refine⟨⟨i.k+1,by omega⟩,ar.aZ ⟨fe,by simp only[aA,reduceIte,Nat.reduceEqDiff];congr 2;rw[hs1,←(congrArg (gm id (u.ah.getD i.k En.ab).cV) (show j.k=(u.ah.getD i.k En.ab).cV.length by omega))],rfl,rfl,rfl,Rf rfl,Rf rfl,Rf rfl,Rf rfl,Rf rfl,Rf rfl,Rf rfl,trivial⟩ rfl rfl,?_⟩;show u.ah.length-(i.k+1)<u.ah.length-i.k;omega
 try simp only[ai]at c1
 refine AW.exit ?_;dsimp only[aJ,ay,reduceIte];refine go [.R,.m,.a,.Z] (k:=?_);refine aM 4 ?_;rw[show gP u id i.k=kr u id from congrArg (gP u id) (show i.k=u.ah.length by omega)];rfl
theorem ug(u:bt)(hb:jw u):bf Tryz.prog 151 [.g [.v (iv u.Next), .v (iv u.bF), .h aa [], .h (aa+1) [], .h (aa+2) [], .h (aa+3) [], .h (aa+4) [], .h (aa+5) [], .h (aa+6) []]] [.rt aa .ro (tr u.aV), .rt (aa+1) .ro (tr u.ah), .rt (aa+2) .ro (tr u.ax), .rt (aa+3) .ro (tr u.ao), .rt (aa+4) .ro (tr u.aC), .rt (aa+5) .ro (tr u.aR), .rt (aa+6) .ro (tr u.Out)] (λy _=>y= .v (iv (nJ u.ah u.ah.length:Nat))):=by
 refine ob Tryz.func151 Tryz.ntmps151 ?_;refine AW.len (aa+1) [] rfl (by simp[ck]) rfl (λhl=>?_);have hmb:=hb.mem;refine go [.R,.B,.N,.a,.Z,.R,.a,.Z,.R2,.f,.N,.l,.h,.m,.Z] (k:=?_);refine AW.block ?_;refine AW.bw (λi:ei u.ah.length=>[.sl 9 (.v (iv i.k)), .sl 3 (.v (iv (nJ u.ah i.k:Nat))), .sl 7 (.h (aa+1) []), .sl 8 (.v (iv u.ah.length)), .rt aa .ro (tr u.aV), .rt (aa+1) .ro (tr u.ah), .rt (aa+2) .ro (tr u.ax), .rt (aa+3) .ro (tr u.ao), .rt (aa+4) .ro (tr u.aC), .rt (aa+5) .ro (tr u.aR), .rt (aa+6) .ro (tr u.Out)]) (λi=>u.ah.length-i.k) ⟨0,zero_le _⟩ (ws) ?_;intro i;have hle:=i.le;have hm1:i.k<u.ah.length→nJ u.ah (i.k+1)≤nJ u.ah u.ah.length:=λh=>dQ (by omega);have hs1:nJ u.ah (i.k+1)=nJ u.ah i.k+(u.ah.getD i.k En.ab).Mem.length:=rfl;refine go [.R,.b,.Z] (k:=?_);refine AW.seq ?_;refine cd (λc1=>?_) λc1=>?_
 ·try simp only[ai]at c1
  refine jd (AW.seq (AW.block (sr ?_)));refine go [.i,.N,.G,.A,.N,.s,.Z,.R1,.m,.N,.f,.l,.h,.N,.b,.a,.Z,.R1,.b,.N,.m,.Z] (k:=?_);refine⟨⟨i.k+1,by omega⟩,ar.aZ ⟨fe,by simp only[aA,reduceIte,Nat.reduceEqDiff];congr 2;first|done|(rw[hs1];grind only),rfl,rfl,Rf rfl,Rf rfl,Rf rfl,Rf rfl,Rf rfl,Rf rfl,Rf rfl,trivial⟩ rfl rfl,?_⟩;show u.ah.length-(i.k+1)<u.ah.length-i.k;omega
 try simp only[ai]at c1
 refine AW.exit ?_;dsimp only[aJ,ay,reduceIte];refine go [.R,.m,.a,.Z] (k:=?_);refine aM 2 ?_;rw[show i.k=u.ah.length by omega];rfl
theorem od(u:bt)(o:aw)(hb:jw u):bf Tryz.prog 150 [.g [.v (iv u.Next), .v (iv u.bF), .h aa [], .h (aa+1) [], .h (aa+2) [], .h (aa+3) [], .h (aa+4) [], .h (aa+5) [], .h (aa+6) []], .g [.v (iv o.Id), .v (iv o.Kind), .v (iv o.Target), .v (iv o.mi), .v (iv o.gK)]] [.rt aa .ro (tr u.aV), .rt (aa+1) .ro (tr u.ah), .rt (aa+2) .ro (tr u.ax), .rt (aa+3) .ro (tr u.ao), .rt (aa+4) .ro (tr u.aC), .rt (aa+5) .ro (tr u.aR), .rt (aa+6) .ro (tr u.Out)] (λy _=>y= .v (.bool (cb u o))):=by
 refine ob Tryz.func150 Tryz.ntmps150 ?_;have hfb:kq u o.Target<u.aC.length:=(ny _ _).2;refine go [.R,.B,.N,.B,.N,.a,.Z] (k:=?_);refine AW.seq (AW.seq ?_);refine go [.D [0,1,3,4,5,6,7,8,9,10,11,12,13,14,16,17],.t 0,.f,.t 1,.l,.N] (k:=?_);refine a1 2 [] [1,0] rfl rfl (aK.aL rfl (by decide) Tryz.call144 rfl rfl (dW _ _ _)) ?_;refine go [.N,.t 3,.n,.t 4,.m] (k:=?_);refine aQ.split 10 rfl (λg1=>?_) (λg1=>?_)
 ·refine go [.t 5,.x,.N,.t 6,.x,.t 7,.x] (k:=?_);refine tk 8 rfl (Qt.bl rfl g1) ?_;refine go [.N,.t 9,.m] (k:=?_);refine aQ.split 15 rfl (λg2=>?_) (λg2=>?_)
  ·refine go [.t 10,.x,.t 11,.x,.N,.t 12,.x,.t 13,.x,.t 14,.x,.N,.O 15 [10,11] [14,12,9,13,8,4,7,3,2,6,1,5,0],.x,.N,.g,.x,.g,.x,.N,.t 16,.x] (k:=?_);refine tk 17 rfl (Qt.bl rfl g2) ?_;refine go [.Z] (k:=?_);refine cd (λc3=>?_) λc3=>?_
   ·try simp only[ai]at c3
    refine go [.R,.a,.Z] (k:=?_);refine aM 4 ?_;refine rb ?_;simp only[cb];grind only
   try simp only[ai]at c3
   refine jd (bP ?_);refine go [.f,.N,.l,.Z] (k:=?_);refine AW.block (sr ?_);refine go [.b,.a,.Z] (k:=?_);refine cd (λc4=>?_) λc4=>?_
   ·try simp only[ai]at c4
    refine go [.R,.f,.N,.l,.b,.m,.N] (k:=?_);apply az.cut 3
    ·intro Kg5;refine az.split 31 rfl (λg5=>?_) (λg5=>?_)
     ·refine go [.f,.l,.b,.N] (k:=?_);exact bZ 34 [32,33,34] (b6 g5 _ undef) Kg5
     ·refine go [.x,.x,.x] (k:=?_);exact bX 34 [32,33,34] (bY g5 undef _) Kg5
    refine qq (Qt.aD rfl rfl rfl) ?_;refine go [.a,.Z] (k:=?_);refine aM 4 ?_;refine rb ?_;simp only[cb];grind only
   try simp only[ai]at c4
   refine go [.R,.b,.N,.a,.Z] (k:=?_);refine cd (λc6=>?_) λc6=>?_
   ·try simp only[ai]at c6
    refine go [.R,.G,.f,.N,.l] (k:=?_);refine cv Tryz.call200 rfl rfl (iX u _) ?_;refine go [.N,.a,.Z] (k:=?_);refine AW.seq ?_;refine go [.D [0,1,2,3,4,5,6,7,8,9,10,11,13,14],.t 0,.m,.t 1,.b,.N,.t 2,.m] (k:=?_);refine aQ.split 44 rfl (λg7=>?_) (λg7=>?_)
    ·refine go [.t 3,.f,.t 4,.l,.N,.t 5,.f,.t 6,.l,.t 7,.m,.N,.t 8,.i,.t 9,.f,.t 10,.l,.N,.t 11,.h] (k:=?_);refine a1 12 [] [11,4,2,10,3,1,9,0,8,7,6,5] rfl g7 (aK.aL rfl (by decide) Tryz.call144 rfl rfl (dW _ _ _)) ?_;refine go [.N] (k:=?_);refine tk 13 rfl (Qt.bl rfl g7) ?_;refine go [.t 14,.a,.Z] (k:=?_);refine aM 4 ?_;refine rb ?_;simp only[cb];grind only
    refine go [.t 3,.x,.N,.t 4,.x,.t 5,.x,.t 6,.x,.N,.t 7,.x,.t 8,.x,.t 9,.x,.N,.t 10,.x,.t 11,.x,.O 12 [] [11,4,2,10,3,1,9,0,8,7,6,5],.x,.N] (k:=?_);refine tk 13 rfl (Qt.bd rfl g7) ?_;refine go [.t 14,.a,.Z] (k:=?_);refine aM 4 ?_;refine rb ?_;simp only[cb];grind only
   try simp only[ai]at c6
   refine go [.R2,.b,.N,.a,.Z] (k:=?_);refine cd (λc8=>?_) λc8=>?_
   ·have k8:=c8
    try simp only[ai]at c8
    refine go [.J] (k:=?_);refine AW.jU rfl k8 ?_;refine go [.R,.G,.f,.N,.l] (k:=?_);refine cv Tryz.call201 rfl rfl (ey u _) ?_;refine go [.N,.b,.m] (k:=?_);apply az.cut 3
    ·intro Kg9;refine az.split 64 rfl (λg9=>?_) (λg9=>?_)
     ·refine go [.f,.N,.l,.b] (k:=?_);exact bZ 67 [65,66,67] (b6 g9 _ undef) Kg9
     ·refine go [.x,.x,.x] (k:=?_);exact bX 67 [65,66,67] (bY g9 undef _) Kg9
    refine qq (Qt.aD rfl rfl rfl) ?_;refine go [.N,.a,.Z] (k:=?_);refine aM 4 ?_;refine rb ?_;simp only[cb];grind only
   have k8:=c8
   try simp only[ai]at c8
   refine go [.R1,.b,.a,.Z] (k:=?_);refine cd (λc10=>?_) λc10=>?_
   ·try simp only[ai]at c10
    refine go [.R,.G,.N,.f,.l] (k:=?_);refine cv Tryz.call201 rfl rfl (ey u _) ?_;refine go [.N,.b,.m] (k:=?_);apply az.cut 3
    ·intro Kg11;refine az.split 64 rfl (λg11=>?_) (λg11=>?_)
     ·refine go [.f,.N,.l,.b] (k:=?_);exact bZ 67 [65,66,67] (b6 g11 _ undef) Kg11
     ·refine go [.x,.x,.x] (k:=?_);exact bX 67 [65,66,67] (bY g11 undef _) Kg11
    refine qq (Qt.aD rfl rfl rfl) ?_;refine go [.N,.a,.Z] (k:=?_);refine aM 4 ?_;refine rb ?_;simp only[cb];grind only
   try simp only[ai]at c10
   refine go [.J,.R,.a,.Z] (k:=?_);refine aM 4 ?_;refine rb ?_;simp only[cb];grind only
  refine go [.t 10,.f,.N,.t 11,.l,.t 12,.G,.t 13,.f,.N,.t 14,.l] (k:=?_);refine a1 15 [10,11] [14,12,9,13,8,4,7,3,2,6,1,5,0] rfl (nF g2) (aK.aL rfl (by decide) Tryz.call199 rfl rfl (mV u _ hb)) ?_;refine go [.N,.g,.f,.g,.l,.N,.t 16,.b] (k:=?_);refine tk 17 rfl (Qt.bd rfl g2) ?_;refine go [.Z] (k:=?_);refine cd (λc12=>?_) λc12=>?_
  ·try simp only[ai]at c12
   refine go [.R,.a,.Z] (k:=?_);refine aM 4 ?_;refine rb ?_;simp only[cb];grind only
  try simp only[ai]at c12
  refine jd (bP ?_);refine go [.f,.N,.l,.Z] (k:=?_);refine AW.block (sr ?_);refine go [.b,.a,.Z] (k:=?_);refine cd (λc13=>?_) λc13=>?_
  ·try simp only[ai]at c13
   refine go [.R,.f,.N,.l,.b,.m,.N] (k:=?_);apply az.cut 3
   ·intro Kg14;refine az.split 31 rfl (λg14=>?_) (λg14=>?_)
    ·refine go [.f,.l,.b,.N] (k:=?_);exact bZ 34 [32,33,34] (b6 g14 _ undef) Kg14
    ·refine go [.x,.x,.x] (k:=?_);exact bX 34 [32,33,34] (bY g14 undef _) Kg14
   refine qq (Qt.aD rfl rfl rfl) ?_;refine go [.a,.Z] (k:=?_);refine aM 4 ?_;refine rb ?_;simp only[cb];grind only
  try simp only[ai]at c13
  refine go [.R,.b,.N,.a,.Z] (k:=?_);refine cd (λc15=>?_) λc15=>?_
  ·try simp only[ai]at c15
   refine go [.R,.G,.f,.N,.l] (k:=?_);refine cv Tryz.call200 rfl rfl (iX u _) ?_;refine go [.N,.a,.Z] (k:=?_);refine AW.seq ?_;refine go [.D [0,1,2,3,4,5,6,7,8,9,10,11,13,14],.t 0,.m,.t 1,.b,.N,.t 2,.m] (k:=?_);refine aQ.split 44 rfl (λg16=>?_) (λg16=>?_)
   ·refine go [.t 3,.f,.t 4,.l,.N,.t 5,.f,.t 6,.l,.t 7,.m,.N,.t 8,.i,.t 9,.f,.t 10,.l,.N,.t 11,.h] (k:=?_);refine a1 12 [] [11,4,2,10,3,1,9,0,8,7,6,5] rfl g16 (aK.aL rfl (by decide) Tryz.call144 rfl rfl (dW _ _ _)) ?_;refine go [.N] (k:=?_);refine tk 13 rfl (Qt.bl rfl g16) ?_;refine go [.t 14,.a,.Z] (k:=?_);refine aM 4 ?_;refine rb ?_;simp only[cb];grind only
   refine go [.t 3,.x,.N,.t 4,.x,.t 5,.x,.t 6,.x,.N,.t 7,.x,.t 8,.x,.t 9,.x,.N,.t 10,.x,.t 11,.x,.O 12 [] [11,4,2,10,3,1,9,0,8,7,6,5],.x,.N] (k:=?_);refine tk 13 rfl (Qt.bd rfl g16) ?_;refine go [.t 14,.a,.Z] (k:=?_);refine aM 4 ?_;refine rb ?_;simp only[cb];grind only
  try simp only[ai]at c15
  refine go [.R2,.b,.N,.a,.Z] (k:=?_);refine cd (λc17=>?_) λc17=>?_
  ·have k17:=c17
   try simp only[ai]at c17
   refine go [.J] (k:=?_);refine AW.jU rfl k17 ?_;refine go [.R,.G,.f,.N,.l] (k:=?_);refine cv Tryz.call201 rfl rfl (ey u _) ?_;refine go [.N,.b,.m] (k:=?_);apply az.cut 3
   ·intro Kg18;refine az.split 64 rfl (λg18=>?_) (λg18=>?_)
    ·refine go [.f,.N,.l,.b] (k:=?_);exact bZ 67 [65,66,67] (b6 g18 _ undef) Kg18
    ·refine go [.x,.x,.x] (k:=?_);exact bX 67 [65,66,67] (bY g18 undef _) Kg18
   refine qq (Qt.aD rfl rfl rfl) ?_;refine go [.N,.a,.Z] (k:=?_);refine aM 4 ?_;refine rb ?_;simp only[cb];grind only
  have k17:=c17
  try simp only[ai]at c17
  refine go [.R1,.b,.a,.Z] (k:=?_);refine cd (λc19=>?_) λc19=>?_
  ·try simp only[ai]at c19
   refine go [.R,.G,.N,.f,.l] (k:=?_);refine cv Tryz.call201 rfl rfl (ey u _) ?_;refine go [.N,.b,.m] (k:=?_);apply az.cut 3
   ·intro Kg20;refine az.split 64 rfl (λg20=>?_) (λg20=>?_)
    ·refine go [.f,.N,.l,.b] (k:=?_);exact bZ 67 [65,66,67] (b6 g20 _ undef) Kg20
    ·refine go [.x,.x,.x] (k:=?_);exact bX 67 [65,66,67] (bY g20 undef _) Kg20
   refine qq (Qt.aD rfl rfl rfl) ?_;refine go [.N,.a,.Z] (k:=?_);refine aM 4 ?_;refine rb ?_;simp only[cb];grind only
  try simp only[ai]at c19
  refine go [.J,.R,.a,.Z] (k:=?_);refine aM 4 ?_;refine rb ?_;simp only[cb];grind only
 refine go [.t 5,.f,.N,.t 6,.l,.t 7,.b] (k:=?_);refine tk 8 rfl (Qt.bd rfl g1) ?_;refine go [.N,.t 9,.m] (k:=?_);refine aQ.split 15 rfl (λg21=>?_) (λg21=>?_)
 ·refine go [.t 10,.x,.t 11,.x,.N,.t 12,.x,.t 13,.x,.t 14,.x,.N,.O 15 [10,11] [14,12,9,13,8,4,7,3,2,6,1,5,0],.x,.N,.g,.x,.g,.x,.N,.t 16,.x] (k:=?_);refine tk 17 rfl (Qt.bl rfl g21) ?_;refine go [.Z] (k:=?_);refine cd (λc22=>?_) λc22=>?_
  ·try simp only[ai]at c22
   refine go [.R,.a,.Z] (k:=?_);refine aM 4 ?_;refine rb ?_;simp only[cb];grind only
  try simp only[ai]at c22
  refine jd (bP ?_);refine go [.f,.N,.l,.Z] (k:=?_);refine AW.block (sr ?_);refine go [.b,.a,.Z] (k:=?_);refine cd (λc23=>?_) λc23=>?_
  ·try simp only[ai]at c23
   refine go [.R,.f,.N,.l,.b,.m,.N] (k:=?_);apply az.cut 3
   ·intro Kg24;refine az.split 31 rfl (λg24=>?_) (λg24=>?_)
    ·refine go [.f,.l,.b,.N] (k:=?_);exact bZ 34 [32,33,34] (b6 g24 _ undef) Kg24
    ·refine go [.x,.x,.x] (k:=?_);exact bX 34 [32,33,34] (bY g24 undef _) Kg24
   refine qq (Qt.aD rfl rfl rfl) ?_;refine go [.a,.Z] (k:=?_);refine aM 4 ?_;refine rb ?_;simp only[cb];grind only
  try simp only[ai]at c23
  refine go [.R,.b,.N,.a,.Z] (k:=?_);refine cd (λc25=>?_) λc25=>?_
  ·try simp only[ai]at c25
   refine go [.R,.G,.f,.N,.l] (k:=?_);refine cv Tryz.call200 rfl rfl (iX u _) ?_;refine go [.N,.a,.Z] (k:=?_);refine AW.seq ?_;refine go [.D [0,1,2,3,4,5,6,7,8,9,10,11,13,14],.t 0,.m,.t 1,.b,.N,.t 2,.m] (k:=?_);refine aQ.split 44 rfl (λg26=>?_) (λg26=>?_)
   ·refine go [.t 3,.f,.t 4,.l,.N,.t 5,.f,.t 6,.l,.t 7,.m,.N,.t 8,.i,.t 9,.f,.t 10,.l,.N,.t 11,.h] (k:=?_);refine a1 12 [] [11,4,2,10,3,1,9,0,8,7,6,5] rfl g26 (aK.aL rfl (by decide) Tryz.call144 rfl rfl (dW _ _ _)) ?_;refine go [.N] (k:=?_);refine tk 13 rfl (Qt.bl rfl g26) ?_;refine go [.t 14,.a,.Z] (k:=?_);refine aM 4 ?_;refine rb ?_;simp only[cb];grind only
   refine go [.t 3,.x,.N,.t 4,.x,.t 5,.x,.t 6,.x,.N,.t 7,.x,.t 8,.x,.t 9,.x,.N,.t 10,.x,.t 11,.x,.O 12 [] [11,4,2,10,3,1,9,0,8,7,6,5],.x,.N] (k:=?_);refine tk 13 rfl (Qt.bd rfl g26) ?_;refine go [.t 14,.a,.Z] (k:=?_);refine aM 4 ?_;refine rb ?_;simp only[cb];grind only
  try simp only[ai]at c25
  refine go [.R2,.b,.N,.a,.Z] (k:=?_);refine cd (λc27=>?_) λc27=>?_
  ·have k27:=c27
   try simp only[ai]at c27
   refine go [.J] (k:=?_);refine AW.jU rfl k27 ?_;refine go [.R,.G,.f,.N,.l] (k:=?_);refine cv Tryz.call201 rfl rfl (ey u _) ?_;refine go [.N,.b,.m] (k:=?_);apply az.cut 3
   ·intro Kg28;refine az.split 64 rfl (λg28=>?_) (λg28=>?_)
    ·refine go [.f,.N,.l,.b] (k:=?_);exact bZ 67 [65,66,67] (b6 g28 _ undef) Kg28
    ·refine go [.x,.x,.x] (k:=?_);exact bX 67 [65,66,67] (bY g28 undef _) Kg28
   refine qq (Qt.aD rfl rfl rfl) ?_;refine go [.N,.a,.Z] (k:=?_);refine aM 4 ?_;refine rb ?_;simp only[cb];grind only
  have k27:=c27
  try simp only[ai]at c27
  refine go [.R1,.b,.a,.Z] (k:=?_);refine cd (λc29=>?_) λc29=>?_
  ·try simp only[ai]at c29
   refine go [.R,.G,.N,.f,.l] (k:=?_);refine cv Tryz.call201 rfl rfl (ey u _) ?_;refine go [.N,.b,.m] (k:=?_);apply az.cut 3
   ·intro Kg30;refine az.split 64 rfl (λg30=>?_) (λg30=>?_)
    ·refine go [.f,.N,.l,.b] (k:=?_);exact bZ 67 [65,66,67] (b6 g30 _ undef) Kg30
    ·refine go [.x,.x,.x] (k:=?_);exact bX 67 [65,66,67] (bY g30 undef _) Kg30
   refine qq (Qt.aD rfl rfl rfl) ?_;refine go [.N,.a,.Z] (k:=?_);refine aM 4 ?_;refine rb ?_;simp only[cb];grind only
  try simp only[ai]at c29
  refine go [.J,.R,.a,.Z] (k:=?_);refine aM 4 ?_;refine rb ?_;simp only[cb];grind only
 refine go [.t 10,.f,.N,.t 11,.l,.t 12,.G,.t 13,.f,.N,.t 14,.l] (k:=?_);refine a1 15 [10,11] [14,12,9,13,8,4,7,3,2,6,1,5,0] rfl (nF g21) (aK.aL rfl (by decide) Tryz.call199 rfl rfl (mV u _ hb)) ?_;refine go [.N,.g,.f,.g,.l,.N,.t 16,.b] (k:=?_);refine tk 17 rfl (Qt.bd rfl g21) ?_;refine go [.Z] (k:=?_);refine cd (λc31=>?_) λc31=>?_
 ·try simp only[ai]at c31
  refine go [.R,.a,.Z] (k:=?_);refine aM 4 ?_;refine rb ?_;simp only[cb];grind only
 try simp only[ai]at c31
 refine jd (bP ?_);refine go [.f,.N,.l,.Z] (k:=?_);refine AW.block (sr ?_);refine go [.b,.a,.Z] (k:=?_);refine cd (λc32=>?_) λc32=>?_
 ·try simp only[ai]at c32
  refine go [.R,.f,.N,.l,.b,.m,.N] (k:=?_);apply az.cut 3
  ·intro Kg33;refine az.split 31 rfl (λg33=>?_) (λg33=>?_)
   ·refine go [.f,.l,.b,.N] (k:=?_);exact bZ 34 [32,33,34] (b6 g33 _ undef) Kg33
   ·refine go [.x,.x,.x] (k:=?_);exact bX 34 [32,33,34] (bY g33 undef _) Kg33
  refine qq (Qt.aD rfl rfl rfl) ?_;refine go [.a,.Z] (k:=?_);refine aM 4 ?_;refine rb ?_;simp only[cb];grind only
 try simp only[ai]at c32
 refine go [.R,.b,.N,.a,.Z] (k:=?_);refine cd (λc34=>?_) λc34=>?_
 ·try simp only[ai]at c34
  refine go [.R,.G,.f,.N,.l] (k:=?_);refine cv Tryz.call200 rfl rfl (iX u _) ?_;refine go [.N,.a,.Z] (k:=?_);refine AW.seq ?_;refine go [.D [0,1,2,3,4,5,6,7,8,9,10,11,13,14],.t 0,.m,.t 1,.b,.N,.t 2,.m] (k:=?_);refine aQ.split 44 rfl (λg35=>?_) (λg35=>?_)
  ·refine go [.t 3,.f,.t 4,.l,.N,.t 5,.f,.t 6,.l,.t 7,.m,.N,.t 8,.i,.t 9,.f,.t 10,.l,.N,.t 11,.h] (k:=?_);refine a1 12 [] [11,4,2,10,3,1,9,0,8,7,6,5] rfl g35 (aK.aL rfl (by decide) Tryz.call144 rfl rfl (dW _ _ _)) ?_;refine go [.N] (k:=?_);refine tk 13 rfl (Qt.bl rfl g35) ?_;refine go [.t 14,.a,.Z] (k:=?_);refine aM 4 ?_;refine rb ?_;simp only[cb];grind only
  refine go [.t 3,.x,.N,.t 4,.x,.t 5,.x,.t 6,.x,.N,.t 7,.x,.t 8,.x,.t 9,.x,.N,.t 10,.x,.t 11,.x,.O 12 [] [11,4,2,10,3,1,9,0,8,7,6,5],.x,.N] (k:=?_);refine tk 13 rfl (Qt.bd rfl g35) ?_;refine go [.t 14,.a,.Z] (k:=?_);refine aM 4 ?_;refine rb ?_;simp only[cb];grind only
 try simp only[ai]at c34
 refine go [.R2,.b,.N,.a,.Z] (k:=?_);refine cd (λc36=>?_) λc36=>?_
 ·have k36:=c36
  try simp only[ai]at c36
  refine go [.J] (k:=?_);refine AW.jU rfl k36 ?_;refine go [.R,.G,.f,.N,.l] (k:=?_);refine cv Tryz.call201 rfl rfl (ey u _) ?_;refine go [.N,.b,.m] (k:=?_);apply az.cut 3
  ·intro Kg37;refine az.split 64 rfl (λg37=>?_) (λg37=>?_)
   ·refine go [.f,.N,.l,.b] (k:=?_);exact bZ 67 [65,66,67] (b6 g37 _ undef) Kg37
   ·refine go [.x,.x,.x] (k:=?_);exact bX 67 [65,66,67] (bY g37 undef _) Kg37
  refine qq (Qt.aD rfl rfl rfl) ?_;refine go [.N,.a,.Z] (k:=?_);refine aM 4 ?_;refine rb ?_;simp only[cb];grind only
 have k36:=c36
 try simp only[ai]at c36
 refine go [.R1,.b,.a,.Z] (k:=?_);refine cd (λc38=>?_) λc38=>?_
 ·try simp only[ai]at c38
  refine go [.R,.G,.N,.f,.l] (k:=?_);refine cv Tryz.call201 rfl rfl (ey u _) ?_;refine go [.N,.b,.m] (k:=?_);apply az.cut 3
  ·intro Kg39;refine az.split 64 rfl (λg39=>?_) (λg39=>?_)
   ·refine go [.f,.N,.l,.b] (k:=?_);exact bZ 67 [65,66,67] (b6 g39 _ undef) Kg39
   ·refine go [.x,.x,.x] (k:=?_);exact bX 67 [65,66,67] (bY g39 undef _) Kg39
  refine qq (Qt.aD rfl rfl rfl) ?_;refine go [.N,.a,.Z] (k:=?_);refine aM 4 ?_;refine rb ?_;simp only[cb];grind only
 try simp only[ai]at c38
 refine go [.J,.R,.a,.Z] (k:=?_);refine aM 4 ?_;refine rb ?_;simp only[cb];grind only
theorem qI(l:List cm):bf Tryz.prog 153 [.h aa []] [.rt aa .ro (tr l)] (λy _=>y= .v (.bool (nA l))):=by
 refine ob Tryz.func153 Tryz.ntmps153 ?_;refine AW.len (aa) [] rfl (by simp[ck]) rfl (λhl=>?_);refine go [.R,.a,.Z,.R2,.m,.h,.N,.m,.Z] (k:=?_);refine AW.block ?_;refine AW.bw (λi:qO (bi l) l.length=>[.sl 7 (.v (iv i.k)), .sl 0 (.h aa []), .sl 5 (.h aa []), .sl 6 (.v (iv l.length)), .rt aa .ro (tr l)]) (λi=>l.length-i.k) ⟨0,zero_le _,λ_ h=>absurd h (not_lt_zero _)⟩ (ws) ?_;intro i;have hle:=i.le;have hTi:((i.k:Int)-1).toNat=i.k-1:=by omega
 refine go [.R,.b,.Z] (k:=?_);refine AW.seq ?_;refine cd (λc1=>?_) λc1=>?_
 ·try simp only[ai]at c1
  refine jd (AW.seq (AW.block (sr ?_)));refine go [.m,.N,.i,.G,.A,.N,.a,.s,.Z] (k:=?_);refine AW.seq ?_;refine go [.D [0,1,3,4,5,6,7,8,9,10,11,12,13,14,15,16,17,18,19,20,21,22,23,24,25,26,27,29,30],.t 0,.f,.N,.t 1,.l] (k:=?_);refine a1 2 [] [1,0] rfl rfl (aK.aL rfl (by decide) Tryz.call144 rfl rfl (dW _ _ _)) ?_;refine go [.N,.t 3,.n,.t 4,.m] (k:=?_);refine aQ.split 16 rfl (λg2=>?_) (λg2=>?_)
  ·refine go [.t 5,.x,.N,.t 6,.x,.t 7,.x,.t 8,.x,.N,.t 9,.x,.t 10,.x,.t 11,.x,.N,.t 12,.x,.t 13,.x,.t 14,.x,.N,.t 15,.x,.t 16,.x,.t 17,.x,.N] (k:=?_);refine tk 18 rfl (Qt.bl rfl g2) ?_;refine go [.t 19,.m] (k:=?_);refine aQ.split 31 rfl (λg3=>?_) (λg3=>?_)
   ·refine go [.t 20,.x,.N,.t 21,.x,.t 22,.x,.t 23,.x,.N] (k:=?_);refine tk 24 rfl (Qt.bl rfl g3) ?_;refine go [.t 25,.m] (k:=?_);refine aQ.split 37 rfl (λg4=>?_) (λg4=>?_)
    ·refine go [.t 26,.x,.N,.t 27,.x,.O 28 [] [27,25,26,24,19,23,18,7,22,17,4,6,21,16,3,2,5,20,15,13,1,14,12,0,11,10,8,9],.x,.N,.t 29,.x] (k:=?_);refine tk 30 rfl (Qt.bl rfl g4) ?_;refine go [.Z] (k:=?_);refine cd (λc5=>?_) λc5=>?_
     ·try simp only[ai]at c5
      have hS:=i.stop (by omega) (show(bi l) i.k=false by simp only[bi,aH,bI];grind only);refine go [.R,.a,.Z] (k:=?_);refine aM 2 ?_;refine rb ?_;simp only[aN];grind only
     try simp only[ai]at c5
     refine go [.J,.R1,.b,.N,.m,.Z] (k:=?_);refine⟨⟨i.k+1,by omega,i.next (show(bi l) i.k=true by simp only[bi,aH,bI];grind only)⟩,ws,?_⟩;show l.length-(i.k+1)<l.length-i.k;omega
    refine go [.t 26,.f,.t 27,.l,.N] (k:=?_);refine a1 28 [] [27,25,26,24,19,23,18,7,22,17,4,6,21,16,3,2,5,20,15,13,1,14,12,0,11,10,8,9] rfl (nF g4) (aK.aL rfl (by decide) Tryz.call145 rfl rfl (cl _)) ?_;refine go [.N,.t 29,.n] (k:=?_);refine tk 30 rfl (Qt.bd rfl g4) ?_;refine go [.Z] (k:=?_);refine cd (λc6=>?_) λc6=>?_
    ·try simp only[ai]at c6
     have hS:=i.stop (by omega) (show(bi l) i.k=false by simp only[bi,aH,bI];grind only);refine go [.R,.a,.Z] (k:=?_);refine aM 2 ?_;refine rb ?_;simp only[aN];grind only
    try simp only[ai]at c6
    refine go [.J,.R1,.b,.N,.m,.Z] (k:=?_);refine⟨⟨i.k+1,by omega,i.next (show(bi l) i.k=true by simp only[bi,aH,bI];grind only)⟩,ws,?_⟩;show l.length-(i.k+1)<l.length-i.k;omega
   refine go [.t 20,.f,.t 21,.l,.N,.t 22,.h,.t 23,.b] (k:=?_);refine tk 24 rfl (Qt.bd rfl g3) ?_;refine go [.N,.t 25,.m] (k:=?_);refine aQ.split 37 rfl (λg7=>?_) (λg7=>?_)
   ·refine go [.t 26,.x,.t 27,.x,.N,.O 28 [] [27,25,26,24,19,23,18,7,22,17,4,6,21,16,3,2,5,20,15,13,1,14,12,0,11,10,8,9],.x,.N,.t 29,.x] (k:=?_);refine tk 30 rfl (Qt.bl rfl g7) ?_;refine go [.Z] (k:=?_);refine cd (λc8=>?_) λc8=>?_
    ·try simp only[ai]at c8
     have hS:=i.stop (by omega) (show(bi l) i.k=false by simp only[bi,aH,bI];grind only);refine go [.R,.a,.Z] (k:=?_);refine aM 2 ?_;refine rb ?_;simp only[aN];grind only
    try simp only[ai]at c8
    refine go [.J,.R1,.b,.N,.m,.Z] (k:=?_);refine⟨⟨i.k+1,by omega,i.next (show(bi l) i.k=true by simp only[bi,aH,bI];grind only)⟩,ws,?_⟩;show l.length-(i.k+1)<l.length-i.k;omega
   refine go [.t 26,.f,.t 27,.l,.N] (k:=?_);refine a1 28 [] [27,25,26,24,19,23,18,7,22,17,4,6,21,16,3,2,5,20,15,13,1,14,12,0,11,10,8,9] rfl (nF g7) (aK.aL rfl (by decide) Tryz.call145 rfl rfl (cl _)) ?_;refine go [.N,.t 29,.n] (k:=?_);refine tk 30 rfl (Qt.bd rfl g7) ?_;refine go [.Z] (k:=?_);refine cd (λc9=>?_) λc9=>?_
   ·try simp only[ai]at c9
    have hS:=i.stop (by omega) (show(bi l) i.k=false by simp only[bi,aH,bI];grind only);refine go [.R,.a,.Z] (k:=?_);refine aM 2 ?_;refine rb ?_;simp only[aN];grind only
   try simp only[ai]at c9
   refine go [.J,.R1,.b,.N,.m,.Z] (k:=?_);refine⟨⟨i.k+1,by omega,i.next (show(bi l) i.k=true by simp only[bi,aH,bI];grind only)⟩,ws,?_⟩;show l.length-(i.k+1)<l.length-i.k;omega
  refine go [.t 5,.m,.t 6,.b,.N,.t 7,.m] (k:=?_);refine aQ.split 19 rfl (λg10=>?_) (λg10=>?_)
  ·refine go [.t 8,.m,.t 9,.m,.N,.t 10,.b,.t 11,.i,.t 12,.f,.N,.t 13,.l,.t 14,.f,.t 15,.l,.N,.t 16,.b] (k:=?_);refine tg 17 rfl (nF g2) (Qt.bl rfl g10) ?_;refine tk 18 rfl (Qt.bd rfl g2) ?_;refine go [.N,.t 19,.m] (k:=?_);refine aQ.split 31 rfl (λg11=>?_) (λg11=>?_)
   ·refine go [.t 20,.x,.t 21,.x,.N,.t 22,.x,.t 23,.x] (k:=?_);refine tk 24 rfl (Qt.bl rfl g11) ?_;refine go [.N,.t 25,.m] (k:=?_);refine aQ.split 37 rfl (λg12=>?_) (λg12=>?_)
    ·refine go [.t 26,.x,.t 27,.x,.N,.O 28 [] [27,25,26,24,19,23,18,7,22,17,4,6,21,16,3,2,5,20,15,13,1,14,12,0,11,10,8,9],.x,.N,.t 29,.x] (k:=?_);refine tk 30 rfl (Qt.bl rfl g12) ?_;refine go [.Z] (k:=?_);refine cd (λc13=>?_) λc13=>?_
     ·try simp only[ai]at c13
      have hS:=i.stop (by omega) (show(bi l) i.k=false by simp only[bi,aH,bI];grind only);refine go [.R,.a,.Z] (k:=?_);refine aM 2 ?_;refine rb ?_;simp only[aN];grind only
     try simp only[ai]at c13
     refine go [.J,.R1,.b,.N,.m,.Z] (k:=?_);refine⟨⟨i.k+1,by omega,i.next (show(bi l) i.k=true by simp only[bi,aH,bI];grind only)⟩,ws,?_⟩;show l.length-(i.k+1)<l.length-i.k;omega
    refine go [.t 26,.f,.t 27,.l,.N] (k:=?_);refine a1 28 [] [27,25,26,24,19,23,18,7,22,17,4,6,21,16,3,2,5,20,15,13,1,14,12,0,11,10,8,9] rfl (nF g12) (aK.aL rfl (by decide) Tryz.call145 rfl rfl (cl _)) ?_;refine go [.N,.t 29,.n] (k:=?_);refine tk 30 rfl (Qt.bd rfl g12) ?_;refine go [.Z] (k:=?_);refine cd (λc14=>?_) λc14=>?_
    ·try simp only[ai]at c14
     have hS:=i.stop (by omega) (show(bi l) i.k=false by simp only[bi,aH,bI];grind only);refine go [.R,.a,.Z] (k:=?_);refine aM 2 ?_;refine rb ?_;simp only[aN];grind only
    try simp only[ai]at c14
    refine go [.J,.R1,.b,.N,.m,.Z] (k:=?_);refine⟨⟨i.k+1,by omega,i.next (show(bi l) i.k=true by simp only[bi,aH,bI];grind only)⟩,ws,?_⟩;show l.length-(i.k+1)<l.length-i.k;omega
   refine go [.t 20,.f,.t 21,.l,.N,.t 22,.h,.t 23,.b] (k:=?_);refine tk 24 rfl (Qt.bd rfl g11) ?_;refine go [.N,.t 25,.m] (k:=?_);refine aQ.split 37 rfl (λg15=>?_) (λg15=>?_)
   ·refine go [.t 26,.x,.t 27,.x,.N,.O 28 [] [27,25,26,24,19,23,18,7,22,17,4,6,21,16,3,2,5,20,15,13,1,14,12,0,11,10,8,9],.x,.N,.t 29,.x] (k:=?_);refine tk 30 rfl (Qt.bl rfl g15) ?_;refine go [.Z] (k:=?_);refine cd (λc16=>?_) λc16=>?_
    ·try simp only[ai]at c16
     have hS:=i.stop (by omega) (show(bi l) i.k=false by simp only[bi,aH,bI];grind only);refine go [.R,.a,.Z] (k:=?_);refine aM 2 ?_;refine rb ?_;simp only[aN];grind only
    try simp only[ai]at c16
    refine go [.J,.R1,.b,.N,.m,.Z] (k:=?_);refine⟨⟨i.k+1,by omega,i.next (show(bi l) i.k=true by simp only[bi,aH,bI];grind only)⟩,ws,?_⟩;show l.length-(i.k+1)<l.length-i.k;omega
   refine go [.t 26,.f,.t 27,.l,.N] (k:=?_);refine a1 28 [] [27,25,26,24,19,23,18,7,22,17,4,6,21,16,3,2,5,20,15,13,1,14,12,0,11,10,8,9] rfl (nF g15) (aK.aL rfl (by decide) Tryz.call145 rfl rfl (cl _)) ?_;refine go [.N,.t 29,.n] (k:=?_);refine tk 30 rfl (Qt.bd rfl g15) ?_;refine go [.Z] (k:=?_);refine cd (λc17=>?_) λc17=>?_
   ·try simp only[ai]at c17
    have hS:=i.stop (by omega) (show(bi l) i.k=false by simp only[bi,aH,bI];grind only);refine go [.R,.a,.Z] (k:=?_);refine aM 2 ?_;refine rb ?_;simp only[aN];grind only
   try simp only[ai]at c17
   refine go [.J,.R1,.b,.N,.m,.Z] (k:=?_);refine⟨⟨i.k+1,by omega,i.next (show(bi l) i.k=true by simp only[bi,aH,bI];grind only)⟩,ws,?_⟩;show l.length-(i.k+1)<l.length-i.k;omega
  refine go [.t 8,.x,.t 9,.x,.N,.t 10,.x,.t 11,.x,.t 12,.x,.N,.t 13,.x,.t 14,.x,.t 15,.x,.N,.t 16,.x] (k:=?_);refine tg 17 rfl (nF g2) (Qt.bd rfl g10) ?_;refine tk 18 rfl (Qt.bd rfl g2) ?_;refine go [.N,.t 19,.m] (k:=?_);refine aQ.split 31 rfl (λg18=>?_) (λg18=>?_)
  ·refine go [.t 20,.x,.t 21,.x,.N,.t 22,.x,.t 23,.x] (k:=?_);refine tk 24 rfl (Qt.bl rfl g18) ?_;refine go [.N,.t 25,.m] (k:=?_);refine aQ.split 37 rfl (λg19=>?_) (λg19=>?_)
   ·refine go [.t 26,.x,.t 27,.x,.N,.O 28 [] [27,25,26,24,19,23,18,7,22,17,4,6,21,16,3,2,5,20,15,13,1,14,12,0,11,10,8,9],.x,.N,.t 29,.x] (k:=?_);refine tk 30 rfl (Qt.bl rfl g19) ?_;refine go [.Z] (k:=?_);refine cd (λc20=>?_) λc20=>?_
    ·try simp only[ai]at c20
     have hS:=i.stop (by omega) (show(bi l) i.k=false by simp only[bi,aH,bI];grind only);refine go [.R,.a,.Z] (k:=?_);refine aM 2 ?_;refine rb ?_;simp only[aN];grind only
    try simp only[ai]at c20
    refine go [.J,.R1,.b,.N,.m,.Z] (k:=?_);refine⟨⟨i.k+1,by omega,i.next (show(bi l) i.k=true by simp only[bi,aH,bI];grind only)⟩,ws,?_⟩;show l.length-(i.k+1)<l.length-i.k;omega
   refine go [.t 26,.f,.t 27,.l,.N] (k:=?_);refine a1 28 [] [27,25,26,24,19,23,18,7,22,17,4,6,21,16,3,2,5,20,15,13,1,14,12,0,11,10,8,9] rfl (nF g19) (aK.aL rfl (by decide) Tryz.call145 rfl rfl (cl _)) ?_;refine go [.N,.t 29,.n] (k:=?_);refine tk 30 rfl (Qt.bd rfl g19) ?_;refine go [.Z] (k:=?_);refine cd (λc21=>?_) λc21=>?_
   ·try simp only[ai]at c21
    have hS:=i.stop (by omega) (show(bi l) i.k=false by simp only[bi,aH,bI];grind only);refine go [.R,.a,.Z] (k:=?_);refine aM 2 ?_;refine rb ?_;simp only[aN];grind only
   try simp only[ai]at c21
   refine go [.J,.R1,.b,.N,.m,.Z] (k:=?_);refine⟨⟨i.k+1,by omega,i.next (show(bi l) i.k=true by simp only[bi,aH,bI];grind only)⟩,ws,?_⟩;show l.length-(i.k+1)<l.length-i.k;omega
  refine go [.t 20,.f,.t 21,.l,.N,.t 22,.h,.t 23,.b] (k:=?_);refine tk 24 rfl (Qt.bd rfl g18) ?_;refine go [.N,.t 25,.m] (k:=?_);refine aQ.split 37 rfl (λg22=>?_) (λg22=>?_)
  ·refine go [.t 26,.x,.t 27,.x,.N,.O 28 [] [27,25,26,24,19,23,18,7,22,17,4,6,21,16,3,2,5,20,15,13,1,14,12,0,11,10,8,9],.x,.N,.t 29,.x] (k:=?_);refine tk 30 rfl (Qt.bl rfl g22) ?_;refine go [.Z] (k:=?_);refine cd (λc23=>?_) λc23=>?_
   ·try simp only[ai]at c23
    have hS:=i.stop (by omega) (show(bi l) i.k=false by simp only[bi,aH,bI];grind only);refine go [.R,.a,.Z] (k:=?_);refine aM 2 ?_;refine rb ?_;simp only[aN];grind only
   try simp only[ai]at c23
   refine go [.J,.R1,.b,.N,.m,.Z] (k:=?_);refine⟨⟨i.k+1,by omega,i.next (show(bi l) i.k=true by simp only[bi,aH,bI];grind only)⟩,ws,?_⟩;show l.length-(i.k+1)<l.length-i.k;omega
  refine go [.t 26,.f,.t 27,.l,.N] (k:=?_);refine a1 28 [] [27,25,26,24,19,23,18,7,22,17,4,6,21,16,3,2,5,20,15,13,1,14,12,0,11,10,8,9] rfl (nF g22) (aK.aL rfl (by decide) Tryz.call145 rfl rfl (cl _)) ?_;refine go [.N,.t 29,.n] (k:=?_);refine tk 30 rfl (Qt.bd rfl g22) ?_;refine go [.Z] (k:=?_);refine cd (λc24=>?_) λc24=>?_
  ·try simp only[ai]at c24
   have hS:=i.stop (by omega) (show(bi l) i.k=false by simp only[bi,aH,bI];grind only);refine go [.R,.a,.Z] (k:=?_);refine aM 2 ?_;refine rb ?_;simp only[aN];grind only
  try simp only[ai]at c24
  refine go [.J,.R1,.b,.N,.m,.Z] (k:=?_);refine⟨⟨i.k+1,by omega,i.next (show(bi l) i.k=true by simp only[bi,aH,bI];grind only)⟩,ws,?_⟩;show l.length-(i.k+1)<l.length-i.k;omega
 try simp only[ai]at c1
 have hA:=i.full (by omega);refine AW.exit ?_;dsimp only[aJ,ay,reduceIte];refine go [.R,.m,.h,.N,.b,.a,.Z] (k:=?_);refine aM 2 ?_;refine rb ?_;simp only[aN];grind only
theorem cH(p:cR)(o:aw):bf Tryz.prog 203 [.g [.v (iv o.Id), .v (iv o.Kind), .v (iv o.Target), .v (iv o.mi), .v (iv o.gK)], .p aa [] 2 0 0] [.rt aa .ro (tr [p])] (λy _=>y= .v (.bool (nL p.Id o))):=by
 refine ob Tryz.func203 Tryz.ntmps203 ?_;refine go [.R,.B,.N,.a,.Z,.R,.G,.f,.N,.l] (k:=?_);refine cv Tryz.call204 rfl rfl (v_ _ _) ?_;refine go [.N,.a,.Z] (k:=?_);refine aM 3 ?_;rfl
theorem xQ{fid:FuncId}{p:aw→Bool}(u0:cR)(hE:l4 Tryz.prog fid)(hp:∀x:aw,bf Tryz.prog fid [.g [.v (iv x.Id), .v (iv x.Kind), .v (iv x.Target), .v (iv x.mi), .v (iv x.gK)], .p aa [] 2 0 0] [.rt aa .ro (tr [u0])] (λy _=>y= .v (.bool (p x))))(l:List aw):bf Tryz.prog 230 [.h aa [], .f fid [.p (aa+1) [] 2 0 0]] [.rt aa .ro (tr l), .rt (aa+1) .ro (tr [u0])] (λy _=>y= .v (iv (gg p l))):=by
 refine ob Tryz.func230 Tryz.ntmps230 ?_;refine AW.len aa [] rfl (by simp[ck]) rfl (λhl=>?_);refine go [.R,.a,.Z,.R2,.m,.h,.N,.m,.Z] (k:=?_);refine AW.block ?_;refine AW.bw (λi:fw p l=>[.sl 8 (.v (iv i.k)), .sl 7 (.v (iv l.length)), .sl 0 (.h aa []), .sl 1 (.f fid [.p (aa+1) [] 2 0 0]), .rt aa .ro (tr l), .rt (aa+1) .ro (tr [u0])]) (λi=>l.length-i.k) ⟨0,zero_le _,rfl⟩ (ws) ?_;intro i;have hle:=i.le;refine go [.R,.b,.Z] (k:=?_);refine AW.seq ?_;refine cd (λc1=>?_) λc1=>?_
 ·try simp only[ai]at c1
  refine jd (AW.seq (AW.block (sr ?_)));refine go [.m,.N,.a,.Z,.R,.m,.m,.N,.m,.i,.G,.N] (k:=?_);refine cv hE rfl rfl (bf.gE (hp (l.getD i.k En.ab)) ⟨⟨_,rfl,(cB (λc hc=>match c,hc with|0,_=>au|1,_=>au|c+2,hc=>absurd hc (by simp only[En.n];omega)))⟩,trivial⟩ rfl rfl rfl) ?_;refine go [.Z] (k:=?_);refine cd (λc2=>?_) λc2=>?_
  ·try simp only[ai]at c2
   refine go [.R,.m,.N,.a,.Z] (k:=?_);refine aM 4 ?_;rw[dc i En.ab (by omega) c2];rfl
  try simp only[ai]at c2
  refine go [.J,.R1,.b,.m,.Z] (k:=?_);refine⟨⟨i.k+1,by omega,i.next En.ab (by omega) c2⟩,ws,?_⟩;show l.length-(i.k+1)<l.length-i.k;omega
 try simp only[ai]at c1
 refine AW.exit ?_;dsimp only[aJ,ay,reduceIte];refine go [.R,.a,.Z] (k:=?_);refine aM 4 ?_;rw[cD i (by omega)];rfl
theorem dP{fid:FuncId}{p:aw→Bool}(u0:cR)(hE:l4 Tryz.prog fid)(hp:∀x:aw,bf Tryz.prog fid [.g [.v (iv x.Id), .v (iv x.Kind), .v (iv x.Target), .v (iv x.mi), .v (iv x.gK)], .p aa [] 2 0 0] [.rt aa .ro (tr [u0])] (λy _=>y= .v (.bool (p x))))(l:List aw):bf Tryz.prog 202 [.h aa [], .f fid [.p (aa+1) [] 2 0 0]] [.rt aa .ro (tr l), .rt (aa+1) .ro (tr [u0])] (λy _=>y= .v (.bool (l.any p))):=by
 refine ob Tryz.func202 Tryz.ntmps202 ?_;refine go [.R,.a,.Z,.R,.m,.m,.N] (k:=?_);refine cv Tryz.call230 rfl rfl (bf.gE (xQ u0 hE hp l) ⟨⟨_,rfl,au⟩,⟨_,rfl,(cB (λc hc=>match c,hc with|0,_=>au|1,_=>au|c+2,hc=>absurd hc (by simp only[En.n];omega)))⟩,trivial⟩ rfl rfl rfl) ?_;refine go [.N,.b,.a,.Z] (k:=?_);refine aM 4 ?_;rw[←gx];rfl
theorem qB(u:bt):bf Tryz.prog 152 [.g [.v (iv u.Next), .v (iv u.bF), .h aa [], .h (aa+1) [], .h (aa+2) [], .h (aa+3) [], .h (aa+4) [], .h (aa+5) [], .h (aa+6) []]] [.rt aa .ro (tr u.aV), .rt (aa+1) .ro (tr u.ah), .rt (aa+2) .ro (tr u.ax), .rt (aa+3) .ro (tr u.ao), .rt (aa+4) .ro (tr u.aC), .rt (aa+5) .ro (tr u.aR), .rt (aa+6) .ro (tr u.Out)] (λy _=>y= .v (.bool (nk u))):=by
 refine ob Tryz.func152 Tryz.ntmps152 ?_;refine AW.len (aa+3) [] rfl (by simp[ck]) rfl (λhl=>?_);refine go [.R,.B,.N,.a,.Z,.R2,.f,.l,.N,.h,.m,.Z] (k:=?_);refine AW.block ?_;refine AW.bw (λi:qO (aI u) u.ao.length=>[.sl 8 (.v (iv i.k)), .rt 1 .box (T.s 9 1 λk c=>([(T.v (iv u.Next),none),(T.v (iv u.bF),none),(T.j,none),(T.j,none),(T.j,none),(T.j,none),(T.j,none),(T.j,none),(T.j,none)].getD (k*9+c) (T.j,none)).fst), .al 1 2 (.h aa []), .al 1 3 (.h (aa+1) []), .al 1 4 (.h (aa+2) []), .al 1 5 (.h (aa+3) []), .al 1 6 (.h (aa+4) []), .al 1 7 (.h (aa+5) []), .al 1 8 (.h (aa+6) []), .rt aa .ro (tr u.aV), .rt (aa+1) .ro (tr u.ah), .rt (aa+2) .ro (tr u.ax), .rt (aa+3) .ro (tr u.ao), .rt (aa+4) .ro (tr u.aC), .rt (aa+5) .ro (tr u.aR), .rt (aa+6) .ro (tr u.Out), .sl 1 (.p 1 [] 9 0 0), .sl 6 (.h (aa+3) []), .sl 7 (.v (iv u.ao.length))]) (λi=>u.ao.length-i.k) ⟨0,zero_le _,λ_ h=>absurd h (not_lt_zero _)⟩ (ws) ?_;intro i;have hle:=i.le;have hTi:((i.k:Int)-1).toNat=i.k-1:=by omega
 refine go [.R,.b,.Z] (k:=?_);refine AW.seq ?_;refine cd (λc1=>?_) λc1=>?_
 ·try simp only[ai]at c1
  refine jd (AW.seq (AW.block (sr ?_)));refine go [.m,.N,.i,.G,.A,.N,.a,.s,.Z] (k:=?_);refine AW.seq (AW.seq ?_);refine go [.D [0,1,3,4,5,6,7,8,9,10,11,12,13,14,15,16,17,18,19,20,21,22,23,24,25,26,27,28,30,31],.t 0,.f,.N,.t 1,.l] (k:=?_);refine a1 2 [] [1,0] rfl rfl (aK.aL rfl (by decide) Tryz.call144 rfl rfl (dW _ _ _)) ?_;refine go [.N,.t 3,.n,.t 4,.m] (k:=?_);refine aQ.split 17 rfl (λg2=>?_) (λg2=>?_)
  ·refine go [.t 5,.x,.N,.t 6,.x,.t 7,.x,.t 8,.x,.N,.t 9,.x,.t 10,.x,.t 11,.x,.N,.t 12,.x,.t 13,.x,.t 14,.x,.N,.t 15,.x,.t 16,.x,.t 17,.x,.N,.t 18,.x] (k:=?_);refine tk 19 rfl (Qt.bl rfl g2) ?_;refine go [.t 20,.m,.N] (k:=?_);refine aQ.split 33 rfl (λg3=>?_) (λg3=>?_)
   ·refine go [.t 21,.x,.t 22,.x,.t 23,.x,.N,.t 24,.x] (k:=?_);refine tk 25 rfl (Qt.bl rfl g3) ?_;refine go [.t 26,.m,.N] (k:=?_);refine aQ.split 39 rfl (λg4=>?_) (λg4=>?_)
    ·refine go [.t 27,.x,.t 28,.x,.O 29 [] [28,26,27,25,20,24,19,7,23,18,4,6,22,17,3,2,5,21,16,14,1,15,13,0,12,11,9,10,8],.x,.N,.t 30,.x] (k:=?_);refine tk 31 rfl (Qt.bl rfl g4) ?_;refine go [.Z] (k:=?_);refine cd (λc5=>?_) λc5=>?_
     ·try simp only[ai]at c5
      have hS:=i.stop (by omega) (show(aI u) i.k=false by simp only[aI,aH,aY];grind only);refine go [.R,.a,.Z] (k:=?_);refine aM 2 ?_;refine rb ?_;simp only[aG];grind only
     try simp only[ai]at c5
     refine go [.J,.R,.f,.N,.l] (k:=?_);refine qq Qt.makeFunc ?_;refine cv Tryz.call202 rfl rfl (bf.gE (dP (u.ao.getD i.k En.ab) Tryz.call203 (λx=>cH (u.ao.getD i.k En.ab) x) u.ax) ⟨⟨_,rfl,au⟩,⟨_,rfl,(cB (λc hc=>match c,hc with|0,_=>au|1,_=>au|c+2,hc=>absurd hc (by simp only[En.n];omega)))⟩,trivial⟩ rfl rfl rfl) ?_;refine go [.N,.n,.Z] (k:=?_);refine cd (λc6=>?_) λc6=>?_
     ·try simp only[ai]at c6
      have hS:=i.stop (by omega) (show(aI u) i.k=false by simp only[aI,aH,aY];grind only);refine go [.R,.a,.Z] (k:=?_);refine aM 2 ?_;refine rb ?_;simp only[aG];grind only
     try simp only[ai]at c6
     refine go [.J,.R1,.b,.N,.m,.Z] (k:=?_);refine⟨⟨i.k+1,by omega,i.next (show(aI u) i.k=true by simp only[aI,aH,aY];grind only)⟩,ws,?_⟩;show u.ao.length-(i.k+1)<u.ao.length-i.k;omega
    refine go [.t 27,.f,.t 28,.l,.N] (k:=?_);refine a1 29 [] [28,26,27,25,20,24,19,7,23,18,4,6,22,17,3,2,5,21,16,14,1,15,13,0,12,11,9,10,8] rfl (nF g4) (aK.aL rfl (by decide) Tryz.call145 rfl rfl (cl _)) ?_;refine go [.N,.t 30,.n] (k:=?_);refine tk 31 rfl (Qt.bd rfl g4) ?_;refine go [.Z] (k:=?_);refine cd (λc7=>?_) λc7=>?_
    ·try simp only[ai]at c7
     have hS:=i.stop (by omega) (show(aI u) i.k=false by simp only[aI,aH,aY];grind only);refine go [.R,.a,.Z] (k:=?_);refine aM 2 ?_;refine rb ?_;simp only[aG];grind only
    try simp only[ai]at c7
    refine go [.J,.R,.f,.N,.l] (k:=?_);refine qq Qt.makeFunc ?_;refine cv Tryz.call202 rfl rfl (bf.gE (dP (u.ao.getD i.k En.ab) Tryz.call203 (λx=>cH (u.ao.getD i.k En.ab) x) u.ax) ⟨⟨_,rfl,au⟩,⟨_,rfl,(cB (λc hc=>match c,hc with|0,_=>au|1,_=>au|c+2,hc=>absurd hc (by simp only[En.n];omega)))⟩,trivial⟩ rfl rfl rfl) ?_;refine go [.N,.n,.Z] (k:=?_);refine cd (λc8=>?_) λc8=>?_
    ·try simp only[ai]at c8
     have hS:=i.stop (by omega) (show(aI u) i.k=false by simp only[aI,aH,aY];grind only);refine go [.R,.a,.Z] (k:=?_);refine aM 2 ?_;refine rb ?_;simp only[aG];grind only
    try simp only[ai]at c8
    refine go [.J,.R1,.b,.N,.m,.Z] (k:=?_);refine⟨⟨i.k+1,by omega,i.next (show(aI u) i.k=true by simp only[aI,aH,aY];grind only)⟩,ws,?_⟩;show u.ao.length-(i.k+1)<u.ao.length-i.k;omega
   refine go [.t 21,.f,.t 22,.l,.N,.t 23,.h,.t 24,.b] (k:=?_);refine tk 25 rfl (Qt.bd rfl g3) ?_;refine go [.N,.t 26,.m] (k:=?_);refine aQ.split 39 rfl (λg9=>?_) (λg9=>?_)
   ·refine go [.t 27,.x,.t 28,.x,.N,.O 29 [] [28,26,27,25,20,24,19,7,23,18,4,6,22,17,3,2,5,21,16,14,1,15,13,0,12,11,9,10,8],.x,.N,.t 30,.x] (k:=?_);refine tk 31 rfl (Qt.bl rfl g9) ?_;refine go [.Z] (k:=?_);refine cd (λc10=>?_) λc10=>?_
    ·try simp only[ai]at c10
     have hS:=i.stop (by omega) (show(aI u) i.k=false by simp only[aI,aH,aY];grind only);refine go [.R,.a,.Z] (k:=?_);refine aM 2 ?_;refine rb ?_;simp only[aG];grind only
    try simp only[ai]at c10
    refine go [.J,.R,.f,.N,.l] (k:=?_);refine qq Qt.makeFunc ?_;refine cv Tryz.call202 rfl rfl (bf.gE (dP (u.ao.getD i.k En.ab) Tryz.call203 (λx=>cH (u.ao.getD i.k En.ab) x) u.ax) ⟨⟨_,rfl,au⟩,⟨_,rfl,(cB (λc hc=>match c,hc with|0,_=>au|1,_=>au|c+2,hc=>absurd hc (by simp only[En.n];omega)))⟩,trivial⟩ rfl rfl rfl) ?_;refine go [.N,.n,.Z] (k:=?_);refine cd (λc11=>?_) λc11=>?_
    ·try simp only[ai]at c11
     have hS:=i.stop (by omega) (show(aI u) i.k=false by simp only[aI,aH,aY];grind only);refine go [.R,.a,.Z] (k:=?_);refine aM 2 ?_;refine rb ?_;simp only[aG];grind only
    try simp only[ai]at c11
    refine go [.J,.R1,.b,.N,.m,.Z] (k:=?_);refine⟨⟨i.k+1,by omega,i.next (show(aI u) i.k=true by simp only[aI,aH,aY];grind only)⟩,ws,?_⟩;show u.ao.length-(i.k+1)<u.ao.length-i.k;omega
   refine go [.t 27,.f,.t 28,.l,.N] (k:=?_);refine a1 29 [] [28,26,27,25,20,24,19,7,23,18,4,6,22,17,3,2,5,21,16,14,1,15,13,0,12,11,9,10,8] rfl (nF g9) (aK.aL rfl (by decide) Tryz.call145 rfl rfl (cl _)) ?_;refine go [.N,.t 30,.n] (k:=?_);refine tk 31 rfl (Qt.bd rfl g9) ?_;refine go [.Z] (k:=?_);refine cd (λc12=>?_) λc12=>?_
   ·try simp only[ai]at c12
    have hS:=i.stop (by omega) (show(aI u) i.k=false by simp only[aI,aH,aY];grind only);refine go [.R,.a,.Z] (k:=?_);refine aM 2 ?_;refine rb ?_;simp only[aG];grind only
   try simp only[ai]at c12
   refine go [.J,.R,.f,.N,.l] (k:=?_);refine qq Qt.makeFunc ?_;refine cv Tryz.call202 rfl rfl (bf.gE (dP (u.ao.getD i.k En.ab) Tryz.call203 (λx=>cH (u.ao.getD i.k En.ab) x) u.ax) ⟨⟨_,rfl,au⟩,⟨_,rfl,(cB (λc hc=>match c,hc with|0,_=>au|1,_=>au|c+2,hc=>absurd hc (by simp only[En.n];omega)))⟩,trivial⟩ rfl rfl rfl) ?_;refine go [.N,.n,.Z] (k:=?_);refine cd (λc13=>?_) λc13=>?_
   ·try simp only[ai]at c13
    have hS:=i.stop (by omega) (show(aI u) i.k=false by simp only[aI,aH,aY];grind only);refine go [.R,.a,.Z] (k:=?_);refine aM 2 ?_;refine rb ?_;simp only[aG];grind only
   try simp only[ai]at c13
   refine go [.J,.R1,.b,.N,.m,.Z] (k:=?_);refine⟨⟨i.k+1,by omega,i.next (show(aI u) i.k=true by simp only[aI,aH,aY];grind only)⟩,ws,?_⟩;show u.ao.length-(i.k+1)<u.ao.length-i.k;omega
  refine go [.t 5,.m,.t 6,.b,.N,.t 7,.m] (k:=?_);refine aQ.split 20 rfl (λg14=>?_) (λg14=>?_)
  ·refine go [.t 8,.f,.t 9,.l,.N,.t 10,.m,.t 11,.b,.t 12,.i,.N,.t 13,.f,.t 14,.l,.t 15,.f,.N,.t 16,.l,.t 17,.b] (k:=?_);refine tg 18 rfl (nF g2) (Qt.bl rfl g14) ?_;refine go [.N] (k:=?_);refine tk 19 rfl (Qt.bd rfl g2) ?_;refine go [.t 20,.m] (k:=?_);refine aQ.split 33 rfl (λg15=>?_) (λg15=>?_)
   ·refine go [.t 21,.x,.N,.t 22,.x,.t 23,.x,.t 24,.x,.N] (k:=?_);refine tk 25 rfl (Qt.bl rfl g15) ?_;refine go [.t 26,.m] (k:=?_);refine aQ.split 39 rfl (λg16=>?_) (λg16=>?_)
    ·refine go [.t 27,.x,.N,.t 28,.x,.O 29 [] [28,26,27,25,20,24,19,7,23,18,4,6,22,17,3,2,5,21,16,14,1,15,13,0,12,11,9,10,8],.x,.N,.t 30,.x] (k:=?_);refine tk 31 rfl (Qt.bl rfl g16) ?_;refine go [.Z] (k:=?_);refine cd (λc17=>?_) λc17=>?_
     ·try simp only[ai]at c17
      have hS:=i.stop (by omega) (show(aI u) i.k=false by simp only[aI,aH,aY];grind only);refine go [.R,.a,.Z] (k:=?_);refine aM 2 ?_;refine rb ?_;simp only[aG];grind only
     try simp only[ai]at c17
     refine go [.J,.R,.f,.N,.l] (k:=?_);refine qq Qt.makeFunc ?_;refine cv Tryz.call202 rfl rfl (bf.gE (dP (u.ao.getD i.k En.ab) Tryz.call203 (λx=>cH (u.ao.getD i.k En.ab) x) u.ax) ⟨⟨_,rfl,au⟩,⟨_,rfl,(cB (λc hc=>match c,hc with|0,_=>au|1,_=>au|c+2,hc=>absurd hc (by simp only[En.n];omega)))⟩,trivial⟩ rfl rfl rfl) ?_;refine go [.N,.n,.Z] (k:=?_);refine cd (λc18=>?_) λc18=>?_
     ·try simp only[ai]at c18
      have hS:=i.stop (by omega) (show(aI u) i.k=false by simp only[aI,aH,aY];grind only);refine go [.R,.a,.Z] (k:=?_);refine aM 2 ?_;refine rb ?_;simp only[aG];grind only
     try simp only[ai]at c18
     refine go [.J,.R1,.b,.N,.m,.Z] (k:=?_);refine⟨⟨i.k+1,by omega,i.next (show(aI u) i.k=true by simp only[aI,aH,aY];grind only)⟩,ws,?_⟩;show u.ao.length-(i.k+1)<u.ao.length-i.k;omega
    refine go [.t 27,.f,.t 28,.l,.N] (k:=?_);refine a1 29 [] [28,26,27,25,20,24,19,7,23,18,4,6,22,17,3,2,5,21,16,14,1,15,13,0,12,11,9,10,8] rfl (nF g16) (aK.aL rfl (by decide) Tryz.call145 rfl rfl (cl _)) ?_;refine go [.N,.t 30,.n] (k:=?_);refine tk 31 rfl (Qt.bd rfl g16) ?_;refine go [.Z] (k:=?_);refine cd (λc19=>?_) λc19=>?_
    ·try simp only[ai]at c19
     have hS:=i.stop (by omega) (show(aI u) i.k=false by simp only[aI,aH,aY];grind only);refine go [.R,.a,.Z] (k:=?_);refine aM 2 ?_;refine rb ?_;simp only[aG];grind only
    try simp only[ai]at c19
    refine go [.J,.R,.f,.N,.l] (k:=?_);refine qq Qt.makeFunc ?_;refine cv Tryz.call202 rfl rfl (bf.gE (dP (u.ao.getD i.k En.ab) Tryz.call203 (λx=>cH (u.ao.getD i.k En.ab) x) u.ax) ⟨⟨_,rfl,au⟩,⟨_,rfl,(cB (λc hc=>match c,hc with|0,_=>au|1,_=>au|c+2,hc=>absurd hc (by simp only[En.n];omega)))⟩,trivial⟩ rfl rfl rfl) ?_;refine go [.N,.n,.Z] (k:=?_);refine cd (λc20=>?_) λc20=>?_
    ·try simp only[ai]at c20
     have hS:=i.stop (by omega) (show(aI u) i.k=false by simp only[aI,aH,aY];grind only);refine go [.R,.a,.Z] (k:=?_);refine aM 2 ?_;refine rb ?_;simp only[aG];grind only
    try simp only[ai]at c20
    refine go [.J,.R1,.b,.N,.m,.Z] (k:=?_);refine⟨⟨i.k+1,by omega,i.next (show(aI u) i.k=true by simp only[aI,aH,aY];grind only)⟩,ws,?_⟩;show u.ao.length-(i.k+1)<u.ao.length-i.k;omega
   refine go [.t 21,.f,.t 22,.l,.N,.t 23,.h,.t 24,.b] (k:=?_);refine tk 25 rfl (Qt.bd rfl g15) ?_;refine go [.N,.t 26,.m] (k:=?_);refine aQ.split 39 rfl (λg21=>?_) (λg21=>?_)
   ·refine go [.t 27,.x,.t 28,.x,.N,.O 29 [] [28,26,27,25,20,24,19,7,23,18,4,6,22,17,3,2,5,21,16,14,1,15,13,0,12,11,9,10,8],.x,.N,.t 30,.x] (k:=?_);refine tk 31 rfl (Qt.bl rfl g21) ?_;refine go [.Z] (k:=?_);refine cd (λc22=>?_) λc22=>?_
    ·try simp only[ai]at c22
     have hS:=i.stop (by omega) (show(aI u) i.k=false by simp only[aI,aH,aY];grind only);refine go [.R,.a,.Z] (k:=?_);refine aM 2 ?_;refine rb ?_;simp only[aG];grind only
    try simp only[ai]at c22
    refine go [.J,.R,.f,.N,.l] (k:=?_);refine qq Qt.makeFunc ?_;refine cv Tryz.call202 rfl rfl (bf.gE (dP (u.ao.getD i.k En.ab) Tryz.call203 (λx=>cH (u.ao.getD i.k En.ab) x) u.ax) ⟨⟨_,rfl,au⟩,⟨_,rfl,(cB (λc hc=>match c,hc with|0,_=>au|1,_=>au|c+2,hc=>absurd hc (by simp only[En.n];omega)))⟩,trivial⟩ rfl rfl rfl) ?_;refine go [.N,.n,.Z] (k:=?_);refine cd (λc23=>?_) λc23=>?_
    ·try simp only[ai]at c23
     have hS:=i.stop (by omega) (show(aI u) i.k=false by simp only[aI,aH,aY];grind only);refine go [.R,.a,.Z] (k:=?_);refine aM 2 ?_;refine rb ?_;simp only[aG];grind only
    try simp only[ai]at c23
    refine go [.J,.R1,.b,.N,.m,.Z] (k:=?_);refine⟨⟨i.k+1,by omega,i.next (show(aI u) i.k=true by simp only[aI,aH,aY];grind only)⟩,ws,?_⟩;show u.ao.length-(i.k+1)<u.ao.length-i.k;omega
   refine go [.t 27,.f,.t 28,.l,.N] (k:=?_);refine a1 29 [] [28,26,27,25,20,24,19,7,23,18,4,6,22,17,3,2,5,21,16,14,1,15,13,0,12,11,9,10,8] rfl (nF g21) (aK.aL rfl (by decide) Tryz.call145 rfl rfl (cl _)) ?_;refine go [.N,.t 30,.n] (k:=?_);refine tk 31 rfl (Qt.bd rfl g21) ?_;refine go [.Z] (k:=?_);refine cd (λc24=>?_) λc24=>?_
   ·try simp only[ai]at c24
    have hS:=i.stop (by omega) (show(aI u) i.k=false by simp only[aI,aH,aY];grind only);refine go [.R,.a,.Z] (k:=?_);refine aM 2 ?_;refine rb ?_;simp only[aG];grind only
   try simp only[ai]at c24
   refine go [.J,.R,.f,.N,.l] (k:=?_);refine qq Qt.makeFunc ?_;refine cv Tryz.call202 rfl rfl (bf.gE (dP (u.ao.getD i.k En.ab) Tryz.call203 (λx=>cH (u.ao.getD i.k En.ab) x) u.ax) ⟨⟨_,rfl,au⟩,⟨_,rfl,(cB (λc hc=>match c,hc with|0,_=>au|1,_=>au|c+2,hc=>absurd hc (by simp only[En.n];omega)))⟩,trivial⟩ rfl rfl rfl) ?_;refine go [.N,.n,.Z] (k:=?_);refine cd (λc25=>?_) λc25=>?_
   ·try simp only[ai]at c25
    have hS:=i.stop (by omega) (show(aI u) i.k=false by simp only[aI,aH,aY];grind only);refine go [.R,.a,.Z] (k:=?_);refine aM 2 ?_;refine rb ?_;simp only[aG];grind only
   try simp only[ai]at c25
   refine go [.J,.R1,.b,.N,.m,.Z] (k:=?_);refine⟨⟨i.k+1,by omega,i.next (show(aI u) i.k=true by simp only[aI,aH,aY];grind only)⟩,ws,?_⟩;show u.ao.length-(i.k+1)<u.ao.length-i.k;omega
  refine go [.t 8,.x,.t 9,.x,.N,.t 10,.x,.t 11,.x,.t 12,.x,.N,.t 13,.x,.t 14,.x,.t 15,.x,.N,.t 16,.x,.t 17,.x] (k:=?_);refine tg 18 rfl (nF g2) (Qt.bd rfl g14) ?_;refine go [.N] (k:=?_);refine tk 19 rfl (Qt.bd rfl g2) ?_;refine go [.t 20,.m] (k:=?_);refine aQ.split 33 rfl (λg26=>?_) (λg26=>?_)
  ·refine go [.t 21,.x,.N,.t 22,.x,.t 23,.x,.t 24,.x,.N] (k:=?_);refine tk 25 rfl (Qt.bl rfl g26) ?_;refine go [.t 26,.m] (k:=?_);refine aQ.split 39 rfl (λg27=>?_) (λg27=>?_)
   ·refine go [.t 27,.x,.N,.t 28,.x,.O 29 [] [28,26,27,25,20,24,19,7,23,18,4,6,22,17,3,2,5,21,16,14,1,15,13,0,12,11,9,10,8],.x,.N,.t 30,.x] (k:=?_);refine tk 31 rfl (Qt.bl rfl g27) ?_;refine go [.Z] (k:=?_);refine cd (λc28=>?_) λc28=>?_
    ·try simp only[ai]at c28
     have hS:=i.stop (by omega) (show(aI u) i.k=false by simp only[aI,aH,aY];grind only);refine go [.R,.a,.Z] (k:=?_);refine aM 2 ?_;refine rb ?_;simp only[aG];grind only
    try simp only[ai]at c28
    refine go [.J,.R,.f,.N,.l] (k:=?_);refine qq Qt.makeFunc ?_;refine cv Tryz.call202 rfl rfl (bf.gE (dP (u.ao.getD i.k En.ab) Tryz.call203 (λx=>cH (u.ao.getD i.k En.ab) x) u.ax) ⟨⟨_,rfl,au⟩,⟨_,rfl,(cB (λc hc=>match c,hc with|0,_=>au|1,_=>au|c+2,hc=>absurd hc (by simp only[En.n];omega)))⟩,trivial⟩ rfl rfl rfl) ?_;refine go [.N,.n,.Z] (k:=?_);refine cd (λc29=>?_) λc29=>?_
    ·try simp only[ai]at c29
     have hS:=i.stop (by omega) (show(aI u) i.k=false by simp only[aI,aH,aY];grind only);refine go [.R,.a,.Z] (k:=?_);refine aM 2 ?_;refine rb ?_;simp only[aG];grind only
    try simp only[ai]at c29
    refine go [.J,.R1,.b,.N,.m,.Z] (k:=?_);refine⟨⟨i.k+1,by omega,i.next (show(aI u) i.k=true by simp only[aI,aH,aY];grind only)⟩,ws,?_⟩;show u.ao.length-(i.k+1)<u.ao.length-i.k;omega
   refine go [.t 27,.f,.t 28,.l,.N] (k:=?_);refine a1 29 [] [28,26,27,25,20,24,19,7,23,18,4,6,22,17,3,2,5,21,16,14,1,15,13,0,12,11,9,10,8] rfl (nF g27) (aK.aL rfl (by decide) Tryz.call145 rfl rfl (cl _)) ?_;refine go [.N,.t 30,.n] (k:=?_);refine tk 31 rfl (Qt.bd rfl g27) ?_;refine go [.Z] (k:=?_);refine cd (λc30=>?_) λc30=>?_
   ·try simp only[ai]at c30
    have hS:=i.stop (by omega) (show(aI u) i.k=false by simp only[aI,aH,aY];grind only);refine go [.R,.a,.Z] (k:=?_);refine aM 2 ?_;refine rb ?_;simp only[aG];grind only
   try simp only[ai]at c30
   refine go [.J,.R,.f,.N,.l] (k:=?_);refine qq Qt.makeFunc ?_;refine cv Tryz.call202 rfl rfl (bf.gE (dP (u.ao.getD i.k En.ab) Tryz.call203 (λx=>cH (u.ao.getD i.k En.ab) x) u.ax) ⟨⟨_,rfl,au⟩,⟨_,rfl,(cB (λc hc=>match c,hc with|0,_=>au|1,_=>au|c+2,hc=>absurd hc (by simp only[En.n];omega)))⟩,trivial⟩ rfl rfl rfl) ?_;refine go [.N,.n,.Z] (k:=?_);refine cd (λc31=>?_) λc31=>?_
   ·try simp only[ai]at c31
    have hS:=i.stop (by omega) (show(aI u) i.k=false by simp only[aI,aH,aY];grind only);refine go [.R,.a,.Z] (k:=?_);refine aM 2 ?_;refine rb ?_;simp only[aG];grind only
   try simp only[ai]at c31
   refine go [.J,.R1,.b,.N,.m,.Z] (k:=?_);refine⟨⟨i.k+1,by omega,i.next (show(aI u) i.k=true by simp only[aI,aH,aY];grind only)⟩,ws,?_⟩;show u.ao.length-(i.k+1)<u.ao.length-i.k;omega
  refine go [.t 21,.f,.t 22,.l,.N,.t 23,.h,.t 24,.b] (k:=?_);refine tk 25 rfl (Qt.bd rfl g26) ?_;refine go [.N,.t 26,.m] (k:=?_);refine aQ.split 39 rfl (λg32=>?_) (λg32=>?_)
  ·refine go [.t 27,.x,.t 28,.x,.N,.O 29 [] [28,26,27,25,20,24,19,7,23,18,4,6,22,17,3,2,5,21,16,14,1,15,13,0,12,11,9,10,8],.x,.N,.t 30,.x] (k:=?_);refine tk 31 rfl (Qt.bl rfl g32) ?_;refine go [.Z] (k:=?_);refine cd (λc33=>?_) λc33=>?_
   ·try simp only[ai]at c33
    have hS:=i.stop (by omega) (show(aI u) i.k=false by simp only[aI,aH,aY];grind only);refine go [.R,.a,.Z] (k:=?_);refine aM 2 ?_;refine rb ?_;simp only[aG];grind only
   try simp only[ai]at c33
   refine go [.J,.R,.f,.N,.l] (k:=?_);refine qq Qt.makeFunc ?_;refine cv Tryz.call202 rfl rfl (bf.gE (dP (u.ao.getD i.k En.ab) Tryz.call203 (λx=>cH (u.ao.getD i.k En.ab) x) u.ax) ⟨⟨_,rfl,au⟩,⟨_,rfl,(cB (λc hc=>match c,hc with|0,_=>au|1,_=>au|c+2,hc=>absurd hc (by simp only[En.n];omega)))⟩,trivial⟩ rfl rfl rfl) ?_;refine go [.N,.n,.Z] (k:=?_);refine cd (λc34=>?_) λc34=>?_
   ·try simp only[ai]at c34
    have hS:=i.stop (by omega) (show(aI u) i.k=false by simp only[aI,aH,aY];grind only);refine go [.R,.a,.Z] (k:=?_);refine aM 2 ?_;refine rb ?_;simp only[aG];grind only
   try simp only[ai]at c34
   refine go [.J,.R1,.b,.N,.m,.Z] (k:=?_);refine⟨⟨i.k+1,by omega,i.next (show(aI u) i.k=true by simp only[aI,aH,aY];grind only)⟩,ws,?_⟩;show u.ao.length-(i.k+1)<u.ao.length-i.k;omega
  refine go [.t 27,.f,.t 28,.l,.N] (k:=?_);refine a1 29 [] [28,26,27,25,20,24,19,7,23,18,4,6,22,17,3,2,5,21,16,14,1,15,13,0,12,11,9,10,8] rfl (nF g32) (aK.aL rfl (by decide) Tryz.call145 rfl rfl (cl _)) ?_;refine go [.N,.t 30,.n] (k:=?_);refine tk 31 rfl (Qt.bd rfl g32) ?_;refine go [.Z] (k:=?_);refine cd (λc35=>?_) λc35=>?_
  ·try simp only[ai]at c35
   have hS:=i.stop (by omega) (show(aI u) i.k=false by simp only[aI,aH,aY];grind only);refine go [.R,.a,.Z] (k:=?_);refine aM 2 ?_;refine rb ?_;simp only[aG];grind only
  try simp only[ai]at c35
  refine go [.J,.R,.f,.N,.l] (k:=?_);refine qq Qt.makeFunc ?_;refine cv Tryz.call202 rfl rfl (bf.gE (dP (u.ao.getD i.k En.ab) Tryz.call203 (λx=>cH (u.ao.getD i.k En.ab) x) u.ax) ⟨⟨_,rfl,au⟩,⟨_,rfl,(cB (λc hc=>match c,hc with|0,_=>au|1,_=>au|c+2,hc=>absurd hc (by simp only[En.n];omega)))⟩,trivial⟩ rfl rfl rfl) ?_;refine go [.N,.n,.Z] (k:=?_);refine cd (λc36=>?_) λc36=>?_
  ·try simp only[ai]at c36
   have hS:=i.stop (by omega) (show(aI u) i.k=false by simp only[aI,aH,aY];grind only);refine go [.R,.a,.Z] (k:=?_);refine aM 2 ?_;refine rb ?_;simp only[aG];grind only
  try simp only[ai]at c36
  refine go [.J,.R1,.b,.N,.m,.Z] (k:=?_);refine⟨⟨i.k+1,by omega,i.next (show(aI u) i.k=true by simp only[aI,aH,aY];grind only)⟩,ws,?_⟩;show u.ao.length-(i.k+1)<u.ao.length-i.k;omega
 try simp only[ai]at c1
 have hA:=i.full (by omega);refine AW.exit ?_;dsimp only[aJ,ay,reduceIte];refine go [.R,.f,.l,.N,.h,.b,.a,.Z] (k:=?_);refine aM 2 ?_;refine rb ?_;simp only[aG];grind only
end Go.Proofs.YtekcnnngjoonbaaGreat.VM

