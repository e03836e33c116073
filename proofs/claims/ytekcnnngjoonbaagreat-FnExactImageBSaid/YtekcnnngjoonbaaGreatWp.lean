/- Contracts. No conditions. -/
import Derived.Test.YtekcnnngjoonbaaGreatWn
import Derived.Test.YtekcnnngjoonbaaGreatWo
set_option linter.all false
set_option maxHeartbeats 8000000
set_option maxRecDepth 10000
namespace Go.Proofs.YtekcnnngjoonbaaGreat.VM
open List Nat
open Go Go.RowKit Go.Proofs Go.Proofs.Tryz
theorem tE(u:aX):a_ prog 141 [.g [.v (iv u.Next),.v (iv u.bp),.h aa [],.h (aa+1) [],.h (aa+2) [],.h (aa+3) [],.h (aa+4) [],.h (aa+5) [],.h (aa+6) []]] [.rt aa .ro (tr u.aP),.rt (aa+1) .ro (tr u.ag),.rt (aa+2) .ro (tr u.ao),.rt (aa+3) .ro (tr u.ak),.rt (aa+4) .ro (tr u.ay),.rt (aa+5) .ro (tr u.aN),.rt (aa+6) .ro (tr u.Out)] (λy _=>y= .v (.bool (jK u))):=by
 refine ob func141 ntmps141 ?_;refine AW.len (aa+1) [] rfl (by simp[bT]) rfl (λhl1=>?_);rw[vQ];refine go [.R,.B,.N,.a,.Z,.R,.a,.Z,.R2,.a,.Z] ?_;refine AW.block ?_;refine AW.aL (λi:q_ (jk u) u.ag.length=>[.sl 4 (.v (iv i.k)),.sl 3 (.v (iv (gD u.ag i.k:Nat))),.rt 1 .box (T.s 9 1 λk c=>([(T.v (iv u.Next),none),(T.v (iv u.bp),none),(T.j,none),(T.j,none),(T.j,none),(T.j,none),(T.j,none),(T.j,none),(T.j,none)].getD (k*9+c) (T.j,none)).fst),.al 1 2 (.h aa []),.al 1 3 (.h (aa+1) []),.al 1 4 (.h (aa+2) []),.al 1 5 (.h (aa+3) []),.al 1 6 (.h (aa+4) []),.al 1 7 (.h (aa+5) []),.al 1 8 (.h (aa+6) []),.rt aa .ro (tr u.aP),.rt (aa+1) .ro (tr u.ag),.rt (aa+2) .ro (tr u.ao),.rt (aa+3) .ro (tr u.ak),.rt (aa+4) .ro (tr u.ay),.rt (aa+5) .ro (tr u.aN),.rt (aa+6) .ro (tr u.Out),.sl 1 (.p 1 [] 9 0 0)]) (λi=>u.ag.length-i.k) ⟨0,zero_le _,λ_ h=>absurd h (not_lt_zero _)⟩ (ws) ?_;intro i;have hle:=i.le;have hTi:((i.k:Int)-1).toNat=i.k-1:=by omega
 have hm:=mQ u.ag i.k;have hs1:=sT u.ag i.k;refine go [.R2,.m,.N,.f,.l,.h,.N,.b,.Z] ?_;refine cd (λc1=>?_) λc1=>?_
 ·try simp only[ah]at c1
  refine jd (AW.seq (AW.block (sr ?_)));refine go [.f,.l,.N,.m,.i,.f,.N,.l,.b,.Z] ?_;refine cd (λc2=>?_) λc2=>?_
  ·try simp only[ah]at c2
   refine go [.R,.m,.N,.b,.a,.Z] ?_;refine AW.seq ?_;refine go [.D [0,1,2,3,4,5,6,7,9],.t 0,.f,.N,.t 1,.l,.t 2,.f,.t 3,.l,.N,.t 4,.m,.t 5,.i,.t 6,.f,.N,.t 7,.l] ?_;refine a1 8 [] [7,1,6,0,5,4,3,2] rfl rfl (aE.aC rfl (by decide) call143 rfl rfl (gZ _ _)) ?_;refine go [.N,.t 9,.n,.Z] ?_;refine cd (λc3=>?_) λc3=>?_
   ·try simp only[ah]at c3
    have hS:=i.stop (by omega) (show(jk u) i.k=false by simp only[jk];grind only);refine go [.R,.a,.Z] ?_;refine aQ 2 ?_;refine rb ?_;grind only
   try simp only[ah]at c3
   refine go [.J,.R1,.m,.N,.b,.a,.Z] ?_;refine⟨⟨i.k+1,by omega,i.next (show(jk u) i.k=true by simp only[jk];grind only)⟩,ar.bb ⟨ew,by simp only[ax,reduceIte,Nat.reduceEqDiff];congr 2;rw[hs1];grind only,Rf rfl,⟨rfl,rfl⟩,⟨rfl,rfl⟩,⟨rfl,rfl⟩,⟨rfl,rfl⟩,⟨rfl,rfl⟩,⟨rfl,rfl⟩,⟨rfl,rfl⟩,Rf rfl,Rf rfl,Rf rfl,Rf rfl,Rf rfl,Rf rfl,Rf rfl,rfl,trivial⟩ rfl rfl,?_⟩;show u.ag.length-(i.k+1)<u.ag.length-i.k;omega
  try simp only[ah]at c2
  refine go [.J,.R1,.m,.N,.b,.a,.Z] ?_;refine⟨⟨i.k+1,by omega,i.next (show(jk u) i.k=true by simp only[jk];grind only)⟩,ar.bb ⟨ew,by simp only[ax,reduceIte,Nat.reduceEqDiff];congr 2;rw[hs1];grind only,Rf rfl,⟨rfl,rfl⟩,⟨rfl,rfl⟩,⟨rfl,rfl⟩,⟨rfl,rfl⟩,⟨rfl,rfl⟩,⟨rfl,rfl⟩,⟨rfl,rfl⟩,Rf rfl,Rf rfl,Rf rfl,Rf rfl,Rf rfl,Rf rfl,Rf rfl,rfl,trivial⟩ rfl rfl,?_⟩;show u.ag.length-(i.k+1)<u.ag.length-i.k;omega
 try simp only[ah]at c1
 have hA:=i.full (by omega);have hR:gD u.ag i.k=gD u.ag u.ag.length:=congrArg (gD u.ag) (show i.k=u.ag.length by omega);refine AW.exit ?_;dsimp only[aD,au,reduceIte];refine go [.R,.m,.N,.f,.l,.h,.N,.b,.a,.Z] ?_;refine aQ 2 ?_;refine rb ?_;grind only
theorem tA(u:aX)(hb:il u):a_ prog 77 [.g [.v (iv u.Next),.v (iv u.bp),.h aa [],.h (aa+1) [],.h (aa+2) [],.h (aa+3) [],.h (aa+4) [],.h (aa+5) [],.h (aa+6) []]] [.rt aa .ro (tr u.aP),.rt (aa+1) .ro (tr u.ag),.rt (aa+2) .ro (tr u.ao),.rt (aa+3) .ro (tr u.ak),.rt (aa+4) .ro (tr u.ay),.rt (aa+5) .ro (tr u.aN),.rt (aa+6) .ro (tr u.Out)] (λy _=>y= .v (.bool (cy u))):=by
 refine ob func77 ntmps77 ?_;refine AW.len (aa+1) [] rfl (by simp[bT]) rfl (λhl1=>?_);have hpb:=qP hb;refine go [.R,.B,.N,.a,.Z,.R2,.f,.l,.N] ?_;refine cv call135 rfl rfl (cD _ _ _) ?_;refine go [.N,.n,.m] ?_;apply aB.cut 4
 ·intro Kg1;refine aB.bq 9 rfl (λg1=>?_) (λg1=>?_)
  ·refine go [.f,.N,.l] ?_;refine aB.step rfl (nF g1) (aE.aC rfl (by decide) call135 rfl rfl (cD _ _ _)) ?_;refine go [.N,.n] ?_;exact bV 13 [10,11,12,13] (bU g1 _ undef) Kg1
  ·refine go [.x,.x,.x,.x] ?_;exact bX 13 [10,11,12,13] (bY g1 undef _) Kg1
 refine qq (Qt.br rfl rfl rfl) ?_;refine go [.m,.N] ?_;apply aB.cut 4
 ·intro Kg2;refine aB.bq 15 rfl (λg2=>?_) (λg2=>?_)
  ·refine go [.f,.l] ?_;refine aB.step rfl (nF g2) (aE.aC rfl (by decide) call136 rfl rfl (s0 _)) ?_;refine go [.N,.n] ?_;exact bV 19 [16,17,18,19] (bU g2 _ undef) Kg2
  ·refine go [.x,.x,.x,.x] ?_;exact bX 19 [16,17,18,19] (bY g2 undef _) Kg2
 refine qq (Qt.br rfl rfl rfl) ?_;refine go [.m,.N] ?_;apply aB.cut 4
 ·intro Kg3;refine aB.bq 21 rfl (λg3=>?_) (λg3=>?_)
  ·refine go [.f,.l,.h,.N,.b] ?_;exact bV 25 [22,23,24,25] (bU g3 _ undef) Kg3
  ·refine go [.x,.x,.x,.x] ?_;exact bX 25 [22,23,24,25] (bY g3 undef _) Kg3
 refine qq (Qt.br rfl rfl rfl) ?_;refine go [.m,.N] ?_;apply aB.cut 4
 ·intro Kg4;refine aB.bq 27 rfl (λg4=>?_) (λg4=>?_)
  ·refine go [.f,.l] ?_;refine aB.step rfl (nF g4) (aE.aC rfl (by decide) call137 rfl rfl (eS _)) ?_;refine go [.N,.n] ?_;exact bV 31 [28,29,30,31] (bU g4 _ undef) Kg4
  ·refine go [.x,.x,.x,.x] ?_;exact bX 31 [28,29,30,31] (bY g4 undef _) Kg4
 refine qq (Qt.br rfl rfl rfl) ?_;refine go [.m,.N] ?_;apply aB.cut 4
 ·intro Kg5;refine aB.bq 33 rfl (λg5=>?_) (λg5=>?_)
  ·refine go [.f,.l,.h,.N,.b] ?_;exact bV 37 [34,35,36,37] (bU g5 _ undef) Kg5
  ·refine go [.x,.x,.x,.x] ?_;exact bX 37 [34,35,36,37] (bY g5 undef _) Kg5
 refine qq (Qt.br rfl rfl rfl) ?_;refine go [.m,.N] ?_;apply aB.cut 3
 ·intro Kg6;refine aB.bq 39 rfl (λg6=>?_) (λg6=>?_)
  ·refine go [.G] ?_;refine aB.step rfl (nF g6) (aE.aC rfl (by decide) call138 rfl rfl (uj u hb)) ?_;refine go [.N,.b] ?_;exact bV 42 [40,41,42] (bU g6 _ undef) Kg6
  ·refine go [.x,.x,.x] ?_;exact bX 42 [40,41,42] (bY g6 undef _) Kg6
 refine qq (Qt.br rfl rfl rfl) ?_;refine go [.Z] ?_;refine cd (λc7=>?_) λc7=>?_
 ·try simp only[ah]at c7
  refine go [.R,.a,.Z] ?_;refine aQ 2 ?_;refine rb ?_;simp only[cy,dR,bg,b8];grind only
 try simp only[ah]at c7
 refine jd (dq ?_);refine go [.a,.Z] ?_;refine AW.block ?_;refine AW.aL (λi:q_ (cF u) u.ag.length=>[.sl 3 (.v (iv i.k)),.rt 1 .box (T.s 9 1 λk c=>([(T.v (iv u.Next),none),(T.v (iv u.bp),none),(T.j,none),(T.j,none),(T.j,none),(T.j,none),(T.j,none),(T.j,none),(T.j,none)].getD (k*9+c) (T.j,none)).fst),.al 1 2 (.h aa []),.al 1 3 (.h (aa+1) []),.al 1 4 (.h (aa+2) []),.al 1 5 (.h (aa+3) []),.al 1 6 (.h (aa+4) []),.al 1 7 (.h (aa+5) []),.al 1 8 (.h (aa+6) []),.rt aa .ro (tr u.aP),.rt (aa+1) .ro (tr u.ag),.rt (aa+2) .ro (tr u.ao),.rt (aa+3) .ro (tr u.ak),.rt (aa+4) .ro (tr u.ay),.rt (aa+5) .ro (tr u.aN),.rt (aa+6) .ro (tr u.Out),.sl 1 (.p 1 [] 9 0 0)]) (λi=>u.ag.length-i.k) ⟨0,zero_le _,λ_ h=>absurd h (not_lt_zero _)⟩ (ws) ?_;intro i;have hle:=i.le;have hTi:((i.k:Int)-1).toNat=i.k-1:=by omega
 refine go [.R2,.m,.N,.f,.l,.h,.N,.b,.Z] ?_;refine cd (λc8=>?_) λc8=>?_
 ·try simp only[ah]at c8
  refine jd (AW.seq (AW.block (sr ?_)));refine go [.f,.l,.N,.m,.i,.G,.N,.A,.N,.s,.Z] ?_;refine AW.seq ?_;refine go [.D [0,1,2,3,4,6,7,8,9,10,11,12,13,14,15,16,17,18,19,20,21,22,23,24,25,27,28],.t 0,.f,.N,.t 1,.l,.t 2,.f,.t 3,.l,.N,.t 4,.b] ?_;refine a1 5 [] [4,1,3,0,2] rfl rfl (aE.aC rfl (by decide) call135 rfl rfl (cD _ _ _)) ?_;refine go [.N,.t 6,.n,.t 7,.m] ?_;refine aO.split 63 rfl (λg9=>?_) (λg9=>?_)
  ·refine go [.t 8,.x,.N,.t 9,.x,.t 10,.x,.t 11,.x,.N,.t 12,.x,.t 13,.x,.t 14,.x,.N,.t 15,.x,.t 16,.x,.t 17,.x,.N,.t 18,.x,.t 19,.x,.t 20,.x,.N,.t 21,.x] ?_;refine tk 22 rfl (Qt.bj rfl g9) ?_;refine go [.t 23,.m,.N] ?_;refine aO.split 79 rfl (λg10=>?_) (λg10=>?_)
   ·refine go [.t 24,.x,.t 25,.x,.O 26 [] [25,24,23,22,10,21,7,9,20,6,5,8,19,17,4,1,18,16,3,0,15,2,14,12,13,11],.x,.N,.t 27,.x] ?_;refine tk 28 rfl (Qt.bj rfl g10) ?_;refine go [.Z] ?_;refine cd (λc11=>?_) λc11=>?_
    ·try simp only[ah]at c11
     have hS:=i.stop (by omega) (show(cF u) i.k=false by simp only[cF,aI,eE,cM];grind only);refine go [.R,.a,.Z] ?_;refine aQ 2 ?_;refine rb ?_;simp only[cy,dR,bg,b8];grind only
    try simp only[ah]at c11
    refine go [.J,.R1,.m,.N,.b,.a,.Z] ?_;refine⟨⟨i.k+1,by omega,i.next (show(cF u) i.k=true by simp only[cF,aI,eE,cM];grind only)⟩,ws,?_⟩;show u.ag.length-(i.k+1)<u.ag.length-i.k;omega
   refine go [.t 24,.G,.N,.t 25,.G] ?_;refine a1 26 [] [25,24,23,22,10,21,7,9,20,6,5,8,19,17,4,1,18,16,3,0,15,2,14,12,13,11] rfl (nF g10) (aE.aC rfl (by decide) call139 rfl rfl (jM u _)) ?_;refine go [.N,.t 27,.n] ?_;refine tk 28 rfl (Qt.bd rfl g10) ?_;refine go [.Z] ?_;refine cd (λc12=>?_) λc12=>?_
   ·try simp only[ah]at c12
    have hS:=i.stop (by omega) (show(cF u) i.k=false by simp only[cF,aI,eE,cM];grind only);refine go [.R,.a,.Z] ?_;refine aQ 2 ?_;refine rb ?_;simp only[cy,dR,bg,b8];grind only
   try simp only[ah]at c12
   refine go [.J,.R1,.m,.N,.b,.a,.Z] ?_;refine⟨⟨i.k+1,by omega,i.next (show(cF u) i.k=true by simp only[cF,aI,eE,cM];grind only)⟩,ws,?_⟩;show u.ag.length-(i.k+1)<u.ag.length-i.k;omega
  refine go [.t 8,.m,.N,.t 9,.b,.t 10,.m] ?_;refine aO.split 66 rfl (λg13=>?_) (λg13=>?_)
  ·refine go [.t 11,.f,.N,.t 12,.l,.t 13,.m,.t 14,.b,.N,.t 15,.i,.t 16,.f,.t 17,.l,.N,.t 18,.f,.t 19,.l,.t 20,.b,.N] ?_;refine tg 21 rfl (nF g9) (Qt.bj rfl g13) ?_;refine tk 22 rfl (Qt.bd rfl g9) ?_;refine go [.t 23,.m,.N] ?_;refine aO.split 79 rfl (λg14=>?_) (λg14=>?_)
   ·refine go [.t 24,.x,.t 25,.x,.O 26 [] [25,24,23,22,10,21,7,9,20,6,5,8,19,17,4,1,18,16,3,0,15,2,14,12,13,11],.x,.N,.t 27,.x] ?_;refine tk 28 rfl (Qt.bj rfl g14) ?_;refine go [.Z] ?_;refine cd (λc15=>?_) λc15=>?_
    ·try simp only[ah]at c15
     have hS:=i.stop (by omega) (show(cF u) i.k=false by simp only[cF,aI,eE,cM];grind only);refine go [.R,.a,.Z] ?_;refine aQ 2 ?_;refine rb ?_;simp only[cy,dR,bg,b8];grind only
    try simp only[ah]at c15
    refine go [.J,.R1,.m,.N,.b,.a,.Z] ?_;refine⟨⟨i.k+1,by omega,i.next (show(cF u) i.k=true by simp only[cF,aI,eE,cM];grind only)⟩,ws,?_⟩;show u.ag.length-(i.k+1)<u.ag.length-i.k;omega
   refine go [.t 24,.G,.N,.t 25,.G] ?_;refine a1 26 [] [25,24,23,22,10,21,7,9,20,6,5,8,19,17,4,1,18,16,3,0,15,2,14,12,13,11] rfl (nF g14) (aE.aC rfl (by decide) call139 rfl rfl (jM u _)) ?_;refine go [.N,.t 27,.n] ?_;refine tk 28 rfl (Qt.bd rfl g14) ?_;refine go [.Z] ?_;refine cd (λc16=>?_) λc16=>?_
   ·try simp only[ah]at c16
    have hS:=i.stop (by omega) (show(cF u) i.k=false by simp only[cF,aI,eE,cM];grind only);refine go [.R,.a,.Z] ?_;refine aQ 2 ?_;refine rb ?_;simp only[cy,dR,bg,b8];grind only
   try simp only[ah]at c16
   refine go [.J,.R1,.m,.N,.b,.a,.Z] ?_;refine⟨⟨i.k+1,by omega,i.next (show(cF u) i.k=true by simp only[cF,aI,eE,cM];grind only)⟩,ws,?_⟩;show u.ag.length-(i.k+1)<u.ag.length-i.k;omega
  refine go [.t 11,.x,.N,.t 12,.x,.t 13,.x,.t 14,.x,.N,.t 15,.x,.t 16,.x,.t 17,.x,.N,.t 18,.x,.t 19,.x,.t 20,.x,.N] ?_;refine tg 21 rfl (nF g9) (Qt.bd rfl g13) ?_;refine tk 22 rfl (Qt.bd rfl g9) ?_;refine go [.t 23,.m,.N] ?_;refine aO.split 79 rfl (λg17=>?_) (λg17=>?_)
  ·refine go [.t 24,.x,.t 25,.x,.O 26 [] [25,24,23,22,10,21,7,9,20,6,5,8,19,17,4,1,18,16,3,0,15,2,14,12,13,11],.x,.N,.t 27,.x] ?_;refine tk 28 rfl (Qt.bj rfl g17) ?_;refine go [.Z] ?_;refine cd (λc18=>?_) λc18=>?_
   ·try simp only[ah]at c18
    have hS:=i.stop (by omega) (show(cF u) i.k=false by simp only[cF,aI,eE,cM];grind only);refine go [.R,.a,.Z] ?_;refine aQ 2 ?_;refine rb ?_;simp only[cy,dR,bg,b8];grind only
   try simp only[ah]at c18
   refine go [.J,.R1,.m,.N,.b,.a,.Z] ?_;refine⟨⟨i.k+1,by omega,i.next (show(cF u) i.k=true by simp only[cF,aI,eE,cM];grind only)⟩,ws,?_⟩;show u.ag.length-(i.k+1)<u.ag.length-i.k;omega
  refine go [.t 24,.G,.N,.t 25,.G] ?_;refine a1 26 [] [25,24,23,22,10,21,7,9,20,6,5,8,19,17,4,1,18,16,3,0,15,2,14,12,13,11] rfl (nF g17) (aE.aC rfl (by decide) call139 rfl rfl (jM u _)) ?_;refine go [.N,.t 27,.n] ?_;refine tk 28 rfl (Qt.bd rfl g17) ?_;refine go [.Z] ?_;refine cd (λc19=>?_) λc19=>?_
  ·try simp only[ah]at c19
   have hS:=i.stop (by omega) (show(cF u) i.k=false by simp only[cF,aI,eE,cM];grind only);refine go [.R,.a,.Z] ?_;refine aQ 2 ?_;refine rb ?_;simp only[cy,dR,bg,b8];grind only
  try simp only[ah]at c19
  refine go [.J,.R1,.m,.N,.b,.a,.Z] ?_;refine⟨⟨i.k+1,by omega,i.next (show(cF u) i.k=true by simp only[cF,aI,eE,cM];grind only)⟩,ws,?_⟩;show u.ag.length-(i.k+1)<u.ag.length-i.k;omega
 try simp only[ah]at c8
 have hA:=i.full (by omega);refine AW.exit ?_;dsimp only[aD,au,reduceIte];refine go [.R,.G,.N] ?_;refine cv call140 rfl rfl (rO u hb) ?_;refine go [.N,.m] ?_;apply aB.cut 2
 ·intro Kg20;refine aB.split 87 rfl (λg20=>?_) (λg20=>?_)
  ·refine go [.G] ?_;refine aB.step rfl g20 (aE.aC rfl (by decide) call141 rfl rfl (tE u)) ?_;refine go [.N] ?_;exact bV 89 [88,89] (bY g20 _ undef) Kg20
  ·refine go [.x,.x] ?_;exact bX 89 [88,89] (bU g20 undef _) Kg20
 refine qq (Qt.aG rfl rfl rfl) ?_;refine go [.a,.Z] ?_;refine aQ 2 ?_;refine rb ?_;simp only[cy,dR,bg,b8];grind only
end Go.Proofs.YtekcnnngjoonbaaGreat.VM

