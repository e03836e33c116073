/- Contracts. No conditions. -/
import Derived.Test.YtekcnnngjoonbaaGreatWK
import Derived.Test.YtekcnnngjoonbaaGreatWL
import Derived.Test.YtekcnnngjoonbaaGreatWM
import Derived.Test.YtekcnnngjoonbaaGreatWk
import Derived.Test.YtekcnnngjoonbaaGreatWo
import Derived.Test.YtekcnnngjoonbaaGreatWp
set_option linter.all false
set_option maxHeartbeats 8000000
set_option maxRecDepth 10000
namespace Go.Proofs.YtekcnnngjoonbaaGreat.VM
open List Nat
open Go Go.RowKit Go.Proofs
theorem sY(u:bt):bf Tryz.prog 141 [.g [.v (iv u.Next), .v (iv u.bF), .h aa [], .h (aa+1) [], .h (aa+2) [], .h (aa+3) [], .h (aa+4) [], .h (aa+5) [], .h (aa+6) []]] [.rt aa .ro (tr u.aV), .rt (aa+1) .ro (tr u.ah), .rt (aa+2) .ro (tr u.ax), .rt (aa+3) .ro (tr u.ao), .rt (aa+4) .ro (tr u.aC), .rt (aa+5) .ro (tr u.aR), .rt (aa+6) .ro (tr u.Out)] (λy _=>y= .v (.bool (jQ u))):=by
 refine ob Tryz.func141 Tryz.ntmps141 ?_;refine AW.len (aa+1) [] rfl (by simp[ck]) rfl (λhl1=>?_);rw[uj];refine go [.R,.B,.N,.a,.Z,.R,.a,.Z,.R2,.a,.Z] (k:=?_);refine AW.block ?_;refine AW.bw (λi:qO (jm u) u.ah.length=>[.sl 4 (.v (iv i.k)), .sl 3 (.v (iv (gL u.ah i.k:Nat))), .rt 1 .box (T.s 9 1 λk c=>([(T.v (iv u.Next),none),(T.v (iv u.bF),none),(T.j,none),(T.j,none),(T.j,none),(T.j,none),(T.j,none),(T.j,none),(T.j,none)].getD (k*9+c) (T.j,none)).fst), .al 1 2 (.h aa []), .al 1 3 (.h (aa+1) []), .al 1 4 (.h (aa+2) []), .al 1 5 (.h (aa+3) []), .al 1 6 (.h (aa+4) []), .al 1 7 (.h (aa+5) []), .al 1 8 (.h (aa+6) []), .rt aa .ro (tr u.aV), .rt (aa+1) .ro (tr u.ah), .rt (aa+2) .ro (tr u.ax), .rt (aa+3) .ro (tr u.ao), .rt (aa+4) .ro (tr u.aC), .rt (aa+5) .ro (tr u.aR), .rt (aa+6) .ro (tr u.Out), .sl 1 (.p 1 [] 9 0 0)]) (λi=>u.ah.length-i.k) ⟨0,zero_le _,λ_ h=>absurd h (not_lt_zero _)⟩ (ws) ?_;intro i;have hle:=i.le;have hTi:((i.k:Int)-1).toNat=i.k-1:=by omega
 have hm:=mz u.ah i.k;have hs1:=rS u.ah i.k;refine go [.R2,.m,.N,.f,.l,.h,.N,.b,.Z] (k:=?_);refine cd (λc1=>?_) λc1=>?_
 ·try simp only[ai]at c1
  refine jd (AW.seq (AW.block (sr ?_)));refine go [.f,.l,.N,.m,.i,.f,.N,.l,.b,.Z] (k:=?_);refine cd (λc2=>?_) λc2=>?_
  ·try simp only[ai]at c2
   refine go [.R,.m,.N,.b,.a,.Z] (k:=?_);refine AW.seq ?_;refine go [.D [0,1,2,3,4,5,6,7,9],.t 0,.f,.N,.t 1,.l,.t 2,.f,.t 3,.l,.N,.t 4,.m,.t 5,.i,.t 6,.f,.N,.t 7,.l] (k:=?_);refine a1 8 [] [7,1,6,0,5,4,3,2] rfl rfl (aK.aL rfl (by decide) Tryz.call143 rfl rfl (ic _ _)) ?_;refine go [.N,.t 9,.n,.Z] (k:=?_);refine cd (λc3=>?_) λc3=>?_
   ·try simp only[ai]at c3
    have hS:=i.stop (by omega) (show(jm u) i.k=false by simp only[jm];grind only);refine go [.R,.a,.Z] (k:=?_);refine aM 2 ?_;refine rb ?_;grind only
   try simp only[ai]at c3
   refine go [.J,.R1,.m,.N,.b,.a,.Z] (k:=?_);refine⟨⟨i.k+1,by omega,i.next (show(jm u) i.k=true by simp only[jm];grind only)⟩,ar.aZ ⟨fe,by simp only[aA,reduceIte,Nat.reduceEqDiff];congr 2;rw[hs1];grind only,Rf rfl,⟨rfl,rfl⟩,⟨rfl,rfl⟩,⟨rfl,rfl⟩,⟨rfl,rfl⟩,⟨rfl,rfl⟩,⟨rfl,rfl⟩,⟨rfl,rfl⟩,Rf rfl,Rf rfl,Rf rfl,Rf rfl,Rf rfl,Rf rfl,Rf rfl,rfl,trivial⟩ rfl rfl,?_⟩;show u.ah.length-(i.k+1)<u.ah.length-i.k;omega
  try simp only[ai]at c2
  refine go [.J,.R1,.m,.N,.b,.a,.Z] (k:=?_);refine⟨⟨i.k+1,by omega,i.next (show(jm u) i.k=true by simp only[jm];grind only)⟩,ar.aZ ⟨fe,by simp only[aA,reduceIte,Nat.reduceEqDiff];congr 2;rw[hs1];grind only,Rf rfl,⟨rfl,rfl⟩,⟨rfl,rfl⟩,⟨rfl,rfl⟩,⟨rfl,rfl⟩,⟨rfl,rfl⟩,⟨rfl,rfl⟩,⟨rfl,rfl⟩,Rf rfl,Rf rfl,Rf rfl,Rf rfl,Rf rfl,Rf rfl,Rf rfl,rfl,trivial⟩ rfl rfl,?_⟩;show u.ah.length-(i.k+1)<u.ah.length-i.k;omega
 try simp only[ai]at c1
 have hA:=i.full (by omega);have hR:gL u.ah i.k=gL u.ah u.ah.length:=congrArg (gL u.ah) (show i.k=u.ah.length by omega);refine AW.exit ?_;dsimp only[aJ,ay,reduceIte];refine go [.R,.m,.N,.f,.l,.h,.N,.b,.a,.Z] (k:=?_);refine aM 2 ?_;refine rb ?_;grind only
theorem sd(u:bt)(hb:jw u):bf Tryz.prog 77 [.g [.v (iv u.Next), .v (iv u.bF), .h aa [], .h (aa+1) [], .h (aa+2) [], .h (aa+3) [], .h (aa+4) [], .h (aa+5) [], .h (aa+6) []]] [.rt aa .ro (tr u.aV), .rt (aa+1) .ro (tr u.ah), .rt (aa+2) .ro (tr u.ax), .rt (aa+3) .ro (tr u.ao), .rt (aa+4) .ro (tr u.aC), .rt (aa+5) .ro (tr u.aR), .rt (aa+6) .ro (tr u.Out)] (λy _=>y= .v (.bool (dn u))):=by
 refine ob Tryz.func77 Tryz.ntmps77 ?_;refine AW.len (aa+1) [] rfl (by simp[ck]) rfl (λhl1=>?_);have hpb:=pM hb;refine go [.R,.B,.N,.a,.Z,.R2,.f,.l,.N] (k:=?_);refine cv Tryz.call135 rfl rfl (cY _ _ _) ?_;refine go [.N,.n,.m] (k:=?_);apply az.cut 4
 ·intro Kg1;refine az.bA 9 rfl (λg1=>?_) (λg1=>?_)
  ·refine go [.f,.N,.l] (k:=?_);refine az.step rfl (nF g1) (aK.aL rfl (by decide) Tryz.call135 rfl rfl (cY _ _ _)) ?_;refine go [.N,.n] (k:=?_);exact bZ 13 [10,11,12,13] (bY g1 _ undef) Kg1
  ·refine go [.x,.x,.x,.x] (k:=?_);exact bX 13 [10,11,12,13] (b6 g1 undef _) Kg1
 refine qq (Qt.bz rfl rfl rfl) ?_;refine go [.m,.N] (k:=?_);apply az.cut 4
 ·intro Kg2;refine az.bA 15 rfl (λg2=>?_) (λg2=>?_)
  ·refine go [.f,.l] (k:=?_);refine az.step rfl (nF g2) (aK.aL rfl (by decide) Tryz.call136 rfl rfl (s8 _)) ?_;refine go [.N,.n] (k:=?_);exact bZ 19 [16,17,18,19] (bY g2 _ undef) Kg2
  ·refine go [.x,.x,.x,.x] (k:=?_);exact bX 19 [16,17,18,19] (b6 g2 undef _) Kg2
 refine qq (Qt.bz rfl rfl rfl) ?_;refine go [.m,.N] (k:=?_);apply az.cut 4
 ·intro Kg3;refine az.bA 21 rfl (λg3=>?_) (λg3=>?_)
  ·refine go [.f,.l,.h,.N,.b] (k:=?_);exact bZ 25 [22,23,24,25] (bY g3 _ undef) Kg3
  ·refine go [.x,.x,.x,.x] (k:=?_);exact bX 25 [22,23,24,25] (b6 g3 undef _) Kg3
 refine qq (Qt.bz rfl rfl rfl) ?_;refine go [.m,.N] (k:=?_);apply az.cut 4
 ·intro Kg4;refine az.bA 27 rfl (λg4=>?_) (λg4=>?_)
  ·refine go [.f,.l] (k:=?_);refine az.step rfl (nF g4) (aK.aL rfl (by decide) Tryz.call137 rfl rfl (eV _)) ?_;refine go [.N,.n] (k:=?_);exact bZ 31 [28,29,30,31] (bY g4 _ undef) Kg4
  ·refine go [.x,.x,.x,.x] (k:=?_);exact bX 31 [28,29,30,31] (b6 g4 undef _) Kg4
 refine qq (Qt.bz rfl rfl rfl) ?_;refine go [.m,.N] (k:=?_);apply az.cut 4
 ·intro Kg5;refine az.bA 33 rfl (λg5=>?_) (λg5=>?_)
  ·refine go [.f,.l,.h,.N,.b] (k:=?_);exact bZ 37 [34,35,36,37] (bY g5 _ undef) Kg5
  ·refine go [.x,.x,.x,.x] (k:=?_);exact bX 37 [34,35,36,37] (b6 g5 undef _) Kg5
 refine qq (Qt.bz rfl rfl rfl) ?_;refine go [.m,.N] (k:=?_);apply az.cut 3
 ·intro Kg6;refine az.bA 39 rfl (λg6=>?_) (λg6=>?_)
  ·refine go [.G] (k:=?_);refine az.step rfl (nF g6) (aK.aL rfl (by decide) Tryz.call138 rfl rfl (sX u hb)) ?_;refine go [.N,.b] (k:=?_);exact bZ 42 [40,41,42] (bY g6 _ undef) Kg6
  ·refine go [.x,.x,.x] (k:=?_);exact bX 42 [40,41,42] (b6 g6 undef _) Kg6
 refine qq (Qt.bz rfl rfl rfl) ?_;refine go [.Z] (k:=?_);refine cd (λc7=>?_) λc7=>?_
 ·try simp only[ai]at c7
  refine go [.R,.a,.Z] (k:=?_);refine aM 2 ?_;refine rb ?_;simp only[dn,et,bh,ca];grind only
 try simp only[ai]at c7
 refine jd (bP ?_);refine go [.a,.Z] (k:=?_);refine AW.block ?_;refine AW.bw (λi:qO (cF u) u.ah.length=>[.sl 3 (.v (iv i.k)), .rt 1 .box (T.s 9 1 λk c=>([(T.v (iv u.Next),none),(T.v (iv u.bF),none),(T.j,none),(T.j,none),(T.j,none),(T.j,none),(T.j,none),(T.j,none),(T.j,none)].getD (k*9+c) (T.j,none)).fst), .al 1 2 (.h aa []), .al 1 3 (.h (aa+1) []), .al 1 4 (.h (aa+2) []), .al 1 5 (.h (aa+3) []), .al 1 6 (.h (aa+4) []), .al 1 7 (.h (aa+5) []), .al 1 8 (.h (aa+6) []), .rt aa .ro (tr u.aV), .rt (aa+1) .ro (tr u.ah), .rt (aa+2) .ro (tr u.ax), .rt (aa+3) .ro (tr u.ao), .rt (aa+4) .ro (tr u.aC), .rt (aa+5) .ro (tr u.aR), .rt (aa+6) .ro (tr u.Out), .sl 1 (.p 1 [] 9 0 0)]) (λi=>u.ah.length-i.k) ⟨0,zero_le _,λ_ h=>absurd h (not_lt_zero _)⟩ (ws) ?_;intro i;have hle:=i.le;have hTi:((i.k:Int)-1).toNat=i.k-1:=by omega
 refine go [.R2,.m,.N,.f,.l,.h,.N,.b,.Z] (k:=?_);refine cd (λc8=>?_) λc8=>?_
 ·try simp only[ai]at c8
  refine jd (AW.seq (AW.block (sr ?_)));refine go [.f,.l,.N,.m,.i,.G,.N,.A,.N,.s,.Z] (k:=?_);refine AW.seq ?_;refine go [.D [0,1,2,3,4,6,7,8,9,10,11,12,13,14,15,16,17,18,19,20,21,22,23,24,25,27,28],.t 0,.f,.N,.t 1,.l,.t 2,.f,.t 3,.l,.N,.t 4,.b] (k:=?_);refine a1 5 [] [4,1,3,0,2] rfl rfl (aK.aL rfl (by decide) Tryz.call135 rfl rfl (cY _ _ _)) ?_;refine go [.N,.t 6,.n,.t 7,.m] (k:=?_);refine aQ.split 63 rfl (λg9=>?_) (λg9=>?_)
  ·refine go [.t 8,.x,.N,.t 9,.x,.t 10,.x,.t 11,.x,.N,.t 12,.x,.t 13,.x,.t 14,.x,.N,.t 15,.x,.t 16,.x,.t 17,.x,.N,.t 18,.x,.t 19,.x,.t 20,.x,.N,.t 21,.x] (k:=?_);refine tk 22 rfl (Qt.bl rfl g9) ?_;refine go [.t 23,.m,.N] (k:=?_);refine aQ.split 79 rfl (λg10=>?_) (λg10=>?_)
   ·refine go [.t 24,.x,.t 25,.x,.O 26 [] [25,24,23,22,10,21,7,9,20,6,5,8,19,17,4,1,18,16,3,0,15,2,14,12,13,11],.x,.N,.t 27,.x] (k:=?_);refine tk 28 rfl (Qt.bl rfl g10) ?_;refine go [.Z] (k:=?_);refine cd (λc11=>?_) λc11=>?_
    ·try simp only[ai]at c11
     have hS:=i.stop (by omega) (show(cF u) i.k=false by simp only[cF,aH,eE,c_];grind only);refine go [.R,.a,.Z] (k:=?_);refine aM 2 ?_;refine rb ?_;simp only[dn,et,bh,ca];grind only
    try simp only[ai]at c11
    refine go [.J,.R1,.m,.N,.b,.a,.Z] (k:=?_);refine⟨⟨i.k+1,by omega,i.next (show(cF u) i.k=true by simp only[cF,aH,eE,c_];grind only)⟩,ws,?_⟩;show u.ah.length-(i.k+1)<u.ah.length-i.k;omega
   refine go [.t 24,.G,.N,.t 25,.G] (k:=?_);refine a1 26 [] [25,24,23,22,10,21,7,9,20,6,5,8,19,17,4,1,18,16,3,0,15,2,14,12,13,11] rfl (nF g10) (aK.aL rfl (by decide) Tryz.call139 rfl rfl (jP u _)) ?_;refine go [.N,.t 27,.n] (k:=?_);refine tk 28 rfl (Qt.bd rfl g10) ?_;refine go [.Z] (k:=?_);refine cd (λc12=>?_) λc12=>?_
   ·try simp only[ai]at c12
    have hS:=i.stop (by omega) (show(cF u) i.k=false by simp only[cF,aH,eE,c_];grind only);refine go [.R,.a,.Z] (k:=?_);refine aM 2 ?_;refine rb ?_;simp only[dn,et,bh,ca];grind only
   try simp only[ai]at c12
   refine go [.J,.R1,.m,.N,.b,.a,.Z] (k:=?_);refine⟨⟨i.k+1,by omega,i.next (show(cF u) i.k=true by simp only[cF,aH,eE,c_];grind only)⟩,ws,?_⟩;show u.ah.length-(i.k+1)<u.ah.length-i.k;omega
  refine go [.t 8,.m,.N,.t 9,.b,.t 10,.m] (k:=?_);refine aQ.split 66 rfl (λg13=>?_) (λg13=>?_)
  ·refine go [.t 11,.f,.N,.t 12,.l,.t 13,.m,.t 14,.b,.N,.t 15,.i,.t 16,.f,.t 17,.l,.N,.t 18,.f,.t 19,.l,.t 20,.b,.N] (k:=?_);refine tg 21 rfl (nF g9) (Qt.bl rfl g13) ?_;refine tk 22 rfl (Qt.bd rfl g9) ?_;refine go [.t 23,.m,.N] (k:=?_);refine aQ.split 79 rfl (λg14=>?_) (λg14=>?_)
   ·refine go [.t 24,.x,.t 25,.x,.O 26 [] [25,24,23,22,10,21,7,9,20,6,5,8,19,17,4,1,18,16,3,0,15,2,14,12,13,11],.x,.N,.t 27,.x] (k:=?_);refine tk 28 rfl (Qt.bl rfl g14) ?_;refine go [.Z] (k:=?_);refine cd (λc15=>?_) λc15=>?_
    ·try simp only[ai]at c15
     have hS:=i.stop (by omega) (show(cF u) i.k=false by simp only[cF,aH,eE,c_];grind only);refine go [.R,.a,.Z] (k:=?_);refine aM 2 ?_;refine rb ?_;simp only[dn,et,bh,ca];grind only
    try simp only[ai]at c15
    refine go [.J,.R1,.m,.N,.b,.a,.Z] (k:=?_);refine⟨⟨i.k+1,by omega,i.next (show(cF u) i.k=true by simp only[cF,aH,eE,c_];grind only)⟩,ws,?_⟩;show u.ah.length-(i.k+1)<u.ah.length-i.k;omega
   refine go [.t 24,.G,.N,.t 25,.G] (k:=?_);refine a1 26 [] [25,24,23,22,10,21,7,9,20,6,5,8,19,17,4,1,18,16,3,0,15,2,14,12,13,11] rfl (nF g14) (aK.aL rfl (by decide) Tryz.call139 rfl rfl (jP u _)) ?_;refine go [.N,.t 27,.n] (k:=?_);refine tk 28 rfl (Qt.bd rfl g14) ?_;refine go [.Z] (k:=?_);refine cd (λc16=>?_) λc16=>?_
   ·try simp only[ai]at c16
    have hS:=i.stop (by omega) (show(cF u) i.k=false by simp only[cF,aH,eE,c_];grind only);refine go [.R,.a,.Z] (k:=?_);refine aM 2 ?_;refine rb ?_;simp only[dn,et,bh,ca];grind only
   try simp only[ai]at c16
   refine go [.J,.R1,.m,.N,.b,.a,.Z] (k:=?_);refine⟨⟨i.k+1,by omega,i.next (show(cF u) i.k=true by simp only[cF,aH,eE,c_];grind only)⟩,ws,?_⟩;show u.ah.length-(i.k+1)<u.ah.length-i.k;omega
  refine go [.t 11,.x,.N,.t 12,.x,.t 13,.x,.t 14,.x,.N,.t 15,.x,.t 16,.x,.t 17,.x,.N,.t 18,.x,.t 19,.x,.t 20,.x,.N] (k:=?_);refine tg 21 rfl (nF g9) (Qt.bd rfl g13) ?_;refine tk 22 rfl (Qt.bd rfl g9) ?_;refine go [.t 23,.m,.N] (k:=?_);refine aQ.split 79 rfl (λg17=>?_) (λg17=>?_)
  ·refine go [.t 24,.x,.t 25,.x,.O 26 [] [25,24,23,22,10,21,7,9,20,6,5,8,19,17,4,1,18,16,3,0,15,2,14,12,13,11],.x,.N,.t 27,.x] (k:=?_);refine tk 28 rfl (Qt.bl rfl g17) ?_;refine go [.Z] (k:=?_);refine cd (λc18=>?_) λc18=>?_
   ·try simp only[ai]at c18
    have hS:=i.stop (by omega) (show(cF u) i.k=false by simp only[cF,aH,eE,c_];grind only);refine go [.R,.a,.Z] (k:=?_);refine aM 2 ?_;refine rb ?_;simp only[dn,et,bh,ca];grind only
   try simp only[ai]at c18
   refine go [.J,.R1,.m,.N,.b,.a,.Z] (k:=?_);refine⟨⟨i.k+1,by omega,i.next (show(cF u) i.k=true by simp only[cF,aH,eE,c_];grind only)⟩,ws,?_⟩;show u.ah.length-(i.k+1)<u.ah.length-i.k;omega
  refine go [.t 24,.G,.N,.t 25,.G] (k:=?_);refine a1 26 [] [25,24,23,22,10,21,7,9,20,6,5,8,19,17,4,1,18,16,3,0,15,2,14,12,13,11] rfl (nF g17) (aK.aL rfl (by decide) Tryz.call139 rfl rfl (jP u _)) ?_;refine go [.N,.t 27,.n] (k:=?_);refine tk 28 rfl (Qt.bd rfl g17) ?_;refine go [.Z] (k:=?_);refine cd (λc19=>?_) λc19=>?_
  ·try simp only[ai]at c19
   have hS:=i.stop (by omega) (show(cF u) i.k=false by simp only[cF,aH,eE,c_];grind only);refine go [.R,.a,.Z] (k:=?_);refine aM 2 ?_;refine rb ?_;simp only[dn,et,bh,ca];grind only
  try simp only[ai]at c19
  refine go [.J,.R1,.m,.N,.b,.a,.Z] (k:=?_);refine⟨⟨i.k+1,by omega,i.next (show(cF u) i.k=true by simp only[cF,aH,eE,c_];grind only)⟩,ws,?_⟩;show u.ah.length-(i.k+1)<u.ah.length-i.k;omega
 try simp only[ai]at c8
 have hA:=i.full (by omega);refine AW.exit ?_;dsimp only[aJ,ay,reduceIte];refine go [.R,.G,.N] (k:=?_);refine cv Tryz.call140 rfl rfl (qL u hb) ?_;refine go [.N,.m] (k:=?_);apply az.cut 2
 ·intro Kg20;refine az.split 87 rfl (λg20=>?_) (λg20=>?_)
  ·refine go [.G] (k:=?_);refine az.step rfl g20 (aK.aL rfl (by decide) Tryz.call141 rfl rfl (sY u)) ?_;refine go [.N] (k:=?_);exact bZ 89 [88,89] (b6 g20 _ undef) Kg20
  ·refine go [.x,.x] (k:=?_);exact bX 89 [88,89] (bY g20 undef _) Kg20
 refine qq (Qt.aD rfl rfl rfl) ?_;refine go [.a,.Z] (k:=?_);refine aM 2 ?_;refine rb ?_;simp only[dn,et,bh,ca];grind only
open Go Go.RowKit
def sM(l:List Bool)(f:Int):Option (List Bool):=if l.getD f.toNat En.ab=true then none else some (l.set f.toNat true)
def wH(pt:List Int)(u:List Bool):Nat→Option (List Bool)
 | 0=>some u
 | k+1=>(wH pt u k).bind λv=>sM v (pt.getD k En.ab)
/-- the process does not come behind one of a number as small -/
def ue(a:bH)(k:Nat):Bool:=decide (0<k)&&decide ((a.ah.getD (k-1) En.ab).fc≤(a.ah.getD k En.ab).fc)
def Br(a:bH)(u:List Bool)(k:Nat):Option (List Bool):=if ue a k=true then none else wH (a.ah.getD k En.ab).bb u (a.ah.getD k En.ab).bb.length
def jV(a:bH):Nat→Option (List Bool)
 | 0=>some (replicate 16 false)
 | k+1=>(jV a k).bind λu=>Br a u k
def jC(a:bH)(u:List Bool)(f:Nat):Bool:= !(u.getD f En.ab==tw a.Heap.aU f)
def qR(a:bH):Bool:=match jV a a.ah.length with|some u=>fC (jC a u) 16|none=>false
def lO(a:bH):Bool:=cQ a&&(dn (fW a)&&(rI a.Heap.aU&&(qR a&&(a.ao.all λp=>fg p.bn))))
theorem uK{a:bH}{k:Nat}(h:jV a k=none):∀{n:Nat},k≤n→jV a n=none:=λ{n} hn=>by
 induction n with
 | zero=>
  obtain rfl:k=0:=by omega
  exact h
 | succ n ih=>
  rcases Nat.lt_or_ge n k with h1|h1
  ·obtain rfl:k=n+1:=by omega
   exact h
  ·rw[jV,ih h1];rfl
theorem wW{pt:List Int}{u:List Bool}{k:Nat}(h:wH pt u k=none):∀{n:Nat},k≤n→wH pt u n=none:=λ{n} hn=>by
 induction n with
 | zero=>
  obtain rfl:k=0:=by omega
  exact h
 | succ n ih=>
  rcases Nat.lt_or_ge n k with h1|h1
  ·obtain rfl:k=n+1:=by omega
   exact h
  ·rw[wH,ih h1];rfl
structure Av(a:bH) where
 k:Nat
 le:k≤a.ah.length
 u:List Bool
 hu:jV a k=some u
 ln:u.length=16
structure pb(pt:List Int)(u0:List Bool) where
 k:Nat
 le:k≤pt.length
 v:List Bool
 hv:wH pt u0 k=some v
 ln:v.length=16
theorem pb.mark{pt:List Int}{u0:List Bool}(i:pb pt u0)(hf:i.v.getD (pt.getD i.k En.ab).toNat En.ab=false):wH pt u0 (i.k+1)=some (i.v.set (pt.getD i.k En.ab).toNat true):=by
 rw[wH,i.hv];show sM i.v _=_;rw[sM,if_neg (by rw[hf];simp)]
theorem pb.bad{pt:List Int}{u0:List Bool}(i:pb pt u0)(h:i.k<pt.length)(hf:i.v.getD (pt.getD i.k En.ab).toNat En.ab=true):wH pt u0 pt.length=none:=by
 refine wW (k:=i.k+1) ?_ (by omega);rw[wH,i.hv];show sM i.v _=_;rw[sM,if_pos hf]
theorem eH{a:bH}{k:Nat}{u:List Bool}(h:jV a k=some u):jV a (k+1)=Br a u k:=by rw[jV,h];rfl
theorem xV{a:bH}{u:List Bool}{k:Nat}(h:ue a k=true):Br a u k=none:=if_pos h
theorem km{a:bH}{u:List Bool}{k:Nat}(h:ue a k=false):Br a u k=wH (a.ah.getD k En.ab).bb u (a.ah.getD k En.ab).bb.length:=if_neg (by rw[h];simp)
theorem pb.full{pt:List Int}{u0:List Bool}(i:pb pt u0)(h:pt.length≤i.k):wH pt u0 pt.length=some i.v:=by
 have h1:=i.le;rw[show pt.length=i.k by omega];exact i.hv
theorem pK{a:bH}(h:cQ a=false):lO a=false:=by rw[lO,h];rfl
theorem so{a:bH}(h:dn (fW a)=false):lO a=false:=by rw[lO,h];simp
theorem sq{a:bH}(h:rI a.Heap.aU=false):lO a=false:=by rw[lO,h];simp
theorem jE{a:bH}{k:Nat}(h:jV a k=none)(hk:k≤a.ah.length):lO a=false:=by
 rw[lO,qR,uK h hk];simp
theorem tP{a:bH}{u:List Bool}(h:jV a a.ah.length=some u)(hf:fC (jC a u) 16=false):lO a=false:=by
 rw[lO,qR,h];simp[hf]
theorem mH{a:bH}{u:List Bool}(hs:cQ a=true)(hU:dn (fW a)=true)(hH:rI a.Heap.aU=true)(h:jV a a.ah.length=some u)(hf:fC (jC a u) 16=true):lO a=a.ao.all λp=>fg p.bn:=by
 rw[lO,qR,h,hs,hU,hH];simp[hf]
theorem ve{l:List (List Int)}(h:rI l=true):l.length=5:=by
 unfold rI at h;split at h
 ·assumption
 ·cases h
theorem nG{a:bH}(hw:Mk.wt a≤1048576):jw (fW a):=by
 have hwu:Mk.wt a.aV+Mk.wt a.ah+Mk.wt a.fb+Mk.wt a.Heap.aU+Mk.wt a.ax+Mk.wt a.ao+Mk.wt a.aC+Mk.wt a.aR+Mk.wt a.Out≤1048576:=hw;have e:Mk.wt (fW a).ah≤4*Mk.wt a.ah:=by
  show Mk.wt (pv a a.ah.length)≤_;rw[pv,yB,take_length];exact w5 (fU a) (by omega) (xw a) a.ah
 have hl0:=im a.ah;have hl1:=im a.ax;have hl2:=ed a.aR;have h0:(fW a).ah.length≤a.ah.length:=vE;have h1:(fW a).ax.length≤a.ax.length:=vH;have h3:nJ (fW a).ah (fW a).ah.length≤bB Mk.wt En.ab (fW a).ah (fW a).ah.length:=qS (λx=>by
  have:Mk.wt x=Mk.wt x.d_.cy+Mk.wt x.Mem+Mk.wt x.cV:=rfl;have:=da x.Mem;omega) _
 have h4:zN (fW a) (fW a).ah.length≤bB Mk.wt En.ab (fW a).ah (fW a).ah.length:=qS (λx=>by
  have:Mk.wt x=Mk.wt x.d_.cy+Mk.wt x.Mem+Mk.wt x.cV:=rfl;have:=da x.cV;omega) _
 have hwl:=da (fW a).ah;rw[dl]at h3 h4;exact⟨by omega,by omega,by omega,by omega,by show a.aR.length≤_;omega⟩
end Go.Proofs.YtekcnnngjoonbaaGreat.VM
