/- Contracts. No conditions. -/
import Derived.Test.YtekcnnngjoonbaaGreatWl
set_option linter.all false
set_option maxHeartbeats 8000000
set_option maxRecDepth 10000
namespace Go.Proofs.YtekcnnngjoonbaaGreat.VM
open List Nat
open Go Go.RowKit Go.Proofs
theorem jP(u:bt)(p:bG):bf Tryz.prog 139 [.g [.v (iv u.Next), .v (iv u.bF), .h aa [], .h (aa+1) [], .h (aa+2) [], .h (aa+3) [], .h (aa+4) [], .h (aa+5) [], .h (aa+6) []], .g [.v (iv p.fc), .v (iv p.b_), .v (iv p.State), .v (iv p.ft), .v (iv p.d_.Pc), .h (aa+7) [], .h (aa+8) [], .h (aa+9) [], .v (iv p.di), .v (iv p.Code)]] [.rt aa .ro (tr u.aV), .rt (aa+1) .ro (tr u.ah), .rt (aa+2) .ro (tr u.ax), .rt (aa+3) .ro (tr u.ao), .rt (aa+4) .ro (tr u.aC), .rt (aa+5) .ro (tr u.aR), .rt (aa+6) .ro (tr u.Out), .rt (aa+7) .ro (tr p.d_.cy), .rt (aa+8) .ro (tr p.Mem), .rt (aa+9) .ro (tr p.cV)] (λy _=>y= .v (.bool (cI u p))):=by
 refine ob Tryz.func139 Tryz.ntmps139 ?_;refine AW.len (aa+1) [] rfl (by simp[ck]) rfl (λhl=>?_);refine AW.len (aa+9) [] rfl (by simp[ck]) rfl (λhl7=>?_);have hpb:kg u p.b_<u.ah.length:=(ny _ _).2;have hZ:=yC u p;refine go [.R,.B,.N,.B,.N,.a,.Z,.R2,.f,.l,.N] (k:=?_);refine cv Tryz.call135 rfl rfl (cY _ _ _) ?_;refine go [.N,.n,.m] (k:=?_);apply az.cut 3
 ·intro Kg1;refine az.bA 11 rfl (λg1=>?_) (λg1=>?_)
  ·have eg1:=g1
   try simp only[ai]at eg1
   refine go [.f,.N,.l,.b] (k:=?_);exact bZ 14 [12,13,14] (bY g1 _ undef) Kg1
  ·refine go [.x,.x,.x] (k:=?_);exact bX 14 [12,13,14] (b6 g1 undef _) Kg1
 refine qq (Qt.bz rfl rfl rfl) ?_;refine go [.N,.m] (k:=?_);apply az.cut 6
 ·intro Kg2;refine az.bA 16 rfl (λg2=>?_) (λg2=>?_)
  ·have eg2:=g2
   try simp only[ai]at eg2
   refine go [.f,.l,.N,.f,.l,.h,.N,.b] (k:=?_);exact bZ 22 [17,18,19,20,21,22] (bY g2 _ undef) Kg2
  ·refine go [.x,.x,.x,.x,.N,.x,.x] (k:=?_);exact bX 22 [17,18,19,20,21,22] (b6 g2 undef _) Kg2
 refine qq (Qt.bz rfl rfl rfl) ?_;refine go [.m,.N] (k:=?_);apply az.cut 4
 ·intro Kg3;refine az.bA 24 rfl (λg3=>?_) (λg3=>?_)
  ·have eg3:=g3
   try simp only[ai]at eg3
   refine go [.f,.G] (k:=?_);refine az.step rfl (nF g3) (aK.aL rfl (by decide) Tryz.call182 rfl rfl (uw _ _)) ?_;refine go [.N,.n] (k:=?_);exact bZ 28 [25,26,27,28] (bY g3 _ undef) Kg3
  ·refine go [.x,.x,.x,.x] (k:=?_);exact bX 28 [25,26,27,28] (b6 g3 undef _) Kg3
 refine qq (Qt.bz rfl rfl rfl) ?_;refine go [.m,.N] (k:=?_);apply az.cut 4
 ·intro Kg4;refine az.bA 30 rfl (λg4=>?_) (λg4=>?_)
  ·have eg4:=g4
   try simp only[ai]at eg4
   refine go [.f,.l,.h,.N,.b] (k:=?_);exact bZ 34 [31,32,33,34] (bY g4 _ undef) Kg4
  ·refine go [.x,.x,.x,.x] (k:=?_);exact bX 34 [31,32,33,34] (b6 g4 undef _) Kg4
 refine qq (Qt.bz rfl rfl rfl) ?_;refine go [.m,.N] (k:=?_);apply az.cut 5
 ·intro Kg5;refine az.bA 36 rfl (λg5=>?_) (λg5=>?_)
  ·have eg5:=g5
   try simp only[ai]at eg5
   refine go [.f,.l,.h,.N] (k:=?_);refine qg (nF g5) (Qt.binOp rfl rfl (by first|exact lb _|rfl|exact ls (by omega))) ?_;refine go [.b] (k:=?_);exact bZ 41 [37,38,39,40,41] (bY g5 _ undef) Kg5
  ·refine go [.x,.x,.x,.x,.N,.x] (k:=?_);exact bX 41 [37,38,39,40,41] (b6 g5 undef _) Kg5
 refine qq (Qt.bz rfl rfl rfl) ?_;refine go [.N,.m] (k:=?_);apply az.cut 4
 ·intro Kg6;refine az.bA 43 rfl (λg6=>?_) (λg6=>?_)
  ·have eg6:=g6
   try simp only[ai]at eg6
   refine go [.f,.l,.N] (k:=?_);refine az.step rfl (nF g6) (aK.aL rfl (by decide) Tryz.call137 rfl rfl (eV _)) ?_;refine go [.N,.n] (k:=?_);exact bZ 47 [44,45,46,47] (bY g6 _ undef) Kg6
  ·refine go [.x,.x,.x,.x] (k:=?_);exact bX 47 [44,45,46,47] (b6 g6 undef _) Kg6
 refine qq (Qt.bz rfl rfl rfl) ?_;refine go [.m,.N] (k:=?_);apply az.cut 4
 ·intro Kg7;refine az.bA 49 rfl (λg7=>?_) (λg7=>?_)
  ·have eg7:=g7
   try simp only[ai]at eg7
   refine go [.f,.l,.h,.N,.b] (k:=?_);exact bZ 53 [50,51,52,53] (bY g7 _ undef) Kg7
  ·refine go [.x,.x,.x,.x] (k:=?_);exact bX 53 [50,51,52,53] (b6 g7 undef _) Kg7
 refine qq (Qt.bz rfl rfl rfl) ?_;refine go [.m,.N] (k:=?_);apply az.cut 4
 ·intro Kg8;refine az.bA 55 rfl (λg8=>?_) (λg8=>?_)
  ·have eg8:=g8
   try simp only[ai]at eg8
   refine go [.f,.l] (k:=?_);refine az.step rfl (nF g8) (aK.aL rfl (by decide) Tryz.call181 rfl rfl (nR _)) ?_;refine go [.N,.n] (k:=?_);exact bZ 59 [56,57,58,59] (bY g8 _ undef) Kg8
  ·refine go [.x,.x,.x,.x] (k:=?_);exact bX 59 [56,57,58,59] (b6 g8 undef _) Kg8
 refine qq (Qt.bz rfl rfl rfl) ?_;refine go [.Z] (k:=?_);refine cd (λc9=>?_) λc9=>?_
 ·try simp only[ai]at c9
  refine go [.R,.a,.Z] (k:=?_);refine aM 4 ?_;refine rb ?_;simp only[cI,bU,br,cU,cS];grind only
 try simp only[ai]at c9
 refine jd (bP ?_);refine go [.a,.Z] (k:=?_);refine AW.block ?_;refine AW.bw (λi:fx (vd u p) p.cV=>(.sl 5 (.v (iv i.k)) :: .rt 2 .box (T.s 9 1 λk c=>([(T.v (iv u.Next),none),(T.v (iv u.bF),none),(T.j,none),(T.j,none),(T.j,none),(T.j,none),(T.j,none),(T.j,none),(T.j,none)].getD (k*9+c) (T.j,none)).fst) :: .al 2 2 (.h aa []) :: .al 2 3 (.h (aa+1) []) :: .al 2 4 (.h (aa+2) []) :: .al 2 5 (.h (aa+3) []) :: .al 2 6 (.h (aa+4) []) :: .al 2 7 (.h (aa+5) []) :: .al 2 8 (.h (aa+6) []) :: .rt aa .ro (tr u.aV) :: .rt (aa+1) .ro (tr u.ah) :: .rt (aa+2) .ro (tr u.ax) :: .rt (aa+3) .ro (tr u.ao) :: .rt (aa+4) .ro (tr u.aC) :: .rt (aa+5) .ro (tr u.aR) :: .rt (aa+6) .ro (tr u.Out) :: .sl 2 (.p 2 [] 9 0 0) :: .rt 3 .box (T.s 10 1 λk c=>([(T.v (iv p.fc),none),(T.v (iv p.b_),none),(T.v (iv p.State),none),(T.v (iv p.ft),none),(T.v (iv p.d_.Pc),none),(T.j,none),(T.j,none),(T.j,none),(T.v (iv p.di),none),(T.v (iv p.Code),none)].getD (k*10+c) (T.j,none)).fst) :: .al 3 5 (.h (aa+7) []) :: .al 3 6 (.h (aa+8) []) :: .al 3 7 (.h (aa+9) []) :: .rt (aa+7) .ro (tr p.d_.cy) :: .rt (aa+8) .ro (tr p.Mem) :: .rt (aa+9) .ro (tr p.cV) :: .sl 3 (.p 3 [] 10 0 0) :: [])) (λi=>p.cV.length-i.k) ⟨0,zero_le _,rfl⟩ (ws) ?_;intro i;have hle:=i.le;refine go [.R2,.m,.N,.f,.l,.h,.N,.b,.Z] (k:=?_);refine cd (λc10=>?_) λc10=>?_
 ·try simp only[ai]at c10
  refine jd (AW.seq (AW.block (AW.seq ?_)));refine go [.D [0,1,2,3,4,5,6,7,8,9,10,11,12,14,15,16,17,18,19,20],.t 0,.f,.t 1,.l,.N,.t 2,.m] (k:=?_);refine tk 3 rfl (Qt.indexAddr rfl rfl rfl rfl jj fX (by decide) (by first|omega|grind)) ?_;refine go [.t 4,.l,.N,.t 5,.b,.t 6,.m] (k:=?_);refine aQ.split 74 rfl (λg11=>?_) (λg11=>?_)
  ·refine go [.t 7,.G,.N,.t 8,.f,.t 9,.l,.t 10,.m,.N] (k:=?_);refine tg 11 rfl g11 (Qt.indexAddr rfl rfl rfl rfl jj fX (by decide) (by first|omega|grind)) ?_;refine go [.t 12,.l] (k:=?_);refine a1 13 [] [12,7,6,11,5,10,9,4,8,3,2,1,0] rfl g11 (aK.aL rfl (by decide) Tryz.call183 rfl rfl (iM u _)) ?_;refine go [.N,.t 14,.b,.t 15,.m] (k:=?_);refine aQ.split 83 rfl (λg12=>?_) (λg12=>?_)
   ·refine go [.t 16,.x,.N,.t 17,.x,.t 18,.x] (k:=?_);refine tg 19 rfl g11 (Qt.bl rfl g12) ?_;refine go [.N] (k:=?_);refine tk 20 rfl (Qt.bl rfl g11) ?_;refine go [.Z] (k:=?_);refine cd (λc13=>?_) λc13=>?_
    ·try simp only[ai]at c13
     have hS:=i.stop En.ab (by omega) (show vd u p (p.cV.getD i.k En.ab)=false by simp only[vd];grind only);refine go [.R,.a,.Z] (k:=?_);refine aM 4 ?_;refine rb ?_;simp only[cI,bU,br,cU,cS];grind only
    try simp only[ai]at c13
    refine go [.J,.R1,.m,.N,.b,.a,.Z] (k:=?_);refine⟨⟨i.k+1,by omega,i.next En.ab (by omega) (by simp only[vd];grind only)⟩,ws,?_⟩;show p.cV.length-(i.k+1)<p.cV.length-i.k;omega
   refine go [.t 16,.f,.N,.t 17,.l,.t 18,.b] (k:=?_);refine tg 19 rfl g11 (Qt.bd rfl g12) ?_;refine go [.N] (k:=?_);refine tk 20 rfl (Qt.bl rfl g11) ?_;refine go [.Z] (k:=?_);refine cd (λc14=>?_) λc14=>?_
   ·try simp only[ai]at c14
    have hS:=i.stop En.ab (by omega) (show vd u p (p.cV.getD i.k En.ab)=false by simp only[vd];grind only);refine go [.R,.a,.Z] (k:=?_);refine aM 4 ?_;refine rb ?_;simp only[cI,bU,br,cU,cS];grind only
   try simp only[ai]at c14
   refine go [.J,.R1,.m,.N,.b,.a,.Z] (k:=?_);refine⟨⟨i.k+1,by omega,i.next En.ab (by omega) (by simp only[vd];grind only)⟩,ws,?_⟩;show p.cV.length-(i.k+1)<p.cV.length-i.k;omega
  refine go [.t 7,.x,.N,.t 8,.x,.t 9,.x,.t 10,.x,.N,.t 11,.x,.t 12,.x,.O 13 [] [12,7,6,11,5,10,9,4,8,3,2,1,0],.x,.N,.t 14,.x,.t 15,.x,.t 16,.x,.N,.t 17,.x,.t 18,.x,.t 19,.x,.N] (k:=?_);refine tk 20 rfl (Qt.bd rfl g11) ?_;refine go [.Z] (k:=?_);refine cd (λc15=>?_) λc15=>?_
  ·try simp only[ai]at c15
   have hS:=i.stop En.ab (by omega) (show vd u p (p.cV.getD i.k En.ab)=false by simp only[vd];grind only);refine go [.R,.a,.Z] (k:=?_);refine aM 4 ?_;refine rb ?_;simp only[cI,bU,br,cU,cS];grind only
  try simp only[ai]at c15
  refine go [.J,.R1,.m,.N,.b,.a,.Z] (k:=?_);refine⟨⟨i.k+1,by omega,i.next En.ab (by omega) (by simp only[vd];grind only)⟩,ws,?_⟩;show p.cV.length-(i.k+1)<p.cV.length-i.k;omega
 try simp only[ai]at c10
 have hF:=i.full (by omega);refine AW.exit ?_;dsimp only[aJ,ay,reduceIte];refine go [.R2,.f,.N,.l,.b,.Z] (k:=?_);refine cd (λc16=>?_) λc16=>?_
 ·try simp only[ai]at c16
  refine go [.R,.G,.N,.f,.l] (k:=?_);refine cv Tryz.call184 rfl rfl (uJ u _) ?_;refine go [.N,.a,.Z,.R,.m,.b,.N,.m] (k:=?_);apply az.cut 5
  ·intro Kg17;refine az.bA 98 rfl (λg17=>?_) (λg17=>?_)
   ·have eg17:=g17
    try simp only[ai]at eg17
    refine go [.f,.l,.N,.f,.l,.b,.N] (k:=?_);exact bZ 103 [99,100,101,102,103] (bY g17 _ undef) Kg17
   ·refine go [.x,.x,.x,.x,.N,.x] (k:=?_);exact bX 103 [99,100,101,102,103] (b6 g17 undef _) Kg17
  refine qq (Qt.bz rfl rfl rfl) ?_;refine go [.m] (k:=?_);apply az.cut 7
  ·intro Kg18;refine az.bA 105 rfl (λg18=>?_) (λg18=>?_)
   ·have eg18:=g18
    try simp only[ai]at eg18
    refine go [.f,.N,.l,.m] (k:=?_);refine qg (nF g18) (Qt.indexAddr rfl rfl rfl rfl fy dh (by decide) (by first|omega|grind)) ?_;refine go [.N,.f,.l,.b,.N] (k:=?_);exact bZ 112 [106,107,108,109,110,111,112] (bY g18 _ undef) Kg18
   ·refine go [.x,.x,.x,.x,.N,.x,.x,.x] (k:=?_);exact bX 112 [106,107,108,109,110,111,112] (b6 g18 undef _) Kg18
  refine qq (Qt.bz rfl rfl rfl) ?_;refine go [.Z] (k:=?_);refine cd (λc19=>?_) λc19=>?_
  ·try simp only[ai]at c19
   refine go [.R,.a,.Z] (k:=?_);refine aM 4 ?_;refine rb ?_;simp only[cI,bU,br,cU,cS];grind only
  try simp only[ai]at c19
  refine jd (bP ?_);refine go [.f,.N,.l,.Z] (k:=?_);refine AW.block (sr ?_);refine go [.b,.a,.Z] (k:=?_);refine cd (λc20=>?_) λc20=>?_
  ·try simp only[ai]at c20
   refine go [.R,.f,.N,.l,.f,.l,.N,.b,.Z] (k:=?_);refine cd (λc21=>?_) λc21=>?_
   ·try simp only[ai]at c21
    refine go [.R,.a,.Z] (k:=?_);refine aM 4 ?_;refine rb ?_;simp only[cI,bU,br,cU,cS];grind only
   try simp only[ai]at c21
   refine jd (bP ?_);refine go [.f,.N,.l,.b,.Z] (k:=?_);refine cd (λc22=>?_) λc22=>?_
   ·try simp only[ai]at c22
    refine go [.R,.f,.N,.l,.h,.b,.N,.m] (k:=?_);apply az.cut 3
    ·intro Kg23;refine az.split 149 rfl (λg23=>?_) (λg23=>?_)
     ·have eg23:=g23
      try simp only[ai]at eg23
      refine go [.f,.l,.N,.b] (k:=?_);exact bZ 152 [150,151,152] (b6 g23 _ undef) Kg23
     ·refine go [.x,.x,.x] (k:=?_);exact bX 152 [150,151,152] (bY g23 undef _) Kg23
    refine qq (Qt.aD rfl rfl rfl) ?_;refine go [.a,.Z] (k:=?_);refine aM 4 ?_;refine rb ?_;simp only[cI,bU,br,cU,cS];grind only
   try simp only[ai]at c22
   refine go [.J,.R,.f,.N,.l,.h,.b,.N,.m] (k:=?_);apply az.cut 3
   ·intro Kg24;refine az.split 158 rfl (λg24=>?_) (λg24=>?_)
    ·have eg24:=g24
     try simp only[ai]at eg24
     refine go [.f,.l,.N,.b] (k:=?_);exact bZ 161 [159,160,161] (b6 g24 _ undef) Kg24
    ·refine go [.x,.x,.x] (k:=?_);exact bX 161 [159,160,161] (bY g24 undef _) Kg24
   refine qq (Qt.aD rfl rfl rfl) ?_;refine go [.a,.Z] (k:=?_);refine aM 4 ?_;refine rb ?_;simp only[cI,bU,br,cU,cS];grind only
  try simp only[ai]at c20
  refine go [.R2,.b,.N,.a,.Z] (k:=?_);refine cd (λc25=>?_) λc25=>?_
  ·have k25:=c25
   try simp only[ai]at c25
   refine go [.J] (k:=?_);refine AW.jU rfl k25 ?_;refine go [.R,.G,.f,.N,.l] (k:=?_);refine cv Tryz.call183 rfl rfl (iM u _) ?_;refine go [.N,.b,.m] (k:=?_);apply az.cut 6
   ·intro Kg26;refine az.bA 134 rfl (λg26=>?_) (λg26=>?_)
    ·have eg26:=g26
     try simp only[ai]at eg26
     refine go [.f,.N,.l,.f,.l,.N] (k:=?_);refine az.step rfl (nF g26) (aK.aL rfl (by decide) Tryz.call143 rfl rfl (ic _ _)) ?_;refine go [.N,.n] (k:=?_);exact bZ 140 [135,136,137,138,139,140] (bY g26 _ undef) Kg26
    ·refine go [.x,.x,.x,.x,.N,.x,.x] (k:=?_);exact bX 140 [135,136,137,138,139,140] (b6 g26 undef _) Kg26
   refine qq (Qt.bz rfl rfl rfl) ?_;refine go [.Z] (k:=?_);refine cd (λc27=>?_) λc27=>?_
   ·try simp only[ai]at c27
    refine go [.R,.a,.Z] (k:=?_);refine aM 4 ?_;refine rb ?_;simp only[cI,bU,br,cU,cS];grind only
   try simp only[ai]at c27
   refine jd (bP ?_);refine go [.f,.N,.l,.b,.Z] (k:=?_);refine cd (λc28=>?_) λc28=>?_
   ·try simp only[ai]at c28
    refine go [.R,.f,.N,.l,.h,.b,.N,.m] (k:=?_);apply az.cut 3
    ·intro Kg29;refine az.split 149 rfl (λg29=>?_) (λg29=>?_)
     ·have eg29:=g29
      try simp only[ai]at eg29
      refine go [.f,.l,.N,.b] (k:=?_);exact bZ 152 [150,151,152] (b6 g29 _ undef) Kg29
     ·refine go [.x,.x,.x] (k:=?_);exact bX 152 [150,151,152] (bY g29 undef _) Kg29
    refine qq (Qt.aD rfl rfl rfl) ?_;refine go [.a,.Z] (k:=?_);refine aM 4 ?_;refine rb ?_;simp only[cI,bU,br,cU,cS];grind only
   try simp only[ai]at c28
   refine go [.J,.R,.f,.N,.l,.h,.b,.N,.m] (k:=?_);apply az.cut 3
   ·intro Kg30;refine az.split 158 rfl (λg30=>?_) (λg30=>?_)
    ·have eg30:=g30
     try simp only[ai]at eg30
     refine go [.f,.l,.N,.b] (k:=?_);exact bZ 161 [159,160,161] (b6 g30 _ undef) Kg30
    ·refine go [.x,.x,.x] (k:=?_);exact bX 161 [159,160,161] (bY g30 undef _) Kg30
   refine qq (Qt.aD rfl rfl rfl) ?_;refine go [.a,.Z] (k:=?_);refine aM 4 ?_;refine rb ?_;simp only[cI,bU,br,cU,cS];grind only
  have k25:=c25
  try simp only[ai]at c25
  refine go [.R1,.b,.N,.a,.Z] (k:=?_);refine cd (λc31=>?_) λc31=>?_
  ·try simp only[ai]at c31
   refine go [.R,.G,.f,.N,.l] (k:=?_);refine cv Tryz.call183 rfl rfl (iM u _) ?_;refine go [.N,.b,.m] (k:=?_);apply az.cut 6
   ·intro Kg32;refine az.bA 134 rfl (λg32=>?_) (λg32=>?_)
    ·have eg32:=g32
     try simp only[ai]at eg32
     refine go [.f,.N,.l,.f,.l,.N] (k:=?_);refine az.step rfl (nF g32) (aK.aL rfl (by decide) Tryz.call143 rfl rfl (ic _ _)) ?_;refine go [.N,.n] (k:=?_);exact bZ 140 [135,136,137,138,139,140] (bY g32 _ undef) Kg32
    ·refine go [.x,.x,.x,.x,.N,.x,.x] (k:=?_);exact bX 140 [135,136,137,138,139,140] (b6 g32 undef _) Kg32
   refine qq (Qt.bz rfl rfl rfl) ?_;refine go [.Z] (k:=?_);refine cd (λc33=>?_) λc33=>?_
   ·try simp only[ai]at c33
    refine go [.R,.a,.Z] (k:=?_);refine aM 4 ?_;refine rb ?_;simp only[cI,bU,br,cU,cS];grind only
   try simp only[ai]at c33
   refine jd (bP ?_);refine go [.f,.N,.l,.b,.Z] (k:=?_);refine cd (λc34=>?_) λc34=>?_
   ·try simp only[ai]at c34
    refine go [.R,.f,.N,.l,.h,.b,.N,.m] (k:=?_);apply az.cut 3
    ·intro Kg35;refine az.split 149 rfl (λg35=>?_) (λg35=>?_)
     ·have eg35:=g35
      try simp only[ai]at eg35
      refine go [.f,.l,.N,.b] (k:=?_);exact bZ 152 [150,151,152] (b6 g35 _ undef) Kg35
     ·refine go [.x,.x,.x] (k:=?_);exact bX 152 [150,151,152] (bY g35 undef _) Kg35
    refine qq (Qt.aD rfl rfl rfl) ?_;refine go [.a,.Z] (k:=?_);refine aM 4 ?_;refine rb ?_;simp only[cI,bU,br,cU,cS];grind only
   try simp only[ai]at c34
   refine go [.J,.R,.f,.N,.l,.h,.b,.N,.m] (k:=?_);apply az.cut 3
   ·intro Kg36;refine az.split 158 rfl (λg36=>?_) (λg36=>?_)
    ·have eg36:=g36
     try simp only[ai]at eg36
     refine go [.f,.l,.N,.b] (k:=?_);exact bZ 161 [159,160,161] (b6 g36 _ undef) Kg36
    ·refine go [.x,.x,.x] (k:=?_);exact bX 161 [159,160,161] (bY g36 undef _) Kg36
   refine qq (Qt.aD rfl rfl rfl) ?_;refine go [.a,.Z] (k:=?_);refine aM 4 ?_;refine rb ?_;simp only[cI,bU,br,cU,cS];grind only
  try simp only[ai]at c31
  refine go [.R,.f,.N,.l,.b,.Z] (k:=?_);refine cd (λc37=>?_) λc37=>?_
  ·try simp only[ai]at c37
   refine go [.R,.a,.Z] (k:=?_);refine aM 4 ?_;refine rb ?_;simp only[cI,bU,br,cU,cS];grind only
  try simp only[ai]at c37
  refine jd (bP ?_);refine go [.f,.N,.l,.b,.Z] (k:=?_);refine cd (λc38=>?_) λc38=>?_
  ·try simp only[ai]at c38
   refine go [.R,.f,.N,.l,.h,.b,.N,.m] (k:=?_);apply az.cut 3
   ·intro Kg39;refine az.split 149 rfl (λg39=>?_) (λg39=>?_)
    ·have eg39:=g39
     try simp only[ai]at eg39
     refine go [.f,.l,.N,.b] (k:=?_);exact bZ 152 [150,151,152] (b6 g39 _ undef) Kg39
    ·refine go [.x,.x,.x] (k:=?_);exact bX 152 [150,151,152] (bY g39 undef _) Kg39
   refine qq (Qt.aD rfl rfl rfl) ?_;refine go [.a,.Z] (k:=?_);refine aM 4 ?_;refine rb ?_;simp only[cI,bU,br,cU,cS];grind only
  try simp only[ai]at c38
  refine go [.J,.R,.f,.N,.l,.h,.b,.N,.m] (k:=?_);apply az.cut 3
  ·intro Kg40;refine az.split 158 rfl (λg40=>?_) (λg40=>?_)
   ·have eg40:=g40
    try simp only[ai]at eg40
    refine go [.f,.l,.N,.b] (k:=?_);exact bZ 161 [159,160,161] (b6 g40 _ undef) Kg40
   ·refine go [.x,.x,.x] (k:=?_);exact bX 161 [159,160,161] (bY g40 undef _) Kg40
  refine qq (Qt.aD rfl rfl rfl) ?_;refine go [.a,.Z] (k:=?_);refine aM 4 ?_;refine rb ?_;simp only[cI,bU,br,cU,cS];grind only
 try simp only[ai]at c16
 refine jd (bP ?_);refine go [.f,.N,.l,.Z] (k:=?_);refine AW.block (sr ?_);refine go [.b,.a,.Z] (k:=?_);refine cd (λc41=>?_) λc41=>?_
 ·try simp only[ai]at c41
  refine go [.R,.f,.N,.l,.f,.l,.N,.b,.Z] (k:=?_);refine cd (λc42=>?_) λc42=>?_
  ·try simp only[ai]at c42
   refine go [.R,.a,.Z] (k:=?_);refine aM 4 ?_;refine rb ?_;simp only[cI,bU,br,cU,cS];grind only
  try simp only[ai]at c42
  refine jd (bP ?_);refine go [.f,.N,.l,.b,.Z] (k:=?_);refine cd (λc43=>?_) λc43=>?_
  ·try simp only[ai]at c43
   refine go [.R,.f,.N,.l,.h,.b,.N,.m] (k:=?_);apply az.cut 3
   ·intro Kg44;refine az.split 149 rfl (λg44=>?_) (λg44=>?_)
    ·have eg44:=g44
     try simp only[ai]at eg44
     refine go [.f,.l,.N,.b] (k:=?_);exact bZ 152 [150,151,152] (b6 g44 _ undef) Kg44
    ·refine go [.x,.x,.x] (k:=?_);exact bX 152 [150,151,152] (bY g44 undef _) Kg44
   refine qq (Qt.aD rfl rfl rfl) ?_;refine go [.a,.Z] (k:=?_);refine aM 4 ?_;refine rb ?_;simp only[cI,bU,br,cU,cS];grind only
  try simp only[ai]at c43
  refine go [.J,.R,.f,.N,.l,.h,.b,.N,.m] (k:=?_);apply az.cut 3
  ·intro Kg45;refine az.split 158 rfl (λg45=>?_) (λg45=>?_)
   ·have eg45:=g45
    try simp only[ai]at eg45
    refine go [.f,.l,.N,.b] (k:=?_);exact bZ 161 [159,160,161] (b6 g45 _ undef) Kg45
   ·refine go [.x,.x,.x] (k:=?_);exact bX 161 [159,160,161] (bY g45 undef _) Kg45
  refine qq (Qt.aD rfl rfl rfl) ?_;refine go [.a,.Z] (k:=?_);refine aM 4 ?_;refine rb ?_;simp only[cI,bU,br,cU,cS];grind only
 try simp only[ai]at c41
 refine go [.R2,.b,.N,.a,.Z] (k:=?_);refine cd (λc46=>?_) λc46=>?_
 ·have k46:=c46
  try simp only[ai]at c46
  refine go [.J] (k:=?_);refine AW.jU rfl k46 ?_;refine go [.R,.G,.f,.N,.l] (k:=?_);refine cv Tryz.call183 rfl rfl (iM u _) ?_;refine go [.N,.b,.m] (k:=?_);apply az.cut 6
  ·intro Kg47;refine az.bA 134 rfl (λg47=>?_) (λg47=>?_)
   ·have eg47:=g47
    try simp only[ai]at eg47
    refine go [.f,.N,.l,.f,.l,.N] (k:=?_);refine az.step rfl (nF g47) (aK.aL rfl (by decide) Tryz.call143 rfl rfl (ic _ _)) ?_;refine go [.N,.n] (k:=?_);exact bZ 140 [135,136,137,138,139,140] (bY g47 _ undef) Kg47
   ·refine go [.x,.x,.x,.x,.N,.x,.x] (k:=?_);exact bX 140 [135,136,137,138,139,140] (b6 g47 undef _) Kg47
  refine qq (Qt.bz rfl rfl rfl) ?_;refine go [.Z] (k:=?_);refine cd (λc48=>?_) λc48=>?_
  ·try simp only[ai]at c48
   refine go [.R,.a,.Z] (k:=?_);refine aM 4 ?_;refine rb ?_;simp only[cI,bU,br,cU,cS];grind only
  try simp only[ai]at c48
  refine jd (bP ?_);refine go [.f,.N,.l,.b,.Z] (k:=?_);refine cd (λc49=>?_) λc49=>?_
  ·try simp only[ai]at c49
   refine go [.R,.f,.N,.l,.h,.b,.N,.m] (k:=?_);apply az.cut 3
   ·intro Kg50;refine az.split 149 rfl (λg50=>?_) (λg50=>?_)
    ·have eg50:=g50
     try simp only[ai]at eg50
     refine go [.f,.l,.N,.b] (k:=?_);exact bZ 152 [150,151,152] (b6 g50 _ undef) Kg50
    ·refine go [.x,.x,.x] (k:=?_);exact bX 152 [150,151,152] (bY g50 undef _) Kg50
   refine qq (Qt.aD rfl rfl rfl) ?_;refine go [.a,.Z] (k:=?_);refine aM 4 ?_;refine rb ?_;simp only[cI,bU,br,cU,cS];grind only
  try simp only[ai]at c49
  refine go [.J,.R,.f,.N,.l,.h,.b,.N,.m] (k:=?_);apply az.cut 3
  ·intro Kg51;refine az.split 158 rfl (λg51=>?_) (λg51=>?_)
   ·have eg51:=g51
    try simp only[ai]at eg51
    refine go [.f,.l,.N,.b] (k:=?_);exact bZ 161 [159,160,161] (b6 g51 _ undef) Kg51
   ·refine go [.x,.x,.x] (k:=?_);exact bX 161 [159,160,161] (bY g51 undef _) Kg51
  refine qq (Qt.aD rfl rfl rfl) ?_;refine go [.a,.Z] (k:=?_);refine aM 4 ?_;refine rb ?_;simp only[cI,bU,br,cU,cS];grind only
 have k46:=c46
 try simp only[ai]at c46
 refine go [.R1,.b,.N,.a,.Z] (k:=?_);refine cd (λc52=>?_) λc52=>?_
 ·try simp only[ai]at c52
  refine go [.R,.G,.f,.N,.l] (k:=?_);refine cv Tryz.call183 rfl rfl (iM u _) ?_;refine go [.N,.b,.m] (k:=?_);apply az.cut 6
  ·intro Kg53;refine az.bA 134 rfl (λg53=>?_) (λg53=>?_)
   ·have eg53:=g53
    try simp only[ai]at eg53
    refine go [.f,.N,.l,.f,.l,.N] (k:=?_);refine az.step rfl (nF g53) (aK.aL rfl (by decide) Tryz.call143 rfl rfl (ic _ _)) ?_;refine go [.N,.n] (k:=?_);exact bZ 140 [135,136,137,138,139,140] (bY g53 _ undef) Kg53
   ·refine go [.x,.x,.x,.x,.N,.x,.x] (k:=?_);exact bX 140 [135,136,137,138,139,140] (b6 g53 undef _) Kg53
  refine qq (Qt.bz rfl rfl rfl) ?_;refine go [.Z] (k:=?_);refine cd (λc54=>?_) λc54=>?_
  ·try simp only[ai]at c54
   refine go [.R,.a,.Z] (k:=?_);refine aM 4 ?_;refine rb ?_;simp only[cI,bU,br,cU,cS];grind only
  try simp only[ai]at c54
  refine jd (bP ?_);refine go [.f,.N,.l,.b,.Z] (k:=?_);refine cd (λc55=>?_) λc55=>?_
  ·try simp only[ai]at c55
   refine go [.R,.f,.N,.l,.h,.b,.N,.m] (k:=?_);apply az.cut 3
   ·intro Kg56;refine az.split 149 rfl (λg56=>?_) (λg56=>?_)
    ·have eg56:=g56
     try simp only[ai]at eg56
     refine go [.f,.l,.N,.b] (k:=?_);exact bZ 152 [150,151,152] (b6 g56 _ undef) Kg56
    ·refine go [.x,.x,.x] (k:=?_);exact bX 152 [150,151,152] (bY g56 undef _) Kg56
   refine qq (Qt.aD rfl rfl rfl) ?_;refine go [.a,.Z] (k:=?_);refine aM 4 ?_;refine rb ?_;simp only[cI,bU,br,cU,cS];grind only
  try simp only[ai]at c55
  refine go [.J,.R,.f,.N,.l,.h,.b,.N,.m] (k:=?_);apply az.cut 3
  ·intro Kg57;refine az.split 158 rfl (λg57=>?_) (λg57=>?_)
   ·have eg57:=g57
    try simp only[ai]at eg57
    refine go [.f,.l,.N,.b] (k:=?_);exact bZ 161 [159,160,161] (b6 g57 _ undef) Kg57
   ·refine go [.x,.x,.x] (k:=?_);exact bX 161 [159,160,161] (bY g57 undef _) Kg57
  refine qq (Qt.aD rfl rfl rfl) ?_;refine go [.a,.Z] (k:=?_);refine aM 4 ?_;refine rb ?_;simp only[cI,bU,br,cU,cS];grind only
 try simp only[ai]at c52
 refine go [.R,.f,.N,.l,.b,.Z] (k:=?_);refine cd (λc58=>?_) λc58=>?_
 ·try simp only[ai]at c58
  refine go [.R,.a,.Z] (k:=?_);refine aM 4 ?_;refine rb ?_;simp only[cI,bU,br,cU,cS];grind only
 try simp only[ai]at c58
 refine jd (bP ?_);refine go [.f,.N,.l,.b,.Z] (k:=?_);refine cd (λc59=>?_) λc59=>?_
 ·try simp only[ai]at c59
  refine go [.R,.f,.N,.l,.h,.b,.N,.m] (k:=?_);apply az.cut 3
  ·intro Kg60;refine az.split 149 rfl (λg60=>?_) (λg60=>?_)
   ·have eg60:=g60
    try simp only[ai]at eg60
    refine go [.f,.l,.N,.b] (k:=?_);exact bZ 152 [150,151,152] (b6 g60 _ undef) Kg60
   ·refine go [.x,.x,.x] (k:=?_);exact bX 152 [150,151,152] (bY g60 undef _) Kg60
  refine qq (Qt.aD rfl rfl rfl) ?_;refine go [.a,.Z] (k:=?_);refine aM 4 ?_;refine rb ?_;simp only[cI,bU,br,cU,cS];grind only
 try simp only[ai]at c59
 refine go [.J,.R,.f,.N,.l,.h,.b,.N,.m] (k:=?_);apply az.cut 3
 ·intro Kg61;refine az.split 158 rfl (λg61=>?_) (λg61=>?_)
  ·have eg61:=g61
   try simp only[ai]at eg61
   refine go [.f,.l,.N,.b] (k:=?_);exact bZ 161 [159,160,161] (b6 g61 _ undef) Kg61
  ·refine go [.x,.x,.x] (k:=?_);exact bX 161 [159,160,161] (bY g61 undef _) Kg61
 refine qq (Qt.aD rfl rfl rfl) ?_;refine go [.a,.Z] (k:=?_);refine aM 4 ?_;refine rb ?_;simp only[cI,bU,br,cU,cS];grind only
end Go.Proofs.YtekcnnngjoonbaaGreat.VM

