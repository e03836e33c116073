/- Contracts. No conditions. -/
import Derived.Test.YtekcnnngjoonbaaGreatWm
set_option linter.all false
set_option maxHeartbeats 8000000
set_option maxRecDepth 10000
namespace Go.Proofs.YtekcnnngjoonbaaGreat.VM
open List Nat
open Go Go.RowKit Go.Proofs Go.Proofs.Tryz
theorem jM(u:aX)(p:bu):a_ prog 139 [.g [.v (iv u.Next),.v (iv u.bp),.h aa [],.h (aa+1) [],.h (aa+2) [],.h (aa+3) [],.h (aa+4) [],.h (aa+5) [],.h (aa+6) []],.g [.v (iv p.ey),.v (iv p.bM),.v (iv p.State),.v (iv p.dX),.v (iv p.dh.Pc),.h (aa+7) [],.h (aa+8) [],.h (aa+9) [],.v (iv p.cJ),.v (iv p.Code)]] [.rt aa .ro (tr u.aP),.rt (aa+1) .ro (tr u.ag),.rt (aa+2) .ro (tr u.ao),.rt (aa+3) .ro (tr u.ak),.rt (aa+4) .ro (tr u.ay),.rt (aa+5) .ro (tr u.aN),.rt (aa+6) .ro (tr u.Out),.rt (aa+7) .ro (tr p.dh.b_),.rt (aa+8) .ro (tr p.Mem),.rt (aa+9) .ro (tr p.cH)] (λy _=>y= .v (.bool (cE u p))):=by
 refine ob func139 ntmps139 ?_;refine AW.len (aa+1) [] rfl (by simp[bT]) rfl (λhl=>?_);refine AW.len (aa+9) [] rfl (by simp[bT]) rfl (λhl7=>?_);have hpb:kp u p.bM<u.ag.length:=(l8 _ _).2;have hZ:=AM u p;refine go [.R,.B,.N,.B,.N,.a,.Z,.R2,.f,.l,.N] ?_;refine cv call135 rfl rfl (cD _ _ _) ?_;refine go [.N,.n,.m] ?_;apply aB.cut 3
 ·intro Kg1;refine aB.bq 11 rfl (λg1=>?_) (λg1=>?_)
  ·have eg1:=g1
   try simp only[ah]at eg1
   refine go [.f,.N,.l,.b] ?_;exact bV 14 [12,13,14] (bU g1 _ undef) Kg1
  ·refine go [.x,.x,.x] ?_;exact bX 14 [12,13,14] (bY g1 undef _) Kg1
 refine qq (Qt.br rfl rfl rfl) ?_;refine go [.N,.m] ?_;apply aB.cut 6
 ·intro Kg2;refine aB.bq 16 rfl (λg2=>?_) (λg2=>?_)
  ·have eg2:=g2
   try simp only[ah]at eg2
   refine go [.f,.l,.N,.f,.l,.h,.N,.b] ?_;exact bV 22 [17,18,19,20,21,22] (bU g2 _ undef) Kg2
  ·refine go [.x,.x,.x,.x,.N,.x,.x] ?_;exact bX 22 [17,18,19,20,21,22] (bY g2 undef _) Kg2
 refine qq (Qt.br rfl rfl rfl) ?_;refine go [.m,.N] ?_;apply aB.cut 4
 ·intro Kg3;refine aB.bq 24 rfl (λg3=>?_) (λg3=>?_)
  ·have eg3:=g3
   try simp only[ah]at eg3
   refine go [.f,.G] ?_;refine aB.step rfl (nF g3) (aE.aC rfl (by decide) call182 rfl rfl (v7 _ _)) ?_;refine go [.N,.n] ?_;exact bV 28 [25,26,27,28] (bU g3 _ undef) Kg3
  ·refine go [.x,.x,.x,.x] ?_;exact bX 28 [25,26,27,28] (bY g3 undef _) Kg3
 refine qq (Qt.br rfl rfl rfl) ?_;refine go [.m,.N] ?_;apply aB.cut 4
 ·intro Kg4;refine aB.bq 30 rfl (λg4=>?_) (λg4=>?_)
  ·have eg4:=g4
   try simp only[ah]at eg4
   refine go [.f,.l,.h,.N,.b] ?_;exact bV 34 [31,32,33,34] (bU g4 _ undef) Kg4
  ·refine go [.x,.x,.x,.x] ?_;exact bX 34 [31,32,33,34] (bY g4 undef _) Kg4
 refine qq (Qt.br rfl rfl rfl) ?_;refine go [.m,.N] ?_;apply aB.cut 5
 ·intro Kg5;refine aB.bq 36 rfl (λg5=>?_) (λg5=>?_)
  ·have eg5:=g5
   try simp only[ah]at eg5
   refine go [.f,.l,.h,.N] ?_;refine qg (nF g5) (Qt.binOp rfl rfl (by first|exact lC _|rfl|exact lf (by omega))) ?_;refine go [.b] ?_;exact bV 41 [37,38,39,40,41] (bU g5 _ undef) Kg5
  ·refine go [.x,.x,.x,.x,.N,.x] ?_;exact bX 41 [37,38,39,40,41] (bY g5 undef _) Kg5
 refine qq (Qt.br rfl rfl rfl) ?_;refine go [.N,.m] ?_;apply aB.cut 4
 ·intro Kg6;refine aB.bq 43 rfl (λg6=>?_) (λg6=>?_)
  ·have eg6:=g6
   try simp only[ah]at eg6
   refine go [.f,.l,.N] ?_;refine aB.step rfl (nF g6) (aE.aC rfl (by decide) call137 rfl rfl (eS _)) ?_;refine go [.N,.n] ?_;exact bV 47 [44,45,46,47] (bU g6 _ undef) Kg6
  ·refine go [.x,.x,.x,.x] ?_;exact bX 47 [44,45,46,47] (bY g6 undef _) Kg6
 refine qq (Qt.br rfl rfl rfl) ?_;refine go [.m,.N] ?_;apply aB.cut 4
 ·intro Kg7;refine aB.bq 49 rfl (λg7=>?_) (λg7=>?_)
  ·have eg7:=g7
   try simp only[ah]at eg7
   refine go [.f,.l,.h,.N,.b] ?_;exact bV 53 [50,51,52,53] (bU g7 _ undef) Kg7
  ·refine go [.x,.x,.x,.x] ?_;exact bX 53 [50,51,52,53] (bY g7 undef _) Kg7
 refine qq (Qt.br rfl rfl rfl) ?_;refine go [.m,.N] ?_;apply aB.cut 4
 ·intro Kg8;refine aB.bq 55 rfl (λg8=>?_) (λg8=>?_)
  ·have eg8:=g8
   try simp only[ah]at eg8
   refine go [.f,.l] ?_;refine aB.step rfl (nF g8) (aE.aC rfl (by decide) call181 rfl rfl (oY _)) ?_;refine go [.N,.n] ?_;exact bV 59 [56,57,58,59] (bU g8 _ undef) Kg8
  ·refine go [.x,.x,.x,.x] ?_;exact bX 59 [56,57,58,59] (bY g8 undef _) Kg8
 refine qq (Qt.br rfl rfl rfl) ?_;refine go [.Z] ?_;refine cd (λc9=>?_) λc9=>?_
 ·try simp only[ah]at c9
  refine go [.R,.a,.Z] ?_;refine aQ 4 ?_;refine rb ?_;simp only[cE,bQ,bn,cS,cQ];grind only
 try simp only[ah]at c9
 refine jd (dq ?_);refine go [.a,.Z] ?_;refine AW.block ?_;refine AW.aL (λi:ft (wR u p) p.cH=>(.sl 5 (.v (iv i.k)) :: .rt 2 .box (T.s 9 1 λk c=>([(T.v (iv u.Next),none),(T.v (iv u.bp),none),(T.j,none),(T.j,none),(T.j,none),(T.j,none),(T.j,none),(T.j,none),(T.j,none)].getD (k*9+c) (T.j,none)).fst) :: .al 2 2 (.h aa []) :: .al 2 3 (.h (aa+1) []) :: .al 2 4 (.h (aa+2) []) :: .al 2 5 (.h (aa+3) []) :: .al 2 6 (.h (aa+4) []) :: .al 2 7 (.h (aa+5) []) :: .al 2 8 (.h (aa+6) []) :: .rt aa .ro (tr u.aP) :: .rt (aa+1) .ro (tr u.ag) :: .rt (aa+2) .ro (tr u.ao) :: .rt (aa+3) .ro (tr u.ak) :: .rt (aa+4) .ro (tr u.ay) :: .rt (aa+5) .ro (tr u.aN) :: .rt (aa+6) .ro (tr u.Out) :: .sl 2 (.p 2 [] 9 0 0) :: .rt 3 .box (T.s 10 1 λk c=>([(T.v (iv p.ey),none),(T.v (iv p.bM),none),(T.v (iv p.State),none),(T.v (iv p.dX),none),(T.v (iv p.dh.Pc),none),(T.j,none),(T.j,none),(T.j,none),(T.v (iv p.cJ),none),(T.v (iv p.Code),none)].getD (k*10+c) (T.j,none)).fst) :: .al 3 5 (.h (aa+7) []) :: .al 3 6 (.h (aa+8) []) :: .al 3 7 (.h (aa+9) []) :: .rt (aa+7) .ro (tr p.dh.b_) :: .rt (aa+8) .ro (tr p.Mem) :: .rt (aa+9) .ro (tr p.cH) :: .sl 3 (.p 3 [] 10 0 0) :: [])) (λi=>p.cH.length-i.k) ⟨0,zero_le _,rfl⟩ (ws) ?_;intro i;have hle:=i.le;refine go [.R2,.m,.N,.f,.l,.h,.N,.b,.Z] ?_;refine cd (λc10=>?_) λc10=>?_
 ·try simp only[ah]at c10
  refine jd (AW.seq (AW.block (AW.seq ?_)));refine go [.D [0,1,2,3,4,5,6,7,8,9,10,11,12,14,15,16,17,18,19,20],.t 0,.f,.t 1,.l,.N,.t 2,.m] ?_;refine tk 3 rfl (Qt.indexAddr rfl rfl rfl rfl kb fP (by decide) (by first|omega|grind)) ?_;refine go [.t 4,.l,.N,.t 5,.b,.t 6,.m] ?_;refine aO.split 74 rfl (λg11=>?_) (λg11=>?_)
  ·refine go [.t 7,.G,.N,.t 8,.f,.t 9,.l,.t 10,.m,.N] ?_;refine tg 11 rfl g11 (Qt.indexAddr rfl rfl rfl rfl kb fP (by decide) (by first|omega|grind)) ?_;refine go [.t 12,.l] ?_;refine a1 13 [] [12,7,6,11,5,10,9,4,8,3,2,1,0] rfl g11 (aE.aC rfl (by decide) call183 rfl rfl (iF u _)) ?_;refine go [.N,.t 14,.b,.t 15,.m] ?_;refine aO.split 83 rfl (λg12=>?_) (λg12=>?_)
   ·refine go [.t 16,.x,.N,.t 17,.x,.t 18,.x] ?_;refine tg 19 rfl g11 (Qt.bj rfl g12) ?_;refine go [.N] ?_;refine tk 20 rfl (Qt.bj rfl g11) ?_;refine go [.Z] ?_;refine cd (λc13=>?_) λc13=>?_
    ·try simp only[ah]at c13
     have hS:=i.stop En.ab (by omega) (show wR u p (p.cH.getD i.k En.ab)=false by simp only[wR];grind only);refine go [.R,.a,.Z] ?_;refine aQ 4 ?_;refine rb ?_;simp only[cE,bQ,bn,cS,cQ];grind only
    try simp only[ah]at c13
    refine go [.J,.R1,.m,.N,.b,.a,.Z] ?_;refine⟨⟨i.k+1,by omega,i.next En.ab (by omega) (by simp only[wR];grind only)⟩,ws,?_⟩;show p.cH.length-(i.k+1)<p.cH.length-i.k;omega
   refine go [.t 16,.f,.N,.t 17,.l,.t 18,.b] ?_;refine tg 19 rfl g11 (Qt.bd rfl g12) ?_;refine go [.N] ?_;refine tk 20 rfl (Qt.bj rfl g11) ?_;refine go [.Z] ?_;refine cd (λc14=>?_) λc14=>?_
   ·try simp only[ah]at c14
    have hS:=i.stop En.ab (by omega) (show wR u p (p.cH.getD i.k En.ab)=false by simp only[wR];grind only);refine go [.R,.a,.Z] ?_;refine aQ 4 ?_;refine rb ?_;simp only[cE,bQ,bn,cS,cQ];grind only
   try simp only[ah]at c14
   refine go [.J,.R1,.m,.N,.b,.a,.Z] ?_;refine⟨⟨i.k+1,by omega,i.next En.ab (by omega) (by simp only[wR];grind only)⟩,ws,?_⟩;show p.cH.length-(i.k+1)<p.cH.length-i.k;omega
  refine go [.t 7,.x,.N,.t 8,.x,.t 9,.x,.t 10,.x,.N,.t 11,.x,.t 12,.x,.O 13 [] [12,7,6,11,5,10,9,4,8,3,2,1,0],.x,.N,.t 14,.x,.t 15,.x,.t 16,.x,.N,.t 17,.x,.t 18,.x,.t 19,.x,.N] ?_;refine tk 20 rfl (Qt.bd rfl g11) ?_;refine go [.Z] ?_;refine cd (λc15=>?_) λc15=>?_
  ·try simp only[ah]at c15
   have hS:=i.stop En.ab (by omega) (show wR u p (p.cH.getD i.k En.ab)=false by simp only[wR];grind only);refine go [.R,.a,.Z] ?_;refine aQ 4 ?_;refine rb ?_;simp only[cE,bQ,bn,cS,cQ];grind only
  try simp only[ah]at c15
  refine go [.J,.R1,.m,.N,.b,.a,.Z] ?_;refine⟨⟨i.k+1,by omega,i.next En.ab (by omega) (by simp only[wR];grind only)⟩,ws,?_⟩;show p.cH.length-(i.k+1)<p.cH.length-i.k;omega
 try simp only[ah]at c10
 have hF:=i.full (by omega);refine AW.exit ?_;dsimp only[aD,au,reduceIte];refine go [.R2,.f,.N,.l,.b,.Z] ?_;refine cd (λc16=>?_) λc16=>?_
 ·try simp only[ah]at c16
  refine go [.R,.G,.N,.f,.l] ?_;refine cv call184 rfl rfl (vV u _) ?_;refine go [.N,.a,.Z,.R,.m,.b,.N,.m] ?_;apply aB.cut 5
  ·intro Kg17;refine aB.bq 98 rfl (λg17=>?_) (λg17=>?_)
   ·have eg17:=g17
    try simp only[ah]at eg17
    refine go [.f,.l,.N,.f,.l,.b,.N] ?_;exact bV 103 [99,100,101,102,103] (bU g17 _ undef) Kg17
   ·refine go [.x,.x,.x,.x,.N,.x] ?_;exact bX 103 [99,100,101,102,103] (bY g17 undef _) Kg17
  refine qq (Qt.br rfl rfl rfl) ?_;refine go [.m] ?_;apply aB.cut 7
  ·intro Kg18;refine aB.bq 105 rfl (λg18=>?_) (λg18=>?_)
   ·have eg18:=g18
    try simp only[ah]at eg18
    refine go [.f,.N,.l,.m] ?_;refine qg (nF g18) (Qt.indexAddr rfl rfl rfl rfl f_ fL (by decide) (by first|omega|grind)) ?_;refine go [.N,.f,.l,.b,.N] ?_;exact bV 112 [106,107,108,109,110,111,112] (bU g18 _ undef) Kg18
   ·refine go [.x,.x,.x,.x,.N,.x,.x,.x] ?_;exact bX 112 [106,107,108,109,110,111,112] (bY g18 undef _) Kg18
  refine qq (Qt.br rfl rfl rfl) ?_;refine go [.Z] ?_;refine cd (λc19=>?_) λc19=>?_
  ·try simp only[ah]at c19
   refine go [.R,.a,.Z] ?_;refine aQ 4 ?_;refine rb ?_;simp only[cE,bQ,bn,cS,cQ];grind only
  try simp only[ah]at c19
  refine jd (dq ?_);refine go [.f,.N,.l,.Z] ?_;refine AW.block (sr ?_);refine go [.b,.a,.Z] ?_;refine cd (λc20=>?_) λc20=>?_
  ·try simp only[ah]at c20
   refine go [.R,.f,.N,.l,.f,.l,.N,.b,.Z] ?_;refine cd (λc21=>?_) λc21=>?_
   ·try simp only[ah]at c21
    refine go [.R,.a,.Z] ?_;refine aQ 4 ?_;refine rb ?_;simp only[cE,bQ,bn,cS,cQ];grind only
   try simp only[ah]at c21
   refine jd (dq ?_);refine go [.f,.N,.l,.b,.Z] ?_;refine cd (λc22=>?_) λc22=>?_
   ·try simp only[ah]at c22
    refine go [.R,.f,.N,.l,.h,.b,.N,.m] ?_;apply aB.cut 3
    ·intro Kg23;refine aB.split 149 rfl (λg23=>?_) (λg23=>?_)
     ·have eg23:=g23
      try simp only[ah]at eg23
      refine go [.f,.l,.N,.b] ?_;exact bV 152 [150,151,152] (bY g23 _ undef) Kg23
     ·refine go [.x,.x,.x] ?_;exact bX 152 [150,151,152] (bU g23 undef _) Kg23
    refine qq (Qt.aG rfl rfl rfl) ?_;refine go [.a,.Z] ?_;refine aQ 4 ?_;refine rb ?_;simp only[cE,bQ,bn,cS,cQ];grind only
   try simp only[ah]at c22
   refine go [.J,.R,.f,.N,.l,.h,.b,.N,.m] ?_;apply aB.cut 3
   ·intro Kg24;refine aB.split 158 rfl (λg24=>?_) (λg24=>?_)
    ·have eg24:=g24
     try simp only[ah]at eg24
     refine go [.f,.l,.N,.b] ?_;exact bV 161 [159,160,161] (bY g24 _ undef) Kg24
    ·refine go [.x,.x,.x] ?_;exact bX 161 [159,160,161] (bU g24 undef _) Kg24
   refine qq (Qt.aG rfl rfl rfl) ?_;refine go [.a,.Z] ?_;refine aQ 4 ?_;refine rb ?_;simp only[cE,bQ,bn,cS,cQ];grind only
  try simp only[ah]at c20
  refine go [.R2,.b,.N,.a,.Z] ?_;refine cd (λc25=>?_) λc25=>?_
  ·have k25:=c25
   try simp only[ah]at c25
   refine go [.J] ?_;refine AW.jV rfl k25 ?_;refine go [.R,.G,.f,.N,.l] ?_;refine cv call183 rfl rfl (iF u _) ?_;refine go [.N,.b,.m] ?_;apply aB.cut 6
   ·intro Kg26;refine aB.bq 134 rfl (λg26=>?_) (λg26=>?_)
    ·have eg26:=g26
     try simp only[ah]at eg26
     refine go [.f,.N,.l,.f,.l,.N] ?_;refine aB.step rfl (nF g26) (aE.aC rfl (by decide) call143 rfl rfl (gZ _ _)) ?_;refine go [.N,.n] ?_;exact bV 140 [135,136,137,138,139,140] (bU g26 _ undef) Kg26
    ·refine go [.x,.x,.x,.x,.N,.x,.x] ?_;exact bX 140 [135,136,137,138,139,140] (bY g26 undef _) Kg26
   refine qq (Qt.br rfl rfl rfl) ?_;refine go [.Z] ?_;refine cd (λc27=>?_) λc27=>?_
   ·try simp only[ah]at c27
    refine go [.R,.a,.Z] ?_;refine aQ 4 ?_;refine rb ?_;simp only[cE,bQ,bn,cS,cQ];grind only
   try simp only[ah]at c27
   refine jd (dq ?_);refine go [.f,.N,.l,.b,.Z] ?_;refine cd (λc28=>?_) λc28=>?_
   ·try simp only[ah]at c28
    refine go [.R,.f,.N,.l,.h,.b,.N,.m] ?_;apply aB.cut 3
    ·intro Kg29;refine aB.split 149 rfl (λg29=>?_) (λg29=>?_)
     ·have eg29:=g29
      try simp only[ah]at eg29
      refine go [.f,.l,.N,.b] ?_;exact bV 152 [150,151,152] (bY g29 _ undef) Kg29
     ·refine go [.x,.x,.x] ?_;exact bX 152 [150,151,152] (bU g29 undef _) Kg29
    refine qq (Qt.aG rfl rfl rfl) ?_;refine go [.a,.Z] ?_;refine aQ 4 ?_;refine rb ?_;simp only[cE,bQ,bn,cS,cQ];grind only
   try simp only[ah]at c28
   refine go [.J,.R,.f,.N,.l,.h,.b,.N,.m] ?_;apply aB.cut 3
   ·intro Kg30;refine aB.split 158 rfl (λg30=>?_) (λg30=>?_)
    ·have eg30:=g30
     try simp only[ah]at eg30
     refine go [.f,.l,.N,.b] ?_;exact bV 161 [159,160,161] (bY g30 _ undef) Kg30
    ·refine go [.x,.x,.x] ?_;exact bX 161 [159,160,161] (bU g30 undef _) Kg30
   refine qq (Qt.aG rfl rfl rfl) ?_;refine go [.a,.Z] ?_;refine aQ 4 ?_;refine rb ?_;simp only[cE,bQ,bn,cS,cQ];grind only
  have k25:=c25
  try simp only[ah]at c25
  refine go [.R1,.b,.N,.a,.Z] ?_;refine cd (λc31=>?_) λc31=>?_
  ·try simp only[ah]at c31
   refine go [.R,.G,.f,.N,.l] ?_;refine cv call183 rfl rfl (iF u _) ?_;refine go [.N,.b,.m] ?_;apply aB.cut 6
   ·intro Kg32;refine aB.bq 134 rfl (λg32=>?_) (λg32=>?_)
    ·have eg32:=g32
     try simp only[ah]at eg32
     refine go [.f,.N,.l,.f,.l,.N] ?_;refine aB.step rfl (nF g32) (aE.aC rfl (by decide) call143 rfl rfl (gZ _ _)) ?_;refine go [.N,.n] ?_;exact bV 140 [135,136,137,138,139,140] (bU g32 _ undef) Kg32
    ·refine go [.x,.x,.x,.x,.N,.x,.x] ?_;exact bX 140 [135,136,137,138,139,140] (bY g32 undef _) Kg32
   refine qq (Qt.br rfl rfl rfl) ?_;refine go [.Z] ?_;refine cd (λc33=>?_) λc33=>?_
   ·try simp only[ah]at c33
    refine go [.R,.a,.Z] ?_;refine aQ 4 ?_;refine rb ?_;simp only[cE,bQ,bn,cS,cQ];grind only
   try simp only[ah]at c33
   refine jd (dq ?_);refine go [.f,.N,.l,.b,.Z] ?_;refine cd (λc34=>?_) λc34=>?_
   ·try simp only[ah]at c34
    refine go [.R,.f,.N,.l,.h,.b,.N,.m] ?_;apply aB.cut 3
    ·intro Kg35;refine aB.split 149 rfl (λg35=>?_) (λg35=>?_)
     ·have eg35:=g35
      try simp only[ah]at eg35
      refine go [.f,.l,.N,.b] ?_;exact bV 152 [150,151,152] (bY g35 _ undef) Kg35
     ·refine go [.x,.x,.x] ?_;exact bX 152 [150,151,152] (bU g35 undef _) Kg35
    refine qq (Qt.aG rfl rfl rfl) ?_;refine go [.a,.Z] ?_;refine aQ 4 ?_;refine rb ?_;simp only[cE,bQ,bn,cS,cQ];grind only
   try simp only[ah]at c34
   refine go [.J,.R,.f,.N,.l,.h,.b,.N,.m] ?_;apply aB.cut 3
   ·intro Kg36;refine aB.split 158 rfl (λg36=>?_) (λg36=>?_)
    ·have eg36:=g36
     try simp only[ah]at eg36
     refine go [.f,.l,.N,.b] ?_;exact bV 161 [159,160,161] (bY g36 _ undef) Kg36
    ·refine go [.x,.x,.x] ?_;exact bX 161 [159,160,161] (bU g36 undef _) Kg36
   refine qq (Qt.aG rfl rfl rfl) ?_;refine go [.a,.Z] ?_;refine aQ 4 ?_;refine rb ?_;simp only[cE,bQ,bn,cS,cQ];grind only
  try simp only[ah]at c31
  refine go [.R,.f,.N,.l,.b,.Z] ?_;refine cd (λc37=>?_) λc37=>?_
  ·try simp only[ah]at c37
   refine go [.R,.a,.Z] ?_;refine aQ 4 ?_;refine rb ?_;simp only[cE,bQ,bn,cS,cQ];grind only
  try simp only[ah]at c37
  refine jd (dq ?_);refine go [.f,.N,.l,.b,.Z] ?_;refine cd (λc38=>?_) λc38=>?_
  ·try simp only[ah]at c38
   refine go [.R,.f,.N,.l,.h,.b,.N,.m] ?_;apply aB.cut 3
   ·intro Kg39;refine aB.split 149 rfl (λg39=>?_) (λg39=>?_)
    ·have eg39:=g39
     try simp only[ah]at eg39
     refine go [.f,.l,.N,.b] ?_;exact bV 152 [150,151,152] (bY g39 _ undef) Kg39
    ·refine go [.x,.x,.x] ?_;exact bX 152 [150,151,152] (bU g39 undef _) Kg39
   refine qq (Qt.aG rfl rfl rfl) ?_;refine go [.a,.Z] ?_;refine aQ 4 ?_;refine rb ?_;simp only[cE,bQ,bn,cS,cQ];grind only
  try simp only[ah]at c38
  refine go [.J,.R,.f,.N,.l,.h,.b,.N,.m] ?_;apply aB.cut 3
  ·intro Kg40;refine aB.split 158 rfl (λg40=>?_) (λg40=>?_)
   ·have eg40:=g40
    try simp only[ah]at eg40
    refine go [.f,.l,.N,.b] ?_;exact bV 161 [159,160,161] (bY g40 _ undef) Kg40
   ·refine go [.x,.x,.x] ?_;exact bX 161 [159,160,161] (bU g40 undef _) Kg40
  refine qq (Qt.aG rfl rfl rfl) ?_;refine go [.a,.Z] ?_;refine aQ 4 ?_;refine rb ?_;simp only[cE,bQ,bn,cS,cQ];grind only
 try simp only[ah]at c16
 refine jd (dq ?_);refine go [.f,.N,.l,.Z] ?_;refine AW.block (sr ?_);refine go [.b,.a,.Z] ?_;refine cd (λc41=>?_) λc41=>?_
 ·try simp only[ah]at c41
  refine go [.R,.f,.N,.l,.f,.l,.N,.b,.Z] ?_;refine cd (λc42=>?_) λc42=>?_
  ·try simp only[ah]at c42
   refine go [.R,.a,.Z] ?_;refine aQ 4 ?_;refine rb ?_;simp only[cE,bQ,bn,cS,cQ];grind only
  try simp only[ah]at c42
  refine jd (dq ?_);refine go [.f,.N,.l,.b,.Z] ?_;refine cd (λc43=>?_) λc43=>?_
  ·try simp only[ah]at c43
   refine go [.R,.f,.N,.l,.h,.b,.N,.m] ?_;apply aB.cut 3
   ·intro Kg44;refine aB.split 149 rfl (λg44=>?_) (λg44=>?_)
    ·have eg44:=g44
     try simp only[ah]at eg44
     refine go [.f,.l,.N,.b] ?_;exact bV 152 [150,151,152] (bY g44 _ undef) Kg44
    ·refine go [.x,.x,.x] ?_;exact bX 152 [150,151,152] (bU g44 undef _) Kg44
   refine qq (Qt.aG rfl rfl rfl) ?_;refine go [.a,.Z] ?_;refine aQ 4 ?_;refine rb ?_;simp only[cE,bQ,bn,cS,cQ];grind only
  try simp only[ah]at c43
  refine go [.J,.R,.f,.N,.l,.h,.b,.N,.m] ?_;apply aB.cut 3
  ·intro Kg45;refine aB.split 158 rfl (λg45=>?_) (λg45=>?_)
   ·have eg45:=g45
    try simp only[ah]at eg45
    refine go [.f,.l,.N,.b] ?_;exact bV 161 [159,160,161] (bY g45 _ undef) Kg45
   ·refine go [.x,.x,.x] ?_;exact bX 161 [159,160,161] (bU g45 undef _) Kg45
  refine qq (Qt.aG rfl rfl rfl) ?_;refine go [.a,.Z] ?_;refine aQ 4 ?_;refine rb ?_;simp only[cE,bQ,bn,cS,cQ];grind only
 try simp only[ah]at c41
 refine go [.R2,.b,.N,.a,.Z] ?_;refine cd (λc46=>?_) λc46=>?_
 ·have k46:=c46
  try simp only[ah]at c46
  refine go [.J] ?_;refine AW.jV rfl k46 ?_;refine go [.R,.G,.f,.N,.l] ?_;refine cv call183 rfl rfl (iF u _) ?_;refine go [.N,.b,.m] ?_;apply aB.cut 6
  ·intro Kg47;refine aB.bq 134 rfl (λg47=>?_) (λg47=>?_)
   ·have eg47:=g47
    try simp only[ah]at eg47
    refine go [.f,.N,.l,.f,.l,.N] ?_;refine aB.step rfl (nF g47) (aE.aC rfl (by decide) call143 rfl rfl (gZ _ _)) ?_;refine go [.N,.n] ?_;exact bV 140 [135,136,137,138,139,140] (bU g47 _ undef) Kg47
   ·refine go [.x,.x,.x,.x,.N,.x,.x] ?_;exact bX 140 [135,136,137,138,139,140] (bY g47 undef _) Kg47
  refine qq (Qt.br rfl rfl rfl) ?_;refine go [.Z] ?_;refine cd (λc48=>?_) λc48=>?_
  ·try simp only[ah]at c48
   refine go [.R,.a,.Z] ?_;refine aQ 4 ?_;refine rb ?_;simp only[cE,bQ,bn,cS,cQ];grind only
  try simp only[ah]at c48
  refine jd (dq ?_);refine go [.f,.N,.l,.b,.Z] ?_;refine cd (λc49=>?_) λc49=>?_
  ·try simp only[ah]at c49
   refine go [.R,.f,.N,.l,.h,.b,.N,.m] ?_;apply aB.cut 3
   ·intro Kg50;refine aB.split 149 rfl (λg50=>?_) (λg50=>?_)
    ·have eg50:=g50
     try simp only[ah]at eg50
     refine go [.f,.l,.N,.b] ?_;exact bV 152 [150,151,152] (bY g50 _ undef) Kg50
    ·refine go [.x,.x,.x] ?_;exact bX 152 [150,151,152] (bU g50 undef _) Kg50
   refine qq (Qt.aG rfl rfl rfl) ?_;refine go [.a,.Z] ?_;refine aQ 4 ?_;refine rb ?_;simp only[cE,bQ,bn,cS,cQ];grind only
  try simp only[ah]at c49
  refine go [.J,.R,.f,.N,.l,.h,.b,.N,.m] ?_;apply aB.cut 3
  ·intro Kg51;refine aB.split 158 rfl (λg51=>?_) (λg51=>?_)
   ·have eg51:=g51
    try simp only[ah]at eg51
    refine go [.f,.l,.N,.b] ?_;exact bV 161 [159,160,161] (bY g51 _ undef) Kg51
   ·refine go [.x,.x,.x] ?_;exact bX 161 [159,160,161] (bU g51 undef _) Kg51
  refine qq (Qt.aG rfl rfl rfl) ?_;refine go [.a,.Z] ?_;refine aQ 4 ?_;refine rb ?_;simp only[cE,bQ,bn,cS,cQ];grind only
 have k46:=c46
 try simp only[ah]at c46
 refine go [.R1,.b,.N,.a,.Z] ?_;refine cd (λc52=>?_) λc52=>?_
 ·try simp only[ah]at c52
  refine go [.R,.G,.f,.N,.l] ?_;refine cv call183 rfl rfl (iF u _) ?_;refine go [.N,.b,.m] ?_;apply aB.cut 6
  ·intro Kg53;refine aB.bq 134 rfl (λg53=>?_) (λg53=>?_)
   ·have eg53:=g53
    try simp only[ah]at eg53
    refine go [.f,.N,.l,.f,.l,.N] ?_;refine aB.step rfl (nF g53) (aE.aC rfl (by decide) call143 rfl rfl (gZ _ _)) ?_;refine go [.N,.n] ?_;exact bV 140 [135,136,137,138,139,140] (bU g53 _ undef) Kg53
   ·refine go [.x,.x,.x,.x,.N,.x,.x] ?_;exact bX 140 [135,136,137,138,139,140] (bY g53 undef _) Kg53
  refine qq (Qt.br rfl rfl rfl) ?_;refine go [.Z] ?_;refine cd (λc54=>?_) λc54=>?_
  ·try simp only[ah]at c54
   refine go [.R,.a,.Z] ?_;refine aQ 4 ?_;refine rb ?_;simp only[cE,bQ,bn,cS,cQ];grind only
  try simp only[ah]at c54
  refine jd (dq ?_);refine go [.f,.N,.l,.b,.Z] ?_;refine cd (λc55=>?_) λc55=>?_
  ·try simp only[ah]at c55
   refine go [.R,.f,.N,.l,.h,.b,.N,.m] ?_;apply aB.cut 3
   ·intro Kg56;refine aB.split 149 rfl (λg56=>?_) (λg56=>?_)
    ·have eg56:=g56
     try simp only[ah]at eg56
     refine go [.f,.l,.N,.b] ?_;exact bV 152 [150,151,152] (bY g56 _ undef) Kg56
    ·refine go [.x,.x,.x] ?_;exact bX 152 [150,151,152] (bU g56 undef _) Kg56
   refine qq (Qt.aG rfl rfl rfl) ?_;refine go [.a,.Z] ?_;refine aQ 4 ?_;refine rb ?_;simp only[cE,bQ,bn,cS,cQ];grind only
  try simp only[ah]at c55
  refine go [.J,.R,.f,.N,.l,.h,.b,.N,.m] ?_;apply aB.cut 3
  ·intro Kg57;refine aB.split 158 rfl (λg57=>?_) (λg57=>?_)
   ·have eg57:=g57
    try simp only[ah]at eg57
    refine go [.f,.l,.N,.b] ?_;exact bV 161 [159,160,161] (bY g57 _ undef) Kg57
   ·refine go [.x,.x,.x] ?_;exact bX 161 [159,160,161] (bU g57 undef _) Kg57
  refine qq (Qt.aG rfl rfl rfl) ?_;refine go [.a,.Z] ?_;refine aQ 4 ?_;refine rb ?_;simp only[cE,bQ,bn,cS,cQ];grind only
 try simp only[ah]at c52
 refine go [.R,.f,.N,.l,.b,.Z] ?_;refine cd (λc58=>?_) λc58=>?_
 ·try simp only[ah]at c58
  refine go [.R,.a,.Z] ?_;refine aQ 4 ?_;refine rb ?_;simp only[cE,bQ,bn,cS,cQ];grind only
 try simp only[ah]at c58
 refine jd (dq ?_);refine go [.f,.N,.l,.b,.Z] ?_;refine cd (λc59=>?_) λc59=>?_
 ·try simp only[ah]at c59
  refine go [.R,.f,.N,.l,.h,.b,.N,.m] ?_;apply aB.cut 3
  ·intro Kg60;refine aB.split 149 rfl (λg60=>?_) (λg60=>?_)
   ·have eg60:=g60
    try simp only[ah]at eg60
    refine go [.f,.l,.N,.b] ?_;exact bV 152 [150,151,152] (bY g60 _ undef) Kg60
   ·refine go [.x,.x,.x] ?_;exact bX 152 [150,151,152] (bU g60 undef _) Kg60
  refine qq (Qt.aG rfl rfl rfl) ?_;refine go [.a,.Z] ?_;refine aQ 4 ?_;refine rb ?_;simp only[cE,bQ,bn,cS,cQ];grind only
 try simp only[ah]at c59
 refine go [.J,.R,.f,.N,.l,.h,.b,.N,.m] ?_;apply aB.cut 3
 ·intro Kg61;refine aB.split 158 rfl (λg61=>?_) (λg61=>?_)
  ·have eg61:=g61
   try simp only[ah]at eg61
   refine go [.f,.l,.N,.b] ?_;exact bV 161 [159,160,161] (bY g61 _ undef) Kg61
  ·refine go [.x,.x,.x] ?_;exact bX 161 [159,160,161] (bU g61 undef _) Kg61
 refine qq (Qt.aG rfl rfl rfl) ?_;refine go [.a,.Z] ?_;refine aQ 4 ?_;refine rb ?_;simp only[cE,bQ,bn,cS,cQ];grind only
end Go.Proofs.YtekcnnngjoonbaaGreat.VM

