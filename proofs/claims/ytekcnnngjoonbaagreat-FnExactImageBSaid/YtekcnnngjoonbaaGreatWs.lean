/- Contracts. No conditions. -/
import Derived.Test.YtekcnnngjoonbaaGreatWr
set_option linter.all false
set_option maxHeartbeats 8000000
set_option maxRecDepth 10000
namespace Go.Proofs.YtekcnnngjoonbaaGreat.VM
open List Nat
open Go Go.RowKit Go.Proofs Go.Proofs.Tryz
theorem po(u:aX)(p:bu)(hn:1≤u.Next)(hn2:u.Next≤100000)(hpl:(u.aP.length:Int)≤4):a_ prog 149 [.g [.v (iv u.Next),.v (iv u.bp),.h aa [],.h (aa+1) [],.h (aa+2) [],.h (aa+3) [],.h (aa+4) [],.h (aa+5) [],.h (aa+6) []],.g [.v (iv p.ey),.v (iv p.bM),.v (iv p.State),.v (iv p.dX),.v (iv p.dh.Pc),.h (aa+7) [],.h (aa+8) [],.h (aa+9) [],.v (iv p.cJ),.v (iv p.Code)]] [.rt aa .ro (tr u.aP),.rt (aa+1) .ro (tr u.ag),.rt (aa+2) .ro (tr u.ao),.rt (aa+3) .ro (tr u.ak),.rt (aa+4) .ro (tr u.ay),.rt (aa+5) .ro (tr u.aN),.rt (aa+6) .ro (tr u.Out),.rt (aa+7) .ro (tr p.dh.b_),.rt (aa+8) .ro (tr p.Mem),.rt (aa+9) .ro (tr p.cH)] (λy _=>y= .v (.bool (cM u p))):=by
 refine ob func149 ntmps149 ?_;have hpb:kp u p.bM<u.ag.length:=(l8 _ _).2;have hA1:=zX p.cH (rN u);have hA2:=zX p.cH (λx=>x== -1);refine AW.len (aa+8) [] rfl (by simp[bT]) rfl (λhlm=>?_);refine go [.R,.B,.N,.B,.N,.a,.Z,.R2,.f,.l,.N,.f,.l,.b,.N] ?_;refine cv call144 rfl rfl (de _ _ _) ?_;refine go [.N,.n,.m] ?_;apply aB.cut 4
 ·intro Kg1;refine aB.bq 13 rfl (λg1=>?_) (λg1=>?_)
  ·have eg1:=g1
   try simp only[ah]at eg1
   refine go [.f,.N,.l] ?_;refine aB.step rfl (nF g1) (aE.aC rfl (by decide) call144 rfl rfl (de _ _ _)) ?_;refine go [.N,.n] ?_;exact bV 17 [14,15,16,17] (bU g1 _ undef) Kg1
  ·refine go [.x,.x,.x,.x] ?_;exact bX 17 [14,15,16,17] (bY g1 undef _) Kg1
 refine qq (Qt.br rfl rfl rfl) ?_;refine go [.m,.N] ?_;apply aB.cut 8
 ·intro Kg2;refine aB.bq 19 rfl (λg2=>?_) (λg2=>?_)
  ·have eg2:=g2
   try simp only[ah]at eg2
   refine go [.f,.l,.f,.N,.l,.h,.b,.N] ?_;refine aB.step rfl (nF g2) (aE.aC rfl (by decide) call144 rfl rfl (de _ _ _)) ?_;refine go [.N,.n] ?_;exact bV 27 [20,21,22,23,24,25,26,27] (bU g2 _ undef) Kg2
  ·refine go [.x,.x,.x,.x,.N,.x,.x,.x,.x] ?_;exact bX 27 [20,21,22,23,24,25,26,27] (bY g2 undef _) Kg2
 refine qq (Qt.br rfl rfl rfl) ?_;refine go [.m,.N] ?_;apply aB.cut 4
 ·intro Kg3;refine aB.bq 29 rfl (λg3=>?_) (λg3=>?_)
  ·have eg3:=g3
   try simp only[ah]at eg3
   refine go [.f,.G] ?_;refine aB.step rfl (nF g3) (aE.aC rfl (by decide) call193 rfl rfl (wh _ _)) ?_;refine go [.N,.n] ?_;exact bV 33 [30,31,32,33] (bU g3 _ undef) Kg3
  ·refine go [.x,.x,.x,.x] ?_;exact bX 33 [30,31,32,33] (bY g3 undef _) Kg3
 refine qq (Qt.br rfl rfl rfl) ?_;refine go [.m,.N] ?_;apply aB.cut 4
 ·intro Kg4;refine aB.bq 35 rfl (λg4=>?_) (λg4=>?_)
  ·have eg4:=g4
   try simp only[ah]at eg4
   refine go [.f,.l] ?_;refine aB.step rfl (nF g4) (aE.aC rfl (by decide) call188 rfl rfl (lr _)) ?_;refine go [.N,.n] ?_;exact bV 39 [36,37,38,39] (bU g4 _ undef) Kg4
  ·refine go [.x,.x,.x,.x] ?_;exact bX 39 [36,37,38,39] (bY g4 undef _) Kg4
 refine qq (Qt.br rfl rfl rfl) ?_;refine go [.Z] ?_;refine cd (λc5=>?_) λc5=>?_
 ·try simp only[ah]at c5
  refine go [.R,.a,.Z] ?_;refine aQ 4 ?_;refine rb ?_;simp only[cM,cE,bn,cS,cQ];grind only
 try simp only[ah]at c5
 refine jd (dq ?_);refine go [.f,.N,.l,.b,.Z] ?_;refine cd (λc6=>?_) λc6=>?_
 ·try simp only[ah]at c6
  refine go [.R,.G,.N,.f,.l] ?_;refine cv call194 rfl rfl (uw u _) ?_;refine go [.N,.a,.Z,.R,.m,.b,.N,.m] ?_;apply aB.cut 5
  ·intro Kg7;refine aB.bq 50 rfl (λg7=>?_) (λg7=>?_)
   ·have eg7:=g7
    try simp only[ah]at eg7
    refine go [.f,.l,.N,.f,.l,.b,.N] ?_;exact bV 55 [51,52,53,54,55] (bU g7 _ undef) Kg7
   ·refine go [.x,.x,.x,.x,.N,.x] ?_;exact bX 55 [51,52,53,54,55] (bY g7 undef _) Kg7
  refine qq (Qt.br rfl rfl rfl) ?_;refine go [.m] ?_;apply aB.cut 7
  ·intro Kg8;refine aB.bq 57 rfl (λg8=>?_) (λg8=>?_)
   ·have eg8:=g8
    try simp only[ah]at eg8
    refine go [.f,.N,.l,.m,.i,.N,.f,.l,.b,.N] ?_;exact bV 64 [58,59,60,61,62,63,64] (bU g8 _ undef) Kg8
   ·refine go [.x,.x,.x,.x,.N,.x,.x,.x] ?_;exact bX 64 [58,59,60,61,62,63,64] (bY g8 undef _) Kg8
  refine qq (Qt.br rfl rfl rfl) ?_;refine go [.Z] ?_;refine cd (λc9=>?_) λc9=>?_
  ·try simp only[ah]at c9
   refine go [.R,.a,.Z] ?_;refine aQ 4 ?_;refine rb ?_;simp only[cM,cE,bn,cS,cQ];grind only
  try simp only[ah]at c9
  refine jd (dq ?_);refine go [.f,.N,.l,.h,.b,.N,.m] ?_;apply aB.cut 5
  ·intro Kg10;refine aB.bq 70 rfl (λg10=>?_) (λg10=>?_)
   ·have eg10:=g10
    try simp only[ah]at eg10
    refine go [.f,.l,.N,.h] ?_;refine qg (nF g10) (Qt.binOp rfl rfl (by first|exact lC _|rfl|exact lf (by omega))) ?_;refine go [.b,.N] ?_;exact bV 75 [71,72,73,74,75] (bU g10 _ undef) Kg10
   ·refine go [.x,.x,.x,.x,.N,.x] ?_;exact bX 75 [71,72,73,74,75] (bY g10 undef _) Kg10
  refine qq (Qt.br rfl rfl rfl) ?_;refine go [.m] ?_;apply aB.cut 4
  ·intro Kg11;refine aB.bq 77 rfl (λg11=>?_) (λg11=>?_)
   ·have eg11:=g11
    try simp only[ah]at eg11
    refine go [.f,.N,.l] ?_;refine aB.step rfl (nF g11) (aE.aC rfl (by decide) call145 rfl rfl (cg _)) ?_;refine go [.N,.n] ?_;exact bV 81 [78,79,80,81] (bU g11 _ undef) Kg11
   ·refine go [.x,.x,.x,.x] ?_;exact bX 81 [78,79,80,81] (bY g11 undef _) Kg11
  refine qq (Qt.br rfl rfl rfl) ?_;refine go [.m,.N] ?_;apply aB.cut 4
  ·intro Kg12;refine aB.bq 83 rfl (λg12=>?_) (λg12=>?_)
   ·have eg12:=g12
    try simp only[ah]at eg12
    refine go [.f,.l,.h,.N,.b] ?_;exact bV 87 [84,85,86,87] (bU g12 _ undef) Kg12
   ·refine go [.x,.x,.x,.x] ?_;exact bX 87 [84,85,86,87] (bY g12 undef _) Kg12
  refine qq (Qt.br rfl rfl rfl) ?_;refine go [.m,.N] ?_;apply aB.cut 4
  ·intro Kg13;refine aB.bq 89 rfl (λg13=>?_) (λg13=>?_)
   ·have eg13:=g13
    try simp only[ah]at eg13
    refine go [.G,.G] ?_;refine aB.step rfl (nF g13) (aE.aC rfl (by decide) call195 rfl rfl (m_ u p)) ?_;refine go [.N,.n] ?_;exact bV 93 [90,91,92,93] (bU g13 _ undef) Kg13
   ·refine go [.x,.x,.x,.x] ?_;exact bX 93 [90,91,92,93] (bY g13 undef _) Kg13
  refine qq (Qt.br rfl rfl rfl) ?_;refine go [.Z] ?_;refine cd (λc14=>?_) λc14=>?_
  ·try simp only[ah]at c14
   refine go [.R,.a,.Z] ?_;refine aQ 4 ?_;refine rb ?_;simp only[cM,cE,bn,cS,cQ];grind only
  try simp only[ah]at c14
  refine jd (dq ?_);refine go [.f,.N,.l] ?_;refine qq Qt.makeFunc ?_;refine cv call110 rfl rfl (a_.gy (qN u call196 (λx=>nb u x) p.cH) ⟨⟨_,rfl,aw⟩,⟨_,rfl,(cA (λc hc=>match c,hc with|0,_=>aw|1,_=>aw|2,_=>aw|3,_=>aw|4,_=>aw|5,_=>aw|6,_=>aw|7,_=>aw|8,_=>aw|c+9,hc=>absurd hc (by simp only[En.n];omega)))⟩,trivial⟩ rfl rfl rfl) ?_;refine go [.Z] ?_;refine cd (λc15=>?_) λc15=>?_
  ·try simp only[ah]at c15
   refine go [.R,.a,.Z] ?_;refine aQ 4 ?_;refine rb ?_;simp only[cM,cE,bn,cS,cQ];grind only
  try simp only[ah]at c15
  refine jd (dq ?_);refine go [.f,.N,.l,.b,.Z] ?_;refine cd (λc16=>?_) λc16=>?_
  ·try simp only[ah]at c16
   refine go [.R,.f,.N,.l,.h,.b,.N,.m] ?_;apply aB.cut 3
   ·intro Kg17;refine aB.split 106 rfl (λg17=>?_) (λg17=>?_)
    ·have eg17:=g17
     try simp only[ah]at eg17
     refine go [.f,.l,.N,.b] ?_;exact bV 109 [107,108,109] (bY g17 _ undef) Kg17
    ·refine go [.x,.x,.x] ?_;exact bX 109 [107,108,109] (bU g17 undef _) Kg17
   refine qq (Qt.aG rfl rfl rfl) ?_;refine go [.m,.N] ?_;apply aB.cut 4
   ·intro Kg18;refine aB.split 111 rfl (λg18=>?_) (λg18=>?_)
    ·have eg18:=g18
     try simp only[ah]at eg18
     refine go [.f,.l] ?_;refine aB.step rfl g18 (aE.aC rfl (by decide) call110 rfl rfl (oL call198 (λx=>m7 x) p.cH)) ?_;refine go [.N,.n] ?_;exact bV 115 [112,113,114,115] (bY g18 _ undef) Kg18
    ·refine go [.x,.x,.x,.x] ?_;exact bX 115 [112,113,114,115] (bU g18 undef _) Kg18
   refine qq (Qt.aG rfl rfl rfl) ?_;refine go [.a,.Z] ?_;refine aQ 4 ?_;refine rb ?_;simp only[cM,cE,bn,cS,cQ];grind only
  try simp only[ah]at c16
  refine go [.J,.R,.f,.N,.l,.h,.b,.N,.m] ?_;apply aB.cut 3
  ·intro Kg19;refine aB.split 121 rfl (λg19=>?_) (λg19=>?_)
   ·have eg19:=g19
    try simp only[ah]at eg19
    refine go [.f,.l,.N,.b] ?_;exact bV 124 [122,123,124] (bY g19 _ undef) Kg19
   ·refine go [.x,.x,.x] ?_;exact bX 124 [122,123,124] (bU g19 undef _) Kg19
  refine qq (Qt.aG rfl rfl rfl) ?_;refine go [.a,.Z] ?_;refine aQ 4 ?_;refine rb ?_;simp only[cM,cE,bn,cS,cQ];grind only
 try simp only[ah]at c6
 refine jd (dq ?_);refine go [.f,.N,.l,.h,.b,.N,.m] ?_;apply aB.cut 5
 ·intro Kg20;refine aB.bq 70 rfl (λg20=>?_) (λg20=>?_)
  ·have eg20:=g20
   try simp only[ah]at eg20
   refine go [.f,.l,.N,.h] ?_;refine qg (nF g20) (Qt.binOp rfl rfl (by first|exact lC _|rfl|exact lf (by omega))) ?_;refine go [.b,.N] ?_;exact bV 75 [71,72,73,74,75] (bU g20 _ undef) Kg20
  ·refine go [.x,.x,.x,.x,.N,.x] ?_;exact bX 75 [71,72,73,74,75] (bY g20 undef _) Kg20
 refine qq (Qt.br rfl rfl rfl) ?_;refine go [.m] ?_;apply aB.cut 4
 ·intro Kg21;refine aB.bq 77 rfl (λg21=>?_) (λg21=>?_)
  ·have eg21:=g21
   try simp only[ah]at eg21
   refine go [.f,.N,.l] ?_;refine aB.step rfl (nF g21) (aE.aC rfl (by decide) call145 rfl rfl (cg _)) ?_;refine go [.N,.n] ?_;exact bV 81 [78,79,80,81] (bU g21 _ undef) Kg21
  ·refine go [.x,.x,.x,.x] ?_;exact bX 81 [78,79,80,81] (bY g21 undef _) Kg21
 refine qq (Qt.br rfl rfl rfl) ?_;refine go [.m,.N] ?_;apply aB.cut 4
 ·intro Kg22;refine aB.bq 83 rfl (λg22=>?_) (λg22=>?_)
  ·have eg22:=g22
   try simp only[ah]at eg22
   refine go [.f,.l,.h,.N,.b] ?_;exact bV 87 [84,85,86,87] (bU g22 _ undef) Kg22
  ·refine go [.x,.x,.x,.x] ?_;exact bX 87 [84,85,86,87] (bY g22 undef _) Kg22
 refine qq (Qt.br rfl rfl rfl) ?_;refine go [.m,.N] ?_;apply aB.cut 4
 ·intro Kg23;refine aB.bq 89 rfl (λg23=>?_) (λg23=>?_)
  ·have eg23:=g23
   try simp only[ah]at eg23
   refine go [.G,.G] ?_;refine aB.step rfl (nF g23) (aE.aC rfl (by decide) call195 rfl rfl (m_ u p)) ?_;refine go [.N,.n] ?_;exact bV 93 [90,91,92,93] (bU g23 _ undef) Kg23
  ·refine go [.x,.x,.x,.x] ?_;exact bX 93 [90,91,92,93] (bY g23 undef _) Kg23
 refine qq (Qt.br rfl rfl rfl) ?_;refine go [.Z] ?_;refine cd (λc24=>?_) λc24=>?_
 ·try simp only[ah]at c24
  refine go [.R,.a,.Z] ?_;refine aQ 4 ?_;refine rb ?_;simp only[cM,cE,bn,cS,cQ];grind only
 try simp only[ah]at c24
 refine jd (dq ?_);refine go [.f,.N,.l] ?_;refine qq Qt.makeFunc ?_;refine cv call110 rfl rfl (a_.gy (qN u call196 (λx=>nb u x) p.cH) ⟨⟨_,rfl,aw⟩,⟨_,rfl,(cA (λc hc=>match c,hc with|0,_=>aw|1,_=>aw|2,_=>aw|3,_=>aw|4,_=>aw|5,_=>aw|6,_=>aw|7,_=>aw|8,_=>aw|c+9,hc=>absurd hc (by simp only[En.n];omega)))⟩,trivial⟩ rfl rfl rfl) ?_;refine go [.Z] ?_;refine cd (λc25=>?_) λc25=>?_
 ·try simp only[ah]at c25
  refine go [.R,.a,.Z] ?_;refine aQ 4 ?_;refine rb ?_;simp only[cM,cE,bn,cS,cQ];grind only
 try simp only[ah]at c25
 refine jd (dq ?_);refine go [.f,.N,.l,.b,.Z] ?_;refine cd (λc26=>?_) λc26=>?_
 ·try simp only[ah]at c26
  refine go [.R,.f,.N,.l,.h,.b,.N,.m] ?_;apply aB.cut 3
  ·intro Kg27;refine aB.split 106 rfl (λg27=>?_) (λg27=>?_)
   ·have eg27:=g27
    try simp only[ah]at eg27
    refine go [.f,.l,.N,.b] ?_;exact bV 109 [107,108,109] (bY g27 _ undef) Kg27
   ·refine go [.x,.x,.x] ?_;exact bX 109 [107,108,109] (bU g27 undef _) Kg27
  refine qq (Qt.aG rfl rfl rfl) ?_;refine go [.m,.N] ?_;apply aB.cut 4
  ·intro Kg28;refine aB.split 111 rfl (λg28=>?_) (λg28=>?_)
   ·have eg28:=g28
    try simp only[ah]at eg28
    refine go [.f,.l] ?_;refine aB.step rfl g28 (aE.aC rfl (by decide) call110 rfl rfl (oL call198 (λx=>m7 x) p.cH)) ?_;refine go [.N,.n] ?_;exact bV 115 [112,113,114,115] (bY g28 _ undef) Kg28
   ·refine go [.x,.x,.x,.x] ?_;exact bX 115 [112,113,114,115] (bU g28 undef _) Kg28
  refine qq (Qt.aG rfl rfl rfl) ?_;refine go [.a,.Z] ?_;refine aQ 4 ?_;refine rb ?_;simp only[cM,cE,bn,cS,cQ];grind only
 try simp only[ah]at c26
 refine go [.J,.R,.f,.N,.l,.h,.b,.N,.m] ?_;apply aB.cut 3
 ·intro Kg29;refine aB.split 121 rfl (λg29=>?_) (λg29=>?_)
  ·have eg29:=g29
   try simp only[ah]at eg29
   refine go [.f,.l,.N,.b] ?_;exact bV 124 [122,123,124] (bY g29 _ undef) Kg29
  ·refine go [.x,.x,.x] ?_;exact bX 124 [122,123,124] (bU g29 undef _) Kg29
 refine qq (Qt.aG rfl rfl rfl) ?_;refine go [.a,.Z] ?_;refine aQ 4 ?_;refine rb ?_;simp only[cM,cE,bn,cS,cQ];grind only
end Go.Proofs.YtekcnnngjoonbaaGreat.VM

