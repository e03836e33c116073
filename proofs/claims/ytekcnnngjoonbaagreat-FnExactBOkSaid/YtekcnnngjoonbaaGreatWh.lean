/- Contracts. No conditions. -/
import Derived.Test.YtekcnnngjoonbaaGreatWg
set_option linter.all false
set_option maxHeartbeats 8000000
set_option maxRecDepth 10000
namespace Go.Proofs.YtekcnnngjoonbaaGreat.VM
open List Nat
open Go Go.RowKit Go.Proofs

def lQ(x:Int):Bool:=decide (0≤x)&&decide (x≤3)
def place(x:Int):Bool:=decide (0≤x)&&decide (x≤40)
def eO(i:dE):Bool:=
 if i.Op=1 then lQ i.A&&(eI i.B&&decide (i.C=0))
 else if i.Op=2∨i.Op=3 then lQ i.A&&(lQ i.B&&lQ i.C)
 else if i.Op=4∨i.Op=5 then lQ i.A&&(lQ i.B&&decide (i.C=0))
 else if i.Op=6 then place i.A&&(decide (i.B=0)&&decide (i.C=0))
 else if i.Op=7 then lQ i.A&&(place i.B&&decide (i.C=0))
 else if i.Op=8 then(decide (1≤i.A)&&decide (i.A≤20))&&(decide (i.B=0)&&decide (i.C=0))
 else false
def gf(l:List dE):Bool:=decide (l.length≤40)&&l.all eO
theorem Bx(x:Int):(decide (0≤x)&&decide (x<4))=lQ x:=by
 unfold lQ;congr 2;apply propext;omega

theorem dS(x:Int):bf Tryz.prog 248 [.v (iv x)] [] (λy _=>y= .v (.bool (lQ x))):=by
 refine ob Tryz.func248 Tryz.ntmps248 ?_;refine go [.R,.a,.Z,.R,.m,.b,.N,.m] (k:=?_);apply az.cut 2
 ·intro Kg1;refine az.split 5 rfl (λg1=>?_) (λg1=>?_)
  ·refine go [.m,.b,.N] (k:=?_);exact bZ 7 [6,7] (b6 g1 _ undef) Kg1
  ·refine go [.x,.x] (k:=?_);exact bX 7 [6,7] (bY g1 undef _) Kg1
 refine qq (Qt.aD rfl rfl rfl) ?_;refine go [.a,.Z] (k:=?_);refine aM 2 ?_;rw[←Bx];rfl
theorem dR(x:Int):bf Tryz.prog 226 [.v (iv x)] [] (λy _=>y= .v (.bool (lQ x))):=by
 refine ob Tryz.func226 Tryz.ntmps226 ?_;refine go [.R,.a,.Z,.R,.m] (k:=?_);refine cv Tryz.call144 rfl rfl (dW _ _ _) ?_;refine go [.N,.a,.Z] (k:=?_);refine aM 2 ?_;rfl
theorem uB(i:dE):bf Tryz.prog 222 [.g [.v (iv i.Op), .v (iv i.A), .v (iv i.B), .v (iv i.C)]] [] (λy _=>y= .v (.bool (eO i))):=by
 refine ob Tryz.func222 Tryz.ntmps222 ?_;refine go [.R,.B,.N,.a,.Z,.R,.f,.l,.N,.f,.l,.u,.N,.A,.N,.s,.Z,.R,.a,.Z,.R2,.f,.N,.l,.Z] (k:=?_);refine AW.block (sr ?_);refine go [.b,.a,.Z] (k:=?_);refine cd (λc1=>?_) λc1=>?_
 ·try simp only[ai]at c1
  refine go [.R,.f,.N,.l,.f,.s,.Z,.R1,.f,.N,.l] (k:=?_);refine cv Tryz.call248 rfl rfl (dS _) ?_;refine go [.N,.m] (k:=?_);apply az.cut 3
  ·intro Kg2;refine az.split 20 rfl (λg2=>?_) (λg2=>?_)
   ·refine go [.f,.l,.N] (k:=?_);refine az.step rfl g2 (aK.aL rfl (by decide) Tryz.call135 rfl rfl (cY _ _ _)) ?_;refine go [.N] (k:=?_);exact bZ 23 [21,22,23] (b6 g2 _ undef) Kg2
   ·refine go [.x,.x,.x] (k:=?_);exact bX 23 [21,22,23] (bY g2 undef _) Kg2
  refine qq (Qt.aD rfl rfl rfl) ?_;refine go [.a,.Z,.R,.m,.N,.m] (k:=?_);apply az.cut 3
  ·intro Kg3;refine az.split 85 rfl (λg3=>?_) (λg3=>?_)
   ·refine go [.G,.G,.N] (k:=?_);refine qg g3 (Qt.y5 (l_ _ _ _ _ _ _ _ _) rfl rfl) ?_;exact bZ 88 [86,87,88] (b6 g3 _ undef) Kg3
   ·refine go [.x,.x,.x] (k:=?_);exact bX 88 [86,87,88] (bY g3 undef _) Kg3
  refine qq (Qt.aD rfl rfl rfl) ?_;refine go [.a,.Z] (k:=?_);refine aM 2 ?_;simp only[bj,aA,reduceIte,Nat.reduceEqDiff];congr 2;rw[Bool.eq_iff_iff];simp[eO,lQ,place,eI, *]
  try omega
 try simp only[ai]at c1
 refine go [.R2,.b,.N,.a,.Z] (k:=?_);refine cd (λc4=>?_) λc4=>?_
 ·have k4:=c4
  try simp only[ai]at c4
  refine go [.J] (k:=?_);refine AW.jU rfl k4 ?_;refine go [.R,.f,.l,.N,.f,.s,.Z,.R,.f,.N,.l,.f,.s,.Z,.R1,.f,.N,.l] (k:=?_);refine cv Tryz.call248 rfl rfl (dS _) ?_;refine go [.N,.m] (k:=?_);apply az.cut 3
  ·intro Kg5;refine az.split 37 rfl (λg5=>?_) (λg5=>?_)
   ·refine go [.f,.l,.N] (k:=?_);refine az.step rfl g5 (aK.aL rfl (by decide) Tryz.call248 rfl rfl (dS _)) ?_;refine go [.N] (k:=?_);exact bZ 40 [38,39,40] (b6 g5 _ undef) Kg5
   ·refine go [.x,.x,.x] (k:=?_);exact bX 40 [38,39,40] (bY g5 undef _) Kg5
  refine qq (Qt.aD rfl rfl rfl) ?_;refine go [.m] (k:=?_);apply az.cut 3
  ·intro Kg6;refine az.split 42 rfl (λg6=>?_) (λg6=>?_)
   ·refine go [.f,.N,.l] (k:=?_);refine az.step rfl g6 (aK.aL rfl (by decide) Tryz.call248 rfl rfl (dS _)) ?_;refine go [.N] (k:=?_);exact bZ 45 [43,44,45] (b6 g6 _ undef) Kg6
   ·refine go [.x,.x,.x] (k:=?_);exact bX 45 [43,44,45] (bY g6 undef _) Kg6
  refine qq (Qt.aD rfl rfl rfl) ?_;refine go [.a,.Z,.R,.m,.N,.m] (k:=?_);apply az.cut 3
  ·intro Kg7;refine az.split 85 rfl (λg7=>?_) (λg7=>?_)
   ·refine go [.G,.G,.N] (k:=?_);refine qg g7 (Qt.y5 (l_ _ _ _ _ _ _ _ _) rfl rfl) ?_;exact bZ 88 [86,87,88] (b6 g7 _ undef) Kg7
   ·refine go [.x,.x,.x] (k:=?_);exact bX 88 [86,87,88] (bY g7 undef _) Kg7
  refine qq (Qt.aD rfl rfl rfl) ?_;refine go [.a,.Z] (k:=?_);refine aM 2 ?_;simp only[bj,aA,reduceIte,Nat.reduceEqDiff];congr 2;rw[Bool.eq_iff_iff];simp[eO,lQ,place,eI, *]
  try omega
 have k4:=c4
 try simp only[ai]at c4
 refine go [.R1,.b,.N,.a,.Z] (k:=?_);refine cd (λc8=>?_) λc8=>?_
 ·try simp only[ai]at c8
  refine go [.R,.f,.l,.N,.f,.s,.Z,.R,.f,.N,.l,.f,.s,.Z,.R1,.f,.N,.l] (k:=?_);refine cv Tryz.call248 rfl rfl (dS _) ?_;refine go [.N,.m] (k:=?_);apply az.cut 3
  ·intro Kg9;refine az.split 37 rfl (λg9=>?_) (λg9=>?_)
   ·refine go [.f,.l,.N] (k:=?_);refine az.step rfl g9 (aK.aL rfl (by decide) Tryz.call248 rfl rfl (dS _)) ?_;refine go [.N] (k:=?_);exact bZ 40 [38,39,40] (b6 g9 _ undef) Kg9
   ·refine go [.x,.x,.x] (k:=?_);exact bX 40 [38,39,40] (bY g9 undef _) Kg9
  refine qq (Qt.aD rfl rfl rfl) ?_;refine go [.m] (k:=?_);apply az.cut 3
  ·intro Kg10;refine az.split 42 rfl (λg10=>?_) (λg10=>?_)
   ·refine go [.f,.N,.l] (k:=?_);refine az.step rfl g10 (aK.aL rfl (by decide) Tryz.call248 rfl rfl (dS _)) ?_;refine go [.N] (k:=?_);exact bZ 45 [43,44,45] (b6 g10 _ undef) Kg10
   ·refine go [.x,.x,.x] (k:=?_);exact bX 45 [43,44,45] (bY g10 undef _) Kg10
  refine qq (Qt.aD rfl rfl rfl) ?_;refine go [.a,.Z,.R,.m,.N,.m] (k:=?_);apply az.cut 3
  ·intro Kg11;refine az.split 85 rfl (λg11=>?_) (λg11=>?_)
   ·refine go [.G,.G,.N] (k:=?_);refine qg g11 (Qt.y5 (l_ _ _ _ _ _ _ _ _) rfl rfl) ?_;exact bZ 88 [86,87,88] (b6 g11 _ undef) Kg11
   ·refine go [.x,.x,.x] (k:=?_);exact bX 88 [86,87,88] (bY g11 undef _) Kg11
  refine qq (Qt.aD rfl rfl rfl) ?_;refine go [.a,.Z] (k:=?_);refine aM 2 ?_;simp only[bj,aA,reduceIte,Nat.reduceEqDiff];congr 2;rw[Bool.eq_iff_iff];simp[eO,lQ,place,eI, *]
  try omega
 try simp only[ai]at c8
 refine go [.R2,.b,.N,.a,.Z] (k:=?_);refine cd (λc12=>?_) λc12=>?_
 ·have k12:=c12
  try simp only[ai]at c12
  refine go [.J] (k:=?_);refine AW.jU rfl k12 ?_;refine go [.R,.f,.l,.N,.f,.s,.Z,.R1,.f,.N,.l] (k:=?_);refine cv Tryz.call248 rfl rfl (dS _) ?_;refine go [.N,.m] (k:=?_);apply az.cut 3
  ·intro Kg13;refine az.split 56 rfl (λg13=>?_) (λg13=>?_)
   ·refine go [.f,.l,.N] (k:=?_);refine az.step rfl g13 (aK.aL rfl (by decide) Tryz.call248 rfl rfl (dS _)) ?_;refine go [.N] (k:=?_);exact bZ 59 [57,58,59] (b6 g13 _ undef) Kg13
   ·refine go [.x,.x,.x] (k:=?_);exact bX 59 [57,58,59] (bY g13 undef _) Kg13
  refine qq (Qt.aD rfl rfl rfl) ?_;refine go [.a,.Z,.R,.m,.N,.m] (k:=?_);apply az.cut 3
  ·intro Kg14;refine az.split 85 rfl (λg14=>?_) (λg14=>?_)
   ·refine go [.G,.G,.N] (k:=?_);refine qg g14 (Qt.y5 (l_ _ _ _ _ _ _ _ _) rfl rfl) ?_;exact bZ 88 [86,87,88] (b6 g14 _ undef) Kg14
   ·refine go [.x,.x,.x] (k:=?_);exact bX 88 [86,87,88] (bY g14 undef _) Kg14
  refine qq (Qt.aD rfl rfl rfl) ?_;refine go [.a,.Z] (k:=?_);refine aM 2 ?_;simp only[bj,aA,reduceIte,Nat.reduceEqDiff];congr 2;rw[Bool.eq_iff_iff];simp[eO,lQ,place,eI, *]
  try omega
 have k12:=c12
 try simp only[ai]at c12
 refine go [.R1,.b,.N,.a,.Z] (k:=?_);refine cd (λc15=>?_) λc15=>?_
 ·try simp only[ai]at c15
  refine go [.R,.f,.l,.N,.f,.s,.Z,.R1,.f,.N,.l] (k:=?_);refine cv Tryz.call248 rfl rfl (dS _) ?_;refine go [.N,.m] (k:=?_);apply az.cut 3
  ·intro Kg16;refine az.split 56 rfl (λg16=>?_) (λg16=>?_)
   ·refine go [.f,.l,.N] (k:=?_);refine az.step rfl g16 (aK.aL rfl (by decide) Tryz.call248 rfl rfl (dS _)) ?_;refine go [.N] (k:=?_);exact bZ 59 [57,58,59] (b6 g16 _ undef) Kg16
   ·refine go [.x,.x,.x] (k:=?_);exact bX 59 [57,58,59] (bY g16 undef _) Kg16
  refine qq (Qt.aD rfl rfl rfl) ?_;refine go [.a,.Z,.R,.m,.N,.m] (k:=?_);apply az.cut 3
  ·intro Kg17;refine az.split 85 rfl (λg17=>?_) (λg17=>?_)
   ·refine go [.G,.G,.N] (k:=?_);refine qg g17 (Qt.y5 (l_ _ _ _ _ _ _ _ _) rfl rfl) ?_;exact bZ 88 [86,87,88] (b6 g17 _ undef) Kg17
   ·refine go [.x,.x,.x] (k:=?_);exact bX 88 [86,87,88] (bY g17 undef _) Kg17
  refine qq (Qt.aD rfl rfl rfl) ?_;refine go [.a,.Z] (k:=?_);refine aM 2 ?_;simp only[bj,aA,reduceIte,Nat.reduceEqDiff];congr 2;rw[Bool.eq_iff_iff];simp[eO,lQ,place,eI, *]
  try omega
 try simp only[ai]at c15
 refine go [.R,.b,.N,.a,.Z] (k:=?_);refine cd (λc18=>?_) λc18=>?_
 ·try simp only[ai]at c18
  refine go [.R1,.f,.l,.N] (k:=?_);refine cv Tryz.call135 rfl rfl (cY _ _ _) ?_;refine go [.N,.a,.Z,.R,.m,.m,.N] (k:=?_);apply az.cut 3
  ·intro Kg19;refine az.split 85 rfl (λg19=>?_) (λg19=>?_)
   ·refine go [.G,.G] (k:=?_);refine qg g19 (Qt.y5 (l_ _ _ _ _ _ _ _ _) rfl rfl) ?_;refine go [.N] (k:=?_);exact bZ 88 [86,87,88] (b6 g19 _ undef) Kg19
   ·refine go [.x,.x,.x] (k:=?_);exact bX 88 [86,87,88] (bY g19 undef _) Kg19
  refine qq (Qt.aD rfl rfl rfl) ?_;refine go [.a,.Z] (k:=?_);refine aM 2 ?_;simp only[bj,aA,reduceIte,Nat.reduceEqDiff];congr 2;rw[Bool.eq_iff_iff];simp[eO,lQ,place,eI, *]
  try omega
 try simp only[ai]at c18
 refine go [.R,.b,.N,.a,.Z] (k:=?_);refine cd (λc20=>?_) λc20=>?_
 ·try simp only[ai]at c20
  refine go [.R,.f,.l,.N,.f,.s,.Z,.R1,.f,.N,.l] (k:=?_);refine cv Tryz.call248 rfl rfl (dS _) ?_;refine go [.N,.m] (k:=?_);apply az.cut 3
  ·intro Kg21;refine az.split 74 rfl (λg21=>?_) (λg21=>?_)
   ·refine go [.f,.l,.N] (k:=?_);refine az.step rfl g21 (aK.aL rfl (by decide) Tryz.call135 rfl rfl (cY _ _ _)) ?_;refine go [.N] (k:=?_);exact bZ 77 [75,76,77] (b6 g21 _ undef) Kg21
   ·refine go [.x,.x,.x] (k:=?_);exact bX 77 [75,76,77] (bY g21 undef _) Kg21
  refine qq (Qt.aD rfl rfl rfl) ?_;refine go [.a,.Z,.R,.m,.N,.m] (k:=?_);apply az.cut 3
  ·intro Kg22;refine az.split 85 rfl (λg22=>?_) (λg22=>?_)
   ·refine go [.G,.G,.N] (k:=?_);refine qg g22 (Qt.y5 (l_ _ _ _ _ _ _ _ _) rfl rfl) ?_;exact bZ 88 [86,87,88] (b6 g22 _ undef) Kg22
   ·refine go [.x,.x,.x] (k:=?_);exact bX 88 [86,87,88] (bY g22 undef _) Kg22
  refine qq (Qt.aD rfl rfl rfl) ?_;refine go [.a,.Z] (k:=?_);refine aM 2 ?_;simp only[bj,aA,reduceIte,Nat.reduceEqDiff];congr 2;rw[Bool.eq_iff_iff];simp[eO,lQ,place,eI, *]
  try omega
 try simp only[ai]at c20
 refine go [.R,.b,.N,.a,.Z] (k:=?_);refine cd (λc23=>?_) λc23=>?_
 ·try simp only[ai]at c23
  refine go [.R1,.f,.l,.N] (k:=?_);refine cv Tryz.call135 rfl rfl (cY _ _ _) ?_;refine go [.N,.a,.Z,.R,.m,.m,.N] (k:=?_);apply az.cut 3
  ·intro Kg24;refine az.split 85 rfl (λg24=>?_) (λg24=>?_)
   ·refine go [.G,.G] (k:=?_);refine qg g24 (Qt.y5 (l_ _ _ _ _ _ _ _ _) rfl rfl) ?_;refine go [.N] (k:=?_);exact bZ 88 [86,87,88] (b6 g24 _ undef) Kg24
   ·refine go [.x,.x,.x] (k:=?_);exact bX 88 [86,87,88] (bY g24 undef _) Kg24
  refine qq (Qt.aD rfl rfl rfl) ?_;refine go [.a,.Z] (k:=?_);refine aM 2 ?_;simp only[bj,aA,reduceIte,Nat.reduceEqDiff];congr 2;rw[Bool.eq_iff_iff];simp[eO,lQ,place,eI, *]
  try omega
 try simp only[ai]at c23
 refine go [.J,.R,.m,.N,.m] (k:=?_);apply az.cut 3
 ·intro Kg25;refine az.split 85 rfl (λg25=>?_) (λg25=>?_)
  ·refine go [.G,.G,.N] (k:=?_);refine qg g25 (Qt.y5 (l_ _ _ _ _ _ _ _ _) rfl rfl) ?_;exact bZ 88 [86,87,88] (b6 g25 _ undef) Kg25
  ·refine go [.x,.x,.x] (k:=?_);exact bX 88 [86,87,88] (bY g25 undef _) Kg25
 refine qq (Qt.aD rfl rfl rfl) ?_;refine go [.a,.Z] (k:=?_);refine aM 2 ?_;simp only[bj,aA,reduceIte,Nat.reduceEqDiff];congr 2;rw[Bool.eq_iff_iff];simp[eO,lQ,place,eI, *]
 try omega
theorem uH(i:dE):bf Tryz.prog 192 [.g [.v (iv i.Op), .v (iv i.A), .v (iv i.B), .v (iv i.C)]] [] (λy _=>y= .v (.bool (eO i))):=by
 refine ob Tryz.func192 Tryz.ntmps192 ?_;refine go [.R,.B,.N,.a,.Z,.R2,.f,.l,.Z] (k:=?_);refine AW.block (sr ?_);refine go [.b,.N,.a,.Z] (k:=?_);refine cd (λc1=>?_) λc1=>?_
 ·try simp only[ai]at c1
  refine go [.R,.f,.l,.N] (k:=?_);refine cv Tryz.call226 rfl rfl (dR _) ?_;refine go [.N,.m] (k:=?_);apply az.cut 3
  ·intro Kg2;refine az.split 10 rfl (λg2=>?_) (λg2=>?_)
   ·refine go [.f,.l,.N] (k:=?_);refine az.step rfl g2 (aK.aL rfl (by decide) Tryz.call188 rfl rfl (lx _)) ?_;refine go [.N] (k:=?_);exact bZ 13 [11,12,13] (b6 g2 _ undef) Kg2
   ·refine go [.x,.x,.x] (k:=?_);exact bX 13 [11,12,13] (bY g2 undef _) Kg2
  refine qq (Qt.aD rfl rfl rfl) ?_;refine go [.m] (k:=?_);apply az.cut 3
  ·intro Kg3;refine az.split 15 rfl (λg3=>?_) (λg3=>?_)
   ·refine go [.f,.N,.l,.b] (k:=?_);exact bZ 18 [16,17,18] (b6 g3 _ undef) Kg3
   ·refine go [.x,.x,.x] (k:=?_);exact bX 18 [16,17,18] (bY g3 undef _) Kg3
  refine qq (Qt.aD rfl rfl rfl) ?_;refine go [.N,.a,.Z] (k:=?_);refine aM 2 ?_;simp only[bj,aA,reduceIte,Nat.reduceEqDiff];congr 2;rw[Bool.eq_iff_iff];simp[eO,lQ,place,eI, *]
  try omega
 try simp only[ai]at c1
 refine go [.R2,.b,.a,.Z] (k:=?_);refine cd (λc4=>?_) λc4=>?_
 ·have k4:=c4
  try simp only[ai]at c4
  refine go [.J] (k:=?_);refine AW.jU rfl k4 ?_;refine go [.R,.f,.N,.l] (k:=?_);refine cv Tryz.call226 rfl rfl (dR _) ?_;refine go [.N,.m] (k:=?_);apply az.cut 3
  ·intro Kg5;refine az.split 26 rfl (λg5=>?_) (λg5=>?_)
   ·refine go [.f,.l,.N] (k:=?_);refine az.step rfl g5 (aK.aL rfl (by decide) Tryz.call226 rfl rfl (dR _)) ?_;refine go [.N] (k:=?_);exact bZ 29 [27,28,29] (b6 g5 _ undef) Kg5
   ·refine go [.x,.x,.x] (k:=?_);exact bX 29 [27,28,29] (bY g5 undef _) Kg5
  refine qq (Qt.aD rfl rfl rfl) ?_;refine go [.m] (k:=?_);apply az.cut 3
  ·intro Kg6;refine az.split 31 rfl (λg6=>?_) (λg6=>?_)
   ·refine go [.f,.N,.l] (k:=?_);refine az.step rfl g6 (aK.aL rfl (by decide) Tryz.call226 rfl rfl (dR _)) ?_;refine go [.N] (k:=?_);exact bZ 34 [32,33,34] (b6 g6 _ undef) Kg6
   ·refine go [.x,.x,.x] (k:=?_);exact bX 34 [32,33,34] (bY g6 undef _) Kg6
  refine qq (Qt.aD rfl rfl rfl) ?_;refine go [.a,.Z] (k:=?_);refine aM 2 ?_;simp only[bj,aA,reduceIte,Nat.reduceEqDiff];congr 2;rw[Bool.eq_iff_iff];simp[eO,lQ,place,eI, *]
  try omega
 have k4:=c4
 try simp only[ai]at c4
 refine go [.R1,.b,.N,.a,.Z] (k:=?_);refine cd (λc7=>?_) λc7=>?_
 ·try simp only[ai]at c7
  refine go [.R,.f,.l,.N] (k:=?_);refine cv Tryz.call226 rfl rfl (dR _) ?_;refine go [.N,.m] (k:=?_);apply az.cut 3
  ·intro Kg8;refine az.split 26 rfl (λg8=>?_) (λg8=>?_)
   ·refine go [.f,.l,.N] (k:=?_);refine az.step rfl g8 (aK.aL rfl (by decide) Tryz.call226 rfl rfl (dR _)) ?_;refine go [.N] (k:=?_);exact bZ 29 [27,28,29] (b6 g8 _ undef) Kg8
   ·refine go [.x,.x,.x] (k:=?_);exact bX 29 [27,28,29] (bY g8 undef _) Kg8
  refine qq (Qt.aD rfl rfl rfl) ?_;refine go [.m] (k:=?_);apply az.cut 3
  ·intro Kg9;refine az.split 31 rfl (λg9=>?_) (λg9=>?_)
   ·refine go [.f,.N,.l] (k:=?_);refine az.step rfl g9 (aK.aL rfl (by decide) Tryz.call226 rfl rfl (dR _)) ?_;refine go [.N] (k:=?_);exact bZ 34 [32,33,34] (b6 g9 _ undef) Kg9
   ·refine go [.x,.x,.x] (k:=?_);exact bX 34 [32,33,34] (bY g9 undef _) Kg9
  refine qq (Qt.aD rfl rfl rfl) ?_;refine go [.a,.Z] (k:=?_);refine aM 2 ?_;simp only[bj,aA,reduceIte,Nat.reduceEqDiff];congr 2;rw[Bool.eq_iff_iff];simp[eO,lQ,place,eI, *]
  try omega
 try simp only[ai]at c7
 refine go [.R2,.b,.N,.a,.Z] (k:=?_);refine cd (λc10=>?_) λc10=>?_
 ·have k10:=c10
  try simp only[ai]at c10
  refine go [.J] (k:=?_);refine AW.jU rfl k10 ?_;refine go [.R,.f,.l,.N] (k:=?_);refine cv Tryz.call226 rfl rfl (dR _) ?_;refine go [.N,.m] (k:=?_);apply az.cut 3
  ·intro Kg11;refine az.split 42 rfl (λg11=>?_) (λg11=>?_)
   ·refine go [.f,.l,.N] (k:=?_);refine az.step rfl g11 (aK.aL rfl (by decide) Tryz.call226 rfl rfl (dR _)) ?_;refine go [.N] (k:=?_);exact bZ 45 [43,44,45] (b6 g11 _ undef) Kg11
   ·refine go [.x,.x,.x] (k:=?_);exact bX 45 [43,44,45] (bY g11 undef _) Kg11
  refine qq (Qt.aD rfl rfl rfl) ?_;refine go [.m] (k:=?_);apply az.cut 3
  ·intro Kg12;refine az.split 47 rfl (λg12=>?_) (λg12=>?_)
   ·refine go [.f,.N,.l,.b] (k:=?_);exact bZ 50 [48,49,50] (b6 g12 _ undef) Kg12
   ·refine go [.x,.x,.x] (k:=?_);exact bX 50 [48,49,50] (bY g12 undef _) Kg12
  refine qq (Qt.aD rfl rfl rfl) ?_;refine go [.N,.a,.Z] (k:=?_);refine aM 2 ?_;simp only[bj,aA,reduceIte,Nat.reduceEqDiff];congr 2;rw[Bool.eq_iff_iff];simp[eO,lQ,place,eI, *]
  try omega
 have k10:=c10
 try simp only[ai]at c10
 refine go [.R1,.b,.a,.Z] (k:=?_);refine cd (λc13=>?_) λc13=>?_
 ·try simp only[ai]at c13
  refine go [.R,.f,.N,.l] (k:=?_);refine cv Tryz.call226 rfl rfl (dR _) ?_;refine go [.N,.m] (k:=?_);apply az.cut 3
  ·intro Kg14;refine az.split 42 rfl (λg14=>?_) (λg14=>?_)
   ·refine go [.f,.l,.N] (k:=?_);refine az.step rfl g14 (aK.aL rfl (by decide) Tryz.call226 rfl rfl (dR _)) ?_;refine go [.N] (k:=?_);exact bZ 45 [43,44,45] (b6 g14 _ undef) Kg14
   ·refine go [.x,.x,.x] (k:=?_);exact bX 45 [43,44,45] (bY g14 undef _) Kg14
  refine qq (Qt.aD rfl rfl rfl) ?_;refine go [.m] (k:=?_);apply az.cut 3
  ·intro Kg15;refine az.split 47 rfl (λg15=>?_) (λg15=>?_)
   ·refine go [.f,.N,.l,.b] (k:=?_);exact bZ 50 [48,49,50] (b6 g15 _ undef) Kg15
   ·refine go [.x,.x,.x] (k:=?_);exact bX 50 [48,49,50] (bY g15 undef _) Kg15
  refine qq (Qt.aD rfl rfl rfl) ?_;refine go [.N,.a,.Z] (k:=?_);refine aM 2 ?_;simp only[bj,aA,reduceIte,Nat.reduceEqDiff];congr 2;rw[Bool.eq_iff_iff];simp[eO,lQ,place,eI, *]
  try omega
 try simp only[ai]at c13
 refine go [.R,.b,.a,.Z] (k:=?_);refine cd (λc16=>?_) λc16=>?_
 ·try simp only[ai]at c16
  refine go [.R,.f,.N,.l] (k:=?_);refine cv Tryz.call227 rfl rfl (kb _) ?_;refine go [.N,.m] (k:=?_);apply az.cut 3
  ·intro Kg17;refine az.split 57 rfl (λg17=>?_) (λg17=>?_)
   ·refine go [.f,.l,.N,.b] (k:=?_);exact bZ 60 [58,59,60] (b6 g17 _ undef) Kg17
   ·refine go [.x,.x,.x] (k:=?_);exact bX 60 [58,59,60] (bY g17 undef _) Kg17
  refine qq (Qt.aD rfl rfl rfl) ?_;refine go [.m,.N] (k:=?_);apply az.cut 3
  ·intro Kg18;refine az.split 62 rfl (λg18=>?_) (λg18=>?_)
   ·refine go [.f,.l,.b,.N] (k:=?_);exact bZ 65 [63,64,65] (b6 g18 _ undef) Kg18
   ·refine go [.x,.x,.x] (k:=?_);exact bX 65 [63,64,65] (bY g18 undef _) Kg18
  refine qq (Qt.aD rfl rfl rfl) ?_;refine go [.a,.Z] (k:=?_);refine aM 2 ?_;simp only[bj,aA,reduceIte,Nat.reduceEqDiff];congr 2;rw[Bool.eq_iff_iff];simp[eO,lQ,place,eI, *]
  try omega
 try simp only[ai]at c16
 refine go [.R,.b,.N,.a,.Z] (k:=?_);refine cd (λc19=>?_) λc19=>?_
 ·try simp only[ai]at c19
  refine go [.R,.f,.l,.N] (k:=?_);refine cv Tryz.call226 rfl rfl (dR _) ?_;refine go [.N,.m] (k:=?_);apply az.cut 3
  ·intro Kg20;refine az.split 72 rfl (λg20=>?_) (λg20=>?_)
   ·refine go [.f,.l,.N] (k:=?_);refine az.step rfl g20 (aK.aL rfl (by decide) Tryz.call227 rfl rfl (kb _)) ?_;refine go [.N] (k:=?_);exact bZ 75 [73,74,75] (b6 g20 _ undef) Kg20
   ·refine go [.x,.x,.x] (k:=?_);exact bX 75 [73,74,75] (bY g20 undef _) Kg20
  refine qq (Qt.aD rfl rfl rfl) ?_;refine go [.m] (k:=?_);apply az.cut 3
  ·intro Kg21;refine az.split 77 rfl (λg21=>?_) (λg21=>?_)
   ·refine go [.f,.N,.l,.b] (k:=?_);exact bZ 80 [78,79,80] (b6 g21 _ undef) Kg21
   ·refine go [.x,.x,.x] (k:=?_);exact bX 80 [78,79,80] (bY g21 undef _) Kg21
  refine qq (Qt.aD rfl rfl rfl) ?_;refine go [.N,.a,.Z] (k:=?_);refine aM 2 ?_;simp only[bj,aA,reduceIte,Nat.reduceEqDiff];congr 2;rw[Bool.eq_iff_iff];simp[eO,lQ,place,eI, *]
  try omega
 try simp only[ai]at c19
 refine go [.R,.b,.a,.Z] (k:=?_);refine cd (λc22=>?_) λc22=>?_
 ·try simp only[ai]at c22
  refine go [.R,.f,.N,.l] (k:=?_);refine cv Tryz.call144 rfl rfl (dW _ _ _) ?_;refine go [.N,.m] (k:=?_);apply az.cut 3
  ·intro Kg23;refine az.split 87 rfl (λg23=>?_) (λg23=>?_)
   ·refine go [.f,.l,.N,.b] (k:=?_);exact bZ 90 [88,89,90] (b6 g23 _ undef) Kg23
   ·refine go [.x,.x,.x] (k:=?_);exact bX 90 [88,89,90] (bY g23 undef _) Kg23
  refine qq (Qt.aD rfl rfl rfl) ?_;refine go [.m,.N] (k:=?_);apply az.cut 3
  ·intro Kg24;refine az.split 92 rfl (λg24=>?_) (λg24=>?_)
   ·refine go [.f,.l,.b,.N] (k:=?_);exact bZ 95 [93,94,95] (b6 g24 _ undef) Kg24
   ·refine go [.x,.x,.x] (k:=?_);exact bX 95 [93,94,95] (bY g24 undef _) Kg24
  refine qq (Qt.aD rfl rfl rfl) ?_;refine go [.a,.Z] (k:=?_);refine aM 2 ?_;simp only[bj,aA,reduceIte,Nat.reduceEqDiff];congr 2;rw[Bool.eq_iff_iff];simp[eO,lQ,place,eI, *]
  try omega
 try simp only[ai]at c22
 refine go [.J,.R,.a,.Z] (k:=?_);refine aM 2 ?_;simp only[bj,aA,reduceIte,Nat.reduceEqDiff];congr 2;rw[Bool.eq_iff_iff];simp[eO,lQ,place,eI, *]
 try omega
end Go.Proofs.YtekcnnngjoonbaaGreat.VM

