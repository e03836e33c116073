/- Contracts. No conditions. -/
import Derived.Test.YtekcnnngjoonbaaGreatWg
set_option linter.all false
set_option maxHeartbeats 8000000
set_option maxRecDepth 10000
namespace Go.Proofs.YtekcnnngjoonbaaGreat.VM
open List Nat
open Go Go.RowKit Go.Proofs Go.Proofs.Tryz

def lQ(x:Int):Bool:=decide (0≤x)&&decide (x≤3)
def place(x:Int):Bool:=decide (0≤x)&&decide (x≤40)
def ec(i:cU):Bool:=
 if i.Op=1 then lQ i.A&&(ek i.B&&decide (i.C=0))
 else if i.Op=2∨i.Op=3 then lQ i.A&&(lQ i.B&&lQ i.C)
 else if i.Op=4∨i.Op=5 then lQ i.A&&(lQ i.B&&decide (i.C=0))
 else if i.Op=6 then place i.A&&(decide (i.B=0)&&decide (i.C=0))
 else if i.Op=7 then lQ i.A&&(place i.B&&decide (i.C=0))
 else if i.Op=8 then(decide (1≤i.A)&&decide (i.A≤20))&&(decide (i.B=0)&&decide (i.C=0))
 else false
def et(l:List cU):Bool:=decide (l.length≤40)&&l.all ec
theorem D4(x:Int):(decide (0≤x)&&decide (x<4))=lQ x:=by
 unfold lQ;congr 2;apply propext;omega

theorem dI(x:Int):a_ prog 248 [.v (iv x)] [] (λy _=>y= .v (.bool (lQ x))):=by
 refine ob func248 ntmps248 ?_;refine go [.R,.a,.Z,.R,.m,.b,.N,.m] ?_;apply aB.cut 2
 ·intro Kg1;refine aB.split 5 rfl (λg1=>?_) (λg1=>?_)
  ·refine go [.m,.b,.N] ?_;exact bV 7 [6,7] (bY g1 _ undef) Kg1
  ·refine go [.x,.x] ?_;exact bX 7 [6,7] (bU g1 undef _) Kg1
 refine qq (Qt.aG rfl rfl rfl) ?_;refine go [.a,.Z] ?_;refine aQ 2 ?_;rw[←D4];rfl
theorem dJ(x:Int):a_ prog 226 [.v (iv x)] [] (λy _=>y= .v (.bool (lQ x))):=by
 refine ob func226 ntmps226 ?_;refine go [.R,.a,.Z,.R,.m] ?_;refine cv call144 rfl rfl (de _ _ _) ?_;refine go [.N,.a,.Z] ?_;refine aQ 2 ?_;rfl
theorem wE(i:cU):a_ prog 222 [.g [.v (iv i.Op),.v (iv i.A),.v (iv i.B),.v (iv i.C)]] [] (λy _=>y= .v (.bool (ec i))):=by
 refine ob func222 ntmps222 ?_;refine go [.R,.B,.N,.a,.Z,.R,.f,.l,.N,.f,.l,.u,.N,.A,.N,.s,.Z,.R,.a,.Z,.R2,.f,.N,.l,.Z] ?_;refine AW.block (sr ?_);refine go [.b,.a,.Z] ?_;refine cd (λc1=>?_) λc1=>?_
 ·try simp only[ah]at c1
  refine go [.R,.f,.N,.l,.f,.s,.Z,.R1,.f,.N,.l] ?_;refine cv call248 rfl rfl (dI _) ?_;refine go [.N,.m] ?_;apply aB.cut 3
  ·intro Kg2;refine aB.split 20 rfl (λg2=>?_) (λg2=>?_)
   ·refine go [.f,.l,.N] ?_;refine aB.step rfl g2 (aE.aC rfl (by decide) call135 rfl rfl (cD _ _ _)) ?_;refine go [.N] ?_;exact bV 23 [21,22,23] (bY g2 _ undef) Kg2
   ·refine go [.x,.x,.x] ?_;exact bX 23 [21,22,23] (bU g2 undef _) Kg2
  refine qq (Qt.aG rfl rfl rfl) ?_;refine go [.a,.Z,.R,.m,.N,.m] ?_;apply aB.cut 3
  ·intro Kg3;refine aB.split 85 rfl (λg3=>?_) (λg3=>?_)
   ·refine go [.G,.G,.N] ?_;refine qg g3 (Qt.Ay (lW _ _ _ _ _ _ _ _) rfl rfl) ?_;exact bV 88 [86,87,88] (bY g3 _ undef) Kg3
   ·refine go [.x,.x,.x] ?_;exact bX 88 [86,87,88] (bU g3 undef _) Kg3
  refine qq (Qt.aG rfl rfl rfl) ?_;refine go [.a,.Z] ?_;refine aQ 2 ?_;simp only[bi,ax,reduceIte,Nat.reduceEqDiff];congr 2;rw[Bool.eq_iff_iff];simp[ec,lQ,place,ek, *]
  try omega
 try simp only[ah]at c1
 refine go [.R2,.b,.N,.a,.Z] ?_;refine cd (λc4=>?_) λc4=>?_
 ·have k4:=c4
  try simp only[ah]at c4
  refine go [.J] ?_;refine AW.jV rfl k4 ?_;refine go [.R,.f,.l,.N,.f,.s,.Z,.R,.f,.N,.l,.f,.s,.Z,.R1,.f,.N,.l] ?_;refine cv call248 rfl rfl (dI _) ?_;refine go [.N,.m] ?_;apply aB.cut 3
  ·intro Kg5;refine aB.split 37 rfl (λg5=>?_) (λg5=>?_)
   ·refine go [.f,.l,.N] ?_;refine aB.step rfl g5 (aE.aC rfl (by decide) call248 rfl rfl (dI _)) ?_;refine go [.N] ?_;exact bV 40 [38,39,40] (bY g5 _ undef) Kg5
   ·refine go [.x,.x,.x] ?_;exact bX 40 [38,39,40] (bU g5 undef _) Kg5
  refine qq (Qt.aG rfl rfl rfl) ?_;refine go [.m] ?_;apply aB.cut 3
  ·intro Kg6;refine aB.split 42 rfl (λg6=>?_) (λg6=>?_)
   ·refine go [.f,.N,.l] ?_;refine aB.step rfl g6 (aE.aC rfl (by decide) call248 rfl rfl (dI _)) ?_;refine go [.N] ?_;exact bV 45 [43,44,45] (bY g6 _ undef) Kg6
   ·refine go [.x,.x,.x] ?_;exact bX 45 [43,44,45] (bU g6 undef _) Kg6
  refine qq (Qt.aG rfl rfl rfl) ?_;refine go [.a,.Z,.R,.m,.N,.m] ?_;apply aB.cut 3
  ·intro Kg7;refine aB.split 85 rfl (λg7=>?_) (λg7=>?_)
   ·refine go [.G,.G,.N] ?_;refine qg g7 (Qt.Ay (lW _ _ _ _ _ _ _ _) rfl rfl) ?_;exact bV 88 [86,87,88] (bY g7 _ undef) Kg7
   ·refine go [.x,.x,.x] ?_;exact bX 88 [86,87,88] (bU g7 undef _) Kg7
  refine qq (Qt.aG rfl rfl rfl) ?_;refine go [.a,.Z] ?_;refine aQ 2 ?_;simp only[bi,ax,reduceIte,Nat.reduceEqDiff];congr 2;rw[Bool.eq_iff_iff];simp[ec,lQ,place,ek, *]
  try omega
 have k4:=c4
 try simp only[ah]at c4
 refine go [.R1,.b,.N,.a,.Z] ?_;refine cd (λc8=>?_) λc8=>?_
 ·try simp only[ah]at c8
  refine go [.R,.f,.l,.N,.f,.s,.Z,.R,.f,.N,.l,.f,.s,.Z,.R1,.f,.N,.l] ?_;refine cv call248 rfl rfl (dI _) ?_;refine go [.N,.m] ?_;apply aB.cut 3
  ·intro Kg9;refine aB.split 37 rfl (λg9=>?_) (λg9=>?_)
   ·refine go [.f,.l,.N] ?_;refine aB.step rfl g9 (aE.aC rfl (by decide) call248 rfl rfl (dI _)) ?_;refine go [.N] ?_;exact bV 40 [38,39,40] (bY g9 _ undef) Kg9
   ·refine go [.x,.x,.x] ?_;exact bX 40 [38,39,40] (bU g9 undef _) Kg9
  refine qq (Qt.aG rfl rfl rfl) ?_;refine go [.m] ?_;apply aB.cut 3
  ·intro Kg10;refine aB.split 42 rfl (λg10=>?_) (λg10=>?_)
   ·refine go [.f,.N,.l] ?_;refine aB.step rfl g10 (aE.aC rfl (by decide) call248 rfl rfl (dI _)) ?_;refine go [.N] ?_;exact bV 45 [43,44,45] (bY g10 _ undef) Kg10
   ·refine go [.x,.x,.x] ?_;exact bX 45 [43,44,45] (bU g10 undef _) Kg10
  refine qq (Qt.aG rfl rfl rfl) ?_;refine go [.a,.Z,.R,.m,.N,.m] ?_;apply aB.cut 3
  ·intro Kg11;refine aB.split 85 rfl (λg11=>?_) (λg11=>?_)
   ·refine go [.G,.G,.N] ?_;refine qg g11 (Qt.Ay (lW _ _ _ _ _ _ _ _) rfl rfl) ?_;exact bV 88 [86,87,88] (bY g11 _ undef) Kg11
   ·refine go [.x,.x,.x] ?_;exact bX 88 [86,87,88] (bU g11 undef _) Kg11
  refine qq (Qt.aG rfl rfl rfl) ?_;refine go [.a,.Z] ?_;refine aQ 2 ?_;simp only[bi,ax,reduceIte,Nat.reduceEqDiff];congr 2;rw[Bool.eq_iff_iff];simp[ec,lQ,place,ek, *]
  try omega
 try simp only[ah]at c8
 refine go [.R2,.b,.N,.a,.Z] ?_;refine cd (λc12=>?_) λc12=>?_
 ·have k12:=c12
  try simp only[ah]at c12
  refine go [.J] ?_;refine AW.jV rfl k12 ?_;refine go [.R,.f,.l,.N,.f,.s,.Z,.R1,.f,.N,.l] ?_;refine cv call248 rfl rfl (dI _) ?_;refine go [.N,.m] ?_;apply aB.cut 3
  ·intro Kg13;refine aB.split 56 rfl (λg13=>?_) (λg13=>?_)
   ·refine go [.f,.l,.N] ?_;refine aB.step rfl g13 (aE.aC rfl (by decide) call248 rfl rfl (dI _)) ?_;refine go [.N] ?_;exact bV 59 [57,58,59] (bY g13 _ undef) Kg13
   ·refine go [.x,.x,.x] ?_;exact bX 59 [57,58,59] (bU g13 undef _) Kg13
  refine qq (Qt.aG rfl rfl rfl) ?_;refine go [.a,.Z,.R,.m,.N,.m] ?_;apply aB.cut 3
  ·intro Kg14;refine aB.split 85 rfl (λg14=>?_) (λg14=>?_)
   ·refine go [.G,.G,.N] ?_;refine qg g14 (Qt.Ay (lW _ _ _ _ _ _ _ _) rfl rfl) ?_;exact bV 88 [86,87,88] (bY g14 _ undef) Kg14
   ·refine go [.x,.x,.x] ?_;exact bX 88 [86,87,88] (bU g14 undef _) Kg14
  refine qq (Qt.aG rfl rfl rfl) ?_;refine go [.a,.Z] ?_;refine aQ 2 ?_;simp only[bi,ax,reduceIte,Nat.reduceEqDiff];congr 2;rw[Bool.eq_iff_iff];simp[ec,lQ,place,ek, *]
  try omega
 have k12:=c12
 try simp only[ah]at c12
 refine go [.R1,.b,.N,.a,.Z] ?_;refine cd (λc15=>?_) λc15=>?_
 ·try simp only[ah]at c15
  refine go [.R,.f,.l,.N,.f,.s,.Z,.R1,.f,.N,.l] ?_;refine cv call248 rfl rfl (dI _) ?_;refine go [.N,.m] ?_;apply aB.cut 3
  ·intro Kg16;refine aB.split 56 rfl (λg16=>?_) (λg16=>?_)
   ·refine go [.f,.l,.N] ?_;refine aB.step rfl g16 (aE.aC rfl (by decide) call248 rfl rfl (dI _)) ?_;refine go [.N] ?_;exact bV 59 [57,58,59] (bY g16 _ undef) Kg16
   ·refine go [.x,.x,.x] ?_;exact bX 59 [57,58,59] (bU g16 undef _) Kg16
  refine qq (Qt.aG rfl rfl rfl) ?_;refine go [.a,.Z,.R,.m,.N,.m] ?_;apply aB.cut 3
  ·intro Kg17;refine aB.split 85 rfl (λg17=>?_) (λg17=>?_)
   ·refine go [.G,.G,.N] ?_;refine qg g17 (Qt.Ay (lW _ _ _ _ _ _ _ _) rfl rfl) ?_;exact bV 88 [86,87,88] (bY g17 _ undef) Kg17
   ·refine go [.x,.x,.x] ?_;exact bX 88 [86,87,88] (bU g17 undef _) Kg17
  refine qq (Qt.aG rfl rfl rfl) ?_;refine go [.a,.Z] ?_;refine aQ 2 ?_;simp only[bi,ax,reduceIte,Nat.reduceEqDiff];congr 2;rw[Bool.eq_iff_iff];simp[ec,lQ,place,ek, *]
  try omega
 try simp only[ah]at c15
 refine go [.R,.b,.N,.a,.Z] ?_;refine cd (λc18=>?_) λc18=>?_
 ·try simp only[ah]at c18
  refine go [.R1,.f,.l,.N] ?_;refine cv call135 rfl rfl (cD _ _ _) ?_;refine go [.N,.a,.Z,.R,.m,.m,.N] ?_;apply aB.cut 3
  ·intro Kg19;refine aB.split 85 rfl (λg19=>?_) (λg19=>?_)
   ·refine go [.G,.G] ?_;refine qg g19 (Qt.Ay (lW _ _ _ _ _ _ _ _) rfl rfl) ?_;refine go [.N] ?_;exact bV 88 [86,87,88] (bY g19 _ undef) Kg19
   ·refine go [.x,.x,.x] ?_;exact bX 88 [86,87,88] (bU g19 undef _) Kg19
  refine qq (Qt.aG rfl rfl rfl) ?_;refine go [.a,.Z] ?_;refine aQ 2 ?_;simp only[bi,ax,reduceIte,Nat.reduceEqDiff];congr 2;rw[Bool.eq_iff_iff];simp[ec,lQ,place,ek, *]
  try omega
 try simp only[ah]at c18
 refine go [.R,.b,.N,.a,.Z] ?_;refine cd (λc20=>?_) λc20=>?_
 ·try simp only[ah]at c20
  refine go [.R,.f,.l,.N,.f,.s,.Z,.R1,.f,.N,.l] ?_;refine cv call248 rfl rfl (dI _) ?_;refine go [.N,.m] ?_;apply aB.cut 3
  ·intro Kg21;refine aB.split 74 rfl (λg21=>?_) (λg21=>?_)
   ·refine go [.f,.l,.N] ?_;refine aB.step rfl g21 (aE.aC rfl (by decide) call135 rfl rfl (cD _ _ _)) ?_;refine go [.N] ?_;exact bV 77 [75,76,77] (bY g21 _ undef) Kg21
   ·refine go [.x,.x,.x] ?_;exact bX 77 [75,76,77] (bU g21 undef _) Kg21
  refine qq (Qt.aG rfl rfl rfl) ?_;refine go [.a,.Z,.R,.m,.N,.m] ?_;apply aB.cut 3
  ·intro Kg22;refine aB.split 85 rfl (λg22=>?_) (λg22=>?_)
   ·refine go [.G,.G,.N] ?_;refine qg g22 (Qt.Ay (lW _ _ _ _ _ _ _ _) rfl rfl) ?_;exact bV 88 [86,87,88] (bY g22 _ undef) Kg22
   ·refine go [.x,.x,.x] ?_;exact bX 88 [86,87,88] (bU g22 undef _) Kg22
  refine qq (Qt.aG rfl rfl rfl) ?_;refine go [.a,.Z] ?_;refine aQ 2 ?_;simp only[bi,ax,reduceIte,Nat.reduceEqDiff];congr 2;rw[Bool.eq_iff_iff];simp[ec,lQ,place,ek, *]
  try omega
 try simp only[ah]at c20
 refine go [.R,.b,.N,.a,.Z] ?_;refine cd (λc23=>?_) λc23=>?_
 ·try simp only[ah]at c23
  refine go [.R1,.f,.l,.N] ?_;refine cv call135 rfl rfl (cD _ _ _) ?_;refine go [.N,.a,.Z,.R,.m,.m,.N] ?_;apply aB.cut 3
  ·intro Kg24;refine aB.split 85 rfl (λg24=>?_) (λg24=>?_)
   ·refine go [.G,.G] ?_;refine qg g24 (Qt.Ay (lW _ _ _ _ _ _ _ _) rfl rfl) ?_;refine go [.N] ?_;exact bV 88 [86,87,88] (bY g24 _ undef) Kg24
   ·refine go [.x,.x,.x] ?_;exact bX 88 [86,87,88] (bU g24 undef _) Kg24
  refine qq (Qt.aG rfl rfl rfl) ?_;refine go [.a,.Z] ?_;refine aQ 2 ?_;simp only[bi,ax,reduceIte,Nat.reduceEqDiff];congr 2;rw[Bool.eq_iff_iff];simp[ec,lQ,place,ek, *]
  try omega
 try simp only[ah]at c23
 refine go [.J,.R,.m,.N,.m] ?_;apply aB.cut 3
 ·intro Kg25;refine aB.split 85 rfl (λg25=>?_) (λg25=>?_)
  ·refine go [.G,.G,.N] ?_;refine qg g25 (Qt.Ay (lW _ _ _ _ _ _ _ _) rfl rfl) ?_;exact bV 88 [86,87,88] (bY g25 _ undef) Kg25
  ·refine go [.x,.x,.x] ?_;exact bX 88 [86,87,88] (bU g25 undef _) Kg25
 refine qq (Qt.aG rfl rfl rfl) ?_;refine go [.a,.Z] ?_;refine aQ 2 ?_;simp only[bi,ax,reduceIte,Nat.reduceEqDiff];congr 2;rw[Bool.eq_iff_iff];simp[ec,lQ,place,ek, *]
 try omega
theorem v_(i:cU):a_ prog 192 [.g [.v (iv i.Op),.v (iv i.A),.v (iv i.B),.v (iv i.C)]] [] (λy _=>y= .v (.bool (ec i))):=by
 refine ob func192 ntmps192 ?_;refine go [.R,.B,.N,.a,.Z,.R2,.f,.l,.Z] ?_;refine AW.block (sr ?_);refine go [.b,.N,.a,.Z] ?_;refine cd (λc1=>?_) λc1=>?_
 ·try simp only[ah]at c1
  refine go [.R,.f,.l,.N] ?_;refine cv call226 rfl rfl (dJ _) ?_;refine go [.N,.m] ?_;apply aB.cut 3
  ·intro Kg2;refine aB.split 10 rfl (λg2=>?_) (λg2=>?_)
   ·refine go [.f,.l,.N] ?_;refine aB.step rfl g2 (aE.aC rfl (by decide) call188 rfl rfl (lr _)) ?_;refine go [.N] ?_;exact bV 13 [11,12,13] (bY g2 _ undef) Kg2
   ·refine go [.x,.x,.x] ?_;exact bX 13 [11,12,13] (bU g2 undef _) Kg2
  refine qq (Qt.aG rfl rfl rfl) ?_;refine go [.m] ?_;apply aB.cut 3
  ·intro Kg3;refine aB.split 15 rfl (λg3=>?_) (λg3=>?_)
   ·refine go [.f,.N,.l,.b] ?_;exact bV 18 [16,17,18] (bY g3 _ undef) Kg3
   ·refine go [.x,.x,.x] ?_;exact bX 18 [16,17,18] (bU g3 undef _) Kg3
  refine qq (Qt.aG rfl rfl rfl) ?_;refine go [.N,.a,.Z] ?_;refine aQ 2 ?_;simp only[bi,ax,reduceIte,Nat.reduceEqDiff];congr 2;rw[Bool.eq_iff_iff];simp[ec,lQ,place,ek, *]
  try omega
 try simp only[ah]at c1
 refine go [.R2,.b,.a,.Z] ?_;refine cd (λc4=>?_) λc4=>?_
 ·have k4:=c4
  try simp only[ah]at c4
  refine go [.J] ?_;refine AW.jV rfl k4 ?_;refine go [.R,.f,.N,.l] ?_;refine cv call226 rfl rfl (dJ _) ?_;refine go [.N,.m] ?_;apply aB.cut 3
  ·intro Kg5;refine aB.split 26 rfl (λg5=>?_) (λg5=>?_)
   ·refine go [.f,.l,.N] ?_;refine aB.step rfl g5 (aE.aC rfl (by decide) call226 rfl rfl (dJ _)) ?_;refine go [.N] ?_;exact bV 29 [27,28,29] (bY g5 _ undef) Kg5
   ·refine go [.x,.x,.x] ?_;exact bX 29 [27,28,29] (bU g5 undef _) Kg5
  refine qq (Qt.aG rfl rfl rfl) ?_;refine go [.m] ?_;apply aB.cut 3
  ·intro Kg6;refine aB.split 31 rfl (λg6=>?_) (λg6=>?_)
   ·refine go [.f,.N,.l] ?_;refine aB.step rfl g6 (aE.aC rfl (by decide) call226 rfl rfl (dJ _)) ?_;refine go [.N] ?_;exact bV 34 [32,33,34] (bY g6 _ undef) Kg6
   ·refine go [.x,.x,.x] ?_;exact bX 34 [32,33,34] (bU g6 undef _) Kg6
  refine qq (Qt.aG rfl rfl rfl) ?_;refine go [.a,.Z] ?_;refine aQ 2 ?_;simp only[bi,ax,reduceIte,Nat.reduceEqDiff];congr 2;rw[Bool.eq_iff_iff];simp[ec,lQ,place,ek, *]
  try omega
 have k4:=c4
 try simp only[ah]at c4
 refine go [.R1,.b,.N,.a,.Z] ?_;refine cd (λc7=>?_) λc7=>?_
 ·try simp only[ah]at c7
  refine go [.R,.f,.l,.N] ?_;refine cv call226 rfl rfl (dJ _) ?_;refine go [.N,.m] ?_;apply aB.cut 3
  ·intro Kg8;refine aB.split 26 rfl (λg8=>?_) (λg8=>?_)
   ·refine go [.f,.l,.N] ?_;refine aB.step rfl g8 (aE.aC rfl (by decide) call226 rfl rfl (dJ _)) ?_;refine go [.N] ?_;exact bV 29 [27,28,29] (bY g8 _ undef) Kg8
   ·refine go [.x,.x,.x] ?_;exact bX 29 [27,28,29] (bU g8 undef _) Kg8
  refine qq (Qt.aG rfl rfl rfl) ?_;refine go [.m] ?_;apply aB.cut 3
  ·intro Kg9;refine aB.split 31 rfl (λg9=>?_) (λg9=>?_)
   ·refine go [.f,.N,.l] ?_;refine aB.step rfl g9 (aE.aC rfl (by decide) call226 rfl rfl (dJ _)) ?_;refine go [.N] ?_;exact bV 34 [32,33,34] (bY g9 _ undef) Kg9
   ·refine go [.x,.x,.x] ?_;exact bX 34 [32,33,34] (bU g9 undef _) Kg9
  refine qq (Qt.aG rfl rfl rfl) ?_;refine go [.a,.Z] ?_;refine aQ 2 ?_;simp only[bi,ax,reduceIte,Nat.reduceEqDiff];congr 2;rw[Bool.eq_iff_iff];simp[ec,lQ,place,ek, *]
  try omega
 try simp only[ah]at c7
 refine go [.R2,.b,.N,.a,.Z] ?_;refine cd (λc10=>?_) λc10=>?_
 ·have k10:=c10
  try simp only[ah]at c10
  refine go [.J] ?_;refine AW.jV rfl k10 ?_;refine go [.R,.f,.l,.N] ?_;refine cv call226 rfl rfl (dJ _) ?_;refine go [.N,.m] ?_;apply aB.cut 3
  ·intro Kg11;refine aB.split 42 rfl (λg11=>?_) (λg11=>?_)
   ·refine go [.f,.l,.N] ?_;refine aB.step rfl g11 (aE.aC rfl (by decide) call226 rfl rfl (dJ _)) ?_;refine go [.N] ?_;exact bV 45 [43,44,45] (bY g11 _ undef) Kg11
   ·refine go [.x,.x,.x] ?_;exact bX 45 [43,44,45] (bU g11 undef _) Kg11
  refine qq (Qt.aG rfl rfl rfl) ?_;refine go [.m] ?_;apply aB.cut 3
  ·intro Kg12;refine aB.split 47 rfl (λg12=>?_) (λg12=>?_)
   ·refine go [.f,.N,.l,.b] ?_;exact bV 50 [48,49,50] (bY g12 _ undef) Kg12
   ·refine go [.x,.x,.x] ?_;exact bX 50 [48,49,50] (bU g12 undef _) Kg12
  refine qq (Qt.aG rfl rfl rfl) ?_;refine go [.N,.a,.Z] ?_;refine aQ 2 ?_;simp only[bi,ax,reduceIte,Nat.reduceEqDiff];congr 2;rw[Bool.eq_iff_iff];simp[ec,lQ,place,ek, *]
  try omega
 have k10:=c10
 try simp only[ah]at c10
 refine go [.R1,.b,.a,.Z] ?_;refine cd (λc13=>?_) λc13=>?_
 ·try simp only[ah]at c13
  refine go [.R,.f,.N,.l] ?_;refine cv call226 rfl rfl (dJ _) ?_;refine go [.N,.m] ?_;apply aB.cut 3
  ·intro Kg14;refine aB.split 42 rfl (λg14=>?_) (λg14=>?_)
   ·refine go [.f,.l,.N] ?_;refine aB.step rfl g14 (aE.aC rfl (by decide) call226 rfl rfl (dJ _)) ?_;refine go [.N] ?_;exact bV 45 [43,44,45] (bY g14 _ undef) Kg14
   ·refine go [.x,.x,.x] ?_;exact bX 45 [43,44,45] (bU g14 undef _) Kg14
  refine qq (Qt.aG rfl rfl rfl) ?_;refine go [.m] ?_;apply aB.cut 3
  ·intro Kg15;refine aB.split 47 rfl (λg15=>?_) (λg15=>?_)
   ·refine go [.f,.N,.l,.b] ?_;exact bV 50 [48,49,50] (bY g15 _ undef) Kg15
   ·refine go [.x,.x,.x] ?_;exact bX 50 [48,49,50] (bU g15 undef _) Kg15
  refine qq (Qt.aG rfl rfl rfl) ?_;refine go [.N,.a,.Z] ?_;refine aQ 2 ?_;simp only[bi,ax,reduceIte,Nat.reduceEqDiff];congr 2;rw[Bool.eq_iff_iff];simp[ec,lQ,place,ek, *]
  try omega
 try simp only[ah]at c13
 refine go [.R,.b,.a,.Z] ?_;refine cd (λc16=>?_) λc16=>?_
 ·try simp only[ah]at c16
  refine go [.R,.f,.N,.l] ?_;refine cv call227 rfl rfl (ko _) ?_;refine go [.N,.m] ?_;apply aB.cut 3
  ·intro Kg17;refine aB.split 57 rfl (λg17=>?_) (λg17=>?_)
   ·refine go [.f,.l,.N,.b] ?_;exact bV 60 [58,59,60] (bY g17 _ undef) Kg17
   ·refine go [.x,.x,.x] ?_;exact bX 60 [58,59,60] (bU g17 undef _) Kg17
  refine qq (Qt.aG rfl rfl rfl) ?_;refine go [.m,.N] ?_;apply aB.cut 3
  ·intro Kg18;refine aB.split 62 rfl (λg18=>?_) (λg18=>?_)
   ·refine go [.f,.l,.b,.N] ?_;exact bV 65 [63,64,65] (bY g18 _ undef) Kg18
   ·refine go [.x,.x,.x] ?_;exact bX 65 [63,64,65] (bU g18 undef _) Kg18
  refine qq (Qt.aG rfl rfl rfl) ?_;refine go [.a,.Z] ?_;refine aQ 2 ?_;simp only[bi,ax,reduceIte,Nat.reduceEqDiff];congr 2;rw[Bool.eq_iff_iff];simp[ec,lQ,place,ek, *]
  try omega
 try simp only[ah]at c16
 refine go [.R,.b,.N,.a,.Z] ?_;refine cd (λc19=>?_) λc19=>?_
 ·try simp only[ah]at c19
  refine go [.R,.f,.l,.N] ?_;refine cv call226 rfl rfl (dJ _) ?_;refine go [.N,.m] ?_;apply aB.cut 3
  ·intro Kg20;refine aB.split 72 rfl (λg20=>?_) (λg20=>?_)
   ·refine go [.f,.l,.N] ?_;refine aB.step rfl g20 (aE.aC rfl (by decide) call227 rfl rfl (ko _)) ?_;refine go [.N] ?_;exact bV 75 [73,74,75] (bY g20 _ undef) Kg20
   ·refine go [.x,.x,.x] ?_;exact bX 75 [73,74,75] (bU g20 undef _) Kg20
  refine qq (Qt.aG rfl rfl rfl) ?_;refine go [.m] ?_;apply aB.cut 3
  ·intro Kg21;refine aB.split 77 rfl (λg21=>?_) (λg21=>?_)
   ·refine go [.f,.N,.l,.b] ?_;exact bV 80 [78,79,80] (bY g21 _ undef) Kg21
   ·refine go [.x,.x,.x] ?_;exact bX 80 [78,79,80] (bU g21 undef _) Kg21
  refine qq (Qt.aG rfl rfl rfl) ?_;refine go [.N,.a,.Z] ?_;refine aQ 2 ?_;simp only[bi,ax,reduceIte,Nat.reduceEqDiff];congr 2;rw[Bool.eq_iff_iff];simp[ec,lQ,place,ek, *]
  try omega
 try simp only[ah]at c19
 refine go [.R,.b,.a,.Z] ?_;refine cd (λc22=>?_) λc22=>?_
 ·try simp only[ah]at c22
  refine go [.R,.f,.N,.l] ?_;refine cv call144 rfl rfl (de _ _ _) ?_;refine go [.N,.m] ?_;apply aB.cut 3
  ·intro Kg23;refine aB.split 87 rfl (λg23=>?_) (λg23=>?_)
   ·refine go [.f,.l,.N,.b] ?_;exact bV 90 [88,89,90] (bY g23 _ undef) Kg23
   ·refine go [.x,.x,.x] ?_;exact bX 90 [88,89,90] (bU g23 undef _) Kg23
  refine qq (Qt.aG rfl rfl rfl) ?_;refine go [.m,.N] ?_;apply aB.cut 3
  ·intro Kg24;refine aB.split 92 rfl (λg24=>?_) (λg24=>?_)
   ·refine go [.f,.l,.b,.N] ?_;exact bV 95 [93,94,95] (bY g24 _ undef) Kg24
   ·refine go [.x,.x,.x] ?_;exact bX 95 [93,94,95] (bU g24 undef _) Kg24
  refine qq (Qt.aG rfl rfl rfl) ?_;refine go [.a,.Z] ?_;refine aQ 2 ?_;simp only[bi,ax,reduceIte,Nat.reduceEqDiff];congr 2;rw[Bool.eq_iff_iff];simp[ec,lQ,place,ek, *]
  try omega
 try simp only[ah]at c22
 refine go [.J,.R,.a,.Z] ?_;refine aQ 2 ?_;simp only[bi,ax,reduceIte,Nat.reduceEqDiff];congr 2;rw[Bool.eq_iff_iff];simp[ec,lQ,place,ek, *]
 try omega
open Go Go.RowKit Go.Proofs Go.Proofs.Tryz
theorem tn(i:cU):a_ prog 191 [.g [.v (iv i.Op),.v (iv i.A),.v (iv i.B),.v (iv i.C)]] [] (λy _=>y= .v (.bool !(ec i))):=by
 refine ob func191 ntmps191 ?_;refine go [.R,.B,.N,.a,.Z,.R,.G] ?_;refine cv call192 rfl rfl (v_ i) ?_;refine go [.N,.n,.a,.Z] ?_;refine aQ 2 ?_;rfl
theorem xN{fid:FuncId}{p:cU→Bool}(hE:lL prog fid)(hp:∀x:cU,a_ prog fid [.g [.v (iv x.Op),.v (iv x.A),.v (iv x.B),.v (iv x.C)]] [] (λy _=>y= .v (.bool (p x))))(l:List cU):a_ prog 225 [.h aa [],.f fid []] [.rt aa .ro (tr l)] (λy _=>y= .v (iv (fq p l))):=by
 refine ob func225 ntmps225 ?_;refine AW.len aa [] rfl (by simp[bT]) rfl (λhl=>?_);refine go [.R,.a,.Z,.R2,.m,.h,.N,.m,.Z] ?_;refine AW.block ?_;refine AW.aL (λi:fo p l=>[.sl 8 (.v (iv i.k)),.sl 7 (.v (iv l.length)),.sl 0 (.h aa []),.sl 1 (.f fid []),.rt aa .ro (tr l)]) (λi=>l.length-i.k) ⟨0,zero_le _,rfl⟩ (ws) ?_;intro i;have hle:=i.le;refine go [.R,.b,.Z] ?_;refine AW.seq ?_;refine cd (λc1=>?_) λc1=>?_
 ·try simp only[ah]at c1
  refine jd (AW.seq (AW.block (sr ?_)));refine go [.m,.N,.a,.Z,.R,.m,.m,.N,.m,.i,.G,.N] ?_;refine cv hE rfl rfl (hp (l.getD i.k En.ab)) ?_;refine go [.Z] ?_;refine cd (λc2=>?_) λc2=>?_
  ·try simp only[ah]at c2
   refine go [.R,.m,.N,.a,.Z] ?_;refine aQ 4 ?_;rw[cZ i En.ab (by omega) c2];rfl
  try simp only[ah]at c2
  refine go [.J,.R1,.b,.m,.Z] ?_;refine⟨⟨i.k+1,by omega,i.next En.ab (by omega) c2⟩,ws,?_⟩;show l.length-(i.k+1)<l.length-i.k;omega
 try simp only[ah]at c1
 refine AW.exit ?_;dsimp only[aD,au,reduceIte];refine go [.R,.a,.Z] ?_;refine aQ 4 ?_;rw[cC i (by omega)];rfl
theorem vG{fid:FuncId}{p:cU→Bool}(hE:lL prog fid)(hp:∀x:cU,a_ prog fid [.g [.v (iv x.Op),.v (iv x.A),.v (iv x.B),.v (iv x.C)]] [] (λy _=>y= .v (.bool (p x))))(l:List cU):a_ prog 190 [.h aa [],.f fid []] [.rt aa .ro (tr l)] (λy _=>y= .v (.bool (l.any p))):=by
 refine ob func190 ntmps190 ?_;refine go [.R,.a,.Z,.R,.m,.m,.N] ?_;refine cv call225 rfl rfl (xN hE hp _) ?_;refine go [.N,.b,.a,.Z] ?_;refine aQ 4 ?_;rw[←gk];rfl
theorem nd(l:List cU):a_ prog 148 [.h aa []] [.rt aa .ro (tr l)] (λy _=>y= .v (.bool (et l))):=by
 refine ob func148 ntmps148 ?_;refine go [.R,.a,.Z,.R,.m,.h,.N,.b,.m] ?_;apply aB.cut 3
 ·intro Kg1;refine aB.split 6 rfl (λg1=>?_) (λg1=>?_)
  ·refine go [.m,.N] ?_;refine aB.step rfl g1 (aE.aC rfl (by decide) call190 rfl rfl (vG call191 (λx=>tn x) _)) ?_;refine go [.N,.n] ?_;exact bV 9 [7,8,9] (bY g1 _ undef) Kg1
  ·refine go [.x,.x,.x] ?_;exact bX 9 [7,8,9] (bU g1 undef _) Kg1
 refine qq (Qt.aG rfl rfl rfl) ?_;refine go [.a,.Z] ?_;refine aQ 2 ?_;simp only[bi,ax,reduceIte,Nat.reduceEqDiff];congr 2;rw[Bool.eq_iff_iff];simp[et];omega
theorem tu(l:List cU):a_ prog 180 [.h aa []] [.rt aa .ro (tr l)] (λy _=>y= .v (.bool (et l))):=by
 refine ob func180 ntmps180 ?_;refine AW.len aa [] rfl (by simp[bT]) rfl (λhl=>?_);refine go [.R,.a,.Z,.R2,.m,.h,.N,.b,.Z] ?_;refine cd (λc1=>?_) λc1=>?_
 ·try simp only[ah]at c1
  refine go [.R,.a,.Z] ?_;refine aQ 2 ?_;rw[show et l=false from by simp only[et,decide_eq_false (show ¬l.length≤40 by omega),Bool.false_and]];rfl
 try simp only[ah]at c1
 refine jd (dq ?_);refine go [.a,.Z] ?_;refine AW.block ?_;refine AW.aL (λi:ft ec l=>[.sl 3 (.v (iv i.k)),.sl 0 (.h aa []),.rt aa .ro (tr l)]) (λi=>l.length-i.k) ⟨0,zero_le _,rfl⟩ (ws) ?_;intro i;have hle:=i.le;refine go [.R2,.m,.N,.m,.h,.b,.Z] ?_;refine cd (λc2=>?_) λc2=>?_
 ·try simp only[ah]at c2
  refine jd (AW.seq (AW.block (sr ?_)));refine go [.m,.N,.m,.i,.G,.N] ?_;refine cv call222 rfl rfl (wE (l.getD i.k En.ab)) ?_;refine go [.N,.n,.Z] ?_;refine cd (λc3=>?_) λc3=>?_
  ·try simp only[ah]at c3
   refine go [.R,.a,.Z] ?_;refine aQ 2 ?_;rw[show et l=false from by simp only[et,i.stop En.ab (by omega) (by simpa using c3),Bool.and_false]];rfl
  try simp only[ah]at c3
  refine go [.J,.R1,.m,.N,.b,.a,.Z] ?_;refine⟨⟨i.k+1,by omega,i.next En.ab (by omega) (by simpa using c3)⟩,ws,?_⟩;show l.length-(i.k+1)<l.length-i.k;omega
 try simp only[ah]at c2
 refine AW.exit ?_;dsimp only[aD,au,reduceIte];refine go [.R,.a,.Z] ?_;refine aQ 2 ?_;rw[show et l=true from by simp only[et,i.full (by omega),decide_eq_true (show l.length≤40 by omega),Bool.and_true]];rfl
end Go.Proofs.YtekcnnngjoonbaaGreat.VM

