/- Contracts. No conditions. -/
import Derived.Test.YtekcnnngjoonbaaGreatWf
set_option linter.all false
set_option maxHeartbeats 8000000
set_option maxRecDepth 10000
namespace Go.Proofs.YtekcnnngjoonbaaGreat.VM
open List Nat
open Go Go.RowKit Go.Proofs
set_option maxHeartbeats 4000000 in
set_option maxRecDepth 10000 in
theorem dW(x lo hi:Int):bf Tryz.prog 144 [.v (iv x), .v (iv lo), .v (iv hi)] [] (λy _=>y= .v (.bool (decide (lo≤x)&&decide (x≤hi)))):=by
 refine ob Tryz.func144 Tryz.ntmps144 ?_;refine go [.R,.a,.Z,.R,.m,.m,.N,.b,.m] (k:=?_);apply az.cut 3
 ·intro Kg1;refine az.split 10 rfl (λg1=>?_) (λg1=>?_)
  ·refine go [.m,.N,.m,.b] (k:=?_);exact bZ 13 [11,12,13] (b6 g1 _ undef) Kg1
  ·refine go [.x,.x,.x] (k:=?_);exact bX 13 [11,12,13] (bY g1 undef _) Kg1
 refine qq (Qt.aD rfl rfl rfl) ?_;refine go [.N,.a,.Z] (k:=?_);refine aM 6 ?_;rfl
set_option maxHeartbeats 4000000 in
set_option maxRecDepth 10000 in
theorem cY(x lo hi:Int):bf Tryz.prog 135 [.v (iv x), .v (iv lo), .v (iv hi)] [] (λy _=>y= .v (.bool (decide (lo≤x)&&decide (x≤hi)))):=by
 refine ob Tryz.func135 Tryz.ntmps135 ?_;refine go [.R,.a,.Z,.R,.m,.m,.N,.b,.m] (k:=?_);apply az.cut 3
 ·intro Kg1;refine az.split 10 rfl (λg1=>?_) (λg1=>?_)
  ·refine go [.m,.N,.m,.b] (k:=?_);exact bZ 13 [11,12,13] (b6 g1 _ undef) Kg1
  ·refine go [.x,.x,.x] (k:=?_);exact bX 13 [11,12,13] (bY g1 undef _) Kg1
 refine qq (Qt.aD rfl rfl rfl) ?_;refine go [.N,.a,.Z] (k:=?_);refine aM 6 ?_;rfl
def eI(x:Int):Bool:=decide (-1000000≤x)&&decide (x≤1000000)
set_option maxHeartbeats 4000000 in
set_option maxRecDepth 10000 in
theorem kb(x:Int):bf Tryz.prog 227 [.v (iv x)] [] (λy _=>y= .v (.bool (decide (0≤x)&&decide (x≤40)))):=by
 refine ob Tryz.func227 Tryz.ntmps227 ?_;refine go [.R,.a,.Z,.R,.m] (k:=?_);refine cv Tryz.call144 rfl rfl (dW _ _ _) ?_;refine go [.N,.a,.Z] (k:=?_);refine aM 2 ?_;rfl
set_option maxHeartbeats 4000000 in
set_option maxRecDepth 10000 in
theorem lx(x:Int):bf Tryz.prog 188 [.v (iv x)] [] (λy _=>y= .v (.bool (eI x))):=by
 refine ob Tryz.func188 Tryz.ntmps188 ?_;refine go [.R,.a,.Z,.R,.m] (k:=?_);refine cv Tryz.call144 rfl rfl (dW _ _ _) ?_;refine go [.N,.a,.Z] (k:=?_);refine aM 2 ?_;rfl
set_option maxHeartbeats 4000000 in
set_option maxRecDepth 10000 in
theorem nR(x:Int):bf Tryz.prog 181 [.v (iv x)] [] (λy _=>y= .v (.bool (eI x))):=by
 refine ob Tryz.func181 Tryz.ntmps181 ?_;refine go [.R,.a,.Z,.R,.m] (k:=?_);refine cv Tryz.call135 rfl rfl (cY _ _ _) ?_;refine go [.N,.a,.Z] (k:=?_);refine aM 2 ?_;rfl
set_option maxHeartbeats 4000000 in
set_option maxRecDepth 10000 in
theorem qw(x:Int):bf Tryz.prog 187 [.v (iv x)] [] (λy _=>y= .v (.bool !(eI x))):=by
 refine ob Tryz.func187 Tryz.ntmps187 ?_;refine go [.R,.a,.Z,.R,.m] (k:=?_);refine cv Tryz.call188 rfl rfl (lx _) ?_;refine go [.N,.n,.a,.Z] (k:=?_);refine aM 2 ?_;rfl
set_option maxHeartbeats 4000000 in
set_option maxRecDepth 10000 in
theorem eV(l:List Int):bf Tryz.prog 137 [.h aa []] [.rt aa .ro (tr l)] (λy _=>y= .v (.bool (l.all eI))):=by
 refine ob Tryz.func137 Tryz.ntmps137 ?_;refine AW.len aa [] rfl (by simp[ck]) rfl (λhl=>?_);refine go [.R,.a,.Z,.R2,.a,.Z] (k:=?_);refine AW.block ?_;refine AW.bw (λi:fx eI l=>[.sl 3 (.v (iv i.k)), .sl 0 (.h aa []), .rt aa .ro (tr l)]) (λi=>l.length-i.k) ⟨0,zero_le _,rfl⟩ (ws) ?_;intro i;have hle:=i.le;refine go [.R2,.m,.N,.m,.h,.b,.Z] (k:=?_);refine cd (λc1=>?_) λc1=>?_
 ·try simp only[ai]at c1
  refine jd (AW.seq (AW.block (sr ?_)));refine go [.m,.N,.m,.i,.l,.N] (k:=?_);refine cv Tryz.call181 rfl rfl (nR _) ?_;refine go [.N,.n,.Z] (k:=?_);refine cd (λc2=>?_) λc2=>?_
  ·try simp only[ai]at c2
   refine go [.R,.a,.Z] (k:=?_);refine aM 2 ?_;rw[show l.all eI=false from i.stop En.ab (by omega) (by simpa using c2)];rfl
  try simp only[ai]at c2
  refine go [.J,.R1,.m,.N,.b,.a,.Z] (k:=?_);refine⟨⟨i.k+1,by omega,i.next En.ab (by omega) (by simpa using c2)⟩,ws,?_⟩;show l.length-(i.k+1)<l.length-i.k;omega
 try simp only[ai]at c1
 refine AW.exit ?_;dsimp only[aJ,ay,reduceIte];refine go [.R,.a,.Z] (k:=?_);refine aM 2 ?_;rw[show l.all eI=true from i.full (by omega)];rfl
theorem yt{fid:FuncId}{p:Int→Bool}(hE:l4 Tryz.prog fid)(hp:∀x:Int,bf Tryz.prog fid [.v (iv x)] [] (λy _=>y= .v (.bool (p x))))(l:List Int):bf Tryz.prog 168 [.h aa [], .f fid []] [.rt aa .ro (tr l)] (λy _=>y= .v (iv (gg p l))):=by
 refine ob Tryz.func168 Tryz.ntmps168 ?_;refine AW.len aa [] rfl (by simp[ck]) rfl (λhl=>?_);refine go [.R,.a,.Z,.R2,.m,.h,.N,.m,.Z] (k:=?_);refine AW.block ?_;refine AW.bw (λi:fw p l=>[.sl 8 (.v (iv i.k)), .sl 7 (.v (iv l.length)), .sl 0 (.h aa []), .sl 1 (.f fid []), .rt aa .ro (tr l)]) (λi=>l.length-i.k) ⟨0,zero_le _,rfl⟩ (ws) ?_;intro i;have hle:=i.le;refine go [.R,.b,.Z] (k:=?_);refine AW.seq ?_;refine cd (λc1=>?_) λc1=>?_
 ·try simp only[ai]at c1
  refine jd (AW.seq (AW.block (sr ?_)));refine go [.m,.N,.a,.Z,.R,.m,.m,.N,.m,.i,.l,.N] (k:=?_);refine cv hE rfl rfl (hp (l.getD i.k En.ab)) ?_;refine go [.Z] (k:=?_);refine cd (λc2=>?_) λc2=>?_
  ·try simp only[ai]at c2
   refine go [.R,.m,.N,.a,.Z] (k:=?_);refine aM 4 ?_;rw[dc i En.ab (by omega) c2];rfl
  try simp only[ai]at c2
  refine go [.J,.R1,.b,.m,.Z] (k:=?_);refine⟨⟨i.k+1,by omega,i.next En.ab (by omega) c2⟩,ws,?_⟩;show l.length-(i.k+1)<l.length-i.k;omega
 try simp only[ai]at c1
 refine AW.exit ?_;dsimp only[aJ,ay,reduceIte];refine go [.R,.a,.Z] (k:=?_);refine aM 4 ?_;rw[cD i (by omega)];rfl
theorem nU{fid:FuncId}{p:Int→Bool}(hE:l4 Tryz.prog fid)(hp:∀x:Int,bf Tryz.prog fid [.v (iv x)] [] (λy _=>y= .v (.bool (p x))))(l:List Int):bf Tryz.prog 110 [.h aa [], .f fid []] [.rt aa .ro (tr l)] (λy _=>y= .v (.bool (l.any p))):=by
 refine ob Tryz.func110 Tryz.ntmps110 ?_;refine go [.R,.a,.Z,.R,.m,.m,.N] (k:=?_);refine cv Tryz.call168 rfl rfl (yt hE hp _) ?_;refine go [.N,.b,.a,.Z] (k:=?_);refine aM 4 ?_;rw[←gx];rfl
set_option maxHeartbeats 4000000 in
set_option maxRecDepth 10000 in
theorem cl(l:List Int):bf Tryz.prog 145 [.h aa []] [.rt aa .ro (tr l)] (λy _=>y= .v (.bool (l.all eI))):=by
 refine ob Tryz.func145 Tryz.ntmps145 ?_;refine go [.R,.a,.Z,.R,.m] (k:=?_);refine cv Tryz.call110 rfl rfl (nU Tryz.call187 (λx=>qw x) l) ?_;refine go [.N,.n,.a,.Z] (k:=?_);refine aM 2 ?_;rw[show l.all eI= !(l.any λx=> !eI x)from by rw[Bool.eq_iff_iff];simp];rfl
set_option maxHeartbeats 4000000 in
set_option maxRecDepth 10000 in
theorem uw(pc:Int)(l:List Int):bf Tryz.prog 182 [.g [.v (iv pc), .h aa []]] [.rt aa .ro (tr l)] (λy _=>y= .v (.bool (decide (0≤pc)&&decide (pc≤40)&&(l.length==4&&l.all eI)))):=by
 refine ob Tryz.func182 Tryz.ntmps182 ?_;refine go [.R,.B,.N,.a,.Z,.R,.f,.l,.N] (k:=?_);refine cv Tryz.call135 rfl rfl (cY _ _ _) ?_;refine go [.N,.m] (k:=?_);apply az.cut 4
 ·intro Kg1;refine az.split 6 rfl (λg1=>?_) (λg1=>?_)
  ·refine go [.f,.l,.N,.h,.b] (k:=?_);exact bZ 10 [7,8,9,10] (b6 g1 _ undef) Kg1
  ·refine go [.x,.x,.x,.x] (k:=?_);exact bX 10 [7,8,9,10] (bY g1 undef _) Kg1
 refine qq (Qt.aD rfl rfl rfl) ?_;refine go [.N,.m] (k:=?_);apply az.cut 3
 ·intro Kg2;refine az.split 12 rfl (λg2=>?_) (λg2=>?_)
  ·refine go [.f,.l,.N] (k:=?_);refine az.step rfl g2 (aK.aL rfl (by decide) Tryz.call137 rfl rfl (eV _)) ?_;refine go [.N] (k:=?_);exact bZ 15 [13,14,15] (b6 g2 _ undef) Kg2
  ·refine go [.x,.x,.x] (k:=?_);exact bX 15 [13,14,15] (bY g2 undef _) Kg2
 refine qq (Qt.aD rfl rfl rfl) ?_;refine go [.a,.Z] (k:=?_);refine aM 2 ?_;have e:((l.length:Int)==4)=(l.length==4):=by rw[Bool.eq_iff_iff];simp;omega
 simp only[bj,aA,reduceIte,Nat.reduceEqDiff,←e,Bool.and_assoc]
set_option maxHeartbeats 4000000 in
set_option maxRecDepth 10000 in
theorem um(pc:Int)(l:List Int):bf Tryz.prog 193 [.g [.v (iv pc), .h aa []]] [.rt aa .ro (tr l)] (λy _=>y= .v (.bool (decide (0≤pc)&&decide (pc≤40)&&(l.length==4&&l.all eI)))):=by
 refine ob Tryz.func193 Tryz.ntmps193 ?_;refine go [.R,.B,.N,.a,.Z,.R,.f,.l,.N] (k:=?_);refine cv Tryz.call227 rfl rfl (kb _) ?_;refine go [.N,.m] (k:=?_);apply az.cut 4
 ·intro Kg1;refine az.split 6 rfl (λg1=>?_) (λg1=>?_)
  ·refine go [.f,.l,.N,.h,.b] (k:=?_);exact bZ 10 [7,8,9,10] (b6 g1 _ undef) Kg1
  ·refine go [.x,.x,.x,.x] (k:=?_);exact bX 10 [7,8,9,10] (bY g1 undef _) Kg1
 refine qq (Qt.aD rfl rfl rfl) ?_;refine go [.N,.m] (k:=?_);apply az.cut 3
 ·intro Kg2;refine az.split 12 rfl (λg2=>?_) (λg2=>?_)
  ·refine go [.f,.l,.N] (k:=?_);refine az.step rfl g2 (aK.aL rfl (by decide) Tryz.call145 rfl rfl (cl _)) ?_;refine go [.N] (k:=?_);exact bZ 15 [13,14,15] (b6 g2 _ undef) Kg2
  ·refine go [.x,.x,.x] (k:=?_);exact bX 15 [13,14,15] (bY g2 undef _) Kg2
 refine qq (Qt.aD rfl rfl rfl) ?_;refine go [.a,.Z] (k:=?_);refine aM 2 ?_;have e:((l.length:Int)==4)=(l.length==4):=by rw[Bool.eq_iff_iff];simp;omega
 simp only[bj,aA,reduceIte,Nat.reduceEqDiff,←e,Bool.and_assoc]
end Go.Proofs.YtekcnnngjoonbaaGreat.VM

