/- Contracts. No conditions. -/
import Derived.Test.YtekcnnngjoonbaaGreatWf
set_option linter.all false
set_option maxHeartbeats 8000000
set_option maxRecDepth 10000
namespace Go.Proofs.YtekcnnngjoonbaaGreat.VM
open List Nat
open Go Go.RowKit Go.Proofs Go.Proofs.Tryz
theorem de(x lo hi:Int):a_ prog 144 [.v (iv x),.v (iv lo),.v (iv hi)] [] (λy _=>y= .v (.bool (decide (lo≤x)&&decide (x≤hi)))):=by
 refine ob func144 ntmps144 ?_;refine go [.R,.a,.Z,.R,.m,.m,.N,.b,.m] ?_;apply aB.cut 3
 ·intro Kg1;refine aB.split 10 rfl (λg1=>?_) (λg1=>?_)
  ·refine go [.m,.N,.m,.b] ?_;exact bV 13 [11,12,13] (bY g1 _ undef) Kg1
  ·refine go [.x,.x,.x] ?_;exact bX 13 [11,12,13] (bU g1 undef _) Kg1
 refine qq (Qt.aG rfl rfl rfl) ?_;refine go [.N,.a,.Z] ?_;refine aQ 6 ?_;rfl
theorem cD(x lo hi:Int):a_ prog 135 [.v (iv x),.v (iv lo),.v (iv hi)] [] (λy _=>y= .v (.bool (decide (lo≤x)&&decide (x≤hi)))):=by
 refine ob func135 ntmps135 ?_;refine go [.R,.a,.Z,.R,.m,.m,.N,.b,.m] ?_;apply aB.cut 3
 ·intro Kg1;refine aB.split 10 rfl (λg1=>?_) (λg1=>?_)
  ·refine go [.m,.N,.m,.b] ?_;exact bV 13 [11,12,13] (bY g1 _ undef) Kg1
  ·refine go [.x,.x,.x] ?_;exact bX 13 [11,12,13] (bU g1 undef _) Kg1
 refine qq (Qt.aG rfl rfl rfl) ?_;refine go [.N,.a,.Z] ?_;refine aQ 6 ?_;rfl
def ek(x:Int):Bool:=decide (-1000000≤x)&&decide (x≤1000000)
theorem ko(x:Int):a_ prog 227 [.v (iv x)] [] (λy _=>y= .v (.bool (decide (0≤x)&&decide (x≤40)))):=by
 refine ob func227 ntmps227 ?_;refine go [.R,.a,.Z,.R,.m] ?_;refine cv call144 rfl rfl (de _ _ _) ?_;refine go [.N,.a,.Z] ?_;refine aQ 2 ?_;rfl
theorem lr(x:Int):a_ prog 188 [.v (iv x)] [] (λy _=>y= .v (.bool (ek x))):=by
 refine ob func188 ntmps188 ?_;refine go [.R,.a,.Z,.R,.m] ?_;refine cv call144 rfl rfl (de _ _ _) ?_;refine go [.N,.a,.Z] ?_;refine aQ 2 ?_;rfl
theorem oY(x:Int):a_ prog 181 [.v (iv x)] [] (λy _=>y= .v (.bool (ek x))):=by
 refine ob func181 ntmps181 ?_;refine go [.R,.a,.Z,.R,.m] ?_;refine cv call135 rfl rfl (cD _ _ _) ?_;refine go [.N,.a,.Z] ?_;refine aQ 2 ?_;rfl
theorem sh(x:Int):a_ prog 187 [.v (iv x)] [] (λy _=>y= .v (.bool !(ek x))):=by
 refine ob func187 ntmps187 ?_;refine go [.R,.a,.Z,.R,.m] ?_;refine cv call188 rfl rfl (lr _) ?_;refine go [.N,.n,.a,.Z] ?_;refine aQ 2 ?_;rfl
theorem eS(l:List Int):a_ prog 137 [.h aa []] [.rt aa .ro (tr l)] (λy _=>y= .v (.bool (l.all ek))):=by
 refine ob func137 ntmps137 ?_;refine AW.len aa [] rfl (by simp[bT]) rfl (λhl=>?_);refine go [.R,.a,.Z,.R2,.a,.Z] ?_;refine AW.block ?_;refine AW.aL (λi:ft ek l=>[.sl 3 (.v (iv i.k)),.sl 0 (.h aa []),.rt aa .ro (tr l)]) (λi=>l.length-i.k) ⟨0,zero_le _,rfl⟩ (ws) ?_;intro i;have hle:=i.le;refine go [.R2,.m,.N,.m,.h,.b,.Z] ?_;refine cd (λc1=>?_) λc1=>?_
 ·try simp only[ah]at c1
  refine jd (AW.seq (AW.block (sr ?_)));refine go [.m,.N,.m,.i,.l,.N] ?_;refine cv call181 rfl rfl (oY _) ?_;refine go [.N,.n,.Z] ?_;refine cd (λc2=>?_) λc2=>?_
  ·try simp only[ah]at c2
   refine go [.R,.a,.Z] ?_;refine aQ 2 ?_;rw[show l.all ek=false from i.stop En.ab (by omega) (by simpa using c2)];rfl
  try simp only[ah]at c2
  refine go [.J,.R1,.m,.N,.b,.a,.Z] ?_;refine⟨⟨i.k+1,by omega,i.next En.ab (by omega) (by simpa using c2)⟩,ws,?_⟩;show l.length-(i.k+1)<l.length-i.k;omega
 try simp only[ah]at c1
 refine AW.exit ?_;dsimp only[aD,au,reduceIte];refine go [.R,.a,.Z] ?_;refine aQ 2 ?_;rw[show l.all ek=true from i.full (by omega)];rfl
theorem A0{fid:FuncId}{p:Int→Bool}(hE:lL prog fid)(hp:∀x:Int,a_ prog fid [.v (iv x)] [] (λy _=>y= .v (.bool (p x))))(l:List Int):a_ prog 168 [.h aa [],.f fid []] [.rt aa .ro (tr l)] (λy _=>y= .v (iv (fq p l))):=by
 refine ob func168 ntmps168 ?_;refine AW.len aa [] rfl (by simp[bT]) rfl (λhl=>?_);refine go [.R,.a,.Z,.R2,.m,.h,.N,.m,.Z] ?_;refine AW.block ?_;refine AW.aL (λi:fo p l=>[.sl 8 (.v (iv i.k)),.sl 7 (.v (iv l.length)),.sl 0 (.h aa []),.sl 1 (.f fid []),.rt aa .ro (tr l)]) (λi=>l.length-i.k) ⟨0,zero_le _,rfl⟩ (ws) ?_;intro i;have hle:=i.le;refine go [.R,.b,.Z] ?_;refine AW.seq ?_;refine cd (λc1=>?_) λc1=>?_
 ·try simp only[ah]at c1
  refine jd (AW.seq (AW.block (sr ?_)));refine go [.m,.N,.a,.Z,.R,.m,.m,.N,.m,.i,.l,.N] ?_;refine cv hE rfl rfl (hp (l.getD i.k En.ab)) ?_;refine go [.Z] ?_;refine cd (λc2=>?_) λc2=>?_
  ·try simp only[ah]at c2
   refine go [.R,.m,.N,.a,.Z] ?_;refine aQ 4 ?_;rw[cZ i En.ab (by omega) c2];rfl
  try simp only[ah]at c2
  refine go [.J,.R1,.b,.m,.Z] ?_;refine⟨⟨i.k+1,by omega,i.next En.ab (by omega) c2⟩,ws,?_⟩;show l.length-(i.k+1)<l.length-i.k;omega
 try simp only[ah]at c1
 refine AW.exit ?_;dsimp only[aD,au,reduceIte];refine go [.R,.a,.Z] ?_;refine aQ 4 ?_;rw[cC i (by omega)];rfl
theorem oL{fid:FuncId}{p:Int→Bool}(hE:lL prog fid)(hp:∀x:Int,a_ prog fid [.v (iv x)] [] (λy _=>y= .v (.bool (p x))))(l:List Int):a_ prog 110 [.h aa [],.f fid []] [.rt aa .ro (tr l)] (λy _=>y= .v (.bool (l.any p))):=by
 refine ob func110 ntmps110 ?_;refine go [.R,.a,.Z,.R,.m,.m,.N] ?_;refine cv call168 rfl rfl (A0 hE hp _) ?_;refine go [.N,.b,.a,.Z] ?_;refine aQ 4 ?_;rw[←gk];rfl
theorem cg(l:List Int):a_ prog 145 [.h aa []] [.rt aa .ro (tr l)] (λy _=>y= .v (.bool (l.all ek))):=by
 refine ob func145 ntmps145 ?_;refine go [.R,.a,.Z,.R,.m] ?_;refine cv call110 rfl rfl (oL call187 (λx=>sh x) l) ?_;refine go [.N,.n,.a,.Z] ?_;refine aQ 2 ?_;rw[show l.all ek= !(l.any λx=> !ek x)from by rw[Bool.eq_iff_iff];simp];rfl
theorem v7(pc:Int)(l:List Int):a_ prog 182 [.g [.v (iv pc),.h aa []]] [.rt aa .ro (tr l)] (λy _=>y= .v (.bool (decide (0≤pc)&&decide (pc≤40)&&(l.length==4&&l.all ek)))):=by
 refine ob func182 ntmps182 ?_;refine go [.R,.B,.N,.a,.Z,.R,.f,.l,.N] ?_;refine cv call135 rfl rfl (cD _ _ _) ?_;refine go [.N,.m] ?_;apply aB.cut 4
 ·intro Kg1;refine aB.split 6 rfl (λg1=>?_) (λg1=>?_)
  ·refine go [.f,.l,.N,.h,.b] ?_;exact bV 10 [7,8,9,10] (bY g1 _ undef) Kg1
  ·refine go [.x,.x,.x,.x] ?_;exact bX 10 [7,8,9,10] (bU g1 undef _) Kg1
 refine qq (Qt.aG rfl rfl rfl) ?_;refine go [.N,.m] ?_;apply aB.cut 3
 ·intro Kg2;refine aB.split 12 rfl (λg2=>?_) (λg2=>?_)
  ·refine go [.f,.l,.N] ?_;refine aB.step rfl g2 (aE.aC rfl (by decide) call137 rfl rfl (eS _)) ?_;refine go [.N] ?_;exact bV 15 [13,14,15] (bY g2 _ undef) Kg2
  ·refine go [.x,.x,.x] ?_;exact bX 15 [13,14,15] (bU g2 undef _) Kg2
 refine qq (Qt.aG rfl rfl rfl) ?_;refine go [.a,.Z] ?_;refine aQ 2 ?_;have e:((l.length:Int)==4)=(l.length==4):=by rw[Bool.eq_iff_iff];simp;omega
 simp only[bi,ax,reduceIte,Nat.reduceEqDiff,←e,Bool.and_assoc]
theorem wh(pc:Int)(l:List Int):a_ prog 193 [.g [.v (iv pc),.h aa []]] [.rt aa .ro (tr l)] (λy _=>y= .v (.bool (decide (0≤pc)&&decide (pc≤40)&&(l.length==4&&l.all ek)))):=by
 refine ob func193 ntmps193 ?_;refine go [.R,.B,.N,.a,.Z,.R,.f,.l,.N] ?_;refine cv call227 rfl rfl (ko _) ?_;refine go [.N,.m] ?_;apply aB.cut 4
 ·intro Kg1;refine aB.split 6 rfl (λg1=>?_) (λg1=>?_)
  ·refine go [.f,.l,.N,.h,.b] ?_;exact bV 10 [7,8,9,10] (bY g1 _ undef) Kg1
  ·refine go [.x,.x,.x,.x] ?_;exact bX 10 [7,8,9,10] (bU g1 undef _) Kg1
 refine qq (Qt.aG rfl rfl rfl) ?_;refine go [.N,.m] ?_;apply aB.cut 3
 ·intro Kg2;refine aB.split 12 rfl (λg2=>?_) (λg2=>?_)
  ·refine go [.f,.l,.N] ?_;refine aB.step rfl g2 (aE.aC rfl (by decide) call145 rfl rfl (cg _)) ?_;refine go [.N] ?_;exact bV 15 [13,14,15] (bY g2 _ undef) Kg2
  ·refine go [.x,.x,.x] ?_;exact bX 15 [13,14,15] (bU g2 undef _) Kg2
 refine qq (Qt.aG rfl rfl rfl) ?_;refine go [.a,.Z] ?_;refine aQ 2 ?_;have e:((l.length:Int)==4)=(l.length==4):=by rw[Bool.eq_iff_iff];simp;omega
 simp only[bi,ax,reduceIte,Nat.reduceEqDiff,←e,Bool.and_assoc]
open Go Go.RowKit Go.Proofs Go.Proofs.Tryz
theorem cR(n:Int):a_ prog 214 [.v (iv n)] [] (λy _=>y= .v (.string (bt n))):=by
 refine ob func214 ntmps214 ?_;refine go [.R,.a,.Z,.R2,.m] ?_;refine cv call144 rfl rfl (de _ _ _) ?_;refine go [.N,.n,.Z] ?_;refine cd (λc1=>?_) λc1=>?_
 ·try simp only[ah]at c1
  refine go [.R,.a,.Z] ?_;refine aQ 2 ?_;rw[show bt n=ByteArray.empty from by unfold bt tM;rw[if_neg (by omega)];rfl];rfl
 try simp only[ah]at c1
 refine go [.J,.R,.S,.N,.a,.Z] ?_;refine AW.seq (AW.block ?_);refine AW.aL (λi:zE n.toNat=>[.sl 0 (.v (iv i.k)),.sl 3 (.h 7 []),.rt 7 .row (tr i.acc)]) (λi=>i.k) ⟨7,n.toNat,[],by omega,by omega,by rw[show(128:Nat) ^ 7=562949953421312 by decide];omega,by simp,rfl⟩ (ar.bb ⟨(by simp only[ax,reduceIte,Nat.reduceEqDiff];congr 2;omega),rfl,⟨_,rfl,bK⟩,trivial⟩ rfl rfl) ?_;intro i;have hk7:=wP i.f7 i.kl;have hal:=i.al;have hf1:=i.f1;refine go [.R2,.m,.b,.Z] ?_;refine cd (λc2=>?_) λc2=>?_
 ·try simp only[ah]at c2
  refine jd (AW.block (sr ?_));refine go [.m,.N,.m] ?_;refine qq (Qt.binOp rfl rfl (ze _ (by omega))) ?_;refine qq (Qt.binOp rfl rfl (AR _)) ?_;refine go [.N] ?_;refine qq (Qt.cO rfl rfl underlying5) ?_;refine go [.S,.N] ?_;refine sp (by first|exact aE.bN rfl (by decide) (by decide) rfl rfl (by omega)|exact aE.bc rfl (by decide) (by decide) rfl rfl rfl (by omega)) ?_;refine aB.bB 16 (tr (i.acc++[(UInt8.ofNat (128+i.k%128))])) rfl (lV (nX (by omega)) rfl) ?_;refine go [.N,.a,.Z,.R1,.m] ?_;refine qq (Qt.binOp rfl rfl (Cd _)) ?_;refine go [.N,.a,.Z] ?_;obtain⟨hf2,hk2⟩:=ug i.f1 i.kl (by omega);refine⟨⟨i.f-1,i.k / 128,i.acc++[(UInt8.ofNat (128+i.k%128))],by omega,by omega,hk2,by simp;omega,by rw[←i.eq,uR i.f1 (by omega)];simp⟩,ar.trans (ar.ke (a:=16) (b:=7) rfl (by decide) (by decide)) (ar.bb ⟨rfl,rfl,⟨_,rfl,aw⟩,trivial⟩ rfl rfl),?_⟩;dsimp only;omega
 try simp only[ah]at c2
 refine AW.exit ?_;dsimp only[aD,au,reduceIte];refine go [.R,.m,.m,.N] ?_;refine qq (Qt.cO rfl rfl underlying5) ?_;refine go [.S,.N] ?_;refine sp (by first|exact aE.bN rfl (by decide) (by decide) rfl rfl (by omega)|exact aE.bc rfl (by decide) (by decide) rfl rfl rfl (by omega)) ?_;refine aB.bB 23 (tr (i.acc++[UInt8.ofNat i.k])) rfl (lV (nX (by omega)) rfl) ?_;refine go [.N] ?_;refine qq (Qt.se rfl rfl rfl underlying216 underlying5 underlying9) ?_;refine go [.a,.Z] ?_;refine aQ 2 ?_;rw[show bt n=⟨(i.acc++[UInt8.ofNat i.k]).toArray⟩from by unfold bt tM;rw[if_pos (by omega),←i.eq,oP i.f1 (by omega)]];rfl
theorem bA(n:Int):a_ prog 208 [.v (iv n)] [] (λy _=>y= .v (.string (bt n))):=by
 refine ob func208 ntmps208 ?_;refine go [.R,.a,.Z,.R2,.m] ?_;refine cv call135 rfl rfl (cD _ _ _) ?_;refine go [.N,.n,.Z] ?_;refine cd (λc1=>?_) λc1=>?_
 ·try simp only[ah]at c1
  refine go [.R,.a,.Z] ?_;refine aQ 2 ?_;rw[show bt n=ByteArray.empty from by unfold bt tM;rw[if_neg (by omega)];rfl];rfl
 try simp only[ah]at c1
 refine go [.J,.R,.S,.N,.a,.Z] ?_;refine AW.seq (AW.block ?_);refine AW.aL (λi:zE n.toNat=>[.sl 0 (.v (iv i.k)),.sl 3 (.h 7 []),.rt 7 .row (tr i.acc)]) (λi=>i.k) ⟨7,n.toNat,[],by omega,by omega,by rw[show(128:Nat) ^ 7=562949953421312 by decide];omega,by simp,rfl⟩ (ar.bb ⟨(by simp only[ax,reduceIte,Nat.reduceEqDiff];congr 2;omega),rfl,⟨_,rfl,bK⟩,trivial⟩ rfl rfl) ?_;intro i;have hk7:=wP i.f7 i.kl;have hal:=i.al;have hf1:=i.f1;refine go [.R2,.m,.b,.Z] ?_;refine cd (λc2=>?_) λc2=>?_
 ·try simp only[ah]at c2
  refine jd (AW.block (sr ?_));refine go [.m,.N,.m] ?_;refine qq (Qt.binOp rfl rfl (zN _)) ?_;refine go [.b,.N] ?_;refine qq (Qt.cO rfl rfl underlying5) ?_;refine go [.S,.N] ?_;refine sp (by first|exact aE.bN rfl (by decide) (by decide) rfl rfl (by omega)|exact aE.bc rfl (by decide) (by decide) rfl rfl rfl (by omega)) ?_;refine aB.bB 16 (tr (i.acc++[(UInt8.ofNat (128+i.k%128))])) rfl (lV (zH (n:=128+i.k%128) (by omega) (by omega)) rfl) ?_;refine go [.N,.a,.Z,.R1,.m] ?_;refine qq (Qt.binOp rfl rfl (zl _ (by omega))) ?_;refine go [.N,.a,.Z] ?_;obtain⟨hf2,hk2⟩:=ug i.f1 i.kl (by omega);refine⟨⟨i.f-1,i.k / 128,i.acc++[(UInt8.ofNat (128+i.k%128))],by omega,by omega,hk2,by simp;omega,by rw[←i.eq,uR i.f1 (by omega)];simp⟩,ar.trans (ar.ke (a:=16) (b:=7) rfl (by decide) (by decide)) (ar.bb ⟨rfl,rfl,⟨_,rfl,aw⟩,trivial⟩ rfl rfl),?_⟩;dsimp only;omega
 try simp only[ah]at c2
 refine AW.exit ?_;dsimp only[aD,au,reduceIte];refine go [.R,.m,.m,.N] ?_;refine qq (Qt.cO rfl rfl underlying5) ?_;refine go [.S,.N] ?_;refine sp (by first|exact aE.bN rfl (by decide) (by decide) rfl rfl (by omega)|exact aE.bc rfl (by decide) (by decide) rfl rfl rfl (by omega)) ?_;refine aB.bB 23 (tr (i.acc++[UInt8.ofNat i.k])) rfl (lV (nX (by omega)) rfl) ?_;refine go [.N] ?_;refine qq (Qt.se rfl rfl rfl underlying216 underlying5 underlying9) ?_;refine go [.a,.Z] ?_;refine aQ 2 ?_;rw[show bt n=⟨(i.acc++[UInt8.ofNat i.k]).toArray⟩from by unfold bt tM;rw[if_pos (by omega),←i.eq,oP i.f1 (by omega)]];rfl
end Go.Proofs.YtekcnnngjoonbaaGreat.VM

