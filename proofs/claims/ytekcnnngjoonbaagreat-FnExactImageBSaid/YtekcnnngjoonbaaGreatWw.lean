/- Contracts. No conditions. -/
import Derived.Test.YtekcnnngjoonbaaGreatWf
import Derived.Test.YtekcnnngjoonbaaGreatWj
set_option linter.all false
set_option maxHeartbeats 8000000
set_option maxRecDepth 10000
namespace Go.Proofs.YtekcnnngjoonbaaGreat.VM
open List Nat
open Go Go.RowKit Go.Proofs Go.Proofs.Tryz
def frame(x:Int):Bool:=decide (0≤x)&&decide (x≤15)
theorem Cp(x:Int):(decide (0≤x)&&decide (x<16))=frame x:=by
 unfold frame;congr 2;apply propext;omega
def cN(a:bC):Bool:=a.fx.length==64&&(a.ag.all (λp=>p.bf.all frame)&&a.ak.all (λp=>p.bo.all λc=> !(c.length==0)))
theorem rJ{α:Type}{c c':α→Nat}{d:α}{l:List α}(h:∀x,c x≤c' x):∀k,bD c d l k≤bD c' d l k
 | 0=>Nat.le_refl _
 | k+1=>by simp only[bD];have:=rJ (d:=d) (l:=l) h k;have:=h (l.getD k d);omega
theorem yo(x lo hi:Int):a_ prog 144 [.v (iv x),.v (iv lo),.v (iv hi)] [] (λy _=>y= .v (.bool (decide (lo≤x)&&decide (x≤hi)))):=by
 refine ob func144 ntmps144 ?_;refine sr ?_;refine sx ?_;refine qm ?_;refine mn ?_;refine qb ?_;refine qm ?_;apply aB.cut 3
 ·intro Kg1;refine aB.split 10 rfl (λg1=>?_) (λg1=>?_)
  ·refine qg g1 Qt.move ?_;refine nm ?_;refine qg g1 Qt.move ?_;refine qg g1 (Qt.binOp rfl rfl rfl) ?_;exact bV 13 [11,12,13] (bY g1 _ undef) Kg1
  ·refine og g1 ?_;refine og g1 ?_;refine og g1 ?_;exact bX 13 [11,12,13] (bU g1 undef _) Kg1
 refine qq (Qt.aG rfl rfl rfl) ?_;refine nm ?_;refine qr 6 ?_;rfl
theorem sg(x:Int):a_ prog 94 [.v (iv x)] [] (λy _=>y= .v (.bool (frame x))):=by
 refine ob func94 ntmps94 ?_;refine sr ?_;refine sx ?_;refine qm ?_;refine qb ?_;refine nm ?_;refine qm ?_;apply aB.cut 2
 ·intro Kg1;refine aB.split 5 rfl (λg1=>?_) (λg1=>?_)
  ·refine qg g1 Qt.move ?_;refine qg g1 (Qt.binOp rfl rfl rfl) ?_;refine nm ?_;exact bV 7 [6,7] (bY g1 _ undef) Kg1
  ·refine og g1 ?_;refine og g1 ?_;exact bX 7 [6,7] (bU g1 undef _) Kg1
 refine qq (Qt.aG rfl rfl rfl) ?_;refine qr 2 ?_;rw[←Cp];rfl
theorem ng(x:Int):a_ prog 112 [.v (iv x)] [] (λy _=>y= .v (.bool (frame x))):=by
 refine ob func112 ntmps112 ?_;refine sr ?_;refine sx ?_;refine qm ?_;refine cv call144 rfl rfl (yo _ _ _) ?_;refine nm ?_;refine qr 2 ?_;rfl
theorem AH{fid:FuncId}{p:Int→Bool}(hE:lL prog fid)(hp:∀x:Int,a_ prog fid [.v (iv x)] [] (λy _=>y= .v (.bool (p x))))(l:List Int):a_ prog 168 [.h aa [],.f fid []] [.rt aa .ro (tr l)] (λy _=>y= .v (iv (fq p l))):=by
 refine ob func168 ntmps168 ?_;refine AW.len aa [] rfl (by simp[bT]) rfl (λhl=>?_);refine sr ?_;refine qn ?_;refine dq ?_;refine qm ?_;refine qh kb ?_;refine nm ?_;refine qm ?_;refine nl ?_;refine AW.block ?_;refine AW.aL (λi:fo p l=>[.sl 8 (.v (iv i.k)),.sl 7 (.v (iv l.length)),.sl 0 (.h aa []),.sl 1 (.f fid []),.rt aa .ro (tr l)]) (λi=>l.length-i.k) ⟨0,zero_le _,rfl⟩ (ar.bb ⟨rfl,rfl,rfl,rfl,Rf rfl,trivial⟩ rfl rfl) ?_;intro i;have hle:=i.le;refine sr ?_;refine qb ?_;refine nl ?_;refine AW.seq ?_;refine cd (λc1=>?_) λc1=>?_
 ·try simp only[ah]at c1
  refine jd (AW.seq (AW.block (sr ?_)));refine mn ?_;refine sx ?_;refine qm ?_;refine mn ?_;refine qm ?_;refine qq (ix kb fP) ?_;refine ql DX ?_;refine nm ?_;refine cv hE rfl rfl (hp (l.getD i.k En.ab)) ?_;refine nc (λc2=>?_) λc2=>?_
  ·try simp only[ah]at c2
   refine sr ?_;refine mn ?_;refine qr 4 ?_;rw[cZ i En.ab (by omega) c2];rfl
  try simp only[ah]at c2
  refine jd (AW.region ?_);refine ba ?_;refine qm ?_;refine nl ?_;refine⟨⟨i.k+1,by omega,i.next En.ab (by omega) c2⟩,ar.bb ⟨ew,rfl,rfl,rfl,Rf rfl,trivial⟩ rfl rfl,?_⟩;show l.length-(i.k+1)<l.length-i.k;omega
 try simp only[ah]at c1
 refine AW.exit ?_;dsimp only[aD,au,reduceIte];refine sr ?_;refine qr 4 ?_;rw[cC i (by omega)];rfl
theorem yD{fid:FuncId}{p:Int→Bool}(hE:lL prog fid)(hp:∀x:Int,a_ prog fid [.v (iv x)] [] (λy _=>y= .v (.bool (p x))))(l:List Int):a_ prog 110 [.h aa [],.f fid []] [.rt aa .ro (tr l)] (λy _=>y= .v (.bool (l.any p))):=by
 refine ob func110 ntmps110 ?_;refine sr ?_;refine sx ?_;refine qm ?_;refine mn ?_;refine cv call168 rfl rfl (AH hE hp _) ?_;refine nm ?_;refine qb ?_;refine qr 4 ?_;rw[←gk];rfl
theorem z7{fid:FuncId}{p:(List Int)→Bool}(hE:lL prog fid)(hp:∀x:List Int,a_ prog fid [.h aa []] [.rt aa .ro (tr x)] (λy _=>y= .v (.bool (p x))))(l:List (List Int)):a_ prog 169 [.h aa [],.f fid []] [.rt aa .ro (tr l)] (λy _=>y= .v (iv (fq p l))):=by
 refine ob func169 ntmps169 ?_;refine AW.len aa [] rfl (by simp[bT]) rfl (λhl=>?_);refine sr ?_;refine qn ?_;refine dq ?_;refine qm ?_;refine qh A2 ?_;refine nm ?_;refine qm ?_;refine nl ?_;refine AW.block ?_;refine AW.aL (λi:fo p l=>[.sl 8 (.v (iv i.k)),.sl 7 (.v (iv l.length)),.sl 0 (.h aa []),.sl 1 (.f fid []),.rt aa .ro (tr l)]) (λi=>l.length-i.k) ⟨0,zero_le _,rfl⟩ (ar.bb ⟨rfl,rfl,rfl,rfl,Rf rfl,trivial⟩ rfl rfl) ?_;intro i;have hle:=i.le;refine sr ?_;refine qb ?_;refine nl ?_;refine AW.seq ?_;refine cd (λc1=>?_) λc1=>?_
 ·try simp only[ah]at c1
  refine jd (AW.seq (AW.block (sr ?_)));refine mn ?_;refine sx ?_;refine qm ?_;refine mn ?_;refine qm ?_;refine qq (ix A2 iP) ?_;refine ql tL ?_;refine nm ?_;refine cv hE rfl rfl (hp (l.getD i.k En.ab)) ?_;refine nc (λc2=>?_) λc2=>?_
  ·try simp only[ah]at c2
   refine sr ?_;refine mn ?_;refine qr 4 ?_;rw[cZ i En.ab (by omega) c2];rfl
  try simp only[ah]at c2
  refine jd (AW.region ?_);refine ba ?_;refine qm ?_;refine nl ?_;refine⟨⟨i.k+1,by omega,i.next En.ab (by omega) c2⟩,ar.bb ⟨ew,rfl,rfl,rfl,Rf rfl,trivial⟩ rfl rfl,?_⟩;show l.length-(i.k+1)<l.length-i.k;omega
 try simp only[ah]at c1
 refine AW.exit ?_;dsimp only[aD,au,reduceIte];refine sr ?_;refine qr 4 ?_;rw[cC i (by omega)];rfl
theorem x8{fid:FuncId}{p:(List Int)→Bool}(hE:lL prog fid)(hp:∀x:List Int,a_ prog fid [.h aa []] [.rt aa .ro (tr x)] (λy _=>y= .v (.bool (p x))))(l:List (List Int)):a_ prog 114 [.h aa [],.f fid []] [.rt aa .ro (tr l)] (λy _=>y= .v (.bool (l.any p))):=by
 refine ob func114 ntmps114 ?_;refine sr ?_;refine sx ?_;refine qm ?_;refine mn ?_;refine cv call169 rfl rfl (z7 hE hp _) ?_;refine nm ?_;refine qb ?_;refine qr 4 ?_;rw[←gk];rfl
theorem yx{fid:FuncId}{p:dy→Bool}(hE:lL prog fid)(hp:∀x:dy,a_ prog fid [.g [.v (iv x.ey),.v (iv x.bM),.v (iv x.State),.v (iv x.dX),.v (iv x.dh.Pc),.h aa [],.h (aa+1) [],.h (aa+2) [],.v (iv x.cJ),.v (iv x.Code)]] [.rt aa .ro (tr x.dh.b_),.rt (aa+1) .ro (tr x.bf),.rt (aa+2) .ro (tr x.cH)] (λy _=>y= .v (.bool (p x))))(l:List dy):a_ prog 167 [.h aa [],.f fid []] [.rt aa .ro (tr l)] (λy _=>y= .v (iv (fq p l))):=by
 refine ob func167 ntmps167 ?_;refine AW.len aa [] rfl (by simp[bT]) rfl (λhl=>?_);refine sr ?_;refine qn ?_;refine dq ?_;refine qm ?_;refine qh zz ?_;refine nm ?_;refine qm ?_;refine nl ?_;refine AW.block ?_;refine AW.aL (λi:fo p l=>[.sl 8 (.v (iv i.k)),.sl 7 (.v (iv l.length)),.sl 0 (.h aa []),.sl 1 (.f fid []),.rt aa .ro (tr l)]) (λi=>l.length-i.k) ⟨0,zero_le _,rfl⟩ (ar.bb ⟨rfl,rfl,rfl,rfl,Rf rfl,trivial⟩ rfl rfl) ?_;intro i;have hle:=i.le;refine sr ?_;refine qb ?_;refine nl ?_;refine AW.seq ?_;refine cd (λc1=>?_) λc1=>?_
 ·try simp only[ah]at c1
  refine jd (AW.seq (AW.block (sr ?_)));refine mn ?_;refine sx ?_;refine qm ?_;refine mn ?_;refine qm ?_;refine qq (ix zz x9) ?_;refine qG B9 x9 ?_;refine nm ?_;refine cv hE rfl rfl (hp (l.getD i.k En.ab)) ?_;refine nc (λc2=>?_) λc2=>?_
  ·try simp only[ah]at c2
   refine sr ?_;refine mn ?_;refine qr 4 ?_;rw[cZ i En.ab (by omega) c2];rfl
  try simp only[ah]at c2
  refine jd (AW.region ?_);refine ba ?_;refine qm ?_;refine nl ?_;refine⟨⟨i.k+1,by omega,i.next En.ab (by omega) c2⟩,ar.bb ⟨ew,rfl,rfl,rfl,Rf rfl,trivial⟩ rfl rfl,?_⟩;show l.length-(i.k+1)<l.length-i.k;omega
 try simp only[ah]at c1
 refine AW.exit ?_;dsimp only[aD,au,reduceIte];refine sr ?_;refine qr 4 ?_;rw[cC i (by omega)];rfl
theorem xK{fid:FuncId}{p:dy→Bool}(hE:lL prog fid)(hp:∀x:dy,a_ prog fid [.g [.v (iv x.ey),.v (iv x.bM),.v (iv x.State),.v (iv x.dX),.v (iv x.dh.Pc),.h aa [],.h (aa+1) [],.h (aa+2) [],.v (iv x.cJ),.v (iv x.Code)]] [.rt aa .ro (tr x.dh.b_),.rt (aa+1) .ro (tr x.bf),.rt (aa+2) .ro (tr x.cH)] (λy _=>y= .v (.bool (p x))))(l:List dy):a_ prog 108 [.h aa [],.f fid []] [.rt aa .ro (tr l)] (λy _=>y= .v (.bool (l.any p))):=by
 refine ob func108 ntmps108 ?_;refine sr ?_;refine sx ?_;refine qm ?_;refine mn ?_;refine cv call167 rfl rfl (yx hE hp _) ?_;refine nm ?_;refine qb ?_;refine qr 4 ?_;rw[←gk];rfl
theorem yt{fid:FuncId}{p:dd→Bool}(hE:lL prog fid)(hp:∀x:dd,a_ prog fid [.g [.v (iv x.Id),.h aa []]] [.rt aa .ro (tr x.bo)] (λy _=>y= .v (.bool (p x))))(l:List dd):a_ prog 157 [.h aa [],.f fid []] [.rt aa .ro (tr l)] (λy _=>y= .v (iv (fq p l))):=by
 refine ob func157 ntmps157 ?_;refine AW.len aa [] rfl (by simp[bT]) rfl (λhl=>?_);refine sr ?_;refine qn ?_;refine dq ?_;refine qm ?_;refine qh zU ?_;refine nm ?_;refine qm ?_;refine nl ?_;refine AW.block ?_;refine AW.aL (λi:fo p l=>[.sl 8 (.v (iv i.k)),.sl 7 (.v (iv l.length)),.sl 0 (.h aa []),.sl 1 (.f fid []),.rt aa .ro (tr l)]) (λi=>l.length-i.k) ⟨0,zero_le _,rfl⟩ (ar.bb ⟨rfl,rfl,rfl,rfl,Rf rfl,trivial⟩ rfl rfl) ?_;intro i;have hle:=i.le;refine sr ?_;refine qb ?_;refine nl ?_;refine AW.seq ?_;refine cd (λc1=>?_) λc1=>?_
 ·try simp only[ah]at c1
  refine jd (AW.seq (AW.block (sr ?_)));refine mn ?_;refine sx ?_;refine qm ?_;refine mn ?_;refine qm ?_;refine qq (ix zU x5) ?_;refine qG BR x5 ?_;refine nm ?_;refine cv hE rfl rfl (hp (l.getD i.k En.ab)) ?_;refine nc (λc2=>?_) λc2=>?_
  ·try simp only[ah]at c2
   refine sr ?_;refine mn ?_;refine qr 4 ?_;rw[cZ i En.ab (by omega) c2];rfl
  try simp only[ah]at c2
  refine jd (AW.region ?_);refine ba ?_;refine qm ?_;refine nl ?_;refine⟨⟨i.k+1,by omega,i.next En.ab (by omega) c2⟩,ar.bb ⟨ew,rfl,rfl,rfl,Rf rfl,trivial⟩ rfl rfl,?_⟩;show l.length-(i.k+1)<l.length-i.k;omega
 try simp only[ah]at c1
 refine AW.exit ?_;dsimp only[aD,au,reduceIte];refine sr ?_;refine qr 4 ?_;rw[cC i (by omega)];rfl
theorem qZ{fid:FuncId}{p:dd→Bool}(hE:lL prog fid)(hp:∀x:dd,a_ prog fid [.g [.v (iv x.Id),.h aa []]] [.rt aa .ro (tr x.bo)] (λy _=>y= .v (.bool (p x))))(l:List dd):a_ prog 84 [.h aa [],.f fid []] [.rt aa .ro (tr l)] (λy _=>y= .v (.bool (l.any p))):=by
 refine ob func84 ntmps84 ?_;refine sr ?_;refine sx ?_;refine qm ?_;refine mn ?_;refine cv call157 rfl rfl (yt hE hp _) ?_;refine nm ?_;refine qb ?_;refine qr 4 ?_;rw[←gk];rfl
theorem sj(x:Int):a_ prog 111 [.v (iv x)] [] (λy _=>y= .v (.bool !(frame x))):=by
 refine ob func111 ntmps111 ?_;refine sr ?_;refine sx ?_;refine qm ?_;refine cv call112 rfl rfl (ng _) ?_;refine nm ?_;refine qq (Qt.xJ rfl) ?_;refine qr 2 ?_;rfl
theorem rI(l:List Int):a_ prog 115 [.h aa []] [.rt aa .ro (tr l)] (λy _=>y= .v (.bool (((l.length:Nat):Int)==0))):=by
 refine ob func115 ntmps115 ?_;refine sr ?_;refine sx ?_;refine qm ?_;refine qh kb ?_;refine nm ?_;refine qb ?_;refine qr 2 ?_;rfl
theorem vd(p:dy):a_ prog 109 [.g [.v (iv p.ey),.v (iv p.bM),.v (iv p.State),.v (iv p.dX),.v (iv p.dh.Pc),.h aa [],.h (aa+1) [],.h (aa+2) [],.v (iv p.cJ),.v (iv p.Code)]] [.rt aa .ro (tr p.dh.b_),.rt (aa+1) .ro (tr p.bf),.rt (aa+2) .ro (tr p.cH)] (λy _=>y= .v (.bool (p.bf.any λf=> !(frame f)))):=by
 refine ob func109 ntmps109 ?_;refine sr ?_;refine bx ?_;refine nm ?_;refine sx ?_;refine qq (fA rl) ?_;refine ql tL ?_;refine nm ?_;refine cv call110 rfl rfl (yD call111 (λx=>sj x) _) ?_;refine nm ?_;refine qr 2 ?_;rfl
theorem uN(p:dd):a_ prog 113 [.g [.v (iv p.Id),.h aa []]] [.rt aa .ro (tr p.bo)] (λy _=>y= .v (.bool (p.bo.any λl=>((l.length:Nat):Int)==0))):=by
 refine ob func113 ntmps113 ?_;refine sr ?_;refine bx ?_;refine nm ?_;refine sx ?_;refine qq (fA rQ) ?_;refine ql AG ?_;refine nm ?_;refine cv call114 rfl rfl (x8 call115 (λx=>rI x) _) ?_;refine nm ?_;refine qr 2 ?_;rfl
theorem DH(l:List dy):(l.any λp=>p.bf.any λf=> !(frame f))= !(l.all λp=>p.bf.all frame):=by
 rw[Bool.eq_iff_iff];simp
theorem D_(l:List dd):(l.any λp=>p.bo.any λl=>((l.length:Nat):Int)==0)= !(l.all λp=>p.bo.all λc=> !(c.length==0)):=by
 rw[Bool.eq_iff_iff];simp

theorem m5(a:bC):a_ prog 35 [.g [.v (iv a.Next),.v (iv a.bp),.h aa [],.h (aa+1) [],.h (aa+2) [],.h (aa+3) [],.h (aa+4) [],.h (aa+5) [],.h (aa+6) [],.h (aa+7) [],.h (aa+8) []]] [.rt aa .ro (tr a.aP),.rt (aa+1) .ro (tr a.ag),.rt (aa+2) .ro (tr a.fx),.rt (aa+3) .ro (tr a.Heap.aZ),.rt (aa+4) .ro (tr a.ao),.rt (aa+5) .ro (tr a.ak),.rt (aa+6) .ro (tr a.ay),.rt (aa+7) .ro (tr a.aN),.rt (aa+8) .ro (tr a.Out)] (λy _=>y= .v (.bool (cN a))):=by
 refine ob func35 ntmps35 ?_;refine sr ?_;refine bx ?_;refine nm ?_;refine qn ?_;refine dq ?_;refine qq (fA wC) ?_;refine ql tL ?_;refine nm ?_;refine qh kb ?_;refine qb ?_;refine nc (λc1=>?_) λc1=>?_
 ·try simp only[ah]at c1
  refine sr ?_;refine qr 2 ?_;rw[show cN a=false from by simp[cN];omega];rfl
 try simp only[ah]at c1
 refine jd (dq ?_);refine qq (fA oA) ?_;refine nm ?_;refine ql zB ?_;refine cv call108 rfl rfl (xK call109 (λx=>vd x) _) ?_;refine nc (λc2=>?_) λc2=>?_
 ·have k2:=c2
  try simp only[ah]at c2
  refine sr ?_;refine qr 2 ?_;rw[show cN a=false from by rw[DH,Bool.not_eq_true']at k2;simp only[cN,k2,Bool.false_and,Bool.and_false]];rfl
 have k2:=c2
 try simp only[ah]at c2
 refine jd (sr ?_);refine qq (fA oD) ?_;refine nm ?_;refine ql z1 ?_;refine cv call84 rfl rfl (qZ call113 (λx=>uN x) _) ?_;refine nm ?_;refine qq (Qt.xJ rfl) ?_;refine qr 2 ?_;rw[show cN a= !(a.ak.any λp=>p.bo.any λl=>((l.length:Nat):Int)==0)from by rw[DH,Bool.not_eq_false']at k2;rw[D_];have hR:(a.fx.length==64)=true:=(by simp;omega);simp only[cN,hR,k2,Bool.true_and,Bool.not_not]];rfl
theorem rE(a:bC):a_ prog 26 [.g [.v (iv a.Next),.v (iv a.bp),.h aa [],.h (aa+1) [],.h (aa+2) [],.h (aa+3) [],.h (aa+4) [],.h (aa+5) [],.h (aa+6) [],.h (aa+7) [],.h (aa+8) []]] [.rt aa .ro (tr a.aP),.rt (aa+1) .ro (tr a.ag),.rt (aa+2) .ro (tr a.fx),.rt (aa+3) .ro (tr a.Heap.aZ),.rt (aa+4) .ro (tr a.ao),.rt (aa+5) .ro (tr a.ak),.rt (aa+6) .ro (tr a.ay),.rt (aa+7) .ro (tr a.aN),.rt (aa+8) .ro (tr a.Out)] (λy _=>y= .v (.bool (cN a))):=by
 refine ob func26 ntmps26 ?_;refine AW.len (aa+1) [] rfl (by simp[bT]) rfl (λhl=>?_);refine AW.len (aa+5) [] rfl (by simp[bT]) rfl (λhl2=>?_);refine sr ?_;refine bx ?_;refine nm ?_;refine qn ?_;refine dq ?_;refine qq (fA wC) ?_;refine ql tL ?_;refine nm ?_;refine qh kb ?_;refine qb ?_;refine nc (λc1=>?_) λc1=>?_
 ·try simp only[ah]at c1
  refine sr ?_;refine qr 2 ?_;rw[show cN a=false from by simp[cN];omega];rfl
 try simp only[ah]at c1
 refine jd (dq ?_);refine qn ?_;refine AW.block ?_;refine AW.aL (λi:ft (λp:dy=>p.bf.all frame) a.ag=>[.sl 3 (.v (iv i.k)),.rt 1 .box (T.s 11 1 λk c=>([(T.v (iv a.Next),none),(T.v (iv a.bp),none),(T.j,none),(T.j,none),(T.j,none),(T.j,none),(T.j,none),(T.j,none),(T.j,none),(T.j,none),(T.j,none)].getD (k*11+c) (T.j,none)).fst),.al 1 2 (.h aa []),.al 1 3 (.h (aa+1) []),.al 1 4 (.h (aa+2) []),.al 1 5 (.h (aa+3) []),.al 1 6 (.h (aa+4) []),.al 1 7 (.h (aa+5) []),.al 1 8 (.h (aa+6) []),.al 1 9 (.h (aa+7) []),.al 1 10 (.h (aa+8) []),.rt aa .ro (tr a.aP),.rt (aa+1) .ro (tr a.ag),.rt (aa+2) .ro (tr a.fx),.rt (aa+3) .ro (tr a.Heap.aZ),.rt (aa+4) .ro (tr a.ao),.rt (aa+5) .ro (tr a.ak),.rt (aa+6) .ro (tr a.ay),.rt (aa+7) .ro (tr a.aN),.rt (aa+8) .ro (tr a.Out),.sl 1 (.p 1 [] 11 0 0)]) (λi=>a.ag.length-i.k) ⟨0,zero_le _,rfl⟩ (ar.bb ⟨rfl,Rf rfl,⟨rfl,rfl⟩,⟨rfl,rfl⟩,⟨rfl,rfl⟩,⟨rfl,rfl⟩,⟨rfl,rfl⟩,⟨rfl,rfl⟩,⟨rfl,rfl⟩,⟨rfl,rfl⟩,⟨rfl,rfl⟩,Rf rfl,Rf rfl,Rf rfl,Rf rfl,Rf rfl,Rf rfl,Rf rfl,Rf rfl,Rf rfl,rfl,trivial⟩ rfl rfl) ?_;intro i;have hle:=i.le;refine dq ?_;refine mn ?_;refine qq (fA oA) ?_;refine ql zB ?_;refine qh zz ?_;refine nm ?_;refine qb ?_;refine nc (λc2=>?_) λc2=>?_
 ·try simp only[ah]at c2
  refine jd (AW.seq (AW.block (sr ?_)));refine qn ?_;refine AW.block ?_;refine AW.aL (λj:ft frame (a.ag.getD i.k En.ab).bf=>[.sl 4 (.v (iv j.k)),.sl 3 (.v (iv i.k)),.rt 1 .box (T.s 11 1 λk c=>([(T.v (iv a.Next),none),(T.v (iv a.bp),none),(T.j,none),(T.j,none),(T.j,none),(T.j,none),(T.j,none),(T.j,none),(T.j,none),(T.j,none),(T.j,none)].getD (k*11+c) (T.j,none)).fst),.al 1 2 (.h aa []),.al 1 3 (.h (aa+1) []),.al 1 4 (.h (aa+2) []),.al 1 5 (.h (aa+3) []),.al 1 6 (.h (aa+4) []),.al 1 7 (.h (aa+5) []),.al 1 8 (.h (aa+6) []),.al 1 9 (.h (aa+7) []),.al 1 10 (.h (aa+8) []),.rt aa .ro (tr a.aP),.rt (aa+1) .ro (tr a.ag),.rt (aa+2) .ro (tr a.fx),.rt (aa+3) .ro (tr a.Heap.aZ),.rt (aa+4) .ro (tr a.ao),.rt (aa+5) .ro (tr a.ak),.rt (aa+6) .ro (tr a.ay),.rt (aa+7) .ro (tr a.aN),.rt (aa+8) .ro (tr a.Out),.sl 1 (.p 1 [] 11 0 0)]) (λj=>(a.ag.getD i.k En.ab).bf.length-j.k) ⟨0,zero_le _,rfl⟩ (ar.bb ⟨rfl,rfl,Rf rfl,⟨rfl,rfl⟩,⟨rfl,rfl⟩,⟨rfl,rfl⟩,⟨rfl,rfl⟩,⟨rfl,rfl⟩,⟨rfl,rfl⟩,⟨rfl,rfl⟩,⟨rfl,rfl⟩,⟨rfl,rfl⟩,Rf rfl,Rf rfl,Rf rfl,Rf rfl,Rf rfl,Rf rfl,Rf rfl,Rf rfl,Rf rfl,rfl,trivial⟩ rfl rfl) ?_;intro j;have hlej:=j.le;refine AW.len (aa+1) [(10,i.k,6)] rfl (by refine⟨rfl,?_,by decide,trivial⟩;show i.k<a.ag.length;omega) rfl (λhl=>?_);refine dq ?_;refine mn ?_;refine qq (fA oA) ?_;refine ql zB ?_;refine mn ?_;refine qq (ix zz x9) ?_;refine qq (fA rl) ?_;refine ql tL ?_;refine nm ?_;refine qh kb ?_;refine qb ?_;refine nc (λc3=>?_) λc3=>?_
  ·try simp only[ah]at c3
   refine jd (AW.seq (AW.block (sr ?_)));refine qq (fA oA) ?_;refine nm ?_;refine ql zB ?_;refine qm ?_;refine qq (ix zz x9) ?_;refine nm ?_;refine qq (fA rl) ?_;refine ql tL ?_;refine mn ?_;refine qq (ix kb fP) ?_;refine ql DX ?_;refine cv call94 rfl rfl (sg _) ?_;refine nm ?_;refine qq (Qt.xJ rfl) ?_;refine nc (λc4=>?_) λc4=>?_
   ·try simp only[ah]at c4
    refine sr ?_;refine qr 2 ?_;rw[show cN a=false from by simp only[cN,i.stop En.ab (by omega) (j.stop En.ab (by omega) c4),Bool.false_and,Bool.and_false]];rfl
   try simp only[ah]at c4
   refine jd (AW.region ?_);refine mn ?_;refine ba ?_;refine qn ?_;refine⟨⟨j.k+1,by omega,j.next En.ab (by omega) c4⟩,ar.bb ⟨ew,rfl,Rf rfl,⟨rfl,rfl⟩,⟨rfl,rfl⟩,⟨rfl,rfl⟩,⟨rfl,rfl⟩,⟨rfl,rfl⟩,⟨rfl,rfl⟩,⟨rfl,rfl⟩,⟨rfl,rfl⟩,⟨rfl,rfl⟩,Rf rfl,Rf rfl,Rf rfl,Rf rfl,Rf rfl,Rf rfl,Rf rfl,Rf rfl,Rf rfl,rfl,trivial⟩ rfl rfl,?_⟩;show(a.ag.getD i.k En.ab).bf.length-(j.k+1)<(a.ag.getD i.k En.ab).bf.length-j.k;omega
  try simp only[ah]at c3
  refine AW.exit ?_;dsimp only[aD,au,reduceIte];refine AW.region ?_;refine mn ?_;refine ba ?_;refine qn ?_;refine⟨⟨i.k+1,by omega,i.next En.ab (by omega) (j.full (by omega))⟩,ar.bb ⟨ew,Rf rfl,⟨rfl,rfl⟩,⟨rfl,rfl⟩,⟨rfl,rfl⟩,⟨rfl,rfl⟩,⟨rfl,rfl⟩,⟨rfl,rfl⟩,⟨rfl,rfl⟩,⟨rfl,rfl⟩,⟨rfl,rfl⟩,Rf rfl,Rf rfl,Rf rfl,Rf rfl,Rf rfl,Rf rfl,Rf rfl,Rf rfl,Rf rfl,rfl,trivial⟩ rfl rfl,?_⟩;show a.ag.length-(i.k+1)<a.ag.length-i.k;omega
 try simp only[ah]at c2
 have hP:=i.full (by omega);refine AW.exit ?_;dsimp only[aD,au,reduceIte];refine dq ?_;refine qn ?_;refine AW.block ?_;refine AW.aL (λm:ft (λp:dd=>p.bo.all λc=> !(c.length==0)) a.ak=>[.sl 5 (.v (iv m.k)),.rt 1 .box (T.s 11 1 λk c=>([(T.v (iv a.Next),none),(T.v (iv a.bp),none),(T.j,none),(T.j,none),(T.j,none),(T.j,none),(T.j,none),(T.j,none),(T.j,none),(T.j,none),(T.j,none)].getD (k*11+c) (T.j,none)).fst),.al 1 2 (.h aa []),.al 1 3 (.h (aa+1) []),.al 1 4 (.h (aa+2) []),.al 1 5 (.h (aa+3) []),.al 1 6 (.h (aa+4) []),.al 1 7 (.h (aa+5) []),.al 1 8 (.h (aa+6) []),.al 1 9 (.h (aa+7) []),.al 1 10 (.h (aa+8) []),.rt aa .ro (tr a.aP),.rt (aa+1) .ro (tr a.ag),.rt (aa+2) .ro (tr a.fx),.rt (aa+3) .ro (tr a.Heap.aZ),.rt (aa+4) .ro (tr a.ao),.rt (aa+5) .ro (tr a.ak),.rt (aa+6) .ro (tr a.ay),.rt (aa+7) .ro (tr a.aN),.rt (aa+8) .ro (tr a.Out),.sl 1 (.p 1 [] 11 0 0)]) (λm=>a.ak.length-m.k) ⟨0,zero_le _,rfl⟩ (ar.bb ⟨rfl,Rf rfl,⟨rfl,rfl⟩,⟨rfl,rfl⟩,⟨rfl,rfl⟩,⟨rfl,rfl⟩,⟨rfl,rfl⟩,⟨rfl,rfl⟩,⟨rfl,rfl⟩,⟨rfl,rfl⟩,⟨rfl,rfl⟩,Rf rfl,Rf rfl,Rf rfl,Rf rfl,Rf rfl,Rf rfl,Rf rfl,Rf rfl,Rf rfl,rfl,trivial⟩ rfl rfl) ?_;intro m;have hlem:=m.le;refine dq ?_;refine mn ?_;refine qq (fA oD) ?_;refine ql z1 ?_;refine qh zU ?_;refine nm ?_;refine qb ?_;refine nc (λc5=>?_) λc5=>?_
 ·try simp only[ah]at c5
  refine jd (AW.seq (AW.block (sr ?_)));refine qn ?_;refine AW.block ?_;refine AW.aL (λj:ft (λc:List Int=> !(c.length==0)) (a.ak.getD m.k En.ab).bo=>[.sl 6 (.v (iv j.k)),.sl 5 (.v (iv m.k)),.rt 1 .box (T.s 11 1 λk c=>([(T.v (iv a.Next),none),(T.v (iv a.bp),none),(T.j,none),(T.j,none),(T.j,none),(T.j,none),(T.j,none),(T.j,none),(T.j,none),(T.j,none),(T.j,none)].getD (k*11+c) (T.j,none)).fst),.al 1 2 (.h aa []),.al 1 3 (.h (aa+1) []),.al 1 4 (.h (aa+2) []),.al 1 5 (.h (aa+3) []),.al 1 6 (.h (aa+4) []),.al 1 7 (.h (aa+5) []),.al 1 8 (.h (aa+6) []),.al 1 9 (.h (aa+7) []),.al 1 10 (.h (aa+8) []),.rt aa .ro (tr a.aP),.rt (aa+1) .ro (tr a.ag),.rt (aa+2) .ro (tr a.fx),.rt (aa+3) .ro (tr a.Heap.aZ),.rt (aa+4) .ro (tr a.ao),.rt (aa+5) .ro (tr a.ak),.rt (aa+6) .ro (tr a.ay),.rt (aa+7) .ro (tr a.aN),.rt (aa+8) .ro (tr a.Out),.sl 1 (.p 1 [] 11 0 0)]) (λj=>(a.ak.getD m.k En.ab).bo.length-j.k) ⟨0,zero_le _,rfl⟩ (ar.bb ⟨rfl,rfl,Rf rfl,⟨rfl,rfl⟩,⟨rfl,rfl⟩,⟨rfl,rfl⟩,⟨rfl,rfl⟩,⟨rfl,rfl⟩,⟨rfl,rfl⟩,⟨rfl,rfl⟩,⟨rfl,rfl⟩,⟨rfl,rfl⟩,Rf rfl,Rf rfl,Rf rfl,Rf rfl,Rf rfl,Rf rfl,Rf rfl,Rf rfl,Rf rfl,rfl,trivial⟩ rfl rfl) ?_;intro j;have hlej:=j.le;refine AW.len (aa+5) [(2,m.k,1)] rfl (by refine⟨rfl,?_,by decide,trivial⟩;show m.k<a.ak.length;omega) rfl (λhl=>?_);refine dq ?_;refine mn ?_;refine qq (fA oD) ?_;refine ql z1 ?_;refine mn ?_;refine qq (ix zU x5) ?_;refine qq (fA rQ) ?_;refine ql AG ?_;refine nm ?_;refine qh A2 ?_;refine qb ?_;refine nc (λc6=>?_) λc6=>?_
  ·try simp only[ah]at c6
   refine jd (AW.seq (AW.block (sr ?_)));refine qq (fA oD) ?_;refine nm ?_;refine ql z1 ?_;refine qm ?_;refine qq (ix zU x5) ?_;refine nm ?_;refine qq (fA rQ) ?_;refine ql AG ?_;refine mn ?_;refine qq (ix A2 iP) ?_;refine ql tL ?_;refine qh kb ?_;refine nm ?_;refine qb ?_;refine nc (λc7=>?_) λc7=>?_
   ·try simp only[ah]at c7
    refine sr ?_;refine qr 2 ?_;rw[show cN a=false from by simp only[cN,m.stop En.ab (by omega) (j.stop En.ab (by omega) (by rw[Bool.not_eq_false',beq_iff_eq];omega)),Bool.and_false]];rfl
   try simp only[ah]at c7
   refine jd (AW.region ?_);refine mn ?_;refine ba ?_;refine qn ?_;refine⟨⟨j.k+1,by omega,j.next En.ab (by omega) (by rw[Bool.not_eq_true',beq_eq_false_iff_ne];omega)⟩,ar.bb ⟨ew,rfl,Rf rfl,⟨rfl,rfl⟩,⟨rfl,rfl⟩,⟨rfl,rfl⟩,⟨rfl,rfl⟩,⟨rfl,rfl⟩,⟨rfl,rfl⟩,⟨rfl,rfl⟩,⟨rfl,rfl⟩,⟨rfl,rfl⟩,Rf rfl,Rf rfl,Rf rfl,Rf rfl,Rf rfl,Rf rfl,Rf rfl,Rf rfl,Rf rfl,rfl,trivial⟩ rfl rfl,?_⟩;show(a.ak.getD m.k En.ab).bo.length-(j.k+1)<(a.ak.getD m.k En.ab).bo.length-j.k;omega
  try simp only[ah]at c6
  refine AW.exit ?_;dsimp only[aD,au,reduceIte];refine AW.region ?_;refine mn ?_;refine ba ?_;refine qn ?_;refine⟨⟨m.k+1,by omega,m.next En.ab (by omega) (j.full (by omega))⟩,ar.bb ⟨ew,Rf rfl,⟨rfl,rfl⟩,⟨rfl,rfl⟩,⟨rfl,rfl⟩,⟨rfl,rfl⟩,⟨rfl,rfl⟩,⟨rfl,rfl⟩,⟨rfl,rfl⟩,⟨rfl,rfl⟩,⟨rfl,rfl⟩,Rf rfl,Rf rfl,Rf rfl,Rf rfl,Rf rfl,Rf rfl,Rf rfl,Rf rfl,Rf rfl,rfl,trivial⟩ rfl rfl,?_⟩;show a.ak.length-(m.k+1)<a.ak.length-m.k;omega
 try simp only[ah]at c5
 refine AW.exit ?_;dsimp only[aD,au,reduceIte];refine sr ?_;refine qr 2 ?_;have hR:(a.fx.length==64)=true:=by simp;omega
 have hM:=m.full (by omega);rw[show cN a=true from by simp only[cN,hR,hP,hM,Bool.and_true]];rfl
open Go Go.RowKit
def iM(l:List (List Int))(i:Nat):Bool:=decide (1≤(l.getD i En.ab).length)&&decide ((l.getD i En.ab).length≤2)&& !(decide ((l.getD i En.ab).length=1)&&decide (0<i)&&decide (i+1<l.length))
def fh(l:List (List Int)):Bool:=fw (iM l) l.length
end Go.Proofs.YtekcnnngjoonbaaGreat.VM
