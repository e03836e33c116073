/- Contracts. No conditions. -/
import Derived.Test.YtekcnnngjoonbaaGreatWf
set_option linter.all false
set_option maxHeartbeats 8000000
set_option maxRecDepth 10000
namespace Go.Proofs.YtekcnnngjoonbaaGreat.VM
open List Nat
open Go Go.RowKit Go.Proofs
def frame(x:Int):Bool:=decide (0≤x)&&decide (x≤15)
theorem zz(x:Int):(decide (0≤x)&&decide (x<16))=frame x:=by
 unfold frame;congr 2;apply propext;omega
def cQ(a:bH):Bool:=a.fb.length==64&&(a.ah.all (λp=>p.bb.all frame)&&a.ao.all (λp=>p.bn.all λc=> !(c.length==0)))
theorem qS{α:Type}{c c':α→Nat}{d:α}{l:List α}(h:∀x,c x≤c' x):∀k,bB c d l k≤bB c' d l k
 | 0=>Nat.le_refl _
 | k+1=>by simp only[bB];have:=qS (d:=d) (l:=l) h k;have:=h (l.getD k d);omega
set_option maxHeartbeats 4000000 in
set_option maxRecDepth 10000 in
theorem xL(x lo hi:Int):bf Tryz.prog 144 [.v (iv x), .v (iv lo), .v (iv hi)] [] (λy _=>y= .v (.bool (decide (lo≤x)&&decide (x≤hi)))):=by
 refine ob Tryz.func144 Tryz.ntmps144 ?_;refine sr ?_;refine fi ?_;refine qm ?_;refine mn ?_;refine qb ?_;refine qm ?_;apply az.cut 3
 ·intro Kg1;refine az.split 10 rfl (λg1=>?_) (λg1=>?_)
  ·refine qg g1 Qt.move ?_;refine nm ?_;refine qg g1 Qt.move ?_;refine qg g1 (Qt.binOp rfl rfl rfl) ?_;exact bZ 13 [11,12,13] (b6 g1 _ undef) Kg1
  ·refine og g1 ?_;refine og g1 ?_;refine og g1 ?_;exact bX 13 [11,12,13] (bY g1 undef _) Kg1
 refine qq (Qt.aD rfl rfl rfl) ?_;refine nm ?_;refine qr 6 ?_;rfl
set_option maxHeartbeats 4000000 in
set_option maxRecDepth 10000 in
theorem rE(x:Int):bf Tryz.prog 94 [.v (iv x)] [] (λy _=>y= .v (.bool (frame x))):=by
 refine ob Tryz.func94 Tryz.ntmps94 ?_;refine sr ?_;refine fi ?_;refine qm ?_;refine qb ?_;refine nm ?_;refine qm ?_;apply az.cut 2
 ·intro Kg1;refine az.split 5 rfl (λg1=>?_) (λg1=>?_)
  ·refine qg g1 Qt.move ?_;refine qg g1 (Qt.binOp rfl rfl rfl) ?_;refine nm ?_;exact bZ 7 [6,7] (b6 g1 _ undef) Kg1
  ·refine og g1 ?_;refine og g1 ?_;exact bX 7 [6,7] (bY g1 undef _) Kg1
 refine qq (Qt.aD rfl rfl rfl) ?_;refine qr 2 ?_;rw[←zz];rfl
set_option maxHeartbeats 4000000 in
set_option maxRecDepth 10000 in
theorem mL(x:Int):bf Tryz.prog 112 [.v (iv x)] [] (λy _=>y= .v (.bool (frame x))):=by
 refine ob Tryz.func112 Tryz.ntmps112 ?_;refine sr ?_;refine fi ?_;refine qm ?_;refine cv Tryz.call144 rfl rfl (xL _ _ _) ?_;refine nm ?_;refine qr 2 ?_;rfl
theorem yI{fid:FuncId}{p:Int→Bool}(hE:l4 Tryz.prog fid)(hp:∀x:Int,bf Tryz.prog fid [.v (iv x)] [] (λy _=>y= .v (.bool (p x))))(l:List Int):bf Tryz.prog 168 [.h aa [], .f fid []] [.rt aa .ro (tr l)] (λy _=>y= .v (iv (gg p l))):=by
 refine ob Tryz.func168 Tryz.ntmps168 ?_;refine AW.len aa [] rfl (by simp[ck]) rfl (λhl=>?_);refine sr ?_;refine qn ?_;refine bP ?_;refine qm ?_;refine qh jj ?_;refine nm ?_;refine qm ?_;refine nl ?_;refine AW.block ?_;refine AW.bw (λi:fw p l=>[.sl 8 (.v (iv i.k)), .sl 7 (.v (iv l.length)), .sl 0 (.h aa []), .sl 1 (.f fid []), .rt aa .ro (tr l)]) (λi=>l.length-i.k) ⟨0,zero_le _,rfl⟩ (ar.aZ ⟨rfl,rfl,rfl,rfl,Rf rfl,trivial⟩ rfl rfl) ?_;intro i;have hle:=i.le;refine sr ?_;refine qb ?_;refine nl ?_;refine AW.seq ?_;refine cd (λc1=>?_) λc1=>?_
 ·try simp only[ai]at c1
  refine jd (AW.seq (AW.block (sr ?_)));refine mn ?_;refine fi ?_;refine qm ?_;refine mn ?_;refine qm ?_;refine qq (ix jj fX) ?_;refine ql aX ?_;refine nm ?_;refine cv hE rfl rfl (hp (l.getD i.k En.ab)) ?_;refine nc (λc2=>?_) λc2=>?_
  ·try simp only[ai]at c2
   refine sr ?_;refine mn ?_;refine qr 4 ?_;rw[dc i En.ab (by omega) c2];rfl
  try simp only[ai]at c2
  refine jd (AW.region ?_);refine ba ?_;refine qm ?_;refine nl ?_;refine⟨⟨i.k+1,by omega,i.next En.ab (by omega) c2⟩,ar.aZ ⟨fe,rfl,rfl,rfl,Rf rfl,trivial⟩ rfl rfl,?_⟩;show l.length-(i.k+1)<l.length-i.k;omega
 try simp only[ai]at c1
 refine AW.exit ?_;dsimp only[aJ,ay,reduceIte];refine sr ?_;refine qr 4 ?_;rw[cD i (by omega)];rfl
theorem xD{fid:FuncId}{p:Int→Bool}(hE:l4 Tryz.prog fid)(hp:∀x:Int,bf Tryz.prog fid [.v (iv x)] [] (λy _=>y= .v (.bool (p x))))(l:List Int):bf Tryz.prog 110 [.h aa [], .f fid []] [.rt aa .ro (tr l)] (λy _=>y= .v (.bool (l.any p))):=by
 refine ob Tryz.func110 Tryz.ntmps110 ?_;refine sr ?_;refine fi ?_;refine qm ?_;refine mn ?_;refine cv Tryz.call168 rfl rfl (yI hE hp _) ?_;refine nm ?_;refine qb ?_;refine qr 4 ?_;rw[←gx];rfl
theorem xi{fid:FuncId}{p:(List Int)→Bool}(hE:l4 Tryz.prog fid)(hp:∀x:List Int,bf Tryz.prog fid [.h aa []] [.rt aa .ro (tr x)] (λy _=>y= .v (.bool (p x))))(l:List (List Int)):bf Tryz.prog 169 [.h aa [], .f fid []] [.rt aa .ro (tr l)] (λy _=>y= .v (iv (gg p l))):=by
 refine ob Tryz.func169 Tryz.ntmps169 ?_;refine AW.len aa [] rfl (by simp[ck]) rfl (λhl=>?_);refine sr ?_;refine qn ?_;refine bP ?_;refine qm ?_;refine qh pq ?_;refine nm ?_;refine qm ?_;refine nl ?_;refine AW.block ?_;refine AW.bw (λi:fw p l=>[.sl 8 (.v (iv i.k)), .sl 7 (.v (iv l.length)), .sl 0 (.h aa []), .sl 1 (.f fid []), .rt aa .ro (tr l)]) (λi=>l.length-i.k) ⟨0,zero_le _,rfl⟩ (ar.aZ ⟨rfl,rfl,rfl,rfl,Rf rfl,trivial⟩ rfl rfl) ?_;intro i;have hle:=i.le;refine sr ?_;refine qb ?_;refine nl ?_;refine AW.seq ?_;refine cd (λc1=>?_) λc1=>?_
 ·try simp only[ai]at c1
  refine jd (AW.seq (AW.block (sr ?_)));refine mn ?_;refine fi ?_;refine qm ?_;refine mn ?_;refine qm ?_;refine qq (ix pq gO) ?_;refine ql a_ ?_;refine nm ?_;refine cv hE rfl rfl (hp (l.getD i.k En.ab)) ?_;refine nc (λc2=>?_) λc2=>?_
  ·try simp only[ai]at c2
   refine sr ?_;refine mn ?_;refine qr 4 ?_;rw[dc i En.ab (by omega) c2];rfl
  try simp only[ai]at c2
  refine jd (AW.region ?_);refine ba ?_;refine qm ?_;refine nl ?_;refine⟨⟨i.k+1,by omega,i.next En.ab (by omega) c2⟩,ar.aZ ⟨fe,rfl,rfl,rfl,Rf rfl,trivial⟩ rfl rfl,?_⟩;show l.length-(i.k+1)<l.length-i.k;omega
 try simp only[ai]at c1
 refine AW.exit ?_;dsimp only[aJ,ay,reduceIte];refine sr ?_;refine qr 4 ?_;rw[cD i (by omega)];rfl
theorem vZ{fid:FuncId}{p:(List Int)→Bool}(hE:l4 Tryz.prog fid)(hp:∀x:List Int,bf Tryz.prog fid [.h aa []] [.rt aa .ro (tr x)] (λy _=>y= .v (.bool (p x))))(l:List (List Int)):bf Tryz.prog 114 [.h aa [], .f fid []] [.rt aa .ro (tr l)] (λy _=>y= .v (.bool (l.any p))):=by
 refine ob Tryz.func114 Tryz.ntmps114 ?_;refine sr ?_;refine fi ?_;refine qm ?_;refine mn ?_;refine cv Tryz.call169 rfl rfl (xi hE hp _) ?_;refine nm ?_;refine qb ?_;refine qr 4 ?_;rw[←gx];rfl
theorem wM{fid:FuncId}{p:dD→Bool}(hE:l4 Tryz.prog fid)(hp:∀x:dD,bf Tryz.prog fid [.g [.v (iv x.fc), .v (iv x.b_), .v (iv x.State), .v (iv x.ft), .v (iv x.d_.Pc), .h aa [], .h (aa+1) [], .h (aa+2) [], .v (iv x.di), .v (iv x.Code)]] [.rt aa .ro (tr x.d_.cy), .rt (aa+1) .ro (tr x.bb), .rt (aa+2) .ro (tr x.cV)] (λy _=>y= .v (.bool (p x))))(l:List dD):bf Tryz.prog 167 [.h aa [], .f fid []] [.rt aa .ro (tr l)] (λy _=>y= .v (iv (gg p l))):=by
 refine ob Tryz.func167 Tryz.ntmps167 ?_;refine AW.len aa [] rfl (by simp[ck]) rfl (λhl=>?_);refine sr ?_;refine qn ?_;refine bP ?_;refine qm ?_;refine qh qA ?_;refine nm ?_;refine qm ?_;refine nl ?_;refine AW.block ?_;refine AW.bw (λi:fw p l=>[.sl 8 (.v (iv i.k)), .sl 7 (.v (iv l.length)), .sl 0 (.h aa []), .sl 1 (.f fid []), .rt aa .ro (tr l)]) (λi=>l.length-i.k) ⟨0,zero_le _,rfl⟩ (ar.aZ ⟨rfl,rfl,rfl,rfl,Rf rfl,trivial⟩ rfl rfl) ?_;intro i;have hle:=i.le;refine sr ?_;refine qb ?_;refine nl ?_;refine AW.seq ?_;refine cd (λc1=>?_) λc1=>?_
 ·try simp only[ai]at c1
  refine jd (AW.seq (AW.block (sr ?_)));refine mn ?_;refine fi ?_;refine qm ?_;refine mn ?_;refine qm ?_;refine qq (ix qA o8) ?_;refine qG xe o8 ?_;refine nm ?_;refine cv hE rfl rfl (hp (l.getD i.k En.ab)) ?_;refine nc (λc2=>?_) λc2=>?_
  ·try simp only[ai]at c2
   refine sr ?_;refine mn ?_;refine qr 4 ?_;rw[dc i En.ab (by omega) c2];rfl
  try simp only[ai]at c2
  refine jd (AW.region ?_);refine ba ?_;refine qm ?_;refine nl ?_;refine⟨⟨i.k+1,by omega,i.next En.ab (by omega) c2⟩,ar.aZ ⟨fe,rfl,rfl,rfl,Rf rfl,trivial⟩ rfl rfl,?_⟩;show l.length-(i.k+1)<l.length-i.k;omega
 try simp only[ai]at c1
 refine AW.exit ?_;dsimp only[aJ,ay,reduceIte];refine sr ?_;refine qr 4 ?_;rw[cD i (by omega)];rfl
theorem wm{fid:FuncId}{p:dD→Bool}(hE:l4 Tryz.prog fid)(hp:∀x:dD,bf Tryz.prog fid [.g [.v (iv x.fc), .v (iv x.b_), .v (iv x.State), .v (iv x.ft), .v (iv x.d_.Pc), .h aa [], .h (aa+1) [], .h (aa+2) [], .v (iv x.di), .v (iv x.Code)]] [.rt aa .ro (tr x.d_.cy), .rt (aa+1) .ro (tr x.bb), .rt (aa+2) .ro (tr x.cV)] (λy _=>y= .v (.bool (p x))))(l:List dD):bf Tryz.prog 108 [.h aa [], .f fid []] [.rt aa .ro (tr l)] (λy _=>y= .v (.bool (l.any p))):=by
 refine ob Tryz.func108 Tryz.ntmps108 ?_;refine sr ?_;refine fi ?_;refine qm ?_;refine mn ?_;refine cv Tryz.call167 rfl rfl (wM hE hp _) ?_;refine nm ?_;refine qb ?_;refine qr 4 ?_;rw[←gx];rfl
theorem xt{fid:FuncId}{p:dp→Bool}(hE:l4 Tryz.prog fid)(hp:∀x:dp,bf Tryz.prog fid [.g [.v (iv x.Id), .h aa []]] [.rt aa .ro (tr x.bn)] (λy _=>y= .v (.bool (p x))))(l:List dp):bf Tryz.prog 157 [.h aa [], .f fid []] [.rt aa .ro (tr l)] (λy _=>y= .v (iv (gg p l))):=by
 refine ob Tryz.func157 Tryz.ntmps157 ?_;refine AW.len aa [] rfl (by simp[ck]) rfl (λhl=>?_);refine sr ?_;refine qn ?_;refine bP ?_;refine qm ?_;refine qh oo ?_;refine nm ?_;refine qm ?_;refine nl ?_;refine AW.block ?_;refine AW.bw (λi:fw p l=>[.sl 8 (.v (iv i.k)), .sl 7 (.v (iv l.length)), .sl 0 (.h aa []), .sl 1 (.f fid []), .rt aa .ro (tr l)]) (λi=>l.length-i.k) ⟨0,zero_le _,rfl⟩ (ar.aZ ⟨rfl,rfl,rfl,rfl,Rf rfl,trivial⟩ rfl rfl) ?_;intro i;have hle:=i.le;refine sr ?_;refine qb ?_;refine nl ?_;refine AW.seq ?_;refine cd (λc1=>?_) λc1=>?_
 ·try simp only[ai]at c1
  refine jd (AW.seq (AW.block (sr ?_)));refine mn ?_;refine fi ?_;refine qm ?_;refine mn ?_;refine qm ?_;refine qq (ix oo ng) ?_;refine qG xZ ng ?_;refine nm ?_;refine cv hE rfl rfl (hp (l.getD i.k En.ab)) ?_;refine nc (λc2=>?_) λc2=>?_
  ·try simp only[ai]at c2
   refine sr ?_;refine mn ?_;refine qr 4 ?_;rw[dc i En.ab (by omega) c2];rfl
  try simp only[ai]at c2
  refine jd (AW.region ?_);refine ba ?_;refine qm ?_;refine nl ?_;refine⟨⟨i.k+1,by omega,i.next En.ab (by omega) c2⟩,ar.aZ ⟨fe,rfl,rfl,rfl,Rf rfl,trivial⟩ rfl rfl,?_⟩;show l.length-(i.k+1)<l.length-i.k;omega
 try simp only[ai]at c1
 refine AW.exit ?_;dsimp only[aJ,ay,reduceIte];refine sr ?_;refine qr 4 ?_;rw[cD i (by omega)];rfl
theorem pC{fid:FuncId}{p:dp→Bool}(hE:l4 Tryz.prog fid)(hp:∀x:dp,bf Tryz.prog fid [.g [.v (iv x.Id), .h aa []]] [.rt aa .ro (tr x.bn)] (λy _=>y= .v (.bool (p x))))(l:List dp):bf Tryz.prog 84 [.h aa [], .f fid []] [.rt aa .ro (tr l)] (λy _=>y= .v (.bool (l.any p))):=by
 refine ob Tryz.func84 Tryz.ntmps84 ?_;refine sr ?_;refine fi ?_;refine qm ?_;refine mn ?_;refine cv Tryz.call157 rfl rfl (xt hE hp _) ?_;refine nm ?_;refine qb ?_;refine qr 4 ?_;rw[←gx];rfl
set_option maxHeartbeats 4000000 in
set_option maxRecDepth 10000 in
theorem rG(x:Int):bf Tryz.prog 111 [.v (iv x)] [] (λy _=>y= .v (.bool !(frame x))):=by
 refine ob Tryz.func111 Tryz.ntmps111 ?_;refine sr ?_;refine fi ?_;refine qm ?_;refine cv Tryz.call112 rfl rfl (mL _) ?_;refine nm ?_;refine qq (Qt.iy rfl) ?_;refine qr 2 ?_;rfl
set_option maxHeartbeats 4000000 in
set_option maxRecDepth 10000 in
theorem qK(l:List Int):bf Tryz.prog 115 [.h aa []] [.rt aa .ro (tr l)] (λy _=>y= .v (.bool (((l.length:Nat):Int)==0))):=by
 refine ob Tryz.func115 Tryz.ntmps115 ?_;refine sr ?_;refine fi ?_;refine qm ?_;refine qh jj ?_;refine nm ?_;refine qb ?_;refine qr 2 ?_;rfl
set_option maxHeartbeats 4000000 in
set_option maxRecDepth 10000 in
theorem tU(p:dD):bf Tryz.prog 109 [.g [.v (iv p.fc), .v (iv p.b_), .v (iv p.State), .v (iv p.ft), .v (iv p.d_.Pc), .h aa [], .h (aa+1) [], .h (aa+2) [], .v (iv p.di), .v (iv p.Code)]] [.rt aa .ro (tr p.d_.cy), .rt (aa+1) .ro (tr p.bb), .rt (aa+2) .ro (tr p.cV)] (λy _=>y= .v (.bool (p.bb.any λf=> !(frame f)))):=by
 refine ob Tryz.func109 Tryz.ntmps109 ?_;refine sr ?_;refine bx ?_;refine nm ?_;refine fi ?_;refine qq (fA jT) ?_;refine ql a_ ?_;refine nm ?_;refine cv Tryz.call110 rfl rfl (xD Tryz.call111 (λx=>rG x) _) ?_;refine nm ?_;refine qr 2 ?_;rfl
set_option maxHeartbeats 4000000 in
set_option maxRecDepth 10000 in
theorem sh(p:dp):bf Tryz.prog 113 [.g [.v (iv p.Id), .h aa []]] [.rt aa .ro (tr p.bn)] (λy _=>y= .v (.bool (p.bn.any λl=>((l.length:Nat):Int)==0))):=by
 refine ob Tryz.func113 Tryz.ntmps113 ?_;refine sr ?_;refine bx ?_;refine nm ?_;refine fi ?_;refine qq (fA k_) ?_;refine ql uy ?_;refine nm ?_;refine cv Tryz.call114 rfl rfl (vZ Tryz.call115 (λx=>qK x) _) ?_;refine nm ?_;refine qr 2 ?_;rfl
theorem AK(l:List dD):(l.any λp=>p.bb.any λf=> !(frame f))= !(l.all λp=>p.bb.all frame):=by
 rw[Bool.eq_iff_iff];simp
theorem BC(l:List dp):(l.any λp=>p.bn.any λl=>((l.length:Nat):Int)==0)= !(l.all λp=>p.bn.all λc=> !(c.length==0)):=by
 rw[Bool.eq_iff_iff];simp

set_option maxHeartbeats 4000000 in
set_option maxRecDepth 10000 in
theorem mJ(a:bH):bf Tryz.prog 35 [.g [.v (iv a.Next), .v (iv a.bF), .h aa [], .h (aa+1) [], .h (aa+2) [], .h (aa+3) [], .h (aa+4) [], .h (aa+5) [], .h (aa+6) [], .h (aa+7) [], .h (aa+8) []]] [.rt aa .ro (tr a.aV), .rt (aa+1) .ro (tr a.ah), .rt (aa+2) .ro (tr a.fb), .rt (aa+3) .ro (tr a.Heap.aU), .rt (aa+4) .ro (tr a.ax), .rt (aa+5) .ro (tr a.ao), .rt (aa+6) .ro (tr a.aC), .rt (aa+7) .ro (tr a.aR), .rt (aa+8) .ro (tr a.Out)] (λy _=>y= .v (.bool (cQ a))):=by
 refine ob Tryz.func35 Tryz.ntmps35 ?_;refine sr ?_;refine bx ?_;refine nm ?_;refine qn ?_;refine bP ?_;refine qq (fA lr) ?_;refine ql a_ ?_;refine nm ?_;refine qh jj ?_;refine qb ?_;refine nc (λc1=>?_) λc1=>?_
 ·try simp only[ai]at c1
  refine sr ?_;refine qr 2 ?_;rw[show cQ a=false from by simp[cQ];omega];rfl
 try simp only[ai]at c1
 refine jd (bP ?_);refine qq (fA j6) ?_;refine nm ?_;refine ql sN ?_;refine cv Tryz.call108 rfl rfl (wm Tryz.call109 (λx=>tU x) _) ?_;refine nc (λc2=>?_) λc2=>?_
 ·have k2:=c2
  try simp only[ai]at c2
  refine sr ?_;refine qr 2 ?_;rw[show cQ a=false from by rw[AK,Bool.not_eq_true']at k2;simp only[cQ,k2,Bool.false_and,Bool.and_false]];rfl
 have k2:=c2
 try simp only[ai]at c2
 refine jd (sr ?_);refine qq (fA ji) ?_;refine nm ?_;refine ql pn ?_;refine cv Tryz.call84 rfl rfl (pC Tryz.call113 (λx=>sh x) _) ?_;refine nm ?_;refine qq (Qt.iy rfl) ?_;refine qr 2 ?_;rw[show cQ a= !(a.ao.any λp=>p.bn.any λl=>((l.length:Nat):Int)==0)from by rw[AK,Bool.not_eq_false']at k2;rw[BC];have hR:(a.fb.length==64)=true:=(by simp;omega);simp only[cQ,hR,k2,Bool.true_and,Bool.not_not]];rfl
set_option maxHeartbeats 4000000 in
set_option maxRecDepth 10000 in
theorem qH(a:bH):bf Tryz.prog 26 [.g [.v (iv a.Next), .v (iv a.bF), .h aa [], .h (aa+1) [], .h (aa+2) [], .h (aa+3) [], .h (aa+4) [], .h (aa+5) [], .h (aa+6) [], .h (aa+7) [], .h (aa+8) []]] [.rt aa .ro (tr a.aV), .rt (aa+1) .ro (tr a.ah), .rt (aa+2) .ro (tr a.fb), .rt (aa+3) .ro (tr a.Heap.aU), .rt (aa+4) .ro (tr a.ax), .rt (aa+5) .ro (tr a.ao), .rt (aa+6) .ro (tr a.aC), .rt (aa+7) .ro (tr a.aR), .rt (aa+8) .ro (tr a.Out)] (λy _=>y= .v (.bool (cQ a))):=by
 refine ob Tryz.func26 Tryz.ntmps26 ?_;refine AW.len (aa+1) [] rfl (by simp[ck]) rfl (λhl=>?_);refine AW.len (aa+5) [] rfl (by simp[ck]) rfl (λhl2=>?_);refine sr ?_;refine bx ?_;refine nm ?_;refine qn ?_;refine bP ?_;refine qq (fA lr) ?_;refine ql a_ ?_;refine nm ?_;refine qh jj ?_;refine qb ?_;refine nc (λc1=>?_) λc1=>?_
 ·try simp only[ai]at c1
  refine sr ?_;refine qr 2 ?_;rw[show cQ a=false from by simp[cQ];omega];rfl
 try simp only[ai]at c1
 refine jd (bP ?_);refine qn ?_;refine AW.block ?_;refine AW.bw (λi:fx (λp:dD=>p.bb.all frame) a.ah=>[.sl 3 (.v (iv i.k)), .rt 1 .box (T.s 11 1 λk c=>([(T.v (iv a.Next),none),(T.v (iv a.bF),none),(T.j,none),(T.j,none),(T.j,none),(T.j,none),(T.j,none),(T.j,none),(T.j,none),(T.j,none),(T.j,none)].getD (k*11+c) (T.j,none)).fst), .al 1 2 (.h aa []), .al 1 3 (.h (aa+1) []), .al 1 4 (.h (aa+2) []), .al 1 5 (.h (aa+3) []), .al 1 6 (.h (aa+4) []), .al 1 7 (.h (aa+5) []), .al 1 8 (.h (aa+6) []), .al 1 9 (.h (aa+7) []), .al 1 10 (.h (aa+8) []), .rt aa .ro (tr a.aV), .rt (aa+1) .ro (tr a.ah), .rt (aa+2) .ro (tr a.fb), .rt (aa+3) .ro (tr a.Heap.aU), .rt (aa+4) .ro (tr a.ax), .rt (aa+5) .ro (tr a.ao), .rt (aa+6) .ro (tr a.aC), .rt (aa+7) .ro (tr a.aR), .rt (aa+8) .ro (tr a.Out), .sl 1 (.p 1 [] 11 0 0)]) (λi=>a.ah.length-i.k) ⟨0,zero_le _,rfl⟩ (ar.aZ ⟨rfl,Rf rfl,⟨rfl,rfl⟩,⟨rfl,rfl⟩,⟨rfl,rfl⟩,⟨rfl,rfl⟩,⟨rfl,rfl⟩,⟨rfl,rfl⟩,⟨rfl,rfl⟩,⟨rfl,rfl⟩,⟨rfl,rfl⟩,Rf rfl,Rf rfl,Rf rfl,Rf rfl,Rf rfl,Rf rfl,Rf rfl,Rf rfl,Rf rfl,rfl,trivial⟩ rfl rfl) ?_;intro i;have hle:=i.le;refine bP ?_;refine mn ?_;refine qq (fA j6) ?_;refine ql sN ?_;refine qh qA ?_;refine nm ?_;refine qb ?_;refine nc (λc2=>?_) λc2=>?_
 ·try simp only[ai]at c2
  refine jd (AW.seq (AW.block (sr ?_)));refine qn ?_;refine AW.block ?_;refine AW.bw (λj:fx frame (a.ah.getD i.k En.ab).bb=>[.sl 4 (.v (iv j.k)), .sl 3 (.v (iv i.k)), .rt 1 .box (T.s 11 1 λk c=>([(T.v (iv a.Next),none),(T.v (iv a.bF),none),(T.j,none),(T.j,none),(T.j,none),(T.j,none),(T.j,none),(T.j,none),(T.j,none),(T.j,none),(T.j,none)].getD (k*11+c) (T.j,none)).fst), .al 1 2 (.h aa []), .al 1 3 (.h (aa+1) []), .al 1 4 (.h (aa+2) []), .al 1 5 (.h (aa+3) []), .al 1 6 (.h (aa+4) []), .al 1 7 (.h (aa+5) []), .al 1 8 (.h (aa+6) []), .al 1 9 (.h (aa+7) []), .al 1 10 (.h (aa+8) []), .rt aa .ro (tr a.aV), .rt (aa+1) .ro (tr a.ah), .rt (aa+2) .ro (tr a.fb), .rt (aa+3) .ro (tr a.Heap.aU), .rt (aa+4) .ro (tr a.ax), .rt (aa+5) .ro (tr a.ao), .rt (aa+6) .ro (tr a.aC), .rt (aa+7) .ro (tr a.aR), .rt (aa+8) .ro (tr a.Out), .sl 1 (.p 1 [] 11 0 0)]) (λj=>(a.ah.getD i.k En.ab).bb.length-j.k) ⟨0,zero_le _,rfl⟩ (ar.aZ ⟨rfl,rfl,Rf rfl,⟨rfl,rfl⟩,⟨rfl,rfl⟩,⟨rfl,rfl⟩,⟨rfl,rfl⟩,⟨rfl,rfl⟩,⟨rfl,rfl⟩,⟨rfl,rfl⟩,⟨rfl,rfl⟩,⟨rfl,rfl⟩,Rf rfl,Rf rfl,Rf rfl,Rf rfl,Rf rfl,Rf rfl,Rf rfl,Rf rfl,Rf rfl,rfl,trivial⟩ rfl rfl) ?_;intro j;have hlej:=j.le;refine AW.len (aa+1) [(10,i.k,6)] rfl (by refine⟨rfl,?_,by decide,trivial⟩;show i.k<a.ah.length;omega) rfl (λhl=>?_);refine bP ?_;refine mn ?_;refine qq (fA j6) ?_;refine ql sN ?_;refine mn ?_;refine qq (ix qA o8) ?_;refine qq (fA jT) ?_;refine ql a_ ?_;refine nm ?_;refine qh jj ?_;refine qb ?_;refine nc (λc3=>?_) λc3=>?_
  ·try simp only[ai]at c3
   refine jd (AW.seq (AW.block (sr ?_)));refine qq (fA j6) ?_;refine nm ?_;refine ql sN ?_;refine qm ?_;refine qq (ix qA o8) ?_;refine nm ?_;refine qq (fA jT) ?_;refine ql a_ ?_;refine mn ?_;refine qq (ix jj fX) ?_;refine ql aX ?_;refine cv Tryz.call94 rfl rfl (rE _) ?_;refine nm ?_;refine qq (Qt.iy rfl) ?_;refine nc (λc4=>?_) λc4=>?_
   ·try simp only[ai]at c4
    refine sr ?_;refine qr 2 ?_;rw[show cQ a=false from by simp only[cQ,i.stop En.ab (by omega) (j.stop En.ab (by omega) c4),Bool.false_and,Bool.and_false]];rfl
   try simp only[ai]at c4
   refine jd (AW.region ?_);refine mn ?_;refine ba ?_;refine qn ?_;refine⟨⟨j.k+1,by omega,j.next En.ab (by omega) c4⟩,ar.aZ ⟨fe,rfl,Rf rfl,⟨rfl,rfl⟩,⟨rfl,rfl⟩,⟨rfl,rfl⟩,⟨rfl,rfl⟩,⟨rfl,rfl⟩,⟨rfl,rfl⟩,⟨rfl,rfl⟩,⟨rfl,rfl⟩,⟨rfl,rfl⟩,Rf rfl,Rf rfl,Rf rfl,Rf rfl,Rf rfl,Rf rfl,Rf rfl,Rf rfl,Rf rfl,rfl,trivial⟩ rfl rfl,?_⟩;show(a.ah.getD i.k En.ab).bb.length-(j.k+1)<(a.ah.getD i.k En.ab).bb.length-j.k;omega
  try simp only[ai]at c3
  refine AW.exit ?_;dsimp only[aJ,ay,reduceIte];refine AW.region ?_;refine mn ?_;refine ba ?_;refine qn ?_;refine⟨⟨i.k+1,by omega,i.next En.ab (by omega) (j.full (by omega))⟩,ar.aZ ⟨fe,Rf rfl,⟨rfl,rfl⟩,⟨rfl,rfl⟩,⟨rfl,rfl⟩,⟨rfl,rfl⟩,⟨rfl,rfl⟩,⟨rfl,rfl⟩,⟨rfl,rfl⟩,⟨rfl,rfl⟩,⟨rfl,rfl⟩,Rf rfl,Rf rfl,Rf rfl,Rf rfl,Rf rfl,Rf rfl,Rf rfl,Rf rfl,Rf rfl,rfl,trivial⟩ rfl rfl,?_⟩;show a.ah.length-(i.k+1)<a.ah.length-i.k;omega
 try simp only[ai]at c2
 have hP:=i.full (by omega);refine AW.exit ?_;dsimp only[aJ,ay,reduceIte];refine bP ?_;refine qn ?_;refine AW.block ?_;refine AW.bw (λm:fx (λp:dp=>p.bn.all λc=> !(c.length==0)) a.ao=>[.sl 5 (.v (iv m.k)), .rt 1 .box (T.s 11 1 λk c=>([(T.v (iv a.Next),none),(T.v (iv a.bF),none),(T.j,none),(T.j,none),(T.j,none),(T.j,none),(T.j,none),(T.j,none),(T.j,none),(T.j,none),(T.j,none)].getD (k*11+c) (T.j,none)).fst), .al 1 2 (.h aa []), .al 1 3 (.h (aa+1) []), .al 1 4 (.h (aa+2) []), .al 1 5 (.h (aa+3) []), .al 1 6 (.h (aa+4) []), .al 1 7 (.h (aa+5) []), .al 1 8 (.h (aa+6) []), .al 1 9 (.h (aa+7) []), .al 1 10 (.h (aa+8) []), .rt aa .ro (tr a.aV), .rt (aa+1) .ro (tr a.ah), .rt (aa+2) .ro (tr a.fb), .rt (aa+3) .ro (tr a.Heap.aU), .rt (aa+4) .ro (tr a.ax), .rt (aa+5) .ro (tr a.ao), .rt (aa+6) .ro (tr a.aC), .rt (aa+7) .ro (tr a.aR), .rt (aa+8) .ro (tr a.Out), .sl 1 (.p 1 [] 11 0 0)]) (λm=>a.ao.length-m.k) ⟨0,zero_le _,rfl⟩ (ar.aZ ⟨rfl,Rf rfl,⟨rfl,rfl⟩,⟨rfl,rfl⟩,⟨rfl,rfl⟩,⟨rfl,rfl⟩,⟨rfl,rfl⟩,⟨rfl,rfl⟩,⟨rfl,rfl⟩,⟨rfl,rfl⟩,⟨rfl,rfl⟩,Rf rfl,Rf rfl,Rf rfl,Rf rfl,Rf rfl,Rf rfl,Rf rfl,Rf rfl,Rf rfl,rfl,trivial⟩ rfl rfl) ?_;intro m;have hlem:=m.le;refine bP ?_;refine mn ?_;refine qq (fA ji) ?_;refine ql pn ?_;refine qh oo ?_;refine nm ?_;refine qb ?_;refine nc (λc5=>?_) λc5=>?_
 ·try simp only[ai]at c5
  refine jd (AW.seq (AW.block (sr ?_)));refine qn ?_;refine AW.block ?_;refine AW.bw (λj:fx (λc:List Int=> !(c.length==0)) (a.ao.getD m.k En.ab).bn=>[.sl 6 (.v (iv j.k)), .sl 5 (.v (iv m.k)), .rt 1 .box (T.s 11 1 λk c=>([(T.v (iv a.Next),none),(T.v (iv a.bF),none),(T.j,none),(T.j,none),(T.j,none),(T.j,none),(T.j,none),(T.j,none),(T.j,none),(T.j,none),(T.j,none)].getD (k*11+c) (T.j,none)).fst), .al 1 2 (.h aa []), .al 1 3 (.h (aa+1) []), .al 1 4 (.h (aa+2) []), .al 1 5 (.h (aa+3) []), .al 1 6 (.h (aa+4) []), .al 1 7 (.h (aa+5) []), .al 1 8 (.h (aa+6) []), .al 1 9 (.h (aa+7) []), .al 1 10 (.h (aa+8) []), .rt aa .ro (tr a.aV), .rt (aa+1) .ro (tr a.ah), .rt (aa+2) .ro (tr a.fb), .rt (aa+3) .ro (tr a.Heap.aU), .rt (aa+4) .ro (tr a.ax), .rt (aa+5) .ro (tr a.ao), .rt (aa+6) .ro (tr a.aC), .rt (aa+7) .ro (tr a.aR), .rt (aa+8) .ro (tr a.Out), .sl 1 (.p 1 [] 11 0 0)]) (λj=>(a.ao.getD m.k En.ab).bn.length-j.k) ⟨0,zero_le _,rfl⟩ (ar.aZ ⟨rfl,rfl,Rf rfl,⟨rfl,rfl⟩,⟨rfl,rfl⟩,⟨rfl,rfl⟩,⟨rfl,rfl⟩,⟨rfl,rfl⟩,⟨rfl,rfl⟩,⟨rfl,rfl⟩,⟨rfl,rfl⟩,⟨rfl,rfl⟩,Rf rfl,Rf rfl,Rf rfl,Rf rfl,Rf rfl,Rf rfl,Rf rfl,Rf rfl,Rf rfl,rfl,trivial⟩ rfl rfl) ?_;intro j;have hlej:=j.le;refine AW.len (aa+5) [(2,m.k,1)] rfl (by refine⟨rfl,?_,by decide,trivial⟩;show m.k<a.ao.length;omega) rfl (λhl=>?_);refine bP ?_;refine mn ?_;refine qq (fA ji) ?_;refine ql pn ?_;refine mn ?_;refine qq (ix oo ng) ?_;refine qq (fA k_) ?_;refine ql uy ?_;refine nm ?_;refine qh pq ?_;refine qb ?_;refine nc (λc6=>?_) λc6=>?_
  ·try simp only[ai]at c6
   refine jd (AW.seq (AW.block (sr ?_)));refine qq (fA ji) ?_;refine nm ?_;refine ql pn ?_;refine qm ?_;refine qq (ix oo ng) ?_;refine nm ?_;refine qq (fA k_) ?_;refine ql uy ?_;refine mn ?_;refine qq (ix pq gO) ?_;refine ql a_ ?_;refine qh jj ?_;refine nm ?_;refine qb ?_;refine nc (λc7=>?_) λc7=>?_
   ·try simp only[ai]at c7
    refine sr ?_;refine qr 2 ?_;rw[show cQ a=false from by simp only[cQ,m.stop En.ab (by omega) (j.stop En.ab (by omega) (by rw[Bool.not_eq_false',beq_iff_eq];omega)),Bool.and_false]];rfl
   try simp only[ai]at c7
   refine jd (AW.region ?_);refine mn ?_;refine ba ?_;refine qn ?_;refine⟨⟨j.k+1,by omega,j.next En.ab (by omega) (by rw[Bool.not_eq_true',beq_eq_false_iff_ne];omega)⟩,ar.aZ ⟨fe,rfl,Rf rfl,⟨rfl,rfl⟩,⟨rfl,rfl⟩,⟨rfl,rfl⟩,⟨rfl,rfl⟩,⟨rfl,rfl⟩,⟨rfl,rfl⟩,⟨rfl,rfl⟩,⟨rfl,rfl⟩,⟨rfl,rfl⟩,Rf rfl,Rf rfl,Rf rfl,Rf rfl,Rf rfl,Rf rfl,Rf rfl,Rf rfl,Rf rfl,rfl,trivial⟩ rfl rfl,?_⟩;show(a.ao.getD m.k En.ab).bn.length-(j.k+1)<(a.ao.getD m.k En.ab).bn.length-j.k;omega
  try simp only[ai]at c6
  refine AW.exit ?_;dsimp only[aJ,ay,reduceIte];refine AW.region ?_;refine mn ?_;refine ba ?_;refine qn ?_;refine⟨⟨m.k+1,by omega,m.next En.ab (by omega) (j.full (by omega))⟩,ar.aZ ⟨fe,Rf rfl,⟨rfl,rfl⟩,⟨rfl,rfl⟩,⟨rfl,rfl⟩,⟨rfl,rfl⟩,⟨rfl,rfl⟩,⟨rfl,rfl⟩,⟨rfl,rfl⟩,⟨rfl,rfl⟩,⟨rfl,rfl⟩,Rf rfl,Rf rfl,Rf rfl,Rf rfl,Rf rfl,Rf rfl,Rf rfl,Rf rfl,Rf rfl,rfl,trivial⟩ rfl rfl,?_⟩;show a.ao.length-(m.k+1)<a.ao.length-m.k;omega
 try simp only[ai]at c5
 refine AW.exit ?_;dsimp only[aJ,ay,reduceIte];refine sr ?_;refine qr 2 ?_;have hR:(a.fb.length==64)=true:=by simp;omega
 have hM:=m.full (by omega);rw[show cQ a=true from by simp only[cQ,hR,hP,hM,Bool.and_true]];rfl
end Go.Proofs.YtekcnnngjoonbaaGreat.VM
