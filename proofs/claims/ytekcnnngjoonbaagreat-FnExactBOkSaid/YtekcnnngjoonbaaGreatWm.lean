/- Contracts. No conditions. -/
import Derived.Test.YtekcnnngjoonbaaGreatWi
import Derived.Test.YtekcnnngjoonbaaGreatWj
set_option linter.all false
set_option maxHeartbeats 8000000
set_option maxRecDepth 10000
namespace Go.Proofs.YtekcnnngjoonbaaGreat.VM
open List Nat
open Go Go.RowKit Go.Proofs
theorem uh(l:List Int)(v:Int):bf Tryz.prog 207 [.h aa [], .v (iv v)] [.rt aa .ro (tr l)] (λy _=>y= .v (iv (gg (λx=>v==x) l))):=by
 refine ob Tryz.func207 Tryz.ntmps207 ?_;refine AW.len (aa) [] rfl (by simp[ck]) rfl (λhl=>?_);refine go [.R,.a,.Z,.R2,.m,.h,.N,.m,.Z] (k:=?_);refine AW.block ?_;refine AW.bw (λi:fw (λx=>v==x) l=>[.sl 8 (.v (iv i.k)), .sl 0 (.h aa []), .sl 1 (.v (iv v)), .sl 7 (.v (iv l.length)), .rt aa .ro (tr l)]) (λi=>l.length-i.k) ⟨0,zero_le _,rfl⟩ (ws) ?_;intro i;have hle:=i.le;refine go [.R,.b,.Z] (k:=?_);refine AW.seq ?_;refine cd (λc1=>?_) λc1=>?_
 ·try simp only[ai]at c1
  refine jd (AW.seq (AW.block (sr ?_)));refine go [.m,.N,.a,.Z,.R,.m,.m,.N,.m,.i,.l,.N,.b,.Z] (k:=?_);refine cd (λc2=>?_) λc2=>?_
  ·try simp only[ai]at c2
   refine go [.R,.m,.a,.Z] (k:=?_);refine aM 4 ?_;rw[dc i En.ab (by omega) (by simpa using c2)];rfl
  try simp only[ai]at c2
  refine go [.J,.R1,.b,.N,.m,.Z] (k:=?_);refine⟨⟨i.k+1,by omega,i.next En.ab (by omega) (by simpa using c2)⟩,ws,?_⟩;show l.length-(i.k+1)<l.length-i.k;omega
 try simp only[ai]at c1
 refine AW.exit ?_;dsimp only[aJ,ay,reduceIte];refine go [.R,.a,.Z] (k:=?_);refine aM 4 ?_;rw[cD i (by omega)];rfl
theorem jk(l:List Int)(x:Int):bf Tryz.prog 155 [.h aa [], .v (iv x)] [.rt aa .ro (tr l)] (λy _=>y= .v (.bool (lf l x))):=by
 refine ob Tryz.func155 Tryz.ntmps155 ?_;refine go [.R,.a,.Z,.R,.m,.m,.N] (k:=?_);refine cv Tryz.call207 rfl rfl (uh _ _) ?_;refine go [.N,.b,.a,.Z] (k:=?_);refine aM 4 ?_;rw[show lf l x=decide (0≤gg (λy=>x==y) l)from by rw[gx,lf];congr 1;funext y;rw[Bool.eq_iff_iff];simp only[beq_iff_eq];exact⟨Eq.symm,Eq.symm⟩];rfl
theorem sH(pid:Int)(p:bG):bf Tryz.prog 229 [.g [.v (iv p.fc), .v (iv p.b_), .v (iv p.State), .v (iv p.ft), .v (iv p.d_.Pc), .h aa [], .h (aa+1) [], .h (aa+2) [], .v (iv p.di), .v (iv p.Code)], .p (aa+3) [] 1 0 0] [.rt aa .ro (tr p.d_.cy), .rt (aa+1) .ro (tr p.Mem), .rt (aa+2) .ro (tr p.cV), .rt (aa+3) .ro (tr [pid])] (λy _=>y= .v (.bool (p.fc==pid))):=by
 refine ob Tryz.func229 Tryz.ntmps229 ?_;refine go [.R,.B,.N,.a,.Z,.R,.f,.l,.N,.l,.b,.a,.Z] (k:=?_);refine aM 3 ?_;rfl
theorem s0{fid:FuncId}{p:bG→Bool}(u0:Int)(hE:l4 Tryz.prog fid)(hp:∀x:bG,bf Tryz.prog fid [.g [.v (iv x.fc), .v (iv x.b_), .v (iv x.State), .v (iv x.ft), .v (iv x.d_.Pc), .h aa [], .h (aa+1) [], .h (aa+2) [], .v (iv x.di), .v (iv x.Code)], .p (aa+3) [] 1 0 0] [.rt aa .ro (tr x.d_.cy), .rt (aa+1) .ro (tr x.Mem), .rt (aa+2) .ro (tr x.cV), .rt (aa+3) .ro (tr [u0])] (λy _=>y= .v (.bool (p x))))(l:List bG):bf Tryz.prog 228 [.h aa [], .f fid [.p (aa+1) [] 1 0 0]] [.rt aa .ro (tr l), .rt (aa+1) .ro (tr [u0])] (λy _=>y= .v (iv (gg p l))):=by
 refine ob Tryz.func228 Tryz.ntmps228 ?_;refine AW.len aa [] rfl (by simp[ck]) rfl (λhl=>?_);refine go [.R,.a,.Z,.R2,.m,.h,.N,.m,.Z] (k:=?_);refine AW.block ?_;refine AW.bw (λi:fw p l=>[.sl 8 (.v (iv i.k)), .sl 7 (.v (iv l.length)), .sl 0 (.h aa []), .sl 1 (.f fid [.p (aa+1) [] 1 0 0]), .rt aa .ro (tr l), .rt (aa+1) .ro (tr [u0])]) (λi=>l.length-i.k) ⟨0,zero_le _,rfl⟩ (ws) ?_;intro i;have hle:=i.le;refine go [.R,.b,.Z] (k:=?_);refine AW.seq ?_;refine cd (λc1=>?_) λc1=>?_
 ·try simp only[ai]at c1
  refine jd (AW.seq (AW.block (sr ?_)));refine go [.m,.N,.a,.Z,.R,.m,.m,.N,.m,.i,.G,.N] (k:=?_);refine cv hE rfl rfl (bf.gE (hp (l.getD i.k En.ab)) ⟨⟨_,rfl,au⟩,⟨_,rfl,au⟩,⟨_,rfl,au⟩,⟨_,rfl,(cB (λc hc=>match c,hc with|0,_=>au|c+1,hc=>absurd hc (by simp only[En.n];omega)))⟩,trivial⟩ rfl rfl rfl) ?_;refine go [.Z] (k:=?_);refine cd (λc2=>?_) λc2=>?_
  ·try simp only[ai]at c2
   refine go [.R,.m,.N,.a,.Z] (k:=?_);refine aM 4 ?_;rw[dc i En.ab (by omega) c2];rfl
  try simp only[ai]at c2
  refine go [.J,.R1,.b,.m,.Z] (k:=?_);refine⟨⟨i.k+1,by omega,i.next En.ab (by omega) c2⟩,ws,?_⟩;show l.length-(i.k+1)<l.length-i.k;omega
 try simp only[ai]at c1
 refine AW.exit ?_;dsimp only[aJ,ay,reduceIte];refine go [.R,.a,.Z] (k:=?_);refine aM 4 ?_;rw[cD i (by omega)];rfl
theorem sL(u:bt)(pid:Int):bf Tryz.prog 194 [.g [.v (iv u.Next), .v (iv u.bF), .h aa [], .h (aa+1) [], .h (aa+2) [], .h (aa+3) [], .h (aa+4) [], .h (aa+5) [], .h (aa+6) []], .v (iv pid)] [.rt aa .ro (tr u.aV), .rt (aa+1) .ro (tr u.ah), .rt (aa+2) .ro (tr u.ax), .rt (aa+3) .ro (tr u.ao), .rt (aa+4) .ro (tr u.aC), .rt (aa+5) .ro (tr u.aR), .rt (aa+6) .ro (tr u.Out)] (λy _=>y= .v (iv (kg u pid))):=by
 refine ob Tryz.func194 Tryz.ntmps194 ?_;refine go [.R,.B,.N,.B,.N,.a,.Z,.R,.f,.l,.N] (k:=?_);refine qq Qt.makeFunc ?_;refine cv Tryz.call228 rfl rfl (bf.gE (s0 pid Tryz.call229 (λx=>sH pid x) u.ah) ⟨⟨_,rfl,au⟩,⟨_,rfl,(cB (λc hc=>match c,hc with|0,_=>au|c+1,hc=>absurd hc (by simp only[En.n];omega)))⟩,trivial⟩ rfl rfl rfl) ?_;refine go [.N,.a,.Z] (k:=?_);refine aM 4 ?_;rfl
theorem sj(id:Int)(o:aw):bf Tryz.prog 231 [.g [.v (iv o.Id), .v (iv o.Kind), .v (iv o.Target), .v (iv o.mi), .v (iv o.gK)], .p aa [] 1 0 0] [.rt aa .ro (tr [id])] (λy _=>y= .v (.bool (o.Id==id))):=by
 refine ob Tryz.func231 Tryz.ntmps231 ?_;refine go [.R,.B,.N,.a,.Z,.R,.f,.l,.N,.l,.b,.a,.Z] (k:=?_);refine aM 3 ?_;rfl
theorem sC{fid:FuncId}{p:aw→Bool}(u0:Int)(hE:l4 Tryz.prog fid)(hp:∀x:aw,bf Tryz.prog fid [.g [.v (iv x.Id), .v (iv x.Kind), .v (iv x.Target), .v (iv x.mi), .v (iv x.gK)], .p aa [] 1 0 0] [.rt aa .ro (tr [u0])] (λy _=>y= .v (.bool (p x))))(l:List aw):bf Tryz.prog 230 [.h aa [], .f fid [.p (aa+1) [] 1 0 0]] [.rt aa .ro (tr l), .rt (aa+1) .ro (tr [u0])] (λy _=>y= .v (iv (gg p l))):=by
 refine ob Tryz.func230 Tryz.ntmps230 ?_;refine AW.len aa [] rfl (by simp[ck]) rfl (λhl=>?_);refine go [.R,.a,.Z,.R2,.m,.h,.N,.m,.Z] (k:=?_);refine AW.block ?_;refine AW.bw (λi:fw p l=>[.sl 8 (.v (iv i.k)), .sl 7 (.v (iv l.length)), .sl 0 (.h aa []), .sl 1 (.f fid [.p (aa+1) [] 1 0 0]), .rt aa .ro (tr l), .rt (aa+1) .ro (tr [u0])]) (λi=>l.length-i.k) ⟨0,zero_le _,rfl⟩ (ws) ?_;intro i;have hle:=i.le;refine go [.R,.b,.Z] (k:=?_);refine AW.seq ?_;refine cd (λc1=>?_) λc1=>?_
 ·try simp only[ai]at c1
  refine jd (AW.seq (AW.block (sr ?_)));refine go [.m,.N,.a,.Z,.R,.m,.m,.N,.m,.i,.G,.N] (k:=?_);refine cv hE rfl rfl (bf.gE (hp (l.getD i.k En.ab)) ⟨⟨_,rfl,(cB (λc hc=>match c,hc with|0,_=>au|c+1,hc=>absurd hc (by simp only[En.n];omega)))⟩,trivial⟩ rfl rfl rfl) ?_;refine go [.Z] (k:=?_);refine cd (λc2=>?_) λc2=>?_
  ·try simp only[ai]at c2
   refine go [.R,.m,.N,.a,.Z] (k:=?_);refine aM 4 ?_;rw[dc i En.ab (by omega) c2];rfl
  try simp only[ai]at c2
  refine go [.J,.R1,.b,.m,.Z] (k:=?_);refine⟨⟨i.k+1,by omega,i.next En.ab (by omega) c2⟩,ws,?_⟩;show l.length-(i.k+1)<l.length-i.k;omega
 try simp only[ai]at c1
 refine AW.exit ?_;dsimp only[aJ,ay,reduceIte];refine go [.R,.a,.Z] (k:=?_);refine aM 4 ?_;rw[cD i (by omega)];rfl
theorem kj(u:bt)(id:Int):bf Tryz.prog 197 [.g [.v (iv u.Next), .v (iv u.bF), .h aa [], .h (aa+1) [], .h (aa+2) [], .h (aa+3) [], .h (aa+4) [], .h (aa+5) [], .h (aa+6) []], .v (iv id)] [.rt aa .ro (tr u.aV), .rt (aa+1) .ro (tr u.ah), .rt (aa+2) .ro (tr u.ax), .rt (aa+3) .ro (tr u.ao), .rt (aa+4) .ro (tr u.aC), .rt (aa+5) .ro (tr u.aR), .rt (aa+6) .ro (tr u.Out)] (λy _=>y= .v (iv (lk u id))):=by
 refine ob Tryz.func197 Tryz.ntmps197 ?_;refine go [.R,.B,.N,.B,.N,.a,.Z,.R,.f,.l,.N] (k:=?_);refine qq Qt.makeFunc ?_;refine cv Tryz.call230 rfl rfl (bf.gE (sC id Tryz.call231 (λx=>sj id x) u.ax) ⟨⟨_,rfl,au⟩,⟨_,rfl,(cB (λc hc=>match c,hc with|0,_=>au|c+1,hc=>absurd hc (by simp only[En.n];omega)))⟩,trivial⟩ rfl rfl rfl) ?_;refine go [.N,.a,.Z] (k:=?_);refine aM 4 ?_;rfl
theorem tD(id:Int)(p:cR):bf Tryz.prog 235 [.g [.v (iv p.Id), .h aa []], .p (aa+1) [] 1 0 0] [.rt aa .ro (tr p.Data), .rt (aa+1) .ro (tr [id])] (λy _=>y= .v (.bool (p.Id==id))):=by
 refine ob Tryz.func235 Tryz.ntmps235 ?_;refine go [.R,.B,.N,.a,.Z,.R,.f,.l,.N,.l,.b,.a,.Z] (k:=?_);refine aM 3 ?_;rfl
theorem sI{fid:FuncId}{p:cR→Bool}(u0:Int)(hE:l4 Tryz.prog fid)(hp:∀x:cR,bf Tryz.prog fid [.g [.v (iv x.Id), .h aa []], .p (aa+1) [] 1 0 0] [.rt aa .ro (tr x.Data), .rt (aa+1) .ro (tr [u0])] (λy _=>y= .v (.bool (p x))))(l:List cR):bf Tryz.prog 234 [.h aa [], .f fid [.p (aa+1) [] 1 0 0]] [.rt aa .ro (tr l), .rt (aa+1) .ro (tr [u0])] (λy _=>y= .v (iv (gg p l))):=by
 refine ob Tryz.func234 Tryz.ntmps234 ?_;refine AW.len aa [] rfl (by simp[ck]) rfl (λhl=>?_);refine go [.R,.a,.Z,.R2,.m,.h,.N,.m,.Z] (k:=?_);refine AW.block ?_;refine AW.bw (λi:fw p l=>[.sl 8 (.v (iv i.k)), .sl 7 (.v (iv l.length)), .sl 0 (.h aa []), .sl 1 (.f fid [.p (aa+1) [] 1 0 0]), .rt aa .ro (tr l), .rt (aa+1) .ro (tr [u0])]) (λi=>l.length-i.k) ⟨0,zero_le _,rfl⟩ (ws) ?_;intro i;have hle:=i.le;refine go [.R,.b,.Z] (k:=?_);refine AW.seq ?_;refine cd (λc1=>?_) λc1=>?_
 ·try simp only[ai]at c1
  refine jd (AW.seq (AW.block (sr ?_)));refine go [.m,.N,.a,.Z,.R,.m,.m,.N,.m,.i,.G,.N] (k:=?_);refine cv hE rfl rfl (bf.gE (hp (l.getD i.k En.ab)) ⟨⟨_,rfl,au⟩,⟨_,rfl,(cB (λc hc=>match c,hc with|0,_=>au|c+1,hc=>absurd hc (by simp only[En.n];omega)))⟩,trivial⟩ rfl rfl rfl) ?_;refine go [.Z] (k:=?_);refine cd (λc2=>?_) λc2=>?_
  ·try simp only[ai]at c2
   refine go [.R,.m,.N,.a,.Z] (k:=?_);refine aM 4 ?_;rw[dc i En.ab (by omega) c2];rfl
  try simp only[ai]at c2
  refine go [.J,.R1,.b,.m,.Z] (k:=?_);refine⟨⟨i.k+1,by omega,i.next En.ab (by omega) c2⟩,ws,?_⟩;show l.length-(i.k+1)<l.length-i.k;omega
 try simp only[ai]at c1
 refine AW.exit ?_;dsimp only[aJ,ay,reduceIte];refine go [.R,.a,.Z] (k:=?_);refine aM 4 ?_;rw[cD i (by omega)];rfl
theorem ey(u:bt)(id:Int):bf Tryz.prog 201 [.g [.v (iv u.Next), .v (iv u.bF), .h aa [], .h (aa+1) [], .h (aa+2) [], .h (aa+3) [], .h (aa+4) [], .h (aa+5) [], .h (aa+6) []], .v (iv id)] [.rt aa .ro (tr u.aV), .rt (aa+1) .ro (tr u.ah), .rt (aa+2) .ro (tr u.ax), .rt (aa+3) .ro (tr u.ao), .rt (aa+4) .ro (tr u.aC), .rt (aa+5) .ro (tr u.aR), .rt (aa+6) .ro (tr u.Out)] (λy _=>y= .v (iv (oy u id))):=by
 refine ob Tryz.func201 Tryz.ntmps201 ?_;refine go [.R,.B,.N,.B,.N,.a,.Z,.R,.f,.l,.N] (k:=?_);refine qq Qt.makeFunc ?_;refine cv Tryz.call234 rfl rfl (bf.gE (sI id Tryz.call235 (λx=>tD id x) u.ao) ⟨⟨_,rfl,au⟩,⟨_,rfl,(cB (λc hc=>match c,hc with|0,_=>au|c+1,hc=>absurd hc (by simp only[En.n];omega)))⟩,trivial⟩ rfl rfl rfl) ?_;refine go [.N,.a,.Z] (k:=?_);refine aM 4 ?_;rfl
theorem tl(name:Int)(f:cm):bf Tryz.prog 233 [.g [.v (iv f.Name), .h aa []], .p (aa+1) [] 1 0 0] [.rt aa .ro (tr f.Data), .rt (aa+1) .ro (tr [name])] (λy _=>y= .v (.bool (f.Name==name))):=by
 refine ob Tryz.func233 Tryz.ntmps233 ?_;refine go [.R,.B,.N,.a,.Z,.R,.f,.l,.N,.l,.b,.a,.Z] (k:=?_);refine aM 3 ?_;rfl
theorem sw{fid:FuncId}{p:cm→Bool}(u0:Int)(hE:l4 Tryz.prog fid)(hp:∀x:cm,bf Tryz.prog fid [.g [.v (iv x.Name), .h aa []], .p (aa+1) [] 1 0 0] [.rt aa .ro (tr x.Data), .rt (aa+1) .ro (tr [u0])] (λy _=>y= .v (.bool (p x))))(l:List cm):bf Tryz.prog 232 [.h aa [], .f fid [.p (aa+1) [] 1 0 0]] [.rt aa .ro (tr l), .rt (aa+1) .ro (tr [u0])] (λy _=>y= .v (iv (gg p l))):=by
 refine ob Tryz.func232 Tryz.ntmps232 ?_;refine AW.len aa [] rfl (by simp[ck]) rfl (λhl=>?_);refine go [.R,.a,.Z,.R2,.m,.h,.N,.m,.Z] (k:=?_);refine AW.block ?_;refine AW.bw (λi:fw p l=>[.sl 8 (.v (iv i.k)), .sl 7 (.v (iv l.length)), .sl 0 (.h aa []), .sl 1 (.f fid [.p (aa+1) [] 1 0 0]), .rt aa .ro (tr l), .rt (aa+1) .ro (tr [u0])]) (λi=>l.length-i.k) ⟨0,zero_le _,rfl⟩ (ws) ?_;intro i;have hle:=i.le;refine go [.R,.b,.Z] (k:=?_);refine AW.seq ?_;refine cd (λc1=>?_) λc1=>?_
 ·try simp only[ai]at c1
  refine jd (AW.seq (AW.block (sr ?_)));refine go [.m,.N,.a,.Z,.R,.m,.m,.N,.m,.i,.G,.N] (k:=?_);refine cv hE rfl rfl (bf.gE (hp (l.getD i.k En.ab)) ⟨⟨_,rfl,au⟩,⟨_,rfl,(cB (λc hc=>match c,hc with|0,_=>au|c+1,hc=>absurd hc (by simp only[En.n];omega)))⟩,trivial⟩ rfl rfl rfl) ?_;refine go [.Z] (k:=?_);refine cd (λc2=>?_) λc2=>?_
  ·try simp only[ai]at c2
   refine go [.R,.m,.N,.a,.Z] (k:=?_);refine aM 4 ?_;rw[dc i En.ab (by omega) c2];rfl
  try simp only[ai]at c2
  refine go [.J,.R1,.b,.m,.Z] (k:=?_);refine⟨⟨i.k+1,by omega,i.next En.ab (by omega) c2⟩,ws,?_⟩;show l.length-(i.k+1)<l.length-i.k;omega
 try simp only[ai]at c1
 refine AW.exit ?_;dsimp only[aJ,ay,reduceIte];refine go [.R,.a,.Z] (k:=?_);refine aM 4 ?_;rw[cD i (by omega)];rfl
theorem iX(u:bt)(name:Int):bf Tryz.prog 200 [.g [.v (iv u.Next), .v (iv u.bF), .h aa [], .h (aa+1) [], .h (aa+2) [], .h (aa+3) [], .h (aa+4) [], .h (aa+5) [], .h (aa+6) []], .v (iv name)] [.rt aa .ro (tr u.aV), .rt (aa+1) .ro (tr u.ah), .rt (aa+2) .ro (tr u.ax), .rt (aa+3) .ro (tr u.ao), .rt (aa+4) .ro (tr u.aC), .rt (aa+5) .ro (tr u.aR), .rt (aa+6) .ro (tr u.Out)] (λy _=>y= .v (iv (kq u name))):=by
 refine ob Tryz.func200 Tryz.ntmps200 ?_;refine go [.R,.B,.N,.B,.N,.a,.Z,.R,.f,.l,.N] (k:=?_);refine qq Qt.makeFunc ?_;refine cv Tryz.call232 rfl rfl (bf.gE (sw name Tryz.call233 (λx=>tl name x) u.aC) ⟨⟨_,rfl,au⟩,⟨_,rfl,(cB (λc hc=>match c,hc with|0,_=>au|c+1,hc=>absurd hc (by simp only[En.n];omega)))⟩,trivial⟩ rfl rfl rfl) ?_;refine go [.N,.a,.Z] (k:=?_);refine aM 4 ?_;rfl
theorem v_(o:aw)(pipe:Int):bf Tryz.prog 204 [.g [.v (iv o.Id), .v (iv o.Kind), .v (iv o.Target), .v (iv o.mi), .v (iv o.gK)], .v (iv pipe)] [] (λy _=>y= .v (.bool (nL pipe o))):=by
 refine ob Tryz.func204 Tryz.ntmps204 ?_;refine go [.R,.B,.N,.a,.Z,.R,.f,.l,.N,.b,.m] (k:=?_);apply az.cut 3
 ·intro Kg1;refine az.bA 8 rfl (λg1=>?_) (λg1=>?_)
  ·refine go [.f,.N,.l,.b] (k:=?_);exact bZ 11 [9,10,11] (bY g1 _ undef) Kg1
  ·refine go [.x,.x,.x] (k:=?_);exact bX 11 [9,10,11] (b6 g1 undef _) Kg1
 refine qq (Qt.bz rfl rfl rfl) ?_;refine go [.N,.m] (k:=?_);apply az.cut 4
 ·intro Kg2;refine az.split 13 rfl (λg2=>?_) (λg2=>?_)
  ·refine go [.f,.l,.N,.m,.b] (k:=?_);exact bZ 17 [14,15,16,17] (b6 g2 _ undef) Kg2
  ·refine go [.x,.x,.x,.x] (k:=?_);exact bX 17 [14,15,16,17] (bY g2 undef _) Kg2
 refine qq (Qt.aD rfl rfl rfl) ?_;refine go [.N,.a,.Z] (k:=?_);refine aM 4 ?_;rfl
theorem mP(u:bt)(p:bG):bf Tryz.prog 195 [.g [.v (iv u.Next), .v (iv u.bF), .h aa [], .h (aa+1) [], .h (aa+2) [], .h (aa+3) [], .h (aa+4) [], .h (aa+5) [], .h (aa+6) []], .g [.v (iv p.fc), .v (iv p.b_), .v (iv p.State), .v (iv p.ft), .v (iv p.d_.Pc), .h (aa+7) [], .h (aa+8) [], .h (aa+9) [], .v (iv p.di), .v (iv p.Code)]] [.rt aa .ro (tr u.aV), .rt (aa+1) .ro (tr u.ah), .rt (aa+2) .ro (tr u.ax), .rt (aa+3) .ro (tr u.ao), .rt (aa+4) .ro (tr u.aC), .rt (aa+5) .ro (tr u.aR), .rt (aa+6) .ro (tr u.Out), .rt (aa+7) .ro (tr p.d_.cy), .rt (aa+8) .ro (tr p.Mem), .rt (aa+9) .ro (tr p.cV)] (λy _=>y= .v (.bool (bU u p))):=by
 refine ob Tryz.func195 Tryz.ntmps195 ?_;refine go [.R,.B,.N,.B,.N,.a,.Z,.R2,.f,.l,.Z] (k:=?_);refine AW.block (sr ?_);refine go [.b,.N,.a,.Z] (k:=?_);refine cd (λc1=>?_) λc1=>?_
 ·try simp only[ai]at c1
  refine go [.R,.f,.l,.N,.f,.l,.b,.N,.a,.Z] (k:=?_);refine aM 4 ?_;refine rb ?_;simp only[bU];grind only
 try simp only[ai]at c1
 refine go [.R2,.b,.a,.Z] (k:=?_);refine cd (λc2=>?_) λc2=>?_
 ·have k2:=c2
  try simp only[ai]at c2
  refine go [.J] (k:=?_);refine AW.jU rfl k2 ?_;refine go [.R,.f,.N,.l,.f,.l,.N] (k:=?_);refine cv Tryz.call155 rfl rfl (jk _ _) ?_;refine go [.N,.m] (k:=?_);apply az.cut 5
  ·intro Kg3;refine az.split 22 rfl (λg3=>?_) (λg3=>?_)
   ·refine go [.G,.f,.N,.l] (k:=?_);refine az.step rfl g3 (aK.aL rfl (by decide) Tryz.call197 rfl rfl (kj u _)) ?_;refine go [.N,.b] (k:=?_);exact bZ 27 [23,24,25,26,27] (b6 g3 _ undef) Kg3
   ·refine go [.x,.x,.x,.x,.N,.x] (k:=?_);exact bX 27 [23,24,25,26,27] (bY g3 undef _) Kg3
  refine qq (Qt.aD rfl rfl rfl) ?_;refine go [.a,.Z] (k:=?_);refine aM 4 ?_;refine rb ?_;simp only[bU];grind only
 have k2:=c2
 try simp only[ai]at c2
 refine go [.R1,.b,.N,.a,.Z] (k:=?_);refine cd (λc4=>?_) λc4=>?_
 ·try simp only[ai]at c4
  refine go [.R,.f,.l,.N,.f,.l] (k:=?_);refine cv Tryz.call155 rfl rfl (jk _ _) ?_;refine go [.N,.m] (k:=?_);apply az.cut 5
  ·intro Kg5;refine az.split 22 rfl (λg5=>?_) (λg5=>?_)
   ·refine go [.G,.f,.N,.l] (k:=?_);refine az.step rfl g5 (aK.aL rfl (by decide) Tryz.call197 rfl rfl (kj u _)) ?_;refine go [.N,.b] (k:=?_);exact bZ 27 [23,24,25,26,27] (b6 g5 _ undef) Kg5
   ·refine go [.x,.x,.x,.x,.N,.x] (k:=?_);exact bX 27 [23,24,25,26,27] (bY g5 undef _) Kg5
  refine qq (Qt.aD rfl rfl rfl) ?_;refine go [.a,.Z] (k:=?_);refine aM 4 ?_;refine rb ?_;simp only[bU];grind only
 try simp only[ai]at c4
 refine go [.J,.R,.f,.N,.l,.b,.a,.Z] (k:=?_);refine aM 4 ?_;refine rb ?_;simp only[bU];grind only
open Go Go.RowKit Go.Proofs
def wG(jo:List Int)(f:Int):List Int:=(jo.drop (f*4).toNat).take 4
def jG(jo fs:List Int)(k:Nat):List Int:=((fs.take k).map (wG jo)).flatten
theorem e_(l:List Int)(hs:l.length≤4194304):bf Tryz.prog 39 [.h aa []] [.rt aa .ro (tr l)] (jY (.h 0 []) [(0, .row,tr l)]):=by
 refine ob Tryz.func39 Tryz.ntmps39 ?_;refine sr ?_;refine qn ?_;refine bP ?_;refine qm ?_;refine az.nj rfl rfl rfl (by decide) rfl rfl rfl jj ?_;intro b1 hb1;refine nc (λc2=>?_) λc2=>?_
 ·try simp only[ai]at c2
  refine sr ?_;refine qn ?_;have hl0:l=[]:=eq_nil_of_length_eq_zero (hb1 c2);subst hl0;refine AW.k7 2 900 1 (by omega) rfl rfl (by decide) ?_;refine AW.bQ 900 (tr ([]:List Int)) rfl bS ?_;refine aM 2 ?_;refine⟨λ_=>900,rfl,ak rfl,?_⟩;intro r hr;cases List.mem_singleton.1 hr;exact⟨by simp,aq rfl⟩
 try simp only[ai]at c2
 refine jd (sr ?_);refine sp sS ?_;refine nm ?_;refine qm ?_;refine sp (by first|exact aK.cW rfl (by decide) (by decide) rfl rfl (by omega)|exact aK.bu rfl (by decide) (by decide) rfl rfl rfl (by omega)) ?_;refine nm ?_;refine qn ?_;refine AW.bQ 7 (tr l) rfl (dJ (α:=Int)) ?_;refine aM 2 ?_;refine⟨λ_=>7,rfl,ak rfl,?_⟩;intro r hr;cases List.mem_singleton.1 hr;exact⟨by simp,aq rfl⟩
open Go Go.RowKit Go.Proofs
theorem mj{jo fs:List Int}{k:Nat}(h:k<fs.length):jG jo fs (k+1)=jG jo fs k++wG jo (fs.getD k En.ab):=by
 unfold jG;rw[take_add_one,getElem?_eq_getElem h,map_append,flatten_append,getD_eq_getElem?_getD,getElem?_eq_getElem h];simp
theorem rf(jo:List Int)(f:Int):(wG jo f).length≤4:=by
 unfold wG;rw[length_take];omega
theorem ov(jo fs:List Int):∀k,k≤fs.length→(jG jo fs k).length≤4*k
 | 0,_=>by simp[jG]
 | k+1,h=>by
  rw[mj (by omega),length_append];have:=ov jo fs k (by omega);have:=rf jo (fs.getD k En.ab);omega
theorem ls{a b:Int}(h:b≠0):dV .rem (iv a) (iv b)=some (iv (a.tmod b)):=by
 show(if b=0 then none else some (Value.int .i64 (a.tmod b)))=_;rw[if_neg h]
theorem oR(jo:List Int)(f:Int)(hr:jo.length=64)(h0:0≤f)(h1:f≤15):bf Tryz.prog 117 [.h aa [], .v (iv f)] [.rt aa .ro (tr jo)] (cn (.a aa [] 1 (f*4).toNat (((f+1)*4).toNat-(f*4).toNat)) [] []):=by
 refine ob Tryz.func117 Tryz.ntmps117 ?_;refine sr ?_;refine fi ?_;refine qm ?_;refine mn ?_;refine qq (Qt.binOp rfl rfl (by first|exact eJ (by omega)|rfl)) ?_;refine qm ?_;refine ba ?_;refine nm ?_;refine qq (Qt.binOp rfl rfl (by first|exact eJ (by omega)|rfl)) ?_;refine qq (Qt.xA rfl rfl rfl jj fX (by decide) (rB rfl (by omega)) (rB rfl (by omega)) (by omega) (by omega)) ?_;refine qr 4 ?_;exact⟨λn=>n,rfl,λ_ _=>rfl,nodup_nil,by simp,by simp⟩
end Go.Proofs.YtekcnnngjoonbaaGreat.VM
