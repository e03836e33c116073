/- Contracts. No conditions. -/
import Derived.Test.YtekcnnngjoonbaaGreatWi
set_option linter.all false
set_option maxHeartbeats 8000000
set_option maxRecDepth 10000
namespace Go.Proofs.YtekcnnngjoonbaaGreat.VM
open List Nat
open Go Go.RowKit Go.Proofs
theorem uJ(u:bt)(pid:Int):bf Tryz.prog 184 [.g [.v (iv u.Next), .v (iv u.bF), .h aa [], .h (aa+1) [], .h (aa+2) [], .h (aa+3) [], .h (aa+4) [], .h (aa+5) [], .h (aa+6) []], .v (iv pid)] [.rt aa .ro (tr u.aV), .rt (aa+1) .ro (tr u.ah), .rt (aa+2) .ro (tr u.ax), .rt (aa+3) .ro (tr u.ao), .rt (aa+4) .ro (tr u.aC), .rt (aa+5) .ro (tr u.aR), .rt (aa+6) .ro (tr u.Out)] (λy _=>y= .v (iv (kg u pid))):=by
 refine ob Tryz.func184 Tryz.ntmps184 ?_;refine AW.len (aa+1) [] rfl (by simp[ck]) rfl (λhl=>?_);refine go [.R,.B,.N,.a,.Z,.R2,.a,.Z] (k:=?_);refine AW.block ?_;refine AW.bw (λi:fw (λp=>p.fc==pid) u.ah=>[.sl 5 (.v (iv i.k)), .sl 1 (.v (iv pid)), .rt 2 .box (T.s 9 1 λk c=>([(T.v (iv u.Next),none),(T.v (iv u.bF),none),(T.j,none),(T.j,none),(T.j,none),(T.j,none),(T.j,none),(T.j,none),(T.j,none)].getD (k*9+c) (T.j,none)).fst), .al 2 2 (.h aa []), .al 2 3 (.h (aa+1) []), .al 2 4 (.h (aa+2) []), .al 2 5 (.h (aa+3) []), .al 2 6 (.h (aa+4) []), .al 2 7 (.h (aa+5) []), .al 2 8 (.h (aa+6) []), .rt aa .ro (tr u.aV), .rt (aa+1) .ro (tr u.ah), .rt (aa+2) .ro (tr u.ax), .rt (aa+3) .ro (tr u.ao), .rt (aa+4) .ro (tr u.aC), .rt (aa+5) .ro (tr u.aR), .rt (aa+6) .ro (tr u.Out), .sl 2 (.p 2 [] 9 0 0)]) (λi=>u.ah.length-i.k) ⟨0,zero_le _,rfl⟩ (ws) ?_;intro i;have hle:=i.le;refine go [.R2,.m,.N,.f,.l,.h,.N,.b,.Z] (k:=?_);refine cd (λc1=>?_) λc1=>?_
 ·try simp only[ai]at c1
  refine jd (AW.seq (AW.block (sr ?_)));refine go [.f,.l,.N,.m,.i,.f,.N,.l,.m,.b,.Z] (k:=?_);refine cd (λc2=>?_) λc2=>?_
  ·have k2:=c2
   try simp only[ai]at c2
   refine go [.R,.m,.N,.a,.Z] (k:=?_);refine aM 4 ?_;rw[show kg u pid=(i.k:Nat)from dc i En.ab (by omega) k2];rfl
  have k2:=c2
  try simp only[ai]at c2
  refine go [.J,.R1,.m,.b,.N,.a,.Z] (k:=?_);refine⟨⟨i.k+1,by omega,i.next En.ab (by omega) k2⟩,ws,?_⟩;show u.ah.length-(i.k+1)<u.ah.length-i.k;omega
 try simp only[ai]at c1
 refine AW.exit ?_;dsimp only[aJ,ay,reduceIte];refine go [.R,.a,.Z] (k:=?_);refine aM 4 ?_;rw[show kg u pid= -1 from cD i (by omega)];rfl
theorem iM(u:bt)(id:Int):bf Tryz.prog 183 [.g [.v (iv u.Next), .v (iv u.bF), .h aa [], .h (aa+1) [], .h (aa+2) [], .h (aa+3) [], .h (aa+4) [], .h (aa+5) [], .h (aa+6) []], .v (iv id)] [.rt aa .ro (tr u.aV), .rt (aa+1) .ro (tr u.ah), .rt (aa+2) .ro (tr u.ax), .rt (aa+3) .ro (tr u.ao), .rt (aa+4) .ro (tr u.aC), .rt (aa+5) .ro (tr u.aR), .rt (aa+6) .ro (tr u.Out)] (λy _=>y= .v (iv (lk u id))):=by
 refine ob Tryz.func183 Tryz.ntmps183 ?_;refine AW.len (aa+2) [] rfl (by simp[ck]) rfl (λhl=>?_);refine go [.R,.B,.N,.a,.Z,.R2,.a,.Z] (k:=?_);refine AW.block ?_;refine AW.bw (λi:fw (λp=>p.Id==id) u.ax=>[.sl 5 (.v (iv i.k)), .sl 1 (.v (iv id)), .rt 2 .box (T.s 9 1 λk c=>([(T.v (iv u.Next),none),(T.v (iv u.bF),none),(T.j,none),(T.j,none),(T.j,none),(T.j,none),(T.j,none),(T.j,none),(T.j,none)].getD (k*9+c) (T.j,none)).fst), .al 2 2 (.h aa []), .al 2 3 (.h (aa+1) []), .al 2 4 (.h (aa+2) []), .al 2 5 (.h (aa+3) []), .al 2 6 (.h (aa+4) []), .al 2 7 (.h (aa+5) []), .al 2 8 (.h (aa+6) []), .rt aa .ro (tr u.aV), .rt (aa+1) .ro (tr u.ah), .rt (aa+2) .ro (tr u.ax), .rt (aa+3) .ro (tr u.ao), .rt (aa+4) .ro (tr u.aC), .rt (aa+5) .ro (tr u.aR), .rt (aa+6) .ro (tr u.Out), .sl 2 (.p 2 [] 9 0 0)]) (λi=>u.ax.length-i.k) ⟨0,zero_le _,rfl⟩ (ws) ?_;intro i;have hle:=i.le;refine go [.R2,.m,.N,.f,.l,.h,.N,.b,.Z] (k:=?_);refine cd (λc1=>?_) λc1=>?_
 ·try simp only[ai]at c1
  refine jd (AW.seq (AW.block (sr ?_)));refine go [.f,.l,.N,.m,.i,.f,.N,.l,.m,.b,.Z] (k:=?_);refine cd (λc2=>?_) λc2=>?_
  ·have k2:=c2
   try simp only[ai]at c2
   refine go [.R,.m,.N,.a,.Z] (k:=?_);refine aM 4 ?_;rw[show lk u id=(i.k:Nat)from dc i En.ab (by omega) k2];rfl
  have k2:=c2
  try simp only[ai]at c2
  refine go [.J,.R1,.m,.b,.N,.a,.Z] (k:=?_);refine⟨⟨i.k+1,by omega,i.next En.ab (by omega) k2⟩,ws,?_⟩;show u.ax.length-(i.k+1)<u.ax.length-i.k;omega
 try simp only[ai]at c1
 refine AW.exit ?_;dsimp only[aJ,ay,reduceIte];refine go [.R,.a,.Z] (k:=?_);refine aM 4 ?_;rw[show lk u id= -1 from cD i (by omega)];rfl
theorem oi(u:bt)(id:Int):bf Tryz.prog 224 [.g [.v (iv u.Next), .v (iv u.bF), .h aa [], .h (aa+1) [], .h (aa+2) [], .h (aa+3) [], .h (aa+4) [], .h (aa+5) [], .h (aa+6) []], .v (iv id)] [.rt aa .ro (tr u.aV), .rt (aa+1) .ro (tr u.ah), .rt (aa+2) .ro (tr u.ax), .rt (aa+3) .ro (tr u.ao), .rt (aa+4) .ro (tr u.aC), .rt (aa+5) .ro (tr u.aR), .rt (aa+6) .ro (tr u.Out)] (λy _=>y= .v (iv (oy u id))):=by
 refine ob Tryz.func224 Tryz.ntmps224 ?_;refine AW.len (aa+3) [] rfl (by simp[ck]) rfl (λhl=>?_);refine go [.R,.B,.N,.a,.Z,.R2,.a,.Z] (k:=?_);refine AW.block ?_;refine AW.bw (λi:fw (λp=>p.Id==id) u.ao=>[.sl 5 (.v (iv i.k)), .sl 1 (.v (iv id)), .rt 2 .box (T.s 9 1 λk c=>([(T.v (iv u.Next),none),(T.v (iv u.bF),none),(T.j,none),(T.j,none),(T.j,none),(T.j,none),(T.j,none),(T.j,none),(T.j,none)].getD (k*9+c) (T.j,none)).fst), .al 2 2 (.h aa []), .al 2 3 (.h (aa+1) []), .al 2 4 (.h (aa+2) []), .al 2 5 (.h (aa+3) []), .al 2 6 (.h (aa+4) []), .al 2 7 (.h (aa+5) []), .al 2 8 (.h (aa+6) []), .rt aa .ro (tr u.aV), .rt (aa+1) .ro (tr u.ah), .rt (aa+2) .ro (tr u.ax), .rt (aa+3) .ro (tr u.ao), .rt (aa+4) .ro (tr u.aC), .rt (aa+5) .ro (tr u.aR), .rt (aa+6) .ro (tr u.Out), .sl 2 (.p 2 [] 9 0 0)]) (λi=>u.ao.length-i.k) ⟨0,zero_le _,rfl⟩ (ws) ?_;intro i;have hle:=i.le;refine go [.R2,.m,.N,.f,.l,.h,.N,.b,.Z] (k:=?_);refine cd (λc1=>?_) λc1=>?_
 ·try simp only[ai]at c1
  refine jd (AW.seq (AW.block (sr ?_)));refine go [.f,.l,.N,.m,.i,.f,.N,.l,.m,.b,.Z] (k:=?_);refine cd (λc2=>?_) λc2=>?_
  ·have k2:=c2
   try simp only[ai]at c2
   refine go [.R,.m,.N,.a,.Z] (k:=?_);refine aM 4 ?_;rw[show oy u id=(i.k:Nat)from dc i En.ab (by omega) k2];rfl
  have k2:=c2
  try simp only[ai]at c2
  refine go [.J,.R1,.m,.b,.N,.a,.Z] (k:=?_);refine⟨⟨i.k+1,by omega,i.next En.ab (by omega) k2⟩,ws,?_⟩;show u.ao.length-(i.k+1)<u.ao.length-i.k;omega
 try simp only[ai]at c1
 refine AW.exit ?_;dsimp only[aJ,ay,reduceIte];refine go [.R,.a,.Z] (k:=?_);refine aM 4 ?_;rw[show oy u id= -1 from cD i (by omega)];rfl
theorem nQ(u:bt)(name:Int):bf Tryz.prog 223 [.g [.v (iv u.Next), .v (iv u.bF), .h aa [], .h (aa+1) [], .h (aa+2) [], .h (aa+3) [], .h (aa+4) [], .h (aa+5) [], .h (aa+6) []], .v (iv name)] [.rt aa .ro (tr u.aV), .rt (aa+1) .ro (tr u.ah), .rt (aa+2) .ro (tr u.ax), .rt (aa+3) .ro (tr u.ao), .rt (aa+4) .ro (tr u.aC), .rt (aa+5) .ro (tr u.aR), .rt (aa+6) .ro (tr u.Out)] (λy _=>y= .v (iv (kq u name))):=by
 refine ob Tryz.func223 Tryz.ntmps223 ?_;refine AW.len (aa+4) [] rfl (by simp[ck]) rfl (λhl=>?_);refine go [.R,.B,.N,.a,.Z,.R2,.a,.Z] (k:=?_);refine AW.block ?_;refine AW.bw (λi:fw (λp=>p.Name==name) u.aC=>[.sl 5 (.v (iv i.k)), .sl 1 (.v (iv name)), .rt 2 .box (T.s 9 1 λk c=>([(T.v (iv u.Next),none),(T.v (iv u.bF),none),(T.j,none),(T.j,none),(T.j,none),(T.j,none),(T.j,none),(T.j,none),(T.j,none)].getD (k*9+c) (T.j,none)).fst), .al 2 2 (.h aa []), .al 2 3 (.h (aa+1) []), .al 2 4 (.h (aa+2) []), .al 2 5 (.h (aa+3) []), .al 2 6 (.h (aa+4) []), .al 2 7 (.h (aa+5) []), .al 2 8 (.h (aa+6) []), .rt aa .ro (tr u.aV), .rt (aa+1) .ro (tr u.ah), .rt (aa+2) .ro (tr u.ax), .rt (aa+3) .ro (tr u.ao), .rt (aa+4) .ro (tr u.aC), .rt (aa+5) .ro (tr u.aR), .rt (aa+6) .ro (tr u.Out), .sl 2 (.p 2 [] 9 0 0)]) (λi=>u.aC.length-i.k) ⟨0,zero_le _,rfl⟩ (ws) ?_;intro i;have hle:=i.le;refine go [.R2,.m,.N,.f,.l,.h,.N,.b,.Z] (k:=?_);refine cd (λc1=>?_) λc1=>?_
 ·try simp only[ai]at c1
  refine jd (AW.seq (AW.block (sr ?_)));refine go [.f,.l,.N,.m,.i,.f,.N,.l,.m,.b,.Z] (k:=?_);refine cd (λc2=>?_) λc2=>?_
  ·have k2:=c2
   try simp only[ai]at c2
   refine go [.R,.m,.N,.a,.Z] (k:=?_);refine aM 4 ?_;rw[show kq u name=(i.k:Nat)from dc i En.ab (by omega) k2];rfl
  have k2:=c2
  try simp only[ai]at c2
  refine go [.J,.R1,.m,.b,.N,.a,.Z] (k:=?_);refine⟨⟨i.k+1,by omega,i.next En.ab (by omega) k2⟩,ws,?_⟩;show u.aC.length-(i.k+1)<u.aC.length-i.k;omega
 try simp only[ai]at c1
 refine AW.exit ?_;dsimp only[aJ,ay,reduceIte];refine go [.R,.a,.Z] (k:=?_);refine aM 4 ?_;rw[show kq u name= -1 from cD i (by omega)];rfl
theorem ic(l:List Int)(x:Int):bf Tryz.prog 143 [.h aa [], .v (iv x)] [.rt aa .ro (tr l)] (λy _=>y= .v (.bool (lf l x))):=by
 refine ob Tryz.func143 Tryz.ntmps143 ?_;refine AW.len (aa) [] rfl (by simp[ck]) rfl (λhl=>?_);refine go [.R,.a,.Z,.R2,.a,.Z] (k:=?_);refine AW.block ?_;refine AW.bw (λi:fx (λy=> !(y==x)) l=>[.sl 5 (.v (iv i.k)), .sl 0 (.h aa []), .sl 1 (.v (iv x)), .rt aa .ro (tr l)]) (λi=>l.length-i.k) ⟨0,zero_le _,rfl⟩ (ws) ?_;intro i;have hle:=i.le;refine go [.R2,.m,.N,.m,.h,.b,.Z] (k:=?_);refine cd (λc1=>?_) λc1=>?_
 ·try simp only[ai]at c1
  refine jd (AW.seq (AW.block (sr ?_)));refine go [.m,.N,.m,.i,.l,.N,.m,.b,.Z] (k:=?_);refine cd (λc2=>?_) λc2=>?_
  ·have k2:=c2
   try simp only[ai]at c2
   refine go [.R,.a,.Z] (k:=?_);refine aM 4 ?_;rw[show lf l x=true from by rw[sZ,i.stop En.ab (by omega) (by rw[k2];rfl)];rfl];rfl
  have k2:=c2
  try simp only[ai]at c2
  refine go [.J,.R1,.m,.N,.b,.a,.Z] (k:=?_);refine⟨⟨i.k+1,by omega,i.next En.ab (by omega) (by rw[k2];rfl)⟩,ws,?_⟩;show l.length-(i.k+1)<l.length-i.k;omega
 try simp only[ai]at c1
 refine AW.exit ?_;dsimp only[aJ,ay,reduceIte];refine go [.R,.a,.Z] (k:=?_);refine aM 4 ?_;rw[show lf l x=false from by rw[sZ,i.full (by omega)];rfl];rfl
theorem sX(u:bt)(hb:jw u):bf Tryz.prog 138 [.g [.v (iv u.Next), .v (iv u.bF), .h aa [], .h (aa+1) [], .h (aa+2) [], .h (aa+3) [], .h (aa+4) [], .h (aa+5) [], .h (aa+6) []]] [.rt aa .ro (tr u.aV), .rt (aa+1) .ro (tr u.ah), .rt (aa+2) .ro (tr u.ax), .rt (aa+3) .ro (tr u.ao), .rt (aa+4) .ro (tr u.aC), .rt (aa+5) .ro (tr u.aR), .rt (aa+6) .ro (tr u.Out)] (λy _=>y= .v (iv (iJ u.ah u.ah.length:Nat))):=by
 refine ob Tryz.func138 Tryz.ntmps138 ?_;refine AW.len (aa+1) [] rfl (by simp[ck]) rfl (λhl=>?_);have hmp:=pM hb;refine go [.R,.B,.N,.a,.Z,.R,.a,.Z,.R2,.a,.Z] (k:=?_);refine AW.block ?_;refine AW.bw (λi:ei u.ah.length=>[.sl 4 (.v (iv i.k)), .sl 3 (.v (iv (iJ u.ah i.k:Nat))), .rt 1 .box (T.s 9 1 λk c=>([(T.v (iv u.Next),none),(T.v (iv u.bF),none),(T.j,none),(T.j,none),(T.j,none),(T.j,none),(T.j,none),(T.j,none),(T.j,none)].getD (k*9+c) (T.j,none)).fst), .al 1 2 (.h aa []), .al 1 3 (.h (aa+1) []), .al 1 4 (.h (aa+2) []), .al 1 5 (.h (aa+3) []), .al 1 6 (.h (aa+4) []), .al 1 7 (.h (aa+5) []), .al 1 8 (.h (aa+6) []), .rt aa .ro (tr u.aV), .rt (aa+1) .ro (tr u.ah), .rt (aa+2) .ro (tr u.ax), .rt (aa+3) .ro (tr u.ao), .rt (aa+4) .ro (tr u.aC), .rt (aa+5) .ro (tr u.aR), .rt (aa+6) .ro (tr u.Out), .sl 1 (.p 1 [] 9 0 0)]) (λi=>u.ah.length-i.k) ⟨0,zero_le _⟩ (ws) ?_;intro i;have hle:=i.le;have hm1:i.k<u.ah.length→iJ u.ah (i.k+1)≤iJ u.ah u.ah.length:=λh=>dQ (by omega);have hs1:iJ u.ah (i.k+1)=iJ u.ah i.k+(u.ah.getD i.k En.ab).Mem.length / 4:=rfl;refine go [.R2,.m,.N,.f,.l,.h,.N,.b,.Z] (k:=?_);refine cd (λc1=>?_) λc1=>?_
 ·try simp only[ai]at c1
  refine AW.len (aa+1) [(10,i.k,6)] rfl (by refine⟨rfl,?_,by decide,trivial⟩;show i.k<u.ah.length;omega) rfl (λhl2=>?_);refine jd (AW.seq (AW.block (AW.region ?_)));refine go [.m,.f,.N,.l,.m,.i,.N,.f,.l,.h,.N] (k:=?_);refine qq (Qt.binOp rfl rfl (by first|exact z1 _ (by omega)|rfl)) ?_;refine go [.b,.a,.Z,.R1,.m,.N,.b,.a,.Z] (k:=?_);refine⟨⟨i.k+1,by omega⟩,ar.aZ ⟨fe,by simp only[aA,reduceIte,Nat.reduceEqDiff];congr 2;done,Rf rfl,⟨rfl,rfl⟩,⟨rfl,rfl⟩,⟨rfl,rfl⟩,⟨rfl,rfl⟩,⟨rfl,rfl⟩,⟨rfl,rfl⟩,⟨rfl,rfl⟩,Rf rfl,Rf rfl,Rf rfl,Rf rfl,Rf rfl,Rf rfl,Rf rfl,rfl,trivial⟩ rfl rfl,?_⟩;show u.ah.length-(i.k+1)<u.ah.length-i.k;omega
 try simp only[ai]at c1
 refine AW.exit ?_;dsimp only[aJ,ay,reduceIte];refine go [.R,.m,.N,.a,.Z] (k:=?_);refine aM 2 ?_;rw[show i.k=u.ah.length by omega];rfl
theorem bK(u:bt)(pipe kind:Int)(hb:jw u):bf Tryz.prog 186 [.g [.v (iv u.Next), .v (iv u.bF), .h aa [], .h (aa+1) [], .h (aa+2) [], .h (aa+3) [], .h (aa+4) [], .h (aa+5) [], .h (aa+6) []], .v (iv pipe), .v (iv kind)] [.rt aa .ro (tr u.aV), .rt (aa+1) .ro (tr u.ah), .rt (aa+2) .ro (tr u.ax), .rt (aa+3) .ro (tr u.ao), .rt (aa+4) .ro (tr u.aC), .rt (aa+5) .ro (tr u.aR), .rt (aa+6) .ro (tr u.Out)] (λy _=>y= .v (iv (jy u pipe kind u.ax.length:Nat))):=by
 refine ob Tryz.func186 Tryz.ntmps186 ?_;refine AW.len (aa+2) [] rfl (by simp[ck]) rfl (λhl=>?_);have hop:=hb.opens;refine go [.R,.B,.N,.a,.Z,.R,.a,.Z,.R2,.a,.Z] (k:=?_);refine AW.block ?_;refine AW.bw (λi:ei u.ax.length=>[.sl 8 (.v (iv i.k)), .sl 7 (.v (iv (jy u pipe kind i.k:Nat))), .sl 1 (.v (iv pipe)), .sl 2 (.v (iv kind)), .rt 3 .box (T.s 9 1 λk c=>([(T.v (iv u.Next),none),(T.v (iv u.bF),none),(T.j,none),(T.j,none),(T.j,none),(T.j,none),(T.j,none),(T.j,none),(T.j,none)].getD (k*9+c) (T.j,none)).fst), .al 3 2 (.h aa []), .al 3 3 (.h (aa+1) []), .al 3 4 (.h (aa+2) []), .al 3 5 (.h (aa+3) []), .al 3 6 (.h (aa+4) []), .al 3 7 (.h (aa+5) []), .al 3 8 (.h (aa+6) []), .rt aa .ro (tr u.aV), .rt (aa+1) .ro (tr u.ah), .rt (aa+2) .ro (tr u.ax), .rt (aa+3) .ro (tr u.ao), .rt (aa+4) .ro (tr u.aC), .rt (aa+5) .ro (tr u.aR), .rt (aa+6) .ro (tr u.Out), .sl 3 (.p 3 [] 9 0 0)]) (λi=>u.ax.length-i.k) ⟨0,zero_le _⟩ (ws) ?_;intro i;have hle:=i.le;have hm1:=lC u pipe kind i.k;have hs1:=oN u pipe kind i.k;refine go [.R2,.m,.N,.f,.l,.h,.N,.b,.Z] (k:=?_);refine cd (λc1=>?_) λc1=>?_
 ·try simp only[ai]at c1
  refine jd (AW.seq (AW.block (sr ?_)));refine go [.f,.l,.N,.m,.i,.f,.N,.l,.m,.b,.N,.m] (k:=?_);apply az.cut 8
  ·intro Kg2;refine az.split 24 rfl (λg2=>?_) (λg2=>?_)
   ·refine go [.f,.l,.N,.m,.i,.f,.N,.l,.m,.b,.N] (k:=?_);exact bZ 32 [25,26,27,28,29,30,31,32] (b6 g2 _ undef) Kg2
   ·refine go [.x,.x,.x,.x,.N,.x,.x,.x,.x] (k:=?_);exact bX 32 [25,26,27,28,29,30,31,32] (bY g2 undef _) Kg2
  refine qq (Qt.aD rfl rfl rfl) ?_;refine go [.Z] (k:=?_);refine cd (λc3=>?_) λc3=>?_
  ·try simp only[ai]at c3
   refine go [.R1,.m,.b,.N,.a,.Z,.R1,.m,.b,.N,.a,.Z] (k:=?_);refine⟨⟨i.k+1,by omega⟩,ar.aZ ⟨fe,by simp only[aA,reduceIte,Nat.reduceEqDiff];congr 2;rw[hs1];grind,rfl,rfl,Rf rfl,⟨rfl,rfl⟩,⟨rfl,rfl⟩,⟨rfl,rfl⟩,⟨rfl,rfl⟩,⟨rfl,rfl⟩,⟨rfl,rfl⟩,⟨rfl,rfl⟩,Rf rfl,Rf rfl,Rf rfl,Rf rfl,Rf rfl,Rf rfl,Rf rfl,rfl,trivial⟩ rfl rfl,?_⟩;show u.ax.length-(i.k+1)<u.ax.length-i.k;omega
  try simp only[ai]at c3
  refine go [.J,.R1,.m,.b,.N,.a,.Z] (k:=?_);refine⟨⟨i.k+1,by omega⟩,ar.aZ ⟨fe,by simp only[aA,reduceIte,Nat.reduceEqDiff];congr 2;rw[hs1];grind,rfl,rfl,Rf rfl,⟨rfl,rfl⟩,⟨rfl,rfl⟩,⟨rfl,rfl⟩,⟨rfl,rfl⟩,⟨rfl,rfl⟩,⟨rfl,rfl⟩,⟨rfl,rfl⟩,Rf rfl,Rf rfl,Rf rfl,Rf rfl,Rf rfl,Rf rfl,Rf rfl,rfl,trivial⟩ rfl rfl,?_⟩;show u.ax.length-(i.k+1)<u.ax.length-i.k;omega
 try simp only[ai]at c1
 refine AW.exit ?_;dsimp only[aJ,ay,reduceIte];refine go [.R,.m,.a,.Z] (k:=?_);refine aM 6 ?_;rw[show i.k=u.ax.length by omega];rfl
theorem s8(l:List (List dE)):bf Tryz.prog 136 [.h aa []] [.rt aa .ro (tr l)] (λy _=>y= .v (.bool (dx l))):=by
 refine ob Tryz.func136 Tryz.ntmps136 ?_;refine AW.len (aa) [] rfl (by simp[ck]) rfl (λhl=>?_);refine go [.R,.a,.Z,.R2,.m,.h,.N] (k:=?_);refine cv Tryz.call135 rfl rfl (cY _ _ _) ?_;refine go [.N,.n,.Z] (k:=?_);refine cd (λc1=>?_) λc1=>?_
 ·try simp only[ai]at c1
  refine go [.R,.a,.Z] (k:=?_);refine aM 2 ?_;rw[show dx l=false from by simp only[dx];grind];rfl
 try simp only[ai]at c1
 refine jd (bP ?_);refine go [.a,.Z] (k:=?_);refine AW.block ?_;refine AW.bw (λi:fx gf l=>[.sl 3 (.v (iv i.k)), .sl 0 (.h aa []), .rt aa .ro (tr l)]) (λi=>l.length-i.k) ⟨0,zero_le _,rfl⟩ (ws) ?_;intro i;have hle:=i.le;refine go [.R2,.m,.N,.m,.h,.b,.Z] (k:=?_);refine cd (λc2=>?_) λc2=>?_
 ·try simp only[ai]at c2
  refine jd (AW.seq (AW.block (sr ?_)));refine go [.m,.N,.m,.i,.l,.N] (k:=?_);refine cv Tryz.call180 rfl rfl (s5 _) ?_;refine go [.N,.n,.Z] (k:=?_);refine cd (λc3=>?_) λc3=>?_
  ·have k3:=c3
   try simp only[ai]at c3
   refine go [.R,.a,.Z] (k:=?_);refine aM 2 ?_;rw[show dx l=false from by simp only[dx,i.stop En.ab (by omega) (by simpa using k3),Bool.and_false]];rfl
  have k3:=c3
  try simp only[ai]at c3
  refine go [.J,.R1,.m,.N,.b,.a,.Z] (k:=?_);refine⟨⟨i.k+1,by omega,i.next En.ab (by omega) (by simpa using k3)⟩,ws,?_⟩;show l.length-(i.k+1)<l.length-i.k;omega
 try simp only[ai]at c2
 refine AW.exit ?_;dsimp only[aJ,ay,reduceIte];refine go [.R,.a,.Z] (k:=?_);refine aM 2 ?_;rw[show dx l=true from by simp only[dx,i.full (by omega)];grind];rfl
theorem qX(u:bt)(o:aw)(hb:jw u):bf Tryz.prog 185 [.g [.v (iv u.Next), .v (iv u.bF), .h aa [], .h (aa+1) [], .h (aa+2) [], .h (aa+3) [], .h (aa+4) [], .h (aa+5) [], .h (aa+6) []], .g [.v (iv o.Id), .v (iv o.Kind), .v (iv o.Target), .v (iv o.mi), .v (iv o.gK)]] [.rt aa .ro (tr u.aV), .rt (aa+1) .ro (tr u.ah), .rt (aa+2) .ro (tr u.ax), .rt (aa+3) .ro (tr u.ao), .rt (aa+4) .ro (tr u.aC), .rt (aa+5) .ro (tr u.aR), .rt (aa+6) .ro (tr u.Out)] (λy _=>y= .v (.bool (cb u o))):=by
 refine ob Tryz.func185 Tryz.ntmps185 ?_;refine AW.len (aa+1) [] rfl (by simp[ck]) rfl (λhl=>?_);refine AW.len (aa+4) [] rfl (by simp[ck]) rfl (λhf=>?_);have hrb:=pE hb o.Id;refine go [.R,.B,.N,.B,.N,.a,.Z,.R,.a,.Z,.R2,.a,.Z] (k:=?_);refine AW.block ?_;refine AW.bw (λi:ei u.ah.length=>[.sl 6 (.v (iv i.k)), .sl 5 (.v (iv (gP u o.Id i.k:Nat))), .rt 2 .box (T.s 9 1 λk c=>([(T.v (iv u.Next),none),(T.v (iv u.bF),none),(T.j,none),(T.j,none),(T.j,none),(T.j,none),(T.j,none),(T.j,none),(T.j,none)].getD (k*9+c) (T.j,none)).fst), .al 2 2 (.h aa []), .al 2 3 (.h (aa+1) []), .al 2 4 (.h (aa+2) []), .al 2 5 (.h (aa+3) []), .al 2 6 (.h (aa+4) []), .al 2 7 (.h (aa+5) []), .al 2 8 (.h (aa+6) []), .rt aa .ro (tr u.aV), .rt (aa+1) .ro (tr u.ah), .rt (aa+2) .ro (tr u.ax), .rt (aa+3) .ro (tr u.ao), .rt (aa+4) .ro (tr u.aC), .rt (aa+5) .ro (tr u.aR), .rt (aa+6) .ro (tr u.Out), .sl 2 (.p 2 [] 9 0 0), .rt 3 .box (T.s 5 1 λk c=>([(T.v (iv o.Id),none),(T.v (iv o.Kind),none),(T.v (iv o.Target),none),(T.v (iv o.mi),none),(T.v (iv o.gK),none)].getD (k*5+c) (T.j,none)).fst), .sl 3 (.p 3 [] 5 0 0)]) (λi=>u.ah.length-i.k) ⟨0,zero_le _⟩ (ws) ?_;intro i;have hle:=i.le;have hm1:i.k<u.ah.length→gP u o.Id (i.k+1)≤kr u o.Id:=λh=>dQ (by omega);have hs1:gP u o.Id (i.k+1)=gP u o.Id i.k+gm o.Id (u.ah.getD i.k En.ab).cV (u.ah.getD i.k En.ab).cV.length:=rfl;refine go [.R2,.m,.N,.f,.l,.h,.N,.b,.Z] (k:=?_);refine cd (λc1=>?_) λc1=>?_
 ·try simp only[ai]at c1
  refine jd (AW.seq (AW.block (sr ?_)));refine go [.a,.Z] (k:=?_);refine AW.block ?_;refine AW.bw (λj:ei (u.ah.getD i.k En.ab).cV.length=>[.sl 7 (.v (iv j.k)), .sl 6 (.v (iv i.k)), .sl 5 (.v (iv (gP u o.Id i.k+gm o.Id (u.ah.getD i.k En.ab).cV j.k:Nat))), .rt 2 .box (T.s 9 1 λk c=>([(T.v (iv u.Next),none),(T.v (iv u.bF),none),(T.j,none),(T.j,none),(T.j,none),(T.j,none),(T.j,none),(T.j,none),(T.j,none)].getD (k*9+c) (T.j,none)).fst), .al 2 2 (.h aa []), .al 2 3 (.h (aa+1) []), .al 2 4 (.h (aa+2) []), .al 2 5 (.h (aa+3) []), .al 2 6 (.h (aa+4) []), .al 2 7 (.h (aa+5) []), .al 2 8 (.h (aa+6) []), .rt aa .ro (tr u.aV), .rt (aa+1) .ro (tr u.ah), .rt (aa+2) .ro (tr u.ax), .rt (aa+3) .ro (tr u.ao), .rt (aa+4) .ro (tr u.aC), .rt (aa+5) .ro (tr u.aR), .rt (aa+6) .ro (tr u.Out), .sl 2 (.p 2 [] 9 0 0), .rt 3 .box (T.s 5 1 λk c=>([(T.v (iv o.Id),none),(T.v (iv o.Kind),none),(T.v (iv o.Target),none),(T.v (iv o.mi),none),(T.v (iv o.gK),none)].getD (k*5+c) (T.j,none)).fst), .sl 3 (.p 3 [] 5 0 0)]) (λj=>(u.ah.getD i.k En.ab).cV.length-j.k) ⟨0,zero_le _⟩ (ws) ?_;intro j;have hlej:=j.le;have hm2:j.k<(u.ah.getD i.k En.ab).cV.length→gm o.Id (u.ah.getD i.k En.ab).cV (j.k+1)≤gm o.Id (u.ah.getD i.k En.ab).cV (u.ah.getD i.k En.ab).cV.length:=λh=>dQ (by omega);have hs2:=uI o.Id (u.ah.getD i.k En.ab).cV j.k;refine AW.len (aa+1) [(10,i.k,7)] rfl (by refine⟨rfl,?_,by decide,trivial⟩;show i.k<u.ah.length;omega) rfl (λhl2=>?_);refine go [.R2,.m,.N,.f,.l,.m,.N] (k:=?_);refine qq (Qt.indexAddr rfl rfl rfl rfl fy dh (by decide) (by first|omega|grind)) ?_;refine go [.f,.l,.N,.h,.b,.Z] (k:=?_);refine cd (λc2=>?_) λc2=>?_
  ·try simp only[ai]at c2
   refine jd (AW.seq (AW.block (AW.seq ?_)));refine go [.D [0,1,2,3,4,5,6,7,8,9,10,11],.t 0,.f,.N,.t 1,.l,.t 2,.m] (k:=?_);refine tk 3 rfl (Qt.indexAddr rfl rfl rfl rfl fy dh (by decide) (by first|omega|grind)) ?_;refine go [.N,.t 4,.f,.t 5,.l,.t 6,.m,.N] (k:=?_);refine tk 7 rfl (Qt.indexAddr rfl rfl rfl rfl jj fX (by decide) (by first|omega|grind)) ?_;refine go [.t 8,.l,.t 9,.f,.N,.t 10,.l,.t 11,.b,.Z] (k:=?_);refine cd (λc3=>?_) λc3=>?_
   ·try simp only[ai]at c3
    refine go [.R1,.m,.N,.b,.a,.Z,.R1,.m,.N,.b,.a,.Z] (k:=?_);refine⟨⟨j.k+1,by omega⟩,ar.aZ ⟨fe,rfl,by simp only[aA,reduceIte,Nat.reduceEqDiff];congr 2;rw[hs2];grind,Rf rfl,⟨rfl,rfl⟩,⟨rfl,rfl⟩,⟨rfl,rfl⟩,⟨rfl,rfl⟩,⟨rfl,rfl⟩,⟨rfl,rfl⟩,⟨rfl,rfl⟩,Rf rfl,Rf rfl,Rf rfl,Rf rfl,Rf rfl,Rf rfl,Rf rfl,rfl,Rf rfl,rfl,trivial⟩ rfl rfl,?_⟩;show(u.ah.getD i.k En.ab).cV.length-(j.k+1)<(u.ah.getD i.k En.ab).cV.length-j.k;omega
   try simp only[ai]at c3
   refine go [.J,.R1,.m,.N,.b,.a,.Z] (k:=?_);refine⟨⟨j.k+1,by omega⟩,ar.aZ ⟨fe,rfl,by simp only[aA,reduceIte,Nat.reduceEqDiff];congr 2;rw[hs2];grind,Rf rfl,⟨rfl,rfl⟩,⟨rfl,rfl⟩,⟨rfl,rfl⟩,⟨rfl,rfl⟩,⟨rfl,rfl⟩,⟨rfl,rfl⟩,⟨rfl,rfl⟩,Rf rfl,Rf rfl,Rf rfl,Rf rfl,Rf rfl,Rf rfl,Rf rfl,rfl,Rf rfl,rfl,trivial⟩ rfl rfl,?_⟩;show(u.ah.getD i.k En.ab).cV.length-(j.k+1)<(u.ah.getD i.k En.ab).cV.length-j.k;omega
  try simp only[ai]at c2
  refine AW.exit ?_;dsimp only[aJ,ay,reduceIte];refine go [.R1,.m,.N,.b,.a,.Z] (k:=?_);refine⟨⟨i.k+1,by omega⟩,ar.aZ ⟨fe,by simp only[aA,reduceIte,Nat.reduceEqDiff];congr 2;rw[hs1,←(congrArg (gm o.Id (u.ah.getD i.k En.ab).cV) (show j.k=(u.ah.getD i.k En.ab).cV.length by omega))],Rf rfl,⟨rfl,rfl⟩,⟨rfl,rfl⟩,⟨rfl,rfl⟩,⟨rfl,rfl⟩,⟨rfl,rfl⟩,⟨rfl,rfl⟩,⟨rfl,rfl⟩,Rf rfl,Rf rfl,Rf rfl,Rf rfl,Rf rfl,Rf rfl,Rf rfl,rfl,Rf rfl,rfl,trivial⟩ rfl rfl,?_⟩;show u.ah.length-(i.k+1)<u.ah.length-i.k;omega
 try simp only[ai]at c1
 have hR:gP u o.Id i.k=kr u o.Id:=congrArg (gP u o.Id) (show i.k=u.ah.length by omega);have hfb:kq u o.Target<u.aC.length:=(ny _ _).2;refine AW.exit ?_;dsimp only[aJ,ay,reduceIte];refine go [.R2,.m,.N,.b,.m] (k:=?_);apply az.cut 4
 ·intro Kg4;refine az.bA 42 rfl (λg4=>?_) (λg4=>?_)
  ·refine go [.f,.N,.l,.m,.b,.N] (k:=?_);exact bZ 46 [43,44,45,46] (bY g4 _ undef) Kg4
  ·refine go [.x,.x,.x,.x] (k:=?_);exact bX 46 [43,44,45,46] (b6 g4 undef _) Kg4
 refine qq (Qt.bz rfl rfl rfl) ?_;refine go [.m] (k:=?_);apply az.cut 4
 ·intro Kg5;refine az.bA 48 rfl (λg5=>?_) (λg5=>?_)
  ·refine go [.f,.N,.l] (k:=?_);refine az.step rfl (nF g5) (aK.aL rfl (by decide) Tryz.call135 rfl rfl (cY _ _ _)) ?_;refine go [.N,.n] (k:=?_);exact bZ 52 [49,50,51,52] (bY g5 _ undef) Kg5
  ·refine go [.x,.x,.x,.x] (k:=?_);exact bX 52 [49,50,51,52] (b6 g5 undef _) Kg5
 refine qq (Qt.bz rfl rfl rfl) ?_;refine go [.Z] (k:=?_);refine cd (λc6=>?_) λc6=>?_
 ·try simp only[ai]at c6
  refine go [.R,.a,.Z] (k:=?_);refine aM 4 ?_;refine rb ?_;simp only[cb];grind only
 try simp only[ai]at c6
 refine jd (bP ?_);refine go [.f,.N,.l,.Z] (k:=?_);refine AW.block (sr ?_);refine go [.b,.a,.Z] (k:=?_);refine cd (λc7=>?_) λc7=>?_
 ·try simp only[ai]at c7
  refine go [.R,.f,.N,.l,.b,.m,.N] (k:=?_);apply az.cut 3
  ·intro Kg8;refine az.split 61 rfl (λg8=>?_) (λg8=>?_)
   ·refine go [.f,.l,.b,.N] (k:=?_);exact bZ 64 [62,63,64] (b6 g8 _ undef) Kg8
   ·refine go [.x,.x,.x] (k:=?_);exact bX 64 [62,63,64] (bY g8 undef _) Kg8
  refine qq (Qt.aD rfl rfl rfl) ?_;refine go [.a,.Z] (k:=?_);refine aM 4 ?_;refine rb ?_;simp only[cb];grind only
 try simp only[ai]at c7
 refine go [.R,.b,.N,.a,.Z] (k:=?_);refine cd (λc9=>?_) λc9=>?_
 ·try simp only[ai]at c9
  refine AW.seq ?_;refine go [.D [0,1,2,4,5,6,7,8,9,10,11,12,14,15,16,17,19,20],.t 0,.G,.t 1,.f,.N,.t 2,.l] (k:=?_);refine a1 3 [] [2,0,1] rfl rfl (aK.aL rfl (by decide) Tryz.call223 rfl rfl (nQ u _)) ?_;refine go [.N,.t 4,.b,.t 5,.m] (k:=?_);refine aQ.split 73 rfl (λg10=>?_) (λg10=>?_)
  ·refine go [.t 6,.f,.N,.t 7,.l,.t 8,.f,.t 9,.l,.N,.t 10,.G,.t 11,.f,.t 12,.l,.N] (k:=?_);refine a1 13 [6,7,8,9] [12,10,5,11,4,3,2,0,1] rfl g10 (aK.aL rfl (by decide) Tryz.call223 rfl rfl (nQ u _)) ?_;refine go [.N,.g,.f,.g,.l,.g,.f,.g,.l,.N] (k:=?_);refine tg 14 rfl g10 (Qt.indexAddr rfl rfl rfl rfl ez cX (by decide) (by first|omega|grind)) ?_;refine go [.t 15,.f,.t 16,.l,.N,.t 17,.h] (k:=?_);refine a1 18 [] [17,13,7,5,16,12,10,6,4,3,15,11,2,0,14,1,9,8] rfl g10 (aK.aL rfl (by decide) Tryz.call135 rfl rfl (cY _ _ _)) ?_;refine go [.N] (k:=?_);refine tk 19 rfl (Qt.bl rfl g10) ?_;refine go [.t 20,.a,.Z] (k:=?_);refine aM 4 ?_;refine rb ?_;simp only[cb];grind only
  refine go [.t 6,.x,.N,.t 7,.x,.t 8,.x,.t 9,.x,.N,.t 10,.x,.t 11,.x,.t 12,.x,.N,.O 13 [6,7,8,9] [12,10,5,11,4,3,2,0,1],.x,.N,.g,.x,.g,.x,.g,.x,.g,.x,.N,.t 14,.x,.t 15,.x,.t 16,.x,.N,.t 17,.x,.O 18 [] [17,13,7,5,16,12,10,6,4,3,15,11,2,0,14,1,9,8],.x,.N] (k:=?_);refine tk 19 rfl (Qt.bd rfl g10) ?_;refine go [.t 20,.a,.Z] (k:=?_);refine aM 4 ?_;refine rb ?_;simp only[cb];grind only
 try simp only[ai]at c9
 refine go [.R2,.b,.N,.a,.Z] (k:=?_);refine cd (λc11=>?_) λc11=>?_
 ·have k11:=c11
  try simp only[ai]at c11
  refine go [.J] (k:=?_);refine AW.jU rfl k11 ?_;refine go [.R,.G,.f,.N,.l] (k:=?_);refine cv Tryz.call224 rfl rfl (oi u _) ?_;refine go [.N,.b,.m] (k:=?_);apply az.cut 3
  ·intro Kg12;refine az.split 96 rfl (λg12=>?_) (λg12=>?_)
   ·refine go [.f,.N,.l,.b] (k:=?_);exact bZ 99 [97,98,99] (b6 g12 _ undef) Kg12
   ·refine go [.x,.x,.x] (k:=?_);exact bX 99 [97,98,99] (bY g12 undef _) Kg12
  refine qq (Qt.aD rfl rfl rfl) ?_;refine go [.N,.a,.Z] (k:=?_);refine aM 4 ?_;refine rb ?_;simp only[cb];grind only
 have k11:=c11
 try simp only[ai]at c11
 refine go [.R1,.b,.a,.Z] (k:=?_);refine cd (λc13=>?_) λc13=>?_
 ·try simp only[ai]at c13
  refine go [.R,.G,.N,.f,.l] (k:=?_);refine cv Tryz.call224 rfl rfl (oi u _) ?_;refine go [.N,.b,.m] (k:=?_);apply az.cut 3
  ·intro Kg14;refine az.split 96 rfl (λg14=>?_) (λg14=>?_)
   ·refine go [.f,.N,.l,.b] (k:=?_);exact bZ 99 [97,98,99] (b6 g14 _ undef) Kg14
   ·refine go [.x,.x,.x] (k:=?_);exact bX 99 [97,98,99] (bY g14 undef _) Kg14
  refine qq (Qt.aD rfl rfl rfl) ?_;refine go [.N,.a,.Z] (k:=?_);refine aM 4 ?_;refine rb ?_;simp only[cb];grind only
 try simp only[ai]at c13
 refine go [.J,.R,.a,.Z] (k:=?_);refine aM 4 ?_;refine rb ?_;simp only[cb];grind only
end Go.Proofs.YtekcnnngjoonbaaGreat.VM

