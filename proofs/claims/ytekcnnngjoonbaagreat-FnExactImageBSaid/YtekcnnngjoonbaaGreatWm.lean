/- Contracts. No conditions. -/
import Derived.Test.YtekcnnngjoonbaaGreatWj
set_option linter.all false
set_option maxHeartbeats 8000000
set_option maxRecDepth 10000
namespace Go.Proofs.YtekcnnngjoonbaaGreat.VM
open List Nat
open Go Go.RowKit Go.Proofs Go.Proofs.Tryz
theorem vV(u:aX)(pid:Int):a_ prog 184 [.g [.v (iv u.Next),.v (iv u.bp),.h aa [],.h (aa+1) [],.h (aa+2) [],.h (aa+3) [],.h (aa+4) [],.h (aa+5) [],.h (aa+6) []],.v (iv pid)] [.rt aa .ro (tr u.aP),.rt (aa+1) .ro (tr u.ag),.rt (aa+2) .ro (tr u.ao),.rt (aa+3) .ro (tr u.ak),.rt (aa+4) .ro (tr u.ay),.rt (aa+5) .ro (tr u.aN),.rt (aa+6) .ro (tr u.Out)] (λy _=>y= .v (iv (kp u pid))):=by
 refine ob func184 ntmps184 ?_;refine AW.len (aa+1) [] rfl (by simp[bT]) rfl (λhl=>?_);refine go [.R,.B,.N,.a,.Z,.R2,.a,.Z] ?_;refine AW.block ?_;refine AW.aL (λi:fo (λp=>p.ey==pid) u.ag=>[.sl 5 (.v (iv i.k)),.sl 1 (.v (iv pid)),.rt 2 .box (T.s 9 1 λk c=>([(T.v (iv u.Next),none),(T.v (iv u.bp),none),(T.j,none),(T.j,none),(T.j,none),(T.j,none),(T.j,none),(T.j,none),(T.j,none)].getD (k*9+c) (T.j,none)).fst),.al 2 2 (.h aa []),.al 2 3 (.h (aa+1) []),.al 2 4 (.h (aa+2) []),.al 2 5 (.h (aa+3) []),.al 2 6 (.h (aa+4) []),.al 2 7 (.h (aa+5) []),.al 2 8 (.h (aa+6) []),.rt aa .ro (tr u.aP),.rt (aa+1) .ro (tr u.ag),.rt (aa+2) .ro (tr u.ao),.rt (aa+3) .ro (tr u.ak),.rt (aa+4) .ro (tr u.ay),.rt (aa+5) .ro (tr u.aN),.rt (aa+6) .ro (tr u.Out),.sl 2 (.p 2 [] 9 0 0)]) (λi=>u.ag.length-i.k) ⟨0,zero_le _,rfl⟩ (ws) ?_;intro i;have hle:=i.le;refine go [.R2,.m,.N,.f,.l,.h,.N,.b,.Z] ?_;refine cd (λc1=>?_) λc1=>?_
 ·try simp only[ah]at c1
  refine jd (AW.seq (AW.block (sr ?_)));refine go [.f,.l,.N,.m,.i,.f,.N,.l,.m,.b,.Z] ?_;refine cd (λc2=>?_) λc2=>?_
  ·have k2:=c2
   try simp only[ah]at c2
   refine go [.R,.m,.N,.a,.Z] ?_;refine aQ 4 ?_;rw[show kp u pid=(i.k:Nat)from cZ i En.ab (by omega) k2];rfl
  have k2:=c2
  try simp only[ah]at c2
  refine go [.J,.R1,.m,.b,.N,.a,.Z] ?_;refine⟨⟨i.k+1,by omega,i.next En.ab (by omega) k2⟩,ws,?_⟩;show u.ag.length-(i.k+1)<u.ag.length-i.k;omega
 try simp only[ah]at c1
 refine AW.exit ?_;dsimp only[aD,au,reduceIte];refine go [.R,.a,.Z] ?_;refine aQ 4 ?_;rw[show kp u pid= -1 from cC i (by omega)];rfl
theorem iF(u:aX)(id:Int):a_ prog 183 [.g [.v (iv u.Next),.v (iv u.bp),.h aa [],.h (aa+1) [],.h (aa+2) [],.h (aa+3) [],.h (aa+4) [],.h (aa+5) [],.h (aa+6) []],.v (iv id)] [.rt aa .ro (tr u.aP),.rt (aa+1) .ro (tr u.ag),.rt (aa+2) .ro (tr u.ao),.rt (aa+3) .ro (tr u.ak),.rt (aa+4) .ro (tr u.ay),.rt (aa+5) .ro (tr u.aN),.rt (aa+6) .ro (tr u.Out)] (λy _=>y= .v (iv (kr u id))):=by
 refine ob func183 ntmps183 ?_;refine AW.len (aa+2) [] rfl (by simp[bT]) rfl (λhl=>?_);refine go [.R,.B,.N,.a,.Z,.R2,.a,.Z] ?_;refine AW.block ?_;refine AW.aL (λi:fo (λp=>p.Id==id) u.ao=>[.sl 5 (.v (iv i.k)),.sl 1 (.v (iv id)),.rt 2 .box (T.s 9 1 λk c=>([(T.v (iv u.Next),none),(T.v (iv u.bp),none),(T.j,none),(T.j,none),(T.j,none),(T.j,none),(T.j,none),(T.j,none),(T.j,none)].getD (k*9+c) (T.j,none)).fst),.al 2 2 (.h aa []),.al 2 3 (.h (aa+1) []),.al 2 4 (.h (aa+2) []),.al 2 5 (.h (aa+3) []),.al 2 6 (.h (aa+4) []),.al 2 7 (.h (aa+5) []),.al 2 8 (.h (aa+6) []),.rt aa .ro (tr u.aP),.rt (aa+1) .ro (tr u.ag),.rt (aa+2) .ro (tr u.ao),.rt (aa+3) .ro (tr u.ak),.rt (aa+4) .ro (tr u.ay),.rt (aa+5) .ro (tr u.aN),.rt (aa+6) .ro (tr u.Out),.sl 2 (.p 2 [] 9 0 0)]) (λi=>u.ao.length-i.k) ⟨0,zero_le _,rfl⟩ (ws) ?_;intro i;have hle:=i.le;refine go [.R2,.m,.N,.f,.l,.h,.N,.b,.Z] ?_;refine cd (λc1=>?_) λc1=>?_
 ·try simp only[ah]at c1
  refine jd (AW.seq (AW.block (sr ?_)));refine go [.f,.l,.N,.m,.i,.f,.N,.l,.m,.b,.Z] ?_;refine cd (λc2=>?_) λc2=>?_
  ·have k2:=c2
   try simp only[ah]at c2
   refine go [.R,.m,.N,.a,.Z] ?_;refine aQ 4 ?_;rw[show kr u id=(i.k:Nat)from cZ i En.ab (by omega) k2];rfl
  have k2:=c2
  try simp only[ah]at c2
  refine go [.J,.R1,.m,.b,.N,.a,.Z] ?_;refine⟨⟨i.k+1,by omega,i.next En.ab (by omega) k2⟩,ws,?_⟩;show u.ao.length-(i.k+1)<u.ao.length-i.k;omega
 try simp only[ah]at c1
 refine AW.exit ?_;dsimp only[aD,au,reduceIte];refine go [.R,.a,.Z] ?_;refine aQ 4 ?_;rw[show kr u id= -1 from cC i (by omega)];rfl
theorem pD(u:aX)(id:Int):a_ prog 224 [.g [.v (iv u.Next),.v (iv u.bp),.h aa [],.h (aa+1) [],.h (aa+2) [],.h (aa+3) [],.h (aa+4) [],.h (aa+5) [],.h (aa+6) []],.v (iv id)] [.rt aa .ro (tr u.aP),.rt (aa+1) .ro (tr u.ag),.rt (aa+2) .ro (tr u.ao),.rt (aa+3) .ro (tr u.ak),.rt (aa+4) .ro (tr u.ay),.rt (aa+5) .ro (tr u.aN),.rt (aa+6) .ro (tr u.Out)] (λy _=>y= .v (iv (ot u id))):=by
 refine ob func224 ntmps224 ?_;refine AW.len (aa+3) [] rfl (by simp[bT]) rfl (λhl=>?_);refine go [.R,.B,.N,.a,.Z,.R2,.a,.Z] ?_;refine AW.block ?_;refine AW.aL (λi:fo (λp=>p.Id==id) u.ak=>[.sl 5 (.v (iv i.k)),.sl 1 (.v (iv id)),.rt 2 .box (T.s 9 1 λk c=>([(T.v (iv u.Next),none),(T.v (iv u.bp),none),(T.j,none),(T.j,none),(T.j,none),(T.j,none),(T.j,none),(T.j,none),(T.j,none)].getD (k*9+c) (T.j,none)).fst),.al 2 2 (.h aa []),.al 2 3 (.h (aa+1) []),.al 2 4 (.h (aa+2) []),.al 2 5 (.h (aa+3) []),.al 2 6 (.h (aa+4) []),.al 2 7 (.h (aa+5) []),.al 2 8 (.h (aa+6) []),.rt aa .ro (tr u.aP),.rt (aa+1) .ro (tr u.ag),.rt (aa+2) .ro (tr u.ao),.rt (aa+3) .ro (tr u.ak),.rt (aa+4) .ro (tr u.ay),.rt (aa+5) .ro (tr u.aN),.rt (aa+6) .ro (tr u.Out),.sl 2 (.p 2 [] 9 0 0)]) (λi=>u.ak.length-i.k) ⟨0,zero_le _,rfl⟩ (ws) ?_;intro i;have hle:=i.le;refine go [.R2,.m,.N,.f,.l,.h,.N,.b,.Z] ?_;refine cd (λc1=>?_) λc1=>?_
 ·try simp only[ah]at c1
  refine jd (AW.seq (AW.block (sr ?_)));refine go [.f,.l,.N,.m,.i,.f,.N,.l,.m,.b,.Z] ?_;refine cd (λc2=>?_) λc2=>?_
  ·have k2:=c2
   try simp only[ah]at c2
   refine go [.R,.m,.N,.a,.Z] ?_;refine aQ 4 ?_;rw[show ot u id=(i.k:Nat)from cZ i En.ab (by omega) k2];rfl
  have k2:=c2
  try simp only[ah]at c2
  refine go [.J,.R1,.m,.b,.N,.a,.Z] ?_;refine⟨⟨i.k+1,by omega,i.next En.ab (by omega) k2⟩,ws,?_⟩;show u.ak.length-(i.k+1)<u.ak.length-i.k;omega
 try simp only[ah]at c1
 refine AW.exit ?_;dsimp only[aD,au,reduceIte];refine go [.R,.a,.Z] ?_;refine aQ 4 ?_;rw[show ot u id= -1 from cC i (by omega)];rfl
theorem o_(u:aX)(name:Int):a_ prog 223 [.g [.v (iv u.Next),.v (iv u.bp),.h aa [],.h (aa+1) [],.h (aa+2) [],.h (aa+3) [],.h (aa+4) [],.h (aa+5) [],.h (aa+6) []],.v (iv name)] [.rt aa .ro (tr u.aP),.rt (aa+1) .ro (tr u.ag),.rt (aa+2) .ro (tr u.ao),.rt (aa+3) .ro (tr u.ak),.rt (aa+4) .ro (tr u.ay),.rt (aa+5) .ro (tr u.aN),.rt (aa+6) .ro (tr u.Out)] (λy _=>y= .v (iv (kx u name))):=by
 refine ob func223 ntmps223 ?_;refine AW.len (aa+4) [] rfl (by simp[bT]) rfl (λhl=>?_);refine go [.R,.B,.N,.a,.Z,.R2,.a,.Z] ?_;refine AW.block ?_;refine AW.aL (λi:fo (λp=>p.Name==name) u.ay=>[.sl 5 (.v (iv i.k)),.sl 1 (.v (iv name)),.rt 2 .box (T.s 9 1 λk c=>([(T.v (iv u.Next),none),(T.v (iv u.bp),none),(T.j,none),(T.j,none),(T.j,none),(T.j,none),(T.j,none),(T.j,none),(T.j,none)].getD (k*9+c) (T.j,none)).fst),.al 2 2 (.h aa []),.al 2 3 (.h (aa+1) []),.al 2 4 (.h (aa+2) []),.al 2 5 (.h (aa+3) []),.al 2 6 (.h (aa+4) []),.al 2 7 (.h (aa+5) []),.al 2 8 (.h (aa+6) []),.rt aa .ro (tr u.aP),.rt (aa+1) .ro (tr u.ag),.rt (aa+2) .ro (tr u.ao),.rt (aa+3) .ro (tr u.ak),.rt (aa+4) .ro (tr u.ay),.rt (aa+5) .ro (tr u.aN),.rt (aa+6) .ro (tr u.Out),.sl 2 (.p 2 [] 9 0 0)]) (λi=>u.ay.length-i.k) ⟨0,zero_le _,rfl⟩ (ws) ?_;intro i;have hle:=i.le;refine go [.R2,.m,.N,.f,.l,.h,.N,.b,.Z] ?_;refine cd (λc1=>?_) λc1=>?_
 ·try simp only[ah]at c1
  refine jd (AW.seq (AW.block (sr ?_)));refine go [.f,.l,.N,.m,.i,.f,.N,.l,.m,.b,.Z] ?_;refine cd (λc2=>?_) λc2=>?_
  ·have k2:=c2
   try simp only[ah]at c2
   refine go [.R,.m,.N,.a,.Z] ?_;refine aQ 4 ?_;rw[show kx u name=(i.k:Nat)from cZ i En.ab (by omega) k2];rfl
  have k2:=c2
  try simp only[ah]at c2
  refine go [.J,.R1,.m,.b,.N,.a,.Z] ?_;refine⟨⟨i.k+1,by omega,i.next En.ab (by omega) k2⟩,ws,?_⟩;show u.ay.length-(i.k+1)<u.ay.length-i.k;omega
 try simp only[ah]at c1
 refine AW.exit ?_;dsimp only[aD,au,reduceIte];refine go [.R,.a,.Z] ?_;refine aQ 4 ?_;rw[show kx u name= -1 from cC i (by omega)];rfl
theorem gZ(l:List Int)(x:Int):a_ prog 143 [.h aa [],.v (iv x)] [.rt aa .ro (tr l)] (λy _=>y= .v (.bool (ll l x))):=by
 refine ob func143 ntmps143 ?_;refine AW.len (aa) [] rfl (by simp[bT]) rfl (λhl=>?_);refine go [.R,.a,.Z,.R2,.a,.Z] ?_;refine AW.block ?_;refine AW.aL (λi:ft (λy=> !(y==x)) l=>[.sl 5 (.v (iv i.k)),.sl 0 (.h aa []),.sl 1 (.v (iv x)),.rt aa .ro (tr l)]) (λi=>l.length-i.k) ⟨0,zero_le _,rfl⟩ (ws) ?_;intro i;have hle:=i.le;refine go [.R2,.m,.N,.m,.h,.b,.Z] ?_;refine cd (λc1=>?_) λc1=>?_
 ·try simp only[ah]at c1
  refine jd (AW.seq (AW.block (sr ?_)));refine go [.m,.N,.m,.i,.l,.N,.m,.b,.Z] ?_;refine cd (λc2=>?_) λc2=>?_
  ·have k2:=c2
   try simp only[ah]at c2
   refine go [.R,.a,.Z] ?_;refine aQ 4 ?_;rw[show ll l x=true from by rw[ta,i.stop En.ab (by omega) (by rw[k2];rfl)];rfl];rfl
  have k2:=c2
  try simp only[ah]at c2
  refine go [.J,.R1,.m,.N,.b,.a,.Z] ?_;refine⟨⟨i.k+1,by omega,i.next En.ab (by omega) (by rw[k2];rfl)⟩,ws,?_⟩;show l.length-(i.k+1)<l.length-i.k;omega
 try simp only[ah]at c1
 refine AW.exit ?_;dsimp only[aD,au,reduceIte];refine go [.R,.a,.Z] ?_;refine aQ 4 ?_;rw[show ll l x=false from by rw[ta,i.full (by omega)];rfl];rfl
theorem uj(u:aX)(hb:il u):a_ prog 138 [.g [.v (iv u.Next),.v (iv u.bp),.h aa [],.h (aa+1) [],.h (aa+2) [],.h (aa+3) [],.h (aa+4) [],.h (aa+5) [],.h (aa+6) []]] [.rt aa .ro (tr u.aP),.rt (aa+1) .ro (tr u.ag),.rt (aa+2) .ro (tr u.ao),.rt (aa+3) .ro (tr u.ak),.rt (aa+4) .ro (tr u.ay),.rt (aa+5) .ro (tr u.aN),.rt (aa+6) .ro (tr u.Out)] (λy _=>y= .v (iv (ir u.ag u.ag.length:Nat))):=by
 refine ob func138 ntmps138 ?_;refine AW.len (aa+1) [] rfl (by simp[bT]) rfl (λhl=>?_);have hmp:=qP hb;refine go [.R,.B,.N,.a,.Z,.R,.a,.Z,.R2,.a,.Z] ?_;refine AW.block ?_;refine AW.aL (λi:cV u.ag.length=>[.sl 4 (.v (iv i.k)),.sl 3 (.v (iv (ir u.ag i.k:Nat))),.rt 1 .box (T.s 9 1 λk c=>([(T.v (iv u.Next),none),(T.v (iv u.bp),none),(T.j,none),(T.j,none),(T.j,none),(T.j,none),(T.j,none),(T.j,none),(T.j,none)].getD (k*9+c) (T.j,none)).fst),.al 1 2 (.h aa []),.al 1 3 (.h (aa+1) []),.al 1 4 (.h (aa+2) []),.al 1 5 (.h (aa+3) []),.al 1 6 (.h (aa+4) []),.al 1 7 (.h (aa+5) []),.al 1 8 (.h (aa+6) []),.rt aa .ro (tr u.aP),.rt (aa+1) .ro (tr u.ag),.rt (aa+2) .ro (tr u.ao),.rt (aa+3) .ro (tr u.ak),.rt (aa+4) .ro (tr u.ay),.rt (aa+5) .ro (tr u.aN),.rt (aa+6) .ro (tr u.Out),.sl 1 (.p 1 [] 9 0 0)]) (λi=>u.ag.length-i.k) ⟨0,zero_le _⟩ (ws) ?_;intro i;have hle:=i.le;have hm1:i.k<u.ag.length→ir u.ag (i.k+1)≤ir u.ag u.ag.length:=λh=>dK (by omega);have hs1:ir u.ag (i.k+1)=ir u.ag i.k+(u.ag.getD i.k En.ab).Mem.length / 4:=rfl;refine go [.R2,.m,.N,.f,.l,.h,.N,.b,.Z] ?_;refine cd (λc1=>?_) λc1=>?_
 ·try simp only[ah]at c1
  refine AW.len (aa+1) [(10,i.k,6)] rfl (by refine⟨rfl,?_,by decide,trivial⟩;show i.k<u.ag.length;omega) rfl (λhl2=>?_);refine jd (AW.seq (AW.block (AW.region ?_)));refine go [.m,.f,.N,.l,.m,.i,.N,.f,.l,.h,.N] ?_;refine qq (Qt.binOp rfl rfl (by first|exact Ch _ (by omega)|rfl)) ?_;refine go [.b,.a,.Z,.R1,.m,.N,.b,.a,.Z] ?_;refine⟨⟨i.k+1,by omega⟩,ar.bb ⟨ew,by simp only[ax,reduceIte,Nat.reduceEqDiff];congr 2;done,Rf rfl,⟨rfl,rfl⟩,⟨rfl,rfl⟩,⟨rfl,rfl⟩,⟨rfl,rfl⟩,⟨rfl,rfl⟩,⟨rfl,rfl⟩,⟨rfl,rfl⟩,Rf rfl,Rf rfl,Rf rfl,Rf rfl,Rf rfl,Rf rfl,Rf rfl,rfl,trivial⟩ rfl rfl,?_⟩;show u.ag.length-(i.k+1)<u.ag.length-i.k;omega
 try simp only[ah]at c1
 refine AW.exit ?_;dsimp only[aD,au,reduceIte];refine go [.R,.m,.N,.a,.Z] ?_;refine aQ 2 ?_;rw[show i.k=u.ag.length by omega];rfl
theorem bH(u:aX)(pipe kind:Int)(hb:il u):a_ prog 186 [.g [.v (iv u.Next),.v (iv u.bp),.h aa [],.h (aa+1) [],.h (aa+2) [],.h (aa+3) [],.h (aa+4) [],.h (aa+5) [],.h (aa+6) []],.v (iv pipe),.v (iv kind)] [.rt aa .ro (tr u.aP),.rt (aa+1) .ro (tr u.ag),.rt (aa+2) .ro (tr u.ao),.rt (aa+3) .ro (tr u.ak),.rt (aa+4) .ro (tr u.ay),.rt (aa+5) .ro (tr u.aN),.rt (aa+6) .ro (tr u.Out)] (λy _=>y= .v (iv (jv u pipe kind u.ao.length:Nat))):=by
 refine ob func186 ntmps186 ?_;refine AW.len (aa+2) [] rfl (by simp[bT]) rfl (λhl=>?_);have hop:=hb.opens;refine go [.R,.B,.N,.a,.Z,.R,.a,.Z,.R2,.a,.Z] ?_;refine AW.block ?_;refine AW.aL (λi:cV u.ao.length=>[.sl 8 (.v (iv i.k)),.sl 7 (.v (iv (jv u pipe kind i.k:Nat))),.sl 1 (.v (iv pipe)),.sl 2 (.v (iv kind)),.rt 3 .box (T.s 9 1 λk c=>([(T.v (iv u.Next),none),(T.v (iv u.bp),none),(T.j,none),(T.j,none),(T.j,none),(T.j,none),(T.j,none),(T.j,none),(T.j,none)].getD (k*9+c) (T.j,none)).fst),.al 3 2 (.h aa []),.al 3 3 (.h (aa+1) []),.al 3 4 (.h (aa+2) []),.al 3 5 (.h (aa+3) []),.al 3 6 (.h (aa+4) []),.al 3 7 (.h (aa+5) []),.al 3 8 (.h (aa+6) []),.rt aa .ro (tr u.aP),.rt (aa+1) .ro (tr u.ag),.rt (aa+2) .ro (tr u.ao),.rt (aa+3) .ro (tr u.ak),.rt (aa+4) .ro (tr u.ay),.rt (aa+5) .ro (tr u.aN),.rt (aa+6) .ro (tr u.Out),.sl 3 (.p 3 [] 9 0 0)]) (λi=>u.ao.length-i.k) ⟨0,zero_le _⟩ (ws) ?_;intro i;have hle:=i.le;have hm1:=mC u pipe kind i.k;have hs1:=pC u pipe kind i.k;refine go [.R2,.m,.N,.f,.l,.h,.N,.b,.Z] ?_;refine cd (λc1=>?_) λc1=>?_
 ·try simp only[ah]at c1
  refine jd (AW.seq (AW.block (sr ?_)));refine go [.f,.l,.N,.m,.i,.f,.N,.l,.m,.b,.N,.m] ?_;apply aB.cut 8
  ·intro Kg2;refine aB.split 24 rfl (λg2=>?_) (λg2=>?_)
   ·refine go [.f,.l,.N,.m,.i,.f,.N,.l,.m,.b,.N] ?_;exact bV 32 [25,26,27,28,29,30,31,32] (bY g2 _ undef) Kg2
   ·refine go [.x,.x,.x,.x,.N,.x,.x,.x,.x] ?_;exact bX 32 [25,26,27,28,29,30,31,32] (bU g2 undef _) Kg2
  refine qq (Qt.aG rfl rfl rfl) ?_;refine go [.Z] ?_;refine cd (λc3=>?_) λc3=>?_
  ·try simp only[ah]at c3
   refine go [.R1,.m,.b,.N,.a,.Z,.R1,.m,.b,.N,.a,.Z] ?_;refine⟨⟨i.k+1,by omega⟩,ar.bb ⟨ew,by simp only[ax,reduceIte,Nat.reduceEqDiff];congr 2;rw[hs1];grind,rfl,rfl,Rf rfl,⟨rfl,rfl⟩,⟨rfl,rfl⟩,⟨rfl,rfl⟩,⟨rfl,rfl⟩,⟨rfl,rfl⟩,⟨rfl,rfl⟩,⟨rfl,rfl⟩,Rf rfl,Rf rfl,Rf rfl,Rf rfl,Rf rfl,Rf rfl,Rf rfl,rfl,trivial⟩ rfl rfl,?_⟩;show u.ao.length-(i.k+1)<u.ao.length-i.k;omega
  try simp only[ah]at c3
  refine go [.J,.R1,.m,.b,.N,.a,.Z] ?_;refine⟨⟨i.k+1,by omega⟩,ar.bb ⟨ew,by simp only[ax,reduceIte,Nat.reduceEqDiff];congr 2;rw[hs1];grind,rfl,rfl,Rf rfl,⟨rfl,rfl⟩,⟨rfl,rfl⟩,⟨rfl,rfl⟩,⟨rfl,rfl⟩,⟨rfl,rfl⟩,⟨rfl,rfl⟩,⟨rfl,rfl⟩,Rf rfl,Rf rfl,Rf rfl,Rf rfl,Rf rfl,Rf rfl,Rf rfl,rfl,trivial⟩ rfl rfl,?_⟩;show u.ao.length-(i.k+1)<u.ao.length-i.k;omega
 try simp only[ah]at c1
 refine AW.exit ?_;dsimp only[aD,au,reduceIte];refine go [.R,.m,.a,.Z] ?_;refine aQ 6 ?_;rw[show i.k=u.ao.length by omega];rfl
theorem s0(l:List (List cU)):a_ prog 136 [.h aa []] [.rt aa .ro (tr l)] (λy _=>y= .v (.bool (df l))):=by
 refine ob func136 ntmps136 ?_;refine AW.len (aa) [] rfl (by simp[bT]) rfl (λhl=>?_);refine go [.R,.a,.Z,.R2,.m,.h,.N] ?_;refine cv call135 rfl rfl (cD _ _ _) ?_;refine go [.N,.n,.Z] ?_;refine cd (λc1=>?_) λc1=>?_
 ·try simp only[ah]at c1
  refine go [.R,.a,.Z] ?_;refine aQ 2 ?_;rw[show df l=false from by simp only[df];grind];rfl
 try simp only[ah]at c1
 refine jd (dq ?_);refine go [.a,.Z] ?_;refine AW.block ?_;refine AW.aL (λi:ft et l=>[.sl 3 (.v (iv i.k)),.sl 0 (.h aa []),.rt aa .ro (tr l)]) (λi=>l.length-i.k) ⟨0,zero_le _,rfl⟩ (ws) ?_;intro i;have hle:=i.le;refine go [.R2,.m,.N,.m,.h,.b,.Z] ?_;refine cd (λc2=>?_) λc2=>?_
 ·try simp only[ah]at c2
  refine jd (AW.seq (AW.block (sr ?_)));refine go [.m,.N,.m,.i,.l,.N] ?_;refine cv call180 rfl rfl (tu _) ?_;refine go [.N,.n,.Z] ?_;refine cd (λc3=>?_) λc3=>?_
  ·have k3:=c3
   try simp only[ah]at c3
   refine go [.R,.a,.Z] ?_;refine aQ 2 ?_;rw[show df l=false from by simp only[df,i.stop En.ab (by omega) (by simpa using k3),Bool.and_false]];rfl
  have k3:=c3
  try simp only[ah]at c3
  refine go [.J,.R1,.m,.N,.b,.a,.Z] ?_;refine⟨⟨i.k+1,by omega,i.next En.ab (by omega) (by simpa using k3)⟩,ws,?_⟩;show l.length-(i.k+1)<l.length-i.k;omega
 try simp only[ah]at c2
 refine AW.exit ?_;dsimp only[aD,au,reduceIte];refine go [.R,.a,.Z] ?_;refine aQ 2 ?_;rw[show df l=true from by simp only[df,i.full (by omega)];grind];rfl
theorem ra(u:aX)(o:az)(hb:il u):a_ prog 185 [.g [.v (iv u.Next),.v (iv u.bp),.h aa [],.h (aa+1) [],.h (aa+2) [],.h (aa+3) [],.h (aa+4) [],.h (aa+5) [],.h (aa+6) []],.g [.v (iv o.Id),.v (iv o.Kind),.v (iv o.Target),.v (iv o.j3),.v (iv o.fc)]] [.rt aa .ro (tr u.aP),.rt (aa+1) .ro (tr u.ag),.rt (aa+2) .ro (tr u.ao),.rt (aa+3) .ro (tr u.ak),.rt (aa+4) .ro (tr u.ay),.rt (aa+5) .ro (tr u.aN),.rt (aa+6) .ro (tr u.Out)] (λy _=>y= .v (.bool (b6 u o))):=by
 refine ob func185 ntmps185 ?_;refine AW.len (aa+1) [] rfl (by simp[bT]) rfl (λhl=>?_);refine AW.len (aa+4) [] rfl (by simp[bT]) rfl (λhf=>?_);have hrb:=qE hb o.Id;refine go [.R,.B,.N,.B,.N,.a,.Z,.R,.a,.Z,.R2,.a,.Z] ?_;refine AW.block ?_;refine AW.aL (λi:cV u.ag.length=>[.sl 6 (.v (iv i.k)),.sl 5 (.v (iv (gL u o.Id i.k:Nat))),.rt 2 .box (T.s 9 1 λk c=>([(T.v (iv u.Next),none),(T.v (iv u.bp),none),(T.j,none),(T.j,none),(T.j,none),(T.j,none),(T.j,none),(T.j,none),(T.j,none)].getD (k*9+c) (T.j,none)).fst),.al 2 2 (.h aa []),.al 2 3 (.h (aa+1) []),.al 2 4 (.h (aa+2) []),.al 2 5 (.h (aa+3) []),.al 2 6 (.h (aa+4) []),.al 2 7 (.h (aa+5) []),.al 2 8 (.h (aa+6) []),.rt aa .ro (tr u.aP),.rt (aa+1) .ro (tr u.ag),.rt (aa+2) .ro (tr u.ao),.rt (aa+3) .ro (tr u.ak),.rt (aa+4) .ro (tr u.ay),.rt (aa+5) .ro (tr u.aN),.rt (aa+6) .ro (tr u.Out),.sl 2 (.p 2 [] 9 0 0),.rt 3 .box (T.s 5 1 λk c=>([(T.v (iv o.Id),none),(T.v (iv o.Kind),none),(T.v (iv o.Target),none),(T.v (iv o.j3),none),(T.v (iv o.fc),none)].getD (k*5+c) (T.j,none)).fst),.sl 3 (.p 3 [] 5 0 0)]) (λi=>u.ag.length-i.k) ⟨0,zero_le _⟩ (ws) ?_;intro i;have hle:=i.le;have hm1:i.k<u.ag.length→gL u o.Id (i.k+1)≤ky u o.Id:=λh=>dK (by omega);have hs1:gL u o.Id (i.k+1)=gL u o.Id i.k+fY o.Id (u.ag.getD i.k En.ab).cH (u.ag.getD i.k En.ab).cH.length:=rfl;refine go [.R2,.m,.N,.f,.l,.h,.N,.b,.Z] ?_;refine cd (λc1=>?_) λc1=>?_
 ·try simp only[ah]at c1
  refine jd (AW.seq (AW.block (sr ?_)));refine go [.a,.Z] ?_;refine AW.block ?_;refine AW.aL (λj:cV (u.ag.getD i.k En.ab).cH.length=>[.sl 7 (.v (iv j.k)),.sl 6 (.v (iv i.k)),.sl 5 (.v (iv (gL u o.Id i.k+fY o.Id (u.ag.getD i.k En.ab).cH j.k:Nat))),.rt 2 .box (T.s 9 1 λk c=>([(T.v (iv u.Next),none),(T.v (iv u.bp),none),(T.j,none),(T.j,none),(T.j,none),(T.j,none),(T.j,none),(T.j,none),(T.j,none)].getD (k*9+c) (T.j,none)).fst),.al 2 2 (.h aa []),.al 2 3 (.h (aa+1) []),.al 2 4 (.h (aa+2) []),.al 2 5 (.h (aa+3) []),.al 2 6 (.h (aa+4) []),.al 2 7 (.h (aa+5) []),.al 2 8 (.h (aa+6) []),.rt aa .ro (tr u.aP),.rt (aa+1) .ro (tr u.ag),.rt (aa+2) .ro (tr u.ao),.rt (aa+3) .ro (tr u.ak),.rt (aa+4) .ro (tr u.ay),.rt (aa+5) .ro (tr u.aN),.rt (aa+6) .ro (tr u.Out),.sl 2 (.p 2 [] 9 0 0),.rt 3 .box (T.s 5 1 λk c=>([(T.v (iv o.Id),none),(T.v (iv o.Kind),none),(T.v (iv o.Target),none),(T.v (iv o.j3),none),(T.v (iv o.fc),none)].getD (k*5+c) (T.j,none)).fst),.sl 3 (.p 3 [] 5 0 0)]) (λj=>(u.ag.getD i.k En.ab).cH.length-j.k) ⟨0,zero_le _⟩ (ws) ?_;intro j;have hlej:=j.le;have hm2:j.k<(u.ag.getD i.k En.ab).cH.length→fY o.Id (u.ag.getD i.k En.ab).cH (j.k+1)≤fY o.Id (u.ag.getD i.k En.ab).cH (u.ag.getD i.k En.ab).cH.length:=λh=>dK (by omega);have hs2:=vC o.Id (u.ag.getD i.k En.ab).cH j.k;refine AW.len (aa+1) [(10,i.k,7)] rfl (by refine⟨rfl,?_,by decide,trivial⟩;show i.k<u.ag.length;omega) rfl (λhl2=>?_);refine go [.R2,.m,.N,.f,.l,.m,.N] ?_;refine qq (Qt.indexAddr rfl rfl rfl rfl f_ fL (by decide) (by first|omega|grind)) ?_;refine go [.f,.l,.N,.h,.b,.Z] ?_;refine cd (λc2=>?_) λc2=>?_
  ·try simp only[ah]at c2
   refine jd (AW.seq (AW.block (AW.seq ?_)));refine go [.D [0,1,2,3,4,5,6,7,8,9,10,11],.t 0,.f,.N,.t 1,.l,.t 2,.m] ?_;refine tk 3 rfl (Qt.indexAddr rfl rfl rfl rfl f_ fL (by decide) (by first|omega|grind)) ?_;refine go [.N,.t 4,.f,.t 5,.l,.t 6,.m,.N] ?_;refine tk 7 rfl (Qt.indexAddr rfl rfl rfl rfl kb fP (by decide) (by first|omega|grind)) ?_;refine go [.t 8,.l,.t 9,.f,.N,.t 10,.l,.t 11,.b,.Z] ?_;refine cd (λc3=>?_) λc3=>?_
   ·try simp only[ah]at c3
    refine go [.R1,.m,.N,.b,.a,.Z,.R1,.m,.N,.b,.a,.Z] ?_;refine⟨⟨j.k+1,by omega⟩,ar.bb ⟨ew,rfl,by simp only[ax,reduceIte,Nat.reduceEqDiff];congr 2;rw[hs2];grind,Rf rfl,⟨rfl,rfl⟩,⟨rfl,rfl⟩,⟨rfl,rfl⟩,⟨rfl,rfl⟩,⟨rfl,rfl⟩,⟨rfl,rfl⟩,⟨rfl,rfl⟩,Rf rfl,Rf rfl,Rf rfl,Rf rfl,Rf rfl,Rf rfl,Rf rfl,rfl,Rf rfl,rfl,trivial⟩ rfl rfl,?_⟩;show(u.ag.getD i.k En.ab).cH.length-(j.k+1)<(u.ag.getD i.k En.ab).cH.length-j.k;omega
   try simp only[ah]at c3
   refine go [.J,.R1,.m,.N,.b,.a,.Z] ?_;refine⟨⟨j.k+1,by omega⟩,ar.bb ⟨ew,rfl,by simp only[ax,reduceIte,Nat.reduceEqDiff];congr 2;rw[hs2];grind,Rf rfl,⟨rfl,rfl⟩,⟨rfl,rfl⟩,⟨rfl,rfl⟩,⟨rfl,rfl⟩,⟨rfl,rfl⟩,⟨rfl,rfl⟩,⟨rfl,rfl⟩,Rf rfl,Rf rfl,Rf rfl,Rf rfl,Rf rfl,Rf rfl,Rf rfl,rfl,Rf rfl,rfl,trivial⟩ rfl rfl,?_⟩;show(u.ag.getD i.k En.ab).cH.length-(j.k+1)<(u.ag.getD i.k En.ab).cH.length-j.k;omega
  try simp only[ah]at c2
  refine AW.exit ?_;dsimp only[aD,au,reduceIte];refine go [.R1,.m,.N,.b,.a,.Z] ?_;refine⟨⟨i.k+1,by omega⟩,ar.bb ⟨ew,by simp only[ax,reduceIte,Nat.reduceEqDiff];congr 2;rw[hs1,←(congrArg (fY o.Id (u.ag.getD i.k En.ab).cH) (show j.k=(u.ag.getD i.k En.ab).cH.length by omega))],Rf rfl,⟨rfl,rfl⟩,⟨rfl,rfl⟩,⟨rfl,rfl⟩,⟨rfl,rfl⟩,⟨rfl,rfl⟩,⟨rfl,rfl⟩,⟨rfl,rfl⟩,Rf rfl,Rf rfl,Rf rfl,Rf rfl,Rf rfl,Rf rfl,Rf rfl,rfl,Rf rfl,rfl,trivial⟩ rfl rfl,?_⟩;show u.ag.length-(i.k+1)<u.ag.length-i.k;omega
 try simp only[ah]at c1
 have hR:gL u o.Id i.k=ky u o.Id:=congrArg (gL u o.Id) (show i.k=u.ag.length by omega);have hfb:kx u o.Target<u.ay.length:=(l8 _ _).2;refine AW.exit ?_;dsimp only[aD,au,reduceIte];refine go [.R2,.m,.N,.b,.m] ?_;apply aB.cut 4
 ·intro Kg4;refine aB.bq 42 rfl (λg4=>?_) (λg4=>?_)
  ·refine go [.f,.N,.l,.m,.b,.N] ?_;exact bV 46 [43,44,45,46] (bU g4 _ undef) Kg4
  ·refine go [.x,.x,.x,.x] ?_;exact bX 46 [43,44,45,46] (bY g4 undef _) Kg4
 refine qq (Qt.br rfl rfl rfl) ?_;refine go [.m] ?_;apply aB.cut 4
 ·intro Kg5;refine aB.bq 48 rfl (λg5=>?_) (λg5=>?_)
  ·refine go [.f,.N,.l] ?_;refine aB.step rfl (nF g5) (aE.aC rfl (by decide) call135 rfl rfl (cD _ _ _)) ?_;refine go [.N,.n] ?_;exact bV 52 [49,50,51,52] (bU g5 _ undef) Kg5
  ·refine go [.x,.x,.x,.x] ?_;exact bX 52 [49,50,51,52] (bY g5 undef _) Kg5
 refine qq (Qt.br rfl rfl rfl) ?_;refine go [.Z] ?_;refine cd (λc6=>?_) λc6=>?_
 ·try simp only[ah]at c6
  refine go [.R,.a,.Z] ?_;refine aQ 4 ?_;refine rb ?_;simp only[b6];grind only
 try simp only[ah]at c6
 refine jd (dq ?_);refine go [.f,.N,.l,.Z] ?_;refine AW.block (sr ?_);refine go [.b,.a,.Z] ?_;refine cd (λc7=>?_) λc7=>?_
 ·try simp only[ah]at c7
  refine go [.R,.f,.N,.l,.b,.m,.N] ?_;apply aB.cut 3
  ·intro Kg8;refine aB.split 61 rfl (λg8=>?_) (λg8=>?_)
   ·refine go [.f,.l,.b,.N] ?_;exact bV 64 [62,63,64] (bY g8 _ undef) Kg8
   ·refine go [.x,.x,.x] ?_;exact bX 64 [62,63,64] (bU g8 undef _) Kg8
  refine qq (Qt.aG rfl rfl rfl) ?_;refine go [.a,.Z] ?_;refine aQ 4 ?_;refine rb ?_;simp only[b6];grind only
 try simp only[ah]at c7
 refine go [.R,.b,.N,.a,.Z] ?_;refine cd (λc9=>?_) λc9=>?_
 ·try simp only[ah]at c9
  refine AW.seq ?_;refine go [.D [0,1,2,4,5,6,7,8,9,10,11,12,14,15,16,17,19,20],.t 0,.G,.t 1,.f,.N,.t 2,.l] ?_;refine a1 3 [] [2,0,1] rfl rfl (aE.aC rfl (by decide) call223 rfl rfl (o_ u _)) ?_;refine go [.N,.t 4,.b,.t 5,.m] ?_;refine aO.split 73 rfl (λg10=>?_) (λg10=>?_)
  ·refine go [.t 6,.f,.N,.t 7,.l,.t 8,.f,.t 9,.l,.N,.t 10,.G,.t 11,.f,.t 12,.l,.N] ?_;refine a1 13 [6,7,8,9] [12,10,5,11,4,3,2,0,1] rfl g10 (aE.aC rfl (by decide) call223 rfl rfl (o_ u _)) ?_;refine go [.N,.g,.f,.g,.l,.g,.f,.g,.l,.N] ?_;refine tg 14 rfl g10 (Qt.indexAddr rfl rfl rfl rfl gE gh (by decide) (by first|omega|grind)) ?_;refine go [.t 15,.f,.t 16,.l,.N,.t 17,.h] ?_;refine a1 18 [] [17,13,7,5,16,12,10,6,4,3,15,11,2,0,14,1,9,8] rfl g10 (aE.aC rfl (by decide) call135 rfl rfl (cD _ _ _)) ?_;refine go [.N] ?_;refine tk 19 rfl (Qt.bj rfl g10) ?_;refine go [.t 20,.a,.Z] ?_;refine aQ 4 ?_;refine rb ?_;simp only[b6];grind only
  refine go [.t 6,.x,.N,.t 7,.x,.t 8,.x,.t 9,.x,.N,.t 10,.x,.t 11,.x,.t 12,.x,.N,.O 13 [6,7,8,9] [12,10,5,11,4,3,2,0,1],.x,.N,.g,.x,.g,.x,.g,.x,.g,.x,.N,.t 14,.x,.t 15,.x,.t 16,.x,.N,.t 17,.x,.O 18 [] [17,13,7,5,16,12,10,6,4,3,15,11,2,0,14,1,9,8],.x,.N] ?_;refine tk 19 rfl (Qt.bd rfl g10) ?_;refine go [.t 20,.a,.Z] ?_;refine aQ 4 ?_;refine rb ?_;simp only[b6];grind only
 try simp only[ah]at c9
 refine go [.R2,.b,.N,.a,.Z] ?_;refine cd (λc11=>?_) λc11=>?_
 ·have k11:=c11
  try simp only[ah]at c11
  refine go [.J] ?_;refine AW.jV rfl k11 ?_;refine go [.R,.G,.f,.N,.l] ?_;refine cv call224 rfl rfl (pD u _) ?_;refine go [.N,.b,.m] ?_;apply aB.cut 3
  ·intro Kg12;refine aB.split 96 rfl (λg12=>?_) (λg12=>?_)
   ·refine go [.f,.N,.l,.b] ?_;exact bV 99 [97,98,99] (bY g12 _ undef) Kg12
   ·refine go [.x,.x,.x] ?_;exact bX 99 [97,98,99] (bU g12 undef _) Kg12
  refine qq (Qt.aG rfl rfl rfl) ?_;refine go [.N,.a,.Z] ?_;refine aQ 4 ?_;refine rb ?_;simp only[b6];grind only
 have k11:=c11
 try simp only[ah]at c11
 refine go [.R1,.b,.a,.Z] ?_;refine cd (λc13=>?_) λc13=>?_
 ·try simp only[ah]at c13
  refine go [.R,.G,.N,.f,.l] ?_;refine cv call224 rfl rfl (pD u _) ?_;refine go [.N,.b,.m] ?_;apply aB.cut 3
  ·intro Kg14;refine aB.split 96 rfl (λg14=>?_) (λg14=>?_)
   ·refine go [.f,.N,.l,.b] ?_;exact bV 99 [97,98,99] (bY g14 _ undef) Kg14
   ·refine go [.x,.x,.x] ?_;exact bX 99 [97,98,99] (bU g14 undef _) Kg14
  refine qq (Qt.aG rfl rfl rfl) ?_;refine go [.N,.a,.Z] ?_;refine aQ 4 ?_;refine rb ?_;simp only[b6];grind only
 try simp only[ah]at c13
 refine go [.J,.R,.a,.Z] ?_;refine aQ 4 ?_;refine rb ?_;simp only[b6];grind only
end Go.Proofs.YtekcnnngjoonbaaGreat.VM

