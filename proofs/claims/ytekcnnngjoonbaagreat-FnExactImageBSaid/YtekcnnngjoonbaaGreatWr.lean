/- Contracts. No conditions. -/
import Derived.Test.YtekcnnngjoonbaaGreatWj
set_option linter.all false
set_option maxHeartbeats 8000000
set_option maxRecDepth 10000
namespace Go.Proofs.YtekcnnngjoonbaaGreat.VM
open List Nat
open Go Go.RowKit Go.Proofs Go.Proofs.Tryz
theorem vm(l:List Int)(v:Int):a_ prog 207 [.h aa [],.v (iv v)] [.rt aa .ro (tr l)] (λy _=>y= .v (iv (fq (λx=>v==x) l))):=by
 refine ob func207 ntmps207 ?_;refine AW.len (aa) [] rfl (by simp[bT]) rfl (λhl=>?_);refine go [.R,.a,.Z,.R2,.m,.h,.N,.m,.Z] ?_;refine AW.block ?_;refine AW.aL (λi:fo (λx=>v==x) l=>[.sl 8 (.v (iv i.k)),.sl 0 (.h aa []),.sl 1 (.v (iv v)),.sl 7 (.v (iv l.length)),.rt aa .ro (tr l)]) (λi=>l.length-i.k) ⟨0,zero_le _,rfl⟩ (ws) ?_;intro i;have hle:=i.le;refine go [.R,.b,.Z] ?_;refine AW.seq ?_;refine cd (λc1=>?_) λc1=>?_
 ·try simp only[ah]at c1
  refine jd (AW.seq (AW.block (sr ?_)));refine go [.m,.N,.a,.Z,.R,.m,.m,.N,.m,.i,.l,.N,.b,.Z] ?_;refine cd (λc2=>?_) λc2=>?_
  ·try simp only[ah]at c2
   refine go [.R,.m,.a,.Z] ?_;refine aQ 4 ?_;rw[cZ i En.ab (by omega) (by simpa using c2)];rfl
  try simp only[ah]at c2
  refine go [.J,.R1,.b,.N,.m,.Z] ?_;refine⟨⟨i.k+1,by omega,i.next En.ab (by omega) (by simpa using c2)⟩,ws,?_⟩;show l.length-(i.k+1)<l.length-i.k;omega
 try simp only[ah]at c1
 refine AW.exit ?_;dsimp only[aD,au,reduceIte];refine go [.R,.a,.Z] ?_;refine aQ 4 ?_;rw[cC i (by omega)];rfl
theorem jn(l:List Int)(x:Int):a_ prog 155 [.h aa [],.v (iv x)] [.rt aa .ro (tr l)] (λy _=>y= .v (.bool (ll l x))):=by
 refine ob func155 ntmps155 ?_;refine go [.R,.a,.Z,.R,.m,.m,.N] ?_;refine cv call207 rfl rfl (vm _ _) ?_;refine go [.N,.b,.a,.Z] ?_;refine aQ 4 ?_;rw[show ll l x=decide (0≤fq (λy=>x==y) l)from by rw[gk,ll];congr 1;funext y;rw[Bool.eq_iff_iff];simp only[beq_iff_eq];exact⟨Eq.symm,Eq.symm⟩];rfl
theorem ue(pid:Int)(p:bu):a_ prog 229 [.g [.v (iv p.ey),.v (iv p.bM),.v (iv p.State),.v (iv p.dX),.v (iv p.dh.Pc),.h aa [],.h (aa+1) [],.h (aa+2) [],.v (iv p.cJ),.v (iv p.Code)],.p (aa+3) [] 1 0 0] [.rt aa .ro (tr p.dh.b_),.rt (aa+1) .ro (tr p.Mem),.rt (aa+2) .ro (tr p.cH),.rt (aa+3) .ro (tr [pid])] (λy _=>y= .v (.bool (p.ey==pid))):=by
 refine ob func229 ntmps229 ?_;refine go [.R,.B,.N,.a,.Z,.R,.f,.l,.N,.l,.b,.a,.Z] ?_;refine aQ 3 ?_;rfl
theorem vf{fid:FuncId}{p:bu→Bool}(u0:Int)(hE:lL prog fid)(hp:∀x:bu,a_ prog fid [.g [.v (iv x.ey),.v (iv x.bM),.v (iv x.State),.v (iv x.dX),.v (iv x.dh.Pc),.h aa [],.h (aa+1) [],.h (aa+2) [],.v (iv x.cJ),.v (iv x.Code)],.p (aa+3) [] 1 0 0] [.rt aa .ro (tr x.dh.b_),.rt (aa+1) .ro (tr x.Mem),.rt (aa+2) .ro (tr x.cH),.rt (aa+3) .ro (tr [u0])] (λy _=>y= .v (.bool (p x))))(l:List bu):a_ prog 228 [.h aa [],.f fid [.p (aa+1) [] 1 0 0]] [.rt aa .ro (tr l),.rt (aa+1) .ro (tr [u0])] (λy _=>y= .v (iv (fq p l))):=by
 refine ob func228 ntmps228 ?_;refine AW.len aa [] rfl (by simp[bT]) rfl (λhl=>?_);refine go [.R,.a,.Z,.R2,.m,.h,.N,.m,.Z] ?_;refine AW.block ?_;refine AW.aL (λi:fo p l=>[.sl 8 (.v (iv i.k)),.sl 7 (.v (iv l.length)),.sl 0 (.h aa []),.sl 1 (.f fid [.p (aa+1) [] 1 0 0]),.rt aa .ro (tr l),.rt (aa+1) .ro (tr [u0])]) (λi=>l.length-i.k) ⟨0,zero_le _,rfl⟩ (ws) ?_;intro i;have hle:=i.le;refine go [.R,.b,.Z] ?_;refine AW.seq ?_;refine cd (λc1=>?_) λc1=>?_
 ·try simp only[ah]at c1
  refine jd (AW.seq (AW.block (sr ?_)));refine go [.m,.N,.a,.Z,.R,.m,.m,.N,.m,.i,.G,.N] ?_;refine cv hE rfl rfl (a_.gy (hp (l.getD i.k En.ab)) ⟨⟨_,rfl,aw⟩,⟨_,rfl,aw⟩,⟨_,rfl,aw⟩,⟨_,rfl,(cA (λc hc=>match c,hc with|0,_=>aw|c+1,hc=>absurd hc (by simp only[En.n];omega)))⟩,trivial⟩ rfl rfl rfl) ?_;refine go [.Z] ?_;refine cd (λc2=>?_) λc2=>?_
  ·try simp only[ah]at c2
   refine go [.R,.m,.N,.a,.Z] ?_;refine aQ 4 ?_;rw[cZ i En.ab (by omega) c2];rfl
  try simp only[ah]at c2
  refine go [.J,.R1,.b,.m,.Z] ?_;refine⟨⟨i.k+1,by omega,i.next En.ab (by omega) c2⟩,ws,?_⟩;show l.length-(i.k+1)<l.length-i.k;omega
 try simp only[ah]at c1
 refine AW.exit ?_;dsimp only[aD,au,reduceIte];refine go [.R,.a,.Z] ?_;refine aQ 4 ?_;rw[cC i (by omega)];rfl
theorem uw(u:aX)(pid:Int):a_ prog 194 [.g [.v (iv u.Next),.v (iv u.bp),.h aa [],.h (aa+1) [],.h (aa+2) [],.h (aa+3) [],.h (aa+4) [],.h (aa+5) [],.h (aa+6) []],.v (iv pid)] [.rt aa .ro (tr u.aP),.rt (aa+1) .ro (tr u.ag),.rt (aa+2) .ro (tr u.ao),.rt (aa+3) .ro (tr u.ak),.rt (aa+4) .ro (tr u.ay),.rt (aa+5) .ro (tr u.aN),.rt (aa+6) .ro (tr u.Out)] (λy _=>y= .v (iv (kp u pid))):=by
 refine ob func194 ntmps194 ?_;refine go [.R,.B,.N,.B,.N,.a,.Z,.R,.f,.l,.N] ?_;refine qq Qt.makeFunc ?_;refine cv call228 rfl rfl (a_.gy (vf pid call229 (λx=>ue pid x) u.ag) ⟨⟨_,rfl,aw⟩,⟨_,rfl,(cA (λc hc=>match c,hc with|0,_=>aw|c+1,hc=>absurd hc (by simp only[En.n];omega)))⟩,trivial⟩ rfl rfl rfl) ?_;refine go [.N,.a,.Z] ?_;refine aQ 4 ?_;rfl
theorem tO(id:Int)(o:az):a_ prog 231 [.g [.v (iv o.Id),.v (iv o.Kind),.v (iv o.Target),.v (iv o.j3),.v (iv o.fc)],.p aa [] 1 0 0] [.rt aa .ro (tr [id])] (λy _=>y= .v (.bool (o.Id==id))):=by
 refine ob func231 ntmps231 ?_;refine go [.R,.B,.N,.a,.Z,.R,.f,.l,.N,.l,.b,.a,.Z] ?_;refine aQ 3 ?_;rfl
theorem uK{fid:FuncId}{p:az→Bool}(u0:Int)(hE:lL prog fid)(hp:∀x:az,a_ prog fid [.g [.v (iv x.Id),.v (iv x.Kind),.v (iv x.Target),.v (iv x.j3),.v (iv x.fc)],.p aa [] 1 0 0] [.rt aa .ro (tr [u0])] (λy _=>y= .v (.bool (p x))))(l:List az):a_ prog 230 [.h aa [],.f fid [.p (aa+1) [] 1 0 0]] [.rt aa .ro (tr l),.rt (aa+1) .ro (tr [u0])] (λy _=>y= .v (iv (fq p l))):=by
 refine ob func230 ntmps230 ?_;refine AW.len aa [] rfl (by simp[bT]) rfl (λhl=>?_);refine go [.R,.a,.Z,.R2,.m,.h,.N,.m,.Z] ?_;refine AW.block ?_;refine AW.aL (λi:fo p l=>[.sl 8 (.v (iv i.k)),.sl 7 (.v (iv l.length)),.sl 0 (.h aa []),.sl 1 (.f fid [.p (aa+1) [] 1 0 0]),.rt aa .ro (tr l),.rt (aa+1) .ro (tr [u0])]) (λi=>l.length-i.k) ⟨0,zero_le _,rfl⟩ (ws) ?_;intro i;have hle:=i.le;refine go [.R,.b,.Z] ?_;refine AW.seq ?_;refine cd (λc1=>?_) λc1=>?_
 ·try simp only[ah]at c1
  refine jd (AW.seq (AW.block (sr ?_)));refine go [.m,.N,.a,.Z,.R,.m,.m,.N,.m,.i,.G,.N] ?_;refine cv hE rfl rfl (a_.gy (hp (l.getD i.k En.ab)) ⟨⟨_,rfl,(cA (λc hc=>match c,hc with|0,_=>aw|c+1,hc=>absurd hc (by simp only[En.n];omega)))⟩,trivial⟩ rfl rfl rfl) ?_;refine go [.Z] ?_;refine cd (λc2=>?_) λc2=>?_
  ·try simp only[ah]at c2
   refine go [.R,.m,.N,.a,.Z] ?_;refine aQ 4 ?_;rw[cZ i En.ab (by omega) c2];rfl
  try simp only[ah]at c2
  refine go [.J,.R1,.b,.m,.Z] ?_;refine⟨⟨i.k+1,by omega,i.next En.ab (by omega) c2⟩,ws,?_⟩;show l.length-(i.k+1)<l.length-i.k;omega
 try simp only[ah]at c1
 refine AW.exit ?_;dsimp only[aD,au,reduceIte];refine go [.R,.a,.Z] ?_;refine aQ 4 ?_;rw[cC i (by omega)];rfl
theorem j_(u:aX)(id:Int):a_ prog 197 [.g [.v (iv u.Next),.v (iv u.bp),.h aa [],.h (aa+1) [],.h (aa+2) [],.h (aa+3) [],.h (aa+4) [],.h (aa+5) [],.h (aa+6) []],.v (iv id)] [.rt aa .ro (tr u.aP),.rt (aa+1) .ro (tr u.ag),.rt (aa+2) .ro (tr u.ao),.rt (aa+3) .ro (tr u.ak),.rt (aa+4) .ro (tr u.ay),.rt (aa+5) .ro (tr u.aN),.rt (aa+6) .ro (tr u.Out)] (λy _=>y= .v (iv (kr u id))):=by
 refine ob func197 ntmps197 ?_;refine go [.R,.B,.N,.B,.N,.a,.Z,.R,.f,.l,.N] ?_;refine qq Qt.makeFunc ?_;refine cv call230 rfl rfl (a_.gy (uK id call231 (λx=>tO id x) u.ao) ⟨⟨_,rfl,aw⟩,⟨_,rfl,(cA (λc hc=>match c,hc with|0,_=>aw|c+1,hc=>absurd hc (by simp only[En.n];omega)))⟩,trivial⟩ rfl rfl rfl) ?_;refine go [.N,.a,.Z] ?_;refine aQ 4 ?_;rfl
theorem uC(id:Int)(p:cK):a_ prog 235 [.g [.v (iv p.Id),.h aa []],.p (aa+1) [] 1 0 0] [.rt aa .ro (tr p.Data),.rt (aa+1) .ro (tr [id])] (λy _=>y= .v (.bool (p.Id==id))):=by
 refine ob func235 ntmps235 ?_;refine go [.R,.B,.N,.a,.Z,.R,.f,.l,.N,.l,.b,.a,.Z] ?_;refine aQ 3 ?_;rfl
theorem uF{fid:FuncId}{p:cK→Bool}(u0:Int)(hE:lL prog fid)(hp:∀x:cK,a_ prog fid [.g [.v (iv x.Id),.h aa []],.p (aa+1) [] 1 0 0] [.rt aa .ro (tr x.Data),.rt (aa+1) .ro (tr [u0])] (λy _=>y= .v (.bool (p x))))(l:List cK):a_ prog 234 [.h aa [],.f fid [.p (aa+1) [] 1 0 0]] [.rt aa .ro (tr l),.rt (aa+1) .ro (tr [u0])] (λy _=>y= .v (iv (fq p l))):=by
 refine ob func234 ntmps234 ?_;refine AW.len aa [] rfl (by simp[bT]) rfl (λhl=>?_);refine go [.R,.a,.Z,.R2,.m,.h,.N,.m,.Z] ?_;refine AW.block ?_;refine AW.aL (λi:fo p l=>[.sl 8 (.v (iv i.k)),.sl 7 (.v (iv l.length)),.sl 0 (.h aa []),.sl 1 (.f fid [.p (aa+1) [] 1 0 0]),.rt aa .ro (tr l),.rt (aa+1) .ro (tr [u0])]) (λi=>l.length-i.k) ⟨0,zero_le _,rfl⟩ (ws) ?_;intro i;have hle:=i.le;refine go [.R,.b,.Z] ?_;refine AW.seq ?_;refine cd (λc1=>?_) λc1=>?_
 ·try simp only[ah]at c1
  refine jd (AW.seq (AW.block (sr ?_)));refine go [.m,.N,.a,.Z,.R,.m,.m,.N,.m,.i,.G,.N] ?_;refine cv hE rfl rfl (a_.gy (hp (l.getD i.k En.ab)) ⟨⟨_,rfl,aw⟩,⟨_,rfl,(cA (λc hc=>match c,hc with|0,_=>aw|c+1,hc=>absurd hc (by simp only[En.n];omega)))⟩,trivial⟩ rfl rfl rfl) ?_;refine go [.Z] ?_;refine cd (λc2=>?_) λc2=>?_
  ·try simp only[ah]at c2
   refine go [.R,.m,.N,.a,.Z] ?_;refine aQ 4 ?_;rw[cZ i En.ab (by omega) c2];rfl
  try simp only[ah]at c2
  refine go [.J,.R1,.b,.m,.Z] ?_;refine⟨⟨i.k+1,by omega,i.next En.ab (by omega) c2⟩,ws,?_⟩;show l.length-(i.k+1)<l.length-i.k;omega
 try simp only[ah]at c1
 refine AW.exit ?_;dsimp only[aD,au,reduceIte];refine go [.R,.a,.Z] ?_;refine aQ 4 ?_;rw[cC i (by omega)];rfl
theorem ep(u:aX)(id:Int):a_ prog 201 [.g [.v (iv u.Next),.v (iv u.bp),.h aa [],.h (aa+1) [],.h (aa+2) [],.h (aa+3) [],.h (aa+4) [],.h (aa+5) [],.h (aa+6) []],.v (iv id)] [.rt aa .ro (tr u.aP),.rt (aa+1) .ro (tr u.ag),.rt (aa+2) .ro (tr u.ao),.rt (aa+3) .ro (tr u.ak),.rt (aa+4) .ro (tr u.ay),.rt (aa+5) .ro (tr u.aN),.rt (aa+6) .ro (tr u.Out)] (λy _=>y= .v (iv (ot u id))):=by
 refine ob func201 ntmps201 ?_;refine go [.R,.B,.N,.B,.N,.a,.Z,.R,.f,.l,.N] ?_;refine qq Qt.makeFunc ?_;refine cv call234 rfl rfl (a_.gy (uF id call235 (λx=>uC id x) u.ak) ⟨⟨_,rfl,aw⟩,⟨_,rfl,(cA (λc hc=>match c,hc with|0,_=>aw|c+1,hc=>absurd hc (by simp only[En.n];omega)))⟩,trivial⟩ rfl rfl rfl) ?_;refine go [.N,.a,.Z] ?_;refine aQ 4 ?_;rfl
theorem tU(name:Int)(f:ca):a_ prog 233 [.g [.v (iv f.Name),.h aa []],.p (aa+1) [] 1 0 0] [.rt aa .ro (tr f.Data),.rt (aa+1) .ro (tr [name])] (λy _=>y= .v (.bool (f.Name==name))):=by
 refine ob func233 ntmps233 ?_;refine go [.R,.B,.N,.a,.Z,.R,.f,.l,.N,.l,.b,.a,.Z] ?_;refine aQ 3 ?_;rfl
theorem um{fid:FuncId}{p:ca→Bool}(u0:Int)(hE:lL prog fid)(hp:∀x:ca,a_ prog fid [.g [.v (iv x.Name),.h aa []],.p (aa+1) [] 1 0 0] [.rt aa .ro (tr x.Data),.rt (aa+1) .ro (tr [u0])] (λy _=>y= .v (.bool (p x))))(l:List ca):a_ prog 232 [.h aa [],.f fid [.p (aa+1) [] 1 0 0]] [.rt aa .ro (tr l),.rt (aa+1) .ro (tr [u0])] (λy _=>y= .v (iv (fq p l))):=by
 refine ob func232 ntmps232 ?_;refine AW.len aa [] rfl (by simp[bT]) rfl (λhl=>?_);refine go [.R,.a,.Z,.R2,.m,.h,.N,.m,.Z] ?_;refine AW.block ?_;refine AW.aL (λi:fo p l=>[.sl 8 (.v (iv i.k)),.sl 7 (.v (iv l.length)),.sl 0 (.h aa []),.sl 1 (.f fid [.p (aa+1) [] 1 0 0]),.rt aa .ro (tr l),.rt (aa+1) .ro (tr [u0])]) (λi=>l.length-i.k) ⟨0,zero_le _,rfl⟩ (ws) ?_;intro i;have hle:=i.le;refine go [.R,.b,.Z] ?_;refine AW.seq ?_;refine cd (λc1=>?_) λc1=>?_
 ·try simp only[ah]at c1
  refine jd (AW.seq (AW.block (sr ?_)));refine go [.m,.N,.a,.Z,.R,.m,.m,.N,.m,.i,.G,.N] ?_;refine cv hE rfl rfl (a_.gy (hp (l.getD i.k En.ab)) ⟨⟨_,rfl,aw⟩,⟨_,rfl,(cA (λc hc=>match c,hc with|0,_=>aw|c+1,hc=>absurd hc (by simp only[En.n];omega)))⟩,trivial⟩ rfl rfl rfl) ?_;refine go [.Z] ?_;refine cd (λc2=>?_) λc2=>?_
  ·try simp only[ah]at c2
   refine go [.R,.m,.N,.a,.Z] ?_;refine aQ 4 ?_;rw[cZ i En.ab (by omega) c2];rfl
  try simp only[ah]at c2
  refine go [.J,.R1,.b,.m,.Z] ?_;refine⟨⟨i.k+1,by omega,i.next En.ab (by omega) c2⟩,ws,?_⟩;show l.length-(i.k+1)<l.length-i.k;omega
 try simp only[ah]at c1
 refine AW.exit ?_;dsimp only[aD,au,reduceIte];refine go [.R,.a,.Z] ?_;refine aQ 4 ?_;rw[cC i (by omega)];rfl
theorem iS(u:aX)(name:Int):a_ prog 200 [.g [.v (iv u.Next),.v (iv u.bp),.h aa [],.h (aa+1) [],.h (aa+2) [],.h (aa+3) [],.h (aa+4) [],.h (aa+5) [],.h (aa+6) []],.v (iv name)] [.rt aa .ro (tr u.aP),.rt (aa+1) .ro (tr u.ag),.rt (aa+2) .ro (tr u.ao),.rt (aa+3) .ro (tr u.ak),.rt (aa+4) .ro (tr u.ay),.rt (aa+5) .ro (tr u.aN),.rt (aa+6) .ro (tr u.Out)] (λy _=>y= .v (iv (kx u name))):=by
 refine ob func200 ntmps200 ?_;refine go [.R,.B,.N,.B,.N,.a,.Z,.R,.f,.l,.N] ?_;refine qq Qt.makeFunc ?_;refine cv call232 rfl rfl (a_.gy (um name call233 (λx=>tU name x) u.ay) ⟨⟨_,rfl,aw⟩,⟨_,rfl,(cA (λc hc=>match c,hc with|0,_=>aw|c+1,hc=>absurd hc (by simp only[En.n];omega)))⟩,trivial⟩ rfl rfl rfl) ?_;refine go [.N,.a,.Z] ?_;refine aQ 4 ?_;rfl
theorem xH(o:az)(pipe:Int):a_ prog 204 [.g [.v (iv o.Id),.v (iv o.Kind),.v (iv o.Target),.v (iv o.j3),.v (iv o.fc)],.v (iv pipe)] [] (λy _=>y= .v (.bool (py pipe o))):=by
 refine ob func204 ntmps204 ?_;refine go [.R,.B,.N,.a,.Z,.R,.f,.l,.N,.b,.m] ?_;apply aB.cut 3
 ·intro Kg1;refine aB.bq 8 rfl (λg1=>?_) (λg1=>?_)
  ·refine go [.f,.N,.l,.b] ?_;exact bV 11 [9,10,11] (bU g1 _ undef) Kg1
  ·refine go [.x,.x,.x] ?_;exact bX 11 [9,10,11] (bY g1 undef _) Kg1
 refine qq (Qt.br rfl rfl rfl) ?_;refine go [.N,.m] ?_;apply aB.cut 4
 ·intro Kg2;refine aB.split 13 rfl (λg2=>?_) (λg2=>?_)
  ·refine go [.f,.l,.N,.m,.b] ?_;exact bV 17 [14,15,16,17] (bY g2 _ undef) Kg2
  ·refine go [.x,.x,.x,.x] ?_;exact bX 17 [14,15,16,17] (bU g2 undef _) Kg2
 refine qq (Qt.aG rfl rfl rfl) ?_;refine go [.N,.a,.Z] ?_;refine aQ 4 ?_;rfl
theorem m_(u:aX)(p:bu):a_ prog 195 [.g [.v (iv u.Next),.v (iv u.bp),.h aa [],.h (aa+1) [],.h (aa+2) [],.h (aa+3) [],.h (aa+4) [],.h (aa+5) [],.h (aa+6) []],.g [.v (iv p.ey),.v (iv p.bM),.v (iv p.State),.v (iv p.dX),.v (iv p.dh.Pc),.h (aa+7) [],.h (aa+8) [],.h (aa+9) [],.v (iv p.cJ),.v (iv p.Code)]] [.rt aa .ro (tr u.aP),.rt (aa+1) .ro (tr u.ag),.rt (aa+2) .ro (tr u.ao),.rt (aa+3) .ro (tr u.ak),.rt (aa+4) .ro (tr u.ay),.rt (aa+5) .ro (tr u.aN),.rt (aa+6) .ro (tr u.Out),.rt (aa+7) .ro (tr p.dh.b_),.rt (aa+8) .ro (tr p.Mem),.rt (aa+9) .ro (tr p.cH)] (λy _=>y= .v (.bool (bQ u p))):=by
 refine ob func195 ntmps195 ?_;refine go [.R,.B,.N,.B,.N,.a,.Z,.R2,.f,.l,.Z] ?_;refine AW.block (sr ?_);refine go [.b,.N,.a,.Z] ?_;refine cd (λc1=>?_) λc1=>?_
 ·try simp only[ah]at c1
  refine go [.R,.f,.l,.N,.f,.l,.b,.N,.a,.Z] ?_;refine aQ 4 ?_;refine rb ?_;simp only[bQ];grind only
 try simp only[ah]at c1
 refine go [.R2,.b,.a,.Z] ?_;refine cd (λc2=>?_) λc2=>?_
 ·have k2:=c2
  try simp only[ah]at c2
  refine go [.J] ?_;refine AW.jV rfl k2 ?_;refine go [.R,.f,.N,.l,.f,.l,.N] ?_;refine cv call155 rfl rfl (jn _ _) ?_;refine go [.N,.m] ?_;apply aB.cut 5
  ·intro Kg3;refine aB.split 22 rfl (λg3=>?_) (λg3=>?_)
   ·refine go [.G,.f,.N,.l] ?_;refine aB.step rfl g3 (aE.aC rfl (by decide) call197 rfl rfl (j_ u _)) ?_;refine go [.N,.b] ?_;exact bV 27 [23,24,25,26,27] (bY g3 _ undef) Kg3
   ·refine go [.x,.x,.x,.x,.N,.x] ?_;exact bX 27 [23,24,25,26,27] (bU g3 undef _) Kg3
  refine qq (Qt.aG rfl rfl rfl) ?_;refine go [.a,.Z] ?_;refine aQ 4 ?_;refine rb ?_;simp only[bQ];grind only
 have k2:=c2
 try simp only[ah]at c2
 refine go [.R1,.b,.N,.a,.Z] ?_;refine cd (λc4=>?_) λc4=>?_
 ·try simp only[ah]at c4
  refine go [.R,.f,.l,.N,.f,.l] ?_;refine cv call155 rfl rfl (jn _ _) ?_;refine go [.N,.m] ?_;apply aB.cut 5
  ·intro Kg5;refine aB.split 22 rfl (λg5=>?_) (λg5=>?_)
   ·refine go [.G,.f,.N,.l] ?_;refine aB.step rfl g5 (aE.aC rfl (by decide) call197 rfl rfl (j_ u _)) ?_;refine go [.N,.b] ?_;exact bV 27 [23,24,25,26,27] (bY g5 _ undef) Kg5
   ·refine go [.x,.x,.x,.x,.N,.x] ?_;exact bX 27 [23,24,25,26,27] (bU g5 undef _) Kg5
  refine qq (Qt.aG rfl rfl rfl) ?_;refine go [.a,.Z] ?_;refine aQ 4 ?_;refine rb ?_;simp only[bQ];grind only
 try simp only[ah]at c4
 refine go [.J,.R,.f,.N,.l,.b,.a,.Z] ?_;refine aQ 4 ?_;refine rb ?_;simp only[bQ];grind only
open Go Go.RowKit Go.Proofs Go.Proofs.Tryz
theorem nb(u:aX)(f:Int):a_ prog 196 [.v (iv f),.p aa [] 9 0 0] [.rt aa .ro (tr [u])] (λy _=>y= .v (.bool (!(rN u f)))):=by
 refine ob func196 ntmps196 ?_;refine go [.R,.a,.Z,.R,.m,.b,.N,.m] ?_;apply aB.cut 4
 ·intro Kg1;refine aB.split 6 rfl (λg1=>?_) (λg1=>?_)
  ·refine go [.G,.m,.N] ?_;refine aB.step rfl g1 (aE.aC rfl (by decide) call197 rfl rfl (j_ u _)) ?_;refine go [.N,.b] ?_;exact bV 10 [7,8,9,10] (bY g1 _ undef) Kg1
  ·refine go [.x,.x,.x,.x] ?_;exact bX 10 [7,8,9,10] (bU g1 undef _) Kg1
 refine qq (Qt.aG rfl rfl rfl) ?_;refine go [.a,.Z] ?_;refine aQ 3 ?_;refine rb ?_;simp only[rN];grind only
theorem m7(f:Int):a_ prog 198 [.v (iv f)] [] (λy _=>y= .v (.bool (!(f== -1)))):=by
 refine ob func198 ntmps198 ?_;refine go [.R,.a,.Z,.R,.m,.b,.N,.a,.Z] ?_;refine aQ 2 ?_;rfl
theorem zq{fid:FuncId}{p:Int→Bool}(u0:aX)(hE:lL prog fid)(hp:∀x:Int,a_ prog fid [.v (iv x),.p aa [] 9 0 0] [.rt aa .ro (tr [u0])] (λy _=>y= .v (.bool (p x))))(l:List Int):a_ prog 168 [.h aa [],.f fid [.p (aa+1) [] 9 0 0]] [.rt aa .ro (tr l),.rt (aa+1) .ro (tr [u0])] (λy _=>y= .v (iv (fq p l))):=by
 refine ob func168 ntmps168 ?_;refine AW.len aa [] rfl (by simp[bT]) rfl (λhl=>?_);refine go [.R,.a,.Z,.R2,.m,.h,.N,.m,.Z] ?_;refine AW.block ?_;refine AW.aL (λi:fo p l=>[.sl 8 (.v (iv i.k)),.sl 7 (.v (iv l.length)),.sl 0 (.h aa []),.sl 1 (.f fid [.p (aa+1) [] 9 0 0]),.rt aa .ro (tr l),.rt (aa+1) .ro (tr [u0])]) (λi=>l.length-i.k) ⟨0,zero_le _,rfl⟩ (ws) ?_;intro i;have hle:=i.le;refine go [.R,.b,.Z] ?_;refine AW.seq ?_;refine cd (λc1=>?_) λc1=>?_
 ·try simp only[ah]at c1
  refine jd (AW.seq (AW.block (sr ?_)));refine go [.m,.N,.a,.Z,.R,.m,.m,.N,.m,.i,.l,.N] ?_;refine cv hE rfl rfl (a_.gy (hp (l.getD i.k En.ab)) ⟨⟨_,rfl,(cA (λc hc=>match c,hc with|0,_=>aw|1,_=>aw|2,_=>aw|3,_=>aw|4,_=>aw|5,_=>aw|6,_=>aw|7,_=>aw|8,_=>aw|c+9,hc=>absurd hc (by simp only[En.n];omega)))⟩,trivial⟩ rfl rfl rfl) ?_;refine go [.Z] ?_;refine cd (λc2=>?_) λc2=>?_
  ·try simp only[ah]at c2
   refine go [.R,.m,.N,.a,.Z] ?_;refine aQ 4 ?_;rw[cZ i En.ab (by omega) c2];rfl
  try simp only[ah]at c2
  refine go [.J,.R1,.b,.m,.Z] ?_;refine⟨⟨i.k+1,by omega,i.next En.ab (by omega) c2⟩,ws,?_⟩;show l.length-(i.k+1)<l.length-i.k;omega
 try simp only[ah]at c1
 refine AW.exit ?_;dsimp only[aD,au,reduceIte];refine go [.R,.a,.Z] ?_;refine aQ 4 ?_;rw[cC i (by omega)];rfl
theorem qN{fid:FuncId}{p:Int→Bool}(u0:aX)(hE:lL prog fid)(hp:∀x:Int,a_ prog fid [.v (iv x),.p aa [] 9 0 0] [.rt aa .ro (tr [u0])] (λy _=>y= .v (.bool (p x))))(l:List Int):a_ prog 110 [.h aa [],.f fid [.p (aa+1) [] 9 0 0]] [.rt aa .ro (tr l),.rt (aa+1) .ro (tr [u0])] (λy _=>y= .v (.bool (l.any p))):=by
 refine ob func110 ntmps110 ?_;refine go [.R,.a,.Z,.R,.m,.m,.N] ?_;refine cv call168 rfl rfl (a_.gy (zq u0 hE hp l) ⟨⟨_,rfl,aw⟩,⟨_,rfl,(cA (λc hc=>match c,hc with|0,_=>aw|1,_=>aw|2,_=>aw|3,_=>aw|4,_=>aw|5,_=>aw|6,_=>aw|7,_=>aw|8,_=>aw|c+9,hc=>absurd hc (by simp only[En.n];omega)))⟩,trivial⟩ rfl rfl rfl) ?_;refine go [.N,.b,.a,.Z] ?_;refine aQ 4 ?_;rw[←gk];rfl
theorem zX(l:List Int)(p:Int→Bool):(l.any λx=> !(p x))= !(l.all p):=by rw[Bool.eq_iff_iff];simp
end Go.Proofs.YtekcnnngjoonbaaGreat.VM

