/- Contracts. No conditions. -/
import Derived.Test.YtekcnnngjoonbaaGreatWd
import Derived.Test.YtekcnnngjoonbaaGreatWh
set_option linter.all false
set_option maxHeartbeats 8000000
set_option maxRecDepth 10000
namespace Go.Proofs.YtekcnnngjoonbaaGreat.VM
open List Nat
open Go Go.RowKit Go.Proofs
theorem s3(i:dE):bf Tryz.prog 191 [.g [.v (iv i.Op), .v (iv i.A), .v (iv i.B), .v (iv i.C)]] [] (λy _=>y= .v (.bool !(eO i))):=by
 refine ob Tryz.func191 Tryz.ntmps191 ?_;refine go [.R,.B,.N,.a,.Z,.R,.G] (k:=?_);refine cv Tryz.call192 rfl rfl (uH i) ?_;refine go [.N,.n,.a,.Z] (k:=?_);refine aM 2 ?_;rfl
theorem wE{fid:FuncId}{p:dE→Bool}(hE:l4 Tryz.prog fid)(hp:∀x:dE,bf Tryz.prog fid [.g [.v (iv x.Op), .v (iv x.A), .v (iv x.B), .v (iv x.C)]] [] (λy _=>y= .v (.bool (p x))))(l:List dE):bf Tryz.prog 225 [.h aa [], .f fid []] [.rt aa .ro (tr l)] (λy _=>y= .v (iv (gg p l))):=by
 refine ob Tryz.func225 Tryz.ntmps225 ?_;refine AW.len aa [] rfl (by simp[ck]) rfl (λhl=>?_);refine go [.R,.a,.Z,.R2,.m,.h,.N,.m,.Z] (k:=?_);refine AW.block ?_;refine AW.bw (λi:fw p l=>[.sl 8 (.v (iv i.k)), .sl 7 (.v (iv l.length)), .sl 0 (.h aa []), .sl 1 (.f fid []), .rt aa .ro (tr l)]) (λi=>l.length-i.k) ⟨0,zero_le _,rfl⟩ (ws) ?_;intro i;have hle:=i.le;refine go [.R,.b,.Z] (k:=?_);refine AW.seq ?_;refine cd (λc1=>?_) λc1=>?_
 ·try simp only[ai]at c1
  refine jd (AW.seq (AW.block (sr ?_)));refine go [.m,.N,.a,.Z,.R,.m,.m,.N,.m,.i,.G,.N] (k:=?_);refine cv hE rfl rfl (hp (l.getD i.k En.ab)) ?_;refine go [.Z] (k:=?_);refine cd (λc2=>?_) λc2=>?_
  ·try simp only[ai]at c2
   refine go [.R,.m,.N,.a,.Z] (k:=?_);refine aM 4 ?_;rw[dc i En.ab (by omega) c2];rfl
  try simp only[ai]at c2
  refine go [.J,.R1,.b,.m,.Z] (k:=?_);refine⟨⟨i.k+1,by omega,i.next En.ab (by omega) c2⟩,ws,?_⟩;show l.length-(i.k+1)<l.length-i.k;omega
 try simp only[ai]at c1
 refine AW.exit ?_;dsimp only[aJ,ay,reduceIte];refine go [.R,.a,.Z] (k:=?_);refine aM 4 ?_;rw[cD i (by omega)];rfl
theorem u_{fid:FuncId}{p:dE→Bool}(hE:l4 Tryz.prog fid)(hp:∀x:dE,bf Tryz.prog fid [.g [.v (iv x.Op), .v (iv x.A), .v (iv x.B), .v (iv x.C)]] [] (λy _=>y= .v (.bool (p x))))(l:List dE):bf Tryz.prog 190 [.h aa [], .f fid []] [.rt aa .ro (tr l)] (λy _=>y= .v (.bool (l.any p))):=by
 refine ob Tryz.func190 Tryz.ntmps190 ?_;refine go [.R,.a,.Z,.R,.m,.m,.N] (k:=?_);refine cv Tryz.call225 rfl rfl (wE hE hp _) ?_;refine go [.N,.b,.a,.Z] (k:=?_);refine aM 4 ?_;rw[←gx];rfl
theorem rX(l:List dE):bf Tryz.prog 148 [.h aa []] [.rt aa .ro (tr l)] (λy _=>y= .v (.bool (gf l))):=by
 refine ob Tryz.func148 Tryz.ntmps148 ?_;refine go [.R,.a,.Z,.R,.m,.h,.N,.b,.m] (k:=?_);apply az.cut 3
 ·intro Kg1;refine az.split 6 rfl (λg1=>?_) (λg1=>?_)
  ·refine go [.m,.N] (k:=?_);refine az.step rfl g1 (aK.aL rfl (by decide) Tryz.call190 rfl rfl (u_ Tryz.call191 (λx=>s3 x) _)) ?_;refine go [.N,.n] (k:=?_);exact bZ 9 [7,8,9] (b6 g1 _ undef) Kg1
  ·refine go [.x,.x,.x] (k:=?_);exact bX 9 [7,8,9] (bY g1 undef _) Kg1
 refine qq (Qt.aD rfl rfl rfl) ?_;refine go [.a,.Z] (k:=?_);refine aM 2 ?_;simp only[bj,aA,reduceIte,Nat.reduceEqDiff];congr 2;rw[Bool.eq_iff_iff];simp[gf];omega
theorem s5(l:List dE):bf Tryz.prog 180 [.h aa []] [.rt aa .ro (tr l)] (λy _=>y= .v (.bool (gf l))):=by
 refine ob Tryz.func180 Tryz.ntmps180 ?_;refine AW.len aa [] rfl (by simp[ck]) rfl (λhl=>?_);refine go [.R,.a,.Z,.R2,.m,.h,.N,.b,.Z] (k:=?_);refine cd (λc1=>?_) λc1=>?_
 ·try simp only[ai]at c1
  refine go [.R,.a,.Z] (k:=?_);refine aM 2 ?_;rw[show gf l=false from by simp only[gf,decide_eq_false (show ¬l.length≤40 by omega),Bool.false_and]];rfl
 try simp only[ai]at c1
 refine jd (bP ?_);refine go [.a,.Z] (k:=?_);refine AW.block ?_;refine AW.bw (λi:fx eO l=>[.sl 3 (.v (iv i.k)), .sl 0 (.h aa []), .rt aa .ro (tr l)]) (λi=>l.length-i.k) ⟨0,zero_le _,rfl⟩ (ws) ?_;intro i;have hle:=i.le;refine go [.R2,.m,.N,.m,.h,.b,.Z] (k:=?_);refine cd (λc2=>?_) λc2=>?_
 ·try simp only[ai]at c2
  refine jd (AW.seq (AW.block (sr ?_)));refine go [.m,.N,.m,.i,.G,.N] (k:=?_);refine cv Tryz.call222 rfl rfl (uB (l.getD i.k En.ab)) ?_;refine go [.N,.n,.Z] (k:=?_);refine cd (λc3=>?_) λc3=>?_
  ·try simp only[ai]at c3
   refine go [.R,.a,.Z] (k:=?_);refine aM 2 ?_;rw[show gf l=false from by simp only[gf,i.stop En.ab (by omega) (by simpa using c3),Bool.and_false]];rfl
  try simp only[ai]at c3
  refine go [.J,.R1,.m,.N,.b,.a,.Z] (k:=?_);refine⟨⟨i.k+1,by omega,i.next En.ab (by omega) (by simpa using c3)⟩,ws,?_⟩;show l.length-(i.k+1)<l.length-i.k;omega
 try simp only[ai]at c2
 refine AW.exit ?_;dsimp only[aJ,ay,reduceIte];refine go [.R,.a,.Z] (k:=?_);refine aM 2 ?_;rw[show gf l=true from by simp only[gf,i.full (by omega),decide_eq_true (show l.length≤40 by omega),Bool.and_true]];rfl
/-! the small Unix, as plain functions -/
def fC(P:Nat→Bool):Nat→Bool
 | 0=>true
 | n+1=>fC P n&&P n
theorem jq{P:Nat→Bool}:∀{n:Nat},fC P n=true↔∀i,i<n→P i=true
 | 0=>by simp[fC]
 | n+1=>by
  rw[fC,Bool.and_eq_true,jq];constructor
  ·rintro ⟨h1,h2⟩ i hi
   rcases Nat.lt_or_ge i n with h|h
   ·exact h1 i h
   ·rw[show i=n by omega];exact h2
  ·exact λh=>⟨λi hi=>h i (by omega),h n (by omega)⟩
structure qO(P:Nat→Bool)(n:Nat) where
 k:Nat
 le:k≤n
 h:∀i,i<k→P i=true
theorem qO.next{P:Nat→Bool}{n:Nat}(i:qO P n)(hp:P i.k=true):∀j,j<i.k+1→P j=true:=λj hj=>by
 rcases Nat.lt_or_ge j i.k with h|h
 ·exact i.h j h
 ·rw[show j=i.k by omega];exact hp
theorem qO.stop{P:Nat→Bool}{n:Nat}(i:qO P n)(hk:i.k<n)(hp:P i.k=false):fC P n=false:=by
 cases h:fC P n with
 | false=>rfl
 | true=>rw[jq.1 h i.k hk]at hp;cases hp
theorem qO.full{P:Nat→Bool}{n:Nat}(i:qO P n)(hk:¬i.k<n):fC P n=true:=jq.2 λj hj=>i.h j (by have:=i.le;omega)

def kg(u:bt)(pid:Int):Int:=gg (λp:bG=>p.fc==pid) u.ah
def lk(u:bt)(id:Int):Int:=gg (λo:aw=>o.Id==id) u.ax
def oy(u:bt)(id:Int):Int:=gg (λp:cR=>p.Id==id) u.ao
def kq(u:bt)(name:Int):Int:=gg (λf:cm=>f.Name==name) u.aC
def lf(l:List Int)(x:Int):Bool:=l.any λy=>y==x
theorem si{l:List Int}{x:Int}:lf l x=true↔x∈l:=by
 simp[lf]
theorem sZ(l:List Int)(x:Int):lf l x= !(l.all λy=> !(y==x)):=by
 rw[Bool.eq_iff_iff];simp[lf]
def cS(c:oM):Bool:=decide (0≤c.Pc)&&decide (c.Pc≤40)&&(c.cy.length==4&&c.cy.all eI)
def bU(u:bt)(p:bG):Bool:=
 if p.State=2 then decide (u.bF<p.di)
 else if p.State=4∨p.State=5 then lf p.cV p.di&&decide (0≤lk u p.di)
 else decide (p.di=0)
def tm(u:bt)(f:Int):Bool:=f== -1 || decide (0≤lk u f)
def br(u:bt)(p:bG):Bool:=p.b_==0 || (decide (0≤kg u p.b_)&& !(p.b_==p.fc)&& !((u.ah.getD (kg u p.b_).toNat En.ab).State==6))
def cU(p:bG):Bool:=if p.State=6 then decide ((p.Mem.length:Int)=0∧p.b_≠0)&&p.cV.all (λx=>x== -1)else decide ((0:Int)<p.Mem.length∧p.Code=0)
def cI(u:bt)(p:bG):Bool:=decide (1≤p.State∧p.State≤6)&&decide (0≤p.ft∧p.ft<u.aV.length)&&cS p.d_&&eI p.Code&&br u p&&decide ((p.Mem.length:Int)≤12∧((p.Mem.length%4:Nat):Int)=0)&&p.Mem.all eI&&decide ((p.cV.length:Int)=4)&&bU u p&&p.cV.all (tm u)&&cU p
def c_(u:bt)(p:bG):Bool:=decide (1≤p.fc∧p.fc<u.Next)&&cI u p
/-- how many of a list's first ones are one number -/
def gm(id:Int)(l:List Int):Nat→Nat:=bB (λf:Int=>if f=id then 1 else 0) 0 l
def gP(u:bt)(id:Int):Nat→Nat:=bB (λp:bG=>gm id p.cV p.cV.length) En.ab u.ah
def kr(u:bt)(id:Int):Nat:=gP u id u.ah.length
def cb(u:bt)(o:aw):Bool:=
 decide (0≤o.Id∧o.Id≤7)&&decide (kr u o.Id≠0∧o.gK=kr u o.Id)&&
 (if o.Kind=1 then decide (o.Target=0∧o.mi=0)
 else if o.Kind=2 then decide (0≤kq u o.Target)&&decide (0≤o.mi∧o.mi≤((u.aC.getD (kq u o.Target).toNat En.ab).Data.length:Int))
 else if o.Kind=3∨o.Kind=4 then decide (0≤oy u o.Target)&&decide (o.mi=0)
 else false)
def nL(pipe:Int)(o:aw):Bool:=(o.Kind==3 || o.Kind==4)&&o.Target==pipe
def nJ(l:List bG):Nat→Nat:=bB (λp:bG=>p.Mem.length) En.ab l
def iJ(l:List bG):Nat→Nat:=bB (λp:bG=>p.Mem.length / 4) En.ab l
def aH(key:Nat→Int)(i:Nat):Bool:=decide (i=0∨key (i-1)<key i)
def eE(u:bt)(i:Nat):Int:=(u.ah.getD i En.ab).fc
def kx(u:bt):Bool:=fC (λi=>aH (eE u) i&&c_ u (u.ah.getD i En.ab)) u.ah.length
def rj(u:bt):Bool:=fC (λi=>aH (λi=>(u.ax.getD i En.ab).Id) i&&cb u (u.ax.getD i En.ab)) u.ax.length
def aY(u:bt)(p:cR):Bool:=decide (0≤p.Id∧p.Id≤2)&&decide ((p.Data.length:Int)≤4)&&p.Data.all eI&&u.ax.any (nL p.Id)
def nk(u:bt):Bool:=fC (λi=>aH (λi=>(u.ao.getD i En.ab).Id) i&&aY u (u.ao.getD i En.ab)) u.ao.length&&decide ((u.ao.length:Int)≤3)
def bI(f:cm):Bool:=decide (0≤f.Name∧f.Name≤5)&&decide ((f.Data.length:Int)≤8)&&f.Data.all eI
def nA(l:List cm):Bool:=fC (λi=>aH (λi=>(l.getD i En.ab).Name) i&&bI (l.getD i En.ab)) l.length&&decide ((l.length:Int)≤6)
def df:List bG→List Int
 | []=>[]
 | p :: l=>if p.State=1 then p.fc :: df l else df l
def jQ(u:bt):Bool:=decide (((df u.ah).length:Int)=u.aR.length)&&(df u.ah).all λx=>lf u.aR x
def dx(l:List (List dE)):Bool:=(decide ((1:Int)≤l.length)&&decide ((l.length:Int)≤4))&&l.all gf
def et(u:bt):Bool:=decide (1≤u.Next∧u.Next≤100000)&&decide (0≤u.bF∧u.bF≤1000000)&&dx u.aV&&decide ((u.Out.length:Int)≤60)&&u.Out.all eI&&decide ((u.ah.length:Int)≤6)
def bh(u:bt):Bool:=decide ((u.ax.length:Int)≤8)&&rj u&&nk u&&nA u.aC
def dB(u:bt)(i:Nat):Bool:=aH (λi=>(u.ax.getD i En.ab).Id) i&&cb u (u.ax.getD i En.ab)
def aI(u:bt)(i:Nat):Bool:=aH (λi=>(u.ao.getD i En.ab).Id) i&&aY u (u.ao.getD i En.ab)
def bi(l:List cm)(i:Nat):Bool:=aH (λi=>(l.getD i En.ab).Name) i&&bI (l.getD i En.ab)
def cF(u:bt)(i:Nat):Bool:=aH (eE u) i&&c_ u (u.ah.getD i En.ab)
def jm(u:bt)(i:Nat):Bool:= !((u.ah.getD i En.ab).State==1) || lf u.aR (u.ah.getD i En.ab).fc
theorem aO(u:bt):rj u=fC (dB u) u.ax.length:=rfl
theorem aG(u:bt):nk u=(fC (aI u) u.ao.length&&decide ((u.ao.length:Int)≤3)):=rfl
theorem aN(l:List cm):nA l=(fC (bi l) l.length&&decide ((l.length:Int)≤6)):=rfl
theorem ca(u:bt):kx u=fC (cF u) u.ah.length:=rfl
def vd(u:bt)(p:bG)(f:Int):Bool:=f== -1 || (decide (0≤lk u f)&& !(p.State==6))
theorem yC(u:bt)(p:bG):p.cV.all (vd u p)=(p.cV.all (tm u)&&(!(p.State==6) || p.cV.all (λx=>x== -1))):=by
 by_cases h:p.State=6
 ·rw[Bool.eq_iff_iff];simp only[vd,tm,h,beq_self_eq_true,Bool.not_true,Bool.and_false,Bool.or_false,Bool.false_or,all_eq_true,Bool.and_eq_true,Bool.or_eq_true];exact⟨λhh=>⟨λx hx=> .inl (hh x hx),hh⟩,λhh=>hh.2⟩
 ·have h':(p.State==6)=false:=by simpa using h
  have e:vd u p=tm u:=funext λf=>by simp only[vd,tm,h',Bool.not_false,Bool.and_true]
  rw[e,h'];simp
def dn(u:bt):Bool:=et u&&decide ((u.ax.length:Int)≤8)&&decide ((iJ u.ah u.ah.length:Int)≤16)&&kx u&&rj u&&nk u&&nA u.aC&&jQ u

def zN(u:bt):Nat→Nat:=bB (λp:bG=>p.cV.length) En.ab u.ah
/-- sizes that a count cannot pass -/
structure jw(u:bt):Prop where
 mem:nJ u.ah u.ah.length≤4194304
 fds:zN u u.ah.length≤4194304
 procs:u.ah.length≤1048576
 opens:u.ax.length≤1048576
 ready:u.aR.length≤1048576
theorem q_{α:Type}{c c':α→Nat}{d:α}{l:List α}(h:∀x,c x≤c' x):∀k,bB c d l k≤bB c' d l k
 | 0=>Nat.le_refl _
 | k+1=>by simp only[bB];have:=q_ (d:=d) (l:=l) h k;have:=h (l.getD k d);omega
theorem wD(l:List bG)(k:Nat):iJ l k≤nJ l k:=q_ (c:=λp:bG=>p.Mem.length / 4) (c':=λp:bG=>p.Mem.length) (λp=>by omega) k
theorem pM{u:bt}(hb:jw u):iJ u.ah u.ah.length≤4194304:=Nat.le_trans (wD _ _) hb.mem
def jy(u:bt)(pipe kind:Int):Nat→Nat:=bB (λo:aw=>if o.Kind=kind∧o.Target=pipe then 1 else 0) En.ab u.ax
theorem oN(u:bt)(pipe kind:Int)(k:Nat):jy u pipe kind (k+1)=jy u pipe kind k+(if(u.ax.getD k En.ab).Kind=kind∧(u.ax.getD k En.ab).Target=pipe then 1 else 0):=rfl
theorem lC(u:bt)(pipe kind:Int):∀k,jy u pipe kind k≤k
 | 0=>Nat.le_refl _
 | k+1=>by have:=lC u pipe kind k;rw[oN];split<;>omega
theorem uI(id:Int)(l:List Int)(k:Nat):gm id l (k+1)=gm id l k+(if l.getD k 0=id then 1 else 0):=rfl
theorem nN{α:Type}{c:α→Nat}{d:α}{l:List α}:∀k,k≤l.length→(0<bB c d l k↔∃i,i<k∧0<c (l.getD i d))
 | 0,_=>by simp[bB]
 | k+1,hk=>by
  rw[bB];have ih:=nN (c:=c) (d:=d) (l:=l) k (by omega);constructor
  ·intro h;rcases eq_zero_or_pos (bB c d l k)with h0|h0
   ·exact⟨k,by omega,by omega⟩
   ·obtain⟨i,h1,h2⟩:=ih.1 h0;exact⟨i,by omega,h2⟩
  ·rintro ⟨i,h1,h2⟩
   rcases Nat.lt_or_ge i k with h|h
   ·have:=ih.2 ⟨i,h,h2⟩;omega
   ·rw[show i=k by omega]at h2;omega
theorem xj(u:bt)(pipe:Int):decide (jy u pipe 3 u.ax.length+jy u pipe 4 u.ax.length=0)= !(u.ax.any (nL pipe)):=by
 rw[Bool.eq_iff_iff];have h3:=nN (c:=λo:aw=>if o.Kind=3∧o.Target=pipe then 1 else 0) (d:=En.ab) (l:=u.ax) _ (Nat.le_refl _);have h4:=nN (c:=λo:aw=>if o.Kind=4∧o.Target=pipe then 1 else 0) (d:=En.ab) (l:=u.ax) _ (Nat.le_refl _);simp only[decide_eq_true_eq,Bool.not_eq_true',any_eq_false];constructor
 ·intro h x hx hE;obtain⟨i,hi,rfl⟩:=List.mem_iff_getElem.1 hx;have hg:u.ax.getD i En.ab=u.ax[i]:=by simp[hi]
  simp only[nL,Bool.and_eq_true,Bool.or_eq_true,beq_iff_eq]at hE;rcases hE with⟨hk|hk,ht⟩
  ·have:0<jy u pipe 3 u.ax.length:=h3.2 ⟨i,hi,by rw[hg];simp[hk,ht]⟩;omega
  ·have:0<jy u pipe 4 u.ax.length:=h4.2 ⟨i,hi,by rw[hg];simp[hk,ht]⟩;omega
 ·intro h;have g:∀kd:Int,(kd=3∨kd=4)→¬ ∃i,i<u.ax.length∧0<(λo:aw=>if o.Kind=kd∧o.Target=pipe then 1 else 0) (u.ax.getD i En.ab):=λkd hkd ⟨i,hi,hp⟩=>by
   have hg:u.ax.getD i En.ab=u.ax[i]:=by simp[hi]
   rw[hg]at hp;refine h _ (getElem_mem hi) ?_;simp only at hp;split at hp
   ·rename_i hh;rcases hkd with rfl|rfl<;>simp[nL,hh.1,hh.2]
   ·omega
  have e3:¬0<jy u pipe 3 u.ax.length:=λhh=>g 3 (.inl rfl) (h3.1 hh);have e4:¬0<jy u pipe 4 u.ax.length:=λhh=>g 4 (.inr rfl) (h4.1 hh);omega
theorem sg(id:Int)(l:List Int):∀k,gm id l k≤k
 | 0=>Nat.le_refl _
 | k+1=>by have:=sg id l k;simp only[gm,bB]at this ⊢;split<;>omega
theorem wI(u:bt)(id:Int)(k:Nat):gP u id k≤zN u k:=
 q_ (c:=λp:bG=>gm id p.cV p.cV.length) (c':=λp:bG=>p.cV.length) (λp=>sg id p.cV p.cV.length) k
theorem pE{u:bt}(hb:jw u)(id:Int):kr u id≤4194304:=Nat.le_trans (wI u id _) hb.fds
theorem pN{l:List bG}(h:∀i,i<l.length→(l.getD i En.ab).Mem.length%4=0):∀k,k≤l.length→nJ l k=4*iJ l k
 | 0,_=>rfl
 | k+1,hk=>by
  have ih:=pN h k (by omega);have:=h k (by omega);simp only[nJ,iJ,bB]at ih ⊢;omega
theorem oz{u:bt}(h:kx u=true){i:Nat}(hi:i<u.ah.length):aH (eE u) i=true∧c_ u (u.ah.getD i En.ab)=true:=by
 have:=jq.1 h i hi;simpa only[Bool.and_eq_true]using this
theorem qD{u:bt}{p:bG}(h:c_ u p=true):p.Mem.length≤12∧p.Mem.length%4=0∧p.cV.length=4:=by
 simp only[c_,cI,Bool.and_eq_true,decide_eq_true_eq]at h;omega
theorem nP{key:Nat→Int}{n:Nat}(h:∀i,i<n→aH key i=true):∀j,j<n→∀i,i<j→key i<key j
 | 0,_,i,hi=>by omega
 | j+1,hj,i,hi=>by
  have h1:=h (j+1) hj;simp only[aH,decide_eq_true_eq,add_one_ne_zero,false_or,Nat.add_sub_cancel]at h1;rcases Nat.lt_or_ge i j with hlt|hge
  ·exact Int.lt_trans (nP h j (by omega) i hlt) h1
  ·rw[show i=j by omega];exact h1
theorem vS{u:bt}(h:kx u=true):(u.ah.map (·.fc)).Pairwise (· < ·):=by
 rw[pairwise_iff_getElem];intro i j hi hj hij;have:=nP (key:=eE u) (n:=u.ah.length) (λi hi=>(oz h hi).1) j (by simpa using hj) i hij;simp only[length_map]at hi hj;simp only[eE,getD_eq_getElem?_getD,getElem?_eq_getElem hi,getElem?_eq_getElem hj,Option.getD_some]at this;simpa using this
theorem oa:∀l:List bG,(df l).Sublist (l.map (·.fc))
 | []=>List.Sublist.refl _
 | p :: l=>by
  rw[df,map_cons];split
  ·exact(oa l).cons_cons _
  ·exact(oa l).cons _
theorem vI:∀{a b:List Int},a.Nodup→a.length=b.length→(∀x∈a,x∈b)→a.Perm b
 | [],b,_,hl,_=>by
  have:b=[]:=eq_nil_of_length_eq_zero hl.symm;rw[this]
 | x :: a,b,hn,hl,hs=>by
  have hx:x∈b:=hs x (mem_cons_self ..);have hp:=perm_cons_erase hx;refine(List.Perm.cons x (vI (List.nodup_cons.1 hn).2 ?_ λy hy=>?_)).trans hp.symm
  ·have:=hp.length_eq;simp only[length_cons]at this hl;omega
  ·have hne:y≠x:=λe=>(List.nodup_cons.1 hn).1 (e ▸ hy);exact(mem_erase_of_ne hne).2 (hs y (mem_cons_of_mem _ hy))
theorem qc:∀{a b:List Int},a.Perm b→a.Pairwise (· ≤ ·)→b.Pairwise (· ≤ ·)→a=b
 | [],b,h,_,_=>h.nil_eq
 | x :: a,[],h,_,_=>by have:=h.length_eq;simp at this
 | x :: a,y :: b,h,h1,h2=>by
  obtain⟨g1,g2⟩:=List.pairwise_cons.1 h1;obtain⟨k1,k2⟩:=List.pairwise_cons.1 h2;have hxy:x=y:=by
   have e1:x∈y :: b:=h.subset (mem_cons_self ..);have e2:y∈x :: a:=h.symm.subset (mem_cons_self ..);rcases List.mem_cons.1 e1 with e|e
   ·exact e
   ·rcases List.mem_cons.1 e2 with e'|e'
    ·exact e'.symm
    ·exact Int.le_antisymm (g1 y e') (k1 x e)
  subst hxy;rw[qc ((perm_cons _).1 h) g2 k2]
def y8(l:List Int):List Int:=l.mergeSort λx y=>decide (x≤y)
theorem yy(l:List Int):(y8 l).length=l.length:=length_mergeSort _
theorem x9(l:List Int):(y8 l).Pairwise (· ≤ ·):=by
 have:=pairwise_mergeSort (le:=λx y:Int=>decide (x≤y)) (λa b c h1 h2=>by simp at *; omega) (λa b=>by simp;omega) l;exact this.imp λh=>by simpa using h
theorem x6{u:bt}(h:kx u=true):(y8 u.aR==df u.ah)=jQ u:=by
 have hw:(df u.ah).Pairwise (· < ·):=(vS h).sublist (oa _);have hp:(y8 u.aR).Perm u.aR:=mergeSort_perm _ _;rw[Bool.eq_iff_iff,beq_iff_eq];simp only[jQ,Bool.and_eq_true,decide_eq_true_eq,all_eq_true,si];constructor
 ·intro e;rw[←e];exact⟨by rw[yy],λx hx=>hp.subset hx⟩
 ·rintro ⟨h1,h2⟩
  have hn:(df u.ah).Nodup:=hw.imp λh=>Int.ne_of_lt h;have:=vI hn (by omega) h2;exact qc (hp.trans this.symm) (x9 _) (hw.imp λh=>Int.le_of_lt h)
theorem mB{l:List bG}:∀{k:Nat},k<l.length→df (l.take (k+1))=if(l.getD k En.ab).State=1 then df (l.take k)++[(l.getD k En.ab).fc]else df (l.take k):=by
 induction l with
 | nil=>intro k hk;simp at hk
 | cons p l ih=>
  intro k hk;cases k with
  | zero=>simp only[take_succ_cons,take_zero,df,getD_cons_zero];split<;>rfl
  | succ k=>
   have:=ih (k:=k) (by simpa using hk);simp only[take_succ_cons,getD_cons_succ,df]at this ⊢;rw[this];split<;>split<;>rfl
def gL(l:List bG):Nat→Nat:=bB (λp:bG=>if p.State=1 then 1 else 0) En.ab l
theorem om{l:List bG}:∀{k:Nat},k≤l.length→(df (l.take k)).length=gL l k
 | 0,_=>by simp[df,gL,bB]
 | k+1,hk=>by
  have ih:=om (l:=l) (k:=k) (by omega);rw[mB (by omega)];simp only[gL,bB]at ih ⊢;split<;>simp[ih]
theorem r_{l:List bG}{x:Int}:x∈df l↔∃i,i<l.length∧(l.getD i En.ab).State=1∧(l.getD i En.ab).fc=x:=by
 induction l with
 | nil=>simp[df]
 | cons p l ih=>
  have hex:(∃i,i<(p :: l).length∧((p :: l).getD i En.ab).State=1∧((p :: l).getD i En.ab).fc=x)↔(p.State=1∧p.fc=x)∨∃i,i<l.length∧(l.getD i En.ab).State=1∧(l.getD i En.ab).fc=x:=by
   constructor
   ·rintro ⟨i,h1,h2⟩
    cases i with
    | zero=>exact .inl h2
    | succ i=>exact .inr ⟨i,by simpa using h1,h2⟩
   ·rintro (h|⟨i,h1,h2⟩)
    ·exact⟨0,by simp,h⟩
    ·exact⟨i+1,by simpa using h1,h2⟩
  rw[hex,←ih,df];split
  ·rename_i h;simp[h,eq_comm]
  ·rename_i h;simp[h]
theorem vR(u:bt):((df u.ah).all λx=>lf u.aR x)=fC (jm u) u.ah.length:=by
 rw[Bool.eq_iff_iff,jq];simp only[all_eq_true,jm,Bool.or_eq_true,Bool.not_eq_true',beq_eq_false_iff_ne];constructor
 ·intro h i hi
  by_cases hs:(u.ah.getD i En.ab).State=1
  ·exact .inr (h _ (r_.2 ⟨i,hi,hs,rfl⟩))
  ·exact .inl hs
 ·intro h x hx;obtain⟨i,hi,hs,rfl⟩:=r_.1 hx;rcases h i hi with h'|h'
  ·exact absurd hs h'
  ·exact h'
theorem uj(u:bt):jQ u=(decide ((gL u.ah u.ah.length:Int)=u.aR.length)&&fC (jm u) u.ah.length):=by
 have:=om (l:=u.ah) (k:=u.ah.length) (Nat.le_refl _);rw[take_length]at this;rw[jQ,vR,this]
theorem mz(l:List bG):∀k,gL l k≤k
 | 0=>Nat.le_refl _
 | k+1=>by have:=mz l k;simp only[gL,bB]at this ⊢;split<;>omega
theorem rS(l:List bG)(k:Nat):gL l (k+1)=gL l k+(if(l.getD k En.ab).State=1 then 1 else 0):=rfl
theorem vQ(u:bt)(pipe:Int):(((jy u pipe 3 u.ax.length:Nat):Int)+((jy u pipe 4 u.ax.length:Nat):Int)==0)= !(u.ax.any (nL pipe)):=by
 rw[←xj,Bool.eq_iff_iff];simp;omega
end Go.Proofs.YtekcnnngjoonbaaGreat.VM
