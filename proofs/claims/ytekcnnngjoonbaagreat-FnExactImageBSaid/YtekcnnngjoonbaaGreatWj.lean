/- Contracts. No conditions. -/
import Derived.Test.YtekcnnngjoonbaaGreatWd
import Derived.Test.YtekcnnngjoonbaaGreatWh
set_option linter.all false
set_option maxHeartbeats 8000000
set_option maxRecDepth 10000
namespace Go.Proofs.YtekcnnngjoonbaaGreat.VM
open List Nat
/-! the small Unix, as plain functions -/
def fw(P:Nat→Bool):Nat→Bool
 | 0=>true
 | n+1=>fw P n&&P n
theorem fF{P:Nat→Bool}:∀{n:Nat},fw P n=true↔∀i,i<n→P i=true
 | 0=>by simp[fw]
 | n+1=>by
  rw[fw,Bool.and_eq_true,fF];constructor
  ·rintro ⟨h1,h2⟩ i hi
   rcases Nat.lt_or_ge i n with h|h
   ·exact h1 i h
   ·rw[show i=n by omega];exact h2
  ·exact λh=>⟨λi hi=>h i (by omega),h n (by omega)⟩
structure q_(P:Nat→Bool)(n:Nat) where
 k:Nat
 le:k≤n
 h:∀i,i<k→P i=true
theorem q_.next{P:Nat→Bool}{n:Nat}(i:q_ P n)(hp:P i.k=true):∀j,j<i.k+1→P j=true:=λj hj=>by
 rcases Nat.lt_or_ge j i.k with h|h
 ·exact i.h j h
 ·rw[show j=i.k by omega];exact hp
theorem q_.stop{P:Nat→Bool}{n:Nat}(i:q_ P n)(hk:i.k<n)(hp:P i.k=false):fw P n=false:=by
 cases h:fw P n with
 | false=>rfl
 | true=>rw[fF.1 h i.k hk]at hp;cases hp
theorem q_.full{P:Nat→Bool}{n:Nat}(i:q_ P n)(hk:¬i.k<n):fw P n=true:=fF.2 λj hj=>i.h j (by have:=i.le;omega)

def kp(u:aX)(pid:Int):Int:=fq (λp:bu=>p.ey==pid) u.ag
def kr(u:aX)(id:Int):Int:=fq (λo:az=>o.Id==id) u.ao
def ot(u:aX)(id:Int):Int:=fq (λp:cK=>p.Id==id) u.ak
def kx(u:aX)(name:Int):Int:=fq (λf:ca=>f.Name==name) u.ay
def ll(l:List Int)(x:Int):Bool:=l.any λy=>y==x
theorem tl{l:List Int}{x:Int}:ll l x=true↔x∈l:=by
 simp[ll]
theorem ta(l:List Int)(x:Int):ll l x= !(l.all λy=> !(y==x)):=by
 rw[Bool.eq_iff_iff];simp[ll]
def cQ(c:oj):Bool:=decide (0≤c.Pc)&&decide (c.Pc≤40)&&(c.b_.length==4&&c.b_.all ek)
def bQ(u:aX)(p:bu):Bool:=
 if p.State=2 then decide (u.bp<p.cJ)
 else if p.State=4∨p.State=5 then ll p.cH p.cJ&&decide (0≤kr u p.cJ)
 else decide (p.cJ=0)
def rN(u:aX)(f:Int):Bool:=f== -1 || decide (0≤kr u f)
def bn(u:aX)(p:bu):Bool:=p.bM==0 || (decide (0≤kp u p.bM)&& !(p.bM==p.ey)&& !((u.ag.getD (kp u p.bM).toNat En.ab).State==6))
def cS(p:bu):Bool:=if p.State=6 then decide ((p.Mem.length:Int)=0∧p.bM≠0)&&p.cH.all (λx=>x== -1)else decide ((0:Int)<p.Mem.length∧p.Code=0)
def cE(u:aX)(p:bu):Bool:=decide (1≤p.State∧p.State≤6)&&decide (0≤p.dX∧p.dX<u.aP.length)&&cQ p.dh&&ek p.Code&&bn u p&&decide ((p.Mem.length:Int)≤12∧((p.Mem.length%4:Nat):Int)=0)&&p.Mem.all ek&&decide ((p.cH.length:Int)=4)&&bQ u p&&p.cH.all (rN u)&&cS p
def cM(u:aX)(p:bu):Bool:=decide (1≤p.ey∧p.ey<u.Next)&&cE u p
/-- how many of a list's first ones are one number -/
def fY(id:Int)(l:List Int):Nat→Nat:=bD (λf:Int=>if f=id then 1 else 0) 0 l
def gL(u:aX)(id:Int):Nat→Nat:=bD (λp:bu=>fY id p.cH p.cH.length) En.ab u.ag
def ky(u:aX)(id:Int):Nat:=gL u id u.ag.length
def b6(u:aX)(o:az):Bool:=
 decide (0≤o.Id∧o.Id≤7)&&decide (ky u o.Id≠0∧o.fc=ky u o.Id)&&
 (if o.Kind=1 then decide (o.Target=0∧o.j3=0)
 else if o.Kind=2 then decide (0≤kx u o.Target)&&decide (0≤o.j3∧o.j3≤((u.ay.getD (kx u o.Target).toNat En.ab).Data.length:Int))
 else if o.Kind=3∨o.Kind=4 then decide (0≤ot u o.Target)&&decide (o.j3=0)
 else false)
def py(pipe:Int)(o:az):Bool:=(o.Kind==3 || o.Kind==4)&&o.Target==pipe
def om(l:List bu):Nat→Nat:=bD (λp:bu=>p.Mem.length) En.ab l
def ir(l:List bu):Nat→Nat:=bD (λp:bu=>p.Mem.length / 4) En.ab l
def aI(key:Nat→Int)(i:Nat):Bool:=decide (i=0∨key (i-1)<key i)
def eE(u:aX)(i:Nat):Int:=(u.ag.getD i En.ab).ey
def kG(u:aX):Bool:=fw (λi=>aI (eE u) i&&cM u (u.ag.getD i En.ab)) u.ag.length
def oc(u:aX):Bool:=fw (λi=>aI (λi=>(u.ao.getD i En.ab).Id) i&&b6 u (u.ao.getD i En.ab)) u.ao.length
def aY(u:aX)(p:cK):Bool:=decide (0≤p.Id∧p.Id≤2)&&decide ((p.Data.length:Int)≤4)&&p.Data.all ek&&u.ao.any (py p.Id)
def mg(u:aX):Bool:=fw (λi=>aI (λi=>(u.ak.getD i En.ab).Id) i&&aY u (u.ak.getD i En.ab)) u.ak.length&&decide ((u.ak.length:Int)≤3)
def bE(f:ca):Bool:=decide (0≤f.Name∧f.Name≤5)&&decide ((f.Data.length:Int)≤8)&&f.Data.all ek
def mD(l:List ca):Bool:=fw (λi=>aI (λi=>(l.getD i En.ab).Name) i&&bE (l.getD i En.ab)) l.length&&decide ((l.length:Int)≤6)
def cL:List bu→List Int
 | []=>[]
 | p :: l=>if p.State=1 then p.ey :: cL l else cL l
def jK(u:aX):Bool:=decide (((cL u.ag).length:Int)=u.aN.length)&&(cL u.ag).all λx=>ll u.aN x
def df(l:List (List cU)):Bool:=(decide ((1:Int)≤l.length)&&decide ((l.length:Int)≤4))&&l.all et
def dR(u:aX):Bool:=decide (1≤u.Next∧u.Next≤100000)&&decide (0≤u.bp∧u.bp≤1000000)&&df u.aP&&decide ((u.Out.length:Int)≤60)&&u.Out.all ek&&decide ((u.ag.length:Int)≤6)
def bg(u:aX):Bool:=decide ((u.ao.length:Int)≤8)&&oc u&&mg u&&mD u.ay
def dv(u:aX)(i:Nat):Bool:=aI (λi=>(u.ao.getD i En.ab).Id) i&&b6 u (u.ao.getD i En.ab)
def aM(u:aX)(i:Nat):Bool:=aI (λi=>(u.ak.getD i En.ab).Id) i&&aY u (u.ak.getD i En.ab)
def bh(l:List ca)(i:Nat):Bool:=aI (λi=>(l.getD i En.ab).Name) i&&bE (l.getD i En.ab)
def cF(u:aX)(i:Nat):Bool:=aI (eE u) i&&cM u (u.ag.getD i En.ab)
def jk(u:aX)(i:Nat):Bool:= !((u.ag.getD i En.ab).State==1) || ll u.aN (u.ag.getD i En.ab).ey
theorem aS(u:aX):oc u=fw (dv u) u.ao.length:=rfl
theorem aH(u:aX):mg u=(fw (aM u) u.ak.length&&decide ((u.ak.length:Int)≤3)):=rfl
theorem aR(l:List ca):mD l=(fw (bh l) l.length&&decide ((l.length:Int)≤6)):=rfl
theorem b8(u:aX):kG u=fw (cF u) u.ag.length:=rfl
def wR(u:aX)(p:bu)(f:Int):Bool:=f== -1 || (decide (0≤kr u f)&& !(p.State==6))
theorem AM(u:aX)(p:bu):p.cH.all (wR u p)=(p.cH.all (rN u)&&(!(p.State==6) || p.cH.all (λx=>x== -1))):=by
 by_cases h:p.State=6
 ·rw[Bool.eq_iff_iff];simp only[wR,rN,h,beq_self_eq_true,Bool.not_true,Bool.and_false,Bool.or_false,Bool.false_or,all_eq_true,Bool.and_eq_true,Bool.or_eq_true];exact⟨λhh=>⟨λx hx=> .inl (hh x hx),hh⟩,λhh=>hh.2⟩
 ·have h':(p.State==6)=false:=by simpa using h
  have e:wR u p=rN u:=funext λf=>by simp only[wR,rN,h',Bool.not_false,Bool.and_true]
  rw[e,h'];simp
def cy(u:aX):Bool:=dR u&&decide ((u.ao.length:Int)≤8)&&decide ((ir u.ag u.ag.length:Int)≤16)&&kG u&&oc u&&mg u&&mD u.ay&&jK u

def BG(u:aX):Nat→Nat:=bD (λp:bu=>p.cH.length) En.ab u.ag
/-- sizes that a count cannot pass -/
structure il(u:aX):Prop where
 mem:om u.ag u.ag.length≤4194304
 fds:BG u u.ag.length≤4194304
 procs:u.ag.length≤1048576
 opens:u.ao.length≤1048576
 ready:u.aN.length≤1048576
theorem rm{α:Type}{c c':α→Nat}{d:α}{l:List α}(h:∀x,c x≤c' x):∀k,bD c d l k≤bD c' d l k
 | 0=>Nat.le_refl _
 | k+1=>by simp only[bD];have:=rm (d:=d) (l:=l) h k;have:=h (l.getD k d);omega
theorem xI(l:List bu)(k:Nat):ir l k≤om l k:=rm (c:=λp:bu=>p.Mem.length / 4) (c':=λp:bu=>p.Mem.length) (λp=>by omega) k
theorem qP{u:aX}(hb:il u):ir u.ag u.ag.length≤4194304:=Nat.le_trans (xI _ _) hb.mem
def jv(u:aX)(pipe kind:Int):Nat→Nat:=bD (λo:az=>if o.Kind=kind∧o.Target=pipe then 1 else 0) En.ab u.ao
theorem pC(u:aX)(pipe kind:Int)(k:Nat):jv u pipe kind (k+1)=jv u pipe kind k+(if(u.ao.getD k En.ab).Kind=kind∧(u.ao.getD k En.ab).Target=pipe then 1 else 0):=rfl
theorem mC(u:aX)(pipe kind:Int):∀k,jv u pipe kind k≤k
 | 0=>Nat.le_refl _
 | k+1=>by have:=mC u pipe kind k;rw[pC];split<;>omega
theorem vC(id:Int)(l:List Int)(k:Nat):fY id l (k+1)=fY id l k+(if l.getD k 0=id then 1 else 0):=rfl
theorem ov{α:Type}{c:α→Nat}{d:α}{l:List α}:∀k,k≤l.length→(0<bD c d l k↔∃i,i<k∧0<c (l.getD i d))
 | 0,_=>by simp[bD]
 | k+1,hk=>by
  rw[bD];have ih:=ov (c:=c) (d:=d) (l:=l) k (by omega);constructor
  ·intro h;rcases eq_zero_or_pos (bD c d l k)with h0|h0
   ·exact⟨k,by omega,by omega⟩
   ·obtain⟨i,h1,h2⟩:=ih.1 h0;exact⟨i,by omega,h2⟩
  ·rintro ⟨i,h1,h2⟩
   rcases Nat.lt_or_ge i k with h|h
   ·have:=ih.2 ⟨i,h,h2⟩;omega
   ·rw[show i=k by omega]at h2;omega
theorem yH(u:aX)(pipe:Int):decide (jv u pipe 3 u.ao.length+jv u pipe 4 u.ao.length=0)= !(u.ao.any (py pipe)):=by
 rw[Bool.eq_iff_iff];have h3:=ov (c:=λo:az=>if o.Kind=3∧o.Target=pipe then 1 else 0) (d:=En.ab) (l:=u.ao) _ (Nat.le_refl _);have h4:=ov (c:=λo:az=>if o.Kind=4∧o.Target=pipe then 1 else 0) (d:=En.ab) (l:=u.ao) _ (Nat.le_refl _);simp only[decide_eq_true_eq,Bool.not_eq_true',any_eq_false];constructor
 ·intro h x hx hE;obtain⟨i,hi,rfl⟩:=List.mem_iff_getElem.1 hx;have hg:u.ao.getD i En.ab=u.ao[i]:=by simp[hi]
  simp only[py,Bool.and_eq_true,Bool.or_eq_true,beq_iff_eq]at hE;rcases hE with⟨hk|hk,ht⟩
  ·have:0<jv u pipe 3 u.ao.length:=h3.2 ⟨i,hi,by rw[hg];simp[hk,ht]⟩;omega
  ·have:0<jv u pipe 4 u.ao.length:=h4.2 ⟨i,hi,by rw[hg];simp[hk,ht]⟩;omega
 ·intro h;have g:∀kd:Int,(kd=3∨kd=4)→¬ ∃i,i<u.ao.length∧0<(λo:az=>if o.Kind=kd∧o.Target=pipe then 1 else 0) (u.ao.getD i En.ab):=λkd hkd ⟨i,hi,hp⟩=>by
   have hg:u.ao.getD i En.ab=u.ao[i]:=by simp[hi]
   rw[hg]at hp;refine h _ (getElem_mem hi) ?_;simp only at hp;split at hp
   ·rename_i hh;rcases hkd with rfl|rfl<;>simp[py,hh.1,hh.2]
   ·omega
  have e3:¬0<jv u pipe 3 u.ao.length:=λhh=>g 3 (.inl rfl) (h3.1 hh);have e4:¬0<jv u pipe 4 u.ao.length:=λhh=>g 4 (.inr rfl) (h4.1 hh);omega
theorem sW(id:Int)(l:List Int):∀k,fY id l k≤k
 | 0=>Nat.le_refl _
 | k+1=>by have:=sW id l k;simp only[fY,bD]at this ⊢;split<;>omega
theorem zy(u:aX)(id:Int)(k:Nat):gL u id k≤BG u k:=
 rm (c:=λp:bu=>fY id p.cH p.cH.length) (c':=λp:bu=>p.cH.length) (λp=>sW id p.cH p.cH.length) k
theorem qE{u:aX}(hb:il u)(id:Int):ky u id≤4194304:=Nat.le_trans (zy u id _) hb.fds
theorem qM{l:List bu}(h:∀i,i<l.length→(l.getD i En.ab).Mem.length%4=0):∀k,k≤l.length→om l k=4*ir l k
 | 0,_=>rfl
 | k+1,hk=>by
  have ih:=qM h k (by omega);have:=h k (by omega);simp only[om,ir,bD]at ih ⊢;omega
theorem jO{u:aX}(h:kG u=true){i:Nat}(hi:i<u.ag.length):aI (eE u) i=true∧cM u (u.ag.getD i En.ab)=true:=by
 have:=fF.1 h i hi;simpa only[Bool.and_eq_true]using this
theorem rL{u:aX}{p:bu}(h:cM u p=true):p.Mem.length≤12∧p.Mem.length%4=0∧p.cH.length=4:=by
 simp only[cM,cE,Bool.and_eq_true,decide_eq_true_eq]at h;omega
theorem oz{key:Nat→Int}{n:Nat}(h:∀i,i<n→aI key i=true):∀j,j<n→∀i,i<j→key i<key j
 | 0,_,i,hi=>by omega
 | j+1,hj,i,hi=>by
  have h1:=h (j+1) hj;simp only[aI,decide_eq_true_eq,add_one_ne_zero,false_or,Nat.add_sub_cancel]at h1;rcases Nat.lt_or_ge i j with hlt|hge
  ·exact Int.lt_trans (oz h j (by omega) i hlt) h1
  ·rw[show i=j by omega];exact h1
theorem xG{u:aX}(h:kG u=true):(u.ag.map (·.ey)).Pairwise (· < ·):=by
 rw[pairwise_iff_getElem];intro i j hi hj hij;have:=oz (key:=eE u) (n:=u.ag.length) (λi hi=>(jO h hi).1) j (by simpa using hj) i hij;simp only[length_map]at hi hj;simp only[eE,getD_eq_getElem?_getD,getElem?_eq_getElem hi,getElem?_eq_getElem hj,Option.getD_some]at this;simpa using this
theorem mz:∀l:List bu,(cL l).Sublist (l.map (·.ey))
 | []=>List.Sublist.refl _
 | p :: l=>by
  rw[cL,map_cons];split
  ·exact(mz l).cons_cons _
  ·exact(mz l).cons _
theorem wU:∀{a b:List Int},a.Nodup→a.length=b.length→(∀x∈a,x∈b)→a.Perm b
 | [],b,_,hl,_=>by
  have:b=[]:=eq_nil_of_length_eq_zero hl.symm;rw[this]
 | x :: a,b,hn,hl,hs=>by
  have hx:x∈b:=hs x (mem_cons_self ..);have hp:=perm_cons_erase hx;refine(List.Perm.cons x (wU (List.nodup_cons.1 hn).2 ?_ λy hy=>?_)).trans hp.symm
  ·have:=hp.length_eq;simp only[length_cons]at this hl;omega
  ·have hne:y≠x:=λe=>(List.nodup_cons.1 hn).1 (e ▸ hy);exact(mem_erase_of_ne hne).2 (hs y (mem_cons_of_mem _ hy))
theorem qD:∀{a b:List Int},a.Perm b→a.Pairwise (· ≤ ·)→b.Pairwise (· ≤ ·)→a=b
 | [],b,h,_,_=>h.nil_eq
 | x :: a,[],h,_,_=>by have:=h.length_eq;simp at this
 | x :: a,y :: b,h,h1,h2=>by
  obtain⟨g1,g2⟩:=List.pairwise_cons.1 h1;obtain⟨k1,k2⟩:=List.pairwise_cons.1 h2;have hxy:x=y:=by
   have e1:x∈y :: b:=h.subset (mem_cons_self ..);have e2:y∈x :: a:=h.symm.subset (mem_cons_self ..);rcases List.mem_cons.1 e1 with e|e
   ·exact e
   ·rcases List.mem_cons.1 e2 with e'|e'
    ·exact e'.symm
    ·exact Int.le_antisymm (g1 y e') (k1 x e)
  subst hxy;rw[qD ((perm_cons _).1 h) g2 k2]
def AK(l:List Int):List Int:=l.mergeSort λx y=>decide (x≤y)
theorem xl(l:List Int):(AK l).length=l.length:=length_mergeSort _
theorem zY(l:List Int):(AK l).Pairwise (· ≤ ·):=by
 have:=pairwise_mergeSort (le:=λx y:Int=>decide (x≤y)) (λa b c h1 h2=>by simp at *; omega) (λa b=>by simp;omega) l;exact this.imp λh=>by simpa using h
theorem tN{u:aX}(h:kG u=true):(AK u.aN==cL u.ag)=jK u:=by
 have hw:(cL u.ag).Pairwise (· < ·):=(xG h).sublist (mz _);have hp:(AK u.aN).Perm u.aN:=mergeSort_perm _ _;rw[Bool.eq_iff_iff,beq_iff_eq];simp only[jK,Bool.and_eq_true,decide_eq_true_eq,all_eq_true,tl];constructor
 ·intro e;rw[←e];exact⟨by rw[xl],λx hx=>hp.subset hx⟩
 ·rintro ⟨h1,h2⟩
  have hn:(cL u.ag).Nodup:=hw.imp λh=>Int.ne_of_lt h;have:=wU hn (by omega) h2;exact qD (hp.trans this.symm) (zY _) (hw.imp λh=>Int.le_of_lt h)
theorem mF{l:List bu}:∀{k:Nat},k<l.length→cL (l.take (k+1))=if(l.getD k En.ab).State=1 then cL (l.take k)++[(l.getD k En.ab).ey]else cL (l.take k):=by
 induction l with
 | nil=>intro k hk;simp at hk
 | cons p l ih=>
  intro k hk;cases k with
  | zero=>simp only[take_succ_cons,take_zero,cL,getD_cons_zero];split<;>rfl
  | succ k=>
   have:=ih (k:=k) (by simpa using hk);simp only[take_succ_cons,getD_cons_succ,cL]at this ⊢;rw[this];split<;>split<;>rfl
def gD(l:List bu):Nat→Nat:=bD (λp:bu=>if p.State=1 then 1 else 0) En.ab l
theorem o6{l:List bu}:∀{k:Nat},k≤l.length→(cL (l.take k)).length=gD l k
 | 0,_=>by simp[cL,gD,bD]
 | k+1,hk=>by
  have ih:=o6 (l:=l) (k:=k) (by omega);rw[mF (by omega)];simp only[gD,bD]at ih ⊢;split<;>simp[ih]
theorem oE{l:List bu}{x:Int}:x∈cL l↔∃i,i<l.length∧(l.getD i En.ab).State=1∧(l.getD i En.ab).ey=x:=by
 induction l with
 | nil=>simp[cL]
 | cons p l ih=>
  have hex:(∃i,i<(p :: l).length∧((p :: l).getD i En.ab).State=1∧((p :: l).getD i En.ab).ey=x)↔(p.State=1∧p.ey=x)∨∃i,i<l.length∧(l.getD i En.ab).State=1∧(l.getD i En.ab).ey=x:=by
   constructor
   ·rintro ⟨i,h1,h2⟩
    cases i with
    | zero=>exact .inl h2
    | succ i=>exact .inr ⟨i,by simpa using h1,h2⟩
   ·rintro (h|⟨i,h1,h2⟩)
    ·exact⟨0,by simp,h⟩
    ·exact⟨i+1,by simpa using h1,h2⟩
  rw[hex,←ih,cL];split
  ·rename_i h;simp[h,eq_comm]
  ·rename_i h;simp[h]
theorem xD(u:aX):((cL u.ag).all λx=>ll u.aN x)=fw (jk u) u.ag.length:=by
 rw[Bool.eq_iff_iff,fF];simp only[all_eq_true,jk,Bool.or_eq_true,Bool.not_eq_true',beq_eq_false_iff_ne];constructor
 ·intro h i hi
  by_cases hs:(u.ag.getD i En.ab).State=1
  ·exact .inr (h _ (oE.2 ⟨i,hi,hs,rfl⟩))
  ·exact .inl hs
 ·intro h x hx;obtain⟨i,hi,hs,rfl⟩:=oE.1 hx;rcases h i hi with h'|h'
  ·exact absurd hs h'
  ·exact h'
theorem vQ(u:aX):jK u=(decide ((gD u.ag u.ag.length:Int)=u.aN.length)&&fw (jk u) u.ag.length):=by
 have:=o6 (l:=u.ag) (k:=u.ag.length) (Nat.le_refl _);rw[take_length]at this;rw[jK,xD,this]
theorem mQ(l:List bu):∀k,gD l k≤k
 | 0=>Nat.le_refl _
 | k+1=>by have:=mQ l k;simp only[gD,bD]at this ⊢;split<;>omega
theorem sT(l:List bu)(k:Nat):gD l (k+1)=gD l k+(if(l.getD k En.ab).State=1 then 1 else 0):=rfl
theorem yh(u:aX)(pipe:Int):(((jv u pipe 3 u.ao.length:Nat):Int)+((jv u pipe 4 u.ao.length:Nat):Int)==0)= !(u.ao.any (py pipe)):=by
 rw[←yH,Bool.eq_iff_iff];simp;omega
/-! what Sound, Stuck and Held say, as plain functions -/
theorem yM{α:Type}{p:α→Bool}{l:List α}(d:α)(h:0≤fq p l):p (l.getD (fq p l).toNat d)=true:=by
 unfold fq at h ⊢;cases hf:l.findIdx? p with
 | none=>rw[hf]at h;simp at h
 | some i=>
  rw[hf]at h;obtain⟨h1,h2,_⟩:=List.findIdx?_eq_some_iff_getElem.1 hf;simp only[Int.toNat_natCast,getD_eq_getElem?_getD,getElem?_eq_getElem h1,Option.getD_some];exact h2
theorem Bk{α:Type}{p:α→Bool}{l:List α}(h:0≤fq p l):(fq p l).toNat<l.length:=by
 have:=(l8 p l).2;omega
end Go.Proofs.YtekcnnngjoonbaaGreat.VM
