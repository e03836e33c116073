/- Rules to walk by. No conditions. -/
import Derived.Deep.Slices
import Derived.Laws.MakeOwn
import Derived.OpenShut
import Derived.ProofKit
import Derived.ShutString
import Derived.Test.YtekcnnngjoonbaaGreatWa
set_option linter.all false
namespace Go.Proofs.YtekcnnngjoonbaaGreat.VM
open List Nat
open Go Go.RowKit

def p0:bF→bF→Bool
  | [],_=>true
  | (_,_,c) :: q,p=>match p with
    | []=>false
    | (_,_,c') :: p=>beq c c'&&p0 q p
theorem oi:∀{q r:bF} {n k c:Nat},vx q k c r→p0 (q++[(n,k,c)]) r=true
  | [],r,n,k,c,⟨n',s,h⟩=>by
    subst h;simp[p0]
  | (n0,k0,c0) :: q,r,n,k,c,⟨n',s,h⟩=>by
    subst h;simp only[cons_append,p0,beq_refl,Bool.true_and];exact oi ⟨n',s,rfl⟩
mutual
def X.rX(id:Nat)(q:bF):X→Bool
 | .p id' q' .. =>beq id' id&&p0 q q'
 | .h id' q'=>beq id' id&&p0 q q'
 | .a id' q' .. =>beq id' id&&p0 q q'
 | .g xs=>X.vv id q xs
 | .t xs=>X.vv id q xs
 | .f _ xs=>X.vv id q xs
 | _=>false
def X.vv(id:Nat)(q:bF):List X→Bool
 | []=>false
 | x :: xs=>X.rX id q x || X.vv id q xs
end
mutual
theorem X.wM{id:Nat}{q:bF}:∀{x:X},X.rX id q x=false→X.all (λx=>X.rX id q x=false) x
 | .g _,e=>X.lU e
 | .t _,e=>X.lU e
 | .f _ _,e=>X.lU e
 | .v _,e=>e
 | .j,e=>e
 | .c,e=>e
 | .p .., e=>e
 | .h .., e=>e
 | .a .., e=>e
theorem X.lU{id:Nat}{q:bF}:∀{xs:List X},X.vv id q xs=false→X.pO (λx=>X.rX id q x=false) xs
 | [],_=>trivial
 | x :: xs,e=>by
  simp only[X.vv,Bool.or_eq_false_iff]at e;exact⟨X.wM e.1,X.lU e.2⟩
end

theorem vL:∀{q:bF} {t:T} {k c:Nat} {y:T} {r:bF},bT t q→¬vx q k c r→bT t r→bT (t.put q k c y) r∧∀{n len:Nat} {f:Nat→Nat→T},t.at r= .s n len f→∃f',(t.put q k c y).at r= .s n len f'
  | q,t,k,c,y,[],_,_,_=>by
    refine⟨by simp[bT],λ{n len f} h=>?_⟩;simp only[T.at]at h ⊢;subst h;cases q with
    | nil=>exact⟨_,by simp only[T.put];rfl⟩
    | cons a q=>exact⟨_,by simp only[T.put];rfl⟩
  | [],.s n1 l1 f1,k,c,y,(n',k',c') :: r,_,h,hq=>by
    obtain⟨h1,h2,h3,h4⟩:=hq;have hne:¬(k'=k∧c'=c):=by rintro ⟨rfl,rfl⟩;exact h ⟨n',r,rfl⟩
    simp only[T.put,bT,T.at,VM.m6,hne,if_false];exact⟨⟨h1,h2,h3,h4⟩,λh=>⟨_,h⟩⟩
  | (n0,k0,c0) :: q,.s n1 l1 f1,k,c,y,(n',k',c') :: r,hq0,h,hq=>by
    obtain⟨h1,h2,h3,h4⟩:=hq;obtain⟨e1,_,_,e4⟩:=hq0;simp only[T.put,bT,T.at]
    by_cases e:k'=k0∧c'=c0
    · obtain⟨rfl,rfl⟩:=e;simp only[VM.m6,and_self,if_true];have hr:¬vx q k c r:=λ⟨n2,s,hs⟩=>h ⟨n2,s,by rw[hs,h1,e1];rfl⟩;obtain⟨g1,g2⟩:=vL (y:=y) e4 hr h4;exact⟨⟨h1,h2,h3,g1⟩,g2⟩
    · simp only[VM.m6,e,if_false];exact⟨⟨h1,h2,h3,h4⟩,λh=>⟨_,h⟩⟩
  | [],.v _,_,_,_,_ :: _,_,_,hq=>hq.elim
  | [],.j,_,_,_,_ :: _,_,_,hq=>hq.elim
  | _ :: _,.v _,_,_,_,_ :: _,_,_,hq=>hq.elim
  | _ :: _,.j,_,_,_,_ :: _,_,_,hq=>hq.elim

def fU:List E→Nat→bF→T→List E
 | [],_,_,_=>[]
 | .sl s x :: L,id,r,t=>if X.rX id r x then fU L id r t else .sl s x :: fU L id r t
 | .rt i m t' :: L,id,r,t=>if i=id then .rt i m t :: fU L id r t else .rt i m t' :: fU L id r t
 | .al i c x :: L,id,r,t=>if(beq i id&&p0 r [(0,0,c)]) || X.rX id r x then fU L id r t else .al i c x :: fU L id r t
theorem kK:∀{L:List E} {id:Nat} {r:bF} {t:T} {s:Nat} {x:X},E.sl s x∈fU L id r t→E.sl s x∈L∧X.rX id r x=false
 | .sl s' x' :: L,id,r,t,s,x,h=>by
  simp only[fU]at h;split at h
  ·obtain⟨h1,h2⟩:=kK h;exact⟨mem_cons_of_mem _ h1,h2⟩
  ·rename_i hx;rcases List.mem_cons.1 h with h|h
   ·cases h;exact⟨mem_cons_self .., by simpa using hx⟩
   ·obtain⟨h1,h2⟩:=kK h;exact⟨mem_cons_of_mem _ h1,h2⟩
 | .rt i m t' :: L,id,r,t,s,x,h=>by
  simp only[fU]at h;split at h<;>
  ·rcases List.mem_cons.1 h with h|h
   ·cases h
   ·obtain⟨h1,h2⟩:=kK h;exact⟨mem_cons_of_mem _ h1,h2⟩
 | .al i c x' :: L,id,r,t,s,x,h=>by
  simp only[fU]at h;split at h
  ·obtain⟨h1,h2⟩:=kK h;exact⟨mem_cons_of_mem _ h1,h2⟩
  ·rcases List.mem_cons.1 h with h|h
   ·cases h
   ·obtain⟨h1,h2⟩:=kK h;exact⟨mem_cons_of_mem _ h1,h2⟩
theorem kH:∀{L:List E} {id:Nat} {r:bF} {t:T} {s c:Nat} {x:X},E.al s c x∈fU L id r t→E.al s c x∈L∧X.rX id r x=false∧(s=id→p0 r [(0,0,c)]=false)
 | .sl s' x' :: L,id,r,t,s,c,x,h=>by
  simp only[fU]at h;split at h
  ·obtain⟨h1,h2⟩:=kH h;exact⟨mem_cons_of_mem _ h1,h2⟩
  ·rcases List.mem_cons.1 h with h|h
   ·cases h
   ·obtain⟨h1,h2⟩:=kH h;exact⟨mem_cons_of_mem _ h1,h2⟩
 | .rt i m t' :: L,id,r,t,s,c,x,h=>by
  simp only[fU]at h;split at h<;>
  ·rcases List.mem_cons.1 h with h|h
   ·cases h
   ·obtain⟨h1,h2⟩:=kH h;exact⟨mem_cons_of_mem _ h1,h2⟩
 | .al i c' x' :: L,id,r,t,s,c,x,h=>by
  simp only[fU]at h;split at h
  ·obtain⟨h1,h2⟩:=kH h;exact⟨mem_cons_of_mem _ h1,h2⟩
  ·rename_i hx;rcases List.mem_cons.1 h with h|h
   ·cases h;simp only[Bool.or_eq_true,not_or,Bool.not_eq_true,Bool.and_eq_false_iff]at hx;refine⟨mem_cons_self .., hx.2,λe=>?_⟩;subst e;rcases hx.1 with h|h
    ·simp at h
    ·exact h
   ·obtain⟨h1,h2⟩:=kH h;exact⟨mem_cons_of_mem _ h1,h2⟩
theorem dN:∀{L:List E} {id:Nat} {r:bF} {t:T} {i:Nat} {m:M} {t':T},aW (fU L id r t) i m t'↔(i=id∧t'=t∧∃t0,aW L id m t0)∨(i≠id∧aW L i m t')
 | [],_,_,_,_,_,_=>by simp[aW,fU]
 | .sl s x :: L,id,r,t,i,m,t'=>by
  have:=dN (L:=L) (id:=id) (r:=r) (t:=t) (i:=i) (m:=m) (t':=t');simp only[aW,fU]at this ⊢;split<;>simp[this]
 | .al s c x :: L,id,r,t,i,m,t'=>by
  have:=dN (L:=L) (id:=id) (r:=r) (t:=t) (i:=i) (m:=m) (t':=t');simp only[aW,fU]at this ⊢;split<;>simp[this]
 | .rt j m1 t1 :: L,id,r,t,i,m,t'=>by
  have:=dN (L:=L) (id:=id) (r:=r) (t:=t) (i:=i) (m:=m) (t':=t');simp only[aW,fU]at this ⊢;split
  ·rename_i hj;subst hj;simp only[mem_cons,this,E.rt.injEq];constructor
   ·rintro (⟨rfl,rfl,rfl⟩|⟨rfl,rfl,t0,h⟩|⟨h1,h2⟩)
    ·exact .inl ⟨rfl,rfl,t1,.inl (by simp)⟩
    ·exact .inl ⟨rfl,rfl,t0,.inr h⟩
    ·exact .inr ⟨h1,.inr h2⟩
   ·rintro (⟨rfl,rfl,t0,⟨_,rfl,rfl⟩|h⟩|⟨h1,⟨rfl,_⟩|h2⟩)
    ·exact .inl ⟨rfl,rfl,rfl⟩
    ·exact .inr (.inl ⟨rfl,rfl,t0,h⟩)
    ·exact absurd rfl h1
    ·exact .inr (.inr ⟨h1,h2⟩)
  ·rename_i hj;simp only[mem_cons,this,E.rt.injEq];constructor
   ·rintro (⟨rfl,rfl,rfl⟩|⟨rfl,rfl,t0,h⟩|⟨h1,h2⟩)
    ·exact .inr ⟨hj,.inl ⟨rfl,rfl,rfl⟩⟩
    ·exact .inl ⟨rfl,rfl,t0,.inr h⟩
    ·exact .inr ⟨h1,.inr h2⟩
   ·rintro (⟨rfl,rfl,t0,⟨rfl,_⟩|h⟩|⟨h1,⟨rfl,rfl,rfl⟩|h2⟩)
    ·exact absurd rfl hj
    ·exact .inr (.inl ⟨rfl,rfl,t0,h⟩)
    ·exact .inl ⟨rfl,rfl,rfl⟩
    ·exact .inr (.inr ⟨h1,h2⟩)
open Go Go.RowKit

section
variable{L:List E}{val:Nat→Value}{H:Nat→Value}{G:Nat→FP}{w w':World}
theorem Rp.rd(hr:Rp L val H G w){id:Nat}{m:M}{t:T}(h:aW L id m t):Rd w t (G id) (H id):=by
 cases m with
 | ro=>exact hr.ro id t h
 | box=>exact(hr.own id _ t h (by simp)).rd
 | row=>exact(hr.own id _ t h (by simp)).rd
theorem wH{n:Nat}{f:Nat→Nat→T}{q:bF}{k c:Nat}{y:T}:∃f',(T.s n 1 f).put q k c y= .s n 1 f':=by
 cases q with
 | nil=>exact⟨_,by simp only[T.put];rfl⟩
 | cons a q=>exact⟨_,by simp only[T.put];rfl⟩

theorem Rp.store(hr:Rp L val H G w){id:Nat}{m:M}{t:T}(hm:m≠ .ro)(hid:aW L id m t){q:bF}(hq:bT t q){n len:Nat}{f:Nat→Nat→T}(ht:t.at q= .s n len f){k c:Nat}(hk:k<len)(hc:c<n):
  ∃(h':Value) (b o:Nat) (x:Value) (Gx:FP),VM.hd w (H id) q=some h'∧gU h' n k c=some ⟨b,o,none⟩∧w.cell? ⟨b,o,none⟩=some x∧du w (f k c) Gx x∧(∃sz,Kd w b sz)∧G id b o∧(∀a p,Gx a p→G id a p)∧¬Gx b o∧
   ∀{L1:List E} {w':World} {S:FP} {y:T} {x':Value} {Gy:FP},Rp L1 val H G w→aW L1 id m t→(∀i m t,aW L1 i m t→aW L i m t)→dt S w w'→(∀a p,S a p→(a=b∧p=o)∨Gx a p)→w'.cell? ⟨b,o,none⟩=some x'→du w' y Gy x'→
    (∀a p,Gy a p→Gx a p∨∀i m t,aW L1 i m t→¬G i a p)→
    Rp (fU L1 id (q++[(n,k,c)]) (t.put q k c y)) val H (bm G id λa p=>(G id a p∧¬Gx a p)∨Gy a p) w'∧∀{x v},X.rX id (q++[(n,k,c)]) x=false→VR (aW L1) H w x v→VR (aW (fU L1 id (q++[(n,k,c)]) (t.put q k c y))) H w' x v:=by
 obtain⟨h',b,o,x,Gx,e1,e2,e3,e4,e5,e6,e7,e8,e9⟩:=(hr.own id m t hid hm).m6 hq ht hk hc;refine⟨h',b,o,x,Gx,e1,e2,e3,e4,e6,e5,e7,e8,?_⟩;intro L1 w' S y x' Gy hr1 hid1 hsub hC hS hx' hy hGy;obtain⟨k1,k2⟩:=e9 hC hS hx' hy λa p h=>(hGy a p h).imp_right λh=>h _ _ _ hid1;have hSG:∀a p,S a p→G id a p:=λa p h=>by
  rcases hS a p h with⟨rfl,rfl⟩|h
  ·exact e5
  ·exact e7 a p h
 have hoth:∀i m' t',i≠id→aW L1 i m' t'→∀a p,G i a p→¬S a p:=λi m' t' hne h a p hg hs=>hr1.jZ id m t i m' t' hid1 h (Ne.symm hne) hm a p (hSG a p hs) hg;have hrt:∀{i m' t'},aW (fU L1 id (q++[(n,k,c)]) (t.put q k c y)) i m' t'→(i=id∧m'=m∧t'=t.put q k c y)∨(i≠id∧aW L1 i m' t'):=λh=>by
  rcases dN.1 h with⟨rfl,rfl,t0,h⟩|h
  ·obtain⟨rfl,_⟩:=hr1.one _ _ _ _ _ h hid1;exact .inl ⟨rfl,rfl,rfl⟩
  ·exact .inr h
 have hnew:aW (fU L1 id (q++[(n,k,c)]) (t.put q k c y)) id m (t.put q k c y):=dN.2 (.inl ⟨rfl,rfl,t,hid1⟩);have hleaf:∀i q' m' t',aW L1 i m' t'→bT t' q'→(beq i id&&p0 (q++[(n,k,c)]) q')=false→
   ∃m2 t2,aW (fU L1 id (q++[(n,k,c)]) (t.put q k c y)) i m2 t2∧bT t2 q'∧(∀{n len:Nat} {f:Nat→Nat→T},t'.at q'= .s n len f→∃f',t2.at q'= .s n len f')∧VM.hd w' (H i) q'=VM.hd w (H i) q':=λi q' m' t' h hq' hthr=>by
  by_cases e:i=id
  ·subst e;obtain⟨rfl,rfl⟩:=hr1.one _ _ _ _ _ h hid1;have hn:¬vx q k c q':=λht=>by
    have:=oi (n:=n) ht;simp[this]at hthr
   obtain⟨g1,g2⟩:=vL (y:=y) hq hn hq';exact⟨_,_,hnew,g1,g2,k2 q' hn hq'⟩
  ·exact⟨m',t',dN.2 (.inr ⟨e,h⟩),hq',λh=>⟨_,h⟩,jy hC (hr1.rd h) hq' (hoth i m' t' e h)⟩
 have hvr:∀{x v},X.rX id (q++[(n,k,c)]) x=false→VR (aW L1) H w x v→VR (aW (fU L1 id (q++[(n,k,c)]) (t.put q k c y))) H w' x v:=λhx h=>
  VR.leaves (C:=λx=>X.rX id (q++[(n,k,c)]) x=false) (λx v hl hx h=>by
   cases x with
   | p i q' n' k' c'=>
    obtain⟨m',t',h1,h2,⟨l',f',h3,h4,h5⟩,h6⟩:=h;obtain⟨m2,t2,g1,g2,g3,g4⟩:=hleaf i q' m' t' h1 h2 hx;obtain⟨f2,g5⟩:=g3 h3;exact⟨m2,t2,g1,g2,⟨l',f2,g5,h4,h5⟩,by rw[g4];exact h6⟩
   | h i q'=>
    obtain⟨m',t',h1,h2,⟨n',l',f',h3⟩,h6⟩:=h;obtain⟨m2,t2,g1,g2,g3,g4⟩:=hleaf i q' m' t' h1 h2 hx;obtain⟨f2,g5⟩:=g3 h3;exact⟨m2,t2,g1,g2,⟨n',l',f2,g5⟩,by rw[g4];exact h6⟩
   | a i q' n' lo ln=>
    obtain⟨m',t',h1,h2,⟨l',f',h3,h4⟩,h6⟩:=h;obtain⟨m2,t2,g1,g2,g3,g4⟩:=hleaf i q' m' t' h1 h2 hx;obtain⟨f2,g5⟩:=g3 h3;exact⟨m2,t2,g1,g2,⟨l',f2,g5,h4⟩,by rw[g4];exact h6⟩
   | _=>exact hl.elim) (X.wM hx) h
 refine⟨⟨?_,?_,?_,?_,?_,?_,?_,?_⟩,hvr⟩
 ·intro i m1 t1 m2 t2 h1 h2;rcases hrt h1 with⟨rfl,rfl,rfl⟩|⟨a1,b1⟩<;>rcases hrt h2 with⟨e,rfl,rfl⟩|⟨a2,b2⟩
  ·exact⟨rfl,rfl⟩
  ·exact absurd rfl a2
  ·exact absurd e a1
  ·exact hr1.one _ _ _ _ _ b1 b2
 ·intro i m1 t1 h1 hm1;rcases hrt h1 with⟨rfl,rfl,rfl⟩|⟨a1,b1⟩
  ·simpa [bm]using k1
  ·simp only[bm,a1,if_false];exact(hr1.own i m1 t1 b1 hm1).frame hC (hoth i m1 t1 a1 b1)
 ·intro i t1 h1;rcases hrt h1 with⟨rfl,rfl,rfl⟩|⟨a1,b1⟩
  ·exact absurd rfl hm
  ·simp only[bm,a1,if_false];exact(hr1.ro i t1 b1).frame hC (hoth i _ t1 a1 b1)
 ·intro i t1 h1 x y hg;rcases hrt h1 with⟨rfl,rfl,rfl⟩|⟨a1,b1⟩
  ·exact absurd rfl hm
  ·simp only[bm,a1,if_false]at hg;exact Nat.lt_of_lt_of_le (hr1.fR i t1 b1 x y hg) hC.size
 ·intro i t1 h1;rcases hrt h1 with⟨rfl,rfl,rfl⟩|⟨a1,b1⟩
  ·obtain⟨n',f',rfl⟩:=hr1.box _ _ hid1;obtain⟨f2,h2⟩:=wH (n:=n') (f:=f') (q:=q) (k:=k) (c:=c) (y:=y);exact⟨n',f2,h2⟩
  ·exact hr1.box i t1 b1
 ·intro i m1 t1 i' m2 t2 h1 h2 hne hm1 a p g1 g2;rcases hrt h1 with⟨rfl,rfl,rfl⟩|⟨a1,b1⟩<;>rcases hrt h2 with⟨rfl,rfl,rfl⟩|⟨a2,b2⟩
  ·exact absurd rfl hne
  ·simp only[bm,if_true,a2,if_false]at g1 g2;rcases g1 with⟨g1,_⟩|g1
   ·exact hr1.jZ _ _ _ _ _ _ hid1 b2 hne hm1 a p g1 g2
   ·rcases hGy a p g1 with h|h
    ·exact hr1.jZ _ _ _ _ _ _ hid1 b2 hne hm1 a p (e7 a p h) g2
    ·exact h _ _ _ b2 g2
  ·simp only[bm,if_true,a1,if_false]at g1 g2;rcases g2 with⟨g2,_⟩|g2
   ·exact hr1.jZ _ _ _ _ _ _ hid1 b1 (Ne.symm hne) hm a p g2 g1
   ·rcases hGy a p g2 with h|h
    ·exact hr1.jZ _ _ _ _ _ _ hid1 b1 (Ne.symm hne) hm a p (e7 a p h) g1
    ·exact h _ _ _ b1 g1
  ·simp only[bm,a1,a2,if_false]at g1 g2;exact hr1.jZ _ _ _ _ _ _ b1 b2 hne hm1 a p g1 g2
 ·intro s x' h;obtain⟨g1,g2⟩:=kK h;exact hvr g2 (hr1.sl s x' g1)
 ·intro i c' x' h;obtain⟨g1,g2,g3⟩:=kH h;obtain⟨n',f',h1,h2,A,v,h3,h4,h5⟩:=hr1.al i c' x' g1;obtain⟨b',o',rfl,hG⟩:=oH hr1 h1 h2 h3
  by_cases e:i=id
  ·subst e;obtain⟨rfl,rfl⟩:=hr1.one _ _ _ _ _ h1 hid1;obtain⟨f2,hf2⟩:=wH (n:=n') (f:=f') (q:=q) (k:=k) (c:=c) (y:=y);refine⟨n',f2,by rw[←hf2];exact hnew,h2,_,v,h3,?_,hvr g2 h5⟩;have hn:¬vx q k c [(n',0,c')]:=λht=>by
    have h7:=oi (n:=n) ht;have h8:=g3 rfl;have:p0 (q++[(n,k,c)]) [(n',0,c')]=p0 (q++[(n,k,c)]) [(0,0,c')]:=by
     cases q with
     | nil=>simp[p0]
     | cons a q=>obtain⟨_,_,_⟩:=a;simp[p0]
    rw[this,h8]at h7;cases h7
   have hh:=k2 [(n',0,c')] hn ⟨rfl,by omega,h2,by simp[bT]⟩;have hH:∃hv,gU (H i) n' 0 c'=some ⟨b',o',none⟩∧hv=H i:=⟨_,by
    obtain⟨a0,l0,c0,e1,e2⟩:=ez h3;rw[e1];simp only[gU,Option.some.injEq];simp only[Nat.zero_mul,Nat.zero_add]at e2 ⊢;exact e2.symm,rfl⟩
   obtain⟨_,hA,_⟩:=hH;simp only[VM.hd,hA,h4]at hh;cases hw:w'.cell? ⟨b',o',none⟩with
   | none=>rw[hw]at hh;cases hh
   | some v'=>rw[hw]at hh;simp only[VM.hd,Option.some.injEq]at hh;rw[hh]
  ·exact⟨n',f',dN.2 (.inr ⟨e,h1⟩),h2,_,v,h3,hC.cell h4 (hoth i _ _ e h1 _ _ hG),hvr g2 h5⟩
end
open Go Go.RowKit

theorem dt.step{S S':FP}{a b c:World}(h:dt S a b)(k:dt S' b c)(hs:∀x y,x<a.heap.size→S' x y→S x y):dt S a c:=
 ⟨k.os.trans h.os,k.tape.trans h.tape,k.output.trans h.output,Nat.le_trans h.size k.size,λi cur e fr hi=>by
  have hlt:i<a.heap.size:=(Array.getElem?_eq_some_iff.1 hi).1;obtain⟨c1,h1,h2,h3⟩:=h.cells i cur e fr hi;obtain⟨c2,k1,k2,k3⟩:=k.cells i c1 e fr h1;exact⟨c2,k1,k2.trans h2,λo ho=>(k3 o λhS=>ho (hs i o hlt hS)).trans (h3 o ho)⟩,λi o hi ho=>k.other i o (h.other i o hi ho) ho⟩

def qy(L:List E):Option Nat→List E
 | some id=>cr L id
 | none=>L
def Ac:Option Nat→X→Bool
 | some id,x=>X.sn id x
 | none,_=>false
def Bn(L:List E)(id:Nat)(t:T)(q:bF)(n k c:Nat)(s:T×Option Nat):List E:=fU (qy L s.2) id (q++[(n,k,c)]) (t.put q k c s.1)

section
variable{L:List E}{val:Nat→Value}{H:Nat→Value}{G:Nat→FP}{w w':World}{cx:Cx}
theorem oI(hr:Rp L val H G w)(hG:Good cx L H G)(hch:dt cx.S0 cx.w0 w){id:Nat}{m:M}{t:T}(hm:m≠ .ro)(hid:aW L id m t){q:bF}(hq:bT t q){n len:Nat}{f:Nat→Nat→T}(ht:t.at q= .s n len f){k c:Nat}(hk:k<len)(hc:c<n)
  {z:T} {x:X} {v:Value} (hz:gQ [z]=true) (hv:VR (aW L) H w x v) (hx:x.one=true) (hne:(eF L z x).2≠some id):
  ∃(h':Value) (b o sz:Nat) (G':Nat→FP),VM.hd w (H id) q=some h'∧gU h' n k c=some ⟨b,o,none⟩∧Kd w b sz∧o<sz∧Rp (Bn L id t q n k c (eF L z x)) val H G' (w.setCell ⟨b,o,none⟩ v)∧Good cx (Bn L id t q n k c (eF L z x)) H G'∧dt cx.S0 cx.w0 (w.setCell ⟨b,o,none⟩ v)∧
   aW (Bn L id t q n k c (eF L z x)) id m (t.put q k c (eF L z x).1)∧
   ∀{y u},Ac (eF L z x).2 y=false→X.rX id (q++[(n,k,c)]) y=false→VR (aW L) H w y u→VR (aW (Bn L id t q n k c (eF L z x))) H (w.setCell ⟨b,o,none⟩ v) y u:=by
 obtain⟨h',b,o,xo,Gx,e1,e2,e3,e4,⟨sz,e5⟩,e6,e7,e8,e9⟩:=hr.store hm hid hq ht hk hc;obtain⟨s1,s2⟩:=xd hr hz hv hx
 generalize eF L z x=s at s1 s2 hne
 obtain⟨y,mv⟩:=s;simp only at s1 s2 hne;have hlt:o<sz:=by
  obtain⟨cur,e,k1,k2⟩:=e5;simp only[World.cell?,k1]at e3;rw[←k2];rcases Nat.lt_or_ge o cur.size with h|h
  ·exact h
  ·simp[h]at e3
 have hC:dt (λa p=>a=b∧p=o) w (w.setCell ⟨b,o,none⟩ v):=dt.setCell ⟨rfl,rfl⟩;have hcell:(w.setCell ⟨b,o,none⟩ v).cell? ⟨b,o,none⟩=some v:=World.cell?_setCell_same w _ v e3;have hr1:Rp (qy L mv) val H G w:=by
  cases mv with
  | none=>exact hr
  | some i=>exact hr.cr i
 have hsub:∀i m t,aW (qy L mv) i m t→aW L i m t:=λi m t h=>by
  cases mv with
  | none=>exact h
  | some i=>exact(bw.1 h).1
 have hid1:aW (qy L mv) id m t:=by
  cases mv with
  | none=>exact hid
  | some i=>exact bw.2 ⟨hid,λe=>hne (by rw[e])⟩
 have hGy:∀a p,xW G mv a p→Gx a p∨∀i m t,aW (qy L mv) i m t→¬G i a p:=λa p h=>by
  cases mv with
  | none=>exact h.elim
  | some i=>
   obtain⟨t',ht'⟩:=s2 i rfl;exact .inr λj m2 t2 hj hg=>hr.jZ i .row t' j m2 t2 ht' (bw.1 hj).1 (λe=>(bw.1 hj).2 e.symm) (by simp) a p h hg
 have hyw:du (w.setCell ⟨b,o,none⟩ v) y (xW G mv) v:=s1.frame hC λa p hf ⟨ha,hp⟩=>by
  subst ha hp;cases mv with
  | none=>exact hf.elim
  | some i=>
   obtain⟨t',ht'⟩:=s2 i rfl;exact hr.jZ i .row t' id m t ht' hid (λe=>hne (by rw[e])) (by simp) _ _ hf e6
 obtain⟨r1,r2⟩:=e9 hr1 hid1 hsub hC (λa p h=> .inl h) hcell hyw hGy;have hS0:cx.S0 b o∨cx.w0.heap.size≤b:=hG.1 id m t hid hm b o e6;refine⟨h',b,o,sz,_,e1,e2,e5,hlt,r1,⟨?_,?_⟩,hch.step hC λa p ha ⟨h1,h2⟩=>?_,dN.2 (.inl ⟨rfl,rfl,t,hid1⟩),λ{y' u} h1 h2 h3=>r2 h2 ?_⟩
 ·intro i m1 t1 h1 h2 a p h3;rcases dN.1 h1 with⟨rfl,rfl,t0,h4⟩|⟨h4,h5⟩
  ·simp only[bm,if_true]at h3;rcases h3 with⟨h3,_⟩|h3
   ·exact hG.1 _ _ _ hid hm a p h3
   ·cases mv with
    | none=>exact h3.elim
    | some j=>
     obtain⟨t',ht'⟩:=s2 j rfl;exact hG.1 j _ _ ht' (by simp) a p h3
  ·simp only[bm,h4,if_false]at h3;exact hG.1 i m1 t1 (hsub _ _ _ h5) h2 a p h3
 ·intro i m1 t1 h0 h1;rcases dN.1 h1 with⟨rfl,rfl,t0,h4⟩|⟨h4,h5⟩
  ·exact hG.2 _ _ _ h0 hid
  ·exact hG.2 i m1 t1 h0 (hsub _ _ _ h5)
 ·subst h1 h2;exact hS0.resolve_right (by omega)
 ·cases mv with
  | none=>exact h3
  | some i=>exact h3.drop (d:=i) (λj m2 t2 hj h=>⟨bw.2 ⟨h,hj⟩,rfl⟩) h1
end
open Go Go.RowKit

theorem pS{q:bF}{k c:Nat}:¬vx q k c q:=λ⟨n,s,h⟩=>by
 have:=congrArg length h;simp at this
theorem tm:∀{q:bF} {n k c:Nat},p0 (q++[(n,k,c)]) q=false
  | [],_,_,_=>rfl
  | (a,b,d) :: q,n,k,c=>by simp[p0,tm (q:=q)]
def Ep:Option Nat→Nat→Bool
 | some i,id=> !(beq i id)
 | none,_=>true
def DA(id:Nat)(q:bF)(n k c:Nat)(z:T)(x:X)(xs:List X)(s:T×Option Nat):Bool:=x.one&&Ep s.2 id&&gQ [z]&&xs.all (λy=> !Ac s.2 y&& !X.rX id (q++[(n,k,c)]) y)
def ja(id:Nat)(q:bF)(n k:Nat):Nat→List T→List X→List E→T→Option (List E)
 | c,z :: zs,x :: xs,L,t=>
  if DA id q n k c z x xs (eF L z x)=true then
   ja id q n k (c+1) zs xs (Bn L id t q n k c (eF L z x)) (t.put q k c (eF L z x).1)
  else none
 | _,[],[],L,_=>some L
 | _,_,_,_,_=>none

section
variable{L:List E}{val:Nat→Value}{H:Nat→Value}{G:Nat→FP}{w w':World}{cx:Cx}{P:Program}
theorem oN{b o sz:Nat}{v:Value}(hk:Kd w b sz)(ho:o<sz)(hv:v.oneCell'=true):(store ⟨b,o,none⟩ v).run P w= .ok () (w.setCell ⟨b,o,none⟩ v):=by
 rw[run_store P w _ v .plain hv];obtain⟨x,hx⟩:=Option.isSome_iff_exists.1 (hk.cell ho);simp[hx,hk.frozen o]
theorem kg{id:Nat}{m:M}(hm:m≠ .ro){q:bF}{n k len b o:Nat}(hkl:k<len):∀(zs:List T) (xs:List X) (vs:List Value) (c i:Nat) (L:List E) (t:T) (G:Nat→FP) (w:World) {L':List E},Rp L val H G w→Good cx L H G→dt cx.S0 cx.w0 w→aW L id m t→bT t q→(∃f,t.at q= .s n len f)→c+zs.length≤n→
  VR (aW L) H w (.p id q n k 0) (.pointer (some ⟨b,o,none⟩))→db (aW L) H w xs vs→ja id q n k c zs xs L t=some L'→i=c→
  ∃w' G',(storeCells ⟨b,o,none⟩ vs i).run P w= .ok () w'∧Rp L' val H G' w'∧Good cx L' H G'∧dt cx.S0 cx.w0 w'
 | [],[],[],c,i,L,t,G,w,L',hr,hG,hch,_,_,_,_,_,_,e,_=>by
  simp only[ja,Option.some.injEq]at e;subst e;exact⟨w,G,rfl,hr,hG,hch⟩
 | z :: zs,x :: xs,v :: vs,c,i,L,t,G,w,L',hr,hG,hch,hid,hq,⟨f,ht⟩,hc,hp,⟨hv,hvs⟩,e,hi=>by
  subst hi;rw[ja]at e;split at e
  ·rename_i hcond;simp only[DA,Bool.and_eq_true]at hcond;obtain⟨⟨⟨c1,c2⟩,c3⟩,c4⟩:=hcond;simp only[length_cons]at hc;have hne:(eF L z x).2≠some id:=by
    intro h;rw[h]at c2;simp[Ep,beq_refl]at c2
   obtain⟨h',b',o',sz,G',e1,e2,e3,e4,e5,e6,e7,e8,e9⟩:=oI hr hG hch hm hid hq ht hkl (by omega:i<n) c3 hv c1 hne;have hadr:b'=b∧o'=o+i:=by
    obtain⟨m1,t1,g1,g2,⟨l1,f1,g3,g4,g5⟩,hv',A,g6,g7,g8⟩:=hp;rw[e1]at g6;cases g6;obtain⟨a0,l0,c0,k1,k2⟩:=ez g7;cases g8;rw[k1]at e2;simp only[gU,Option.some.injEq,Addr.mk.injEq]at e2;simp only[Addr.mk.injEq]at k2;omega
   obtain⟨rfl,rfl⟩:=hadr;have hmen:Ac (eF L z x).2 (.p id q n k 0)=false:=by
    generalize (eF L z x).2=o at hne
    cases o with
    | none=>rfl
    | some j=>
     simp only[Ac,X.sn,beq_eq_false_iff_ne];exact λh=>hne (by rw[h])
   have hp':=e9 (y:= .p id q n k 0) hmen (by simp[X.rX,tm]) hp;have hvs':db (aW (Bn L id t q n k i (eF L z x))) H (w.setCell ⟨b',o+i,none⟩ v) xs vs:=by
    clear e
    induction xs generalizing vs with
    | nil=>cases vs with
     | nil=>trivial
     | cons _ _=>exact hvs.elim
    | cons y ys ih=>
     cases vs with
     | nil=>exact hvs.elim
     | cons u us=>
      simp only[all_cons,Bool.and_eq_true,Bool.not_eq_true']at c4;exact⟨e9 c4.1.1 c4.1.2 hvs.1,ih us hvs.2 c4.2⟩
   obtain⟨g1,g2⟩:=vL (y:=(eF L z x).1) (k:=k) (c:=i) hq pS hq;obtain⟨w',G2,r1,r2,r3,r4⟩:=kg hm hkl zs xs vs (i+1) (i+1) _ _ G' _ e5 e6 e7 e8 g1 (g2 ht) (by omega) hp' hvs' e rfl;refine⟨w',G2,?_,r2,r3,r4⟩;have hone:=hr.mZ x v hv c1;have hs:(store ((⟨b',o,none⟩:Addr).add i) v).run P w= .ok () (w.setCell ⟨b',o+i,none⟩ v):=by
    rw[Addr.add_lit];exact oN e3 e4 hone
   simp only[storeCells,Sem.run_bind,hs,Result.andThen];exact r1
  ·exact absurd e (by simp)
 | [],[],_ :: _,_,_,_,_,_,_,_,_,_,_,_,_,_,_,_,h,_,_=>h.elim
 | _,_ :: _,[],_,_,_,_,_,_,_,_,_,_,_,_,_,_,_,h,_,_=>h.elim
 | [],_ :: _,_,_,_,_,_,_,_,_,_,_,_,_,_,_,_,_,_,e,_=>by simp[ja]at e
 | _ :: _,[],_,_,_,_,_,_,_,_,_,_,_,_,_,_,_,_,_,e,_=>by simp[ja]at e
end

section
variable{P:Program}{N:Nat}{Q:Exit→List E→Prop}{L:List E}{ops:Array Oper}{rest:List Oper}{dst:Option Tmp}{ty:TypeId}{pos:String}{af:Array Edge}{g:Option (Nat×Bool)}{d:Nat}
theorem aE.store{t:TypeId}{x y:Operand}{zt:List T}[hTy:dQ P t zt]{id:Nat}{q:bF}{n k c len:Nat}{f:Nat→Nat→T}{m:M}{T0:T}{L':List E}(hx:cp L x= .p id q n k c)(hR:bZ L id=some (m,T0))(hm:m≠ .ro)(hT:T0.at q= .s n len f)
  (hf:(cp L y).flat=true) (hl:(cp L y).leaves.length=zt.length) (hc:c+zt.length≤n) (hst:ja id q n k c zt (cp L y).leaves L T0=some L'):aE P N ⟨none,.store t x y,ty,pos,af,g⟩ L L':=
 aE.D9 (λcx a w hs=>by
  obtain⟨H,G,hr,hG⟩:=hs.rp;have hv:=dw hr x;rw[hx]at hv;obtain⟨m',t',g1,g2,⟨l',f',g3,g4,g5⟩,hv',A,g6,g7,g8⟩:=hv;obtain⟨rfl,rfl⟩:=hr.one _ _ _ _ _ g1 (aq hR);rw[hT]at g3;cases g3;have hy:=(dw hr y).cells hr.mZ hf;have hyl:=hy.len;simp only[Array.length_toList]at hyl;obtain⟨a0,l0,c0,k1,k2⟩:=ez g7
  -- the row's first cell
  have hp:VR (aW L) H w (.p id q n k 0) (.pointer (some ⟨a0.block,a0.off+k*n,none⟩)):=
   ⟨m',t',g1,g2,⟨len,f,hT,g4,by omega⟩,hv',_,g6,by rw[k1];simp[gU],rfl⟩
  obtain⟨w',G',r1,r2,r3,r4⟩:=kg (P:=P) (b:=a0.block) (o:=a0.off+k*n) hm g4 zt _ _ c c L t' G w hr hG hs.fV g1 g2 ⟨f,hT⟩ hc hp hy hst rfl;refine⟨w',?_,⟨hs.kR,hs.lc,r4,H,G',r2,r3⟩⟩;have hsz:(a.eval y).cells.size=zt.length:=by omega
  have hA:∀(vs:List Value) (i:Nat) (w:World),(storeCells A vs i).run P w=(storeCells ⟨a0.block,a0.off+k*n,none⟩ vs (c+i)).run P w:=by
   intro vs
   induction vs with
   | nil=>intro i w;rfl
   | cons u us ih=>
    intro i w;have hadd:A.add i=(⟨a0.block,a0.off+k*n,none⟩:Addr).add (c+i):=by
     rw[k2,Addr.add_lit,Addr.add_lit];congr 1;omega
    simp only[storeCells,Sem.run_bind,hadd];congr 1;funext u w;rw[ih (i+1) w];congr 2
  have:=hA (a.eval y).cells.toList 0 w;rw[Nat.add_zero,r1]at this;simp[execOp,g8,Instr.storeAt,Instr.sureAddr,storeVar,hTy.size w,hsz,this])
end
open Go Go.RowKit

def jA:bF→Option (bF×(Nat×Nat×Nat))
 | []=>none
 | [a]=>some ([],a)
 | a :: q=>match jA q with
  | some (r,b)=>some (a :: r,b)
  | none=>none
theorem mu:∀{q r:bF} {b:Nat×Nat×Nat},jA q=some (r,b)→q=r++[b]
 | [a],r,b,h=>by simp only[jA,Option.some.injEq,Prod.mk.injEq]at h;obtain⟨rfl,rfl⟩:=h;rfl
 | a :: a' :: q,r,b,h=>by
  simp only[jA]at h;split at h
  ·rename_i r' b' hq;cases h;have:=mu hq;rw[this];rfl
  ·cases h
def m9(L:List E)(n:Nat):X→Option (List E×T)
 | .v y=>match y with
  | .slice none 0 0=>some (L,.s n 0 λ_ _=> .j)
  | _=>none
 | .h id q=>match bZ L id with
  | some (m,t)=>match q with
   | []=>match m with
    | .row=>some (cr L id,t)
    | _=>none
   | a :: q'=>match m with
    | .ro=>none
    | _=>match jA (a :: q')with
     | some (r,(_,k,c))=>some (fU L id (a :: q') (t.put r k c .j),t.at (a :: q'))
     | none=>none
  | none=>none
 | _=>none
def w4:X→X→Bool
 | .h id q,y=>match q with
  | []=>X.sn id y
  | q=>X.rX id q y
 | _,_=>false

section
variable{L:List E}{val:Nat→Value}{H:Nat→Value}{G:Nat→FP}{w w':World}{cx:Cx}{P:Program}{N:Nat}{a:Act}
theorem p_:∀{r:bF} {t:T} {n k c:Nat},bT t (r++[(n,k,c)])→bT t r∧∃len f,t.at r= .s n len f∧k<len∧c<n
  | [],.s n1 l1 f1,n,k,c,⟨h1,h2,h3,_⟩=>⟨by simp[bT],l1,f1,by simp only[T.at];rw[h1],h2,by rw[h1];exact h3⟩
  | (n0,k0,c0) :: r,.s n1 l1 f1,n,k,c,⟨h1,h2,h3,h4⟩=>by
    obtain⟨g1,l,f,g2,g3,g4⟩:=p_ h4;exact⟨⟨h1,h2,h3,g1⟩,l,f,by simpa only[T.at]using g2,g3,g4⟩
  | [],.v _,_,_,_,h=>h.elim
  | [],.j,_,_,_,h=>h.elim
  | _ :: _,.v _,_,_,_,h=>h.elim
  | _ :: _,.j,_,_,_,h=>h.elim

theorem rS(hr:Rp L val H G w)(hG:Good cx L H G){n:Nat}(hn:0<n){s:X}{v:Value}(hv:VR (aW L) H w s v){L1:List E}{t1:T}(h:m9 L n s=some (L1,t1)):
  ∃(G1:Nat→FP) (F:FP),Rp L1 val H G1 w∧Good cx L1 H G1∧du w t1 F v∧(∀i m t,aW L1 i m t→∀a o,G1 i a o→F a o→False)∧(∀a o,F a o→cx.S0 a o∨cx.w0.heap.size≤a)∧
   (∀y u,w4 s y=false→VR (aW L) H w y u→VR (aW L1) H w y u)∧(∀a o,F a o→∃i m t,aW L i m t∧m≠ .ro∧G i a o)∧(∀i m t,aW L1 i m t→(∃t0,aW L i m t0)∧∀a o,G1 i a o→G i a o):=by
 cases s with
 | v y=>
  simp only[m9]at h;split at h
  ·cases h;have hv:v= .slice none 0 0:=hv;subst hv;exact⟨G,λ_ _=>False,hr,hG,ZC.own (t:= .s n 0 λ_ _=> .j) ⟨hn,rfl,rfl⟩,λ_ _ _ _ _ _ _ h=>h,λ_ _ h=>h.elim,λ_ _ _ h=>h,λ_ _ h=>h.elim,λi m t h=>⟨⟨t,h⟩,λ_ _ h=>h⟩⟩
  ·cases h
 | h id q=>
  simp only[m9]at h;split at h
  ·rename_i m t hR;have hR:=aq hR;cases q with
   | nil=>
    simp only at h;split at h
    ·cases h;obtain⟨m',t',g1,g2,g3,g4⟩:=hv;simp only[VM.hd,Option.some.injEq]at g4;subst g4;refine⟨G,G id,hr.cr id,Good.sub hG λ_ _ _ h=>(bw.1 h).1,hr.own id .row _ hR (by simp),λi m t h a o h1 h2=>?_,hG.1 id _ _ hR (by simp),λy u h1 h2=>?_,λa o h=>⟨id,_,_,hR,by simp,h⟩,λi m t h=>⟨⟨t,(bw.1 h).1⟩,λ_ _ h=>h⟩⟩
     ·obtain⟨e1,e2⟩:=bw.1 h;exact hr.jZ id .row _ i m t hR e1 (Ne.symm e2) (by simp) a o h2 h1
     ·exact h2.drop (d:=id) (λj m2 t2 hj h=>⟨bw.2 ⟨h,hj⟩,rfl⟩) h1
    ·cases h
   | cons b q'=>
    simp only at h;split at h
    ·cases h
    ·rename_i hm;split at h
     ·rename_i r n0 k c hsp;cases h;have hq:=mu hsp;obtain⟨m',t',g1,g2,⟨n1,l1,f1,g3⟩,g4⟩:=hv;obtain⟨rfl,rfl⟩:=hr.one _ _ _ _ _ g1 hR;have hlost:∀y,w4 (.h id (b :: q')) y=X.rX id (r++[(n0,k,c)]) y:=λy=>by simp only[w4];rw[hq]
      simp only[hlost];rw[hq]at g2 g3 g4 ⊢;obtain⟨k1,len,f,k2,k3,k4⟩:=p_ g2;have hm':m'≠ .ro:=λe=>hm (by rw[e]);obtain⟨h',b',o,x,Gx,e1,e2,e3,e4,⟨sz,e5⟩,e6,e7,e8,e9⟩:=hr.store hm' hR k1 k2 k3 k4;have hvx:v=x:=by
       have:=sC e1 e2 e3;rw[g4]at this;cases this;rfl
      subst hvx;obtain⟨r1,r2⟩:=e9 (L1:=L) (w':=w) (S:=λ_ _=>False) (y:= .j) (x':=v) (Gy:=λ_ _=>False) hr hR (λ_ _ _ h=>h) (dt.refl _ _) (λ_ _ h=>h.elim) e3 ⟨e4.one,λ_ _ h=>h⟩ (λ_ _ h=>h.elim);have hf:f k c=t'.at (r++[(n0,k,c)]):=(ru k2).symm;rw[hf]at e4;refine⟨_,Gx,r1,⟨?_,?_⟩,e4,?_,λa o h=>hG.1 id m' t' hR hm' a o (e7 a o h),λy u h1 h2=>?_,λa o h=>⟨id,m',t',hR,hm',e7 a o h⟩,λi m t h=>?_⟩
      ·intro i m t h1 h2 a p h3;rcases dN.1 h1 with⟨rfl,rfl,t0,h4⟩|⟨h4,h5⟩
       ·simp only[bm,if_true]at h3;rcases h3 with⟨h3,_⟩|h3
        ·exact hG.1 _ _ _ hR hm' a p h3
        ·exact h3.elim
       ·simp only[bm,h4,if_false]at h3;exact hG.1 i m t h5 h2 a p h3
      ·intro i m t h0 h1;rcases dN.1 h1 with⟨rfl,rfl,t0,h4⟩|⟨h4,h5⟩
       ·exact hG.2 _ _ _ h0 hR
       ·exact hG.2 i m t h0 h5
      ·intro i m t h1 a p h3 h6;rcases dN.1 h1 with⟨rfl,rfl,t0,h4⟩|⟨h4,h5⟩
       ·simp only[bm,if_true]at h3;rcases h3 with⟨_,h3⟩|h3
        ·exact h3 h6
        ·exact h3
       ·simp only[bm,h4,if_false]at h3;exact hr.jZ id m' t' i m t hR h5 (Ne.symm h4) hm' a p (e7 a p h6) h3
      ·exact r2 h1 h2
      ·rcases dN.1 h with⟨rfl,rfl,t0,h4⟩|⟨h4,h5⟩
       ·refine⟨⟨_,h4⟩,λa p h3=>?_⟩;simp only[bm,if_true]at h3;rcases h3 with⟨h3,_⟩|h3
        ·exact h3
        ·exact h3.elim
       ·refine⟨⟨_,h5⟩,λa p h3=>?_⟩;simp only[bm,h4,if_false]at h3;exact h3
     ·cases h
  ·cases h
 | _=>simp[m9]at h

theorem Sat.DL{L1:List E}{S:FP}(hs:Sat N cx L a w){G1:Nat→FP}(hr1:Rp L1 (Act.val a) H G1 w)(hG:Good cx L1 H G1)(hC:dt S w w')(hS:∀i m t,aW L1 i m t→∀a o,G1 i a o→¬S a o)(hS0:∀a o,S a o→cx.S0 a o∨cx.w0.heap.size≤a){d:Nat}(hN:d<N)(hb:d<aa){m:M}{t:T}{F:FP}{h:Value}(hm:m≠ .ro)(hO:du w' t F h)(hbx:m= .box→∃n f,t= .s n 1 f)
  (hF1:∀id m t,id≠d→aW L1 id m t→∀a o,G1 id a o→F a o→False) (hF2:∀a o,F a o→cx.S0 a o∨cx.w0.heap.size≤a) {x:X} {v:Value} (hx:VR (aW (.rt d m t :: cr L1 d)) (bm H d h) w' x v):
  Sat N cx (cn (.rt d m t :: cr L1 d) d x) (Go.Act.put a (some d) v) w':=by
 have h1:=(hr1.fV hC hS).new d hm hO hbx hF1;refine⟨by simpa [Go.Act.put]using hs.kR,by simpa [Go.Act.put]using hs.lc,hs.fV.step hC λx y hx hy=>(hS0 x y hy).resolve_right (by omega),bm H d h,bm G1 d F,(h1.put hx).val λt=>(Act.jc (Nat.lt_of_lt_of_le hN hs.kR) t).symm,?_,?_⟩
 ·rw[cq];intro id m' t' k1 k2 x y k3
  by_cases e:id=d
  ·subst e;simp only[bm,if_true]at k3;exact hF2 x y k3
  ·simp only[bm,e,if_false]at k3;rcases List.mem_cons.1 k1 with k1|k1
   ·cases k1;exact absurd rfl e
   ·exact hG.1 id m' t' (bw.1 k1).1 k2 x y k3
 ·rw[cq];intro id m' t' k0 k1;have e:id≠d:=by omega
  simp only[bm,e,if_false];rcases List.mem_cons.1 k1 with k1|k1
  ·cases k1;exact absurd rfl e
  ·exact hG.2 id m' t' k0 (bw.1 k1).1

def jg:T→T
 | .v y=> .v y
 | _=> .j
theorem Rd.flat{t:T}{F:FP}{c:Value}(h:Rd w t F c):du w (jg t) (λ_ _=>False) c:=by
 cases t with
 | v y=>exact⟨h.1,h.2,λ_ _ h=>h⟩
 | j=>exact⟨h,λ_ _ h=>h⟩
 | s n len f=>obtain⟨_,a,cap,h,_⟩:=h;exact⟨by rw[h];rfl,λ_ _ h=>h⟩
theorem Rd.src{tx e:TypeId}{n m:Nat}{g:Nat→Nat→T}{F:FP}{v:Value}(h:Rd w (.s n m g) F v)(hS:j7 P tx e):∃news,Src P n tx v m news w∧∀k c,k<m→c<n→∃x,news[k*n+c]? =some x∧du w (jg (g k c)) (λ_ _=>False) x:=by
 obtain⟨hn,a,cap,rfl,hl,hm,b,off,V,G,h1,h2⟩:=h
 by_cases hm0:m=0
 ·subst hm0;refine⟨[],?_,λk c hk=>by omega⟩;cases a with
  | none=>exact Src.ofNil (P:=P) w hS.sl cap
  | some a=>exact Src.ofSlice (P:=P) w hS.sl a 0 cap [] (by simp) (by simp) (by simp)
 ·have ha:=h1 (by omega);subst ha;refine⟨(range (m*n)).map λj=>V (j / n) (j%n),Src.ofSlice (P:=P) w hS.sl _ m cap _ (by simp) (λj u hj=>?_) (λu hu=>?_),λk c hk hc=>?_⟩
  ·simp only[getElem?_map]at hj;have hlt:j<m*n:=by
    rcases Nat.lt_or_ge j (m*n)with h|h
    ·exact h
    ·rw[getElem?_eq_none (by simpa using h)]at hj;cases hj
   rw[getElem?_range hlt]at hj;simp only[Option.map_some,Option.some.injEq]at hj;rw[←hj,Addr.add_lit];have:=(h2 (j / n) (j%n) ((div_lt_iff_lt_mul hn).2 hlt) (mod_lt _ hn)).1
   rwa [show j / n*n+j%n=j by rw[Nat.mul_comm];exact div_add_mod j n]at this
  ·obtain⟨j,hj,rfl⟩:=List.mem_map.1 hu;have hlt:j<m*n:=List.mem_range.1 hj;exact((h2 (j / n) (j%n) ((div_lt_iff_lt_mul hn).2 hlt) (mod_lt _ hn)).2.1.flat).one
  ·have hlt:=gi (Nat.le_refl m) hk hc;refine⟨V k c,?_,(h2 k c hk hc).2.1.flat⟩;simp only[getElem?_map,getElem?_range hlt,Option.map_some];rw[show(k*n+c) / n=k by rw[Nat.mul_comm,mul_add_div hn,div_eq_of_lt hc];rfl,show(k*n+c)%n=c by rw[Nat.mul_comm,mul_add_mod,mod_eq_of_lt hc]]
theorem du.src{tx e:TypeId}{n m:Nat}{g:Nat→Nat→T}{F:FP}{v:Value}(h:du w (.s n m g) F v)(hS:j7 P tx e):∃(news:List Value) (Gn:Nat→Nat→FP),Src P n tx v m news w∧(∀k c,k<m→c<n→∃x,news[k*n+c]? =some x∧du w (g k c) (Gn k c) x)∧
  (∀k c k' c',(k≠k'∨c≠c')→k<m→c<n→k'<m→c'<n→∀x y,Gn k c x y→Gn k' c' x y→False)∧∀k c,k<m→c<n→∀x y,Gn k c x y→F x y:=by
 obtain⟨news,h1,h2⟩:=h.rd.src hS;obtain⟨hn,a,cap,rfl,hl,hm,b,off,V,G,g1,g2,g3,g4,g5⟩:=h;refine⟨news,G,h1,λk c hk hc=>?_,g3,λk c hk hc x y h=>(g5 x y).2 (.inr ⟨k,c,hk,hc,h⟩)⟩;obtain⟨x,e1,e2⟩:=h2 k c hk hc;refine⟨x,e1,?_⟩;have ha:=(g1 (by omega)).1;subst ha;have hc':=h1.cells;obtain⟨cs,hcs⟩:∃cs,cs=(range (m*n)).map λj=>V (j / n) (j%n):=⟨_,rfl⟩
 have hf:=run_firstCells_some (P:=P) w n m ⟨b,off,none⟩ m cap cs (by rw[hcs];simp) (λj u hj=>by
  rw[hcs,getElem?_map]at hj;have hlt:j<m*n:=by
   rcases Nat.lt_or_ge j (m*n)with h|h
   ·exact h
   ·rw[getElem?_eq_none (by simpa using h)]at hj;cases hj
  rw[getElem?_range hlt]at hj;simp only[Option.map_some,Option.some.injEq]at hj;rw[←hj,Addr.add_lit];have:=(g2 (j / n) (j%n) ((div_lt_iff_lt_mul hn).2 hlt) (mod_lt _ hn)).1
  rwa [show j / n*n+j%n=j by rw[Nat.mul_comm];exact div_add_mod j n]at this)
 rw[hf]at hc';simp only[Result.ok.injEq,and_true]at hc';have hcn:cs=news:=by simpa using congrArg Array.toList hc'
 have hlt:=gi (Nat.le_refl m) hk hc;rw[←hcn,hcs,getElem?_map,getElem?_range hlt]at e1;simp only[Option.map_some,Option.some.injEq]at e1;rw[show(k*n+c) / n=k by rw[Nat.mul_comm,mul_add_div hn,div_eq_of_lt hc];rfl,show(k*n+c)%n=c by rw[Nat.mul_comm,mul_add_mod,mod_eq_of_lt hc]]at e1;rw[←e1];exact(g2 k c hk hc).2
end
open Go Go.RowKit

def oq(n len:Nat)(f:Nat→Nat→T)(m:Nat)(g:Nat→Nat→T):T:= .s n (len+m) λk c=>if k<len then f k c else g (k-len) c
section
variable{P:Program}{N:Nat}{Q:Exit→List E→Prop}{L:List E}{ops:Array Oper}{rest:List Oper}{dst:Option Tmp}{ty:TypeId}{pos:String}{af:Array Edge}{gd:Option (Nat×Bool)}{d:Nat}
theorem VR.newRow{R:RT}{H:Nat→Value}{w:World}{d n len:Nat}{f:Nat→Nat→T}(h:R d .row (.s n len f)):VR R H w (.h d []) (H d):=VR.root h

theorem VR.here{H:Nat→Value}{w:World}{n len:Nat}{f:Nat→Nat→T}{v:Value}{L:List E}:VR (aW (.rt d .row (.s n len f) :: L)) (bm H d v) w (.h d []) v:=by
 have:=VR.newRow (R:=aW (.rt d .row (.s n len f) :: L)) (H:=bm H d v) (w:=w) (d:=d) (n:=n) (len:=len) (f:=f) (mem_cons_self ..);simpa [bm]using this
theorem pB{t tx:TypeId}{s x:Operand}{a:Act}{w w':World}{v:Value}(h:(Builtin.append_ #[t,tx] ty #[a.eval s,a.eval x]).run P w= .ok v w'):
  (execOp a.eval ⟨dst,.call { callee:= .builtin .append,args:= #[s,x],argTypes:= #[t,tx] },ty,pos,af,gd⟩).run P w= .ok (.value v) w':=by
 simp[execOp,resolve,invoke,builtin,h]

theorem aE.bc{t tx e:TypeId}{s x:Operand}{zt:List T}[hS:j7 P t e][hSx:j7 P tx e][hT:dQ P e zt]{L1 L2:List E}{len m:Nat}{f g:Nat→Nat→T}(hd:dst=some d)(hN:d<N)(hb:d<aa)
  (h1:m9 L zt.length (cp L s)=some (L1,.s zt.length len f)) (hlost:w4 (cp L s) (cp L x)=false) (h2:m9 L1 zt.length (cp L x)=some (L2,.s zt.length m g)) (hbig:len+m≤4194304):aE P N ⟨dst,.call { callee:= .builtin .append,args:= #[s,x],argTypes:= #[t,tx] },ty,pos,af,gd⟩ L (cn (.rt d .row (oq zt.length len f m g) :: cr L2 d) d (.h d [])):=
 aE.op (λcx a w hs=>by
  obtain⟨H,G,hr,hG⟩:=hs.rp;obtain⟨G1,F1,r1,q1,o1,d1,s1,k1,u1,v1⟩:=rS hr hG hT.pos (dw hr s) h1;obtain⟨G2,F2,r2,q2,o2,d2,s2,k2,u2,v2⟩:=rS r1 q1 hT.pos (k1 _ _ hlost (dw hr x)) h2;obtain⟨news,Gn,e1,e2,e3,e4⟩:=o2.src (P:=P) hSx;have hap:∀a o,F1 a o→F2 a o→False:=λa o h h'=>by
   obtain⟨i,m',t',h3,_,h4⟩:=u2 a o h';exact d1 i m' t' h3 a o h4 h
  have hd1:∀i m t,aW L2 i m t→∀a o,G2 i a o→F1 a o→False:=λi m' t' h a o h3 h4=>by
   obtain⟨⟨t0,h5⟩,h6⟩:=v2 i m' t' h;exact d1 i m' t0 h5 a o (h6 a o h3) h4
  obtain⟨v',w',F',g1,g2,g3,g4⟩:=xi (ty:=ty) hS hT o1 e1 e2 e3 (λk c hk hc x y h h'=>hap x y h' (e4 k c hk hc x y h)) hbig;have hF':∀a o,F' a o→F1 a o∨F2 a o∨w.heap.size≤a:=λa o h=>by
   rcases g4 a o h with h|⟨k,c,hk,hc,h⟩|h
   ·exact .inl h
   ·exact .inr (.inl (e4 k c hk hc a o h))
   ·exact .inr (.inr h)
  refine⟨v',w',pB g1,?_⟩;rw[hd];refine hs.DL r2 q2 g3 (λi m t h a o h3 h4=>hd1 i m t h a o h3 h4) s1 hN hb (by simp) (t:=oq zt.length len f m g) (F:=F') (h:=v') g2 (λh=>by cases h) (λid m' t' _ h a o h3 h4=>?_) (λa o h=>?_) VR.here
  ·rcases hF' a o h4 with h5|h5|h5
   ·exact hd1 id m' t' h a o h3 h5
   ·exact d2 id m' t' h a o h3 h5
   ·have:a<w.heap.size:=by
     by_cases hm:m'= .ro
     ·subst hm;exact r2.fR id t' h a o h3
     ·exact(r2.own id m' t' h hm).n9 a o h3
    omega
  ·rcases hF' a o h with h5|h5|h5
   ·exact s1 a o h5
   ·exact s2 a o h5
   ·have:=hs.fV.size;exact .inr (by omega))

def qi(L:List E):X→Option (Nat×Nat×(Nat→Nat→T))
 | .h id q=>match bZ L id with
  | some (_,t)=>match t.at q with
   | .s n len f=>some (n,len,f)
   | _=>none
  | none=>none
 | .a id q n lo len=>match bZ L id with
  | some (_,t)=>match t.at q with
   | .s n' _ f=>if n'=n then some (n,len,λk c=>f (lo+k) c)else none
   | _=>none
  | none=>none
 | _=>none
theorem Af{val:Nat→Value}{H:Nat→Value}{G:Nat→FP}{w:World}(hr:Rp L val H G w){x:X}{v:Value}(hv:VR (aW L) H w x v){n len:Nat}{f:Nat→Nat→T}(h:qi L x=some (n,len,f)):∃F,Rd w (.s n len f) F v:=by
 cases x with
 | h id q=>
  simp only[qi]at h;split at h
  ·rename_i m t hR;split at h
   ·rename_i n' l' f' hT;cases h;obtain⟨m',t',g1,g2,g3,g4⟩:=hv;obtain⟨rfl,rfl⟩:=hr.one _ _ _ _ _ g1 (aq hR);obtain⟨hv',F,e1,e2⟩:=hr.node g1 g2;rw[g4]at e1;cases e1;rw[hT]at e2;exact⟨F,e2⟩
   ·cases h
  ·cases h
 | a id q nn lo ln=>
  simp only[qi]at h;split at h
  ·rename_i m t hR;split at h
   ·rename_i n' l' f' hT;split at h
    ·rename_i hn;subst hn;cases h;obtain⟨m',t',g1,g2,⟨l2,f2,g3,g4⟩,hv',g5,ad,cap,g6,g7,g8,g9,_⟩:=hv;obtain⟨rfl,rfl⟩:=hr.one _ _ _ _ _ g1 (aq hR);rw[hT]at g3;cases g3;obtain⟨hw,F,e1,e2⟩:=hr.node g1 g2;rw[g5]at e1;cases e1;rw[hT]at e2;exact⟨F,e2.sub g4 g6 g7 g8 g9⟩
    ·cases h
   ·cases h
  ·cases h
 | _=>simp[qi]at h
theorem aE.bN{t tx e:TypeId}{s x:Operand}{zt:List T}[hS:j7 P t e][hSx:j7 P tx e][hT:dQ P e zt]{L1:List E}{len m:Nat}{f g:Nat→Nat→T}(hd:dst=some d)(hN:d<N)(hb:d<aa)
  (h1:m9 L zt.length (cp L s)=some (L1,.s zt.length len f)) (h2:qi L (cp L x)=some (zt.length,m,g)) (hbig:len+m≤4194304):aE P N ⟨dst,.call { callee:= .builtin .append,args:= #[s,x],argTypes:= #[t,tx] },ty,pos,af,gd⟩ L (cn (.rt d .row (oq zt.length len f m λk c=>jg (g k c)) :: cr L1 d) d (.h d [])):=
 aE.op (λcx a w hs=>by
  obtain⟨H,G,hr,hG⟩:=hs.rp;obtain⟨G1,F1,r1,q1,o1,d1,s1,k1,u1,v1⟩:=rS hr hG hT.pos (dw hr s) h1;obtain⟨Fx,hx⟩:=Af hr (dw hr x) h2;obtain⟨news,e1,e2⟩:=hx.src (P:=P) hSx;obtain⟨v',w',F',g1,g2,g3,g4⟩:=xi (ty:=ty) hS hT o1 e1 e2 (λ_ _ _ _ _ _ _ _ _ _ _ h=>h.elim) (λ_ _ _ _ _ _ h=>h.elim) hbig;have hF':∀a o,F' a o→F1 a o∨w.heap.size≤a:=λa o h=>by
   rcases g4 a o h with h|⟨k,c,hk,hc,h⟩|h
   ·exact .inl h
   ·exact h.elim
   ·exact .inr h
  refine⟨v',w',pB g1,?_⟩;rw[hd];refine hs.DL r1 q1 g3 (λi m t h a o h3 h4=>d1 i m t h a o h3 h4) s1 hN hb (by simp) (t:=oq zt.length len f m λk c=>jg (g k c)) (F:=F') (h:=v') g2 (λh=>by cases h) (λid m' t' _ h a o h3 h4=>?_) (λa o h=>?_) VR.here
  ·rcases hF' a o h4 with h5|h5
   ·exact d1 id m' t' h a o h3 h5
   ·have:a<w.heap.size:=by
     by_cases hm:m'= .ro
     ·subst hm;exact r1.fR id t' h a o h3
     ·exact(r1.own id m' t' h hm).n9 a o h3
    omega
  ·rcases hF' a o h with h5|h5
   ·exact s1 a o h5
   ·have:=hs.fV.size;exact .inr (by omega))
end
open Go Go.RowKit

def eI(ops:Array Oper)(j i:Nat):Bool:=match ops[j]? with
 | some o=>o.after.any λe=>Region.binds .any e&&e.on==i
 | none=>false
def nE(ops:Array Oper)(i:Nat):Option Tmp:=(ops[i]?).bind (·.dst)
def uU(ops:Array Oper)(i:Nat):List Tmp:=match ops[i]? with
 | some o=>o.looksAt ops
 | none=>[]
def jr(ops:Array Oper)(N:Nat)(qs:List Nat):Bool:=
 Region.noSelect ops&&
 ((range ops.size).all λj=>match ops[j]? with|some o=>o.after.all λe=> !Region.binds .any e || decide (e.on<j)|none=>true)&&
 qs.all λi=>match nE ops i with
  | none=>false
  | some d=>decide (i<ops.size)&&decide (d<N)&& !(uU ops i).contains d&&(range ops.size).all λj=>j==i || eI ops j i ||
   (!(uU ops j).contains d&&nE ops j != some d&&(eI ops i j || match nE ops j with|some e=> !(uU ops i).contains e|none=>true))

section
variable{P:Program}{N:Nat}{Q:Exit→List E→Prop}{L:List E}{ops:Array Oper}{cx:Cx}{a b:Act}{w:World}{o:Oper}{S R:Array Bool}{pend todo qs:List Nat}

theorem vr(h:jr ops N qs=true){j:Nat}{o:Oper}(ho:ops[j]? =some o){e:Edge}(he:e∈o.after)(hb:Region.binds .any e=true):e.on<j:=by
 simp only[jr,Bool.and_eq_true]at h;have:=List.all_eq_true.1 h.1.2 j (List.mem_range.2 (Array.getElem?_eq_some_iff.1 ho).1);simp only[ho]at this;have:=Array.all_eq_true_iff_forall_mem.1 this e he;simpa [hb]using this
theorem gY(h:jr ops N qs=true){j:Nat}{o:Oper}(ho:ops[j]? =some o):∀cs b,o.op≠ .select cs b:=λcs b=>by
 simp only[jr,Bool.and_eq_true]at h;exact Region.noSelect_spec h.1.1 j o cs b ho
theorem iE(h:jr ops N qs=true){i:Nat}(hi:i∈qs):∃o d,ops[i]? =some o∧o.dst=some d∧d<N∧d ∉ o.looksAt ops∧
  ∀(j:Nat) (o':Oper),ops[j]? =some o'→j≠i→eI ops j i=false→d ∉ o'.looksAt ops∧o'.dst≠some d∧(eI ops i j=false→∀e,o'.dst=some e→e ∉ o.looksAt ops):=by
 simp only[jr,Bool.and_eq_true]at h;have:=List.all_eq_true.1 h.2 i hi;split at this
 ·cases this
 ·rename_i d hd;simp only[Bool.and_eq_true,decide_eq_true_eq,Bool.not_eq_true',all_eq_true,mem_range]at this;obtain⟨⟨⟨h1,h2⟩,h3⟩,h4⟩:=this;obtain⟨o,ho⟩:∃o,ops[i]? =some o:=⟨_,Array.getElem?_eq_getElem h1⟩
  have hd':o.dst=some d:=by simpa [nE,ho]using hd
  refine⟨o,d,ho,hd',h2,by simpa [uU,ho]using h3,λj o' hj hne hw=>?_⟩;have:=h4 j (Array.getElem?_eq_some_iff.1 hj).1;simp only[hw,Bool.or_eq_true,beq_iff_eq,hne,false_or,Bool.false_eq_true,Bool.and_eq_true,Bool.not_eq_true',bne_iff_ne,ne_eq,uU,hj,nE,Option.bind_some,ho]at this;refine⟨by simpa using this.1.1,this.1.2,λhw' e he=>?_⟩;have h5:=this.2;simp only[hw',Bool.false_eq_true,false_or,he]at h5;simpa using h5

theorem zx{x:Operand}(h:∀t,x= .tmp t→b.tmps[t]? =a.tmps[t]?):Act.eval b x=Act.eval a x:=by
 cases x with
 | tmp t=>simp only[Act.eval,Array.getD_eq_getD_getElem?,h t rfl]
 | _=>rfl
theorem uz(hs:∀cs b,o.op≠ .select cs b)(h:∀t∈o.looksAt ops,b.tmps[t]? =a.tmps[t]?):execOp (Act.eval b) o=execOp (Act.eval a) o:=
 execOp_congr o hs λx hx=>zx λt ht=>h t (by
  subst ht;simp only[Oper.looksAt,mem_append,mem_filterMap];exact .inl ⟨.tmp t,by simpa using hx,rfl⟩)
theorem lg(h:∀t∈o.looksAt ops,b.tmps[t]? =a.tmps[t]?):Region.wanted o (yielded ops b.tmps)=Region.wanted o (yielded ops a.tmps):=by
 unfold Region.wanted;cases hg:o.guard with
 | none=>rfl
 | some p=>
  obtain⟨g,want⟩:=p;simp only;have:yielded ops b.tmps g=yielded ops a.tmps g:=by
   unfold yielded;cases hb:(ops[g]?).bind (·.dst)with
   | none=>rfl
   | some t=>
    have:=h t (by simp[Oper.looksAt,hg,hb]);simp only[Option.bind_some,this]
  rw[this]

def Dv(P:Program)(ops:Array Oper)(o:Oper)(a:Act)(w:World)(v:Value):Prop:=
 (Region.wanted o (yielded ops a.tmps)=true∧(execOp (Act.eval a) o).run P w= .ok (.value v) w)∨(Region.wanted o (yielded ops a.tmps)=false∧v=undef)
theorem Dv.uy{v:Value}(hs:∀cs b,o.op≠ .select cs b)(h:∀t∈o.looksAt ops,b.tmps[t]? =a.tmps[t]?)(hd:Dv P ops o a w v):Dv P ops o b w v:=by
 unfold Dv at *;rw[uz hs h,lg h];exact hd
theorem ff{d t:Nat}{v:Value}:(Go.Act.put a (some d) v).tmps[t]? =if t=d∧d<a.tmps.size then some v else a.tmps[t]? :=by
 simp only[Go.Act.put]
 by_cases h:t=d
 ·subst h
  by_cases h2:t<a.tmps.size
  ·simp[h2]
  ·simp[h2,Array.setIfInBounds]
 ·rw[if_neg (λhh=>h hh.1)];exact Array.getElem?_setIfInBounds_ne (Ne.symm h)

structure VS(P:Program)(ops:Array Oper)(qs:List Nat)(S:Array Bool)(pend todo:List Nat)(R:Array Bool)(a b:Act)(w:World):Prop where
 yR:R.size=ops.size
 y5:S.size=ops.size
 sub:∀i,R.getD i false=true→S.getD i false=true
 BY:∀i,S.getD i false=true→R.getD i false=false→i∈pend
 vk:∀i∈pend,i∈qs∧S.getD i false=true
 Ct:∀i∈pend,∀j,eI ops i j=true→S.getD j false=true
 Aw:b.tmps.size=a.tmps.size
 lc:b.defers=a.defers
 uy:∀t,(∀i∈pend,R.getD i false=false→nE ops i≠some t)→b.tmps[t]? =a.tmps[t]?
 CO:∀i∈pend,i ∉ todo→R.getD i false=false→∀o d,ops[i]? =some o→o.dst=some d→∃v,Dv P ops o b w v∧b.tmps[d]? =some v
 CP:∀i j,R.getD i false=true→eI ops i j=true→R.getD j false=true

def fz(ops:Array Oper):List Nat→List Nat→Bool
 | _,[]=>true
 | known,d :: r=>known.any (λe=>eI ops e d)&&fz ops (d :: known) r
theorem qv{ops:Array Oper}{R:Array Bool}(hc:∀i j,R.getD i false=true→eI ops i j=true→R.getD j false=true){j:Nat}(h3:∀i,eI ops j i=true→R.getD i false=true):∀{D known:List Nat},(∀e∈known,e=j∨R.getD e false=true)→fz ops known D=true→∀d∈D,R.getD d false=true
 | [],_,_,_,d,hd=>by cases hd
 | x :: D,known,hk,h,d,hd=>by
  simp only[fz,Bool.and_eq_true,any_eq_true]at h;obtain⟨⟨e,he,hw⟩,h2⟩:=h;have hx:R.getD x false=true:=by
   rcases hk e he with rfl|h'
   ·exact h3 x hw
   ·exact hc e x h' hw
  rcases List.mem_cons.1 hd with rfl|hd
  ·exact hx
  ·exact qv hc h3 (known:=x :: known) (λe he=>by
    rcases List.mem_cons.1 he with rfl|he
    ·exact .inr hx
    ·exact hk e he) h2 d hd
theorem mX{i j:Nat}{o:Oper}(ho:ops[i]? =some o):eI ops i j=true↔∃e∈o.after,Region.binds .any e=true∧e.on=j:=by
 simp only[eI,ho,Array.any_eq_true',Bool.and_eq_true,beq_iff_eq]
theorem hL{S:Array Bool}{j:Nat}(hs:S.size=ops.size):j∈Region.ready .any ops S↔j<ops.size∧S.getD j false=false∧∀i,eI ops j i=true→S.getD i false=true:=by
 rw[mem_ready];constructor
 ·rintro ⟨h1,o,ho,h2⟩
  have hlt:=(Array.getElem?_eq_some_iff.1 ho).1;refine⟨hlt,?_,λi hw=>?_⟩
  ·rw[Array.getD_eq_getD_getElem?]at h1 ⊢;rw[Array.getElem?_eq_getElem (by omega)]at h1 ⊢;exact h1
  ·obtain⟨e,he,hb,rfl⟩:=(mX ho).1 hw;exact h2 e he hb
 ·rintro ⟨hlt,h1,h2⟩
  refine⟨?_,_,Array.getElem?_eq_getElem hlt,λe he hb=>h2 _ ((mX (Array.getElem?_eq_getElem hlt)).2 ⟨e,he,hb,rfl⟩)⟩;rw[Array.getD_eq_getD_getElem?]at h1 ⊢;rw[Array.getElem?_eq_getElem (by omega)]at h1 ⊢;exact h1
theorem dB{S:Array Bool}{i j:Nat}(hi:i<S.size):(S.setIfInBounds i true).getD j false=if j=i then true else S.getD j false:=by
 simp only[Array.getD_eq_getD_getElem?]
 by_cases h:j=i
 ·subst h;simp[hi]
 ·rw[if_neg h,Array.getElem?_setIfInBounds_ne (Ne.symm h)]

def DF(n:Nat)(R:Array Bool):Nat:=(range n).countP λi=> !R.getD i false
theorem yb{l:List Nat}{p q:Nat→Bool}(h:∀x,q x=true→p x=true){i:Nat}(hi:i∈l)(hp:p i=true)(hq:q i=false):l.countP q<l.countP p:=by
 induction l with
 | nil=>cases hi
 | cons x l ih=>
  have hle:l.countP q≤l.countP p:=countP_mono_left λx _=>h x;simp only[countP_cons];rcases List.mem_cons.1 hi with rfl|hm
  ·rw[hp,hq];simp;omega
  ·have:=ih hm;have hx:=h x;cases hqx:q x
   ·simp;split<;>omega
   ·rw[hx hqx];simp;omega
theorem Bd{R:Array Bool}{n i:Nat}(hn:i<n)(hs:R.size=n)(h:R.getD i false=false):DF n (R.setIfInBounds i true)<DF n R:=by
 refine yb (i:=i) (λx hx=>?_) (List.mem_range.2 hn) (by simp[h]) (by simp[dB (hs ▸ hn)]);rw[dB (hs ▸ hn)]at hx;split at hx
 ·simp at hx
 ·exact hx
theorem za{R:Array Bool}{n:Nat}(h:DF n R=0):∀i,i<n→R.getD i false=true:=λi hi=>by
 unfold DF at h;rw[countP_eq_zero]at h;simpa using h i (List.mem_range.2 hi)

theorem wq(hq:jr ops N qs=true)(hs:R.size=ops.size):∀i,i<ops.size→R.getD i false=false→∃j,j∈Region.ready .any ops R:=by
 intro i
 induction i using Nat.strongRecOn with
 | _ i ih=>
  intro hi h
  by_cases hall:∀j,eI ops i j=true→R.getD j false=true
  ·exact⟨i,(hL hs).2 ⟨hi,h,hall⟩⟩
  ·simp only[Classical.not_forall]at hall;obtain⟨j,hw,hj⟩:=hall;obtain⟨e,he,heb,rfl⟩:=(mX (Array.getElem?_eq_getElem hi)).1 hw;have hlt:=vr hq (Array.getElem?_eq_getElem hi) he heb;exact ih e.on hlt (by omega) (by simpa using hj)
end
open Go Go.RowKit

section
variable{P:Program}{N:Nat}{Q:Exit→List E→Prop}{L:List E}{ops:Array Oper}{cx:Cx}{a b:Act}{w:World}{o:Oper}{S R:Array Bool}{pend todo qs:List Nat}

def aO(P:Program)(N:Nat)(ops:Array Oper)(qs:List Nat)(Q:Exit→List E→Prop)(S:Array Bool)(pend todo:List Nat)(L:List E):Prop:=
 jr ops N qs=true→∀(cx:yy P) a b w R fuel,DF ops.size R≤fuel→VS P ops qs S pend todo R a b w→Sat N cx L b w→wpAny P .any ops (QQ N cx Q) fuel R a w

theorem Sat.uy(hs:Sat N cx L b w)(h1:b.tmps.size=a.tmps.size)(h2:b.defers=a.defers)(h:∀t:Nat,b.tmps[t]? =a.tmps[t]?):Sat N cx L a w:=by
 obtain⟨H,G,hr,hG⟩:=hs.rp;exact⟨h1 ▸ hs.kR,h2 ▸ hs.lc,hs.fV,H,G,hr.val λt=>by simp only[Act.val,Array.getD_eq_getD_getElem?,h t],hG⟩

def B2(P:Program)(N:Nat)(o:Oper)(L:List E)(K:List E→Prop):Prop:=∀(cx:yy P) a w Q,Sat N cx L a w→o.wp P a w (λb w'=>(∃v,b=a.put o.dst v)∧∃L1,K L1∧Sat N cx L1 b w') Q
theorem aE.k{L1:List E}{o:Oper}(h:aE P N o L L1):B2 P N o L (λL'=>L'=L1):=λcx a w Q hs=>Oper.wp_mono (λ_ _ hb=>⟨hb.1,_,rfl,hb.2⟩) (h cx a w Q hs)
def CK(P:Program)(N:Nat)(ops:Array Oper)(qs:List Nat)(Q:Exit→List E→Prop)(S:Array Bool)(pend:List Nat)(L:List E)(j:Nat):Prop:=
 ∃o,∃K:List E→Prop,∃pend',ops[j]? =some o∧((b9 ops L o=some true∧B2 P N o L K)∨(b9 ops L o=some false∧∃d,o.dst=some d∧d<N∧K (cn L d (.v undef))))∧(∃D,fz ops [j] D=true∧∀i∈pend,i∈pend'∨i∈D)∧(∀i∈pend',i∈pend)∧∀L1,K L1→aO P N ops qs Q (S.setIfInBounds j true) pend' pend' L1

theorem Cj{K:Act→World→Prop}{F:Act→World→Prop}{Q Q':Exit→Act→World→Prop}(hE:execOp (Act.eval a) o=execOp (Act.eval b) o)(hQ:Q'= λ_ _ _=>False)
    (h:o.wp P b w (λb' w'=>(∃v,b'=b.put o.dst v)∧F b' w') Q') (hK:∀v w',F (b.put o.dst v) w'→K (a.put o.dst v) w'):o.wp P a w K Q:=by
  unfold Oper.wp at *;rw[hE]
  generalize (execOp (Act.eval b) o).run P w=r at*
  cases r with
  | ok n w'=>
    cases n<;>simp only[Oper.upon]at h ⊢
    case value u=>exact hK _ _ h.2
    case skip=>exact hK _ _ h.2
    case defer d=>
      obtain⟨⟨v,hv⟩,_⟩:=h;have:=congrArg Act.defers hv
      generalize o.dst=x at this
      exfalso
      cases x<;> · have:=congrArg length this;simp[Go.Act.put]at this
    case enter f args=>
      refine Calls.mono h λe w'' he=>?_;cases e with
      | returned u=>exact hK _ _ he.2
      | panicked c=>rw[hQ]at he;exact he.elim
      | outgrown=>rw[hQ]at he;obtain⟨_,_,he⟩:=he;exact he.elim
    case row row args=>exact Rows.mono h λu w'' he=>hK _ _ he.2
  | halt x w'=>
    cases x<;>simp only[Oper.upon]at h ⊢
    case panic u=>rw[hQ]at h;exact h.elim

theorem aO.run(hS:∀j∈Region.ready .any ops S,CK P N ops qs Q S pend L j)(hN:Region.ready .any ops S=[]→Q .normal L):aO P N ops qs Q S pend [] L:=by
 intro hq cx a b w R fuel;have hdone:∀(R:Array Bool) (a:Act),VS P ops qs S pend [] R a b w→Sat N cx L b w→(∀i,i<ops.size→R.getD i false=true)→QQ N cx Q .normal a w:=by
  intro R a hv hs hall;have hne:Region.ready .any ops S=[]:=by
   apply List.eq_nil_iff_forall_not_mem.2;intro j hj;obtain⟨h1,h2,_⟩:=(hL hv.y5).1 hj;rw[hv.sub j (hall j h1)]at h2;cases h2
  refine⟨L,hN hne,hs.uy hv.Aw hv.lc λt=>hv.uy t λi hi hR=>?_⟩;obtain⟨o,d,ho,_⟩:=iE hq (hv.vk i hi).1;rw[hall i (Array.getElem?_eq_some_iff.1 ho).1]at hR;cases hR
 induction fuel generalizing a R with
 | zero=>
  intro hu hv hs;have hall:=za (Nat.le_zero.1 hu);refine⟨?_,hdone R a hv hs hall⟩;apply List.eq_nil_iff_forall_not_mem.2;intro j hj;obtain⟨h1,h2,_⟩:=(hL hv.yR).1 hj;rw[hall j h1]at h2;cases h2
 | succ fuel ih=>
  intro hu hv hs;refine⟨λh0=>hdone R a hv hs λi hi=>?_,λi hi=>?_⟩
  ·cases h:R.getD i false with
   | true=>rfl
   | false=>
    obtain⟨j,hj⟩:=wq hq hv.yR i hi h;rw[h0]at hj;cases hj
  ·obtain⟨h1,h2,h3⟩:=(hL hv.yR).1 hi;have hlt:=Bd h1 hv.yR h2;have hRi:i<R.size:=by rw[hv.yR];exact h1
   have hclo:∀k j,(R.setIfInBounds i true).getD k false=true→eI ops k j=true→(R.setIfInBounds i true).getD j false=true:=λk j hk hw=>by
    rw[dB hRi]at hk ⊢;split
    ·rfl
    ·split at hk
     ·rename_i e;subst e;exact h3 j hw
     ·exact hv.CP k j hk hw
   -- the undone quiet ones touch nothing of i's
   have hap:∀k∈pend,R.getD k false=false→k≠i→∀o,ops[i]? =some o→∀ok dk,ops[k]? =some ok→ok.dst=some dk→dk ∉ o.looksAt ops∧o.dst≠some dk:=by
    intro k hk hRk hne o ho ok dk hok hdk;obtain⟨ok',dk',hok',hdk',_,_,h5⟩:=iE hq (hv.vk k hk).1;rw[hok]at hok';cases hok';rw[hdk]at hdk';cases hdk';have hw:eI ops i k=false:=by
     cases hw:eI ops i k with
     | false=>rfl
     | true=>rw[h3 k hw]at hRk;cases hRk
    exact⟨(h5 i o ho (Ne.symm hne) hw).1,(h5 i o ho (Ne.symm hne) hw).2.1⟩
   by_cases hSi:S.getD i false=true
   ·-- a quiet one
    have hip:=hv.BY i hSi h2;obtain⟨o,d,ho,hd,hN',hself,h5⟩:=iE hq (hv.vk i hip).1;obtain⟨v,hD,hbv⟩:=hv.CO i hip (by simp) h2 o d ho hd;have hag:∀t∈o.looksAt ops,a.tmps[t]? =b.tmps[t]? :=λt ht=>(hv.uy t λk hk hRk e=>by
     by_cases hki:k=i
     ·subst hki;rw[nE,ho]at e;simp only[Option.bind_some,hd,Option.some.injEq]at e;subst e;exact hself ht
     ·obtain⟨ok,dk,hok,hdk,_⟩:=iE hq (hv.vk k hk).1;rw[nE,hok]at e;simp only[Option.bind_some,hdk,Option.some.injEq]at e;subst e;exact(hap k hk hRk hki o ho ok dk hok hdk).1 ht).symm
    have hDa:Dv P ops o a w v:=hD.uy (gY hq ho) hag;have hVS:VS P ops qs S pend [] (R.setIfInBounds i true) (a.put (some d) v) b w:=by
     refine⟨by simp[hv.yR],hv.y5,λk hk=>?_,λk hk hR=>?_,hv.vk,hv.Ct,by simpa [Go.Act.put]using hv.Aw,by simpa [Go.Act.put]using hv.lc,λt ht=>?_,λk hk hkt hR=>?_,hclo⟩
     ·rw[dB hRi]at hk;split at hk
      ·rename_i e;subst e;exact hSi
      ·exact hv.sub k hk
     ·rw[dB hRi]at hR;split at hR
      ·cases hR
      ·exact hv.BY k hk hR
     ·rw[ff];split
      ·rename_i e;rw[e.1];exact hbv
      ·rename_i e;refine hv.uy t λk hk hR hkd=>?_
       by_cases hki:k=i
       ·subst hki;rw[nE,ho]at hkd;simp only[Option.bind_some,hd,Option.some.injEq]at hkd;subst hkd;have:d<b.tmps.size:=(Array.getElem?_eq_some_iff.1 hbv).1;exact e ⟨rfl,hv.Aw ▸ this⟩
       ·exact ht k hk (by rw[dB hRi,if_neg hki];exact hR) hkd
     ·rw[dB hRi]at hR;split at hR
      ·cases hR
      ·exact hv.CO k hk hkt hR
    have hgo:=ih (a.put (some d) v) (R.setIfInBounds i true) (by omega) hVS hs;unfold wpOp;simp only[ho];rcases hDa with⟨hw,hx⟩|⟨hw,rfl⟩
    ·simp only[hw,if_true];refine .inl ?_;unfold Oper.wp;rw[hx];simp only[Oper.upon,hd];exact hgo
    ·simp only[hw,Bool.false_eq_true,if_false];rw[hd];exact hgo
   ·-- one that counts
    have hSi':S.getD i false=false:=by simpa using hSi
    have hiS:i∈Region.ready .any ops S:=(hL hv.y5).2 ⟨h1,hSi',λk hw=>hv.sub k (h3 k hw)⟩;obtain⟨o,K,pend',ho,hwS,⟨D,hD1,hp1⟩,hp2,hA⟩:=hS i hiS;have hDR:=qv hv.CP h3 (known:=[i]) (λe he=> .inl (List.mem_singleton.1 he)) hD1;have hne:∀k∈pend,k≠i:=λk hk e=>by subst e;rw[(hv.vk k hk).2]at hSi';cases hSi'
    have hag:∀t∈o.looksAt ops,a.tmps[t]? =b.tmps[t]? :=λt ht=>(hv.uy t λk hk hRk e=>by
     obtain⟨ok,dk,hok,hdk,_⟩:=iE hq (hv.vk k hk).1;rw[nE,hok]at e;simp only[Option.bind_some,hdk,Option.some.injEq]at e;subst e;exact(hap k hk hRk (hne k hk) o ho ok dk hok hdk).1 ht).symm
    obtain⟨H,G,hr,hG⟩:=hs.rp;have hSR:i<S.size:=by rw[hv.y5];exact h1
    have key:∀v w',(∃L1,K L1∧Sat N cx L1 (b.put o.dst v) w')→wpAny P .any ops (QQ N cx Q) fuel (R.setIfInBounds i true) (a.put o.dst v) w':=λv w' hs'=>by
     obtain⟨L1,hK,hs'⟩:=hs';refine hA L1 hK hq cx _ _ w' _ fuel (by omega) ?_ hs';refine⟨by simp[hv.yR],by simp[hv.y5],λk hk=>?_,λk hk hR=>?_,λk hk=>?_,λk hk j hw=>?_,?_,?_,λt ht=>?_,λk hk hkt=>absurd hk hkt,hclo⟩
     ·rw[dB hRi]at hk;rw[dB hSR];split at hk
      ·rename_i e;rw[if_pos e]
      ·rename_i e;rw[if_neg e];exact hv.sub k hk
     ·rw[dB hSR]at hk;rw[dB hRi]at hR;split at hR
      ·cases hR
      ·rename_i e;rw[if_neg e]at hk;rcases hp1 k (hv.BY k hk hR)with h|h
       ·exact h
       ·rw[hDR k h]at hR;cases hR
     ·refine⟨(hv.vk k (hp2 k hk)).1,?_⟩;rw[dB hSR];split
      ·rfl
      ·exact(hv.vk k (hp2 k hk)).2
     ·rw[dB hSR];split
      ·rfl
      ·exact hv.Ct k (hp2 k hk) j hw
     ·cases o.dst<;>simpa [Go.Act.put]using hv.Aw
     ·cases o.dst<;>simpa [Go.Act.put]using hv.lc
     ·have hold:(∀d,o.dst=some d→t≠d)→b.tmps[t]? =a.tmps[t]? :=λhd=>hv.uy t λk hk hR e=>by
       have hki:=hne k hk;rcases hp1 k hk with h|h
       ·exact ht k h (by rw[dB hRi,if_neg hki];exact hR) e
       ·rw[hDR k h]at hR;cases hR
      cases hd:o.dst with
      | none=>simp only[Go.Act.put];exact hold (by simp[hd])
      | some d=>
       rw[ff,ff,hv.Aw];split
       ·rfl
       ·rename_i e
        by_cases htd:t=d
        ·subst htd;have:¬t<a.tmps.size:=λh=>e ⟨rfl,h⟩;rw[Array.getElem?_eq_none (xs:=b.tmps) (by rw[hv.Aw];omega),Array.getElem?_eq_none (xs:=a.tmps) (by omega)]
        ·exact hold λd' hd'=>by rw[hd]at hd';cases hd';exact htd
    unfold wpOp;rcases hwS with⟨hw,hSt⟩|⟨hw,d,hd,hdN,hK⟩
    ·have hwa:Region.wanted o (yielded ops a.tmps)=true:=by rw[lg hag];exact iN hw hr
     simp only[ho,hwa,if_true];exact .inl (Cj (uz (gY hq ho) hag) rfl (hSt cx b w (λ_ _ _=>False) hs) λv w' hs'=>key v w' hs')
    ·have hwa:Region.wanted o (yielded ops a.tmps)=false:=by rw[lg hag];exact iN hw hr
     simp only[ho,hwa,Bool.false_eq_true,if_false];refine key undef w ⟨_,hK,?_⟩;rw[hd];exact hs.put hr hG hdN rfl
end
open Go Go.RowKit

section
variable{P:Program}{N:Nat}{Q:Exit→List E→Prop}{L:List E}{ops:Array Oper}{cx:Cx}{a b:Act}{w:World}{o:Oper}{S R:Array Bool}{pend todo qs:List Nat}

def Qd(P:Program)(ops:Array Oper)(o:Oper)(L:List E)(x:X):Prop:=(b9 ops L o=some true∧Qt P o L x)∨(b9 ops L o=some false∧x= .v undef)
theorem Qd.on{x:X}{gb:Bool}(hw:b9 ops L o=some gb)(hgb:gb=true)(h:Qt P o L x):Qd P ops o L x:= .inl ⟨by rw[hw,hgb],h⟩
theorem Qd.off{gb:Bool}(hw:b9 ops L o=some gb)(hgb:gb=false):Qd P ops o L (.v undef):= .inr ⟨by rw[hw,hgb],rfl⟩
theorem Qd.run{x:X}(h:Qd P ops o L x){H:Nat→Value}{G:Nat→FP}(hr:Rp L (Act.val b) H G w):∃v,Dv P ops o b w v∧VR (aW L) H w x v:=by
 rcases h with⟨h1,h2⟩|⟨h1,rfl⟩
 ·obtain⟨v,e1,e2⟩:=h2 H w b (dw hr) ⟨_,G,hr⟩;exact⟨v,.inl ⟨iN h1 hr,e1⟩,e2⟩
 ·exact⟨undef,.inr ⟨iN h1 hr,rfl⟩,rfl⟩

theorem aO.take(i:Nat){x:X}{d:Nat}{o:Oper}(ho:ops[i]? =some o)(hd:o.dst=some d)(hq':qs.contains i=true)(hr:(Region.ready .any ops S).contains i=true)
  (h:Qd P ops o L x) (k:aO P N ops qs Q (S.setIfInBounds i true) (i :: pend) [] (cn L d x)):aO P N ops qs Q S pend [] L:=by
 intro hq cx a b w R fuel hu hv hs;have hiq:i∈qs:=by simpa using hq'
 obtain⟨o',d',ho',hd',hN,hself,h5⟩:=iE hq hiq;rw[ho]at ho';cases ho';rw[hd]at hd';cases hd';obtain⟨h1,h2,h3⟩:=(hL hv.y5).1 (by simpa using hr);obtain⟨H,G,hrp,hG⟩:=hs.rp;obtain⟨v,hD,hx⟩:=h.run hrp;have hSi:i<S.size:=by rw[hv.y5];exact h1
 have hRi:R.getD i false=false:=by
  cases hR:R.getD i false with
  | false=>rfl
  | true=>rw[hv.sub i hR]at h2;cases h2
 have hbs:d<b.tmps.size:=Nat.lt_of_lt_of_le hN hs.kR;have hne:∀m∈pend,m≠i:=λm hm e=>by have h6:=(hv.vk m hm).2;rw[e,h2]at h6;cases h6
 refine k hq cx a (b.put (some d) v) w R fuel hu ?_ (hs.put hrp hG hN hx);refine⟨hv.yR,by simp[hv.y5],λk hk=>?_,λk hk hR=>?_,λk hk=>?_,λk hk j hw=>?_,by simpa [Go.Act.put]using hv.Aw,by simpa [Go.Act.put]using hv.lc,λt ht=>?_,λk hk hkt hR ok dk hok hdk=>?_,hv.CP⟩
 ·rw[dB hSi];split
  ·rfl
  ·exact hv.sub k hk
 ·rw[dB hSi]at hk;split at hk
  ·rename_i e;subst e;exact mem_cons_self ..
  ·exact mem_cons_of_mem _ (hv.BY k hk hR)
 ·rw[dB hSi];rcases List.mem_cons.1 hk with rfl|hk
  ·exact⟨hiq,if_pos rfl⟩
  ·refine⟨(hv.vk k hk).1,?_⟩;split
   ·rfl
   ·exact(hv.vk k hk).2
 ·rw[dB hSi];split
  ·rfl
  ·rcases List.mem_cons.1 hk with rfl|hk
   ·exact h3 j hw
   ·exact hv.Ct k hk j hw
 ·rw[ff,if_neg]
  ·exact hv.uy t λk hk=>ht k (mem_cons_of_mem _ hk)
  ·rintro ⟨rfl,_⟩
   exact ht i (mem_cons_self ..) hRi (by rw[nE,ho];exact hd)
 ·rcases List.mem_cons.1 hk with rfl|hk
  ·rw[ho]at hok;cases hok;rw[hd]at hdk;cases hdk;refine⟨v,hD.uy (gY hq ho) λt ht=>?_,by rw[ff,if_pos ⟨rfl,hbs⟩]⟩;rw[ff,if_neg]
   rintro ⟨rfl,_⟩;exact hself ht
  ·obtain⟨v',hD',hv'⟩:=hv.CO k hk (by simp) hR ok dk hok hdk;have hw:eI ops k i=false:=by
    cases hw:eI ops k i with
    | false=>rfl
    | true=>rw[hv.Ct k hk i hw]at h2;cases h2
   obtain⟨g1,g2,_⟩:=h5 k ok hok (hne k hk) hw;refine⟨v',hD'.uy (gY hq hok) λt ht=>?_,?_⟩
   ·rw[ff,if_neg]
    rintro ⟨rfl,_⟩;exact g1 ht
   ·rw[ff,if_neg]
    ·exact hv'
    ·rintro ⟨rfl,_⟩;exact g2 hdk

theorem aO.again{i:Nat}{d:Nat}{o:Oper}(ho:ops[i]? =some o)(hd:o.dst=some d)(hp:pend.all (λk=>todo.contains k || k==i || !eI ops k i)=true)
  (h:Qd P ops o L (ax L d)) (k:aO P N ops qs Q S pend todo (cn L d (ax L d))):aO P N ops qs Q S pend (i :: todo) L:=by
 intro hq cx a b w R fuel hu hv hs;obtain⟨H,G,hrp,hG⟩:=hs.rp
 by_cases hc:i∈pend∧R.getD i false=false
 ·obtain⟨hip,hRi⟩:=hc;obtain⟨o',d',ho',hd',hN,hself,h5⟩:=iE hq (hv.vk i hip).1;rw[ho]at ho';cases ho';rw[hd]at hd';cases hd';obtain⟨v,hD,hx⟩:=h.run hrp;have hbs:d<b.tmps.size:=Nat.lt_of_lt_of_le hN hs.kR;refine k hq cx a (b.put (some d) v) w R fuel hu ?_ (hs.put hrp hG hN hx);refine⟨hv.yR,hv.y5,hv.sub,hv.BY,hv.vk,hv.Ct,by simpa [Go.Act.put]using hv.Aw,by simpa [Go.Act.put]using hv.lc,λt ht=>?_,λk hk hkt hR ok dk hok hdk=>?_,hv.CP⟩
  ·rw[ff,if_neg]
   ·exact hv.uy t ht
   ·rintro ⟨rfl,_⟩
    exact ht i hip hRi (by rw[nE,ho];exact hd)
  ·by_cases hki:k=i
   ·subst hki;rw[ho]at hok;cases hok;rw[hd]at hdk;cases hdk;refine⟨v,hD.uy (gY hq ho) λt ht=>?_,by rw[ff,if_pos ⟨rfl,hbs⟩]⟩;rw[ff,if_neg]
    rintro ⟨rfl,_⟩;exact hself ht
   ·obtain⟨v',hD',hv'⟩:=hv.CO k hk (λhh=>(List.mem_cons.1 hh).elim hki hkt) hR ok dk hok hdk;have hw:eI ops k i=false:=by
     have:=List.all_eq_true.1 hp k hk;simp only[Bool.or_eq_true,contains_iff_mem,hkt,beq_iff_eq,hki,false_or,Bool.not_eq_true']at this;exact this
    obtain⟨g1,g2,_⟩:=h5 k ok hok hki hw;refine⟨v',hD'.uy (gY hq hok) λt ht=>?_,?_⟩
    ·rw[ff,if_neg]
     rintro ⟨rfl,_⟩;exact g1 ht
    ·rw[ff,if_neg]
     ·exact hv'
     ·rintro ⟨rfl,_⟩;exact g2 hdk
 ·have hsl:VR (aW L) H w (ax L d) (Act.val b d):=dw hrp (.tmp d);refine k hq cx a b w R fuel hu ⟨hv.yR,hv.y5,hv.sub,hv.BY,hv.vk,hv.Ct,hv.Aw,hv.lc,hv.uy,λk hk hkt hR ok dk hok hdk=>hv.CO k hk (λhh=>(List.mem_cons.1 hh).elim (λe=>hc ⟨e ▸ hk,e ▸ hR⟩) hkt) hR ok dk hok hdk,hv.CP⟩ ?_;refine⟨hs.kR,hs.lc,hs.fV,H,G,(hrp.put hsl).val λt=>?_,by rw[cq];exact hG⟩;split
  ·rename_i e;rw[e]
  ·rfl

theorem aO.El(j:Nat){K:List E→Prop}{o:Oper}(pend' D:List Nat)(hr:Region.ready .any ops S=[j])(ho:ops[j]? =some o){gb:Bool}(hw:b9 ops L o=some gb)(hgb:gb=true)
  (hD:fz ops [j] D=true) (hp:(pend.all λi=>pend'.contains i || D.contains i)=true) (hp':(pend'.all λi=>pend.contains i)=true) (h:B2 P N o L K)
  (k:∀L1,K L1→aO P N ops qs Q (S.setIfInBounds j true) pend' pend' L1):aO P N ops qs Q S pend [] L:=
 aO.run (λi hi=>by
  rw[hr,mem_singleton]at hi;subst hi;refine⟨o,K,pend',ho,.inl ⟨by rw[hw,hgb],h⟩,⟨D,hD,λi hi=>?_⟩,λi hi=>by simpa using List.all_eq_true.1 hp' i hi,k⟩;have:=List.all_eq_true.1 hp i hi;simpa using this) λh0=>by rw[hr]at h0;cases h0
theorem aO.one(j:Nat){L1:List E}{o:Oper}(pend' D:List Nat)(hr:Region.ready .any ops S=[j])(ho:ops[j]? =some o){gb:Bool}(hw:b9 ops L o=some gb)(hgb:gb=true)
  (hD:fz ops [j] D=true) (hp:(pend.all λi=>pend'.contains i || D.contains i)=true) (hp':(pend'.all λi=>pend.contains i)=true) (h:aE P N o L L1)
  (k:aO P N ops qs Q (S.setIfInBounds j true) pend' pend' L1):aO P N ops qs Q S pend [] L:=
 aO.El j pend' D hr ho hw hgb hD hp hp' h.k λ_ e=>e ▸ k
theorem aO.dW(j:Nat){L1:List E}{o:Oper}(pend' D:List Nat)(ho:ops[j]? =some o){gb:Bool}(hw:b9 ops L o=some gb)(hgb:gb=true)
  (hD:fz ops [j] D=true) (hp:(pend.all λi=>pend'.contains i || D.contains i)=true) (hp':(pend'.all λi=>pend.contains i)=true) (h:aE P N o L L1)
  (k:aO P N ops qs Q (S.setIfInBounds j true) pend' pend' L1):CK P N ops qs Q S pend L j:=
 ⟨o,_,pend',ho,.inl ⟨by rw[hw,hgb],h.k⟩,⟨D,hD,λi hi=>by simpa using List.all_eq_true.1 hp i hi⟩,λi hi=>by simpa using List.all_eq_true.1 hp' i hi,λ_ e=>e ▸ k⟩
theorem aO.Cc(j:Nat){d:Nat}{o:Oper}(pend' D:List Nat)(ho:ops[j]? =some o){gb:Bool}(hw:b9 ops L o=some gb)(hgb:gb=false)
  (hD:fz ops [j] D=true) (hp:(pend.all λi=>pend'.contains i || D.contains i)=true) (hp':(pend'.all λi=>pend.contains i)=true) (hd:o.dst=some d) (hN:d<N)
  (k:aO P N ops qs Q (S.setIfInBounds j true) pend' pend' (cn L d (.v undef))):CK P N ops qs Q S pend L j:=
 ⟨o,λL'=>L'=cn L d (.v undef),pend',ho,.inr ⟨by rw[hw,hgb],d,hd,hN,rfl⟩,⟨D,hD,λi hi=>by simpa using List.all_eq_true.1 hp i hi⟩,λi hi=>by simpa using List.all_eq_true.1 hp' i hi,λ_ e=>e ▸ k⟩
theorem aO.Cm(j:Nat){d:Nat}{o:Oper}(pend' D:List Nat)(hr:Region.ready .any ops S=[j])(ho:ops[j]? =some o){gb:Bool}(hw:b9 ops L o=some gb)(hgb:gb=false)
  (hD:fz ops [j] D=true) (hp:(pend.all λi=>pend'.contains i || D.contains i)=true) (hp':(pend'.all λi=>pend.contains i)=true) (hd:o.dst=some d) (hN:d<N)
  (k:aO P N ops qs Q (S.setIfInBounds j true) pend' pend' (cn L d (.v undef))):aO P N ops qs Q S pend [] L:=
 aO.run (λi hi=>by
  rw[hr,mem_singleton]at hi;subst hi;exact aO.Cc i pend' D ho hw hgb hD hp hp' hd hN k) λh0=>by rw[hr]at h0;cases h0
theorem aO.any(js:List Nat)(hr:Region.ready .any ops S=js)(hne:js.isEmpty=false)(h:∀j∈js,CK P N ops qs Q S pend L j):aO P N ops qs Q S pend [] L:=
 aO.run (λi hi=>h i (hr ▸ hi)) λh0=>by rw[hr]at h0;subst h0;cases hne
theorem aO.split(t:Nat){b:Bool}(_:ax L t= .v (.bool b))(ht:b=true→aO P N ops qs Q S pend todo L)(hf:b=false→aO P N ops qs Q S pend todo L):aO P N ops qs Q S pend todo L:=by
 cases b
 ·exact hf rfl
 ·exact ht rfl
theorem aO.nil(hr:Region.ready .any ops S=[])(h:Q .normal L):aO P N ops qs Q S pend [] L:=
 aO.run (λi hi=>by rw[hr]at hi;cases hi) λ_=>h
theorem aO.bS{L':List E}(hw:ar N L L')(h:aO P N ops qs Q S pend todo L'):aO P N ops qs Q S pend todo L:=
 λhq cx a b w R fuel hu hv hs=>h hq cx a b w R fuel hu hv (hw cx b w hs)
theorem Sat.drawn(hs:Sat N cx L a w)(n:Nat):Sat N cx L a { w with drawn:=n }:=by
 have hC:dt (λ_ _=>False) w { w with drawn:=n }:=⟨rfl,rfl,rfl,Nat.le_refl _,λ_ cur _ _ h=>⟨cur,h,rfl,λ_ _=>rfl⟩,λ_ _ h _=>h⟩
 obtain⟨H,G,hr,hG⟩:=hs.rp;exact⟨hs.kR,hs.lc,hs.fV.trans (hC.mono λ_ _ _ h=>h.elim),H,G,hr.fV hC λ_ _ _ _ _ _ _ h=>h,hG⟩
theorem AW.draw(qs:List Nat){id:Nat}(hm:P.follows .mixedOrders=true)(hq:jr ops N qs=true)(h:aO P N ops qs Q (Array.replicate ops.size false) [] [] L):AW P N (.region id ops true) Q L:=λcx a w hs=>by
 refine wp_region_any hm (h hq cx a a _ _ _ ?_ ?_ (hs.drawn _))
 ·exact Nat.le_trans countP_le_length (by simp)
 ·refine⟨by simp,by simp,λi h=>?_,λi h=>?_,by simp,by simp,rfl,rfl,λ_ _=>rfl,by simp,λi j h=>?_⟩
  ·simp[Array.getD_eq_getD_getElem?,Array.getElem?_replicate]at h;split at h<;>simp_all
  ·simp[Array.getD_eq_getD_getElem?,Array.getElem?_replicate]at h;split at h<;>simp_all
  ·simp[Array.getD_eq_getD_getElem?,Array.getElem?_replicate]at h;split at h<;>simp_all
end
open Go Go.RowKit

def X.CM:X→Bool
 | .j=>true
 | _=>false
def B6(L:List E):List E→Prop
 | []=>True
 | .sl t x :: r=>ax L t=x∧B6 L r
 | .rt id m t :: r=>bZ L id=some (m,t)∧B6 L r
 | .al id c x :: r=>(fK L id c=x∧x.CM=false)∧B6 L r
def eV:List E→List Nat
 | []=>[]
 | .rt id _ _ :: r=>id :: eV r
 | _ :: r=>eV r
mutual
def X.kT(ids:List Nat):X→Bool
 | .p id .. =>ids.contains id
 | .h id _=>ids.contains id
 | .a id .. =>ids.contains id
 | .g xs=>X.oe ids xs
 | .t xs=>X.oe ids xs
 | .f _ xs=>X.oe ids xs
 | _=>true
def X.oe(ids:List Nat):List X→Bool
 | []=>true
 | x :: xs=>X.kT ids x&&X.oe ids xs
end
def gP(ids:List Nat):List E→Bool
 | []=>true
 | .sl _ x :: r=>x.kT ids&&gP ids r
 | .rt .. :: r=>gP ids r
 | .al id _ x :: r=>x.kT ids&&ids.contains id&&gP ids r

section
variable{P:Program}{N:Nat}{L L':List E}
theorem ei{id:Nat}:∀{L:List E},id∈eV L↔∃m t,aW L id m t
 | []=>by simp[eV,aW]
 | .rt i m t :: r=>by
  simp only[eV,mem_cons,ei (L:=r),aW];constructor
  ·rintro (h|⟨m',t',h⟩)
   ·subst h;exact⟨m,t,.inl rfl⟩
   ·exact⟨m',t',.inr h⟩
  ·rintro ⟨m',t',h|h⟩
   ·cases h;exact .inl rfl
   ·exact .inr ⟨m',t',h⟩
 | .sl .. :: r=>by simp[eV,ei (L:=r),aW]
 | .al .. :: r=>by simp[eV,ei (L:=r),aW]
mutual
theorem X.nV{ids:List Nat}:∀{x:X},x.kT ids=true→X.all (λx=>x.kT ids=true) x
 | .g _,e=>X.me e
 | .t _,e=>X.me e
 | .f _ _,e=>X.me e
 | .v _,e=>e
 | .j,e=>e
 | .c,e=>e
 | .p .., e=>e
 | .h .., e=>e
 | .a .., e=>e
theorem X.me{ids:List Nat}:∀{xs:List X},X.oe ids xs=true→X.pO (λx=>x.kT ids=true) xs
 | [],_=>trivial
 | x :: xs,e=>by
  simp only[X.oe,Bool.and_eq_true]at e;exact⟨X.nV e.1,X.me e.2⟩
end
theorem iZ{ids:List Nat}:∀{L:List E},gP ids L=true→(∀t x,E.sl t x∈L→x.kT ids=true)∧∀id c x,E.al id c x∈L→x.kT ids=true∧id∈ids
 | [],_=>⟨by simp,by simp⟩
 | .sl t x :: r,h=>by
  simp only[gP,Bool.and_eq_true]at h;obtain⟨a1,a2⟩:=iZ h.2;refine⟨λt' x' hh=>?_,λid c x hh=>?_⟩
  ·rcases List.mem_cons.1 hh with e|hh
   ·cases e;exact h.1
   ·exact a1 _ _ hh
  ·rcases List.mem_cons.1 hh with e|hh
   ·cases e
   ·exact a2 _ _ _ hh
 | .rt .. :: r,h=>by
  simp only[gP]at h;obtain⟨a1,a2⟩:=iZ h;refine⟨λt' x' hh=>?_,λid c x hh=>?_⟩
  ·rcases List.mem_cons.1 hh with e|hh
   ·cases e
   ·exact a1 _ _ hh
  ·rcases List.mem_cons.1 hh with e|hh
   ·cases e
   ·exact a2 _ _ _ hh
 | .al i c x :: r,h=>by
  simp only[gP,Bool.and_eq_true]at h;obtain⟨a1,a2⟩:=iZ h.2;refine⟨λt' x' hh=>?_,λid c x hh=>?_⟩
  ·rcases List.mem_cons.1 hh with e|hh
   ·cases e
   ·exact a1 _ _ hh
  ·rcases List.mem_cons.1 hh with e|hh
   ·cases e;exact⟨h.1.1,by simpa using h.1.2⟩
   ·exact a2 _ _ _ hh
end
open Go Go.RowKit
section
variable{P:Program}{N:Nat}{L:List E}{Q:Exit→List E→Prop}
theorem ct{fn:Func}{post:X→List E→Prop}{xs:List X}(hx:AS P L fn.results.toList xs)(hp:post (bi xs) L):zZ P fn post .ret L:=
 ⟨.inl rfl,xs,hx,hp⟩
end
open Go Go.RowKit
section
variable{P:Program}{N:Nat}{L:List E}{Q:Exit→List E→Prop}{ops:Array Oper}{S:Array Bool}{pend qs:List Nat}
theorem aB.BH{L':List E}(h:L=L')(k:Q .normal L'):aB P N ops [] Q L:=aB.nil (h ▸ k)
theorem aO.BH{L':List E}(hr:Region.ready .any ops S=[])(h:L=L')(k:Q .normal L'):aO P N ops qs Q S pend [] L:=aO.nil hr (h ▸ k)
end
open Go Go.RowKit

def X.yg:X→Bool
 | .p .. =>true
 | .h .. =>true
 | .a .. =>true
 | _=>false
def iR(ids:List Nat)(d:Nat):List (T×Option Nat)→List X→Nat→List E
  | s :: ss,x :: xs,c=>match s with
    | (.j,none)=>if x.yg&&x.kT ids then .al d c x :: iR ids d ss xs (c+1)else iR ids d ss xs (c+1)
    | _=>iR ids d ss xs (c+1)
  | _,_,_=>[]
theorem jz{ids:List Nat}{d:Nat}:∀{ss:List (T×Option Nat)} {xs:List X} {c:Nat} {e:E},e∈iR ids d ss xs c→∃k x,e= .al d (c+k) x∧xs[k]? =some x∧k<ss.length∧x.kT ids=true
 | [],_,_,e,h=>by simp[iR]at h
 | _ :: _,[],_,e,h=>by simp[iR]at h
 | s :: ss,x :: xs,c,e,h=>by
  have hrec:e∈iR ids d ss xs (c+1)→∃k y,e= .al d (c+k) y∧(x :: xs)[k]? =some y∧k<(s :: ss).length∧y.kT ids=true:=λh=>by
   obtain⟨k,y,h1,h2,h3,h4⟩:=jz h;exact⟨k+1,y,by rw[h1];congr 1;omega,h2,by simp;omega,h4⟩
  simp only[iR]at h;split at h
  ·split at h
   ·rename_i hc;rcases List.mem_cons.1 h with h|h
    ·refine⟨0,x,by rw[h];rfl,rfl,by simp,?_⟩;simp only[Bool.and_eq_true]at hc;exact hc.2
    ·exact hrec h
   ·exact hrec h
  ·exact hrec h

section
variable{L L' A:List E}{val:Nat→Value}{H:Nat→Value}{G:Nat→FP}{w w':World}{S:FP}{P:Program}{N:Nat}{cx:Cx}{a:Act}
theorem Rp.Ee(hr:Rp L val H G w)(h:∀e∈A,∃id c x,e= .al id c x∧∃n f,aW L id .box (.s n 1 f)∧c<n∧∃A v,gU (H id) 0 0 c=some A∧w.cell? A=some v∧VR (aW L) H w x v):Rp (A++L) val H G w:=by
 have hrt:aW (A++L)=aW L:=by
  funext id m t;simp only[aW,mem_append,eq_iff_iff];constructor
  ·rintro (hh|hh)
   ·obtain⟨_,_,_,he,_⟩:=h _ hh;cases he
   ·exact hh
  ·exact .inr
 refine⟨?_,?_,?_,?_,?_,?_,?_,?_⟩
 ·rw[hrt];exact hr.one
 ·rw[hrt];exact hr.own
 ·rw[hrt];exact hr.ro
 ·rw[hrt];exact hr.fR
 ·rw[hrt];exact hr.box
 ·rw[hrt];exact hr.jZ
 ·rw[hrt];intro t x hm;rcases List.mem_append.1 hm with hm|hm
  ·obtain⟨_,_,_,he,_⟩:=h _ hm;cases he
  ·exact hr.sl t x hm
 ·rw[hrt];intro id c x hm;rcases List.mem_append.1 hm with hm|hm
  ·obtain⟨_,_,_,he,k⟩:=h _ hm;cases he;exact k
  ·exact hr.al id c x hm
theorem w6(h:∀e∈A,∃id c x,e=E.al id c x):aW (A++L)=aW L:=by
 funext id m t;simp only[aW,mem_append,eq_iff_iff];constructor
 ·rintro (hh|hh)
  ·obtain⟨_,_,_,he⟩:=h _ hh;cases he
  ·exact hh
 ·exact .inr
end

section
variable{P:Program}{N:Nat}{L:List E}{dst:Option Tmp}{ty:TypeId}{pos:String}{af:Array Edge}{g:Option (Nat×Bool)}{d:Nat}
end
open Go Go.RowKit

mutual
def X.od(ρ:Nat→Nat):X→X
 | .p id q n k cc=> .p (ρ id) q n k cc
 | .h id q=> .h (ρ id) q
 | .a id q n lo len=> .a (ρ id) q n lo len
 | .g xs=> .g (X.eu ρ xs)
 | .t xs=> .t (X.eu ρ xs)
 | .f fn xs=> .f fn (X.eu ρ xs)
 | x=>x
def X.eu(ρ:Nat→Nat):List X→List X
 | []=>[]
 | x :: xs=>X.od ρ x :: X.eu ρ xs
end
def j6(X0:X)(L0:List (Nat×M×T))(x:X)(L:List E):Prop:=
 ∃ρ:Nat→Nat,x=X0.od ρ∧(L0.map λr=>ρ r.1).Nodup∧(∀r∈L0,r.2.1≠ .ro∧aW L (ρ r.1) r.2.1 r.2.2)
def fW(L:List E):List (Nat×M×T)→List E
  | []=>L
  | (i,m,t) :: rs=> .rt i m t :: cr (fW L rs) i

section
variable{L:List E}{val:Nat→Value}{H:Nat→Value}{G:Nat→FP}{w w':World}{P:Program}{N:Nat}{cx:Cx}{a:Act}
mutual
theorem VR.od{R R':RT}{H H':Nat→Value}{w:World}{ρ ν:Nat→Nat}{ids:List Nat}(hR:∀id∈ids,∀m t,R (ρ id) m t→R' (ν id) m t∧H' (ν id)=H (ρ id)):∀{x:X} {v:Value},x.kT ids=true→VR R H w (x.od ρ) v→VR R' H' w (x.od ν) v
 | .g xs,v,hx,⟨vs,h1,h2⟩=>⟨vs,h1,db.od hR hx h2⟩
 | .t xs,v,hx,⟨vs,h1,h2⟩=>⟨vs,h1,db.od hR hx h2⟩
 | .f fn xs,v,hx,⟨vs,h1,h2⟩=>⟨vs,h1,db.od hR hx h2⟩
 | .v x,v,_,h=>h
 | .j,v,_,_=>trivial
 | .c,v,_,h=>h
 | .p id q n k c,v,hx,⟨m,t,h1,h2⟩=>by
  obtain⟨g1,g2⟩:=hR id (by simpa [X.kT]using hx) _ _ h1;exact⟨m,t,g1,by rw[g2];exact h2⟩
 | .h id q,v,hx,⟨m,t,h1,h2⟩=>by
  obtain⟨g1,g2⟩:=hR id (by simpa [X.kT]using hx) _ _ h1;exact⟨m,t,g1,by rw[g2];exact h2⟩
 | .a id q n lo len,v,hx,⟨m,t,h1,h2⟩=>by
  obtain⟨g1,g2⟩:=hR id (by simpa [X.kT]using hx) _ _ h1;exact⟨m,t,g1,by rw[g2];exact h2⟩
theorem db.od{R R':RT}{H H':Nat→Value}{w:World}{ρ ν:Nat→Nat}{ids:List Nat}(hR:∀id∈ids,∀m t,R (ρ id) m t→R' (ν id) m t∧H' (ν id)=H (ρ id)):∀{xs:List X} {vs:List Value},X.oe ids xs=true→db R H w (X.eu ρ xs) vs→db R' H' w (X.eu ν xs) vs
 | [],[],_,_=>trivial
 | x :: xs,v :: vs,hx,⟨g1,g2⟩=>by
  simp only[X.oe,Bool.and_eq_true]at hx;exact⟨VR.od hR hx.1 g1,db.od hR hx.2 g2⟩
 | [],_ :: _,_,h=>h.elim
 | _ :: _,[],_,h=>h.elim
end
theorem e_{m:M}{t:T}{id:Nat}:∀{rs:List (Nat×M×T)},(rs.map (·.1)).Nodup→(aW (fW L rs) id m t↔(id,m,t)∈rs∨(aW L id m t∧id ∉ rs.map (·.1)))
  | [],_=>by simp[fW]
  | (i,m',t') :: rs,hn=>by
    simp only[map_cons,nodup_cons]at hn;have ih:=e_ (m:=m) (t:=t) (id:=id) hn.2;have hd:=bw (L:=fW L rs) (d:=i) (id:=id) (m:=m) (t:=t);have hc:aW (fW L ((i,m',t') :: rs)) id m t↔(id,m,t)=(i,m',t')∨aW (cr (fW L rs) i) id m t:=by
      simp only[fW,aW,mem_cons];constructor
      · rintro (h|h)
        · cases h;exact .inl rfl
        · exact .inr h
      · rintro (h|h)
        · cases h;exact .inl rfl
        · exact .inr h
    rw[hc,hd,ih,mem_cons,map_cons,mem_cons];constructor
    · rintro (h|⟨h1|⟨h1,h2⟩,h3⟩)
      · exact .inl (.inl h)
      · exact .inl (.inr h1)
      · exact .inr ⟨h1,λh=>h.elim h3 h2⟩
    · rintro ((h|h)|⟨h1,h2⟩)
      · exact .inl h
      · refine .inr ⟨.inl h,λe=>hn.1 ?_⟩;subst e;exact List.mem_map.2 ⟨_,h,rfl⟩
      · exact .inr ⟨.inr ⟨h1,λh=>h2 (.inr h)⟩,λe=>h2 (.inl e)⟩
theorem Rp.news(hr:Rp L val H G w)(F:Nat→FP)(h:Nat→Value):∀(rs:List (Nat×M×T)),(rs.map (·.1)).Nodup→(∀r∈rs,∀b o,F r.1 b o→∀id m t,aW L id m t→G id b o→False)→(∀r∈rs,r.2.1≠ .ro∧du w r.2.2 (F r.1) (h r.1)∧(r.2.1= .box→∃n f,r.2.2= .s n 1 f))→
    (∀r∈rs,∀r'∈rs,r.1≠r'.1→∀b o,F r.1 b o→F r'.1 b o→False)→Rp (fW L rs) val (λi=>if i∈rs.map (·.1)then h i else H i) (λi=>if i∈rs.map (·.1)then F i else G i) w
  | [],_,_,_,_=>by simpa [fW]using hr
  | (i,m,t) :: rs,hn,hF0,hO,hD=>by
    have hn':=hn;simp only[map_cons,nodup_cons]at hn;have ih:=Rp.news hr F h rs hn.2 (λr h=>hF0 r (mem_cons_of_mem _ h)) (λr h=>hO r (mem_cons_of_mem _ h)) (λr h r' h'=>hD r (mem_cons_of_mem _ h) r' (mem_cons_of_mem _ h'));obtain⟨h1,h2,h3⟩:=hO _ (mem_cons_self ..);have:=ih.new i h1 h2 h3 (λid m' t' hne hid b o hG hF=>by
      rcases(e_ hn.2).1 hid with hh|⟨hh,hni⟩
      · have hmem:id∈rs.map (·.1):=List.mem_map.2 ⟨_,hh,rfl⟩;simp only[hmem,if_true]at hG;exact hD _ (mem_cons_of_mem _ hh) _ (mem_cons_self ..) hne b o hG hF
      · simp only[hni,if_false]at hG;exact hF0 _ (mem_cons_self ..) b o hF _ _ _ hh hG)
    have e1:bm (λj=>if j∈rs.map (·.1)then h j else H j) i (h i)= λj=>if j∈((i,m,t) :: rs).map (·.1)then h j else H j:=by
      funext j
      by_cases e:j=i
      · subst e;simp[bm]
      · simp only[bm,map_cons,mem_cons,e,false_or,if_false]
    have e2:bm (λj=>if j∈rs.map (·.1)then F j else G j) i (F i)= λj=>if j∈((i,m,t) :: rs).map (·.1)then F j else G j:=by
      funext j
      by_cases e:j=i
      · subst e;simp[bm]
      · simp only[bm,map_cons,mem_cons,e,false_or,if_false]
    rw[e1,e2]at this;exact this
end
theorem gm{α β:Type}{f:α→β}:∀{l:List α},(l.map f).Nodup→∀{x y:α},x∈l→y∈l→f x=f y→x=y
 | [],_,_,_,hx,_,_=>by cases hx
 | z :: l,hn,x,y,hx,hy,e=>by
  simp only[map_cons,nodup_cons]at hn;rcases List.mem_cons.1 hx with h1|h1<;>rcases List.mem_cons.1 hy with h2|h2
  ·rw[h1,h2]
  ·exact absurd (List.mem_map.2 ⟨_,h2,by rw[←e,h1]⟩) hn.1
  ·exact absurd (List.mem_map.2 ⟨_,h1,by rw[e,h2]⟩) hn.1
  ·exact gm hn.2 h1 h2 e
def nu(d i:Nat):Nat:=d+1000*i
section
variable{P:Program}{N:Nat}{L:List E}{dst:Option Tmp}{ty:TypeId}{pos:String}{af:Array Edge}{g:Option (Nat×Bool)}{d:Nat}
def eu(d:Nat)(L0:List (Nat×M×T)):List (Nat×M×T):=L0.map λr=>(nu d r.1,r.2)
theorem mR{f:FuncId}{cal:Operand}{args:Array Operand}{tys:Array TypeId}{a:Act}{w:World}{us:List Value}(hE:lL P f)(hc:a.eval cal= .func (.func f) #[] us.toArray):(execOp a.eval ⟨dst,.call { callee:= .value cal,args:=args,argTypes:=tys },ty,pos,af,g⟩).run P w= .ok (.enter f (args.toList.map a.eval++us).toArray) w:=by
 have:(args.toList.map a.eval++us).toArray=args.map a.eval++us.toArray:=by rw[←Array.toList_map];simp
 simp[execOp,resolve,hc,Deferred.ofValue,invoke,hE _ w,this]
theorem db.app{R:RT}{H:Nat→Value}{w:World}{xs ys:List X}{vs us:List Value}(h1:db R H w xs vs)(h2:db R H w ys us):db R H w (xs++ys) (vs++us):=db.append h1 h2
theorem aE.bP{f:FuncId}{cal:Operand}{caps:List X}{args:Array Operand}{tys:Array TypeId}{xs:List X}{ρ:List E}{m:Nat}{X0:X}{L0:List (Nat×M×T)}(hd:dst=some d)(hN:d<N)(hE:lL P f)(hcal:cp L cal= .f f caps)(hq:oU L (args.toList.map (cp L)++caps) aa=(xs,ρ,m))(hc:a_ P f xs ρ (j6 X0 L0))
  (hn:(L0.map (·.1)).Nodup) (hb:(L0.all λr=>nu d r.1<aa)=true) (hx0:X0.kT (L0.map (·.1))=true):aE P N ⟨dst,.call { callee:= .value cal,args:=args,argTypes:=tys },ty,pos,af,g⟩ L (cn (fW L (eu d L0)) d (X0.od (nu d))):=λcx a w Q hs=>by
 obtain⟨H,G,hr,hG⟩:=hs.rp;have hcv:=dw hr cal;rw[hcal]at hcv;obtain⟨us,hu1,hu2⟩:=hcv;unfold Oper.wp;rw[mR hE hu1];have hro:=nZ hr (args.toList.map (cp L)++caps) aa (db.app (nY hr args.toList) hu2);rw[hq]at hro;obtain⟨_,h2,H',G',h3,h4,h5⟩:=hro;have hm:∀id m t,aW ρ id m t→m= .ro:=λid m t h=>by obtain⟨_,_,he,_⟩:=h2 _ h;cases he;rfl
 have hrp:Rp ρ (λ_=>undef) H' G' w:=by
  refine⟨λid m t m' t' k1 k2=>?_,λid m t k1 k2=>absurd (hm _ _ _ k1) k2,λid t k=>(h3 id t k).1,λid t k=>(h3 id t k).2,λid t k=>?_,λid m t _ _ _ k1 _ _ k2=>absurd (hm _ _ _ k1) k2,λt x k=>?_,λid c x k=>?_⟩
  ·obtain rfl:=hm _ _ _ k1;obtain rfl:=hm _ _ _ k2;exact⟨rfl,h4 _ _ _ k1 k2⟩
  ·have:=hm _ _ _ k;cases this
  ·obtain⟨_,_,he,_⟩:=h2 _ k;cases he
  ·obtain⟨_,_,he,_⟩:=h2 _ k;cases he
 simp only[Oper.upon];refine(hc w _ H' G' (cx.now hs.fV) (λid m t h1 h2=>absurd (hm _ _ _ h1) h2) hrp h5).mono ?_
 rintro e w' ⟨v,x,L2,H2,G2,val2,rfl,⟨ρ',rfl,r1,r2⟩,k1,k2,k3,k4,k5⟩
 refine⟨⟨_,rfl⟩,?_⟩;have hC:dt (λ_ _=>False) w w':=k3.mono λb o _ hx=>by obtain⟨id,m,t,q1,q2,_⟩:=hx;exact q2 (hm _ _ _ q1)
 have hr':=hr.fV hC λ_ _ _ _ _ _ _ h=>h;have hinv:∀i,(nu d i-d) / 1000=i:=λi=>by simp only[nu];omega
 have hold:∀id m t,aW L id m t→∀x y,G id x y→x<w.heap.size:=λid m t h x y hg=>by
  by_cases hm:m= .ro
  ·subst hm;exact hr.fR id t h x y hg
  ·exact(hr.own id m t h hm).n9 x y hg
 have hfresh:∀r∈L0,∀b o,G2 (ρ' r.1) b o→w.heap.size≤b:=λr hr b o hg=>by
  obtain⟨g1,g2⟩:=r2 r hr;rcases k4 _ _ _ g2 g1 b o hg with⟨id,m,t,q1,q2,_⟩|h
  ·exact absurd (hm _ _ _ q1) q2
  ·exact h
 have hmem:∀r∈eu d L0,∃r0∈L0,r=(nu d r0.1,r0.2):=λr hr=>by
  obtain⟨r0,h,e⟩:=List.mem_map.1 hr;exact⟨r0,h,e.symm⟩
 have hnd:((eu d L0).map (·.1)).Nodup:=by
  have e:(eu d L0).map (·.1)=(L0.map (·.1)).map (nu d):=by simp[eu]
  rw[e];exact List.pairwise_map.2 (hn.imp λ{x y} h e=>h (by simp only[nu]at e;omega))
 have hnews:=hr'.news (λi=>G2 (ρ' ((i-d) / 1000))) (λi=>H2 (ρ' ((i-d) / 1000))) (eu d L0) hnd (λr hr b o hF id m t hid hG=>by
   obtain⟨r0,h0,rfl⟩:=hmem r hr;simp only[hinv]at hF;have:=hfresh r0 h0 b o hF;have:=hold id m t hid b o hG;omega) (λr hr=>by
   obtain⟨r0,h0,rfl⟩:=hmem r hr;obtain⟨g1,g2⟩:=r2 r0 h0;simp only[hinv];exact⟨g1,k1.own _ _ _ g2 g1,λe=>by rw[e]at g2;exact k1.box _ _ g2⟩) (λr hr r' hr' hne b o hF hF'=>by
   obtain⟨r0,h0,rfl⟩:=hmem r hr;obtain⟨r0',h0',rfl⟩:=hmem r' hr';simp only[hinv]at hF hF';have hne':ρ' r0.1≠ρ' r0'.1:=λe=>hne (by rw[gm r1 h0 h0' e]);exact k1.jZ _ _ _ _ _ _ (r2 r0 h0).2 (r2 r0' h0').2 hne' (r2 r0 h0).1 b o hF hF')
 have hv:VR (aW (fW L (eu d L0))) (λi=>if i∈(eu d L0).map (·.1)then H2 (ρ' ((i-d) / 1000))else H i) w' (X0.od (nu d)) v:=by
  refine VR.od (ids:=L0.map (·.1)) (λid hid m t hh=>?_) hx0 k2;obtain⟨r0,h0,rfl⟩:=List.mem_map.1 hid;obtain⟨g1,g2⟩:=r2 r0 h0;obtain⟨rfl,rfl⟩:=k1.one _ _ _ _ _ hh g2;have hin:nu d r0.1∈(eu d L0).map (·.1):=List.mem_map.2 ⟨_,List.mem_map.2 ⟨r0,h0,rfl⟩,rfl⟩;refine⟨(e_ hnd).2 (.inl (List.mem_map.2 ⟨r0,h0,rfl⟩)),?_⟩;simp only[hin,if_true,hinv]
 have hgood:Good cx (fW L (eu d L0)) (λi=>if i∈(eu d L0).map (·.1)then H2 (ρ' ((i-d) / 1000))else H i) (λi=>if i∈(eu d L0).map (·.1)then G2 (ρ' ((i-d) / 1000))else G i):=by
  refine⟨λid m t hid hne x y hF=>?_,λid m t hbs hid=>?_⟩
  ·rcases(e_ hnd).1 hid with hh|⟨hh,hni⟩
   ·obtain⟨⟨i0,m0,t0⟩,h0,e⟩:=hmem _ hh;cases e;have hin:nu d i0∈(eu d L0).map (·.1):=List.mem_map.2 ⟨_,hh,rfl⟩;simp only[hin,if_true,hinv]at hF;have:=hfresh _ h0 x y hF;have:=hs.fV.size;exact .inr (by omega)
   ·simp only[hni,if_false]at hF;exact hG.1 id m t hh hne x y hF
  ·rcases(e_ hnd).1 hid with hh|⟨hh,hni⟩
   ·obtain⟨⟨i0,m0,t0⟩,h0,e⟩:=hmem _ hh;cases e;have:=List.all_eq_true.1 hb _ h0
    replace this:nu d i0<aa:=by simpa using this
    have h6:aa≤nu d i0:=hbs;omega
   ·simp only[hni,if_false];exact hG.2 id m t hbs hh
 refine⟨by rw[hd];simpa [Go.Act.put]using hs.kR,by rw[hd];simpa [Go.Act.put]using hs.lc,hs.fV.trans (hC.mono λ_ _ _ h=>h.elim),_,_,?_,by rw[cq];exact hgood⟩;rw[hd];exact(hnews.put hv).val λt=>(Act.jc (Nat.lt_of_lt_of_le hN hs.kR) t).symm
theorem aE.aC{f:FuncId}{cal:Operand}{caps:List X}{args:Array Operand}{tys:Array TypeId}{xs:List X}{ρ:List E}{m:Nat}{r:Value}(hd:dst=some d)(hN:d<N)(hE:lL P f)(hcal:cp L cal= .f f caps)(hq:oU L (args.toList.map (cp L)++caps) aa=(xs,ρ,m))(hc:a_ P f xs ρ λx _=>x= .v r):
  aE P N ⟨dst,.call { callee:= .value cal,args:=args,argTypes:=tys },ty,pos,af,g⟩ L (cn L d (.v r)):=
 aE.bP (X0:= .v r) (L0:=[]) hd hN hE hcal hq (hc.mono λx L h=>⟨id,by rw[h];rfl,by simp,by simp⟩) (by simp) rfl rfl
end
open Go Go.RowKit
section
variable{P:Program}{N:Nat}{L:List E}{dst:Option Tmp}{ty:TypeId}{pos:String}{af:Array Edge}{g:Option (Nat×Bool)}{d:Nat}
theorem aE.makeSlice{t e:TypeId}{zt:List T}[hS:j7 P t e][hT:dQ P e zt]{x y:Operand}{kl kc:IntKind}{l c:Int}(hd:dst=some d)(hN:d<N)(hb:d<aa)(hx:cp L x= .v (.int kl l))(hy:cp L y= .v (.int kc c))(h0:0≤l)(hlc:l≤c)(hc:c≤4194304):
  aE P N ⟨dst,.makeSlice t x y,ty,pos,af,g⟩ L (cn (.rt d .row (.s zt.length l.toNat λ_ j=>zt.getD j .j) :: cr L d) d (.h d [])):=
 aE.op (λcx a w hs=>by
  obtain⟨H,G,hr,hG⟩:=hs.rp;obtain⟨i,z,i1,i2,i3,i4,i5,i6⟩:=hT.info;have hx':=dw hr x;have hy':=dw hr y;rw[hx]at hx';rw[hy]at hy';simp only[VR]at hx' hy';have hrun:=run_make (P:=P) w t e i z hS.sl i1 i4 kl kc l c h0 hlc (by
   have:(i.bytes:Int)≤1024:=by omega
   have h2:(i.bytes:Int)*c≤1024*4194304:=Int.mul_le_mul this hc (by omega) (by omega);omega) (by omega)
  have hpos:=hT.pos;have hmc:madeCells z.cells (c.toNat*i.size)=mA (c.toNat*zt.length) z.cells:=by rw[i2];rfl
  rw[hmc]at hrun;refine⟨.slice (some ⟨w.heap.size,0,none⟩) l.toNat c.toNat,w.alloc (.cells (mA (c.toNat*zt.length) z.cells) e),jh (by simp only[hx',hy'];exact hrun),?_⟩;rw[hd];have hO:=du.alloc (w:=w) (n:=zt.length) (len:=l.toNat) (cap:=c.toNat) (f:=λ_ j=>zt.getD j .j) hpos (by omega) (by simp only[maxLen];omega) (cs:=mA (c.toNat*zt.length) z.cells) (e:=e) (by simp[mA]) (λ_ _=>λ_ _=>False) (λk j hk hj=>by
   have hi:k*zt.length+j<c.toNat*zt.length:=gi (by omega) hk hj;rw[vb hi (by omega),i5,show(k*zt.length+j)%zt.length=j by rw[Nat.mul_comm,mul_add_mod,mod_eq_of_lt hj]];have hz:zt[j]? =some (zt.getD j .j):=by simp[hj]
   obtain⟨cv,h1,h2⟩:=i6 j _ hz;exact⟨cv,h1,h2.own⟩) (λ_ _ _ _ _ _ _ _ _ _ _ h=>h.elim)
  exact hs.new hr hG (dt.alloc _ _ _) hN hb (by simp) hO (λh=>by cases h) (λid m t _ hid b o hg hf=>by
   rcases hf with⟨_,hx⟩|⟨_,_,_,_,h⟩
   ·replace hx:b=_:=hx
    have:b<w.heap.size:=by
     by_cases hm:m= .ro
     ·subst hm;exact hr.fR id t hid b o hg
     ·exact(hr.own id m t hid hm).n9 b o hg
    omega
   ·exact h) (λb o hf=>by
   rcases hf with⟨_,hx⟩|⟨_,_,_,_,h⟩
   ·replace hx:b=_:=hx
    have:=hs.fV.size;exact .inr (by omega)
   ·exact h.elim) ⟨.row,_,mem_cons_self .., by simp[bT],⟨_,_,_,by simp only[T.at];rfl⟩,by simp only[VM.hd,bm,if_true]⟩)
end
open Go Go.RowKit

abbrev iv(n:Int):Value:= .int .i64 n
abbrev bv(b:UInt8):Value:= .int .u8 b.toNat
class En (α:Type) where
 n:Nat
 Ef:0<n
 cs:α→List T
 len:∀a,(cs a).length=n
 fit:α→Prop
 ab:α
def tr{α:Type}[En α](l:List α):T:= .s (En.n α) l.length λk c=>(En.cs (l.getD k En.ab)).getD c .j
instance:En Int:=⟨1,by omega,λa=>[.v (iv a)],λ_=>rfl,λn=> -9223372036854775808≤n∧n≤9223372036854775807,0⟩
instance:En Bool:=⟨1,by omega,λa=>[.v (.bool a)],λ_=>rfl,λ_=>True,false⟩
instance:En UInt8:=⟨1,by omega,λa=>[.v (bv a)],λ_=>rfl,λ_=>True,0⟩
instance:En ByteArray:=⟨1,by omega,λa=>[.v (.string a)],λ_=>rfl,λs=>s.size≤maxLen,ByteArray.empty⟩
instance Cf {α:Type} [En α]:En (List α):=⟨1,by omega,λa=>[tr a],λ_=>rfl,λl=>l.length≤maxLen∧∀x∈l,En.fit x,[]⟩

def F0(w:World):FP:=λb _=>b<w.heap.size
def fp(w:World)(ts:List T)(vs:List Value):Prop:=ts.length=vs.length∧∀(i:Nat) t v,ts[i]? =some t→vs[i]? =some v→Rd w t (F0 w) v
section
variable{P:Program}
def xL(P:Program)(t:TypeId)(α:Type)[En α]:Prop:=
 ∀{H:Type} {enc:TypeId×Value→H} {w:World} {aa:Nat} {spare:Nat→Bool} {held:Bool} {fuel:Nat} {cs:List Value} {x:DataW H×List MemPlace},
  DataW.trod enc P w aa spare held fuel t cs=some x→∃a:α,fp w (En.cs a) cs∧En.fit a
theorem B3{n:Int}(h:(Lit.int .i64 n).wf=true): -9223372036854775808≤n∧n≤9223372036854775807:=by
 simpa [Lit.wf,IntKind.min,IntKind.max,IntKind.bits,IntKind.signed]using h
theorem fp.one{w:World}{x:Value}(h:x.oneCell'=true):fp w [.v x] [x]:=⟨rfl,λi t v h1 h2=>by
 match i,h1,h2 with
 | 0,h1,h2=>cases h1;cases h2;exact⟨rfl,h⟩
 | i+1,h1,_=>simp at h1⟩
theorem Bo{t:TypeId}(ht:P.underlying t=some (.int .i64)):xL P t Int:=λh=>by
 obtain⟨n,rfl,_,hw⟩:=DataW.trod_int ht h;exact⟨n,fp.one rfl,B3 hw⟩
theorem w5{α:Type}(p:Nat→α→Prop)(d:α):∀(n:Nat),(∀i,i<n→∃a,p i a)→∃l:List α,l.length=n∧∀i,i<n→p i (l.getD i d)
 | 0,_=>⟨[],rfl,λi h=>absurd h (not_lt_zero i)⟩
 | n+1,h=>by
  obtain⟨l,h1,h2⟩:=w5 p d n λi hi=>h i (by omega);obtain⟨a,ha⟩:=h n (by omega);refine⟨l++[a],by simp[h1],λi hi=>?_⟩;rcases Nat.lt_or_ge i n with hlt|hge
  ·have:=h2 i hlt
   rwa [getD_eq_getElem?_getD,getElem?_append_left (by omega),←getD_eq_getElem?_getD]
  ·have:i=n:=by omega
   subst this
   rwa [getD_eq_getElem?_getD,getElem?_append_right (by omega),h1,Nat.sub_self]
theorem cP{α:Type}[En α]{t e:TypeId}(ht:P.underlying t=some (.slice e))(hc:P.cellsOf e=En.n α)(he:xL P e α):xL P t (List α):=λ{H enc w aa spare held fuel cs x} h=>by
 have hn:=En.Ef (α:=α);have wrapC:∀{l:List α} {v:Value},Rd w (tr l) (F0 w) v→fp w (En.cs l) [v]:=λh=>⟨rfl,λi t v h1 h2=>by
  match i,h1,h2 with
  | 0,h1,h2=>cases h1;cases h2;exact h
  | i+1,h1,_=>simp[En.cs]at h1⟩
 rcases Go.Deep.open_slice ht h with⟨rfl,_⟩|⟨a,len,cap,m,n,D,Pl,rfl,_,hl,hm,hmm,_,hx⟩
 ·exact⟨[],wrapC ⟨hn,none,0,rfl,Nat.le_refl _,zero_le _,0,0,λ_ _=>undef,λ_ _ _ _=>False,λh=>absurd h (by simp),λk c hk=>absurd hk (not_lt_zero k)⟩,zero_le _,by intro x hx;cases hx⟩
 have hlm:len≤m:=by rw[hmm];split<;>omega
 obtain⟨l,hl1,hl2⟩:=w5 (λi (p:α×List Value)=>fp w (En.cs p.1) p.2∧En.fit p.1∧∀j,j<En.n α→w.cell? (a.add (i*En.n α+j))=p.2[j]?) (En.ab,[]) len (λi hi=>by
  obtain⟨cs',h1,h2⟩:=hx i (by omega);obtain⟨_,e1,e2⟩:=World.cells?_some h1;obtain⟨y,e3,e4⟩:=he h2;exact⟨(y,cs'),e3,e4,λj hj=>by
   have:=e2 j (by rw[hc];exact hj);rw[Go.Deep.add_add,hc]at this;exact this⟩)
 have hsp:0<len→a.spot=none:=λh0=>by
  obtain⟨h1,_,h2⟩:=hl2 0 h0;have h3:=h2 0 hn;have hlen:0<(l.getD 0 (En.ab,[])).2.length:=by rw[←h1.1,En.len];exact hn
  rw[getElem?_eq_getElem hlen]at h3;simp only[Nat.zero_mul,Nat.zero_add,Addr.add,if_true]at h3;cases hs:a.spot with
  | none=>rfl
  | some k=>
   simp only[World.cell?,hs]at h3;split at h3<;>simp at h3
 refine⟨l.map (·.1),wrapC ?_,by simp[hl1];omega,λx hx'=>?_⟩
 ·refine⟨hn,some a,cap,by simp[hl1],by simp[hl1];omega,hm,a.block,a.off,λk c=>(l.getD k (En.ab,[])).2.getD c undef,λ_ _=>F0 w,λh0=>?_,λk c hk hc'=>?_⟩
  ·have h0':0<len:=by simpa [hl1]using h0
   have:=hsp h0';obtain⟨b,off,sp⟩:=a;simp only at this;rw[this]
  ·have hk':k<len:=by simpa [hl1]using hk
   obtain⟨h1,_,h2⟩:=hl2 k hk';have hlen:c<(l.getD k (En.ab,[])).2.length:=by rw[←h1.1,En.len];exact hc'
   have h3:=h2 c hc';rw[getElem?_eq_getElem hlen]at h3;have hcell:w.cell? ⟨a.block,a.off+(k*En.n α+c),none⟩=some ((l.getD k (En.ab,[])).2.getD c undef):=by
    have hs:=hsp (by omega);obtain⟨b,off,sp⟩:=a;simp only at hs;subst hs;rw[Addr.add_lit]at h3;rw[h3,getD_eq_getElem?_getD (i:=c),getElem?_eq_getElem hlen];rfl
   have hlt:=r_ hcell;refine⟨hcell,?_,hlt,λ_ _ h=>h⟩;have hkl:k<l.length:=by omega
   have e1:((l.map (·.1)).getD k En.ab)=(l.getD k (En.ab,[])).1:=by simp[hkl]
   show Rd w ((En.cs ((l.map (·.1)).getD k En.ab)).getD c .j) (F0 w) ((l.getD k (En.ab,[])).2.getD c undef);rw[e1];have hcl:c<(En.cs (l.getD k (En.ab,[])).1).length:=by rw[En.len];exact hc'
   refine h1.2 c _ _ ?_ ?_
   ·rw[getD_eq_getElem?_getD (l:=En.cs _),getElem?_eq_getElem hcl];rfl
   ·rw[getD_eq_getElem?_getD (i:=c),getElem?_eq_getElem hlen];rfl
 ·obtain⟨p,hp,rfl⟩:=List.mem_map.1 hx';obtain⟨i,hi,rfl⟩:=List.mem_iff_getElem.1 hp;have:=(hl2 i (by omega)).2.1;simpa [hi]using this
end
open Go Go.RowKit

def mb:List T→Nat→List X×List E×Nat
 | [],n=>([],[],n)
 | t :: ts,n=>match t with
  | .v x=>let (ys,r,m):=mb ts n;(.v x :: ys,r,m)
  | .j=>let (ys,r,m):=mb ts n;(.c :: ys,r,m)
  | .s w l f=>let (ys,r,m):=mb ts (n+1);(.h n [] :: ys,.rt n .ro (.s w l f) :: r,m)
def vh:List (Bool×List T)→Nat→List X×List E×Nat
  | [],n=>([],[],n)
  | (b,ts) :: as,n=>let (ys,r,m):=mb ts n;let (zs,r',m'):=vh as m;((if b then .g ys else ys.headD .j) :: zs,r++r',m')
def wA(w:World):List (Bool×List T)→List Value→Prop
  | [],[]=>True
  | (b,ts) :: as,v :: vs=>(∃cs,fp w ts cs∧if b then v= .agg cs.toArray else ts.length=1∧cs=[v])∧wA w as vs
  | _,_=>False

section
variable{w:World}{P:Program}
theorem fp.tail{t:T}{ts:List T}{v:Value}{vs:List Value}(h:fp w (t :: ts) (v :: vs)):Rd w t (F0 w) v∧fp w ts vs:=
 ⟨h.2 0 t v rfl rfl,by simpa using h.1,λi t' v' h1 h2=>h.2 (i+1) t' v' h1 h2⟩
theorem ml:∀(ts:List T) (n:Nat) {vs:List Value},fp w ts vs→fB w (mb ts n).2.1 n (mb ts n).2.2 λR H=>db R H w (mb ts n).1 vs
 | [],n,[],_=>fB.nil λ_=>trivial
 | [],_,_ :: _,h=>by simp[fp]at h
 | _ :: _,_,[],h=>by simp[fp]at h
 | t :: ts,n,v :: vs,h=>by
  obtain⟨h1,h2⟩:=h.tail;cases t with
  | v x=>
   obtain⟨a,b,H,G,c,d,e⟩:=ml ts n h2;exact⟨a,b,H,G,c,d,h1.1,e⟩
  | j=>
   obtain⟨a,b,H,G,c,d,e⟩:=ml ts n h2;exact⟨a,b,H,G,c,d,h1,e⟩
  | s k l f=>
   have hone:fB w [.rt n .ro (.s k l f)] n (n+1) λR H=>VR R H w (.h n []) v:=fB.one h1 (λx y h=>h) (VR.root (H:=λ_=>v) (m:= .ro) (by simp[aW];exact⟨rfl,rfl,rfl⟩));exact hone.append (ml ts (n+1) h2) λR H R' H' R2 H2 k1 k2 k3 k4=>⟨k1.same k3,k2.same k4⟩
theorem sJ:∀(as:List (Bool×List T)) (n:Nat) {vs:List Value},wA w as vs→fB w (vh as n).2.1 n (vh as n).2.2 λR H=>db R H w (vh as n).1 vs
  | [],n,[],_=>fB.nil λ_=>trivial
  | [],_,_ :: _,h=>h.elim
  | _ :: _,_,[],h=>h.elim
  | (b,ts) :: as,n,v :: vs,⟨⟨cs,h1,h2⟩,h3⟩=>by
    refine(ml ts n h1).append (sJ as _ h3) λR H R' H' R2 H2 k1 k2 k3 k4=>⟨?_,k2.same k4⟩
    have k5:db R2 H2 w (mb ts n).1 cs:=k1.same k3;cases b with
    | true=>
      simp only[if_true]at h2 ⊢;exact⟨cs,h2,k5⟩
    | false=>
      simp only[Bool.false_eq_true,if_false]at h2 ⊢;obtain⟨h4,rfl⟩:=h2
      match hx:(mb ts n).1,k5 with
      | [x],k5=>exact k5.1
      | [],k5=>exact k5.elim
      | x :: y :: r,k5=>exact(k5.2).elim

theorem dt.below{w w':World}(h:dt (λ_ _=>False) w w'):Below w.heap.size w w':=by
 refine⟨h.os,h.tape,h.output,h.size,λk hk=>?_⟩;have hb:w.heap[k]? =some w.heap[k]:=Array.getElem?_eq_getElem hk;cases ho:w.heap[k]with
 | cells cur e fr=>
  rw[ho]at hb;obtain⟨c',h1,h2,h3⟩:=h.cells k cur e fr hb;have:c'=cur:=Array.ext_getElem? λi=>h3 i (by simp);rw[h1,hb,this]
 | _=>
  rw[ho]at hb;rw[hb];exact h.other k _ hb (by intro _ _ _ hh;cases hh)
theorem wx{f:FuncId}{bs:List (Bool×List T)}{vs:List Value}{xs:List X}{ρ:List E}{m:Nat}(hc:a_ P f xs ρ λx _=>x= .v (.bool true))(hq:vh bs aa=(xs,ρ,m))(ha:wA w bs vs)(ht:gA P w:=by exact xX (by kernel_rfl) _):
  Calls P f vs.toArray w λe w'=>e= .returned (.bool true)∧Below w.heap.size w w':=by
 have hro:=sJ bs aa ha;rw[hq]at hro;obtain⟨_,h2,H',G',h3,h4,h5⟩:=hro;have hm:∀id m t,aW ρ id m t→m= .ro:=λid m t h=>by obtain⟨_,_,he,_⟩:=h2 _ h;cases he;rfl
 have hrp:Rp ρ (λ_=>undef) H' G' w:=by
  refine⟨λid m t m' t' k1 k2=>?_,λid m t k1 k2=>absurd (hm _ _ _ k1) k2,λid t k=>(h3 id t k).1,λid t k=>(h3 id t k).2,λid t k=>?_,λid m t _ _ _ k1 _ _ k2=>absurd (hm _ _ _ k1) k2,λt x k=>?_,λid c x k=>?_⟩
  ·obtain rfl:=hm _ _ _ k1;obtain rfl:=hm _ _ _ k2;exact⟨rfl,h4 _ _ _ k1 k2⟩
  ·have:=hm _ _ _ k;cases this
  ·obtain⟨_,_,he,_⟩:=h2 _ k;cases he
  ·obtain⟨_,_,he,_⟩:=h2 _ k;cases he
 refine(hc w _ H' G' ht (λid m t h1 h2=>absurd (hm _ _ _ h1) h2) hrp h5).mono ?_
 rintro e w' ⟨v,x,L2,H2,G2,val2,rfl,rfl,k1,k2,k3,k4,k5⟩
 simp only[VR]at k2;subst k2;exact⟨rfl,(k3.mono λb o _ hx=>by obtain⟨id,m,t,q1,q2,_⟩:=hx;exact q2 (hm _ _ _ q1):dt (λ_ _=>False) w w').below⟩
end

section
variable{H:Type}{enc:TypeId×Value→H}{P:Program}
theorem lN(hl:laidOutB P=true){W W':World}(hb:Below W.heap.size W W'):∀{ts:List TypeId} {vs:List Value} {ds:List (DataW H)} {ps:List MemPlace},
  (∀t∈ts,P.readableRec t=true∧t<P.types.size)→DataW.TrodAll enc P W 0 (λ_=>true) true ts vs ds ps→(∀x∈ps,x.block<W.heap.size)→
  DataW.TrodAll enc P W' 0 (λb=>decide (b<W.heap.size)) true ts vs ds ps
 | [],[],[],_,_,h,_=>h
 | t :: ts,v :: vs,d :: ds,ps,hr,⟨p,q,h1,h2,h3⟩,hlt=>
  ⟨p,q,Below.trod hl (hr t (by simp)).1 (hr t (by simp)).2 h1 hb (λx hx=>hlt x (by rw[h3];exact List.mem_append.2 (.inl hx))),
   lN hl hb (λt ht=>hr t (by simp[ht])) h2 (λx hx=>hlt x (by rw[h3];exact List.mem_append.2 (.inr hx))),h3⟩
 | [],[],_ :: _,_,_,h,_=>h.elim
 | [],_ :: _,_,_,_,h,_=>by cases ‹List (DataW H)› <;>exact h.elim
 | _ :: _,[],_,_,_,h,_=>by cases ‹List (DataW H)› <;>exact h.elim
 | _ :: _,_ :: _,[],_,_,h,_=>h.elim
theorem AI{f:Func}{F:FuncId}{s:ChangeSpec}{W:World}{args:Array Value}{ds gs:List (DataW H)}{before:List MemPlace}{tb:TypeId}
  (hl:laidOutB P=true) (hr:f.params.toList.all (λt=>P.readableRec t&&decide (t<P.types.size))=true) (hv:s.vars=[])
  (hres:f.resultTypes= #[tb]) (htb:P.underlying tb=some .bool) (hW:DataW.Whole enc P f.params.toList s.vars false W args.toList ds gs before)
  (hs1:(s.fn H (ds++gs)).results=[.lit (.bool true)]) (hs2:(s.fn H (ds++gs)).args=ds) (hs3:(s.fn H (ds++gs)).vars=[])
  (h:Calls P F args W λe W'=>e= .returned (.bool true)∧Below W.heap.size W W'):
  Calls P F args W λe W'=>∃v,e= .returned v∧s.post enc P f false true false false W args v W':=by
 refine h.mono λe W' ⟨he,hb⟩=>⟨_,he,?_⟩
 have hlt:=hW.lt;have hW':=hW;obtain⟨p,q,hA,hV,rfl,_,_⟩:=hW;have hr':∀t∈f.params.toList,P.readableRec t=true∧t<P.types.size:=λt ht=>by simpa using List.all_eq_true.1 hr t ht
 refine⟨ds,gs,p++q,[],p,[],hW',?_,?_,?_,hb.frame _,λh=>by cases h⟩
 ·rw[hs1,hres];refine⟨[],[],⟨1,?_⟩,rfl,rfl⟩;simp[DataW.trod,htb,Value.cells]
 ·rw[hs2];exact lN hl hb hr' hA (λx hx=>hlt x (List.mem_append.2 (.inl hx)))
 ·rw[hs3,hv];rfl
theorem fI{t:TypeId}{fs:Array Field}(ht:P.underlying t=some (.struct fs)){w:World}{aa:Nat}{spare:Nat→Bool}{held:Bool}{fuel:Nat}{cs:List Value}{x:DataW H×List MemPlace}
  (h:DataW.trod enc P w aa spare held fuel t cs=some x):cs.length=P.cellsOf t∧∃n,∀(i:Nat) (f:Field),fs[i]? =some f→∃y,DataW.trod enc P w aa spare held n f.type ((cs.drop f.offset).take (P.cellsOf f.type))=some y:=by
 obtain⟨xs,n,_,_,hl,hlen,hf⟩:=DataW.trod_struct ht h;refine⟨hl,n,λi f hi=>?_⟩;have hi':i<xs.length:=by
  rw[hlen];have:=(Array.getElem?_eq_some_iff.1 hi).1;simpa using this
 exact⟨xs[i],by rw[hf i f (by simpa using hi)];simp[hi']⟩
theorem bz{α:Type}[En α]{t:TypeId}(hr:xL P t α){w:World}{aa:Nat}{spare:Nat→Bool}{held:Bool}{fuel:Nat}{cs:List Value}{o k:Nat}
  (h:∃y,DataW.trod enc P w aa spare held fuel t ((cs.drop o).take (P.cellsOf t))=some y) (hk:P.cellsOf t=k):∃a:α,fp w (En.cs a) ((cs.drop o).take k)∧En.fit a:=by
 obtain⟨y,hy⟩:=h;rw[hk]at hy;exact hr hy
end
theorem fp.append{w:World}{ts ts':List T}{vs vs':List Value}(h:fp w ts vs)(h':fp w ts' vs'):fp w (ts++ts') (vs++vs'):=by
 refine⟨by simp[h.1,h'.1],λi t v h1 h2=>?_⟩
 by_cases hi:i<ts.length
 ·rw[getElem?_append_left hi]at h1;rw[getElem?_append_left (by rw[←h.1];exact hi)]at h2;exact h.2 i t v h1 h2
 ·rw[getElem?_append_right (by omega)]at h1;rw[getElem?_append_right (by rw[←h.1];omega),←h.1]at h2;exact h'.2 _ t v h1 h2
open Go Go.RowKit
def CL:List T→List Value→Prop
 | t :: ts,c :: cs=>ZC t c∧CL ts cs
 | _,_=>True
theorem CL.get:∀{ts:List T} {cs:List Value},ts.length=cs.length→CL ts cs→∀(i:Nat) y,ts[i]? =some y→∃c,cs[i]? =some c∧ZC y c
 | [],_,_,_,i,y,hy=>by simp at hy
 | _ :: _,[],hl,_,_,_,_=>by simp at hl
 | t :: ts,c :: cs,hl,⟨h1,h2⟩,i,y,hy=>by
  cases i with
  | zero=>cases hy;exact⟨c,rfl,h1⟩
  | succ i=>exact CL.get (by simpa using hl) h2 i y hy
theorem dQ.mk'{P:Program}{t:TypeId}{zt:List T}{i:TypeInfo}{z:Value}(h:P.info? t=some i)(h1:i.size=zt.length)(h2:i.bytes≤1024)(h3:i.zero=some z)(h4:zt.length=z.cells.toList.length∧0<zt.length)(h5:CL zt z.cells.toList):dQ P t zt:=
 ⟨⟨i,z,h,h1,h2,h3,by simpa using h4.1.symm,λi y hy=>by simpa using CL.get h4.1 h5 i y hy⟩,h4.2⟩
theorem dj.mk'{P:Program}{t:TypeId}{fs:Array Field}(i:Nat)(f:Field){k:Nat}(h:P.underlying t=some (.struct fs))(hf:fs[i]? =some f)(hs:Sz P f.type (k+1)):dj P t i f.offset:=λb o w=>by
 have h1:∀w,(Instr.sureAddr (.pointer (some ⟨b,o,none⟩))).run P w= .ok ⟨b,o,none⟩ w:=λw=>rfl;simp only[Instr.fieldAt,Sem.run_bind,run_underlying h w,Result.andThen,hf,h1,fieldPlace,hs w,succ_ne_zero,if_false];simp[Addr.add]
open Go Go.RowKit
section
variable{P:Program}{L:List E}{dst:Option Tmp}{ty:TypeId}{pos:String}{af:Array Edge}{g:Option (Nat×Bool)}
theorem Qt.bj{c x y:Operand}{b:Bool}(hc:cp L c= .v (.bool b))(hb:b=true):Qt P ⟨dst,.pick c x y,ty,pos,af,g⟩ L (cp L x):=by
 have h:=Qt.pick (P:=P) (dst:=dst) (ty:=ty) (pos:=pos) (af:=af) (g:=g) (x:=x) (y:=y) hc;rw[hb,if_pos rfl]at h;exact h
theorem Qt.bd{c x y:Operand}{b:Bool}(hc:cp L c= .v (.bool b))(hb:b=false):Qt P ⟨dst,.pick c x y,ty,pos,af,g⟩ L (cp L y):=by
 have h:=Qt.pick (P:=P) (dst:=dst) (ty:=ty) (pos:=pos) (af:=af) (g:=g) (x:=x) (y:=y) hc;rw[hb,if_neg (by simp)]at h;exact h
end
open Go Go.RowKit
def lB:List Nat→Bool
 | []=>true
 | x :: xs=> !(xs.any (beq x))&&lB xs
theorem aj:∀{l:List Nat},lB l=true→l.Nodup
 | [],_=>nodup_nil
 | x :: xs,h=>by
  simp only[lB,Bool.and_eq_true,Bool.not_eq_true',any_eq_false]at h;refine List.nodup_cons.2 ⟨λhm=>?_,aj h.2⟩;exact absurd (beq_refl x) (h.1 x hm)

def T.bb:T→T→Prop
 | .v x,t=>t= .v x
 | .j,t=>t= .j
 | .s n len f,t=>∃g,t= .s n len g∧∀k c,k<len→c<n→(f k c).bb (g k c)
theorem T.eQ:∀t:T,t.bb t
 | .v _=>rfl
 | .j=>rfl
 | .s n len f=>⟨f,rfl,λk c _ _=>T.eQ (f k c)⟩
theorem T.vt{n len:Nat}{f g:Nat→Nat→T}(h:∀k c,k<len→c<n→f k c=g k c):(T.s n len f).bb (.s n len g):=
 ⟨g,rfl,λk c hk hc=>by rw[h k c hk hc];exact T.eQ _⟩
theorem du.bb{w:World}:∀{t t':T} {F:FP} {c:Value},t.bb t'→du w t F c→du w t' F c
 | .v _,_,_,_,h,ho=>by cases h;exact ho
 | .j,_,_,_,h,ho=>by cases h;exact ho
 | .s n len f,_,F,c,⟨g,rfl,hs⟩,⟨hn,a,cap,h0,hl,hm,b,off,V,G,h1,h2,h3,h4,h5⟩=>
  ⟨hn,a,cap,h0,hl,hm,b,off,V,G,h1,λk c hk hc=>⟨(h2 k c hk hc).1,du.bb (hs k c hk hc) (h2 k c hk hc).2⟩,h3,h4,h5⟩
theorem Rd.bb{w:World}:∀{t t':T} {F:FP} {c:Value},t.bb t'→Rd w t F c→Rd w t' F c
 | .v _,_,_,_,h,ho=>by cases h;exact ho
 | .j,_,_,_,h,ho=>by cases h;exact ho
 | .s n len f,_,F,c,⟨g,rfl,hs⟩,⟨hn,a,cap,h0,hl,hm,b,off,V,G,h1,h2⟩=>
  ⟨hn,a,cap,h0,hl,hm,b,off,V,G,h1,λk c hk hc=>⟨(h2 k c hk hc).1,Rd.bb (hs k c hk hc) (h2 k c hk hc).2.1,(h2 k c hk hc).2.2⟩⟩
theorem lq:∀{q:bF} {t t':T},t.bb t'→bT t q→bT t' q∧(t.at q).bb (t'.at q)
  | [],t,t',h,_=>⟨by simp[bT],by simpa only[T.at]using h⟩
  | (n',k,c) :: q,.s n len f,_,⟨g,rfl,hs⟩,⟨h1,h2,h3,h4⟩=>by
    obtain⟨e1,e2⟩:=lq (q:=q) (hs k c h2 h3) h4;exact⟨⟨h1,h2,h3,e1⟩,by simpa only[T.at]using e2⟩
  | _ :: _,.v _,_,_,hq=>hq.elim
  | _ :: _,.j,_,_,hq=>hq.elim

def s8(L:List E):List E→Prop
 | []=>True
 | .sl t x :: r=>ax L t=x∧s8 L r
 | .rt id m t :: r=>(∃t0,bZ L id=some (m,t0)∧t0.bb t)∧s8 L r
 | .al id c x :: r=>(fK L id c=x∧x.CM=false)∧s8 L r
theorem kf{L:List E}:∀{L':List E},s8 L L'→(∀t x,E.sl t x∈L'→ax L t=x)∧(∀id m t,E.rt id m t∈L'→∃t0,bZ L id=some (m,t0)∧t0.bb t)∧∀id c x,E.al id c x∈L'→fK L id c=x∧x.CM=false
 | [],_=>⟨by simp,by simp,by simp⟩
 | .sl t x :: r,⟨h1,h2⟩=>by
  obtain⟨a1,a2,a3⟩:=kf h2;refine⟨λt' x' h=>?_,λid m t' h=>?_,λid c x' h=>?_⟩
  ·rcases List.mem_cons.1 h with h|h
   ·cases h;exact h1
   ·exact a1 _ _ h
  ·rcases List.mem_cons.1 h with h|h
   ·cases h
   ·exact a2 _ _ _ h
  ·rcases List.mem_cons.1 h with h|h
   ·cases h
   ·exact a3 _ _ _ h
 | .rt i m0 t0 :: r,⟨h1,h2⟩=>by
  obtain⟨a1,a2,a3⟩:=kf h2;refine⟨λt' x' h=>?_,λid m t' h=>?_,λid c x' h=>?_⟩
  ·rcases List.mem_cons.1 h with h|h
   ·cases h
   ·exact a1 _ _ h
  ·rcases List.mem_cons.1 h with h|h
   ·cases h;exact h1
   ·exact a2 _ _ _ h
  ·rcases List.mem_cons.1 h with h|h
   ·cases h
   ·exact a3 _ _ _ h
 | .al i c0 x0 :: r,⟨h1,h2⟩=>by
  obtain⟨a1,a2,a3⟩:=kf h2;refine⟨λt' x' h=>?_,λid m t' h=>?_,λid c x' h=>?_⟩
  ·rcases List.mem_cons.1 h with h|h
   ·cases h
   ·exact a1 _ _ h
  ·rcases List.mem_cons.1 h with h|h
   ·cases h
   ·exact a2 _ _ _ h
  ·rcases List.mem_cons.1 h with h|h
   ·cases h;exact h1
   ·exact a3 _ _ _ h

theorem VR.bb{R R':RT}{H:Nat→Value}{w:World}{ids:List Nat}(hR:∀id∈ids,∀m t,R id m t→∃t',R' id m t'∧t.bb t'){x:X}{v:Value}(hx:x.kT ids=true)(h:VR R H w x v):VR R' H w x v:=
 VR.leaves (C:=λx=>x.kT ids=true) (λx v hl hx h=>by
  cases x with
  | p id q n k c=>
   obtain⟨m,t,h1,h2,⟨len,f,h3,h4,h5⟩,h6⟩:=h;obtain⟨t',e1,e2⟩:=hR id (by simpa [X.kT]using hx) m t h1;obtain⟨e3,e4⟩:=lq e2 h2;rw[h3]at e4;obtain⟨g,e5,_⟩:=e4;exact⟨m,t',e1,e3,⟨len,g,e5,h4,h5⟩,h6⟩
  | h id q=>
   obtain⟨m,t,h1,h2,⟨n,len,f,h3⟩,h6⟩:=h;obtain⟨t',e1,e2⟩:=hR id (by simpa [X.kT]using hx) m t h1;obtain⟨e3,e4⟩:=lq e2 h2;rw[h3]at e4;obtain⟨g,e5,_⟩:=e4;exact⟨m,t',e1,e3,⟨n,len,g,e5⟩,h6⟩
  | a id q n lo len=>
   obtain⟨m,t,h1,h2,⟨l,f,h3,h4⟩,h6⟩:=h;obtain⟨t',e1,e2⟩:=hR id (by simpa [X.kT]using hx) m t h1;obtain⟨e3,e4⟩:=lq e2 h2;rw[h3]at e4;obtain⟨g,e5,_⟩:=e4;exact⟨m,t',e1,e3,⟨l,g,e5,h4⟩,h6⟩
  | _=>exact hl.elim) (X.nV hx) h
theorem ar.bb{N:Nat}{L L':List E}(h:s8 L L')(hc:gP (eV L') L'=true)(hu:lB (eV L')=true):ar N L L':=λcx a w hs=>by
 obtain⟨H,G,hr,hG⟩:=hs.rp;obtain⟨a1,a2,a3⟩:=kf h;obtain⟨c1,c2⟩:=iZ hc;have hrt:∀id m t,aW L' id m t→∃t0,aW L id m t0∧t0.bb t:=λid m t hh=>by
  obtain⟨t0,e1,e2⟩:=a2 id m t hh;exact⟨t0,aq e1,e2⟩
 have huniq:∀id m t m' t',aW L' id m t→aW L' id m' t'→m=m'∧t=t':=by
  have:∀{M:List E},(eV M).Nodup→∀id m t m' t',aW M id m t→aW M id m' t'→m=m'∧t=t':=by
   intro M
   induction M with
   | nil=>intro _ id m t m' t' h;cases h
   | cons e r ih=>
    intro hn id m t m' t' h h';cases e with
    | sl s x=>
     rcases List.mem_cons.1 h with h|h
     ·cases h
     rcases List.mem_cons.1 h' with h'|h'
     ·cases h'
     exact ih hn id m t m' t' h h'
    | al s c x=>
     rcases List.mem_cons.1 h with h|h
     ·cases h
     rcases List.mem_cons.1 h' with h'|h'
     ·cases h'
     exact ih hn id m t m' t' h h'
    | rt i m0 t0=>
     simp only[eV,nodup_cons]at hn;rcases List.mem_cons.1 h with k|k<;>rcases List.mem_cons.1 h' with k'|k'
     ·cases k;cases k';exact⟨rfl,rfl⟩
     ·cases k;exact absurd (ei.2 ⟨m',t',k'⟩) hn.1
     ·cases k';exact absurd (ei.2 ⟨m,t,k⟩) hn.1
     ·exact ih hn.2 id m t m' t' k k'
  exact this (aj hu)
 have hV:∀{x:X} {v:Value},x.kT (eV L')=true→VR (aW L) H w x v→VR (aW L') H w x v:=λhx hv=>by
  refine VR.bb (ids:=eV L') (λid hid m t ht=>?_) hx hv;obtain⟨m',t',e⟩:=ei.1 hid;obtain⟨t0,e1,e2⟩:=hrt id m' t' e;obtain⟨rfl,rfl⟩:=hr.one _ _ _ _ _ ht e1;exact⟨t',e,e2⟩
 refine⟨hs.kR,hs.lc,hs.fV,H,G,⟨huniq,?_,?_,?_,?_,?_,?_,?_⟩,?_,?_⟩
 ·intro id m t h1 h2;obtain⟨t0,e1,e2⟩:=hrt id m t h1;exact(hr.own id m t0 e1 h2).bb e2
 ·intro id t h1;obtain⟨t0,e1,e2⟩:=hrt id _ t h1;exact(hr.ro id t0 e1).bb e2
 ·intro id t h1;obtain⟨t0,e1,e2⟩:=hrt id _ t h1;exact hr.fR id t0 e1
 ·intro id t h1;obtain⟨t0,e1,e2⟩:=hrt id _ t h1;obtain⟨n,f,rfl⟩:=hr.box id t0 e1;obtain⟨g,rfl,_⟩:=e2;exact⟨n,g,rfl⟩
 ·intro id m t id' m' t' h1 h2;obtain⟨t0,e1,_⟩:=hrt id _ t h1;obtain⟨t1,e2,_⟩:=hrt id' _ t' h2;exact hr.jZ id m t0 id' m' t1 e1 e2
 ·intro t x h1;have e:=a1 t x h1;have hx:=c1 t x h1;rcases ib (L:=L) (d:=t)with h|h
  ·rw[e]at h;subst h;trivial
  ·rw[e]at h;exact hV hx (hr.sl t x h)
 ·intro id c x h1;obtain⟨e,ej⟩:=a3 id c x h1;obtain⟨hx,hid⟩:=c2 id c x h1;rcases ik (L:=L) (id:=id) (c:=c)with h|h
  ·rw[e]at h;subst h;cases ej
  ·rw[e]at h;obtain⟨n,f,g1,g2,A,v,g3,g4,g5⟩:=hr.al id c x h;obtain⟨m',t',e1⟩:=ei.1 hid;obtain⟨t0,e2,e3⟩:=hrt id m' t' e1;obtain⟨rfl,rfl⟩:=hr.one _ _ _ _ _ g1 e2;obtain⟨g,rfl,_⟩:=e3;exact⟨n,g,e1,g2,A,v,g3,g4,hV hx g5⟩
 ·intro id m t h1;obtain⟨t0,e1,_⟩:=hrt id _ t h1;exact hG.1 id m t0 e1
 ·intro id m t hb h1;obtain⟨t0,e1,_⟩:=hrt id _ t h1;exact hG.2 id m t0 hb e1
open Go Go.RowKit
section
variable{P:Program}{N:Nat}{Q:Exit→List E→Prop}{L L':List E}{ops:Array Oper}{l:List Oper}{qs pend todo:List Nat}{S:Array Bool}
theorem aB.D2(h:L=L')(k:aB P N ops l Q L'):aB P N ops l Q L:=h ▸ k
theorem aO.D2(h:L=L')(k:aO P N ops qs Q S pend todo L'):aO P N ops qs Q S pend todo L:=h ▸ k
end
end Go.Proofs.YtekcnnngjoonbaaGreat.VM
