/- Rules to walk by. No conditions. -/
import Derived.LaidEql
import Derived.Laws.NewBlocks
import Derived.Lib.Join
import Derived.Lib.OthersKept
import Derived.Shelf.Slices.Empties
import Derived.Shelf.Slices.SearchI
import Derived.Shelf.Spec.SlicesInsertGrow
import Derived.Sort.Grow
import Derived.Sort.Row
import Derived.Test.YtekcnnngjoonbaaGreatWc
set_option linter.all false
namespace Go.Proofs.YtekcnnngjoonbaaGreat.VM
open List Nat
open Go Go.RowKit Go.Sort

theorem lz{w:World}{b off n:Nat}{d:Array Int}{os:Array Obj}{b':Nat}(h:b'<w.heap.size):
  (grow (putRow (Value.int .i64) (Sort.ahead w n) b off d) os).heap[b']? =if b=b' then(w.heap[b']?).map (onCells (putCells (Value.int .i64) off d))else w.heap[b']? :=by
 simp only[grow,putRow,mapBlock,Sort.ahead];rw[Array.getElem?_append_left (by simpa using h),Array.getElem?_modify]
theorem vK{w:World}{b off n:Nat}{d:Array Int}{os:Array Obj}:dt (xw b off d.size) w (grow (putRow (Value.int .i64) (Sort.ahead w n) b off d) os):=by
 refine⟨rfl,rfl,rfl,?_,?_,?_⟩
 ·simp[grow,putRow,mapBlock,Sort.ahead]
 ·intro b' cur e fr h;rw[lz (Array.getElem?_eq_some_iff.1 h).1,h]
  by_cases hb:b=b'
  ·refine⟨putCells (Value.int .i64) off d cur,by simp[hb,onCells],by simp[putCells],λo ho=>?_⟩;simp only[putCells,Array.getElem?_mapIdx];cases cur[o]? with
   | none=>rfl
   | some x=>
    simp only[Option.map_some];rw[if_neg (λhh=>ho ⟨hb.symm,hh.1,hh.2⟩)]
  ·exact⟨cur,by simp[hb],rfl,λ_ _=>rfl⟩
 ·intro b' o h ho;rw[lz (Array.getElem?_eq_some_iff.1 h).1,h]
  by_cases hb:b=b'
  ·simp only[hb,if_true,Option.map_some];cases o with
   | cells c e f=>exact absurd rfl (ho c e f)
   | _=>rfl
  ·simp[hb]
theorem sI{w:World}{b off n k:Nat}{d:Array Int}{os:Array Obj}{v:Value}(hc:w.cell? ⟨b,off+k,none⟩=some v)(hk:k<d.size):
  (grow (putRow (Value.int .i64) (Sort.ahead w n) b off d) os).cell? ⟨b,off+k,none⟩=some (.int .i64 d[k]!):=by
 have hlt:=r_ hc;simp only[World.cell?]at hc ⊢;rw[lz hlt];split at hc
 ·rename_i cur e fr hb;simp only[Option.isSome_none,Bool.false_eq_true,if_false]at hc;simp only[if_true,hb,Option.map_some,onCells,Option.isSome_none,Bool.false_eq_true,if_false];simp only[putCells,Array.getElem?_mapIdx,hc,Option.map_some];rw[if_pos ⟨by omega,by omega⟩,show off+k-off=k by omega]
 ·cases hc
theorem w3{l l':List Int}{w w':World}{H:Nat→Value}{G:Nat→FP}(hr:Rp [.rt aa .row (tr l)] (λ_=>undef) H G w)(hC:dt (G aa) w w')(hO:du w' (tr l') (G aa) (H aa)):
  ∃x L H' G' val,ch (.t []) [] [(aa,tr l')] x L∧Rp L val H' G' w'∧VR (aW L) H' w' x (.tuple #[])∧
   dt (λa o=>∃id m t,aW [.rt aa .row (tr l)] id m t∧m≠ .ro∧G id a o) w w'∧
   (∀id m t,aW L id m t→m≠ .ro→∀a o,G' id a o→(∃id m t,aW [.rt aa .row (tr l)] id m t∧m≠ .ro∧G id a o)∨w.heap.size≤a)∧
   ∀id m t,aa≤id→aW L id m t→H' id=H id:=by
 have hm:∀{t0:T} {id:Nat} {m:M} {t:T},aW [.rt aa .row t0] id m t→id=aa∧m= .row∧t=t0:=λh=>by
  cases List.mem_singleton.1 h;exact⟨rfl,rfl,rfl⟩
 have hb:aW [.rt aa .row (tr l)] aa .row (tr l):=List.mem_singleton.2 rfl;refine⟨.t [],[.rt aa .row (tr l')],H,G,λ_=>undef,⟨λn=>n,rfl,λ_ _=>rfl,nodup_nil,by simp,?_⟩,?_,⟨[],rfl,trivial⟩,hC.mono λa o _ h=>⟨aa,.row,tr l,hb,by simp,h⟩,?_,λ_ _ _ _ _=>rfl⟩
 ·intro p hp;cases List.mem_singleton.1 hp;exact List.mem_singleton.2 rfl
 ·refine⟨λid m t m' t' h h'=>?_,λid m t h _=>?_,λid t h=>?_,λid t h=>?_,λid t h=>?_,λid m t id' m' t' h h' hne=>?_,λt x h=>?_,λid c x h=>?_⟩
  ·obtain⟨_,rfl,rfl⟩:=hm h;obtain⟨_,rfl,rfl⟩:=hm h';exact⟨rfl,rfl⟩
  ·obtain⟨rfl,rfl,rfl⟩:=hm h;exact hO
  ·obtain⟨_,h,_⟩:=hm h;cases h
  ·obtain⟨_,h,_⟩:=hm h;cases h
  ·obtain⟨_,h,_⟩:=hm h;cases h
  ·exact absurd ((hm h).1.trans (hm h').1.symm) hne
  ·cases List.mem_singleton.1 h
  ·cases List.mem_singleton.1 h
 ·intro id m t h _ a o hg;obtain⟨rfl,rfl,rfl⟩:=hm h;exact .inl ⟨aa,.row,tr l,hb,by simp,hg⟩
theorem tv{P:Program}{f:FuncId}{S:List Int→List Int}(hS:∀l,(S l).length=l.length)
  (hs:∀(blk off cap:Nat) (zs:List Int) (w:World),Holds (Value.int .i64) w blk off zs.toArray→blk<w.heap.size→zs.length<4611686018427387904→Calls P f #[.slice (some ⟨blk,off,none⟩) zs.length cap] w λe w'=>e= .returned (.tuple #[])∧∃n os,w'=grow (putRow (Value.int .i64) (Sort.ahead w n) blk off (S zs).toArray) os)
  (h0:∀(p:Option Addr) (cap:Nat) (w:World),Calls P f #[.slice p 0 cap] w λe w'=>e= .returned (.tuple #[])∧w'=w) (l:List Int) (hlen:l.length<4611686018427387904):
  a_ P f [.h aa []] [.rt aa .row (tr l)] (ch (.t []) [] [(aa,tr (S l))]):=by
 intro w vs H G _ _ hr hv;cases vs with
 | nil=>exact hv.elim
 | cons v vs=>
 cases vs with
 | cons _ _=>exact hv.2.elim
 | nil=>
 obtain⟨⟨m,t,_,_,_,hh⟩,_⟩:=hv;simp only[hd,Option.some.injEq]at hh;have hO:=hr.own aa .row (tr l) (List.mem_singleton.2 rfl) (by simp);have hO0:=hO;obtain⟨hn,a,cap,e0,hl,hm,b,off,V,Gk,h1,h2,h3,h4,h5⟩:=hO;have hv:v= .slice a l.length cap:=by rw[←hh,e0]
 subst hv;rcases eq_zero_or_pos l.length with hz|hp
 ·rw[hz];refine(h0 a cap w).mono ?_
  rintro e w' ⟨rfl,rfl⟩
  have hl0:l=[]:=eq_nil_of_length_eq_zero hz;have hS0:S l=[]:=eq_nil_of_length_eq_zero (by rw[hS,hz]);obtain⟨x,L,H',G',val,r⟩:=w3 (l':=S l) hr (dt.refl _ _) (by rw[hS0,←hl0];exact hO0);exact⟨_,x,L,H',G',val,rfl,r⟩
 ·have hc0:0<cap:=by omega
  obtain⟨rfl,sz,hK,hoff⟩:=h1 hc0;have hcell:∀k,k<l.length→w.cell? ⟨b,off+k,none⟩=some (iv (l.getD k 0))∧∀x y,¬Gk k 0 x y:=λk hk=>by
   obtain⟨g1,g2⟩:=h2 k 0 hk (by decide);rw[show k*En.n Int+0=k from Nat.mul_one k]at g1;obtain⟨g3,_,g4⟩:=g2;rw[g1,g3];exact⟨rfl,g4⟩
  have hfro:∀k,w.frozen? ⟨b,off+k,none⟩=false:=λk=>by
   obtain⟨cur,e,g1,_⟩:=hK;simp[World.frozen?,g1]
  refine(hs b off cap l w (λj hj=>⟨?_,hfro j⟩) hK.lt hlen).mono ?_
  ·have hj':j<l.length:=by simpa using hj
   rw[(hcell j hj').1];simp[getD_eq_getElem?_getD,hj',iv]
  rintro e w' ⟨rfl,n,os,rfl⟩
  have hsz:(S l).toArray.size=l.length:=by simp[hS]
  have hF:∀x y,xw b off (S l).toArray.size x y→G aa x y:=λx y hxy=>(h5 x y).2 (.inl ⟨hc0,hxy.1⟩);have hC:=vK (w:=w) (b:=b) (off:=off) (n:=n) (d:=(S l).toArray) (os:=os)
  suffices hfin:du _ (tr (S l)) (G aa) (H aa)from(by
   obtain⟨x,L,H',G',val,r⟩:=w3 hr (hC.mono λx y _ h=>hF x y h) hfin;exact⟨_,x,L,H',G',val,rfl,r⟩)
  refine⟨hn,some ⟨b,off,none⟩,cap,by rw[hS];exact e0,by rw[hS];exact hl,hm,b,off,λk _=>iv ((S l).getD k 0),λ_ _ _ _=>False,λ_=>⟨rfl,sz,hK.fV hC,hoff⟩,?_,?_,?_,?_⟩
  ·intro k c hk hc;have hk':k<l.length:=by rw[←hS];exact hk
   have hc':c<1:=hc;obtain rfl:c=0:=by omega
   refine⟨?_,rfl,rfl,λ_ _ h=>h⟩;rw[show k*En.n Int+0=k from Nat.mul_one k,sI (hcell k hk').1 (by rw[hsz];exact hk')];simp[getD_eq_getElem?_getD,hS,hk',iv]
  ·intros;assumption
  ·intro _ _ _ _ _ _ h;exact h.elim
  ·intro x y;rw[h5];constructor
   ·rintro (h|⟨k,c,hk,hc,hg⟩)
    ·exact .inl h
    ·have hc':c<1:=hc;obtain rfl:c=0:=by omega
     exact((hcell k hk).2 x y hg).elim
   ·rintro (h|⟨_,_,_,_,h⟩)
    ·exact .inl h
    ·exact h.elim
open Go Go.RowKit
def xk:List E→Bool
 | []=>true
 | .rt .. :: r=>xk r
 | _ :: _=>false
theorem mY:∀{L:List E},xk L=true→∀e∈L,∃id m t,e= .rt id m t
 | [],_,e,he=>by cases he
 | .rt i m t :: r,h,e,he=>by
  rcases List.mem_cons.1 he with rfl|he
  ·exact⟨_,_,_,rfl⟩
  ·exact mY (L:=r) h e he
theorem yu{M:List E}(hn:(eV M).Nodup):∀id m t m' t',aW M id m t→aW M id m' t'→m=m'∧t=t':=by
 induction M with
 | nil=>intro id m t m' t' h;cases h
 | cons e r ih=>
  intro id m t m' t' h h';cases e with
  | sl s x=>
   rcases List.mem_cons.1 h with h|h
   ·cases h
   rcases List.mem_cons.1 h' with h'|h'
   ·cases h'
   exact ih hn id m t m' t' h h'
  | al s c x=>
   rcases List.mem_cons.1 h with h|h
   ·cases h
   rcases List.mem_cons.1 h' with h'|h'
   ·cases h'
   exact ih hn id m t m' t' h h'
  | rt i m0 t0=>
   simp only[eV,nodup_cons]at hn;rcases List.mem_cons.1 h with k|k<;>rcases List.mem_cons.1 h' with k'|k'
   ·cases k;cases k';exact⟨rfl,rfl⟩
   ·cases k;exact absurd (ei.2 ⟨m',t',k'⟩) hn.1
   ·cases k';exact absurd (ei.2 ⟨m,t,k⟩) hn.1
   ·exact ih hn.2 id m t m' t' k k'
theorem a_.bb{P:Program}{f:FuncId}{xs:List X}{ρ0 ρ:List E}{post:X→List E→Prop}(hs:s8 ρ0 ρ)(h:a_ P f xs ρ post)(hl:xk ρ=true)(hu:lB (eV ρ)=true)(hx:X.oe (eV ρ) xs=true):a_ P f xs ρ0 post:=by
 intro w vs H G ht ha hr hv;obtain⟨_,a2,_⟩:=kf hs;have hrt:∀id m t,aW ρ id m t→∃t0,aW ρ0 id m t0∧t0.bb t:=λid m t hh=>by
  obtain⟨t0,e1,e2⟩:=a2 id m t hh;exact⟨t0,aq e1,e2⟩
 have hV:db (aW ρ) H w xs vs:=by
  have:VR (aW ρ) H w (.g xs) (.agg vs.toArray):=VR.bb (R:=aW ρ0) (ids:=eV ρ) (λid hid m t ht=>by
   obtain⟨m',t',e⟩:=ei.1 hid;obtain⟨t0,e1,e2⟩:=hrt id m' t' e;obtain⟨rfl,rfl⟩:=hr.one _ _ _ _ _ ht e1;exact⟨t',e,e2⟩) (x:= .g xs) (by simpa only[X.kT]using hx) ⟨vs,rfl,hv⟩
  obtain⟨us,e,h⟩:=this;simp only[Value.agg.injEq]at e;have:vs=us:=by simpa using congrArg Array.toList e
  rw[this];exact h
 refine(h w vs H G ht (λid m t h1 h2 a o h3=>by obtain⟨t0,e1,_⟩:=hrt id m t h1;exact ha id m t0 e1 h2 a o h3) ⟨yu (aj hu),?_,?_,?_,?_,?_,?_,?_⟩ hV).mono ?_
 ·intro id m t h1 h2;obtain⟨t0,e1,e2⟩:=hrt id m t h1;exact(hr.own id m t0 e1 h2).bb e2
 ·intro id t h1;obtain⟨t0,e1,e2⟩:=hrt id _ t h1;exact(hr.ro id t0 e1).bb e2
 ·intro id t h1;obtain⟨t0,e1,e2⟩:=hrt id _ t h1;exact hr.fR id t0 e1
 ·intro id t h1;obtain⟨t0,e1,e2⟩:=hrt id _ t h1;obtain⟨n,f,rfl⟩:=hr.box id t0 e1;obtain⟨g,rfl,_⟩:=e2;exact⟨n,g,rfl⟩
 ·intro id m t id' m' t' h1 h2;obtain⟨t0,e1,_⟩:=hrt id _ t h1;obtain⟨t1,e2,_⟩:=hrt id' _ t' h2;exact hr.jZ id m t0 id' m' t1 e1 e2
 ·intro t x h1;obtain⟨_,_,_,e⟩:=mY hl _ h1;cases e
 ·intro id c x h1;obtain⟨_,_,_,e⟩:=mY hl _ h1;cases e
 ·rintro e w' ⟨v,x,L,H',G',val,rfl,k1,k2,k3,k4,k5,k6⟩
  have hin:∀a o,(∃id m t,aW ρ id m t∧m≠ .ro∧G id a o)→∃id m t,aW ρ0 id m t∧m≠ .ro∧G id a o:=λa o ⟨id,m,t,h1,h2,h3⟩=>by
   obtain⟨t0,e1,_⟩:=hrt id m t h1;exact⟨id,m,t0,e1,h2,h3⟩
  exact⟨v,x,L,H',G',val,rfl,k1,k2,k3,k4.mono λa o _ h=>hin a o h,λid m t h1 h2 a o h3=>(k5 id m t h1 h2 a o h3).imp_left (hin a o),k6⟩
theorem dC{w:Nat}{left:Int}(h: -1≤left): -1≤g_ w left:=by have:=b7 w left;omega
theorem dE{w:Nat}{left:Int}(h:left≤1048576):g_ w left≤1048576:=by have:=b7 w left;omega
open Go Go.RowKit
section
variable{P:Program}{N:Nat}{L:List E}{dst:Option Tmp}{ty:TypeId}{pos:String}{af:Array Edge}{g:Option (Nat×Bool)}{d:Nat}
theorem qH{H:Nat→Value}{w:World}{a:Act}(he:∀y,VR (aW L) H w (cp L y) (Act.eval a y)):∀xs:List Operand,db (aW L) H w (xs.map (cp L)) (xs.map a.eval)
 | []=>trivial
 | x :: xs=>⟨he x,qH he xs⟩
theorem Qt.makeFunc{f:FuncId}{caps:Array Operand}:Qt P ⟨dst,.makeFunc (.func f) #[] caps,ty,pos,af,g⟩ L (.f f (caps.toList.map (cp L))):=
 λH w a he _=>⟨.func (.func f) #[] (caps.toList.map a.eval).toArray,by
  have:(caps.toList.map a.eval).toArray=caps.map a.eval:=by rw[←Array.toList_map]
  simp[execOp,Instr.makeFunc,this],_,rfl,qH he _⟩
end
theorem a_.gy{P:Program}{f:FuncId}{xs:List X}{ρ0 ρ:List E}{post:X→List E→Prop}(h:a_ P f xs ρ post)(hs:s8 ρ0 ρ)(hl:xk ρ=true)(hu:lB (eV ρ)=true)(hx:X.oe (eV ρ) xs=true):a_ P f xs ρ0 post:=a_.bb hs h hl hu hx
theorem cA{α:Type}[En α]{u:α}{f:Nat→Nat→T}(h:∀c,c<En.n α→(f 0 c).bb ((En.cs u).getD c .j)):(T.s (En.n α) 1 f).bb (tr [u]):=
 ⟨_,rfl,λk c hk hc=>by
  obtain rfl:k=0:=by omega
  exact h c hc⟩
open Go Go.RowKit
mutual
def X.sub(b i:Nat)(e:Nat×Nat×Nat):X→X
 | .p id q n k k2=>if beq id b then .p i (e :: q) n k k2 else .p id q n k k2
 | .h id q=>if beq id b then .h i (e :: q)else .h id q
 | .a id q n lo len=>if beq id b then .a i (e :: q) n lo len else .a id q n lo len
 | .g xs=> .g (X.zj b i e xs)
 | .t xs=> .t (X.zj b i e xs)
 | .f fn xs=> .f fn (X.zj b i e xs)
 | .v x=> .v x
 | .j=> .j
 | .c=> .c
def X.zj(b i:Nat)(e:Nat×Nat×Nat):List X→List X
 | []=>[]
 | x :: xs=>X.sub b i e x :: X.zj b i e xs
end
def CI(a b:Nat×Nat×Nat):Bool:=beq a.1 b.1&&(beq a.2.1 b.2.1&&beq a.2.2 b.2.2)
theorem B_{a b:Nat×Nat×Nat}(h:CI a b=true):a=b:=by
 obtain⟨a1,a2,a3⟩:=a;obtain⟨b1,b2,b3⟩:=b;simp only[CI,Bool.and_eq_true]at h;rw[eq_of_beq_eq_true h.1,eq_of_beq_eq_true h.2.1,eq_of_beq_eq_true h.2.2]
theorem y8(a:Nat×Nat×Nat):CI a a=true:=by simp[CI]
def nJ(i:Nat)(e:Nat×Nat×Nat)(d id:Nat)(q:bF):Nat×bF:=match q with
 | []=>(id,[])
 | a :: r=>if beq id i&&CI a e then(d,r)else(id,a :: r)
mutual
def X.Bf(i:Nat)(e:Nat×Nat×Nat)(d:Nat):X→X
 | .p id q n k k2=> .p (nJ i e d id q).1 (nJ i e d id q).2 n k k2
 | .h id q=> .h (nJ i e d id q).1 (nJ i e d id q).2
 | .a id q n lo len=> .a (nJ i e d id q).1 (nJ i e d id q).2 n lo len
 | .g xs=> .g (X.ym i e d xs)
 | .t xs=> .t (X.ym i e d xs)
 | .f fn xs=> .f fn (X.ym i e d xs)
 | .v x=> .v x
 | .j=> .j
 | .c=> .c
def X.ym(i:Nat)(e:Nat×Nat×Nat)(d:Nat):List X→List X
 | []=>[]
 | x :: xs=>X.Bf i e d x :: X.ym i e d xs
end
section
variable{R R':RT}{H H':Nat→Value}{w w':World}
mutual
theorem VR.qk{b i:Nat}{e:Nat×Nat×Nat}(hP:∀x v,X.leaf x→VR R H w x v→VR R' H' w' (x.sub b i e) v):∀{x:X} {v:Value},VR R H w x v→VR R' H' w' (x.sub b i e) v
 | .g xs,v,⟨vs,h1,h2⟩=>⟨vs,h1,db.qk hP h2⟩
 | .t xs,v,⟨vs,h1,h2⟩=>⟨vs,h1,db.qk hP h2⟩
 | .f fn xs,v,⟨vs,h1,h2⟩=>⟨vs,h1,db.qk hP h2⟩
 | .v x,v,h=>h
 | .j,v,_=>trivial
 | .c,v,h=>h
 | .p .., v,h=>hP _ _ trivial h
 | .h .., v,h=>hP _ _ trivial h
 | .a .., v,h=>hP _ _ trivial h
theorem db.qk{b i:Nat}{e:Nat×Nat×Nat}(hP:∀x v,X.leaf x→VR R H w x v→VR R' H' w' (x.sub b i e) v):∀{xs:List X} {vs:List Value},db R H w xs vs→db R' H' w' (X.zj b i e xs) vs
 | [],[],_=>trivial
 | x :: xs,v :: vs,⟨h1,h2⟩=>⟨VR.qk hP h1,db.qk hP h2⟩
 | [],_ :: _,h=>h.elim
 | _ :: _,[],h=>h.elim
end
mutual
theorem VR.lS{i d:Nat}{e:Nat×Nat×Nat}(hP:∀x v,X.leaf x→VR R H w x v→VR R' H' w' (x.Bf i e d) v):∀{x:X} {v:Value},VR R H w x v→VR R' H' w' (x.Bf i e d) v
 | .g xs,v,⟨vs,h1,h2⟩=>⟨vs,h1,db.lS hP h2⟩
 | .t xs,v,⟨vs,h1,h2⟩=>⟨vs,h1,db.lS hP h2⟩
 | .f fn xs,v,⟨vs,h1,h2⟩=>⟨vs,h1,db.lS hP h2⟩
 | .v x,v,h=>h
 | .j,v,_=>trivial
 | .c,v,h=>h
 | .p .., v,h=>hP _ _ trivial h
 | .h .., v,h=>hP _ _ trivial h
 | .a .., v,h=>hP _ _ trivial h
theorem db.lS{i d:Nat}{e:Nat×Nat×Nat}(hP:∀x v,X.leaf x→VR R H w x v→VR R' H' w' (x.Bf i e d) v):∀{xs:List X} {vs:List Value},db R H w xs vs→db R' H' w' (X.ym i e d xs) vs
 | [],[],_=>trivial
 | x :: xs,v :: vs,⟨h1,h2⟩=>⟨VR.lS hP h1,db.lS hP h2⟩
 | [],_ :: _,h=>h.elim
 | _ :: _,[],h=>h.elim
end
end
def uf(b i c n:Nat)(tb:T):List E→List E
 | []=>[]
 | .sl s x :: L=> .sl s (x.sub b i (n,0,c)) :: uf b i c n tb L
 | .rt id m t :: L=>if beq id b then uf b i c n tb L else .rt id m (if beq id i then t.put [] 0 c tb else t) :: uf b i c n tb L
 | .al id c' x :: L=>if beq id i&&beq c' c then uf b i c n tb L else .al id c' (x.sub b i (n,0,c)) :: uf b i c n tb L
def iK(i c n d:Nat):List E→List E
 | []=>[]
 | .sl s x :: L=> .sl s (x.Bf i (n,0,c) d) :: iK i c n d L
 | .rt id m t :: L=> .rt id m (if beq id i then t.put [] 0 c .j else t) :: iK i c n d L
 | .al id c' x :: L=> .al id c' (x.Bf i (n,0,c) d) :: iK i c n d L
def kw(i c n d:Nat)(tc:T)(L:List E):List E:= .rt d .row tc :: .al i c (.h d []) :: iK i c n d L
theorem kA{i c n d:Nat}{s:Nat}{y:X}:∀{L:List E},E.sl s y∈iK i c n d L→∃x,E.sl s x∈L∧y=x.Bf i (n,0,c) d
 | .sl s' x :: L,h=>by
  rcases List.mem_cons.1 h with h|h
  ·cases h;exact⟨x,mem_cons_self .., rfl⟩
  ·obtain⟨x,h1,h2⟩:=kA h;exact⟨x,mem_cons_of_mem _ h1,h2⟩
 | .rt id m t :: L,h=>by
  rcases List.mem_cons.1 h with h|h
  ·cases h
  ·obtain⟨x,h1,h2⟩:=kA h;exact⟨x,mem_cons_of_mem _ h1,h2⟩
 | .al id c' x :: L,h=>by
  rcases List.mem_cons.1 h with h|h
  ·cases h
  ·obtain⟨x,h1,h2⟩:=kA h;exact⟨x,mem_cons_of_mem _ h1,h2⟩
theorem kD{i c n d:Nat}{s c1:Nat}{y:X}:∀{L:List E},E.al s c1 y∈iK i c n d L→∃x,E.al s c1 x∈L∧y=x.Bf i (n,0,c) d
 | .sl s' x :: L,h=>by
  rcases List.mem_cons.1 h with h|h
  ·cases h
  ·obtain⟨x,h1,h2⟩:=kD h;exact⟨x,mem_cons_of_mem _ h1,h2⟩
 | .rt id m t :: L,h=>by
  rcases List.mem_cons.1 h with h|h
  ·cases h
  ·obtain⟨x,h1,h2⟩:=kD h;exact⟨x,mem_cons_of_mem _ h1,h2⟩
 | .al id c' x :: L,h=>by
  rcases List.mem_cons.1 h with h|h
  ·cases h;exact⟨x,mem_cons_self .., rfl⟩
  ·obtain⟨x,h1,h2⟩:=kD h;exact⟨x,mem_cons_of_mem _ h1,h2⟩
theorem h_{i c n d:Nat}{id:Nat}{m:M}{t:T}:∀{L:List E},aW (iK i c n d L) id m t↔∃t0,aW L id m t0∧t=if id=i then t0.put [] 0 c .j else t0
 | []=>by simp[aW,iK]
 | .sl s' x :: L=>by
  have:=h_ (i:=i) (c:=c) (n:=n) (d:=d) (id:=id) (m:=m) (t:=t) (L:=L);simpa [aW,iK]using this
 | .al s' c' x :: L=>by
  have:=h_ (i:=i) (c:=c) (n:=n) (d:=d) (id:=id) (m:=m) (t:=t) (L:=L);simpa [aW,iK]using this
 | .rt id' m' t' :: L=>by
  have ih:=h_ (i:=i) (c:=c) (n:=n) (d:=d) (id:=id) (m:=m) (t:=t) (L:=L);simp only[aW,iK]at ih ⊢;have hi:(if beq id' i=true then t'.put [] 0 c .j else t')=if id'=i then t'.put [] 0 c .j else t':=by
   by_cases h:id'=i
   ·subst h;simp
   ·rw[if_neg h,if_neg λh'=>h (eq_of_beq_eq_true h')]
  rw[hi,mem_cons,ih,E.rt.injEq];constructor
  ·rintro (⟨rfl,rfl,rfl⟩|⟨t0,h2,h3⟩)
   ·exact⟨t',mem_cons_self .., rfl⟩
   ·exact⟨t0,mem_cons_of_mem _ h2,h3⟩
  ·rintro ⟨t0,h2,h3⟩
   rcases List.mem_cons.1 h2 with h2|h2
   ·cases h2;exact .inl ⟨rfl,rfl,h3⟩
   ·exact .inr ⟨t0,h2,h3⟩
theorem BQ{n c:Nat}{f:Nat→Nat→T}{y:T}:∀{q:bF},bT (.s n 1 f) q→(∀r,q≠(n,0,c) :: r)→bT (.s n 1 (m6 f 0 c y)) q∧∀{n1 len:Nat} {f1:Nat→Nat→T},(T.s n 1 f).at q= .s n1 len f1→∃f2,(T.s n 1 (m6 f 0 c y)).at q= .s n1 len f2
  | [],_,_=>⟨trivial,λh=>by simp only[T.at]at h ⊢;cases h;exact⟨_,rfl⟩⟩
  | (n',k',c') :: q',⟨hnn,hk,hc,hq⟩,hne=>by
    subst hnn;have hkc:¬(k'=0∧c'=c):=by
      rintro ⟨rfl,rfl⟩
      exact hne q' rfl
    have e:m6 f 0 c y k' c'=f k' c':=by simp only[m6,if_neg hkc]
    refine⟨⟨rfl,hk,hc,by rw[e];exact hq⟩,λh=>?_⟩;simp only[T.at]at h ⊢;rw[e];exact⟨_,h⟩
theorem A9{w:World}{h x:Value}{n k c b o:Nat}{q:bF}(h1:gU h n k c=some ⟨b,o,none⟩)(h2:w.cell? ⟨b,o,none⟩=some x):hd w h ((n,k,c) :: q)=hd w x q:=by
 simp only[hd,h1,h2]
theorem ar.iY{N:Nat}{L:List E}(i c d:Nat){n n1 len:Nat}{f f1:Nat→Nat→T}(hi:bZ L i=some (.box,.s n 1 f))(hc:c<n)(hf:f 0 c= .s n1 len f1)(hd:blt d aa=true)(hn:(eV L).contains d=false):ar N L (kw i c n d (.s n1 len f1) L):=λcx a w hs=>by
 obtain⟨H,G,hr,hG⟩:=hs.rp;have hi':=aq hi;have hdn:∀{m t},¬aW L d m t:=λ{m t} h=>by
  have:d∈eV L:=ei.2 ⟨m,t,h⟩;simp[this]at hn
 have hdi:d≠i:=λe=>hdn (e ▸ hi');have hdb:d<aa:=Nat.blt_eq.mp hd;have hO:=hr.own i _ _ hi' (by simp);obtain⟨b0,o0,x0,Gx,g1,g2,g3,g4,g5,g6,g7,g8⟩:=hO.row (k:=0) (c:=c) (by omega) hc;obtain⟨k1, -⟩:=g8 (w':=w) (S:=λ_ _=>False) (y:= .j) (x':=x0) (Gy:=λ_ _=>False) (dt.refl _ _) (λ_ _ h=>h.elim) g2 ⟨g3.one,λ_ _ h=>h⟩ (λx y hg=>hg.elim);rw[hf]at g3;have hrt:∀{id m t},aW (kw i c n d (.s n1 len f1) L) id m t→(id=d∧m= .row∧t= .s n1 len f1)∨(id=i∧m= .box∧t= .s n 1 (m6 f 0 c .j))∨(id≠i∧id≠d∧aW L id m t):=λ{id m t} h=>by
  rcases List.mem_cons.1 h with h|h
  ·cases h;exact .inl ⟨rfl,rfl,rfl⟩
  rcases List.mem_cons.1 h with h|h
  ·cases h
  obtain⟨t0,h2,h3⟩:=h_.1 h
  by_cases e:id=i
  ·subst e;obtain⟨rfl,rfl⟩:=hr.one _ _ _ _ _ h2 hi';rw[if_pos rfl]at h3;exact .inr (.inl ⟨rfl,rfl,h3⟩)
  ·rw[if_neg e]at h3;subst h3;exact .inr (.inr ⟨e,λe'=>hdn (e' ▸ h2),h2⟩)
 have hrd:aW (kw i c n d (.s n1 len f1) L) d .row (.s n1 len f1):=mem_cons_self ..;have hri:aW (kw i c n d (.s n1 len f1) L) i .box (.s n 1 (m6 f 0 c .j)):=mem_cons_of_mem _ (mem_cons_of_mem _ (h_.2 ⟨_,hi',by rw[if_pos rfl];rfl⟩));have hro:∀{id m t},id≠i→aW L id m t→aW (kw i c n d (.s n1 len f1) L) id m t:=λ{id m t} h1 h=>mem_cons_of_mem _ (mem_cons_of_mem _ (h_.2 ⟨t,h,by rw[if_neg h1]⟩));let H':Nat→Value:=bm H d x0;have hHd:H' d=x0:=by simp[H',bm]
 have hHo:∀{id m t},aW L id m t→H' id=H id:=λ{id m t} h=>by
  have:id≠d:=λe=>hdn (e ▸ h);simp[H',bm,this]
 -- a way through the cell, or past it
 have hway:∀{id m t q},aW L id m t→bT t q→∃m' t',aW (kw i c n d (.s n1 len f1) L) (nJ i (n,0,c) d id q).1 m' t'∧bT t' (nJ i (n,0,c) d id q).2∧(∀{n2 l2:Nat} {f2:Nat→Nat→T},t.at q= .s n2 l2 f2→∃f3,t'.at (nJ i (n,0,c) d id q).2= .s n2 l2 f3)∧VM.hd w (H' (nJ i (n,0,c) d id q).1) (nJ i (n,0,c) d id q).2=VM.hd w (H id) q:=λ{id m t q} h hq=>by
  have hpast:(∀r,id=i→q≠(n,0,c) :: r)→∃m' t',aW (kw i c n d (.s n1 len f1) L) id m' t'∧bT t' q∧(∀{n2 l2:Nat} {f2:Nat→Nat→T},t.at q= .s n2 l2 f2→∃f3,t'.at q= .s n2 l2 f3)∧VM.hd w (H' id) q=VM.hd w (H id) q:=λhav=>by
   rw[hHo h]
   by_cases e:id=i
   ·subst e;obtain⟨rfl,rfl⟩:=hr.one _ _ _ _ _ h hi';obtain⟨p1,p2⟩:=BQ (y:= .j) hq λr=>hav r rfl;exact⟨_,_,hri,p1,λhh=>p2 hh,rfl⟩
   ·exact⟨m,t,hro e h,hq,λhh=>⟨_,hh⟩,rfl⟩
  cases q with
  | nil=>exact hpast λr _ e=>by cases e
  | cons e q=>
   simp only[nJ]
   by_cases hh:(beq id i&&CI e (n,0,c))=true
   ·rw[if_pos hh];simp only[Bool.and_eq_true]at hh;have e1:=eq_of_beq_eq_true hh.1;have e2:=B_ hh.2;subst e1 e2;obtain⟨rfl,rfl⟩:=hr.one _ _ _ _ _ h hi';obtain⟨_,_,_,hq'⟩:=hq;rw[hf]at hq';refine⟨_,_,hrd,hq',λhh=>⟨_,by simpa only[T.at,hf]using hh⟩,?_⟩;rw[hHd,A9 g1 g2]
   ·rw[if_neg hh];refine hpast λr h1 h2=>hh ?_;cases h2;rw[h1];simp[y8]
 have hleaf:∀x v,X.leaf x→VR (aW L) H w x v→VR (aW (kw i c n d (.s n1 len f1) L)) H' w (x.Bf i (n,0,c) d) v:=λx v hl h=>by
  cases x with
  | p id q n2 k c1=>
   obtain⟨m,t,h1,h2,⟨l2,f2,h3,h4,h5⟩,hv,A1,h6,h7⟩:=h;obtain⟨m',t',p1,p2,p3,p4⟩:=hway h1 h2;obtain⟨f3,p5⟩:=p3 h3;exact⟨m',t',p1,p2,⟨l2,f3,p5,h4,h5⟩,hv,A1,by rw[p4];exact h6,h7⟩
  | h id q=>
   obtain⟨m,t,h1,h2,⟨n2,l2,f2,h3⟩,h6⟩:=h;obtain⟨m',t',p1,p2,p3,p4⟩:=hway h1 h2;obtain⟨f3,p5⟩:=p3 h3;exact⟨m',t',p1,p2,⟨n2,l2,f3,p5⟩,by rw[p4];exact h6⟩
  | a id q n2 lo l2=>
   obtain⟨m,t,h1,h2,⟨l,f2,h3,h4⟩,hv,h6,h7⟩:=h;obtain⟨m',t',p1,p2,p3,p4⟩:=hway h1 h2;obtain⟨f3,p5⟩:=p3 h3;exact⟨m',t',p1,p2,⟨l,f3,p5,h4⟩,hv,by rw[p4];exact h6,h7⟩
  | _=>exact hl.elim
 refine⟨hs.kR,hs.lc,hs.fV,H',bm (bm G i λa p=>(G i a p∧¬Gx a p)∨False) d Gx,⟨λid m t m' t' h1 h2=>?_,λid m t h1 h2=>?_,λid t h1=>?_,λid t h1=>?_,λid t h1=>?_,λid m t id' m' t' h1 h2 hne2 hm x y hx hy=>?_,λt x h=>?_,λid c1 x h=>?_⟩,λid m t h1 h2 x y hx=>?_,λid m t h1 h2=>?_⟩
 ·rcases hrt h1 with⟨rfl,rfl,rfl⟩|⟨rfl,rfl,rfl⟩|⟨a1,a2,a3⟩<;>rcases hrt h2 with⟨b1,b2,b3⟩|⟨b1,b2,b3⟩|⟨b1,b2,b3⟩
  ·exact⟨b2.symm,b3.symm⟩
  ·exact absurd b1 hdi
  ·exact absurd rfl b2
  ·exact absurd b1.symm hdi
  ·exact⟨b2.symm,b3.symm⟩
  ·exact absurd rfl b1
  ·exact absurd b1 a2
  ·exact absurd b1 a1
  ·exact hr.one _ _ _ _ _ a3 b3
 ·rcases hrt h1 with⟨rfl,rfl,rfl⟩|⟨rfl,rfl,rfl⟩|⟨a1,a2,a3⟩
  ·simp only[bm,if_true];rw[hHd];exact g3
  ·simp only[bm,if_neg (Ne.symm hdi),if_true];rw[hHo hi'];exact k1
  ·simp only[bm,if_neg a1,if_neg a2];rw[hHo a3];exact hr.own _ _ _ a3 h2
 ·rcases hrt h1 with⟨_,h,_⟩|⟨_,h,_⟩|⟨a1,a2,a3⟩
  ·cases h
  ·cases h
  ·simp only[bm,if_neg a1,if_neg a2];rw[hHo a3];exact hr.ro _ _ a3
 ·rcases hrt h1 with⟨_,h,_⟩|⟨_,h,_⟩|⟨a1,a2,a3⟩
  ·cases h
  ·cases h
  ·simp only[bm,if_neg a1,if_neg a2];exact hr.fR _ _ a3
 ·rcases hrt h1 with⟨_,h,_⟩|⟨_,_,rfl⟩|⟨a1,a2,a3⟩
  ·cases h
  ·exact⟨_,_,rfl⟩
  ·exact hr.box _ _ a3
 ·rcases hrt h1 with⟨rfl,rfl,rfl⟩|⟨rfl,rfl,rfl⟩|⟨a1,a2,a3⟩<;>rcases hrt h2 with⟨b1,b2,b3⟩|⟨b1,b2,b3⟩|⟨b1,b2,b3⟩
  ·exact hne2 b1.symm
  ·subst b1;simp only[bm,if_true]at hx;simp only[bm,if_neg (Ne.symm hdi),if_true]at hy;rcases hy with⟨_,hy⟩|hy
   ·exact hy hx
   ·exact hy
  ·simp only[bm,if_true]at hx;simp only[bm,if_neg b1,if_neg b2]at hy;exact hr.jZ _ _ _ _ _ _ hi' b3 (Ne.symm b1) (by simp) x y (g6 x y hx) hy
  ·subst b1;simp only[bm,if_true]at hy;simp only[bm,if_neg (Ne.symm hdi),if_true]at hx;rcases hx with⟨_,hx⟩|hx
   ·exact hx hy
   ·exact hx
  ·exact hne2 b1.symm
  ·simp only[bm,if_neg (Ne.symm hdi),if_true]at hx;simp only[bm,if_neg b1,if_neg b2]at hy;rcases hx with⟨hx,_⟩|hx
   ·exact hr.jZ _ _ _ _ _ _ hi' b3 hne2 (by simp) x y hx hy
   ·exact hx
  ·subst b1;simp only[bm,if_true]at hy;simp only[bm,if_neg a1,if_neg a2]at hx;exact hr.jZ _ _ _ _ _ _ hi' a3 (Ne.symm a1) (by simp) x y (g6 x y hy) hx
  ·subst b1;simp only[bm,if_neg (Ne.symm hdi),if_true]at hy;simp only[bm,if_neg a1,if_neg a2]at hx;rcases hy with⟨hy,_⟩|hy
   ·exact hr.jZ _ _ _ _ _ _ hi' a3 (Ne.symm a1) (by simp) x y hy hx
   ·exact hy
  ·simp only[bm,if_neg a1,if_neg a2]at hx;simp only[bm,if_neg b1,if_neg b2]at hy;exact hr.jZ _ _ _ _ _ _ a3 b3 hne2 hm x y hx hy
 ·rcases List.mem_cons.1 h with h|h
  ·cases h
  rcases List.mem_cons.1 h with h|h
  ·cases h
  obtain⟨x',h1,rfl⟩:=kA h;exact VR.lS hleaf (hr.sl t x' h1)
 ·rcases List.mem_cons.1 h with h|h
  ·cases h
  rcases List.mem_cons.1 h with h|h
  ·cases h;refine⟨n,_,hri,hc,⟨b0,o0,none⟩,x0,?_,g2,⟨_,_,hrd,trivial,⟨_,_,_,rfl⟩,by rw[hHd];rfl⟩⟩;rw[hHo hi'];obtain⟨a0,l0,c0,q1,q2⟩:=ez g1;rw[q1]at g1 ⊢;rw[←g1];simp[gU]
  obtain⟨x',h1,rfl⟩:=kD h;obtain⟨n3,f3,p1,p2,A3,v3,p3,p4,p5⟩:=hr.al id c1 x' h1
  by_cases e:id=i
  ·subst e;have:=(hr.one _ _ _ _ _ hi' p1).2;cases this;exact⟨n,_,hri,p2,A3,v3,by rw[hHo hi'];exact p3,p4,VR.lS hleaf p5⟩
  ·exact⟨n3,f3,hro e p1,p2,A3,v3,by rw[hHo p1];exact p3,p4,VR.lS hleaf p5⟩
 ·rcases hrt h1 with⟨rfl,rfl,rfl⟩|⟨rfl,rfl,rfl⟩|⟨a1,a2,a3⟩
  ·simp only[bm,if_true]at hx;exact hG.1 _ _ _ hi' (by simp) x y (g6 x y hx)
  ·simp only[bm,if_neg (Ne.symm hdi),if_true]at hx;rcases hx with⟨hx,_⟩|hx
   ·exact hG.1 _ _ _ hi' (by simp) x y hx
   ·exact hx.elim
  ·simp only[bm,if_neg a1,if_neg a2]at hx;exact hG.1 _ _ _ a3 h2 x y hx
 ·rcases hrt h2 with⟨rfl,rfl,rfl⟩|⟨rfl,rfl,rfl⟩|⟨a1,a2,a3⟩
  ·omega
  ·rw[hHo hi'];exact hG.2 _ _ _ h1 hi'
  ·rw[hHo a3];exact hG.2 _ _ _ h1 a3
open Go Go.RowKit
theorem Ch(k:Nat)(h:k<2 ^ 63):bR .quo (iv k) (iv 4)=some (iv ((k / 4:Nat):Int)):=by
 show some (Value.int .i64 (IntKind.wrap .i64 ((k:Int).tdiv 4)))=_;rw[Int.tdiv_eq_ediv_of_nonneg (by omega),show((k:Int) / 4)=((k / 4:Nat):Int) by omega,IntWalk.i64_in _ (by omega)]
theorem lC(k:Nat):bR .rem (iv k) (iv 4)=some (iv ((k%4:Nat):Int)):=by
 show some (Value.int .i64 ((k:Int).tmod 4))=_;have:((k:Int).tmod 4)=((k%4:Nat):Int):=by rw[Int.tmod_eq_emod_of_nonneg (by omega)];omega
 rw[this]
open Go Go.RowKit
section
variable{P:Program}{N:Nat}{L L':List E}{Q:Exit→List E→Prop}{ops:Array Oper}{rest:List Oper}{o:Oper}{qs pend todo:List Nat}{S:Array Bool}
theorem qq{d:Nat}{x:X}{gb:Bool}(h:Qt P o L x)(k:aB P N ops rest Q (cn L d x))(hw:b9 ops L o=some gb:=by exact rfl)(hgb:gb=true:=by exact rfl)(hd:o.dst=some d:=by exact rfl)(hN:d<N:=by decide):aB P N ops (o :: rest) Q L:=aB.q hw hgb hd hN h k
theorem nm(k:aB P N ops rest Q L')(h:L=L':=by simp only[go_sem,Int.reduceToNat,Nat.reduceLT,reduceIte,Nat.reduceEqDiff,Nat.reduceAdd,Nat.reduceMul,Nat.reduceBEq,reduceCtorEq];rfl):aB P N ops rest Q L:=aB.D2 h k
theorem nl(k:Q .normal L')(h:L=L':=by simp only[go_sem,Int.reduceToNat,Nat.reduceLT,reduceIte,Nat.reduceEqDiff,Nat.reduceAdd,Nat.reduceMul,Nat.reduceBEq,reduceCtorEq];rfl):aB P N ops [] Q L:=aB.BH h k
theorem na(k:aO P N ops qs Q S pend todo L')(h:L=L':=by first|(simp only[go_sem,Int.reduceToNat,Nat.reduceLT,reduceIte,Nat.reduceEqDiff,Nat.reduceAdd,Nat.reduceMul,Nat.reduceBEq,reduceCtorEq];rfl)|rfl):aO P N ops qs Q S pend todo L:=aO.D2 h k
theorem tk(i:Nat){x:X}{d:Nat}{o:Oper}{gb:Bool}(ho:ops[i]? =some o)(h:Qt P o L x)(k:aO P N ops qs Q (S.setIfInBounds i true) (i :: pend) [] (cn L d x))(hd:o.dst=some d:=by exact rfl)(hq':qs.contains i=true:=by exact rfl)(hr:(Region.ready .any ops S).contains i=true:=by decide +kernel)(hw:b9 ops L o=some gb:=by exact rfl)(hgb:gb=true:=by exact rfl):aO P N ops qs Q S pend [] L:=
 aO.take i ho hd hq' hr (.on hw hgb h) k
theorem tg(i:Nat){x:X}{d:Nat}{o:Oper}{gb:Bool}(ho:ops[i]? =some o)(hgb:gb=true)(h:Qt P o L x)(k:aO P N ops qs Q (S.setIfInBounds i true) (i :: pend) [] (cn L d x))(hd:o.dst=some d:=by exact rfl)(hq':qs.contains i=true:=by exact rfl)(hr:(Region.ready .any ops S).contains i=true:=by decide +kernel)(hw:b9 ops L o=some gb:=by exact rfl):aO P N ops qs Q S pend [] L:=
 aO.take i ho hd hq' hr (.on hw hgb h) k
theorem tf(i:Nat){d:Nat}{o:Oper}{gb:Bool}(hgb:gb=false)(k:aO P N ops qs Q (S.setIfInBounds i true) (i :: pend) [] (cn L d (.v undef)))(ho:ops[i]? =some o:=by exact rfl)(hd:o.dst=some d:=by exact rfl)(hq':qs.contains i=true:=by exact rfl)(hr:(Region.ready .any ops S).contains i=true:=by decide +kernel)(hw:b9 ops L o=some gb:=by exact rfl):aO P N ops qs Q S pend [] L:=
 aO.take i ho hd hq' hr (.off hw hgb) k
theorem nz(k:Q .normal L')(hr:Region.ready .any ops S=[]:=by decide +kernel)(h:L=L':=by first|(simp only[go_sem,Int.reduceToNat,Nat.reduceLT,reduceIte,Nat.reduceEqDiff,Nat.reduceAdd,Nat.reduceMul,Nat.reduceBEq,reduceCtorEq];rfl)|rfl):aO P N ops qs Q S pend [] L:=aO.BH hr h k
theorem ss{gb:Bool}(k:aB P N ops rest Q L')(h:aE P N o L L':=by first|exact aE.lG rfl rfl rfl rfl (by decide) rfl|exact aE.store rfl rfl (by simp) rfl rfl rfl (by decide) rfl)(hw:b9 ops L o=some gb:=by exact rfl)(hgb:gb=true:=by exact rfl):aB P N ops (o :: rest) Q L:=aB.step hw hgb h k
theorem sp{gb:Bool}(h:aE P N o L L')(k:aB P N ops rest Q L')(hw:b9 ops L o=some gb:=by exact rfl)(hgb:gb=true:=by exact rfl):aB P N ops (o :: rest) Q L:=aB.step hw hgb h k
theorem jd(h:Q .normal L):AW P N .skip Q L:=AW.skip h
end
section
variable{P:Program}{L:List E}{dst:Option Tmp}{ty:TypeId}{pos:String}{af:Array Edge}{g:Option (Nat×Bool)}
theorem fA{t:TypeId}{x:Operand}{i off id:Nat}{q:bF}{n k c:Nat}{m:M}{T0:T}{len:Nat}{f:Nat→Nat→T}(hF:dj P t i off)(hx:cp L x= .p id q n k c:=by exact rfl)(hR:bZ L id=some (m,T0):=by exact rfl)(hT:T0.at q= .s n len f:=by exact rfl)(hc:c+off<n:=by decide):Qt P ⟨dst,.fieldAddr t x i,ty,pos,af,g⟩ L (.p id q n k (c+off)):=Qt.fieldAddr hx hF hR hT hc
end
theorem ah:(∀(p:Prop) [Decidable p],(decide p=true)=p)∧(∀(p:Prop) [Decidable p],(decide p=false)= ¬p)∧(∀a b:Int,((a != b)=true)= ¬(a=b))∧(∀a b:Int,((a==b)=true)=(a=b))∧(∀a b:Int,((a==b)=false)= ¬(a=b))∧(∀a b:Int,((a != b)=false)=(a=b))∧
    (∀b:Bool,((!b)=true)=(b=false))∧(∀b:Bool,((!b)=false)=(b=true))∧(∀a b:Bool,((a&&b)=true)=(a=true∧b=true))∧(∀a b:Bool,((a || b)=true)=(a=true∨b=true))∧(∀a b:Bool,((a&&b)=false)=(a=false∨b=false))∧(∀a b:Bool,((a || b)=false)=(a=false∧b=false))∧
    (∀a b:Int,(¬a<b)=(b≤a))∧(∀a b:Int,(¬a≤b)=(b<a))∧(∀n:Nat,(n:Int).toNat=n):=by
  refine⟨?_,?_,?_,?_,?_,?_,?_,?_,?_,?_,?_,?_,?_,?_,?_⟩<;>intros<;>first|(simp;done)|(rename_i a b;cases a<;>cases b<;>simp)
section
variable{P:Program}{N:Nat}{L:List E}{Q:Exit→List E→Prop}{ops:Array Oper}{rest:List Oper}{d:Nat}{ty:TypeId}{pos:String}{af:Array Edge}{g:Option (Nat×Bool)}
theorem cv{f:FuncId}{cal:Operand}{caps:List X}{args:Array Operand}{tys:Array TypeId}{xs:List X}{ρ:List E}{m:Nat}{r:Value}{gb:Bool}(hE:lL P f)(hcal:cp L cal= .f f caps)(hq:oU L (args.toList.map (cp L)++caps) aa=(xs,ρ,m))(hc:a_ P f xs ρ λx _=>x= .v r)
  (k:aB P N ops rest Q (cn L d (.v r))) (hN:d<N:=by decide) (hw:b9 ops L ⟨some d,.call { callee:= .value cal,args:=args,argTypes:=tys },ty,pos,af,g⟩=some gb:=by exact rfl) (hgb:gb=true:=by exact rfl):aB P N ops (⟨some d,.call { callee:= .value cal,args:=args,argTypes:=tys },ty,pos,af,g⟩ :: rest) Q L:=
 aB.step hw hgb (aE.aC rfl hN hE hcal hq hc) k
end
open Go Go.RowKit
theorem dt.zK{S:FP}{w w':World}(h:Below w.heap.size w w'):dt S w w':=by
 refine⟨h.os,h.tape,h.output,h.size,λb cur e fr hb=>⟨cur,?_,rfl,λ_ _=>rfl⟩,λb o hb _=>?_⟩
 ·rw[h.block b (Array.getElem?_eq_some_iff.1 hb).1];exact hb
 ·rw[h.block b (Array.getElem?_eq_some_iff.1 hb).1];exact hb
def gH(l:List ByteArray):ByteArray:=l.foldl (· ++ ·) ByteArray.empty
theorem ia(l r:List ByteArray):gH (l++r)=r.foldl (· ++ ·) (gH l):=foldl_append ..
theorem wy(r:List ByteArray):∀a:ByteArray,(r.foldl (· ++ ·) a).data.toList=a.data.toList++(r.map (·.data.toList)).flatten:=by
  induction r with
  | nil=>intro a;simp
  | cons x r ih=>intro a;rw[foldl_cons,ih];simp[append_assoc]
theorem pr(l:List ByteArray):(⟨(Go.Lib.join (l.map (·.data.toList)) ByteArray.empty.data.toList).toArray⟩:ByteArray)=gH l:=by
 have h:∀xs:List (List UInt8),Go.Lib.join xs []=xs.flatten:=λxs=>by
  cases xs with
  | nil=>rfl
  | cons x r=>
   rw[Go.Lib.join_cons,Go.Lib.joinTail];simp
 have h2:=wy l ByteArray.empty;have e:(gH l).data.toList=(l.map (·.data.toList)).flatten:=by rw[gH,h2];simp
 show(⟨(Go.Lib.join (l.map (·.data.toList)) []).toArray⟩:ByteArray)=gH l;rw[h,←e]
theorem yX{P:Program}{f:FuncId}
  (hj:∀(bk o c:Nat) (xs:List ByteArray) (w:World),(∀(j:Nat) x,xs[j]? =some x→w.cell? ⟨bk,o+j,none⟩=some (.string x))→bk<w.heap.size→xs.length≤140737488355328→xs.length≤c→(Go.Lib.join (xs.map (·.data.toList)) ByteArray.empty.data.toList).length≤140737488355328→
   Calls P f #[.slice (some ⟨bk,o,none⟩) xs.length c,.string ByteArray.empty] w λe w'=>e= .returned (.string ⟨(Go.Lib.join (xs.map (·.data.toList)) ByteArray.empty.data.toList).toArray⟩)∧Below w.heap.size w w')
  (h0:∀(a:Option Addr) (c:Nat) (w:World),Calls P f #[.slice a 0 c,.string ByteArray.empty] w λe w'=>e= .returned (.string ⟨#[]⟩)∧w'=w)
  (l:List ByteArray) (hN:l.length≤140737488355328) (hs:(gH l).size≤140737488355328):
  a_ P f [.h aa [],.v (.string ByteArray.empty)] [.rt aa .ro (tr l)] (λy _=>y= .v (.string (gH l))):=by
 intro w vs H G _ _ hr hv
 match vs,hv with
 | [v,s],⟨⟨m,t,_,_,_,hh⟩,hs2,_⟩=>
 simp only[hd,Option.some.injEq]at hh;obtain rfl:s= .string ByteArray.empty:=hs2;have hR:=hr.ro aa (tr l) (List.mem_singleton.2 rfl);have hold:=hr.fR aa (tr l) (List.mem_singleton.2 rfl);obtain⟨hn,a,cap,e0,hl,hm,b,off,V,Gk,h1,h2⟩:=hR;have hv:v= .slice a l.length cap:=by rw[←hh,e0]
 subst hv;have fin:∀(e:Ending) (w':World),e= .returned (.string (gH l))→Below w.heap.size w w'→∃v x L H' G' val,e= .returned v∧x=X.v (.string (gH l))∧Rp L val H' G' w'∧VR (aW L) H' w' x v∧
   dt (λa o=>∃id m t,aW [E.rt aa .ro (tr l)] id m t∧m≠ .ro∧G id a o) w w'∧
   (∀id m t,aW L id m t→m≠ .ro→∀a o,G' id a o→(∃id m t,aW [E.rt aa .ro (tr l)] id m t∧m≠ .ro∧G id a o)∨w.heap.size≤a)∧
   ∀id m t,aa≤id→aW L id m t→H' id=H id:=λe w' he hb=>by
  refine⟨_,_,[],H,G,λ_=>undef,he,rfl,?_,rfl,dt.zK hb,?_,?_⟩
  ·have no:∀{α:Prop} {e:E},e∈([]:List E)→α:=λh=>by cases h
   exact⟨λ_ _ _ _ _ h=>no h,λ_ _ _ h=>no h,λ_ _ h=>no h,λ_ _ h=>no h,λ_ _ h=>no h,λ_ _ _ _ _ _ h=>no h,λ_ _ h=>no h,λ_ _ _ h=>no h⟩
  ·intro _ _ _ h;cases h
  ·intro _ _ _ _ h;cases h
 rcases eq_zero_or_pos l.length with hz|hp
 ·have hl0:l=[]:=eq_nil_of_length_eq_zero hz;subst hl0;refine(h0 a cap w).mono λe w' ⟨he,hw⟩=>fin e w' (he.trans rfl) (hw ▸ Below.refl _ _)
 ·obtain rfl:=h1 hp;have hcell:∀(j:Nat) x,l[j]? =some x→w.cell? ⟨b,off+j,none⟩=some (.string x):=λj x hx=>by
   have hj:j<l.length:=(List.getElem?_eq_some_iff.1 hx).1;obtain⟨g1,g2,_⟩:=h2 j 0 hj (by decide);rw[show j*En.n ByteArray+0=j from Nat.mul_one j]at g1;have g3:V j 0= .string (l.getD j En.ab):=g2.1;rw[g1,g3];simp[getD_eq_getElem?_getD,hx]
  obtain⟨g1,_,g3,_⟩:=h2 0 0 hp (by decide);refine(hj b off cap l w hcell (hold _ _ g3) hN hl ?_).mono λe w' ⟨he,hw⟩=>fin e w' (he.trans (by rw[pr])) hw;have:=congrArg ByteArray.size (pr l);have h4:(⟨(Go.Lib.join (l.map (·.data.toList)) ByteArray.empty.data.toList).toArray⟩:ByteArray).size=(Go.Lib.join (l.map (·.data.toList)) ByteArray.empty.data.toList).length:=by
   show Array.size _=_;simp
  omega
theorem fv{l ys:List ByteArray}{m:Nat}{g:Nat→Nat→T}(hm:m=ys.length)(hg:∀k,k<m→jg (g k 0)= .v (.string (ys.getD k ByteArray.empty))):
  (oq 1 l.length (λk c=>(En.cs (l.getD k En.ab)).getD c .j) m λk c=>jg (g k c)).bb (tr (l++ys)):=by
 subst hm;exact cj (l':=ys) rfl (λk c _ _=>rfl) λk c hk hc=>by
  have hc':c<1:=hc;obtain rfl:c=0:=by omega
  exact hg k hk
theorem xC{α:Type}[En α]{l:List α}{n m:Nat}{f:Nat→Nat→T}(hn:n=En.n α)(hm:m=l.length)(h:∀k c,k<m→c<n→f k c=(En.cs (l.getD k En.ab)).getD c .j):(T.s n m f).bb (tr l):=by
 subst hn hm;exact T.vt h
theorem cY{α:Type}[En α]{l:List α}{n m:Nat}{f:Nat→Nat→T}(h1:En.n α=1)(hn:n=En.n α)(hm:m=l.length)(h:∀k,k<m→f k 0=(En.cs (l.getD k En.ab)).getD 0 .j):(T.s n m f).bb (tr l):=
 xC hn hm λk c hk hc=>by
  obtain rfl:c=0:=by omega
  exact h k hk
def dV{α:Type}(f:α→ByteArray)(d:α)(l:List α):Nat→ByteArray
 | 0=>ByteArray.empty
 | k+1=>dV f d l k++f (l.getD k d)
theorem eh{α:Type}(f:α→ByteArray)(d:α)(l:List α)(k:Nat):dV f d l (k+1)=dV f d l k++f (l.getD k d):=rfl
theorem fm{α:Type}{f:α→ByteArray}{d:α}{l:List α}{m:Nat}(h:∀x,(f x).size≤m):∀k,(dV f d l k).size≤k*m
 | 0=>by simp[dV]
 | k+1=>by
  have h1:=fm h k (d:=d) (l:=l);have h2:=h (l.getD k d);rw[dV,ByteArray.size_append,Nat.add_mul];omega
theorem gf{α:Type}{f:α→ByteArray}{d:α}{l:List α}{m:Nat}(h:∀i,i<l.length→(f (l.getD i d)).size≤m):∀k,k≤l.length→(dV f d l k).size≤k*m
 | 0,_=>by simp[dV]
 | k+1,hk=>by
  have h1:=gf h k (by omega);have h2:=h k (by omega);rw[dV,ByteArray.size_append,Nat.add_mul];omega
structure q4(s:Nat→ByteArray)(n m0 w:Nat) where
 k:Nat
 le:k≤n
 acc:List ByteArray
 eq:gH acc=s k
 len:acc.length≤m0+w*k
theorem q4.next{s:Nat→ByteArray}{n m0 w:Nat}(i:q4 s n m0 w)(ys:List ByteArray)(h:ys.foldl (· ++ ·) (s i.k)=s (i.k+1)):gH (i.acc++ys)=s (i.k+1):=by rw[ia,i.eq,h]
theorem q4.more{s:Nat→ByteArray}{n m0 w:Nat}(i:q4 s n m0 w)(ys:List ByteArray)(h:ys.length=w):(i.acc++ys).length≤m0+w*(i.k+1):=by
 rw[length_append,h,Nat.mul_add];have:=i.len;omega
open Go Go.RowKit
section
variable{P:Program}{N:Nat}{L L':List E}{Q:Exit→List E→Prop}{ops:Array Oper}{l rest:List Oper}{o:Oper}{qs pend todo:List Nat}{S:Array Bool}
theorem Rf{id:Nat}{m:M}{t:T}(h:bZ L id=some (m,t)):∃t0,bZ L id=some (m,t0)∧t0.bb t:=⟨t,h,T.eQ t⟩
theorem ew{a b:X}(h:a=b:=by simp only[ax,reduceIte,Nat.reduceEqDiff];first|rfl|(rw[IntWalk.i64_in _ (by omega)];rfl)):a=b:=h
theorem rb{a b:Bool}(h:a=b):bi [X.v (.bool a)]=X.v (.bool b):=by rw[h];rfl
theorem AW.aL{c:Code}{ι:Type}(J:ι→List E)(μ:ι→Nat)(i:ι)(hw:ar N L (J i))(h:∀i,AW P N c (aD (λL=>∃i',ar N L (J i')∧μ i'<μ i) Q) (J i)):AW P N (.loop c) Q L:=AW.bS hw (AW.loop J μ i h)
theorem qg{d:Nat}{x:X}{gb:Bool}(hgb:gb=true)(h:Qt P o L x)(k:aB P N ops rest Q (cn L d x))(hw:b9 ops L o=some gb:=by exact rfl)(hd:o.dst=some d:=by exact rfl)(hN:d<N:=by decide):aB P N ops (o :: rest) Q L:=aB.q hw hgb hd hN h k
theorem og{d:Nat}{gb:Bool}(hgb:gb=false)(k:aB P N ops rest Q (cn L d (.v undef)))(hw:b9 ops L o=some gb:=by exact rfl)(hd:o.dst=some d:=by exact rfl)(hN:d<N:=by decide):aB P N ops (o :: rest) Q L:=aB.out hw hgb hd hN k
theorem wj(d:Nat)(ds:List Nat){v v':Value}{LB:List E}(e:v=v')(hB:VM.fX L ds=LB)(K:aB P N ops l Q (cn LB d (.v v')))(h:ax L d= .v v:=by exact rfl):aB P N ops l Q L:=aB.bS (ar.join h e hB) K
theorem a1(j:Nat){L1:List E}{gb:Bool}(pend' D:List Nat)(ho:ops[j]? =some o)(hgb:gb=true)(h:aE P N o L L1)(k:aO P N ops qs Q (S.setIfInBounds j true) pend' pend' L1)(hr:Region.ready .any ops S=[j]:=by decide +kernel)(hw:b9 ops L o=some gb:=by exact rfl)
  (hD:fz ops [j] D=true:=by decide +kernel) (hp:(pend.all λi=>pend'.contains i || D.contains i)=true:=by decide +kernel) (hp':(pend'.all λi=>pend.contains i)=true:=by decide +kernel):aO P N ops qs Q S pend [] L:=aO.one j pend' D hr ho hw hgb hD hp hp' h k
theorem o1(j:Nat){d:Nat}{gb:Bool}(pend' D:List Nat)(ho:ops[j]? =some o)(hgb:gb=false)(k:aO P N ops qs Q (S.setIfInBounds j true) pend' pend' (cn L d (.v undef)))(hr:Region.ready .any ops S=[j]:=by decide +kernel)(hw:b9 ops L o=some gb:=by exact rfl)
  (hD:fz ops [j] D=true:=by decide +kernel) (hp:(pend.all λi=>pend'.contains i || D.contains i)=true:=by decide +kernel) (hp':(pend'.all λi=>pend.contains i)=true:=by decide +kernel) (hd:o.dst=some d:=by exact rfl) (hN:d<N:=by decide):aO P N ops qs Q S pend [] L:=aO.Cm j pend' D hr ho hw hgb hD hp hp' hd hN k
end
open Go Go.RowKit Go.Sort
theorem Be{w:World}{t:T}{F:FP}{v:Value}(h:du w t F v){w':World}:du w' .j (λ_ _=>False) v:=⟨h.one,λ_ _ h=>h⟩
def x7(t':T)(cs:List Nat):List E:= .rt 0 .row t' :: cs.map λid=> .rt id .row .j
theorem fu{t':T}{cs:List Nat}{id:Nat}{m:M}{t:T}:aW (x7 t' cs) id m t↔(id=0∧m= .row∧t=t')∨(id∈cs∧m= .row∧t= .j):=by
 simp only[aW,x7,mem_cons,mem_map,E.rt.injEq];constructor
 ·rintro (⟨a,b,c⟩|⟨i,h,a,b,c⟩)
  ·exact .inl ⟨a,b,c⟩
  ·exact .inr ⟨a ▸ h,b.symm,c.symm⟩
 ·rintro (⟨a,b,c⟩|⟨h,b,c⟩)
  ·exact .inl ⟨a,b,c⟩
  ·exact .inr ⟨id,h,rfl,b.symm,c.symm⟩
theorem sk{ρ0:List E}{w w':World}{H:Nat→Value}{G:Nat→FP}{t':T}{F':FP}{v':Value}{S:FP}(cs:List Nat)(hr:Rp ρ0 (λ_=>undef) H G w)(hcs:∀id∈cs,aa≤id∧∃m t,m≠ .ro∧aW ρ0 id m t)
  (hC:dt S w w') (hS:∀a o,S a o→∃id m t,aW ρ0 id m t∧m≠ .ro∧G id a o) (hO:du w' t' F' v') (hs:t'.sY=true) (hF:∀a o,F' a o→(∃id m t,aW ρ0 id m t∧m≠ .ro∧G id a o)∨w.heap.size≤a):
  ∃x L H' G' val,ch (.h 0 []) [(0,.row,t')] (cs.map λid=>(id,T.j)) x L∧Rp L val H' G' w'∧VR (aW L) H' w' x v'∧
   dt (λa o=>∃id m t,aW ρ0 id m t∧m≠ .ro∧G id a o) w w'∧
   (∀id m t,aW L id m t→m≠ .ro→∀a o,G' id a o→(∃id m t,aW ρ0 id m t∧m≠ .ro∧G id a o)∨w.heap.size≤a)∧
   ∀id m t,aa≤id→aW L id m t→H' id=H id:=by
 obtain⟨n,len,f,rfl⟩:=T.sb hs;have hb0:∀id∈cs,id≠0:=λid h e=>by have:=(hcs id h).1;rw[e,aa]at this;omega
 have h0:aW (x7 (.s n len f) cs) 0 .row (.s n len f):=fu.2 (.inl ⟨rfl,rfl,rfl⟩);refine⟨.h 0 [],x7 (.s n len f) cs,bm H 0 v',λid=>if id=0 then F' else λ_ _=>False,λ_=>undef,⟨λn=>n,rfl,λ_ _=>rfl,by simp,?_,?_⟩,?_,?_,hC.mono λa o _ h=>hS a o h,?_,?_⟩
 ·intro r hr';cases List.mem_singleton.1 hr';exact⟨by simp,h0,by simp[aa]⟩
 ·intro p hp;obtain⟨id,h,rfl⟩:=List.mem_map.1 hp;exact fu.2 (.inr ⟨h,rfl,rfl⟩)
 ·refine⟨λid m t m' t' h h'=>?_,λid m t h _=>?_,λid t h=>?_,λid t h=>?_,λid t h=>?_,λid m t id' m' t' h h' hne _ x y hx hy=>?_,λt x h=>?_,λid c x h=>?_⟩
  ·rcases fu.1 h with⟨a1,a2,a3⟩|⟨a1,a2,a3⟩<;>rcases fu.1 h' with⟨b1,b2,b3⟩|⟨b1,b2,b3⟩
   ·exact⟨a2.trans b2.symm,a3.trans b3.symm⟩
   ·exact absurd a1 (hb0 id b1)
   ·exact absurd b1 (hb0 id a1)
   ·exact⟨a2.trans b2.symm,a3.trans b3.symm⟩
  ·rcases fu.1 h with⟨rfl,rfl,rfl⟩|⟨a1,rfl,rfl⟩
   ·simpa [bm]using hO
   ·have hne:=hb0 id a1;obtain⟨_,m,t,g1,g2⟩:=hcs id a1;simp only[bm,if_neg hne];exact Be (hr.own id m t g2 g1)
  ·rcases fu.1 h with⟨_,h,_⟩|⟨_,h,_⟩<;>cases h
  ·rcases fu.1 h with⟨_,h,_⟩|⟨_,h,_⟩<;>cases h
  ·rcases fu.1 h with⟨_,h,_⟩|⟨_,h,_⟩<;>cases h
  ·rcases fu.1 h with⟨rfl,_,_⟩|⟨a1,_,_⟩
   ·rw[if_neg (Ne.symm hne)]at hy;exact hy
   ·rw[if_neg (hb0 id a1)]at hx;exact hx
  ·simp[x7]at h
  ·simp[x7]at h
 ·exact⟨.row,_,h0,trivial,⟨n,len,f,rfl⟩,by simp[hd,bm]⟩
 ·intro id m t h _ a o hg;rcases fu.1 h with⟨rfl,_,_⟩|⟨a1,_,_⟩
  ·rw[if_pos rfl]at hg;exact hF a o hg
  ·rw[if_neg (hb0 id a1)]at hg;exact hg.elim
 ·intro id m t hb h;have:id≠0:=by rw[aa]at hb;omega
  simp[bm,this]
theorem yS{w:World}{b off cap sz:Nat}{l:List Int}(hc:l.length≤cap)(hm:cap≤maxLen)(hk:Kd w b sz)(hsz:off+cap≤sz)(hcell:∀k,k<l.length→w.cell? ⟨b,off+k,none⟩=some (iv (l.getD k 0))):du w (tr l) (λx _=>0<cap∧x=b) (.slice (some ⟨b,off,none⟩) l.length cap):=by
 refine⟨by decide,_,cap,rfl,hc,hm,b,off,λk _=>iv (l.getD k 0),λ_ _ _ _=>False,λ_=>⟨rfl,sz,hk,?_⟩,?_,?_,?_,?_⟩
 ·have:cap*En.n Int=cap:=Nat.mul_one cap;omega
 ·intro k c hk' hc';have hc':c<1:=hc';obtain rfl:c=0:=by omega
  rw[show k*En.n Int+0=k from Nat.mul_one k];exact⟨hcell k hk',rfl,rfl,λ_ _ h=>h⟩
 ·intros;assumption
 ·intro _ _ _ _ _ _ h;exact h.elim
 ·intro x y;constructor
  ·exact λh=> .inl h
  ·rintro (h|⟨_,_,_,_,h⟩)
   ·exact h
   ·exact h.elim
open Go Go.RowKit Go.Sort Go.Shelf Go.Proofs
open Go Go.RowKit Go.Sort Go.Shelf Go.Proofs
open Go Go.RowKit
def zd:List X→Bool
 | []=>true
 | .v _ :: r=>zd r
 | _=>false
theorem tw{R R':RT}{H H':Nat→Value}{w:World}:∀{xs:List X} {vs:List Value},zd xs=true→db R H w xs vs→db R' H' w xs vs
 | [],[],_,_=>trivial
 | .v x :: xs,v :: vs,h,⟨h1,h2⟩=>⟨h1,tw (xs:=xs) h h2⟩
 | _ :: _,[],_,h=>h.elim
 | [],_ :: _,_,h=>h.elim
 | .j :: _,_ :: _,h,_=>by cases h
 | .c :: _,_ :: _,h,_=>by cases h
 | .p .. :: _,_ :: _,h,_=>by cases h
 | .h .. :: _,_ :: _,h,_=>by cases h
 | .a .. :: _,_ :: _,h,_=>by cases h
 | .g _ :: _,_ :: _,h,_=>by cases h
 | .t _ :: _,_ :: _,h,_=>by cases h
 | .f .. :: _,_ :: _,h,_=>by cases h
section
variable{P:Program}{N:Nat}{L:List E}{dst:Option Tmp}{ty:TypeId}{pos:String}{af:Array Edge}{g:Option (Nat×Bool)}{d:Nat}
def Et(al:Bool)(i cd:Nat)(L:List E):List E:=if al=true then .al i 0 (.h cd []) :: L else L
end
section
variable{P:Program}{N:Nat}{Q:Exit→List E→Prop}{L:List E}{ops:Array Oper}{rest:List Oper}{o:Oper}{K:List E→Prop}
variable{qs pend todo:List Nat}{S:Array Bool}
end
def B1(i h:Int):Nat→Nat→T:=λ_ c=>match c with|0=> .j|1=> .v (iv i)|2=> .v (iv h)|_=> .j
theorem Dg(i h:Int)(k:Nat):B1 i h k 0= .j:=rfl
theorem C5(i h:Int)(k:Nat):B1 i h k 1= .v (iv i):=rfl
theorem CZ(i h:Int)(k:Nat):B1 i h k 2= .v (iv h):=rfl
attribute [go_sem] Dg C5 CZ Et jm
open Go Go.RowKit
theorem ar.Ea{N:Nat}{L:List E}{d:Nat}{x x':X}(h:ax L d=x)(hv:∀val H G w v,Rp L val H G w→VR (aW L) H w x v→VR (aW L) H w x' v):ar N L (cn L d x'):=λcx a w hs=>by
 obtain⟨H,G,hr,hG⟩:=hs.rp;have h1:=dw hr (.tmp d);simp only[cp,h]at h1;have h2:=hv _ _ _ _ _ hr h1;refine⟨hs.kR,hs.lc,hs.fV,H,G,(hr.put (d:=d) (x:=x') h2).val λt=>?_,by rw[cq];exact hG⟩;split
 ·rename_i e;rw[e];rfl
 ·rfl
def Aj(id:Nat):List E→List E
 | []=>[]
 | .rt i m t :: L=>if i=id then .rt i .ro t :: Aj id L else .rt i m t :: Aj id L
 | .sl s x :: L=> .sl s x :: Aj id L
 | .al i c x :: L=> .al i c x :: Aj id L
attribute [go_sem] Aj
open Go Go.RowKit
open Go Go.RowKit
def wV(s:ByteArray)(k:Nat):UInt8:=s.data.toList.getD k 0
section
variable{P:Program}{N:Nat}{L:List E}{dst:Option Tmp}{ty:TypeId}{pos:String}{af:Array Edge}{g:Option (Nat×Bool)}{d:Nat}
theorem Qt.zR{t:TypeId}{x i:Operand}{s:ByteArray}{kd:IntKind}{j:Int}(hx:cp L x= .v (.string s))(hi:cp L i= .v (.int kd j))(ht:P.underlying t=some .string)(h0:0≤j)(h1:j<s.size):Qt P ⟨dst,.index t x i,ty,pos,af,g⟩ L (.v (bv (wV s j.toNat))):=
 (λH w a he _=>by
  have h2:=he x;rw[hx]at h2;simp only[VR]at h2;have h3:=he i;rw[hi]at h3;simp only[VR]at h3;obtain⟨k,rfl⟩:=Int.eq_ofNat_of_zero_le h0;have hk:k<s.data.size:=by have:s.size=s.data.size:=rfl;omega
  have e:s[k]'hk=wV s k:=by
   rw[wV,getD_eq_getElem?_getD,getElem?_eq_getElem (by simpa using hk)];rfl
  have hrun:=run_index_string (P:=P) (w:=w) t s kd (k:Int) ht;rw[dif_pos ⟨by omega,h1⟩]at hrun;refine⟨bv (wV s k),?_,rfl⟩;simp only[execOp,h2,h3];refine jh (hrun.trans ?_);have e2:(s[(k:Int).toNat]'(by simpa using hk))=wV s k:=e;rw[e2])
end
open Go Go.RowKit
section
variable{P:Program}{N:Nat}{L:List E}{dst:Option Tmp}{ty:TypeId}{pos:String}{af:Array Edge}{g:Option (Nat×Bool)}{d:Nat}
end
open Go Go.RowKit
open Go Go.RowKit
section
variable{w w':World}
variable{L:List E}{val:Nat→Value}{H:Nat→Value}{G:Nat→FP}{P:Program}{N:Nat}{cx:Cx}{a:Act}{Q:Exit→List E→Prop}
end
section
variable{P:Program}{ops:Array Oper}{N:Nat}{L:List E}
end
open Go Go.RowKit
section
variable{P:Program}{N:Nat}{L:List E}{Q:Exit→List E→Prop}
end
open Go Go.RowKit
section
variable{P:Program}{N:Nat}{L:List E}{Q:Exit→List E→Prop}
def Er:X→Nat→X
 | .g xs,i=>xs.getD i .j
 | x,_=>x
def D0:X→Nat→X→X
 | .g xs,i,y=> .g (xs.set i y)
 | _,_,y=>y
end
open Go Go.RowKit
section
variable{L:List E}{val:Nat→Value}{H:Nat→Value}{G:Nat→FP}{w:World}
end
section
variable{P:Program}{N:Nat}{L:List E}{dst:Option Tmp}{ty:TypeId}{pos:String}{af:Array Edge}{gd:Option (Nat×Bool)}{d:Nat}
end
open Go Go.RowKit Go.Sort
def X.plain:X→Bool
 | .v _=>true
 | .f _ []=>true
 | _=>false
theorem VR.plain{R R':RT}{H H':Nat→Value}{w:World}{x:X}{v:Value}(hx:x.plain=true)(h:VR R H w x v):VR R' H' w x v:=by
 cases x with
 | v y=>exact h
 | f fn xs=>
  cases xs with
  | nil=>
   obtain⟨vs,h1,h2⟩:=h;exact⟨vs,h1,by cases vs<;>first|trivial|exact h2.elim⟩
  | cons _ _=>cases hx
 | _=>cases hx
theorem db.plain{R R':RT}{H H':Nat→Value}{w:World}:∀{xs:List X} {vs:List Value},xs.all X.plain=true→db R H w xs vs→db R' H' w xs vs
 | [],[],_,_=>trivial
 | _ :: _,_ :: _,hx,⟨h1,h2⟩=>by
  simp only[all_cons,Bool.and_eq_true]at hx;exact⟨h1.plain hx.1,db.plain hx.2 h2⟩
 | [],_ :: _,_,h=>h.elim
 | _ :: _,[],_,h=>h.elim
open Go Go.RowKit
section
variable{L:List E}{val:Nat→Value}{H:Nat→Value}{G:Nat→FP}{w w':World}
end
section
variable{P:Program}{w:World}
end
open Go Go.RowKit
section
variable{P:Program}{N:Nat}{L:List E}{dst:Option Tmp}{ty:TypeId}{pos:String}{af:Array Edge}{gd:Option (Nat×Bool)}{d:Nat}
end
open Go Go.RowKit
def Du(n9:Nat→Nat→T)(new:Nat→T)(k m:Nat):Nat→Nat→T:=λk' c'=>if k'=k∧c'<m then new c' else n9 k' c'
section
variable{n9:Nat→Nat→T}{new:Nat→T}{k m n len:Nat}
theorem Ba{c:Nat}:Du n9 new k m k c=if c<m then new c else n9 k c:=by simp[Du]
end
def DK{α:Type}[En α](g h:Nat→α)(k:Nat):Nat→Nat→T:=λj c=>(En.cs (if j<k then g j else h j)).getD c .j
section
variable{α:Type}[En α]{g h:Nat→α}{k len:Nat}
theorem A7{c:Nat}:DK g h k k c=(En.cs (h k)).getD c .j:=by simp[DK]
end
theorem CU:T.sY .j=false:=rfl
attribute [go_sem] Ba A7 qf CU Bool.not_false Bool.not_true
open Go Go.RowKit Go.Sort
open Go Go.RowKit Go.Sort
open Go Go.RowKit
section
variable{N:Nat}{L:List E}
end
open Go Go.RowKit
section
variable{N:Nat}{L:List E}
end
theorem AU(x:Go.Value):jg (.v x)= .v x:=rfl
theorem zr{α:Type}[En α](l:List α):jg (tr l)= .j:=rfl
attribute [go_sem] AU zr D0 set_cons_zero set_cons_succ
open Go Go.RowKit
section
variable{P:Program}{L:List E}{dst:Option Tmp}{ty:TypeId}{pos:String}{af:Array Edge}{g:Option (Nat×Bool)}
end
def vB:bF→Nat→X→X
 | [],0,x=>(match x with| .j=> .c|x=>x)
 | _,_,_=> .c
theorem zM(L:List E)(id:Nat)(q:bF)(n k c:Nat):fO L id q n k c .j=vB q k (fK L id c):=by
 cases q with
 | nil=>cases k<;>rfl
 | cons a q=>rfl
theorem CA(q:bF)(k:Nat):vB q k .j= .c:=by
 cases q with
 | nil=>cases k<;>rfl
 | cons a q=>rfl
theorem BZ(i:Nat)(p:bF):vB [] 0 (.h i p)= .h i p:=rfl
theorem BO(i:Nat)(p:bF)(n k c:Nat):vB [] 0 (.p i p n k c)= .p i p n k c:=rfl
theorem BX(i:Nat)(p:bF)(n k c:Nat):vB [] 0 (.a i p n k c)= .a i p n k c:=rfl
theorem BL(v:Go.Value):vB [] 0 (.v v)= .v v:=rfl
theorem Cn:vB [] 0 .c= .c:=rfl
attribute [go_sem] zM CA BZ BO BX BL Cn
open Go Go.RowKit
section
variable{P:Program}{N:Nat}{L L':List E}{Q:Exit→List E→Prop}{ops:Array Oper}{rest:List Oper}{o:Oper}{qs pend todo:List Nat}{S:Array Bool}{d:Nat}{gb:Bool}{dst:Option Tmp}{x y:Operand}{t t2 ty:TypeId}{pos:String}{af:Array Edge}{g:Option (Nat×Bool)}
theorem sr{id:Nat}{l:List Oper}{c:Code}(h:aB P N l.toArray l (aD (AW P N c Q) Q) L):AW P N (.seq (.region id l.toArray false) c) Q L:=AW.seq (AW.region h)
theorem dq{id:Nat}{l:List Oper}{c c2:Code}(h:aB P N l.toArray l (aD (AW P N c (aD (AW P N c2 Q) Q)) (aD (AW P N c2 Q) Q)) L):AW P N (.seq (.seq (.region id l.toArray false) c) c2) Q L:=AW.seq (AW.seq (AW.region h))
theorem qm(k:aB P N ops rest Q (cn L d (cp L x)))(hw:b9 ops L ⟨dst,.move x,ty,pos,af,g⟩=some gb:=by exact rfl)(hgb:gb=true:=by exact rfl)(hd:dst=some d:=by exact rfl)(hN:d<N:=by decide):aB P N ops (⟨dst,.move x,ty,pos,af,g⟩ :: rest) Q L:=qq Qt.move k hw hgb hd hN
theorem qa(k:aB P N ops rest Q (cn L d (cp L x)))(hw:b9 ops L ⟨dst,.assign x,ty,pos,af,g⟩=some gb:=by exact rfl)(hgb:gb=true:=by exact rfl)(hd:dst=some d:=by exact rfl)(hN:d<N:=by decide):aB P N ops (⟨dst,.assign x,ty,pos,af,g⟩ :: rest) Q L:=qq Qt.assign k hw hgb hd hN
theorem ql{id:Nat}{q:bF}{n k c len:Nat}{f:Nat→Nat→T}{m:M}{T0:T}(hA:Ag P t false)(kk:aB P N ops rest Q (cn L d (fO L id q n k c (f k c))))(hx:cp L x= .p id q n k c:=by exact rfl)(hR:bZ L id=some (m,T0):=by exact rfl)(hT:T0.at q= .s n len f:=by exact rfl)(hw:b9 ops L ⟨dst,.load t x,ty,pos,af,g⟩=some gb:=by exact rfl)(hgb:gb=true:=by exact rfl)(hd:dst=some d:=by exact rfl)(hN:d<N:=by decide):aB P N ops (⟨dst,.load t x,ty,pos,af,g⟩ :: rest) Q L:=qq (Qt.xc hx hR hT hA) kk hw hgb hd hN
theorem qb{op:BinOp}{u v r:Value}(k:aB P N ops rest Q (cn L d (.v r)))(hx:cp L x= .v u:=by exact rfl)(hy:cp L y= .v v:=by exact rfl)(hr:bR op u v=some r:=by exact rfl)(hw:b9 ops L ⟨dst,.binOp op t x y t2,ty,pos,af,g⟩=some gb:=by exact rfl)(hgb:gb=true:=by exact rfl)(hd:dst=some d:=by exact rfl)(hN:d<N:=by decide):aB P N ops (⟨dst,.binOp op t x y t2,ty,pos,af,g⟩ :: rest) Q L:=qq (Qt.binOp hx hy hr) k hw hgb hd hN
theorem ba{op:BinOp}{u v r:Value}(k:aB P N ops rest Q (cn L d (.v r)))(hx:cp L x= .v u:=by exact rfl)(hy:cp L y= .v v:=by exact rfl)(hr:bR op u v=some r:=by first|exact wL (by omega)|rfl)(hw:b9 ops L ⟨dst,.binOp op t x y t2,ty,pos,af,g⟩=some gb:=by exact rfl)(hgb:gb=true:=by exact rfl)(hd:dst=some d:=by exact rfl)(hN:d<N:=by decide):aB P N ops (⟨dst,.binOp op t x y t2,ty,pos,af,g⟩ :: rest) Q L:=qq (Qt.binOp hx hy hr) k hw hgb hd hN
theorem aQ(s:Nat){fn:Func}{post:X→List E→Prop}(hp:post (bi [ax L s]) L)(hQ:zZ P fn post .ret L→Q .ret L:=by exact λhq=>hq)(hr:fn.results.toList=[.tmp s]:=by exact rfl):AW P N .ret Q L:=AW.ret (hQ (ct (by rw[hr];exact .cons (.tmp s) .nil) hp))
theorem ae{i:Nat}{X0:X}(ho:ops[i]? =some o)(h:Qt P o L X0)(k:aO P N ops qs Q S pend todo (cn L d X0))(hd:o.dst=some d:=by exact rfl)(hp:pend.all (λk=>todo.contains k || k==i || !eI ops k i)=true:=by decide +kernel)(hw:b9 ops L o=some gb:=by exact rfl)(hgb:gb=true:=by exact rfl)(hx:ax L d=X0:=by exact rfl):aO P N ops qs Q S pend (i :: todo) L:=aO.vZ ho hd hp (.on hw hgb h) hx k
theorem bx{zt:List T}[hT:dQ P t zt](k:aB P N ops rest Q (iR (eV (cr L d)) d (eC [] zt (cp L x).leaves) (cp L x).leaves 0++cn (.rt d .box (l_ zt.length 1 (eC [] zt (cp L x).leaves)) :: cr L d) d (.p d [] zt.length 0 0)))(hd:dst=some d:=by exact rfl)(hN:d<N:=by decide)(hb:d<aa:=by decide)(hx:(cp L x).flat=true:=by exact rfl)(hl:(cp L x).leaves.length=zt.length:=by exact rfl)(hz:gQ zt=true:=by exact rfl)(ho:(cp L x).leaves.all X.one=true:=by exact rfl)(hw:b9 ops L ⟨dst,.box t x,ty,pos,af,g⟩=some gb:=by exact rfl)(hgb:gb=true:=by exact rfl):aB P N ops (⟨dst,.box t x,ty,pos,af,g⟩ :: rest) Q L:=sp (aE.AT hd hN hb hx hl hz ho) k hw hgb
theorem qh{e:TypeId}{id:Nat}{q:bF}{n len:Nat}{f:Nat→Nat→T}{m:M}{T0:T}{tt:TypeId}(hS:Sl P tt e)(k:aB P N ops rest Q (cn L d (.v (iv len))))(hx:cp L x= .h id q:=by exact rfl)(hR:bZ L id=some (m,T0):=by exact rfl)(hT:T0.at q= .s n len f:=by exact rfl)(hw:b9 ops L ⟨dst,.call { callee:= .builtin .len,args:= #[x],argTypes:= #[tt] },ty,pos,af,g⟩=some gb:=by exact rfl)(hgb:gb=true:=by exact rfl)(hd:dst=some d:=by exact rfl)(hN:d<N:=by decide):aB P N ops (⟨dst,.call { callee:= .builtin .len,args:= #[x],argTypes:= #[tt] },ty,pos,af,g⟩ :: rest) Q L:=qq (Qt.AF hx hR hT hS) k hw hgb hd hN
theorem ix{e:TypeId}{id:Nat}{q:bF}{n len:Nat}{f:Nat→Nat→T}{kd:IntKind}{j:Int}{m:M}{T0:T}(hS:Sl P t e)(hZ:Sz P e n)(hx:cp L x= .h id q:=by exact rfl)(hR:bZ L id=some (m,T0):=by exact rfl)(hT:T0.at q= .s n len f:=by exact rfl)(hi:cp L y= .v (.int kd j):=by exact rfl)(hn:0<n:=by decide)(hj:0≤j∧j<len:=by first|omega|grind only):Qt P ⟨dst,.indexAddr t x y,ty,pos,af,g⟩ L (.p id q n j.toNat 0):=Qt.indexAddr hx hR hT hi hS hZ hn hj
theorem qG{id:Nat}{q:bF}{n k c len:Nat}{f:Nat→Nat→T}{sz:Nat}{m:M}{T0:T}(hA:Ag P t true)(hZ:Sz P t sz)(kk:aB P N ops rest Q (cn L d (.g (rv L id q n k c f sz))))(hx:cp L x= .p id q n k c:=by exact rfl)(hR:bZ L id=some (m,T0):=by exact rfl)(hT:T0.at q= .s n len f:=by exact rfl)(hc:c+sz≤n:=by decide)(hw:b9 ops L ⟨dst,.load t x,ty,pos,af,g⟩=some gb:=by exact rfl)(hgb:gb=true:=by exact rfl)(hd:dst=some d:=by exact rfl)(hN:d<N:=by decide):aB P N ops (⟨dst,.load t x,ty,pos,af,g⟩ :: rest) Q L:=qq (Qt.wS hx hR hT hA hZ hc) kk hw hgb hd hN
theorem qn(k:Q .normal L')(hw:b9 ops L ⟨dst,.assign x,ty,pos,af,g⟩=some gb:=by exact rfl)(hgb:gb=true:=by exact rfl)(hd:dst=some d:=by exact rfl)(hN:d<N:=by decide)(h:cn L d (cp L x)=L':=by simp only[go_sem,Int.reduceToNat,Nat.reduceLT,reduceIte,Nat.reduceEqDiff,Nat.reduceAdd,Nat.reduceMul,Nat.reduceBEq,reduceCtorEq];rfl):aB P N ops [⟨dst,.assign x,ty,pos,af,g⟩] Q L:=qa (nl k h) hw hgb hd hN
theorem sx{R:Exit→List E→Prop}{id:Nat}{l:List Oper}{c:Code}(k:aB P N l.toArray l (aD (AW P N c Q) Q) L')(hw:b9 ops L ⟨dst,.assign x,ty,pos,af,g⟩=some gb:=by exact rfl)(hgb:gb=true:=by exact rfl)(hd:dst=some d:=by exact rfl)(hN:d<N:=by decide)(h:cn L d (cp L x)=L':=by simp only[go_sem,Int.reduceToNat,Nat.reduceLT,reduceIte,Nat.reduceEqDiff,Nat.reduceAdd,Nat.reduceMul,Nat.reduceBEq,reduceCtorEq];rfl)(hR:AW P N (.seq (.region id l.toArray false) c) Q L'→R .normal L':=by exact λhq=>hq):aB P N ops [⟨dst,.assign x,ty,pos,af,g⟩] R L:=qa (nl (hR (sr k)) h) hw hgb hd hN
theorem sA{zt:List T}[hT:dQ P t zt](hd:dst=some d:=by exact rfl)(hN:d<N:=by decide)(hb:d<aa:=by decide):aE P N ⟨dst,.alloc t,ty,pos,af,g⟩ L (cn (.rt d .box (Bc zt) :: cr L d) d (.p d [] zt.length 0 0)):=aE.alloc hd hN hb
theorem sS{e:TypeId}{len:Nat}{parts:Array (Nat×Operand)}{zt:List T}[hS:j7 P t e][hT:dQ P e zt]{ys:List X}(hd:dst=some d:=by exact rfl)(hN:d<N:=by decide)(hb:d<aa:=by decide)(hf:nk (λi=>some (i*zt.length,zt.length)) ((jq zt len).map T.Au) (gM L parts)=some ys:=by exact rfl)(hsm:len*zt.length≤2 ^ 24:=by decide)(hyl:ys.length=len*zt.length:=by exact rfl)(hz:gQ (jq zt len)=true:=by exact rfl)(ho:ys.all X.one=true:=by exact rfl)(hnd:(dz (eC L (jq zt len) ys)).Nodup:=by exact aj rfl):aE P N ⟨dst,.buildSlice t len parts,ty,pos,af,g⟩ L (cn (.rt d .row (l_ zt.length len (eC L (jq zt len) ys)) :: cr (ij L (dz (eC L (jq zt len) ys))) d) d (.h d [])):=aE.buildSlice hd hN hb hf hsm hyl hz ho hnd
theorem cd{c:Operand}{c1 c2:Code}{b:Bool}(ht:b=true→AW P N c1 Q L)(hf:b=false→AW P N c2 Q L)(hc:cp L c= .v (.bool b):=by exact rfl):AW P N (.cond c c1 c2) Q L:=AW.cond hc ht hf
theorem qr{R:Exit→List E→Prop}(s:Nat){fn:Func}{post:X→List E→Prop}(hp:post (bi [ax L' s]) L')(hw:b9 ops L ⟨dst,.assign x,ty,pos,af,g⟩=some gb:=by exact rfl)(hgb:gb=true:=by exact rfl)(hd:dst=some d:=by exact rfl)(hN:d<N:=by decide)(h:cn L d (cp L x)=L':=by simp only[go_sem,Int.reduceToNat,Nat.reduceLT,reduceIte,Nat.reduceEqDiff,Nat.reduceAdd,Nat.reduceMul,Nat.reduceBEq,reduceCtorEq];rfl)(hR:AW P N .ret Q L'→R .normal L':=by exact λhq=>hq)(hQ:zZ P fn post .ret L'→Q .ret L':=by exact λhq=>hq)(hr:fn.results.toList=[.tmp s]:=by exact rfl):aB P N ops [⟨dst,.assign x,ty,pos,af,g⟩] R L:=qn (hR (aQ s hp hQ hr)) hw hgb hd hN h
theorem nc{R:Exit→List E→Prop}{c:Operand}{c1 c2:Code}{b:Bool}(ht:b=true→AW P N c1 Q L')(hf:b=false→AW P N c2 Q L')(h:L=L':=by simp only[go_sem,Int.reduceToNat,Nat.reduceLT,reduceIte,Nat.reduceEqDiff,Nat.reduceAdd,Nat.reduceMul,Nat.reduceBEq,reduceCtorEq];rfl)(hR:AW P N (.cond c c1 c2) Q L'→R .normal L':=by exact λhq=>hq)(hc:cp L' c= .v (.bool b):=by exact rfl):aB P N ops [] R L:=nl (hR (cd ht hf hc)) h
theorem mn(k:aB P N ops rest Q L')(hw:b9 ops L ⟨dst,.move x,ty,pos,af,g⟩=some gb:=by exact rfl)(hgb:gb=true:=by exact rfl)(hd:dst=some d:=by exact rfl)(hN:d<N:=by decide)(h:cn L d (cp L x)=L':=by simp only[go_sem,Int.reduceToNat,Nat.reduceLT,reduceIte,Nat.reduceEqDiff,Nat.reduceAdd,Nat.reduceMul,Nat.reduceBEq,reduceCtorEq];rfl):aB P N ops (⟨dst,.move x,ty,pos,af,g⟩ :: rest) Q L:=qm (nm k h) hw hgb hd hN
end
theorem ob{P:Program}{f:FuncId}{fn:Func}{c:Code}{xs:List X}{ρ:List E}{post:X→List E→Prop}{n:Nat}(hf:P.funcs[f]? =some fn)(hn:fn.ntmps=n)(h:AW P n c (zZ P fn post) (ji 0 xs++ρ))(hb:fn.body=some c:=by exact rfl)(hρ:∀t x,E.sl t x ∉ ρ:=by simp):a_ P f xs ρ post:=a_.AY hf hb hρ (by rw[hn];exact h)
section
variable{P:Program}{N:Nat}{L:List E}{Q:Exit→List E→Prop}{ops:Array Oper}{l:List Oper}
theorem bV(d:Nat)(ds:List Nat){v v':Value}{LB:List E}(e:v=v')(K:aB P N ops l Q (cn LB d (.v v')))(hB:VM.fX L ds=LB:=by simp only[go_sem,reduceIte,Nat.reduceEqDiff,Nat.reduceBEq,reduceCtorEq];rfl)(h:ax L d= .v v:=by exact rfl):aB P N ops l Q L:=wj d ds e hB K h
theorem bX(d:Nat)(ds:List Nat){v v':Value}{LB:List E}(e:v=v')(K:aB P N ops l Q (cn LB d (.v v')))(hB:VM.fX L ds=LB:=by simp only[go_sem,reduceIte,Nat.reduceEqDiff,Nat.reduceBEq,reduceCtorEq])(h:ax L d= .v v:=by exact rfl):aB P N ops l Q L:=wj d ds e hB K h
end
theorem aw{t:T}:t.bb t:=T.eQ t
theorem c_{a b:ByteArray}(h:a.size+b.size≤9223372036854775807:=by first|omega|(simp only[ByteArray.size_append];omega)):bR .add (.string a) (.string b)=some (.string (a++b)):=qe h
section
variable{P:Program}{N:Nat}{L L':List E}{Q:Exit→List E→Prop}{ops:Array Oper}{qs pend pend':List Nat}{S S':Array Bool}
theorem iI(K:aO P N ops qs Q S' pend' [] L')(hw:ar N L L':=by exact ar.bb (by repeat (first|exact trivial|refine⟨rfl,?_⟩|refine⟨⟨_,rfl,aw⟩,?_⟩|refine⟨⟨rfl,rfl⟩,?_⟩)) rfl rfl)(hS:S=S':=by decide +kernel)(hp:(pend.all pend'.contains&&pend'.all pend.contains)=true:=by decide +kernel):aO P N ops qs Q S pend [] L:=aO.use hS hp hw K
theorem jX(K:aO P N ops qs Q S' pend' [] L)(hS:S=S':=by decide +kernel)(hp:(pend.all pend'.contains&&pend'.all pend.contains)=true:=by decide +kernel):aO P N ops qs Q S pend [] L:=aO.use hS hp ar.refl K
end
open Go Go.RowKit
class jo (P:Program) (t:TypeId) (b:outParam Bool):Prop where
 ok:Ag P t b
class lK (P:Program) (t:TypeId) (n:outParam Nat):Prop where
 ok:Sz P t n
class dx (P:Program) (t:TypeId) (i:Nat) (off:outParam Nat):Prop where
 ok:dj P t i off
class CJ (P:Program) (t:TypeId):Prop where
 ok:P.underlying t=some .bool
class D7 (P:Program) (t:TypeId):Prop where
 ok:P.underlying t=some .string
inductive K
 | m|a|f|l|p|i|b|h|G|e|u|n|q|k|c
 | A|B|S|s
 | N|Z|R|R2|R1|J|D (qs:List Nat)|t (i:Nat)|o (i:Nat) (pend':List Nat)|O (i:Nat) (pend' D:List Nat)|g|x
structure GL(ks:List K)(P:Program)(N:Nat)(ops:Array Oper)(rest:List Oper)(Q:Exit→List E→Prop)(L:List E) where
 G:Prop
 f:G→aB P N ops rest Q L
structure GW(ks:List K)(P:Program)(N:Nat)(c:Code)(Q:Exit→List E→Prop)(L:List E) where
 G:Prop
 f:G→AW P N c Q L
structure GA(ks:List K)(P:Program)(N:Nat)(ops:Array Oper)(qs:List Nat)(Q:Exit→List E→Prop)(S:Array Bool)(pend todo:List Nat)(L:List E) where
 G:Prop
 f:G→aO P N ops qs Q S pend todo L
structure GP(ks:List K)(A:Prop) where
 G:Prop
 f:G→A
structure QK(k:K)(P:Program)(o:Oper)(L:List E)(x:X):Prop where
 h:Qt P o L x
structure SK(k:K)(P:Program)(N:Nat)(o:Oper)(L L':List E):Prop where
 h:aE P N o L L'
section
variable{P:Program}{N:Nat}{L L':List E}{Q:Exit→List E→Prop}{ops:Array Oper}{rest:List Oper}{o:Oper}{d:Nat}{gb:Bool}{x:X}{c:Code}{A:Prop}{qs pend todo:List Nat}{S:Array Bool}{κ:K}{ks:List K}
@[reducible] def zL:GL [] P N ops rest Q L:=⟨_,λh=>h⟩
@[reducible] def zW:GW [] P N c Q L:=⟨_,λh=>h⟩
@[reducible] def zA:GA [] P N ops qs Q S pend todo L:=⟨_,λh=>h⟩
@[reducible] def zP:GP [] A:=⟨_,λh=>h⟩
@[reducible] def pL(k:GL ks P N ops rest Q L):GP ks (aB P N ops rest Q L):=⟨k.G,k.f⟩
@[reducible] def pW(k:GW ks P N c Q L):GP ks (AW P N c Q L):=⟨k.G,k.f⟩
@[reducible] def pA(k:GA ks P N ops qs Q S pend todo L):GP ks (aO P N ops qs Q S pend todo L):=⟨k.G,k.f⟩
@[reducible] def qF(h:QK κ P o L x)(k:GL ks P N ops rest Q (cn L d x))(hw:b9 ops L o=some gb:=by exact rfl)(hgb:gb=true:=by first|exact rfl|exact nT (by assumption)|exact nF (by assumption)|assumption)(hd:o.dst=some d:=by exact rfl)(hN:d<N:=by decide):GL (κ :: ks) P N ops (o :: rest) Q L:=⟨k.G,λg=>qg hgb h.h (k.f g) hw hd hN⟩
@[reducible] def xF(k:GL ks P N ops rest Q (cn L d (.v undef)))(hw:b9 ops L o=some gb:=by exact rfl)(hgb:gb=false:=by first|exact rfl|exact nT (by assumption)|exact nF (by assumption)|assumption)(hd:o.dst=some d:=by exact rfl)(hN:d<N:=by decide):GL (.x :: ks) P N ops (o :: rest) Q L:=⟨k.G,λg=>og hgb (k.f g) hw hd hN⟩
@[reducible] def sF(h:SK κ P N o L L')(k:GL ks P N ops rest Q L')(hw:b9 ops L o=some gb:=by exact rfl)(hgb:gb=true:=by exact rfl):GL (κ :: ks) P N ops (o :: rest) Q L:=⟨k.G,λg=>sp h.h (k.f g) hw hgb⟩
@[reducible] def Ey(k:GL ks P N ops rest Q L')(h:L=L':=by simp only[go_sem,Int.reduceToNat,Nat.reduceLT,reduceIte,Nat.reduceEqDiff,Nat.reduceAdd,Nat.reduceMul,Nat.reduceBEq,reduceCtorEq];rfl):GL (.N :: ks) P N ops rest Q L:=⟨k.G,λg=>nm (k.f g) h⟩
@[reducible] def Eu(k:GA ks P N ops qs Q S pend todo L')(h:L=L':=by first|(simp only[go_sem,Int.reduceToNat,Nat.reduceLT,reduceIte,Nat.reduceEqDiff,Nat.reduceAdd,Nat.reduceMul,Nat.reduceBEq,reduceCtorEq];rfl)|rfl):GA (.N :: ks) P N ops qs Q S pend todo L:=⟨k.G,λg=>na (k.f g) h⟩
@[reducible] def lF(k:GP ks (Q .normal L'))(h:L=L':=by first|(simp only[go_sem,Int.reduceToNat,Nat.reduceLT,reduceIte,Nat.reduceEqDiff,Nat.reduceAdd,Nat.reduceMul,Nat.reduceBEq,reduceCtorEq];rfl)|rfl):GL (.Z :: ks) P N ops [] Q L:=⟨k.G,λg=>nl (k.f g) h⟩
@[reducible] def rF{id:Nat}{l:List Oper}{c:Code}(k:GL ks P N l.toArray l (aD (AW P N c Q) Q) L):GW (.R :: ks) P N (.seq (.region id l.toArray false) c) Q L:=⟨k.G,λg=>sr (k.f g)⟩
@[reducible] def Ex{id:Nat}{l:List Oper}(k:GL ks P N l.toArray l Q L):GW (.R1 :: ks) P N (.region id l.toArray false) Q L:=⟨k.G,λg=>AW.region (k.f g)⟩
@[reducible] def Es{id:Nat}{l:List Oper}{c c2:Code}(k:GL ks P N l.toArray l (aD (AW P N c (aD (AW P N c2 Q) Q)) (aD (AW P N c2 Q) Q)) L):GW (.R2 :: ks) P N (.seq (.seq (.region id l.toArray false) c) c2) Q L:=⟨k.G,λg=>dq (k.f g)⟩
@[reducible] def jF(k:GP ks (Q .normal L)):GW (.J :: ks) P N .skip Q L:=⟨k.G,λg=>jd (k.f g)⟩
@[reducible] def dF{qs:List Nat}{id:Nat}(k:GA ks P N ops qs Q (Array.replicate ops.size false) [] [] L)(hm:P.follows .mixedOrders=true:=by exact rfl)(hq:jr ops N qs=true:=by decide +kernel):GW (.D qs :: ks) P N (.region id ops true) Q L:=⟨k.G,λg=>AW.draw qs hm hq (k.f g)⟩
@[reducible] def tF{i:Nat}(ho:ops[i]? =some o)(h:QK κ P o L x)(k:GA ks P N ops qs Q (S.setIfInBounds i true) (i :: pend) [] (cn L d x))(hd:o.dst=some d:=by exact rfl)(hq':qs.contains i=true:=by exact rfl)(hr:(Region.ready .any ops S).contains i=true:=by decide +kernel)(hw:b9 ops L o=some gb:=by exact rfl)(hgb:gb=true:=by first|exact rfl|exact nT (by assumption)|exact nF (by assumption)|assumption):GA (.t i :: κ :: ks) P N ops qs Q S pend [] L:=⟨k.G,λg=>tg i ho hgb h.h (k.f g) hd hq' hr hw⟩
@[reducible] def tX{i:Nat}(ho:ops[i]? =some o)(k:GA ks P N ops qs Q (S.setIfInBounds i true) (i :: pend) [] (cn L d (.v undef)))(hd:o.dst=some d:=by exact rfl)(hq':qs.contains i=true:=by exact rfl)(hr:(Region.ready .any ops S).contains i=true:=by decide +kernel)(hw:b9 ops L o=some gb:=by exact rfl)(hgb:gb=false:=by first|exact rfl|exact nT (by assumption)|exact nF (by assumption)|assumption):GA (.t i :: .x :: ks) P N ops qs Q S pend [] L:=⟨k.G,λg=>tf i hgb (k.f g) ho hd hq' hr hw⟩
@[reducible] def oF{j:Nat}{pend':List Nat}(ho:ops[j]? =some o)(h:SK κ P N o L L')(k:GA ks P N ops qs Q (S.setIfInBounds j true) pend' pend' L')(hw:b9 ops L o=some gb:=by exact rfl)(hgb:gb=true:=by first|exact rfl|exact nT (by assumption)|exact nF (by assumption)|assumption)(hr:Region.ready .any ops S=[j]:=by decide +kernel)
    (hD:fz ops [j] (pend.filter λi=> !pend'.contains i)=true:=by decide +kernel) (hp:(pend.all λi=>pend'.contains i || (pend.filter λi=> !pend'.contains i).contains i)=true:=by decide +kernel) (hp':(pend'.all λi=>pend.contains i)=true:=by decide +kernel):GA (.o j pend' :: κ :: ks) P N ops qs Q S pend [] L:=⟨k.G,λg=>a1 j pend' _ ho hgb h.h (k.f g) hr hw hD hp hp'⟩
@[reducible] def OF{j:Nat}{pend' D:List Nat}(ho:ops[j]? =some o)(h:SK κ P N o L L')(k:GA ks P N ops qs Q (S.setIfInBounds j true) pend' pend' L')(hw:b9 ops L o=some gb:=by exact rfl)(hgb:gb=true:=by first|exact rfl|exact nT (by assumption)|exact nF (by assumption)|assumption)(hr:Region.ready .any ops S=[j]:=by decide +kernel)
  (hD:fz ops [j] D=true:=by decide +kernel) (hp:(pend.all λi=>pend'.contains i || D.contains i)=true:=by decide +kernel) (hp':(pend'.all λi=>pend.contains i)=true:=by decide +kernel):GA (.O j pend' D :: κ :: ks) P N ops qs Q S pend [] L:=⟨k.G,λg=>a1 j pend' D ho hgb h.h (k.f g) hr hw hD hp hp'⟩
@[reducible] def oX{j:Nat}{pend':List Nat}(ho:ops[j]? =some o)(k:GA ks P N ops qs Q (S.setIfInBounds j true) pend' pend' (cn L d (.v undef)))(hw:b9 ops L o=some gb:=by exact rfl)(hgb:gb=false:=by first|exact rfl|exact nT (by assumption)|exact nF (by assumption)|assumption)(hd:o.dst=some d:=by exact rfl)(hN:d<N:=by decide)(hr:Region.ready .any ops S=[j]:=by decide +kernel)
    (hD:fz ops [j] (pend.filter λi=> !pend'.contains i)=true:=by decide +kernel) (hp:(pend.all λi=>pend'.contains i || (pend.filter λi=> !pend'.contains i).contains i)=true:=by decide +kernel) (hp':(pend'.all λi=>pend.contains i)=true:=by decide +kernel):GA (.o j pend' :: .x :: ks) P N ops qs Q S pend [] L:=⟨k.G,λg=>o1 j pend' _ ho hgb (k.f g) hr hw hD hp hp' hd hN⟩
@[reducible] def OX{j:Nat}{pend' D:List Nat}(ho:ops[j]? =some o)(k:GA ks P N ops qs Q (S.setIfInBounds j true) pend' pend' (cn L d (.v undef)))(hw:b9 ops L o=some gb:=by exact rfl)(hgb:gb=false:=by first|exact rfl|exact nT (by assumption)|exact nF (by assumption)|assumption)(hd:o.dst=some d:=by exact rfl)(hN:d<N:=by decide)(hr:Region.ready .any ops S=[j]:=by decide +kernel)
  (hD:fz ops [j] D=true:=by decide +kernel) (hp:(pend.all λi=>pend'.contains i || D.contains i)=true:=by decide +kernel) (hp':(pend'.all λi=>pend.contains i)=true:=by decide +kernel):GA (.O j pend' D :: .x :: ks) P N ops qs Q S pend [] L:=⟨k.G,λg=>o1 j pend' D ho hgb (k.f g) hr hw hD hp hp' hd hN⟩
@[reducible] def gF{i:Nat}(ho:ops[i]? =some o)(h:QK κ P o L x)(k:GA ks P N ops qs Q S pend todo (cn L d x))(hd:o.dst=some d:=by exact rfl)(hp:pend.all (λk=>todo.contains k || k==i || !eI ops k i)=true:=by decide +kernel)(hw:b9 ops L o=some gb:=by exact rfl)(hgb:gb=true:=by first|exact rfl|exact nT (by assumption)|exact nF (by assumption)|assumption)(hx:ax L d=x:=by exact rfl):GA (.g :: κ :: ks) P N ops qs Q S pend (i :: todo) L:=⟨k.G,λg=>aO.vZ ho hd hp (.on hw hgb h.h) hx (k.f g)⟩
@[reducible] def gX{i:Nat}(ho:ops[i]? =some o)(k:GA ks P N ops qs Q S pend todo (cn L d (.v undef)))(hd:o.dst=some d:=by exact rfl)(hp:pend.all (λk=>todo.contains k || k==i || !eI ops k i)=true:=by decide +kernel)(hw:b9 ops L o=some gb:=by exact rfl)(hgb:gb=false:=by first|exact rfl|exact nT (by assumption)|exact nF (by assumption)|assumption)(hx:ax L d= .v undef:=by exact rfl):GA (.g :: .x :: ks) P N ops qs Q S pend (i :: todo) L:=⟨k.G,λg=>aO.vZ ho hd hp (.off hw hgb) hx (k.f g)⟩
@[reducible] def zF(k:GP ks (Q .normal L'))(hr:Region.ready .any ops S=[]:=by decide +kernel)(h:L=L':=by first|(simp only[go_sem,Int.reduceToNat,Nat.reduceLT,reduceIte,Nat.reduceEqDiff,Nat.reduceAdd,Nat.reduceMul,Nat.reduceBEq,reduceCtorEq];rfl)|rfl):GA (.Z :: ks) P N ops qs Q S pend [] L:=⟨k.G,λg=>nz (k.f g) hr h⟩
end
theorem ws{N:Nat}{L L':List E}(h:s8 L L':=by repeat (first|exact trivial|refine⟨(by first|exact⟨rfl,rfl⟩|exact Rf rfl|rfl|exact ew),?_⟩))(hc:gP (eV L') L'=true:=by exact rfl)(hu:lB (eV L')=true:=by exact rfl):ar N L L':=ar.bb h hc hu
theorem kQ(κ:K){P:Program}{o:Oper}{L:List E}{x:X}(h:Qt P o L x):QK κ P o L x:=⟨h⟩
theorem kS(κ:K){P:Program}{N:Nat}{o:Oper}{L L':List E}(h:aE P N o L L'):SK κ P N o L L':=⟨h⟩
theorem go(ks:List K){G G':Prop}(k:G')(he:GP ks G:=by
  first|refine pW ?_|refine pL ?_|refine pA ?_
  repeat
    first
      | (show GL (.N :: _) _ _ _ _ _ _;refine Ey ?_)
      | (show GL (.m :: _) _ _ _ _ _ _;refine qF (kQ .m Qt.move) ?_)
      | (show GL (.f :: _) _ _ _ _ _ _;refine qF (kQ .f (fA dx.ok)) ?_)
      | (show GL (.l :: _) _ _ _ _ _ _;refine qF (kQ .l (Qt.xc rfl rfl rfl jo.ok)) ?_)
      | (show GL (.a :: _) _ _ _ _ _ _;refine qF (kQ .a Qt.assign) ?_)
      | (show GL _ _ _ _ _ _ _;first
          | (show GL (.p :: _) _ _ _ _ _ _;refine qF (kQ .p (Qt.nilCheck rfl)) ?_)
          | (show GL (.b :: _) _ _ _ _ _ _;refine qF (kQ .b (Qt.binOp rfl rfl (by first|exact wL (by omega)|exact ck (by omega)|exact dM (by omega)|rfl))) ?_)
          | (show GL (.i :: _) _ _ _ _ _ _;refine qF (kQ .i (Qt.indexAddr rfl rfl rfl rfl j7.sl lK.ok (by decide) (by first|omega|grind only))) ?_)
          | (show GL (.h :: _) _ _ _ _ _ _;refine qF (kQ .h (Qt.AF rfl rfl rfl j7.sl)) ?_)
          | (show GL (.G :: _) _ _ _ _ _ _;refine qF (kQ .G (Qt.wS rfl rfl rfl jo.ok lK.ok (by decide))) ?_)
          | (show GL (.e :: _) _ _ _ _ _ _;refine qF (kQ .e (Qt.extract rfl (of_decide_eq_true rfl))) ?_)
          | (show GL (.u :: _) _ _ _ _ _ _;refine qF (kQ .u (Qt.build rfl)) ?_)
          | (show GL (.n :: _) _ _ _ _ _ _;refine qF (kQ .n (Qt.xJ rfl)) ?_)
          | (show GL (.q :: _) _ _ _ _ _ _;refine qF (kQ .q (Qt.Dp rfl rfl CJ.ok)) ?_)
          | (show GL (.k :: _) _ _ _ _ _ _;refine qF (kQ .k (Qt.neB rfl rfl CJ.ok)) ?_)
          | (show GL (.c :: _) _ _ _ _ _ _;refine qF (kQ .c (Qt.zk rfl D7.ok)) ?_)
          | (show GL (.Z :: _) _ _ _ _ _ _;refine lF ?_;(first|refine pW ?_|refine pL ?_|refine pA ?_|exact zP))
          | (show GL (.s :: _) _ _ _ _ _ _;refine sF (kS .s (by first|exact aE.lG rfl rfl rfl rfl (by decide) rfl|exact aE.store rfl rfl (by simp) rfl rfl rfl (by decide) rfl)) ?_)
          | (show GL (.A :: _) _ _ _ _ _ _;refine sF (kS .A sA) ?_)
          | (show GL (.B :: _) _ _ _ _ _ _;refine sF (kS .B (aE.AT rfl (by decide) (by decide) rfl rfl rfl rfl)) ?_)
          | (show GL (.S :: _) _ _ _ _ _ _;refine sF (kS .S sS) ?_)
          | (show GL (.x :: _) _ _ _ _ _ _;refine xF ?_)
          | (show GL [] _ _ _ _ _ _;exact zL))
      | (show GA _ _ _ _ _ _ _ _ _ _;first
          | (show GA (.N :: _) _ _ _ _ _ _ _ _ _;refine Eu ?_)
          | (show GA (.t _ :: .x :: _) _ _ _ _ _ _ _ _ _;refine tX rfl ?_)
          | (show GA (.t _ :: .m :: _) _ _ _ _ _ _ _ _ _;refine tF rfl (kQ .m Qt.move) ?_)
          | (show GA (.t _ :: .f :: _) _ _ _ _ _ _ _ _ _;refine tF rfl (kQ .f (fA dx.ok)) ?_)
          | (show GA (.t _ :: .l :: _) _ _ _ _ _ _ _ _ _;refine tF rfl (kQ .l (Qt.xc rfl rfl rfl jo.ok)) ?_)
          | (show GA (.t _ :: .a :: _) _ _ _ _ _ _ _ _ _;refine tF rfl (kQ .a Qt.assign) ?_)
          | (show GA (.g :: _ :: _) _ _ _ _ _ _ _ _ _;first
              | (show GA (.g :: .x :: _) _ _ _ _ _ _ _ _ _;refine gX rfl ?_)
              | (show GA (.g :: .m :: _) _ _ _ _ _ _ _ _ _;refine gF rfl (kQ .m Qt.move) ?_)
              | (show GA (.g :: .f :: _) _ _ _ _ _ _ _ _ _;refine gF rfl (kQ .f (fA dx.ok)) ?_)
              | (show GA (.g :: .l :: _) _ _ _ _ _ _ _ _ _;refine gF rfl (kQ .l (Qt.xc rfl rfl rfl jo.ok)) ?_)
              | (show GA (.g :: .a :: _) _ _ _ _ _ _ _ _ _;refine gF rfl (kQ .a Qt.assign) ?_)
              | (show GA (.g :: .p :: _) _ _ _ _ _ _ _ _ _;refine gF rfl (kQ .p (Qt.nilCheck rfl)) ?_)
              | (show GA (.g :: .b :: _) _ _ _ _ _ _ _ _ _;refine gF rfl (kQ .b (Qt.binOp rfl rfl (by first|exact wL (by omega)|exact ck (by omega)|exact dM (by omega)|rfl))) ?_)
              | (show GA (.g :: .i :: _) _ _ _ _ _ _ _ _ _;refine gF rfl (kQ .i (Qt.indexAddr rfl rfl rfl rfl j7.sl lK.ok (by decide) (by first|omega|grind only))) ?_)
              | (show GA (.g :: .h :: _) _ _ _ _ _ _ _ _ _;refine gF rfl (kQ .h (Qt.AF rfl rfl rfl j7.sl)) ?_)
              | (show GA (.g :: .G :: _) _ _ _ _ _ _ _ _ _;refine gF rfl (kQ .G (Qt.wS rfl rfl rfl jo.ok lK.ok (by decide))) ?_)
              | (show GA (.g :: .e :: _) _ _ _ _ _ _ _ _ _;refine gF rfl (kQ .e (Qt.extract rfl (of_decide_eq_true rfl))) ?_)
              | (show GA (.g :: .u :: _) _ _ _ _ _ _ _ _ _;refine gF rfl (kQ .u (Qt.build rfl)) ?_)
              | (show GA (.g :: .n :: _) _ _ _ _ _ _ _ _ _;refine gF rfl (kQ .n (Qt.xJ rfl)) ?_)
              | (show GA (.g :: .q :: _) _ _ _ _ _ _ _ _ _;refine gF rfl (kQ .q (Qt.Dp rfl rfl CJ.ok)) ?_)
              | (show GA (.g :: .k :: _) _ _ _ _ _ _ _ _ _;refine gF rfl (kQ .k (Qt.neB rfl rfl CJ.ok)) ?_)
              | (show GA (.g :: .c :: _) _ _ _ _ _ _ _ _ _;refine gF rfl (kQ .c (Qt.zk rfl D7.ok)) ?_))
          | (show GA (.t _ :: .p :: _) _ _ _ _ _ _ _ _ _;refine tF rfl (kQ .p (Qt.nilCheck rfl)) ?_)
          | (show GA (.t _ :: .b :: _) _ _ _ _ _ _ _ _ _;refine tF rfl (kQ .b (Qt.binOp rfl rfl (by first|exact wL (by omega)|exact ck (by omega)|exact dM (by omega)|rfl))) ?_)
          | (show GA (.t _ :: .i :: _) _ _ _ _ _ _ _ _ _;refine tF rfl (kQ .i (Qt.indexAddr rfl rfl rfl rfl j7.sl lK.ok (by decide) (by first|omega|grind only))) ?_)
          | (show GA (.t _ :: .h :: _) _ _ _ _ _ _ _ _ _;refine tF rfl (kQ .h (Qt.AF rfl rfl rfl j7.sl)) ?_)
          | (show GA (.t _ :: .G :: _) _ _ _ _ _ _ _ _ _;refine tF rfl (kQ .G (Qt.wS rfl rfl rfl jo.ok lK.ok (by decide))) ?_)
          | (show GA (.t _ :: .e :: _) _ _ _ _ _ _ _ _ _;refine tF rfl (kQ .e (Qt.extract rfl (of_decide_eq_true rfl))) ?_)
          | (show GA (.t _ :: .u :: _) _ _ _ _ _ _ _ _ _;refine tF rfl (kQ .u (Qt.build rfl)) ?_)
          | (show GA (.t _ :: .n :: _) _ _ _ _ _ _ _ _ _;refine tF rfl (kQ .n (Qt.xJ rfl)) ?_)
          | (show GA (.t _ :: .q :: _) _ _ _ _ _ _ _ _ _;refine tF rfl (kQ .q (Qt.Dp rfl rfl CJ.ok)) ?_)
          | (show GA (.t _ :: .k :: _) _ _ _ _ _ _ _ _ _;refine tF rfl (kQ .k (Qt.neB rfl rfl CJ.ok)) ?_)
          | (show GA (.t _ :: .c :: _) _ _ _ _ _ _ _ _ _;refine tF rfl (kQ .c (Qt.zk rfl D7.ok)) ?_)
          | (show GA (.o _ _ :: .x :: _) _ _ _ _ _ _ _ _ _;refine oX rfl ?_)
          | (show GA (.o _ _ :: .s :: _) _ _ _ _ _ _ _ _ _;refine oF rfl (kS .s (by first|exact aE.lG rfl rfl rfl rfl (by decide) rfl|exact aE.store rfl rfl (by simp) rfl rfl rfl (by decide) rfl)) ?_)
          | (show GA (.o _ _ :: .A :: _) _ _ _ _ _ _ _ _ _;refine oF rfl (kS .A sA) ?_)
          | (show GA (.o _ _ :: .B :: _) _ _ _ _ _ _ _ _ _;refine oF rfl (kS .B (aE.AT rfl (by decide) (by decide) rfl rfl rfl rfl)) ?_)
          | (show GA (.o _ _ :: .S :: _) _ _ _ _ _ _ _ _ _;refine oF rfl (kS .S sS) ?_)
          | (show GA (.O _ _ _ :: .x :: _) _ _ _ _ _ _ _ _ _;refine OX rfl ?_)
          | (show GA (.O _ _ _ :: .s :: _) _ _ _ _ _ _ _ _ _;refine OF rfl (kS .s (by first|exact aE.lG rfl rfl rfl rfl (by decide) rfl|exact aE.store rfl rfl (by simp) rfl rfl rfl (by decide) rfl)) ?_)
          | (show GA (.O _ _ _ :: .A :: _) _ _ _ _ _ _ _ _ _;refine OF rfl (kS .A sA) ?_)
          | (show GA (.O _ _ _ :: .B :: _) _ _ _ _ _ _ _ _ _;refine OF rfl (kS .B (aE.AT rfl (by decide) (by decide) rfl rfl rfl rfl)) ?_)
          | (show GA (.O _ _ _ :: .S :: _) _ _ _ _ _ _ _ _ _;refine OF rfl (kS .S sS) ?_)
          | (show GA (.Z :: _) _ _ _ _ _ _ _ _ _;refine zF ?_;(first|refine pW ?_|refine pL ?_|refine pA ?_|exact zP))
          | (show GA [] _ _ _ _ _ _ _ _ _;exact zA))
      | (show GW _ _ _ _ _ _;first
          | (show GW (.R :: _) _ _ _ _ _;refine rF ?_)
          | (show GW (.R2 :: _) _ _ _ _ _;refine Es ?_)
          | (show GW (.R1 :: _) _ _ _ _ _;refine Ex ?_)
          | (show GW (.J :: _) _ _ _ _ _;refine jF ?_;(first|refine pW ?_|refine pL ?_|refine pA ?_|exact zP))
          | (show GW (.D _ :: _) _ _ _ _ _;refine dF ?_)
          | (show GW [] _ _ _ _ _;exact zW))
      | exact zP)(e:he.G=G':=by exact rfl):G:=he.f (e ▸ k)
open Go Go.RowKit
theorem rk{L:List E}{d:Nat}{x:Operand}{kd:IntKind}{j:Int}(h:cp L x= .v (.int kd j))(h0:0≤j):DS L d (some x) j.toNat:=⟨kd,j,h,(Int.toNat_of_nonneg h0).symm⟩
open Go Go.RowKit
section
variable{P:Program}{N:Nat}{Q:Exit→List E→Prop}{L:List E}{ops:Array Oper}{rest:List Oper}{dst:Option Tmp}{ty:TypeId}{pos:String}{af:Array Edge}{g:Option (Nat×Bool)}{d:Nat}
theorem aE.cG(zs:List T){t:TypeId}{x y:Operand}{zt:List T}[hTy:dQ P t zt]{id:Nat}{q:bF}{n k c len:Nat}{f:Nat→Nat→T}{m:M}{T0:T}{L':List E}(hx:cp L x= .p id q n k c)(hR:bZ L id=some (m,T0))(hm:m≠ .ro)(hT:T0.at q= .s n len f)
  (hzl:zs.length=zt.length) (hf:(cp L y).flat=true) (hl:(cp L y).leaves.length=zt.length) (hc:c+zt.length≤n) (hst:ja id q n k c zs (cp L y).leaves L T0=some L'):aE P N ⟨none,.store t x y,ty,pos,af,g⟩ L L':=
 aE.D9 (λcx a w hs=>by
  obtain⟨H,G,hr,hG⟩:=hs.rp;have hv:=dw hr x;rw[hx]at hv;obtain⟨m',t',g1,g2,⟨l',f',g3,g4,g5⟩,hv',A,g6,g7,g8⟩:=hv;obtain⟨rfl,rfl⟩:=hr.one _ _ _ _ _ g1 (aq hR);rw[hT]at g3;cases g3;have hy:=(dw hr y).cells hr.mZ hf;have hyl:=hy.len;simp only[Array.length_toList]at hyl;obtain⟨a0,l0,c0,k1,k2⟩:=ez g7
  -- the row's first cell
  have hp:VR (aW L) H w (.p id q n k 0) (.pointer (some ⟨a0.block,a0.off+k*n,none⟩)):=
   ⟨m',t',g1,g2,⟨len,f,hT,g4,by omega⟩,hv',_,g6,by rw[k1];simp[gU],rfl⟩
  obtain⟨w',G',r1,r2,r3,r4⟩:=kg (P:=P) (b:=a0.block) (o:=a0.off+k*n) hm g4 zs _ _ c c L t' G w hr hG hs.fV g1 g2 ⟨f,hT⟩ (by rw[hzl];exact hc) hp hy hst rfl;refine⟨w',?_,⟨hs.kR,hs.lc,r4,H,G',r2,r3⟩⟩;have hsz:(a.eval y).cells.size=zt.length:=by omega
  have hA:∀(vs:List Value) (i:Nat) (w:World),(storeCells A vs i).run P w=(storeCells ⟨a0.block,a0.off+k*n,none⟩ vs (c+i)).run P w:=by
   intro vs
   induction vs with
   | nil=>intro i w;rfl
   | cons u us ih=>
    intro i w;have hadd:A.add i=(⟨a0.block,a0.off+k*n,none⟩:Addr).add (c+i):=by
     rw[k2,Addr.add_lit,Addr.add_lit];congr 1;omega
    simp only[storeCells,Sem.run_bind,hadd];congr 1;funext u w;rw[ih (i+1) w];congr 2
  have:=hA (a.eval y).cells.toList 0 w;rw[Nat.add_zero,r1]at this;simp[execOp,g8,Instr.storeAt,Instr.sureAddr,storeVar,hTy.size w,hsz,this])
end
theorem xV{P:Program}{f:FuncId}{n len:Nat}{fT rT:Nat→Nat→T}(σ:Nat→Nat)(hσ:∀k,k<len→σ k<len)(hinj:∀k k',k<len→k'<len→σ k=σ k'→k=k')(hrT:∀k c,k<len→c<n→rT k c=fT (σ k) c){xs:List X}(hxs:xs.all X.plain=true)
  (hc:∀V:Nat→Nat→Value,(∀k c,k<len→c<n→(V k c).oneCell'=true)→(∀k c x,k<len→c<n→fT k c= .v x→V k c=x)→(∀k c n0 l g,k<len→c<n→fT k c= .s n0 l g→∃a cap,V k c= .slice a l cap)→∃iT oT:Nat→Nat→T,(∀k c,k<len→c<n→iT k c= .v (V k c))∧(∀k c,k<len→c<n→oT k c= .v (V (σ k) c))∧a_ P f (.h aa [] :: xs) [.rt aa .row (.s n len iT)] (ch (.t []) [] [(aa,.s n len oT)])):
  a_ P f (.h aa [] :: xs) [.rt aa .row (.s n len fT)] (ch (.t []) [] [(aa,.s n len rT)]):=by
 intro w vs H G ht ha hr hv
 match vs,hv with
 | v :: vs,⟨⟨m,t,hm1,_,_,hh⟩,hvs⟩=>
 simp only[hd,Option.some.injEq]at hh;have hb:aW [.rt aa .row (.s n len fT)] aa .row (.s n len fT):=List.mem_singleton.2 rfl;obtain⟨hn,a,cap,e0,hl,hm,b,off,V,Gk,h1,h2,h3,h4,h5⟩:=hr.own aa .row _ hb (by simp);obtain⟨iT,oT,hiT,hoT,hc⟩:=hc V (λk c hk hc=>(h2 k c hk hc).2.one) (λk c x hk hc hf=>by have:=(h2 k c hk hc).2;rw[hf]at this;exact this.1) (λk c n0 l g hk hc hf=>by have h:=(h2 k c hk hc).2;rw[hf]at h;obtain⟨_,a,cap,h0,_⟩:=h;exact⟨a,cap,h0⟩);have hbf:aW [.rt aa .row (.s n len iT)] aa .row (.s n len iT):=List.mem_singleton.2 rfl;have hone:∀{id m t},aW [E.rt aa .row (.s n len iT)] id m t→id=aa∧m= .row∧t= .s n len iT:=λh=>by
  cases List.mem_singleton.1 h;exact⟨rfl,rfl,rfl⟩
 let Gf:Nat→FP:=λ_ x _=>0<cap∧x=b;have hGf:∀x y,Gf aa x y→G aa x y:=λx y h=>(h5 x y).2 (.inl h);have hrf:Rp [.rt aa .row (.s n len iT)] (λ_=>undef) H Gf w:=by
  refine⟨λid m t m' t' k1 k2=>?_,λid m t k1 _=>?_,λid t k=>?_,λid t k=>?_,λid t k=>?_,λid m t id' m' t' k1 k2 hne=>?_,λs x k=>?_,λid c x k=>?_⟩
  ·obtain⟨rfl,rfl,rfl⟩:=hone k1;obtain⟨_,rfl,rfl⟩:=hone k2;exact⟨rfl,rfl⟩
  ·obtain⟨rfl,rfl,rfl⟩:=hone k1;exact⟨hn,a,cap,e0,hl,hm,b,off,V,λ_ _ _ _=>False,h1,λk c hk hc=>⟨(h2 k c hk hc).1,by rw[hiT k c hk hc];exact⟨rfl,(h2 k c hk hc).2.one,λ_ _ h=>h⟩⟩,λ_ _ _ _ _ _ _ _ _ _ _ h=>h.elim,λ_ _ _ _ _ _ h=>h.elim,λx y=>⟨λh=> .inl h,λh=>h.elim id λ⟨_,_,_,_,h⟩=>h.elim⟩⟩
  ·obtain⟨_,e,_⟩:=hone k;cases e
  ·obtain⟨_,e,_⟩:=hone k;cases e
  ·obtain⟨_,e,_⟩:=hone k;cases e
  ·obtain⟨rfl,_,_⟩:=hone k1;obtain⟨rfl,_,_⟩:=hone k2;exact absurd rfl hne
  ·cases List.mem_singleton.1 k
  ·cases List.mem_singleton.1 k
 refine(hc w (v :: vs) H Gf ht (λid m t k1 k2 x y k3=>by
  obtain⟨rfl,_,_⟩:=hone k1;exact ha aa .row _ hb (by simp) x y (hGf x y k3)) hrf ⟨⟨.row,_,hbf,trivial,⟨_,_,_,rfl⟩,by simp only[hd,hh]⟩,hvs.plain hxs⟩).mono ?_
 rintro e w' ⟨v',x,L,H',G',val,rfl,⟨ρ,rfl,hfix,_,_,hW⟩,hr',hx',hC,hG',hH'⟩
 have hbL:aW L aa .row (.s n len oT):=hW _ (List.mem_singleton.2 rfl);have hHb:H' aa=H aa:=hH' aa _ _ (Nat.le_refl _) hbL;obtain⟨_,a',cap',e0',_,_,b',off',V',G0,k1,k2,_,_,_⟩:=hr'.own aa .row _ hbL (by simp);rw[hHb,e0]at e0';cases e0';have hC':dt (λx _=>0<cap∧x=b) w w':=hC.mono λx y _ ⟨id,m,t,q1,_,q3⟩=>q3;have hcell:∀k c,k<len→c<n→w'.cell? ⟨b,off+(k*n+c),none⟩=some (V (σ k) c):=λk c hk hc'=>by
  obtain⟨q1,q2⟩:=k2 k c hk hc';rw[hoT k c hk hc']at q2;obtain⟨q2,q3⟩:=q2;have hp:0<cap:=by omega
  have e1:=(h1 hp).1;have e2:=(k1 hp).1;rw[e1]at e2;cases e2;rw[q1,q2]
 have hO:du w' (.s n len rT) (λx y=>(0<cap∧gp b x y)∨∃k c,k<len∧c<n∧Gk (σ k) c x y) (H' aa):=by
  rw[hHb];exact⟨hn,a,cap,e0,hl,hm,b,off,λk c=>V (σ k) c,λk c=>Gk (σ k) c,λhp=>⟨(h1 hp).1,let ⟨sz,q1,q2⟩:=(h1 hp).2;⟨sz,q1.fV hC',q2⟩⟩,λk c hk hc=>⟨hcell k c hk hc,by rw[hrT k c hk hc];exact(h2 _ c (hσ k hk) hc).2.frame hC' λx y hg hx=>h4 _ c (hσ k hk) hc x y hg hx.2⟩,
   λk c k' c' hne hk hc hk' hc'=>h3 _ _ _ _ (hne.imp_left λhne h=>hne (hinj k k' hk hk' h)) (hσ k hk) hc (hσ k' hk') hc',λk c hk hc=>h4 _ c (hσ k hk) hc,λx y=>Iff.rfl⟩
 have hone2:∀{id m t},aW [E.rt aa .row (.s n len rT)] id m t→id=aa∧m= .row∧t= .s n len rT:=λh=>by
  cases List.mem_singleton.1 h;exact⟨rfl,rfl,rfl⟩
 have hb2:aW [.rt aa .row (.s n len rT)] aa .row (.s n len rT):=List.mem_singleton.2 rfl;have hFG:∀x y,((0<cap∧gp b x y)∨∃k c,k<len∧c<n∧Gk (σ k) c x y)→G aa x y:=λx y h=>by
  rcases h with h|⟨k,c,hk,hc,h⟩
  ·exact(h5 x y).2 (.inl h)
  ·exact(h5 x y).2 (.inr ⟨σ k,c,hσ k hk,hc,h⟩)
 refine⟨v',.t [],[.rt aa .row (.s n len rT)],H',λ_ x y=>(0<cap∧gp b x y)∨∃k c,k<len∧c<n∧Gk (σ k) c x y,λ_=>undef,rfl,⟨λn=>n,rfl,λ_ _=>rfl,nodup_nil,by simp,λp hp=>by cases List.mem_singleton.1 hp;exact hb2⟩,?_,?_,hC.mono λx y _ ⟨id,m,t,q1,_,q3⟩=>⟨aa,.row,_,hb,by simp,hGf x y q3⟩,λid m t q1 _ x y q3=> .inl ⟨aa,.row,_,hb,by simp,hFG x y q3⟩,λid m t q1 q2=>?_⟩
 ·refine⟨λid m t m' t' k1 k2=>?_,λid m t k1 _=>?_,λid t k=>?_,λid t k=>?_,λid t k=>?_,λid m t id' m' t' k1 k2 hne=>?_,λs x k=>?_,λid c x k=>?_⟩
  ·obtain⟨rfl,rfl,rfl⟩:=hone2 k1;obtain⟨_,rfl,rfl⟩:=hone2 k2;exact⟨rfl,rfl⟩
  ·obtain⟨rfl,rfl,rfl⟩:=hone2 k1;exact hO
  ·obtain⟨_,e,_⟩:=hone2 k;cases e
  ·obtain⟨_,e,_⟩:=hone2 k;cases e
  ·obtain⟨_,e,_⟩:=hone2 k;cases e
  ·obtain⟨rfl,_,_⟩:=hone2 k1;obtain⟨rfl,_,_⟩:=hone2 k2;exact absurd rfl hne
  ·cases List.mem_singleton.1 k
  ·cases List.mem_singleton.1 k
 ·obtain⟨us,q1,q2⟩:=hx';exact⟨us,q1,by cases us<;>first|trivial|exact q2.elim⟩
 ·obtain⟨rfl,_,_⟩:=hone2 q2;exact hHb

def lA:List X→List X→Prop
 | [],[]=>True
 | x :: xs,y :: ys=>(x=y∨(y= .c∧∃v,x= .v v∧v.oneCell'=true))∧lA xs ys
 | _,_=>False
theorem db.lA{R:RT}{H:Nat→Value}{w:World}:∀{xs ys:List X} {vs:List Value},lA xs ys→db R H w xs vs→db R H w ys vs
 | [],[],_,_,h=>h
 | x :: xs,y :: ys,v :: vs,⟨h1,h2⟩,⟨g1,g2⟩=>⟨by
   rcases h1 with rfl|⟨rfl,u,rfl,hu⟩
   ·exact g1
   ·have g:v=u:=g1;rw[g];exact hu,db.lA h2 g2⟩
 | [],_ :: _,_,h,_=>h.elim
 | _ :: _,[],_,h,_=>h.elim
 | _ :: _,_ :: _,[],_,h=>h.elim
theorem ar.lA{N:Nat}{L:List E}(d:Nat){xs:List X}(ys:List X)(h:ax L d= .g xs)(hc:VM.lA xs ys):ar N L (cn L d (.g ys)):=
 ar.Ea h λ_ _ _ _ _ _ ⟨vs,h1,h2⟩=>⟨vs,h1,db.lA hc h2⟩
section
variable{α:Type}(key:α→Int)
def bL:List α→α→List α
 | [],x=>[x]
 | y :: l,x=>if key x<key y then x :: y :: l else y :: bL l x
def ap(l:List α):List α:=l.foldl (bL key) []
theorem eM:∀(l:List α) (x:α),(bL key l x).length=l.length+1
 | [],_=>rfl
 | y :: l,x=>by
  rw[bL];split
  ·rfl
  ·rw[length_cons,eM l x,length_cons]
theorem iB(l:List α)(x:α):ap key (l++[x])=bL key (ap key l) x:=by
 rw[ap,foldl_append];rfl
theorem aU(l:List α):(ap key l).length=l.length:=by
 unfold ap;have h:∀(l acc:List α),(l.foldl (bL key) acc).length=acc.length+l.length:=λl=>by
  induction l with
  | nil=>intro acc;rfl
  | cons x l ih=>intro acc;rw[foldl_cons,ih,eM,length_cons];omega
 rw[h,length_nil,Nat.zero_add]
def fS(l:List α):Prop:=l.Pairwise λa b=>key a≤key b
theorem uB{l:List α}{x z:α}:z∈bL key l x↔z=x∨z∈l:=by
 induction l with
 | nil=>simp[bL]
 | cons y l ih=>
  rw[bL];split
  ·simp
  ·simp only[mem_cons,ih];constructor
   ·rintro (h|h|h)<;>simp[h]
   ·rintro (h|h|h)<;>simp[h]
theorem th{l:List α}{x:α}(h:fS key l):fS key (bL key l x):=by
 induction l with
 | nil=>exact pairwise_singleton _ _
 | cons y l ih=>
  rw[bL];obtain⟨h1,h2⟩:=List.pairwise_cons.1 h;split
  ·rename_i hlt;refine List.pairwise_cons.2 ⟨λz hz=>?_,h⟩;rcases List.mem_cons.1 hz with rfl|hz
   ·omega
   ·have:=h1 z hz;omega
  ·rename_i hlt;refine List.pairwise_cons.2 ⟨λz hz=>?_,ih h2⟩;rcases(uB key).1 hz with rfl|hz
   ·omega
   ·exact h1 z hz
theorem cf(l:List α):fS key (ap key l):=by
 unfold ap;have h:∀(l acc:List α),fS key acc→fS key (l.foldl (bL key) acc):=λl=>by
  induction l with
  | nil=>intro acc h;exact h
  | cons x l ih=>intro acc h;exact ih _ (th key h)
 exact h l [] List.Pairwise.nil
theorem yv{l1 l2:List α}{x:α}(h:fS key (l1++l2))(h1:∀y∈l1.getLast?,key y≤key x)(h2:∀y∈l2,key x<key y):bL key (l1++l2) x=l1++x :: l2:=by
 have hle:∀y∈l1,key y≤key x:=λy hy=>by
  rcases eq_nil_or_concat l1 with rfl|⟨l,z,rfl⟩
  ·cases hy
  ·have hz:=h1 z (by simp);have ha:=(List.pairwise_append.1 h).1;rw[concat_eq_append]at ha hy;rcases List.mem_append.1 hy with hy|hy
   ·have:=(List.pairwise_append.1 ha).2.2 y hy z (by simp);omega
   ·rw[List.mem_singleton.1 hy];exact hz
 clear h h1
 induction l1 with
 | nil=>
  cases l2 with
  | nil=>rfl
  | cons y l2=>rw[nil_append,bL,if_pos (h2 y (mem_cons_self ..))];rfl
 | cons y l1 ih=>
  have:=hle y (mem_cons_self ..);rw[cons_append,bL,if_neg (by omega),ih λz hz=>hle z (mem_cons_of_mem _ hz)];rfl
theorem ve{β:Type}(f:β→α):∀(l:List β) (x:β),bL key (l.map f) (f x)=(bL (λy=>key (f y)) l x).map f
 | [],_=>rfl
 | y :: l,x=>by
  rw[map_cons,bL,bL];split
  ·rfl
  ·rw[ve f l x];rfl
theorem qc{β:Type}(f:β→α)(l:List β):ap key (l.map f)=(ap (λy=>key (f y)) l).map f:=by
 have h:∀(l acc:List β),(l.map f).foldl (bL key) (acc.map f)=(l.foldl (bL λy=>key (f y)) acc).map f:=λl=>by
  induction l with
  | nil=>intro acc;rfl
  | cons x l ih=>intro acc;rw[map_cons,foldl_cons,ve,ih];rfl
 exact h l []
theorem qW:∀(l:List α) (x:α),(bL key l x).Perm (x :: l)
 | [],_=>List.Perm.refl _
 | y :: l,x=>by
  rw[bL];split
  ·exact List.Perm.refl _
  ·exact((qW l x).cons y).trans (List.Perm.swap x y l)
theorem lE(l:List α):(ap key l).Perm l:=by
 have h:∀(l acc:List α),(l.foldl (bL key) acc).Perm (acc++l):=λl=>by
  induction l with
  | nil=>intro acc;rw[append_nil];exact List.Perm.refl _
  | cons x l ih=>
   intro acc;refine(ih (bL key acc x)).trans ?_;refine((qW key acc x).append_right l).trans ?_;exact List.perm_middle.symm
 exact h l []
end
theorem ga{α:Type}(l:List α)(d:α):(range l.length).map (λk=>l.getD k d)=l:=by
 apply ext_getElem
 ·simp
 ·intro k h1 h2;simp[h2]
theorem oJ{P:Program}{f:FuncId}{α β:Type}[En α][En β](keyA:α→Int)(keyB:β→Int)(hn:En.n β=En.n α){xs:List X}(hxs:xs.all X.plain=true)(l:List α)
  (hp:∀V:Nat→Nat→Value,(∀k c,k<l.length→c<En.n α→(V k c).oneCell'=true)→(∀k c x,k<l.length→c<En.n α→(En.cs (l.getD k En.ab)).getD c .j= .v x→V k c=x)→(∀k c n0 m g,k<l.length→c<En.n α→(En.cs (l.getD k En.ab)).getD c .j= .s n0 m g→∃a cap,V k c= .slice a m cap)→
   ∃lp:List β,lp.length=l.length∧(∀k c,k<l.length→c<En.n α→(En.cs (lp.getD k En.ab)).getD c .j= .v (V k c))∧∀k,k<l.length→keyB (lp.getD k En.ab)=keyA (l.getD k En.ab))
  (hc:∀lp:List β,lp.length=l.length→a_ P f (.h aa [] :: xs) [.rt aa .row (tr lp)] (ch (.t []) [] [(aa,tr (ap keyB lp))])):
  a_ P f (.h aa [] :: xs) [.rt aa .row (tr l)] (ch (.t []) [] [(aa,tr (ap keyA l))]):=by
 let ix:=ap (λk=>keyA (l.getD k En.ab)) (range l.length);have hpm:ix.Perm (range l.length):=lE _ _;have hlen:ix.length=l.length:=by rw[hpm.length_eq,length_range]
 have hget:∀k,(hk:k<l.length)→ix.getD k 0=ix[k]'(by omega):=λk hk=>by
  rw[getD_eq_getElem?_getD,getElem?_eq_getElem (by omega)];rfl
 have hA:ap keyA l=ix.map λk=>l.getD k En.ab:=by
  conv=>lhs;rw[←ga l En.ab]
  exact qc keyA _ _
 have e1:∀{γ:Type} [En γ] (m:List γ),m.length=l.length→tr m= .s (En.n γ) l.length λk c=>(En.cs (m.getD k En.ab)).getD c .j:=λm hm=>by unfold tr;rw[hm]
 rw[e1 (ap keyA l) (aU _ _)];refine xV (fT:=λk c=>(En.cs (l.getD k En.ab)).getD c .j) (λk=>ix.getD k 0) (λk hk=>?_) (λk k' hk hk' e=>?_) (λk c hk _=>?_) hxs λV h1 h2 h3=>?_
 ·have hm:ix.getD k 0∈ix:=by rw[hget k hk];exact getElem_mem _
  exact List.mem_range.1 (hpm.mem_iff.1 hm)
 ·have hnd:ix.Nodup:=hpm.nodup_iff.2 nodup_range;have e':ix.getD k 0=ix.getD k' 0:=e;rw[hget k hk,hget k' hk']at e';exact(getElem_inj hnd).1 e'
 ·show(En.cs ((ap keyA l).getD k En.ab)).getD c .j=(En.cs (l.getD (ix.getD k 0) En.ab)).getD c .j;have hk2:k<ix.length:=by omega
  rw[hA,show(ix.map λk=>l.getD k En.ab).getD k En.ab=l.getD (ix.getD k 0) En.ab by
   rw[hget k hk,getD_eq_getElem?_getD,getElem?_map,getElem?_eq_getElem hk2];rfl]
 ·obtain⟨lp,hl,hcs,hkey⟩:=hp V h1 h2 h3;have hB:ap keyB lp=ix.map λk=>lp.getD k En.ab:=by
   conv=>lhs;rw[←ga lp En.ab]
   rw[qc keyB,hl];have hq:∀(m acc:List Nat),(∀k∈m,k<l.length)→(∀k∈acc,k<l.length)→m.foldl (bL λk=>keyB (lp.getD k En.ab)) acc=m.foldl (bL λk=>keyA (l.getD k En.ab)) acc:=λm=>by
    induction m with
    | nil=>intro acc _ _;rfl
    | cons x m ih=>
     intro acc hm ha;have hi:∀acc:List Nat,(∀k∈acc,k<l.length)→bL (λk=>keyB (lp.getD k En.ab)) acc x=bL (λk=>keyA (l.getD k En.ab)) acc x:=λacc=>by
      induction acc with
      | nil=>intro _;rfl
      | cons y acc ih2=>
       intro ha;rw[bL,bL,hkey x (hm x (mem_cons_self ..)),hkey y (ha y (mem_cons_self ..)),ih2 λk hk=>ha k (mem_cons_of_mem _ hk)]
     rw[foldl_cons,foldl_cons,hi acc ha];refine ih _ (λk hk=>hm k (mem_cons_of_mem _ hk)) λk hk=>?_;rcases(uB _).1 hk with rfl|hk
     ·exact hm _ (mem_cons_self ..)
     ·exact ha k hk
   congr 1;exact hq _ [] (λk hk=>List.mem_range.1 hk) λk hk=>by cases hk
  have hc':=hc lp hl;rw[e1 lp hl,e1 (ap keyB lp) (by rw[aU,hl]),hn]at hc';refine⟨_,_,λk c hk hc=>hcs k c hk hc,λk c hk hc=>?_,hc'⟩;have hk2:k<ix.length:=by omega
  have hm:ix.getD k 0∈ix:=by rw[hget k hk];exact getElem_mem _
  rw[hB,show(ix.map λk=>lp.getD k En.ab).getD k En.ab=lp.getD (ix.getD k 0) En.ab by
   rw[hget k hk,getD_eq_getElem?_getD,getElem?_map,getElem?_eq_getElem hk2];rfl]
  exact hcs _ c (List.mem_range.1 (hpm.mem_iff.1 hm)) hc
open Go Go.RowKit
section
variable{P:Program}{N:Nat}{L:List E}{dst:Option Tmp}{ty:TypeId}{pos:String}{af:Array Edge}{g:Option (Nat×Bool)}{d:Nat}
theorem aE.Dc{f:FuncId}{cal:Operand}{args:Array Operand}{tys:Array TypeId}{cd:Nat}{n l lo len:Nat}{fT:Nat→Nat→T}{xs:List X}
  (hds:dst=some d) (hN:d<N) (hE:lL P f) (hcal:cp L cal= .f f [])
  (hargs:args.toList.map (cp L)= .h cd [] :: xs) (hxs:zd xs=true) (hc:bZ L cd=some (.ro,.s n l fT)) (hle:lo+len≤l)
  (hcon:a_ P f (.h aa [] :: xs) [.rt aa .ro (.s n l fT)] (ch (.a aa [] n lo len) [] [])):
  aE P N ⟨dst,.call { callee:= .value cal,args:=args,argTypes:=tys },ty,pos,af,g⟩ L (cn L d (.a cd [] n lo len)):=λcx a w Q hs=>by
 obtain⟨H,G,hr,hG⟩:=hs.rp;have hcv:=dw hr cal;rw[hcal]at hcv;obtain⟨us,hu1,hu2⟩:=hcv;obtain rfl:us=[]:=by cases us with
  | nil=>rfl
  | cons _ _=>exact hu2.elim
 unfold Oper.wp;rw[mR hE hu1,append_nil];have hargsV:=nY hr args.toList;rw[hargs]at hargsV
 generalize hvs:args.toList.map a.eval=vs at hargsV
 cases vs with
 | nil=>exact hargsV.elim
 | cons v0 vs=>
 obtain⟨hv0,hvs1⟩:=hargsV;have hc':=aq hc;let H':Nat→Value:=λi=>if i=aa then H cd else undef
 let G':Nat→FP:=λi=>if i=aa then G cd else λ_ _=>False
 have eH1:H' aa=H cd:=if_pos rfl;have eG1:G' aa=G cd:=if_pos rfl;have hrts:∀{id m t},aW [.rt aa .ro (.s n l fT)] id m t→(id=aa∧m= .ro∧t= .s n l fT):=λ{id m t} h=>by
  simp only[aW,mem_cons,not_mem_nil,or_false,E.rt.injEq]at h;exact h
 have hrp:Rp [.rt aa .ro (.s n l fT)] (λ_=>undef) H' G' w:=by
  refine⟨λid m t m' t' k1 k2=>?_,λid m t k1 k2=>?_,λid t k=>?_,λid t k=>?_,λid t k=>?_,λid m t id' m' t' k1 k2 hne' hm x y hx hy=>?_,λt x k=>?_,λid c x k=>?_⟩
  ·obtain⟨rfl,rfl,rfl⟩:=hrts k1;obtain⟨_,rfl,rfl⟩:=hrts k2;exact⟨rfl,rfl⟩
  ·exact absurd (hrts k1).2.1 k2
  ·obtain⟨rfl,_,rfl⟩:=hrts k;rw[eH1,eG1];exact hr.ro _ _ hc'
  ·obtain⟨rfl,_,rfl⟩:=hrts k;rw[eG1];exact hr.fR _ _ hc'
  ·have:=(hrts k).2.1;cases this
  ·exact hm (hrts k1).2.1
  ·simp at k
  ·simp at k
 have hxv:db (aW [.rt aa .ro (.s n l fT)]) H' w (.h aa [] :: xs) (v0 :: vs):=by
  refine⟨?_,tw hxs hvs1⟩;obtain⟨m,t,p1,p2,p3,p4⟩:=hv0;obtain⟨rfl,rfl⟩:=hr.one _ _ _ _ _ hc' p1;exact⟨.ro,_,by simp[aW],p2,p3,by rw[eH1];exact p4⟩
 simp only[Oper.upon];refine(hcon w _ H' G' (cx.now hs.fV) (λid m t h1 h2=>absurd (hrts h1).2.1 h2) hrp hxv).mono ?_
 rintro e w' ⟨v,x,L2,H2,G2,val2,rfl,⟨ρ',rfl,hfix,_,_,_⟩,k1,k2,k3,k4,k5⟩
 refine⟨⟨_,rfl⟩,?_⟩;have hC:dt (λ_ _=>False) w w':=k3.mono λb o _ hx=>by
  obtain⟨id,m',t,q1,q2,q3⟩:=hx;exact q2 (hrts q1).2.1
 have hr':=hr.fV hC λ_ _ _ _ _ _ _ h=>h;have hv:VR (aW L) H w' (.a cd [] n lo len) v:=by
  simp only[X.od,hfix aa (Nat.le_refl _)]at k2;obtain⟨m,t,p1,p2,p3,hv,p4,p5⟩:=k2;refine⟨.ro,_,hc',trivial,⟨l,fT,rfl,hle⟩,hv,?_,p5⟩;rw[←eH1,←k5 _ _ _ (Nat.le_refl _) p1];exact p4
 refine⟨by rw[hds];simpa [Go.Act.put]using hs.kR,by rw[hds];simpa [Go.Act.put]using hs.lc,hs.fV.trans (hC.mono λ_ _ _ h=>h.elim),_,_,?_,by rw[cq];exact hG⟩;rw[hds];exact(hr'.put hv).val λt=>(Act.jc (Nat.lt_of_lt_of_le hN hs.kR) t).symm
end
open Go Go.RowKit
section
variable{P:Program}{N:Nat}{L:List E}{dst:Option Tmp}{ty:TypeId}{pos:String}{af:Array Edge}{g:Option (Nat×Bool)}{d:Nat}
theorem aE.Ax(zs:List T){t:TypeId}{x:Operand}{zt:List T}[hT:dQ P t zt](hd:dst=some d)(hN:d<N)(hb:d<aa)(hx:(cp L x).flat=true)(hl:(cp L x).leaves.length=zt.length)(hzl:zs.length=zt.length)(hz:gQ zs=true)(ho:(cp L x).leaves.all X.one=true):aE P N ⟨dst,.box t x,ty,pos,af,g⟩ L
   (iR (eV (cr L d)) d (eC [] zs (cp L x).leaves) (cp L x).leaves 0++cn (.rt d .box (l_ zt.length 1 (eC [] zs (cp L x).leaves)) :: cr L d) d (.p d [] zt.length 0 0)):=
 aE.op (λcx a w hs=>by
  obtain⟨H,G,hr,hG⟩:=hs.rp;have hv:=(dw hr x).cells hr.mZ hx;obtain⟨q1,q2⟩:=ou hr (hzl.trans hl.symm) hz hv ho;have hC:dt (λ_ _=>False) w (w.alloc (.cells (a.eval x).cells t)):=dt.alloc _ _ _;have hcs:(a.eval x).cells.size=zt.length:=by have:=hv.len;simp only[Array.length_toList]at this;omega
  have hold:∀id m t,aW L id m t→∀x y,G id x y→x<w.heap.size:=λid m t h x y hg=>by
   by_cases hm:m= .ro
   ·subst hm;exact hr.fR id t h x y hg
   ·exact(hr.own id m t h hm).n9 x y hg
  have g1:=du.alloc (w:=w) (n:=zt.length) (len:=1) (cap:=1) (f:=λk c=>((eC [] zs (cp L x).leaves).getD (k*zt.length+c) (.j,none)).1) hT.pos (Nat.le_refl _) (by simp[maxLen]) (cs:=(a.eval x).cells) (e:=t) (by omega) (λ_ _=>λ_ _=>False) (λk c hk hc=>by
   have hlt:k*zt.length+c<(a.eval x).cells.size:=by
    rw[show k=0 by omega];omega
   exact⟨(a.eval x).cells[k*zt.length+c],by simp[hlt],(q2 _ _ (by simp[hlt])).1⟩) (λ_ _ _ _ _ _ _ _ _ _ _ h=>h.elim)
  generalize hF:(λa o=>(0<1∧gp w.heap.size a o)∨∃k c,k<1∧c<zt.length∧False)=F at g1
  have hFn:∀a o,F a o→a=w.heap.size:=λa o h=>by
   rw[←hF]at h;rcases h with⟨_,h⟩|⟨_,_,_,_,h⟩
   ·exact h
   ·exact h.elim
  have g2:∀id m t,aW L id m t→∀a o,G id a o→F a o→False:=λid m t h a o hg hf=>by
   have:=hold id m t h a o hg;have:=hFn a o hf;omega
  have g3:∀a o,F a o→cx.S0 a o∨cx.w0.heap.size≤a:=λa o hf=>by
   have:=hFn a o hf;have:=hs.fV.size;exact .inr (by omega)
  refine⟨.pointer (some ⟨w.heap.size,0,none⟩),w.alloc (.cells (a.eval x).cells t),jh (by simp[Instr.box,newVar,newRow]),?_⟩;rw[hd]
  generalize hss:eC [] zs (cp L x).leaves=ss at*
  have h1:=(hr.fV hC λ_ _ _ _ _ _ _ h=>h).new d (m:= .box) (by simp) g1 (λ_=>⟨_,_,rfl⟩) (λid m t _ h=>g2 id m t h);have hbox:=VR.box (o:=w.heap.size) (R:=aW (.rt d .box (l_ zt.length 1 ss) :: cr L d)) (H:=bm H d (.slice (some ⟨w.heap.size,0,none⟩) 1 1)) (w:=w.alloc (.cells (a.eval x).cells t)) (m:= .box) (mem_cons_self ..) hT.pos (by simp[bm]);have h2:=(h1.put (d:=d) hbox).val λt=>(Act.jc (a:=a) (v:= .pointer (some ⟨w.heap.size,0,none⟩)) (Nat.lt_of_lt_of_le hN hs.kR) t).symm;have hA:∀e∈iR (eV (cr L d)) d ss (cp L x).leaves 0,∃id c x,e=E.al id c x:=λe he=>by
   obtain⟨k,y,h,_⟩:=jz he;exact⟨_,_,_,h⟩
  have hsat:=hs.new (cx:=cx) hr hG hC hN hb (m:= .box) (by simp) g1 (λ_=>⟨_,_,rfl⟩) (λid m t _ h=>g2 id m t h) g3 hbox;obtain⟨_,_,hs3,_⟩:=hsat;refine⟨by simpa [Go.Act.put]using hs.kR,by simpa [Go.Act.put]using hs.lc,hs3,bm H d (.slice (some ⟨w.heap.size,0,none⟩) 1 1),bm G d F,h2.Ee λe he=>?_,?_⟩
  ·obtain⟨k,y,rfl,hk1,hk2,hk3⟩:=jz he;refine⟨d,0+k,y,rfl,zt.length,_,by rw[cq];exact mem_cons_self .., ?_,?_⟩
   ·have hlt:k<(cp L x).leaves.length:=by
     rcases Nat.lt_or_ge k (cp L x).leaves.length with h|h
     ·exact h
     ·rw[getElem?_eq_none h]at hk1;cases hk1
    omega
   ·have hlt:k<(a.eval x).cells.size:=by
     have h6:=hv.len;rcases Nat.lt_or_ge k (cp L x).leaves.length with h|h
     ·simp only[Array.length_toList]at h6;omega
     ·rw[getElem?_eq_none h]at hk1;cases hk1
    have hcell:(w.alloc (.cells (a.eval x).cells t)).cell? ⟨w.heap.size,k,none⟩=some (a.eval x).cells[k]:=by
     have hbk:(w.alloc (.cells (a.eval x).cells t)).heap[w.heap.size]? =some (.cells (a.eval x).cells t (0,0)):=Array.getElem?_push_size;simp only[World.cell?,hbk,Option.isSome_none,Bool.false_eq_true,if_false];exact Array.getElem?_eq_getElem hlt
    refine⟨⟨w.heap.size,k,none⟩,(a.eval x).cells[k],by simp[bm,gU],hcell,?_⟩;have hvk:=hv.nth.2 k;rw[getD_eq_getElem?_getD,hk1]at hvk;have:((a.eval x).cells.toList.getD k undef)=(a.eval x).cells[k]:=by simp[hlt]
    rw[this]at hvk;simp only[Option.getD_some]at hvk;rw[cq];refine VR.leaves (C:=λx=>x.kT (eV (cr L d))=true) (λz u hl' hz' hu=>?_) (X.nV hk3) (VR.fV hr hC (λ_ _ _ _ _ _ _ h=>h) hvk);have hin:∀id,(eV (cr L d)).contains id=true→∀m t,aW L id m t→aW (.rt d .box (l_ zt.length 1 ss) :: cr L d) id m t∧bm H d (.slice (some ⟨w.heap.size,0,none⟩) 1 1) id=H id:=λid hi m t hh=>by
     obtain⟨m',t',h'⟩:=ei.1 (by simpa using hi);obtain⟨h8,h9⟩:=bw.1 h';obtain⟨rfl,rfl⟩:=hr.one _ _ _ _ _ hh h8;exact⟨mem_cons_of_mem _ h',by simp[bm,h9]⟩
    cases z with
    | p id q n k c=>obtain⟨m,t,h1,h2⟩:=hu;have:=hin id (by simpa [X.kT]using hz') _ _ h1;exact⟨m,t,this.1,by rw[this.2];exact h2⟩
    | h id q=>obtain⟨m,t,h1,h2⟩:=hu;have:=hin id (by simpa [X.kT]using hz') _ _ h1;exact⟨m,t,this.1,by rw[this.2];exact h2⟩
    | a id q n lo len=>obtain⟨m,t,h1,h2⟩:=hu;have:=hin id (by simpa [X.kT]using hz') _ _ h1;exact⟨m,t,this.1,by rw[this.2];exact h2⟩
    | _=>exact hl'.elim
  ·rw[w6 hA,cq];refine⟨λid m' t' k1 k2 x y k3=>?_,λid m' t' k0 k1=>?_⟩
   ·by_cases e:id=d
    ·subst e;simp only[bm,if_true]at k3;exact g3 x y k3
    ·simp only[bm,e,if_false]at k3;rcases List.mem_cons.1 k1 with k1|k1
     ·cases k1;exact absurd rfl e
     ·exact hG.1 id m' t' (bw.1 k1).1 k2 x y k3
   ·have e:id≠d:=by omega
    simp only[bm,e,if_false];rcases List.mem_cons.1 k1 with k1|k1
    ·cases k1;exact absurd rfl e
    ·exact hG.2 id m' t' k0 (bw.1 k1).1)
theorem aE.bO(zs:List T){t e:TypeId}{len:Nat}{parts:Array (Nat×Operand)}{zt:List T}[hS:j7 P t e][hT:dQ P e zt]{ys:List X}(hd:dst=some d)(hN:d<N)(hb:d<aa)
  (hf:nk (λi=>some (i*zt.length,zt.length)) ((jq zt len).map T.Au) (gM L parts)=some ys) (hsm:len*zt.length≤2 ^ 24) (hyl:ys.length=len*zt.length) (hzl:zs.length=len*zt.length) (hz:gQ zs=true) (ho:ys.all X.one=true)
  (hnd:(dz (eC L zs ys)).Nodup):aE P N ⟨dst,.buildSlice t len parts,ty,pos,af,g⟩ L (cn (.rt d .row (l_ zt.length len (eC L zs ys)) :: cr (ij L (dz (eC L zs ys))) d) d (.h d [])):=
 aE.op (λcx a w hs=>by
  obtain⟨H,G,hr,hG⟩:=hs.rp;obtain⟨z,h1,h2,h3⟩:=hT.zero;obtain⟨e1,e2⟩:=lI (dw hr) parts;have hz0:db (aW L) H w ((jq zt len).map T.Au) (mA (len*zt.length) z.cells).toList:=xq h2 hT.pos h3 len;obtain⟨cs',g1,g2⟩:=nR hr.mZ hz0 e1 e2 hf;have hlm:len≤maxLen:=by
   have:len*1≤len*zt.length:=mul_le_mul_left _ hT.pos;simp only[maxLen];omega
  obtain⟨F,k1,k2,k3⟩:=w9 hs hr hG g2 (hzl.trans hyl.symm) hz ho hT.pos hyl hlm hnd (e:=e);have hpos:=hT.pos;have h0:(len*zt.length=0)↔len=0:=by
   constructor
   ·intro h;rcases Nat.mul_eq_zero.1 h with h|h<;>omega
   ·intro h;rw[h,Nat.zero_mul]
  refine⟨.slice (some ⟨w.heap.size,0,none⟩) len len,w.alloc (.cells cs' e),jh ?_,?_⟩
  ·by_cases hc:len*zt.length=0
   ·have hf':Instr.fill (λi=>some (i*zt.length,zt.length)) (Array.map (λ_=>(default:Value)) (Array.range 0)) (List.map (λx=>(x.fst,a.eval x.snd)) parts.toList)=some cs':=by
     rw[show Array.map (λ_=>(default:Value)) (Array.range 0)=mA (len*zt.length) z.cells by rw[hc];simp[mA]];exact g1
    simp only[Instr.buildSlice,Sem.run_bind,run_underlying hS.sl w,Result.andThen,hT.size w,hc];simp[newRow,hf']
   ·have hgt:¬(2 ^ 24<len*zt.length):=by omega
    have hf':Instr.fill (λi=>some (i*zt.length,zt.length)) (Array.map (λx=>z.cells[x%z.cells.size]!) (Array.range (len*zt.length))) (List.map (λx=>(x.fst,a.eval x.snd)) parts.toList)=some cs':=g1;simp only[Instr.buildSlice,Sem.run_bind,run_underlying hS.sl w,Result.andThen,hT.size w];simp only[Nat.reducePow]at hgt;simp[hgt,hc,h1 w,newRow,hf']
  ·rw[hd];exact hs.new hr.ij (Good.sub hG λ_ _ _ h=>(kF.1 h).1) (dt.alloc _ _ _) hN hb (by simp) k1 (λh=>by cases h) (λid m t _ h=>k2 id m t h) k3 ⟨.row,_,mem_cons_self .., by simp[bT],⟨_,_,_,by simp only[T.at,l_];rfl⟩,by simp only[VM.hd,bm,if_true]⟩)
end
open Go Go.RowKit
theorem mx{P:Program}{f:FuncId}{n len:Nat}{fT:Nat→Nat→T}{gT:Nat→T}(src:Nat→Option Nat)(ids:List Nat)(rs:List E)(i:Nat)(hi:i≤len){XA:X}(XB:(Nat→Value)→X)
  (hrs:∀id m t,aW rs id m t→id≠aa)
  (hids:∀id∈ids,aa≤id∧∃t,aW rs id .row t)
  (hsrc:∀c id,c<n→src c=some id→aW rs id .row (gT c))
  (hinj:∀c c' id,c<n→c'<n→src c=some id→src c'=some id→c=c')
  (hX:∀R H w vp,VR R H w XA vp→∃U:Nat→Value,(∀R' H' w',VR R' H' w' (XB U) vp)∧∀c,c<n→(src c=none→gT c= .v (U c)∧(U c).oneCell'=true)∧∀id,src c=some id→U c=H id)
  (hrun:∀(V:Nat→Nat→Value) (U:Nat→Value),(∀k c x,k<len→c<n→fT k c= .v x→V k c=x)→(∀k c n0 l g,k<len→c<n→fT k c= .s n0 l g→∃a cap,V k c= .slice a l cap)→(∀c x,c<n→gT c= .v x→U c=x)→(∀c n0 l g,c<n→gT c= .s n0 l g→∃a cap,U c= .slice a l cap)→
   ∃iT oT:Nat→Nat→T,(∀k c,k<len→c<n→iT k c= .v (V k c))∧(∀k c,k<len+1→c<n→oT k c= .v (if k<i then V k c else if k=i then U c else V (k-1) c))∧a_ P f [.h aa [],XB U] [.rt aa .ro (.s n len iT)] (j6 (.h 0 []) [(0,.row,.s n (len+1) oT)])):
  a_ P f [.h aa [],XA] (.rt aa .row (.s n len fT) :: rs) (ch (.h 0 []) [(0,.row,.s n (len+1) λk c=>if k<i then fT k c else if k=i then gT c else fT (k-1) c)] ((aa :: ids).map λid=>(id,T.j))):=by
 intro w vs H G ht ha hr hv
 match vs,hv with
 | [v,vp],⟨⟨m,t,_,_,_,hh⟩,hvp,_⟩=>
 simp only[hd,Option.some.injEq]at hh;have hb:aW (.rt aa .row (.s n len fT) :: rs) aa .row (.s n len fT):=mem_cons_self ..;have hO1:=hr.own aa .row _ hb (by simp);have hold1:=λx y h=>hO1.n9 x y h;obtain⟨hn,a,cap,e0,hl,hm,b,off,V,Gk,h1,h2,h3,h4,h5⟩:=hO1;obtain⟨U,hU,hUc⟩:=hX _ _ _ _ hvp;let Gu:Nat→FP:=λc=>match src c with|some id=>G id|none=>λ_ _=>False
 have eGu:∀c id,src c=some id→Gu c=G id:=λc id h=>by show(match src c with|some id=>G id|none=>λ_ _=>False)=_;rw[h]
 have eGn:∀c,src c=none→Gu c= λ_ _=>False:=λc h=>by show(match src c with|some id=>G id|none=>λ_ _=>False)=_;rw[h]
 have hsr:∀c id,c<n→src c=some id→aW (.rt aa .row (.s n len fT) :: rs) id .row (gT c):=λc id hc h=>mem_cons_of_mem _ (hsrc c id hc h);have hGuO:∀c,c<n→du w (gT c) (Gu c) (U c):=λc hc=>by
  cases hs:src c with
  | none=>
   obtain⟨e,h⟩:=(hUc c hc).1 hs;rw[eGn c hs,e];exact⟨rfl,h,λ_ _ h=>h⟩
  | some id=>
   rw[eGu c id hs,(hUc c hc).2 id hs];exact hr.own id .row _ (hsr c id hc hs) (by simp)
 obtain⟨iT,oT,hiT,hoT,hcon⟩:=hrun V U (λk c x hk hc hf=>by have:=(h2 k c hk hc).2;rw[hf]at this;exact this.1) (λk c n0 l g hk hc hf=>by
   have h:=(h2 k c hk hc).2;rw[hf]at h;obtain⟨_,a,cap,h0,_⟩:=h;exact⟨a,cap,h0⟩) (λc x hc hf=>by have:=hGuO c hc;rw[hf]at this;exact this.1) (λc n0 l g hc hf=>by
   have h:=hGuO c hc;rw[hf]at h;obtain⟨_,a,cap,h0,_⟩:=h;exact⟨a,cap,h0⟩)
 have hGk:∀k c,k<len→c<n→∀x y,Gk k c x y→G aa x y:=λk c hk hc x y h=>(h5 x y).2 (.inr ⟨k,c,hk,hc,h⟩);have hgd:∀k c c',k<len→c<n→c'<n→∀x y,Gk k c x y→Gu c' x y→False:=λk c c' hk hc hc' x y h h'=>by
  cases hs:src c' with
  | none=>rw[eGn c' hs]at h';exact h'
  | some id=>
   rw[eGu c' id hs]at h';exact hr.jZ aa .row _ id .row _ hb (hsr c' id hc' hs) (λe=>hrs id .row _ (hsrc c' id hc' hs) e.symm) (by simp) x y (hGk k c hk hc x y h) h'
 have hgg:∀c c',c≠c'→c<n→c'<n→∀x y,Gu c x y→Gu c' x y→False:=λc c' hne hc hc' x y h h'=>by
  cases hs:src c with
  | none=>rw[eGn c hs]at h;exact h
  | some id=>
   cases hs':src c' with
   | none=>rw[eGn c' hs']at h';exact h'
   | some id'=>
    rw[eGu c id hs]at h;rw[eGu c' id' hs']at h';exact hr.jZ id .row _ id' .row _ (hsr c id hc hs) (hsr c' id' hc' hs') (λe=>hne (hinj c c' id hc hc' hs (by rw[hs',e]))) (by simp) x y h h'
 have hGuG:∀c,c<n→∀x y,Gu c x y→∃id m t,aW (.rt aa .row (.s n len fT) :: rs) id m t∧m≠ .ro∧G id x y:=λc hc x y h=>by
  cases hs:src c with
  | none=>rw[eGn c hs]at h;exact h.elim
  | some id=>rw[eGu c id hs]at h;exact⟨id,.row,_,hsr c id hc hs,by simp,h⟩
 have hold2:∀c,c<n→∀x y,Gu c x y→x<w.heap.size:=λc hc x y h=>(hGuO c hc).n9 x y h;have hone:∀{id m t},aW [E.rt aa .ro (.s n len iT)] id m t→id=aa∧m= .ro∧t= .s n len iT:=λh=>by
  cases List.mem_singleton.1 h;exact⟨rfl,rfl,rfl⟩
 have hb1:aW [E.rt aa .ro (.s n len iT)] aa .ro (.s n len iT):=List.mem_singleton.2 rfl;let G1:Nat→FP:=λ_ x _=>0<cap∧x=b;have hrd:Rd w (.s n len iT) (G1 aa) (H aa):=⟨hn,a,cap,e0,hl,hm,b,off,V,λ_ _ _ _=>False,λhp=>(h1 (by omega)).1,λk c hk hc=>⟨(h2 k c hk hc).1,by rw[hiT k c hk hc];exact⟨rfl,(h2 k c hk hc).2.one⟩,⟨by omega,rfl⟩,λ_ _ h=>h.elim⟩⟩
 have hrp:Rp [E.rt aa .ro (.s n len iT)] (λ_=>undef) H G1 w:=by
  refine⟨λid m t m' t' k1 k2=>?_,λid m t k1 k2=>?_,λid t k=>?_,λid t k=>?_,λid t k=>?_,λid m t id' m' t' k1 k2 hne' hm x y hx hy=>?_,λt x k=>?_,λid c x k=>?_⟩
  ·obtain⟨rfl,rfl,rfl⟩:=hone k1;obtain⟨_,rfl,rfl⟩:=hone k2;exact⟨rfl,rfl⟩
  ·exact absurd (hone k1).2.1 k2
  ·obtain⟨rfl,_,rfl⟩:=hone k;exact hrd
  ·exact λx y h=>hold1 x y ((h5 x y).2 (.inl h))
  ·have:=(hone k).2.1;cases this
  ·exact hm (hone k1).2.1
  ·simp at k
  ·simp at k
 refine(hcon w [v,vp] H G1 ht (λid m t k1 k2=>absurd (hone k1).2.1 k2) hrp ⟨⟨.ro,_,hb1,trivial,⟨_,_,_,rfl⟩,by simp only[hd,hh]⟩,hU _ _ _,trivial⟩).mono ?_
 rintro e w' ⟨v',x,L,H',G',val,rfl,⟨ρ',rfl,_,hroots⟩,hr',hx',hC,hG',hH'⟩
 obtain⟨_,hrt⟩:=hroots _ (List.mem_singleton.2 rfl);have hOn:=hr'.own _ _ _ hrt (by simp);have hnew:∀x y,G' (ρ' 0) x y→w.heap.size≤x:=λx y h=>by
  rcases hG' _ _ _ hrt (by simp) x y h with⟨id,m,t,q1,q2,_⟩|h
  ·exact absurd (hone q1).2.1 q2
  ·exact h
 have hv':v'=H' (ρ' 0):=by
  obtain⟨m,t,_,_,_,q⟩:=hx';simp only[hd,Option.some.injEq]at q;exact q.symm
 have hC':dt (λ_ _=>False) w w':=hC.mono λx y _ ⟨id,m,t,q1,q2,q3⟩=>q2 (hone q1).2.1;obtain⟨_,a',cap',e0',hl',hm',b',off',V',G0,k1,k2,k3,k4,k5⟩:=hOn;have hbn:w.heap.size≤b':=hnew b' 0 ((k5 b' 0).2 (.inl ⟨by omega,rfl⟩));have hcell:∀k c,k<len+1→c<n→w'.cell? ⟨b',off'+(k*n+c),none⟩=some (if k<i then V k c else if k=i then U c else V (k-1) c):=λk c hk hc=>by
  obtain⟨q1,q2⟩:=k2 k c hk hc;rw[hoT k c hk hc]at q2;rw[q1,q2.1]
 have hnb:∀k c,k<len→c<n→∀x y,Gk k c x y→x=b'→False:=λk c hk hc x y h e=>by
  have:=hold1 x y (hGk k c hk hc x y h);omega
 have hnb2:∀c,c<n→∀x y,Gu c x y→x=b'→False:=λc hc x y h e=>by
  have:=hold2 c hc x y h;omega
 have hfr1:∀k c,k<len→c<n→du w' (fT k c) (Gk k c) (V k c):=λk c hk hc=>(h2 k c hk hc).2.frame hC' λx y _ hx=>hx;have hfr2:∀c,c<n→du w' (gT c) (Gu c) (U c):=λc hc=>(hGuO c hc).frame hC' λx y _ hx=>hx;have hO:du w' (.s n (len+1) λk c=>if k<i then fT k c else if k=i then gT c else fT (k-1) c) (λx y=>(0<cap'∧gp b' x y)∨∃k c,k<len+1∧c<n∧(if k<i then Gk k c else if k=i then Gu c else Gk (k-1) c) x y) (H' (ρ' 0)):=by
  rw[e0'];refine⟨hn,_,cap',rfl,hl',hm',b',off',λk c=>if k<i then V k c else if k=i then U c else V (k-1) c,λk c=>if k<i then Gk k c else if k=i then Gu c else Gk (k-1) c,k1,λk c hk hc=>⟨hcell k c hk hc,?_⟩,λk c k' c' hn' hk hc hk' hc' x y h h'=>?_,λk c hk hc x y h hx=>?_,λx y=>Iff.rfl⟩
  ·by_cases c1:k<i
   ·simp only[if_pos c1];exact hfr1 k c (by omega) hc
   ·by_cases c2:k=i
    ·simp only[if_neg c1,if_pos c2];exact hfr2 c hc
    ·simp only[if_neg c1,if_neg c2];exact hfr1 (k-1) c (by omega) hc
  ·dsimp only at h h'
   by_cases c1:k<i<;>by_cases d1:k'<i
   ·rw[if_pos c1]at h;rw[if_pos d1]at h';exact h3 k c k' c' hn' (by omega) hc (by omega) hc' x y h h'
   ·rw[if_pos c1]at h;rw[if_neg d1]at h'
    by_cases d2:k'=i
    ·rw[if_pos d2]at h';exact hgd k c c' (by omega) hc hc' x y h h'
    ·rw[if_neg d2]at h';exact h3 k c (k'-1) c' (by omega) (by omega) hc (by omega) hc' x y h h'
   ·rw[if_neg c1]at h;rw[if_pos d1]at h'
    by_cases c2:k=i
    ·rw[if_pos c2]at h;exact hgd k' c' c (by omega) hc' hc x y h' h
    ·rw[if_neg c2]at h;exact h3 (k-1) c k' c' (by omega) (by omega) hc (by omega) hc' x y h h'
   ·rw[if_neg c1]at h;rw[if_neg d1]at h'
    by_cases c2:k=i<;>by_cases d2:k'=i
    ·rw[if_pos c2]at h;rw[if_pos d2]at h';exact hgg c c' (by omega) hc hc' x y h h'
    ·rw[if_pos c2]at h;rw[if_neg d2]at h';exact hgd (k'-1) c' c (by omega) hc' hc x y h' h
    ·rw[if_neg c2]at h;rw[if_pos d2]at h';exact hgd (k-1) c c' (by omega) hc hc' x y h h'
    ·rw[if_neg c2]at h;rw[if_neg d2]at h';exact h3 (k-1) c (k'-1) c' (by omega) (by omega) hc (by omega) hc' x y h h'
  ·dsimp only at h
   by_cases c1:k<i
   ·rw[if_pos c1]at h;exact hnb k c (by omega) hc x y h hx
   ·rw[if_neg c1]at h
    by_cases c2:k=i
    ·rw[if_pos c2]at h;exact hnb2 c hc x y h hx
    ·rw[if_neg c2]at h;exact hnb (k-1) c (by omega) hc x y h hx
 obtain⟨x,L2,H2,G2,val2,r⟩:=sk (aa :: ids) hr (λid h=>by
  rcases List.mem_cons.1 h with rfl|h
  ·exact⟨Nat.le_refl _,.row,_,by simp,hb⟩
  ·obtain⟨q1,t,q2⟩:=hids id h;exact⟨q1,.row,t,by simp,mem_cons_of_mem _ q2⟩) hC' (λ_ _ h=>h.elim) hO rfl (λx y h=>by
  rcases h with⟨_,h⟩|⟨k,c,hk,hc,h⟩
  ·have:x=b':=h;exact .inr (by omega)
  ·by_cases c1:k<i
   ·rw[if_pos c1]at h;exact .inl ⟨aa,.row,_,hb,by simp,hGk k c (by omega) hc x y h⟩
   ·rw[if_neg c1]at h
    by_cases c2:k=i
    ·rw[if_pos c2]at h;exact .inl (hGuG c hc x y h)
    ·rw[if_neg c2]at h;exact .inl ⟨aa,.row,_,hb,by simp,hGk (k-1) c (by omega) hc x y h⟩)
 exact⟨_,x,L2,H2,G2,val2,rfl,hv' ▸ r⟩
open Go Go.RowKit
section
variable{α:Type}(key:α→Int)
def fk(k:Int)(l:List α):List α:=l.filter λx=>key x==k
theorem ed(k:Int)(a b:List α):fk key k (a++b)=fk key k a++fk key k b:=filter_append ..
theorem fD{k:Int}{l:List α}(h:∀x∈l,key x≠k):fk key k l=[]:=by
 unfold fk;rw[filter_eq_nil_iff];intro x hx;have:=h x hx;simpa using this
theorem mK{k:Int}{l:List α}{x:α}:x∈fk key k l↔x∈l∧key x=k:=by
 unfold fk;rw[mem_filter];simp
theorem uk:∀{l r:List α},fS key l→fS key r→(∀k,fk key k l=fk key k r)→l=r
 | [],[],_,_,_=>rfl
 | [],y :: r,_,_,h=>by
  have:=h (key y);have hy:y∈fk key (key y) (y :: r):=(mK key).2 ⟨mem_cons_self .., rfl⟩;rw[←this]at hy;cases hy
 | x :: l,[],_,_,h=>by
  have:=h (key x);have hx:x∈fk key (key x) (x :: l):=(mK key).2 ⟨mem_cons_self .., rfl⟩;rw[this]at hx;cases hx
 | x :: l,y :: r,hl,hr,h=>by
  obtain⟨h1,h2⟩:=List.pairwise_cons.1 hl;obtain⟨h3,h4⟩:=List.pairwise_cons.1 hr;have hx:x∈y :: r:=((mK key).1 (by rw[←h (key x)];exact(mK key).2 ⟨mem_cons_self .., rfl⟩)).1;have hy:y∈x :: l:=((mK key).1 (by rw[h (key y)];exact(mK key).2 ⟨mem_cons_self .., rfl⟩)).1;have e1:key y≤key x:=by
   rcases List.mem_cons.1 hx with rfl|hx
   ·exact Int.le_refl _
   ·exact h3 x hx
  have e2:key x≤key y:=by
   rcases List.mem_cons.1 hy with rfl|hy
   ·exact Int.le_refl _
   ·exact h1 y hy
  have e:key x=key y:=by omega
  have hh:=h (key x);have e3:fk key (key x) (x :: l)=x :: fk key (key x) l:=by unfold fk;rw[filter_cons_of_pos (by simp)]
  have e4:fk key (key x) (y :: r)=y :: fk key (key x) r:=by unfold fk;rw[filter_cons_of_pos (by simp[e])]
  rw[e3,e4]at hh;obtain rfl:x=y:=(List.cons.inj hh).1;congr 1;refine uk h2 h4 λk=>?_;have hk:=h k;unfold fk at hk ⊢;rw[filter_cons,filter_cons]at hk;split at hk
  ·exact(List.cons.inj hk).2
  ·exact hk
theorem Am(k:Int)(x:α):∀{l:List α},fS key l→fk key k (bL key l x)=fk key k l++fk key k [x]
 | [],_=>rfl
 | y :: l,h=>by
  obtain⟨h1,h2⟩:=List.pairwise_cons.1 h;rw[bL];split
  ·rename_i hlt;show fk key k ([x]++(y :: l))=_;rw[ed]
   by_cases hc:key x=k
   ·rw[fD key (l:=y :: l) λz hz=>by
     rcases List.mem_cons.1 hz with rfl|hz
     ·omega
     ·have:=h1 z hz;omega]
    rw[append_nil,nil_append]
   ·rw[fD key (l:=[x]) λz hz=>by rw[List.mem_singleton.1 hz];exact hc,append_nil,nil_append]
  ·show fk key k ([y]++bL key l x)=fk key k ([y]++l)++_;rw[ed,ed,Am k x h2,append_assoc]
theorem kN(k:Int)(l:List α):fk key k (ap key l)=fk key k l:=by
 have h:∀(l acc:List α),fS key acc→fk key k (l.foldl (bL key) acc)=fk key k acc++fk key k l:=λl=>by
  induction l with
  | nil=>intro acc _;rw[foldl_nil,show fk key k ([]:List α)=[]from rfl,append_nil]
  | cons x l ih=>
   intro acc ha;rw[foldl_cons,ih _ (th key ha),Am key k x ha,append_assoc,←ed];rfl
 exact(h l [] List.Pairwise.nil).trans (nil_append _)
theorem mi{l r:List α}(hr:fS key r)(h:∀k,fk key k l=fk key k r):ap key l=r:=
 uk key (cf key l) hr λk=>(kN key k l).trans (h k)
theorem ju(x y:List α):ap key (ap key x++ap key y)=ap key (x++y):=
 mi key (cf key _) λk=>by rw[ed,kN,kN,kN,ed]
theorem nh{l:List α}(h:fS key l):ap key l=l:=mi key h λ_=>rfl
theorem l3{a b:List α}(ha:fS key a)(hb:fS key b)(h:∀x∈a,∀y∈b,key x≤key y):fS key (a++b):=List.pairwise_append.2 ⟨ha,hb,h⟩
theorem vJ{x:α}{b1 b2:List α}(hb:fS key (b1++b2))(h1:∀y∈b1,key y<key x)(h2:∀y∈b2,key x≤key y):ap key ([x]++(b1++b2))=b1++[x]++b2:=by
 obtain⟨p1,p2,p3⟩:=List.pairwise_append.1 hb;refine mi key (l3 key (l3 key p1 (pairwise_singleton _ _) λy hy z hz=>?_) p2 λy hy z hz=>?_) λk=>?_
 ·rw[List.mem_singleton.1 hz];have:=h1 y hy;omega
 ·rcases List.mem_append.1 hy with hy|hy
  ·exact p3 y hy z hz
  ·rw[List.mem_singleton.1 hy];exact h2 z hz
 ·rw[ed,ed,ed,ed,←append_assoc];congr 1
  by_cases hc:key x=k
  ·rw[fD key (l:=b1) λy hy=>by have:=h1 y hy;omega,append_nil,nil_append]
  ·rw[fD key (l:=[x]) λz hz=>by rw[List.mem_singleton.1 hz];exact hc,append_nil,nil_append]
theorem xT{x:α}{a1 a2:List α}(ha:fS key (a1++a2))(h1:∀y∈a1,key y≤key x)(h2:∀y∈a2,key x<key y):ap key ((a1++a2)++[x])=a1++[x]++a2:=by
 obtain⟨p1,p2,p3⟩:=List.pairwise_append.1 ha;refine mi key (l3 key (l3 key p1 (pairwise_singleton _ _) λy hy z hz=>?_) p2 λy hy z hz=>?_) λk=>?_
 ·rw[List.mem_singleton.1 hz];exact h1 y hy
 ·rcases List.mem_append.1 hy with hy|hy
  ·exact p3 y hy z hz
  ·rw[List.mem_singleton.1 hy];have:=h2 z hz;omega
 ·rw[ed,ed,ed,ed,append_assoc,append_assoc];congr 1
  by_cases hc:key x=k
  ·rw[fD key (l:=a2) λy hy=>by have:=h2 y hy;omega,append_nil,nil_append]
  ·rw[fD key (l:=[x]) λz hz=>by rw[List.mem_singleton.1 hz];exact hc,append_nil,nil_append]
theorem sN{a1 a2 b1 b2:List α}(h12:∀y∈b1,∀x∈a2,key y<key x)(h:∀x∈a1++b1,∀y∈a2++b2,key x≤key y):ap key ((a1++a2)++(b1++b2))=ap key (a1++b1)++ap key (a2++b2):=by
 refine mi key (l3 key (cf key _) (cf key _) λx hx y hy=>h x ((lE key _).mem_iff.1 hx) y ((lE key _).mem_iff.1 hy)) λk=>?_;rw[ed,ed,ed,ed,kN,kN,ed,ed,append_assoc,append_assoc];congr 1;rw[←append_assoc,←append_assoc];congr 1
 by_cases hc:∃y∈b1,key y=k
 ·obtain⟨y,hy,he⟩:=hc;rw[fD key (l:=a2) λx hx=>by have:=h12 y hy x hx;omega,append_nil,nil_append]
 ·rw[fD key (l:=b1) λy hy he=>hc ⟨y,hy,he⟩,append_nil,nil_append]
end
theorem oo{α:Type}{A B:List α}{d:α}{k:Nat}(h:k=A.length):(A++B).getD k d=B.getD 0 d:=by
 subst h;rw[getD_eq_getElem?_getD,getElem?_append_right (Nat.le_refl _),Nat.sub_self,getD_eq_getElem?_getD]
theorem kz{α:Type}{A B:List α}{d:α}{k j:Nat}(h:k=A.length+j):(A++B).getD k d=B.getD j d:=by
 subst h;rw[getD_eq_getElem?_getD,getElem?_append_right (by omega),Nat.add_sub_cancel_left,getD_eq_getElem?_getD]
theorem mO{α:Type}{A B:List α}{d:α}{k:Nat}(h:k<A.length):(A++B).getD k d=A.getD k d:=by
 rw[getD_eq_getElem?_getD,getElem?_append_left h,getD_eq_getElem?_getD]
theorem yq{α:Type}{A B:List α}{x y:α}{k:Nat}(h:k=A.length):(A++x :: B).set k y=A++y :: B:=by
 subst h;rw[set_append_right _ _ (Nat.le_refl _),Nat.sub_self];rfl
def BF{α:Type}(d:α)(l:List α)(p q:Nat):List α:=(l.set p (l.getD q d)).set q (l.getD p d)
theorem vo{α:Type}{d:α}{A B C:List α}{x y:α}{p q:Nat}(hp:p=A.length)(hq:q=A.length+1+B.length):BF d (A++x :: (B++y :: C)) p q=A++y :: (B++x :: C):=by
 have e1:(A++x :: (B++y :: C)).getD q d=y:=by
  rw[kz (j:=1+B.length) (by omega),show x :: (B++y :: C)=([x]++B)++y :: C by simp,oo (by simp;omega)];rfl
 have e2:(A++x :: (B++y :: C)).getD p d=x:=by rw[oo hp];rfl
 rw[BF,e1,e2,yq hp,show A++y :: (B++y :: C)=(A++y :: B)++y :: C by simp,yq (by simp;omega)];simp
theorem fy{α:Type}{l:List α}{k:Nat}{d:α}(h:k<l.length):l.take (k+1)=l.take k++[l.getD k d]:=by
 rw[take_add_one,getElem?_eq_getElem h,getD_eq_getElem?_getD,getElem?_eq_getElem h];rfl
theorem gj{α:Type}{l:List α}{k:Nat}{d:α}(h:k<l.length):l.drop k=l.getD k d :: l.drop (k+1):=by
 rw[drop_eq_getElem_cons h,getD_eq_getElem?_getD,getElem?_eq_getElem h];rfl
def kj{α:Type}(P U M V S:List α)(i:Nat):List α:=P++(V.take i++(U.drop i++(M++(U.take i++(V.drop i++S)))))
theorem l9{α:Type}{d:α}{P U M V S:List α}{i p q:Nat}(hi:i<U.length)(hl:U.length=V.length)(hp:p=P.length+i)(hq:q=P.length+U.length+M.length+i):BF d (kj P U M V S i) p q=kj P U M V S (i+1):=by
 have e1:kj P U M V S i=(P++V.take i)++U.getD i d :: ((U.drop (i+1)++M++U.take i)++V.getD i d :: (V.drop (i+1)++S)):=by
  unfold kj;rw[gj (d:=d) hi,gj (l:=V) (d:=d) (by omega)];simp only[append_assoc,cons_append]
 rw[e1,vo (by rw[length_append,length_take];omega) (by simp only[length_append,length_take,length_drop];omega)];unfold kj;rw[fy (d:=d) hi,fy (l:=V) (d:=d) (by omega)];simp only[append_assoc,cons_append,nil_append]
theorem mj{α:Type}(P U M V S:List α):kj P U M V S 0=P++(U++(M++(V++S))):=by simp[kj]
theorem mc{α:Type}{P U M V S:List α}(hl:U.length=V.length){i:Nat}(h:i=U.length):kj P U M V S i=P++(V++(M++(U++S))):=by
 subst h;simp only[kj,take_length,drop_length,nil_append,hl,drop_length,take_length];rw[←hl,take_length,drop_length,nil_append]
def cw{α:Type}(P:List α)(x:α)(Y S:List α)(t:Nat):List α:=P++(Y.take t++x :: (Y.drop t++S))
theorem sq{α:Type}{d:α}{P Y S:List α}{x:α}{t p q:Nat}(ht:t<Y.length)(hp:p=P.length+t)(hq:q=P.length+t+1):BF d (cw P x Y S t) p q=cw P x Y S (t+1):=by
 have e1:cw P x Y S t=(P++Y.take t)++x :: ([]++Y.getD t d :: (Y.drop (t+1)++S)):=by
  unfold cw;rw[gj (d:=d) ht];simp only[append_assoc,cons_append,nil_append]
 rw[e1,vo (by rw[length_append,length_take];omega) (by simp only[length_append,length_take,length_nil];omega)];unfold cw;rw[fy (d:=d) ht];simp only[append_assoc,cons_append,nil_append]
theorem gv{α:Type}{d:α}{P Y S:List α}{x:α}{t p q:Nat}(ht:t+1≤Y.length)(hp:p=P.length+t+1)(hq:q=P.length+t):BF d (cw P x Y S (t+1)) p q=cw P x Y S t:=by
 have e1:cw P x Y S (t+1)=(P++Y.take t)++Y.getD t d :: ([]++x :: (Y.drop (t+1)++S)):=by
  unfold cw;rw[fy (d:=d) (by omega)];simp only[append_assoc,cons_append,nil_append]
 have e2:BF d (cw P x Y S (t+1)) p q=BF d (cw P x Y S (t+1)) q p:=by
  unfold BF;rw[set_comm _ _ (by omega)]
 rw[e2,e1,vo (by rw[length_append,length_take];omega) (by simp only[length_append,length_take,length_nil];omega)];unfold cw;rw[gj (d:=d) (show t<Y.length by omega)];simp only[append_assoc,cons_append,nil_append]
end Go.Proofs.YtekcnnngjoonbaaGreat.VM
set_option linter.unusedSectionVars false
namespace Go.Proofs.YtekcnnngjoonbaaGreat.VM
open List Nat
open Go Go.RowKit
section
variable{α:Type}[En α](key:α→Int)
structure WI(P:List α)(x:α)(Z:List α) where
 t:Nat
 j:Nat
 le:t≤Z.length
 ej:j=P.length+t
 gt:∀y∈Z.drop t,key x<key y
variable{key}
theorem WI.next{P:List α}{x:α}{Z:List α}(i:WI key P x Z)(h0:P.length<i.j)(h:key x<key (Z.getD (i.t-1) En.ab)):∀y∈Z.drop (i.t-1),key x<key y:=by
 have h1:=i.ej;have h2:=i.le;intro y hy;rw[gj (d:=En.ab) (show i.t-1<Z.length by omega)]at hy;rcases List.mem_cons.1 hy with rfl|hy
 ·exact h
 ·exact i.gt y (by rwa [show i.t-1+1=i.t by omega]at hy)
theorem WI.done{P:List α}{x:α}{Z:List α}(i:WI key P x Z)(ha:fS key Z)(h:i.j=P.length∨¬key x<key (Z.getD (i.t-1) En.ab)):Z.take i.t++x :: Z.drop i.t=bL key Z x:=by
 have h1:=i.ej;have h2:=i.le;have e:=yv key (l1:=Z.take i.t) (l2:=Z.drop i.t) (x:=x) (by rw[take_append_drop];exact ha) (λy hy=>?_) i.gt
 ·rw[←e,take_append_drop]
 ·rcases h with h|h
  ·rw[show i.t=0 by omega]at hy;cases hy
  ·have h3:0<i.t:=by
    rcases eq_zero_or_pos i.t with h0|h0
    ·rw[h0]at hy;cases hy
    ·exact h0
   have h4:Z.take i.t=Z.take (i.t-1)++[Z.getD (i.t-1) En.ab]:=by
    have:=fy (l:=Z) (k:=i.t-1) (d:=En.ab) (by omega)
    rwa [show i.t-1+1=i.t by omega]at this
   rw[h4,getLast?_concat]at hy;cases hy;omega
theorem iU{P Z S:List α}{x:α}{t k:Nat}(ht:t≤Z.length)(hk:k=P.length+t):(cw P x Z S t).getD k En.ab=x:=by
 rw[cw,kz hk,oo (by rw[length_take];omega)];rfl
theorem gr{P Z S:List α}{x:α}{t k:Nat}(ht:t≤Z.length)(h0:0<t)(hk:k=P.length+t-1):(cw P x Z S t).getD k En.ab=Z.getD (t-1) En.ab:=by
 rw[cw,kz (j:=t-1) (by omega),mO (by rw[length_take];omega),getD_eq_getElem?_getD,getElem?_take,if_pos (by omega),getD_eq_getElem?_getD]
theorem aT{P Z S:List α}{x:α}{t:Nat}:(cw P x Z S t).length=P.length+Z.length+1+S.length:=by
 have:(Z.take t).length+(Z.drop t).length=Z.length:=by rw[←length_append,take_append_drop]
 simp only[cw,length_append,length_cons];omega
def nL(P X S:List α)(key:α→Int)(k:Nat):List α:=P++(ap key (X.take k)++(X.drop k++S))
theorem l6{P X S:List α}{k:Nat}(hk:k<X.length):nL P X S key k=cw P (X.getD k En.ab) (ap key (X.take k)) (X.drop (k+1)++S) k:=by
 have hl:(ap key (X.take k)).length=k:=by rw[aU,length_take];omega
 rw[nL,cw,gj (d:=En.ab) hk,take_of_length_le (l:=ap key (X.take k)) (by omega),drop_of_length_le (l:=ap key (X.take k)) (by omega)];rfl
theorem fE{P X S:List α}{k:Nat}(hk:k<X.length)(i:WI key P (X.getD k En.ab) (ap key (X.take k)))(h:i.j=P.length∨¬key (X.getD k En.ab)<key ((ap key (X.take k)).getD (i.t-1) En.ab)):cw P (X.getD k En.ab) (ap key (X.take k)) (X.drop (k+1)++S) i.t=nL P X S key (k+1):=by
 rw[nL,fy (d:=En.ab) hk,iB,←i.done (cf key _) h,cw];simp only[append_assoc,cons_append]
theorem kE{P X S:List α}{k:Nat}(hk:X.length≤k):nL P X S key k=P++(ap key X++S):=by
 rw[nL,take_of_length_le hk,drop_of_length_le hk];rfl
theorem lX{P X S:List α}:P++(X++S)=nL P X S key 1:=by
 rw[nL];cases X with
 | nil=>rfl
 | cons x X=>rfl
end
structure BS(Q:Nat→Prop)(lo hi:Nat) where
 i:Nat
 j:Nat
 h1:lo≤i
 h2:i≤j
 h3:j≤hi
 yes:∀t,lo≤t→t<i→Q t
 no:∀t,j≤t→t<hi→¬Q t
theorem BS.up{Q:Nat→Prop}{lo hi:Nat}(s:BS Q lo hi)(hm:∀h t,lo≤t→t≤h→h<hi→Q h→Q t){h:Nat}(hj:h<s.j)(hq:Q h):∀t,lo≤t→t<h+1→Q t:=λt h1 h2=>by
 have:=s.h3;exact hm h t h1 (by omega) (by omega) hq
theorem BS.down{Q:Nat→Prop}{lo hi:Nat}(s:BS Q lo hi)(hm:∀h t,lo≤t→t≤h→h<hi→Q h→Q t){h:Nat}(hi1:s.i≤h)(hq:¬Q h):∀t,h≤t→t<hi→¬Q t:=λt h1 h2 hc=>by
 have:=s.h1;exact hq (hm t h (by omega) h1 h2 hc)
theorem eb(a b:Nat)(h:a+b<9223372036854775808):bR .shr (.int .u64 (IntKind.u64.wrap ((a:Int)+(b:Int)))) (.int .u64 1)=some (.int .u64 (((a+b) / 2:Nat):Int)):=by
 have e:IntKind.u64.wrap ((a:Int)+(b:Int))=((a+b:Nat):Int):=by
  rw[IntKind.wrap_u64];omega
 rw[e];show some (Value.int .u64 (((a+b:Nat):Int).fdiv 2))=_;rw[Int.fdiv_eq_ediv_of_nonneg _ (by omega)];congr 2
theorem dZ(k:Nat)(h:k<9223372036854775808):Value.int .i64 (IntKind.i64.wrap ((k:Nat):Int))=iv k:=by
 rw[IntWalk.i64_in _ (by omega)]
theorem d_{α:Type}{P U M V S:List α}{i:Nat}:(kj P U M V S i).length=P.length+U.length+M.length+V.length+S.length:=by
 have h1:(U.take i).length+(U.drop i).length=U.length:=by rw[←length_append,take_append_drop]
 have h2:(V.take i).length+(V.drop i).length=V.length:=by rw[←length_append,take_append_drop]
 simp only[kj,length_append];omega
structure RI{α:Type}(T:List α)(m:Nat) where
 P:List α
 U:List α
 V:List α
 S:List α
 eT:P++(V++(U++S))=T
 em:P.length+U.length=m
 hu:0<U.length
 hv:0<V.length
def RI.row{α:Type}{T:List α}{m:Nat}(i:RI T m):List α:=i.P++(i.U++(i.V++i.S))
theorem RI.len{α:Type}{T:List α}{m:Nat}(i:RI T m):i.P.length+i.U.length+i.V.length+i.S.length=T.length:=by
 have:=congrArg length i.eT;simp only[length_append]at this;omega
def RI.a{α:Type}{T:List α}{m:Nat}(i:RI T m)(h:i.V.length<i.U.length):RI T m:=
 ⟨i.P++i.V,i.U.drop i.V.length,i.U.take i.V.length,i.S,Eq.trans (by rw[append_assoc,←append_assoc (take _ _),take_append_drop]) i.eT,by have:=i.em;rw[length_append,length_drop];omega,by rw[length_drop];omega,by have:=i.hv;rw[length_take];omega⟩
theorem RI.xh{α:Type}{T:List α}{m:Nat}(i:RI T m)(h:i.V.length<i.U.length):(i.a h).row=i.P++(i.V++(i.U.drop i.V.length++(i.U.take i.V.length++i.S))):=by
 simp only[RI.a,RI.row,append_assoc]
theorem RI.xy{α:Type}{T:List α}{m:Nat}(i:RI T m):i.row=i.P++(i.U.take i.V.length++(i.U.drop i.V.length++(i.V++i.S))):=by
 rw[←append_assoc (take _ _),take_append_drop];rfl
def RI.b{α:Type}{T:List α}{m:Nat}(i:RI T m)(h:i.U.length<i.V.length):RI T m:=
 ⟨i.P,i.V.drop (i.V.length-i.U.length),i.V.take (i.V.length-i.U.length),i.U++i.S,Eq.trans (by rw[←append_assoc (take _ _),take_append_drop]) i.eT,by have:=i.em;rw[length_drop];omega,by have:=i.hu;rw[length_drop];omega,by rw[length_take];omega⟩
theorem RI.w7{α:Type}{T:List α}{m:Nat}(i:RI T m)(h:i.U.length<i.V.length):(i.b h).row=i.P++(i.V.drop (i.V.length-i.U.length)++(i.V.take (i.V.length-i.U.length)++(i.U++i.S))):=rfl
theorem RI.xt{α:Type}{T:List α}{m:Nat}(i:RI T m):i.row=i.P++(i.U++(i.V.take (i.V.length-i.U.length)++(i.V.drop (i.V.length-i.U.length)++i.S))):=by
 rw[←append_assoc (take _ _),take_append_drop];rfl
end Go.Proofs.YtekcnnngjoonbaaGreat.VM
set_option linter.unusedSectionVars false
namespace Go.Proofs.YtekcnnngjoonbaaGreat.VM
open List Nat
open Go Go.RowKit
section
variable{α:Type}[En α]{key:α→Int}
theorem gl{l:List α}(h:fS key l){i j:Nat}(hij:i≤j)(hj:j<l.length):key (l.getD i En.ab)≤key (l.getD j En.ab):=by
 rw[getD_eq_getElem?_getD,getElem?_eq_getElem (by omega),getD_eq_getElem?_getD,getElem?_eq_getElem hj];rcases Nat.eq_or_lt_of_le hij with rfl|h1
 ·exact Int.le_refl _
 ·exact List.pairwise_iff_getElem.1 h i j (by omega) hj h1
theorem fi{l:List α}{n:Nat}{x:α}(h:x∈l.take n):∃j,j<n∧j<l.length∧x=l.getD j En.ab:=by
 obtain⟨j,hj,rfl⟩:=List.mem_iff_getElem.1 h;rw[length_take]at hj;refine⟨j,by omega,by omega,?_⟩;rw[getElem_take,getD_eq_getElem?_getD,getElem?_eq_getElem (by omega)];rfl
theorem fb{l:List α}{n:Nat}{x:α}(h:x∈l.drop n):∃j,n≤j∧j<l.length∧x=l.getD j En.ab:=by
 obtain⟨j,hj,rfl⟩:=List.mem_iff_getElem.1 h;rw[length_drop]at hj;refine⟨n+j,by omega,by omega,?_⟩;rw[getElem_drop,getD_eq_getElem?_getD,getElem?_eq_getElem (by omega)];rfl
def aV(P X Y S:List α):List α:=P++(X++(Y++S))
theorem iL{P X Y S:List α}{t:Nat}(h1:P.length≤t)(h2:t<P.length+X.length):(aV P X Y S).getD t En.ab=X.getD (t-P.length) En.ab:=by
 rw[aV,kz (j:=t-P.length) (by omega),mO (by omega)]
theorem iq{P X Y S:List α}{t:Nat}(h1:P.length+X.length≤t)(h2:t<P.length+X.length+Y.length):(aV P X Y S).getD t En.ab=Y.getD (t-P.length-X.length) En.ab:=by
 rw[aV,kz (j:=t-P.length) (by omega),kz (j:=t-P.length-X.length) (by omega),mO (by omega)]
theorem eB{P X Y S:List α}:(aV P X Y S).length=P.length+X.length+Y.length+S.length:=by
 simp only[aV,length_append];omega
def eK(a m b:Nat):Nat:=if(a+b) / 2<m then(a+b) / 2+m-b else a
def fQ(a m b:Nat):Nat:=if(a+b) / 2<m then(a+b) / 2 else m
theorem mU{a m b:Nat}(h1:a<m)(h2:m<b):a≤eK a m b∧eK a m b≤fQ a m b∧fQ a m b≤m∧fQ a m b≤(a+b) / 2∧(a+b) / 2+m≤b+eK a m b∧(fQ a m b=m∨fQ a m b=(a+b) / 2)∧(eK a m b=a∨eK a m b+b=(a+b) / 2+m):=by
 unfold eK fQ;split<;>omega
def j4(key:α→Int)(L:List α)(n c:Nat):Prop:=¬key (L.getD (n-1-c) En.ab)<key (L.getD c En.ab)
variable{P X Y S:List α}{a m b:Nat}
theorem kO(ha:a=P.length)(hm:m=a+X.length)(hb:b=m+Y.length)(hX:fS key X)(hY:fS key Y)(h1:a<m)(h2:m<b):∀h t,eK a m b≤t→t≤h→h<fQ a m b→j4 key (aV P X Y S) ((a+b) / 2+m) h→j4 key (aV P X Y S) ((a+b) / 2+m) t:=λh t q1 q2 q3 hq=>by
 have hs:=mU h1 h2;unfold j4 at hq ⊢;rw[iL (t:=h) (by omega) (by omega),iq (t:=(a+b) / 2+m-1-h) (by omega) (by omega)]at hq;rw[iL (t:=t) (by omega) (by omega),iq (t:=(a+b) / 2+m-1-t) (by omega) (by omega)];have e1:=gl hX (i:=t-P.length) (j:=h-P.length) (by omega) (by omega);have e2:=gl hY (i:=(a+b) / 2+m-1-h-P.length-X.length) (j:=(a+b) / 2+m-1-t-P.length-X.length) (by omega) (by omega);omega
theorem jL(ha:a=P.length)(hm:m=a+X.length)(hb:b=m+Y.length)(hX:fS key X)(hY:fS key Y)(h1:a<m)(h2:m<b)(s:BS (j4 key (aV P X Y S) ((a+b) / 2+m)) (eK a m b) (fQ a m b))(he:s.j≤s.i):
  ap key (X++Y)=ap key (X.take (s.i-a)++Y.take ((a+b) / 2-s.i))++ap key (X.drop (s.i-a)++Y.drop ((a+b) / 2-s.i)):=by
 have hs:=mU h1 h2;have q1:=s.h1;have q2:=s.h2;have q3:=s.h3;have key1:∀y∈Y.take ((a+b) / 2-s.i),∀x∈X.drop (s.i-a),key y<key x:=λy hy x hx=>by
  obtain⟨j,j1,j2,rfl⟩:=fi hy;obtain⟨k,k1,k2,rfl⟩:=fb hx;have hq:=s.no s.i (by omega) (by omega);unfold j4 at hq;rw[iL (t:=s.i) (by omega) (by omega),iq (t:=(a+b) / 2+m-1-s.i) (by omega) (by omega)]at hq;have e1:=gl hX (i:=s.i-P.length) (j:=k) (by omega) (by omega);have e2:=gl hY (i:=j) (j:=(a+b) / 2+m-1-s.i-P.length-X.length) (by omega) (by omega);omega
 have e0:ap key ((X.take (s.i-a)++X.drop (s.i-a))++(Y.take ((a+b) / 2-s.i)++Y.drop ((a+b) / 2-s.i)))=_:=sN key key1 λx hx y hy=>by
  rcases List.mem_append.1 hx with hx|hx<;>rcases List.mem_append.1 hy with hy|hy
  ·obtain⟨j,j1,j2,rfl⟩:=fi hx;obtain⟨k,k1,k2,rfl⟩:=fb hy;exact gl hX (by omega) k2
  ·obtain⟨j,j1,j2,rfl⟩:=fi hx;obtain⟨k,k1,k2,rfl⟩:=fb hy;have hq:=s.yes (s.i-1) (by omega) (by omega);unfold j4 at hq;rw[iL (t:=s.i-1) (by omega) (by omega),iq (t:=(a+b) / 2+m-1-(s.i-1)) (by omega) (by omega)]at hq;have e1:=gl hX (i:=j) (j:=s.i-1-P.length) (by omega) (by omega);have e2:=gl hY (i:=(a+b) / 2+m-1-(s.i-1)-P.length-X.length) (j:=k) (by omega) (by omega);omega
  ·exact Int.le_of_lt (key1 x hx y hy)
  ·obtain⟨j,j1,j2,rfl⟩:=fi hx;obtain⟨k,k1,k2,rfl⟩:=fb hy;exact gl hY (by omega) k2
 rwa [take_append_drop,take_append_drop]at e0
theorem dm(h:fS key X)(n:Nat):fS key (X.take n):=h.sublist (take_sublist _ _)
theorem dl(h:fS key X)(n:Nat):fS key (X.drop n):=h.sublist (drop_sublist _ _)
theorem eU(h:fS key Y)(e:X.length=0):ap key (X++Y)=X++Y:=by
 rw[eq_nil_of_length_eq_zero e];exact nh key h
theorem eR(h:fS key X)(e:Y.length=0):ap key (X++Y)=X++Y:=by
 rw[eq_nil_of_length_eq_zero e,append_nil];exact nh key h
theorem jR(ha:a=P.length)(hm:m=a+X.length)(hb:b=m+Y.length)(hY:fS key Y)(x:α):∀h t,m≤t→t≤h→h<b→key ((aV P X Y S).getD h En.ab)<key x→key ((aV P X Y S).getD t En.ab)<key x:=λh t q1 q2 q3 hq=>by
 rw[iq (by omega) (by omega)]at hq ⊢;have:=gl hY (i:=t-P.length-X.length) (j:=h-P.length-X.length) (by omega) (by omega);omega
theorem jN{x:α}(ha:a=P.length)(hm:m=a+1)(hb:b=m+Y.length)(hY:fS key Y)(s:BS (λt=>key ((aV P [x] Y S).getD t En.ab)<key x) m b)(he:s.j≤s.i):cw P x Y S (s.i-m)=P++(ap key ([x]++Y)++S):=by
 have q1:=s.h1;have q3:=s.h3;have e:=vJ key (x:=x) (b1:=Y.take (s.i-m)) (b2:=Y.drop (s.i-m)) (by rw[take_append_drop];exact hY) (λy hy=>?_) (λy hy=>?_)
 ·rw[take_append_drop]at e;rw[e,cw];simp only[append_assoc,cons_append,nil_append]
 ·obtain⟨j,j1,j2,rfl⟩:=fi hy;have:=s.yes (m+j) (by omega) (by omega)
  rwa [iq (by simp only[length_singleton];omega) (by simp only[length_singleton];omega),show m+j-P.length-[x].length=j by simp only[length_singleton];omega]at this
 ·obtain⟨j,j1,j2,rfl⟩:=fb hy;have:=s.no (m+j) (by omega) (by omega);rw[iq (by simp only[length_singleton];omega) (by simp only[length_singleton];omega),show m+j-P.length-[x].length=j by simp only[length_singleton];omega]at this;omega
theorem kI(ha:a=P.length)(hm:m=a+X.length)(hX:fS key X)(y:α):∀h t,a≤t→t≤h→h<m→¬key y<key ((aV P X Y S).getD h En.ab)→¬key y<key ((aV P X Y S).getD t En.ab):=λh t q1 q2 q3 hq=>by
 rw[iL (by omega) (by omega)]at hq ⊢;have:=gl hX (i:=t-P.length) (j:=h-P.length) (by omega) (by omega);omega
theorem kB{y:α}(ha:a=P.length)(hm:m=a+X.length)(hX:fS key X)(s:BS (λt=>¬key y<key ((aV P X [y] S).getD t En.ab)) a m)(he:s.j≤s.i):cw P y X S (s.i-a)=P++(ap key (X++[y])++S):=by
 have q1:=s.h1;have q3:=s.h3;have e:=xT key (x:=y) (a1:=X.take (s.i-a)) (a2:=X.drop (s.i-a)) (by rw[take_append_drop];exact hX) (λx hx=>?_) (λx hx=>?_)
 ·rw[take_append_drop]at e;rw[e,cw];simp only[append_assoc,cons_append,nil_append]
 ·obtain⟨j,j1,j2,rfl⟩:=fi hx;have:=s.yes (a+j) (by omega) (by omega);rw[iL (by omega) (by omega),show a+j-P.length=j by omega]at this;omega
 ·obtain⟨j,j1,j2,rfl⟩:=fb hx;have:=s.no (a+j) (by omega) (by omega);rw[iL (by omega) (by omega),show a+j-P.length=j by omega]at this;omega
end
structure DI(lo hi:Nat) where
 k:Nat
 h1:lo≤k
 le:k≤hi
end Go.Proofs.YtekcnnngjoonbaaGreat.VM
set_option linter.unusedSectionVars false
namespace Go.Proofs.YtekcnnngjoonbaaGreat.VM
open List Nat
open Go Go.RowKit
section
variable{α:Type}(key:α→Int)
def cu(bs:Nat)(l:List α):Nat→List α
 | 0=>[]
 | k+1=>cu bs l k++ap key ((l.drop (bs*k)).take bs)
def full(bs:Nat)(l:List α):List α:=cu key bs l l.length
theorem pn(bs:Nat)(l:List α):∀k,(cu key bs l k).length=min (bs*k) l.length
 | 0=>by simp[cu]
 | k+1=>by
  rw[cu,length_append,pn bs l k,aU,length_take,length_drop,mul_succ];omega
theorem qU(bs:Nat)(l:List α):∀k,cu key bs l (k+1)=ap key (l.take bs)++cu key bs (l.drop bs) k
 | 0=>by simp[cu]
 | k+1=>by
  rw[cu,qU bs l k,cu,drop_drop,mul_succ,Nat.add_comm bs,append_assoc]
theorem mT{bs:Nat}{l:List α}{k:Nat}(h:l.length≤bs*k):∀j,cu key bs l (k+j)=cu key bs l k
 | 0=>rfl
 | j+1=>by
  have h1:bs*k≤bs*(k+j):=mul_le_mul_left _ (by omega);rw[←Nat.add_assoc,cu,mT h j,drop_of_length_le (by omega),take_nil];exact append_nil _
theorem AZ{bs:Nat}{l:List α}{k k':Nat}(h:l.length≤bs*k)(h':l.length≤bs*k'):cu key bs l k=cu key bs l k':=by
 rcases Nat.le_total k k' with hk|hk
 ·obtain⟨j,rfl⟩:=Nat.exists_eq_add_of_le hk;exact(mT key h j).symm
 ·obtain⟨j,rfl⟩:=Nat.exists_eq_add_of_le hk;exact mT key h' j
theorem gO{bs n:Nat}(h:1≤bs):n≤bs*n:=by
 have:=mul_le_mul_right n h;omega
theorem ef{bs:Nat}{l:List α}{k:Nat}(hb:1≤bs)(h:l.length≤bs*k):cu key bs l k=full key bs l:=AZ key h (gO hb)
theorem gV{bs:Nat}(hb:1≤bs)(l:List α):full key bs l=ap key (l.take bs)++full key bs (l.drop bs):=by
 have h1:(l.drop bs).length≤bs*l.length:=by
  have:=gO (n:=l.length) hb;rw[length_drop];omega
 have h2:l.length≤bs*(l.length+1):=by
  have:=gO (n:=l.length) hb;rw[mul_succ];omega
 rw[←ef key hb h2,qU,ef key hb h1]
theorem di{bs:Nat}{l:List α}(hb:1≤bs)(h:l.length≤bs):full key bs l=ap key l:=by
 rw[←ef key hb (k:=1) (by omega)];show[]++ap key ((l.drop (bs*0)).take bs)=_;rw[Nat.mul_zero,drop_zero,take_of_length_le h,nil_append]
theorem mq{bs:Nat}{l:List α}(hb:1≤bs):(full key bs l).length=l.length:=by
 have:=gO (n:=l.length) hb;rw[full,pn];omega
theorem lR{bs:Nat}(hb:1≤bs)(r:List α):full key bs r=ap key (r.take bs)++(ap key ((r.drop bs).take bs)++full key bs (r.drop (bs+bs))):=by
 rw[gV key hb r,gV key hb (r.drop bs),drop_drop]
theorem kP{bs:Nat}(r:List α):ap key (ap key (r.take bs)++ap key ((r.drop bs).take bs))=ap key (r.take (bs+bs)):=by
 rw[ju];congr 1;rw[take_add]
end
structure BI(bs n:Nat) where
 k:Nat
 a:Nat
 ea:a=bs*k
 le:a≤n
theorem BI.next{bs n:Nat}(i:BI bs n):i.a+bs=bs*(i.k+1):=by rw[mul_succ,←i.ea]
theorem fH{α:Type}(key:α→Int){bs:Nat}{l:List α}(i:BI bs l.length):(cu key bs l i.k).length=i.a:=by
 have:=i.ea;have:=i.le;rw[pn];omega
theorem cz{α:Type}(key:α→Int){bs:Nat}{l:List α}(i:BI bs l.length):cu key bs l (i.k+1)=cu key bs l i.k++ap key ((l.drop i.a).take bs):=by
 rw[cu,←i.ea]
structure QI(n:Nat) where
 bs:Nat
 h1:1≤bs
 h2:bs≤2*n+40
structure OI(n:Nat) where
 k:Nat
 k1:1≤k
 le:k≤n∨k=1
theorem bJ{α:Type}[En α]{l r:List α}(h:l=r):(tr l).bb (tr r):=by
 subst h;exact T.eQ _
theorem cT{a b:Int}(h:a=b):X.v (iv a)=X.v (iv b):=by rw[h]
def mH(a b:Int):Int:=if a<b then -1 else if b<a then 1 else 0
theorem bI{a b:Int}:mH a b<0↔a<b:=by
 unfold mH;split
 ·simp;assumption
 ·split<;>simp<;>omega
end Go.Proofs.YtekcnnngjoonbaaGreat.VM
set_option linter.unusedSectionVars false
namespace Go.Proofs.YtekcnnngjoonbaaGreat.VM
open List Nat
open Go Go.RowKit
section
variable{α:Type}[En α]{key:α→Int}
theorem iQ{l:List α}{k:Nat}(h:k<l.length):l.take (k+1)=l.take k++[l.getD k En.ab]:=fy h
def dp(key:α→Int)(l:List α)(p:α)(k:Nat):Bool:=(l.take k).any λy=>decide (key p<key y)
def cB(key:α→Int)(l:List α)(p:α)(k:Nat):List α:=if dp key l p k=true then bL key (l.take k) p else l.take k
theorem da{l:List α}{p:α}{k:Nat}(h:k<l.length):dp key l p (k+1)=(dp key l p k || decide (key p<key (l.getD k En.ab))):=by
 unfold dp;rw[iQ h,any_append];simp
theorem tV:∀{l:List α} {p y:α},(l.any λy=>decide (key p<key y))=true→bL key (l++[y]) p=bL key l p++[y]
 | [],_,_,h=>by cases h
 | x :: l,p,y,h=>by
  rw[cons_append,bL,bL]
  by_cases hx:key p<key x
  ·rw[if_pos hx,if_pos hx];rfl
  ·rw[if_neg hx,if_neg hx,tV (by simpa [any_cons,hx]using h)];rfl
theorem mG:∀{l l2:List α} {p:α},(l.any λy=>decide (key p<key y))=false→bL key (l++l2) p=l++bL key l2 p
 | [],_,_,_=>rfl
 | x :: l,l2,p,h=>by
  rw[any_cons,Bool.or_eq_false_iff]at h;rw[cons_append,bL,if_neg (by simpa using h.1),mG h.2];rfl
theorem mh{l:List α}{p:α}{k:Nat}(h:k<l.length)(h1:dp key l p k=true):cB key l p (k+1)=cB key l p k++[l.getD k En.ab]:=by
 unfold cB;rw[da h,h1,Bool.true_or,if_pos rfl,if_pos rfl,iQ h,tV h1]
theorem ma{l:List α}{p:α}{k:Nat}(h:k<l.length)(h1:dp key l p k=false)(h2:¬key p<key (l.getD k En.ab)):cB key l p (k+1)=cB key l p k++[l.getD k En.ab]:=by
 unfold cB;rw[da h,h1,Bool.false_or,decide_eq_false h2,if_neg (by simp),if_neg (by simp),iQ h]
theorem l4{l:List α}{p:α}{k:Nat}(h:k<l.length)(h1:dp key l p k=false)(h2:key p<key (l.getD k En.ab)):cB key l p (k+1)=(cB key l p k++[p])++[l.getD k En.ab]:=by
 unfold cB;rw[da h,h1,Bool.false_or,decide_eq_true h2,if_pos rfl,if_neg (by simp),iQ h,mG h1,bL,if_pos h2,append_assoc];rfl
theorem lY{l:List α}{p:α}{k:Nat}:(cB key l p k).length≤k+1:=by
 unfold cB;split
 ·rw[eM,length_take];omega
 ·rw[length_take];omega
theorem gq{l:List α}{p:α}{k:Nat}(h1:l.length≤k)(h2:k≤l.length):bL key l p=if dp key l p k=true then cB key l p k else cB key l p k++[p]:=by
 obtain rfl:k=l.length:=by omega
 unfold cB;split
 ·rw[take_of_length_le (Nat.le_refl _)]
 ·rename_i h;have h':(l.any λy=>decide (key p<key y))=false:=by
   have:=(Bool.not_eq_true _).mp h;unfold dp at this
   rwa [take_of_length_le (Nat.le_refl _)]at this
  have:=mG (l2:=[]) h';rw[append_nil]at this;rw[this,take_of_length_le (Nat.le_refl _)];rfl
end
def eO(ks:List Int)(x:Int):Nat:=(ks.takeWhile λy=> !decide (x<y)).length
theorem xf{α:Type}(key:α→Int):∀(l:List α) (x:α),bL key l x=l.take (eO (l.map key) (key x))++x :: l.drop (eO (l.map key) (key x))
 | [],_=>rfl
 | y :: l,x=>by
  rw[bL,map_cons]
  by_cases h:key x<key y
  ·rw[if_pos h,show eO (key y :: l.map key) (key x)=0 by simp[eO,h]];rfl
  ·rw[if_neg h,show eO (key y :: l.map key) (key x)=eO (l.map key) (key x)+1 by simp[eO,h],xf key l x];rfl
theorem ku(ks:List Int)(x:Int):eO ks x≤ks.length:=List.IsPrefix.length_le (takeWhile_prefix _)
theorem fG{α:Type}(key:α→Int)(l:List α)(x d:α)(k:Nat):(bL key l x).getD k d=if k<eO (l.map key) (key x)then l.getD k d else if k=eO (l.map key) (key x)then x else l.getD (k-1) d:=by
 have hle:=ku (l.map key) (key x);rw[length_map]at hle;rw[xf]
 generalize eO (l.map key) (key x)=i at hle
 rw[getD_eq_getElem?_getD]
 by_cases h1:k<i
 ·rw[if_pos h1,getElem?_append_left (by rw[length_take];omega),getElem?_take_of_lt h1,←getD_eq_getElem?_getD]
 ·rw[if_neg h1,getElem?_append_right (by rw[length_take];omega),length_take,show min i l.length=i by omega]
  by_cases h2:k=i
  ·rw[if_pos h2,h2,Nat.sub_self];rfl
  ·rw[if_neg h2,show k-i=(k-1-i)+1 by omega,getElem?_cons_succ,getElem?_drop,show i+(k-1-i)=k-1 by omega,←getD_eq_getElem?_getD]
open Go Go.RowKit
open Go Go.RowKit Go.Sort
theorem Bb{w:World}:du w (tr ([]:List Int)) (λ_ _=>False) (.slice none 0 0):=by
 refine⟨by decide,none,0,rfl,Nat.le_refl _,by decide,0,0,λ_ _=>undef,λ_ _ _ _=>False,λh=>absurd h (by omega),λk c hk=>absurd hk (by simp),λ_ _ _ _ _ hk=>absurd hk (by simp),λk c hk=>absurd hk (by simp),λx y=>⟨λh=>h.elim,?_⟩⟩
 rintro (⟨h,_⟩|⟨_,_,_,_,h⟩)
 ·omega
 ·exact h
theorem zI{P:Program}{f:FuncId}
  (hroom:∀w,Calls P f #[.slice none 0 0,.int .i64 ((0:Nat):Int)] w λe w'=>e= .returned (.slice none 0 0)∧w'=w)
  (hgrow:∀(n:Nat) (w:World),0<n→n*8≤140737488355328→Calls P f #[.slice none 0 0,.int .i64 n] w λe w'=>∃(g:Nat) (R:Array Value) (t:TypeId),g≤maxLen∧R.size=g∧e= .returned (.slice (some ⟨w.heap.size,0,none⟩) 0 g)∧w'=w.drew.alloc (.cells R t))
  (n:Nat) (hn:n*8≤140737488355328):a_ P f [.v (.slice none 0 0),.v (iv n)] [] (ch (.h 0 []) [(0,.row,tr ([]:List Int))] []):=by
 intro w vs H G _ _ hr hv
 match vs,hv with
 | [v0,v1],⟨h0,h1,_⟩=>
 obtain rfl:v0=_:=h0;obtain rfl:v1=_:=h1;rcases eq_zero_or_pos n with rfl|hp
 ·refine(hroom w).mono ?_
  rintro e w' ⟨rfl,rfl⟩
  obtain⟨x,L,H',G',val,r1,r2,r3,r4,r5,r6⟩:=sk (S:=λ_ _=>False) [] hr (by simp) (dt.refl _ _) (λ_ _ h=>h.elim) Bb rfl (λ_ _ h=>h.elim);exact⟨_,x,L,H',G',val,rfl,r1,r2,r3,r4,r5,r6⟩
 ·refine(hgrow n w hp hn).mono ?_
  rintro e w' ⟨g,R,t,hg,hR,rfl,rfl⟩
  have hK:Kd (w.drew.alloc (.cells R t)) w.heap.size g:=⟨R,t,Array.getElem?_push_size,hR⟩
  have hC:dt (λ_ _=>False) w (w.drew.alloc (.cells R t)):=(dt.drew _).trans (dt.alloc _ _ _);have hO:=yS (l:=[]) (off:=0) (cap:=g) (by simp) hg hK (by omega) (λk hk=>absurd hk (by simp));obtain⟨x,L,H',G',val,r1,r2,r3,r4,r5,r6⟩:=sk (S:=λ_ _=>False) [] hr (by simp) hC (λ_ _ h=>h.elim) hO rfl (λa o h=> .inr (by omega));exact⟨_,x,L,H',G',val,rfl,r1,r2,r3,r4,r5,r6⟩
end Go.Proofs.YtekcnnngjoonbaaGreat.VM
