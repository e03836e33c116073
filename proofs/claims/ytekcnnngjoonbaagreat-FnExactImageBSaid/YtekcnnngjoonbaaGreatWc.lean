/- Rules to walk by. No conditions. -/
import Derived.Lib.Hide
import Derived.Lib.SliceRun
import Derived.Test.YtekcnnngjoonbaaGreatWb
set_option linter.all false
namespace Go.Proofs.YtekcnnngjoonbaaGreat.VM
open List Nat
open Go Go.RowKit
section
variable{L:List E}{val:Nat→Value}{H:Nat→Value}{G:Nat→FP}{w w':World}{P:Program}{N:Nat}{cx:Cx}{a:Act}
theorem Bi(hr:Rp L val H G w){z:T}{x:X}{v:Value}(hz:gQ [z]=true)(h:VR (aW L) H w x v)(hx:x.one=true):du w (eF [] z x).1 (λ_ _=>False) v∧(eF [] z x).2=none:=by
 have hj:du w .j (λ_ _=>False) v:=⟨hr.mZ x v h hx,λ_ _ h=>h⟩
 cases x with
 | v y=>
  have hv:v=y:=h;subst hv;simp only[eF];split
  ·rename_i n l f;split
   ·exact⟨ZC.own (t:= .s n 0 λ_ _=> .j) ⟨by simpa [gQ]using hz,rfl,rfl⟩,rfl⟩
   ·exact⟨⟨rfl,hx,λ_ _ h=>h⟩,rfl⟩
  ·exact⟨⟨rfl,hx,λ_ _ h=>h⟩,rfl⟩
 | h id q=>
  simp only[eF];split
  ·simp only[bZ];exact⟨hj,trivial⟩
  ·exact⟨hj,rfl⟩
 | _=>exact⟨hj,rfl⟩
theorem ou(hr:Rp L val H G w):∀{zs:List T} {xs:List X} {vs:List Value},zs.length=xs.length→gQ zs=true→db (aW L) H w xs vs→xs.all X.one=true→
  (eC [] zs xs).length=xs.length∧∀i v,vs[i]? =some v→du w ((eC [] zs xs).getD i (.j,none)).1 (λ_ _=>False) v∧((eC [] zs xs).getD i (.j,none)).2=none
 | [],[],[],_,_,_,_=>⟨rfl,λi v h=>by simp at h⟩
 | z :: zs,x :: xs,v :: vs,hl,hz,⟨h1,h2⟩,ho=>by
  simp only[all_cons,Bool.and_eq_true]at ho;have hz2:gQ [z]=true∧gQ zs=true:=by
   cases z<;>simp[gQ]at hz ⊢ <;>exact hz
  obtain⟨g1,g2⟩:=ou hr (zs:=zs) (by simpa using hl) hz2.2 h2 ho.2;refine⟨by simp[eC,g1],λi u hu=>?_⟩;cases i with
  | zero=>
   simp only[getElem?_cons_zero,Option.some.injEq]at hu;subst hu;exact Bi hr hz2.1 h1 ho.1
  | succ i=>exact g2 i u (by simpa using hu)
 | [],_ :: _,_,hl,_,_,_=>by simp at hl
 | _ :: _,[],_,hl,_,_,_=>by simp at hl
 | _ :: _,_ :: _,[],_,_,h,_=>h.elim
 | [],[],_ :: _,_,_,h,_=>h.elim
end

section
variable{P:Program}{N:Nat}{L:List E}{dst:Option Tmp}{ty:TypeId}{pos:String}{af:Array Edge}{g:Option (Nat×Bool)}{d:Nat}
theorem aE.AT{t:TypeId}{x:Operand}{zt:List T}[hT:dQ P t zt](hd:dst=some d)(hN:d<N)(hb:d<aa)(hx:(cp L x).flat=true)(hl:(cp L x).leaves.length=zt.length)(hz:gQ zt=true)(ho:(cp L x).leaves.all X.one=true):aE P N ⟨dst,.box t x,ty,pos,af,g⟩ L
   (iR (eV (cr L d)) d (eC [] zt (cp L x).leaves) (cp L x).leaves 0++cn (.rt d .box (l_ zt.length 1 (eC [] zt (cp L x).leaves)) :: cr L d) d (.p d [] zt.length 0 0)):=
 aE.op (λcx a w hs=>by
  obtain⟨H,G,hr,hG⟩:=hs.rp;have hv:=(dw hr x).cells hr.mZ hx;obtain⟨q1,q2⟩:=ou hr hl.symm hz hv ho;have hC:dt (λ_ _=>False) w (w.alloc (.cells (a.eval x).cells t)):=dt.alloc _ _ _;have hcs:(a.eval x).cells.size=zt.length:=by have:=hv.len;simp only[Array.length_toList]at this;omega
  have hold:∀id m t,aW L id m t→∀x y,G id x y→x<w.heap.size:=λid m t h x y hg=>by
   by_cases hm:m= .ro
   ·subst hm;exact hr.fR id t h x y hg
   ·exact(hr.own id m t h hm).n9 x y hg
  have g1:=du.alloc (w:=w) (n:=zt.length) (len:=1) (cap:=1) (f:=λk c=>((eC [] zt (cp L x).leaves).getD (k*zt.length+c) (.j,none)).1) hT.pos (Nat.le_refl _) (by simp[maxLen]) (cs:=(a.eval x).cells) (e:=t) (by omega) (λ_ _=>λ_ _=>False) (λk c hk hc=>by
   have hlt:k*zt.length+c<(a.eval x).cells.size:=by
    rw[show k=0 by omega];omega
   exact⟨(a.eval x).cells[k*zt.length+c],by simp[hlt],(q2 _ _ (by simp[hlt])).1⟩) (λ_ _ _ _ _ _ _ _ _ _ _ h=>h.elim)
  generalize hF:(λa o=>(0<1∧gp w.heap.size a o)∨∃k c,k<1∧c<zt.length∧False)=F at g1
  have hFn:∀a o,F a o→a=w.heap.size:=λa o h=>by
   rw[←hF]at h;rcases h with⟨_,h⟩|⟨_,_,_,_,h⟩
   ·exact h
   ·exact h.elim
  have g2:∀id m t,aW L id m t→∀a o,G id a o→F a o→False:=λid m t h a o hg hf=>by
   have:=hold id m t h a o hg;have:=hFn a o hf;omega
  have g3:∀a o,F a o→cx.S0 a o∨cx.w0.heap.size≤a:=λa o hf=>by
   have:=hFn a o hf;have:=hs.fV.size;exact .inr (by omega)
  refine⟨.pointer (some ⟨w.heap.size,0,none⟩),w.alloc (.cells (a.eval x).cells t),jh (by simp[Instr.box,newVar,newRow]),?_⟩;rw[hd]
  generalize hss:eC [] zt (cp L x).leaves=ss at*
  have h1:=(hr.fV hC λ_ _ _ _ _ _ _ h=>h).new d (m:= .box) (by simp) g1 (λ_=>⟨_,_,rfl⟩) (λid m t _ h=>g2 id m t h);have hbox:=VR.box (o:=w.heap.size) (R:=aW (.rt d .box (l_ zt.length 1 ss) :: cr L d)) (H:=bm H d (.slice (some ⟨w.heap.size,0,none⟩) 1 1)) (w:=w.alloc (.cells (a.eval x).cells t)) (m:= .box) (mem_cons_self ..) hT.pos (by simp[bm]);have h2:=(h1.put (d:=d) hbox).val λt=>(Act.jc (a:=a) (v:= .pointer (some ⟨w.heap.size,0,none⟩)) (Nat.lt_of_lt_of_le hN hs.kR) t).symm;have hA:∀e∈iR (eV (cr L d)) d ss (cp L x).leaves 0,∃id c x,e=E.al id c x:=λe he=>by
   obtain⟨k,y,h,_⟩:=jz he;exact⟨_,_,_,h⟩
  have hsat:=hs.new (cx:=cx) hr hG hC hN hb (m:= .box) (by simp) g1 (λ_=>⟨_,_,rfl⟩) (λid m t _ h=>g2 id m t h) g3 hbox;obtain⟨_,_,hs3,_⟩:=hsat;refine⟨by simpa [Go.Act.put]using hs.kR,by simpa [Go.Act.put]using hs.lc,hs3,bm H d (.slice (some ⟨w.heap.size,0,none⟩) 1 1),bm G d F,h2.Ee λe he=>?_,?_⟩
  ·obtain⟨k,y,rfl,hk1,hk2,hk3⟩:=jz he;refine⟨d,0+k,y,rfl,zt.length,_,by rw[cq];exact mem_cons_self .., ?_,?_⟩
   ·have hlt:k<(cp L x).leaves.length:=by
     rcases Nat.lt_or_ge k (cp L x).leaves.length with h|h
     ·exact h
     ·rw[getElem?_eq_none h]at hk1;cases hk1
    omega
   ·have hlt:k<(a.eval x).cells.size:=by
     have h6:=hv.len;rcases Nat.lt_or_ge k (cp L x).leaves.length with h|h
     ·simp only[Array.length_toList]at h6;omega
     ·rw[getElem?_eq_none h]at hk1;cases hk1
    have hcell:(w.alloc (.cells (a.eval x).cells t)).cell? ⟨w.heap.size,k,none⟩=some (a.eval x).cells[k]:=by
     have hbk:(w.alloc (.cells (a.eval x).cells t)).heap[w.heap.size]? =some (.cells (a.eval x).cells t (0,0)):=Array.getElem?_push_size;simp only[World.cell?,hbk,Option.isSome_none,Bool.false_eq_true,if_false];exact Array.getElem?_eq_getElem hlt
    refine⟨⟨w.heap.size,k,none⟩,(a.eval x).cells[k],by simp[bm,gU],hcell,?_⟩;have hvk:=hv.nth.2 k;rw[getD_eq_getElem?_getD,hk1]at hvk;have:((a.eval x).cells.toList.getD k undef)=(a.eval x).cells[k]:=by simp[hlt]
    rw[this]at hvk;simp only[Option.getD_some]at hvk;rw[cq];refine VR.leaves (C:=λx=>x.kT (eV (cr L d))=true) (λz u hl' hz' hu=>?_) (X.nV hk3) (VR.fV hr hC (λ_ _ _ _ _ _ _ h=>h) hvk);have hin:∀id,(eV (cr L d)).contains id=true→∀m t,aW L id m t→aW (.rt d .box (l_ zt.length 1 ss) :: cr L d) id m t∧bm H d (.slice (some ⟨w.heap.size,0,none⟩) 1 1) id=H id:=λid hi m t hh=>by
     obtain⟨m',t',h'⟩:=ei.1 (by simpa using hi);obtain⟨h8,h9⟩:=bw.1 h';obtain⟨rfl,rfl⟩:=hr.one _ _ _ _ _ hh h8;exact⟨mem_cons_of_mem _ h',by simp[bm,h9]⟩
    cases z with
    | p id q n k c=>obtain⟨m,t,h1,h2⟩:=hu;have:=hin id (by simpa [X.kT]using hz') _ _ h1;exact⟨m,t,this.1,by rw[this.2];exact h2⟩
    | h id q=>obtain⟨m,t,h1,h2⟩:=hu;have:=hin id (by simpa [X.kT]using hz') _ _ h1;exact⟨m,t,this.1,by rw[this.2];exact h2⟩
    | a id q n lo len=>obtain⟨m,t,h1,h2⟩:=hu;have:=hin id (by simpa [X.kT]using hz') _ _ h1;exact⟨m,t,this.1,by rw[this.2];exact h2⟩
    | _=>exact hl'.elim
  ·rw[w6 hA,cq];refine⟨λid m' t' k1 k2 x y k3=>?_,λid m' t' k0 k1=>?_⟩
   ·by_cases e:id=d
    ·subst e;simp only[bm,if_true]at k3;exact g3 x y k3
    ·simp only[bm,e,if_false]at k3;rcases List.mem_cons.1 k1 with k1|k1
     ·cases k1;exact absurd rfl e
     ·exact hG.1 id m' t' (bw.1 k1).1 k2 x y k3
   ·have e:id≠d:=by omega
    simp only[bm,e,if_false];rcases List.mem_cons.1 k1 with k1|k1
    ·cases k1;exact absurd rfl e
    ·exact hG.2 id m' t' k0 (bw.1 k1).1)
end

def X.er(x:X):X:=if x.yg then .c else x
def C_(L:List E)(id c:Nat)(x:X):List E:=if x.yg&&x.kT (eV L)then .al id c x :: L else L
def tj(L:List E)(id:Nat)(t:T)(n c:Nat)(z:T)(x:X):List E:=C_ (Bn L id t [] n 0 c (eF [] z x.er)) id c x
def BD(id:Nat)(n c:Nat)(z:T)(x:X)(xs:List X):Bool:=x.one&&gQ [z]&&(x :: xs).all (λy=> !X.rX id [(n,0,c)] y)
def iG(id:Nat)(n:Nat):Nat→List T→List X→List E→T→Option (List E)
 | c,z :: zs,x :: xs,L,t=>
  if BD id n c z x xs=true then
   iG id n (c+1) zs xs (tj L id t n c z x) (t.put [] 0 c (eF [] z x.er).1)
  else none
 | _,[],[],L,_=>some L
 | _,_,_,_,_=>none
theorem Aq(L:List E)(z:T)(x:X):eF L z x.er=eF [] z x.er:=by
 unfold X.er;split
 ·rfl
 ·rename_i h;cases x<;>simp[X.yg]at h<;>rfl
theorem xu(z:T)(x:X):(eF [] z x.er).2=none:=by
 unfold X.er;split
 ·rfl
 ·rename_i h;cases x<;>simp[X.yg]at h<;>simp only[eF]
  split
  ·split<;>rfl
  ·rfl
section
variable{L:List E}{val:Nat→Value}{H:Nat→Value}{G:Nat→FP}{w w':World}{cx:Cx}{P:Program}
theorem xB{id c:Nat}{x:X}:aW (C_ L id c x)=aW L:=by
 unfold C_;split
 ·funext i m t;simp[aW]
 ·rfl
theorem Di(hr:Rp L val H G w){x:X}{v:Value}(h:VR (aW L) H w x v)(hx:x.one=true):VR (aW L) H w x.er v:=by
 unfold X.er;split
 ·exact hr.mZ x v h hx
 ·exact h
theorem BV{x:X}(hx:x.one=true):x.er.one=true:=by
 unfold X.er;split
 ·rfl
 ·exact hx
theorem lO{id:Nat}{n b o:Nat}:∀(zs:List T) (xs:List X) (vs:List Value) (c:Nat) (L:List E) (t:T) (G:Nat→FP) (w:World) {L':List E},Rp L val H G w→Good cx L H G→dt cx.S0 cx.w0 w→aW L id .box t→(∃f,t= .s n 1 f)→c+zs.length≤n→
  VR (aW L) H w (.p id [] n 0 0) (.pointer (some ⟨b,o,none⟩))→db (aW L) H w xs vs→iG id n c zs xs L t=some L'→
  ∃w' G',(storeCells ⟨b,o,none⟩ vs c).run P w= .ok () w'∧Rp L' val H G' w'∧Good cx L' H G'∧dt cx.S0 cx.w0 w'
 | [],[],[],c,L,t,G,w,L',hr,hG,hch,_,_,_,_,_,e=>by
  simp only[iG,Option.some.injEq]at e;subst e;exact⟨w,G,rfl,hr,hG,hch⟩
 | z :: zs,x :: xs,v :: vs,i,L,t,G,w,L',hr,hG,hch,hid,⟨f,ht⟩,hc,hp,⟨hv,hvs⟩,e=>by
  rw[iG]at e;split at e
  ·rename_i hcond;simp only[BD,Bool.and_eq_true,all_cons,Bool.not_eq_true']at hcond;obtain⟨⟨c1,c3⟩,c5,c4⟩:=hcond;simp only[length_cons]at hc;have hat:t.at []= .s n 1 f:=by rw[ht];simp[T.at]
   have hne:(eF L z x.er).2≠some id:=by rw[Aq,xu];simp
   obtain⟨h',b',o',sz,G',e1,e2,e3,e4,e5,e6,e7,e8,e9⟩:=oI hr hG hch (by simp) hid (q:=[]) (by simp[bT]) hat (k:=0) (by omega) (by omega:i<n) c3 (Di hr hv c1) (BV c1) hne;rw[Aq]at e5 e6 e8 e9;have hadr:b'=b∧o'=o+i:=by
    obtain⟨m1,t1,g1,g2,⟨l1,f1,g3,g4,g5⟩,hv',A,g6,g7,g8⟩:=hp;rw[e1]at g6;cases g6;obtain⟨a0,l0,c0,k1,k2⟩:=ez g7;cases g8;rw[k1]at e2;simp only[gU,Option.some.injEq,Addr.mk.injEq]at e2;simp only[Addr.mk.injEq]at k2;omega
   obtain⟨rfl,rfl⟩:=hadr;have hmn:∀y,Ac (eF [] z x.er).2 y=false:=λy=>by rw[xu];rfl
   have hcell:(w.setCell ⟨b',o+i,none⟩ v).cell? ⟨b',o+i,none⟩=some v:=by
    obtain⟨y,hy⟩:=Option.isSome_iff_exists.1 (e3.cell e4);exact World.cell?_setCell_same w _ v hy
   have hAl:Rp (tj L id t n i z x) val H G' (w.setCell ⟨b',o+i,none⟩ v):=by
    unfold tj C_;split
    ·refine e5.Ee (A:=[.al id i x]) λee he=>?_;rw[mem_singleton]at he;subst he;refine⟨id,i,x,rfl,n,m6 f 0 i (eF [] z x.er).1,?_,by omega,⟨b',o+i,none⟩,v,?_,hcell,e9 (hmn x) (by simpa using c5) hv⟩
     ·rw[ht]at e8 ⊢;exact e8
     ·simp only[VM.hd,Option.some.injEq]at e1;rw[e1];obtain⟨a0,l0,c0,k1,k2⟩:=ez e2;rw[k1,k2];simp[gU]
    ·exact e5
   have hGl:Good cx (tj L id t n i z x) H G':=by
    unfold Good tj;rw[xB];exact e6
   have hrt:aW (tj L id t n i z x)=aW (Bn L id t [] n 0 i (eF [] z x.er)):=xB;have hp':=e9 (y:= .p id [] n 0 0) (hmn _) (by simp[X.rX,p0]) hp;have hvs':db (aW (tj L id t n i z x)) H (w.setCell ⟨b',o+i,none⟩ v) xs vs:=by
    rw[hrt];clear e
    induction xs generalizing vs with
    | nil=>cases vs with
     | nil=>trivial
     | cons _ _=>exact hvs.elim
    | cons y ys ih=>
     cases vs with
     | nil=>exact hvs.elim
     | cons u us=>
      simp only[all_cons,Bool.and_eq_true,Bool.not_eq_true']at c4;exact⟨e9 (hmn _) (by simpa using c4.1) hvs.1,ih us hvs.2 c4.2⟩
   obtain⟨w',G2,r1,r2,r3,r4⟩:=lO zs xs vs (i+1) _ _ G' _ hAl hGl e7 (by rw[hrt];exact e8) ⟨_,by rw[ht];simp only[T.put];rfl⟩ (by omega) (by rw[hrt];exact hp') hvs' e;refine⟨w',G2,?_,r2,r3,r4⟩;have hone:=hr.mZ x v hv c1;have hs:(store ((⟨b',o,none⟩:Addr).add i) v).run P w= .ok () (w.setCell ⟨b',o+i,none⟩ v):=by
    rw[Addr.add_lit];exact oN e3 e4 hone
   simp only[storeCells,Sem.run_bind,hs,Result.andThen];exact r1
  ·exact absurd e (by simp)
 | [],[],_ :: _,_,_,_,_,_,_,_,_,_,_,_,_,_,h,_=>h.elim
 | _,_ :: _,[],_,_,_,_,_,_,_,_,_,_,_,_,_,h,_=>h.elim
 | [],_ :: _,_,_,_,_,_,_,_,_,_,_,_,_,_,_,_,e=>by simp[iG]at e
 | _ :: _,[],_,_,_,_,_,_,_,_,_,_,_,_,_,_,_,e=>by simp[iG]at e
end
section
variable{P:Program}{N:Nat}{L:List E}{dst:Option Tmp}{ty:TypeId}{pos:String}{af:Array Edge}{g:Option (Nat×Bool)}{d:Nat}
theorem aE.lG{t:TypeId}{x y:Operand}{zt:List T}[hTy:dQ P t zt]{id:Nat}{n c:Nat}{f:Nat→Nat→T}{L':List E}(hx:cp L x= .p id [] n 0 c)(hR:bZ L id=some (.box,.s n 1 f))
  (hf:(cp L y).flat=true) (hl:(cp L y).leaves.length=zt.length) (hc:c+zt.length≤n) (hst:iG id n c zt (cp L y).leaves L (.s n 1 f)=some L'):aE P N ⟨none,.store t x y,ty,pos,af,g⟩ L L':=
 aE.D9 (λcx a w hs=>by
  obtain⟨H,G,hr,hG⟩:=hs.rp;have hv:=dw hr x;rw[hx]at hv;obtain⟨m',t',g1,g2,⟨l',f',g3,g4,g5⟩,hv',A,g6,g7,g8⟩:=hv;obtain⟨rfl,rfl⟩:=hr.one _ _ _ _ _ g1 (aq hR);have hy:=(dw hr y).cells hr.mZ hf;have hyl:=hy.len;simp only[Array.length_toList]at hyl;obtain⟨a0,l0,c0,k1,k2⟩:=ez g7;have hp:VR (aW L) H w (.p id [] n 0 0) (.pointer (some ⟨a0.block,a0.off,none⟩)):=
   ⟨.box,_,g1,g2,⟨1,f,by simp[T.at],by omega,by omega⟩,hv',_,g6,by rw[k1];simp[gU],rfl⟩
  obtain⟨w',G',r1,r2,r3,r4⟩:=lO (P:=P) (b:=a0.block) (o:=a0.off) zt _ _ c L _ G w hr hG hs.fV g1 ⟨f,rfl⟩ hc hp hy hst;refine⟨w',?_,⟨hs.kR,hs.lc,r4,H,G',r2,r3⟩⟩;have hsz:(a.eval y).cells.size=zt.length:=by omega
  have hA:∀(vs:List Value) (i:Nat) (w:World),(storeCells A vs i).run P w=(storeCells ⟨a0.block,a0.off,none⟩ vs (c+i)).run P w:=by
   intro vs
   induction vs with
   | nil=>intro i w;rfl
   | cons u us ih=>
    intro i w;have hadd:A.add i=(⟨a0.block,a0.off,none⟩:Addr).add (c+i):=by
     rw[k2,Addr.add_lit,Addr.add_lit];congr 1;omega
    simp only[storeCells,Sem.run_bind,hadd];congr 1;funext u w;rw[ih (i+1) w];congr 2
  have:=hA (a.eval y).cells.toList 0 w;rw[Nat.add_zero,r1]at this;simp[execOp,g8,Instr.storeAt,Instr.sureAddr,storeVar,hTy.size w,hsz,this])
end
open Go Go.RowKit
def T.set(t:T)(q:bF)(y:T):T:=
  match q with
  | []=>y
  | (_,k0,c0) :: q'=>match t with
    | .s n len f=> .s n len (m6 f k0 c0 ((f k0 c0).set q' y))
    | t=>t
def Bh(q r:bF):Prop:=∃a s,r=q++a :: s

theorem du.sub{w:World}{n len:Nat}{f:Nat→Nat→T}{F:FP}{h:Value}(hO:du w (.s n len f) F h){k c:Nat}(hk:k<len)(hc:c<n):
  ∃(b o:Nat) (x:Value) (Gx:FP),gU h n k c=some ⟨b,o,none⟩∧w.cell? ⟨b,o,none⟩=some x∧du w (f k c) Gx x∧F b o∧(∀a p,Gx a p→F a p)∧(∀k' c' b' o',k'<len→c'<n→gU h n k' c'=some ⟨b',o',none⟩→¬Gx b' o')∧
   ∀{w':World} {S:FP} {y:T} {Gy:FP},dt S w w'→(∀a p,F a p→S a p→Gx a p)→du w' y Gy x→(∀a p,Gy a p→Gx a p∨¬F a p)→
    du w' (.s n len (VM.m6 f k c y)) (λa p=>(F a p∧¬Gx a p)∨Gy a p) h∧w'.cell? ⟨b,o,none⟩=some x∧
    ∀n' k' c' r,(k'≠k∨c'≠c)→bT (.s n len f) ((n',k',c') :: r)→hd w' h ((n',k',c') :: r)=hd w h ((n',k',c') :: r):=by
 obtain⟨hn,a,cap,h0,hl,hm,b,off,V,G,h1,h2,h3,h4,h5⟩:=hO;have hcap:0<cap:=by omega
 have hrow:∀k' c',k'<len→c'<n→gp b b (off+(k'*n+c')):=λ_ _ _ _=>rfl;obtain⟨ha,sz,hsz,hoff⟩:=h1 hcap;obtain⟨e1,e2⟩:=h2 k c hk hc;have hin:∀k' c',k'<len→c'<n→F b (off+(k'*n+c')):=λk' c' hk' hc'=>(h5 _ _).2 (.inl ⟨hcap,hrow k' c' hk' hc'⟩);have hsubF:∀k' c',k'<len→c'<n→∀x y,G k' c' x y→F x y:=λk' c' hk' hc' x y hG=>(h5 x y).2 (.inr ⟨k',c',hk',hc',hG⟩);refine⟨b,off+(k*n+c),V k c,G k c,?_,e1,e2,hin k c hk hc,hsubF k c hk hc,λk' c' b' o' hk' hc' ha' hG=>?_,?_⟩
 ·rw[h0,ha];rfl
 ·rw[h0,ha]at ha';simp only[gU,Option.some.injEq,Addr.mk.injEq]at ha';obtain⟨rfl,rfl,_⟩:=ha';exact h4 k c hk hc _ _ hG (hrow k' c' hk' hc')
 intro w' S y Gy hC hS hy hGy;have hcellAll:∀k' c',k'<len→c'<n→w'.cell? ⟨b,off+(k'*n+c'),none⟩=some (V k' c'):=λk' c' hk' hc'=>
  hC.cell (h2 k' c' hk' hc').1 λhs=>h4 k c hk hc _ _ (hS _ _ (hin k' c' hk' hc') hs) (hrow k' c' hk' hc')
 have hoth:∀k' c',(k'≠k∨c'≠c)→k'<len→c'<n→du w' (f k' c') (G k' c') (V k' c'):=λk' c' hne hk' hc'=>
  (h2 k' c' hk' hc').2.frame hC λx y hG hs=>h3 k' c' k c hne hk' hc' hk hc x y hG (hS _ _ (hsubF k' c' hk' hc' x y hG) hs)
 refine⟨⟨hn,a,cap,h0,hl,hm,b,off,V,λk' c'=>if k'=k∧c'=c then Gy else G k' c',λ_=>⟨ha,sz,hsz.fV hC,hoff⟩,?_,?_,?_,?_⟩,hcellAll k c hk hc,?_⟩
 ·intro k' c' hk' hc';refine⟨hcellAll k' c' hk' hc',?_⟩
  by_cases he:k'=k∧c'=c
  ·obtain⟨rfl,rfl⟩:=he;simp only[and_self,if_true,VM.m6];exact hy
  ·simp only[VM.m6,he,if_false];exact hoth k' c' (by omega) hk' hc'
 ·intro k1 c1 k2 c2 hne hk1 hc1 hk2 hc2 x y g1 g2
  by_cases e1:k1=k∧c1=c
  ·have e2:¬(k2=k∧c2=c):=by omega
   simp only[e1,and_self,if_true]at g1;simp only[e2,if_false]at g2;rcases hGy x y g1 with h|h
   ·exact h3 k c k2 c2 (by omega) hk hc hk2 hc2 x y h g2
   ·exact h ((h5 x y).2 (.inr ⟨k2,c2,hk2,hc2,g2⟩))
  ·simp only[e1,if_false]at g1
   by_cases e2:k2=k∧c2=c
   ·simp only[e2,and_self,if_true]at g2;rcases hGy x y g2 with h|h
    ·exact h3 k c k1 c1 (by omega) hk hc hk1 hc1 x y h g1
    ·exact h ((h5 x y).2 (.inr ⟨k1,c1,hk1,hc1,g1⟩))
   ·simp only[e2,if_false]at g2;exact h3 k1 c1 k2 c2 hne hk1 hc1 hk2 hc2 x y g1 g2
 ·intro k' c' hk' hc' x y g hr
  by_cases e1:k'=k∧c'=c
  ·simp only[e1,and_self,if_true]at g;rcases hGy x y g with h|h
   ·exact h4 k c hk hc x y h hr
   ·exact h ((h5 x y).2 (.inl ⟨hcap,hr⟩))
  ·simp only[e1,if_false]at g;exact h4 k' c' hk' hc' x y g hr
 ·intro x y;constructor
  ·rintro (⟨hF,hG⟩|hG)
   ·rcases(h5 x y).1 hF with h|⟨k',c',hk',hc',h⟩
    ·exact .inl h
    ·refine .inr ⟨k',c',hk',hc',?_⟩;have e1:¬(k'=k∧c'=c):=by rintro ⟨rfl,rfl⟩;exact hG h
     simp only[e1,if_false];exact h
   ·exact .inr ⟨k,c,hk,hc,by simp only[and_self,if_true];exact hG⟩
  ·rintro (⟨h,hr⟩|⟨k',c',hk',hc',g⟩)
   ·exact .inl ⟨(h5 x y).2 (.inl ⟨h,hr⟩),λhG=>h4 k c hk hc x y hG hr⟩
   ·by_cases e1:k'=k∧c'=c
    ·simp only[e1,and_self,if_true]at g;exact .inr g
    ·simp only[e1,if_false]at g;exact .inl ⟨(h5 x y).2 (.inr ⟨k',c',hk',hc',g⟩),λhG=>h3 k' c' k c (by omega) hk' hc' hk hc x y g hG⟩
 ·intro n' k' c' r hne hq;obtain⟨hnn,hk',hc',hr⟩:=hq;subst hnn;rw[h0,ha];obtain⟨g3,g4⟩:=h2 k' c' hk' hc';simp only[hd,gU,hcellAll k' c' hk' hc',g3];exact jy hC g4.rd hr λx y hG hs=>h3 k' c' k c hne hk' hc' hk hc x y hG (hS _ _ (hsubF k' c' hk' hc' x y hG) hs)

theorem du.Dw{w:World}:∀{q:bF} {t:T} {F:FP} {h:Value},du w t F h→bT t q→
    ∃(h':Value) (Gx:FP),hd w h q=some h'∧du w (t.at q) Gx h'∧(∀a p,Gx a p→F a p)∧(q≠[]→∀n len f,t= .s n len f→∀k c b o,k<len→c<n→gU h n k c=some ⟨b,o,none⟩→¬Gx b o)∧
      ∀{w':World} {S:FP} {y:T} {Gy:FP},dt S w w'→(∀a p,F a p→S a p→Gx a p)→du w' y Gy h'→(∀a p,Gy a p→Gx a p∨¬F a p)→
        du w' (t.set q y) (λa p=>(F a p∧¬Gx a p)∨Gy a p) h∧∀r,¬Bh q r→bT t r→hd w' h r=hd w h r
  | [],t,F,h,hO,_=>⟨h,F,rfl,(by simpa only[T.at]using hO),λ_ _ h=>h,λh=>absurd rfl h,by
    intro w' S y Gy hC hS hy hG;refine⟨?_,λr hr hok=>?_⟩
    · simp only[T.set];refine hy.CC λa p=>?_;constructor
      · exact .inr
      · rintro (⟨h1,h2⟩|h1)
        · exact absurd h1 h2
        · exact h1
    · cases r with
      | nil=>rfl
      | cons a s=>exact absurd ⟨a,s,rfl⟩ hr⟩
  | (n0,k0,c0) :: q,.s n1 len1 f1,F,h,hO,⟨hnn,hk0,hc0,hq⟩=>by
    subst hnn;obtain⟨b1,o1,x1,G1,g1,g2,g3,g4,g5,g6,g7⟩:=hO.sub hk0 hc0;obtain⟨h',Gx,e1,e2,e3,_,e4⟩:=du.Dw g3 hq;refine⟨h',Gx,?_,by simpa only[T.at]using e2,λa p hG=>g5 a p (e3 a p hG),λ_ n len f ht k c b o hk hc ha hG=>?_,?_⟩
    rotate_left
    · cases ht;exact g6 k c b o hk hc ha (e3 b o hG)
    rotate_left
    · simp only[hd,g1,g2];exact e1
    intro w' S y Gy hC hS hy hG;obtain⟨k1,k2⟩:=e4 hC (λa p h1 h2=>hS a p (g5 a p h1) h2) hy λa p hGy=>(hG a p hGy).imp_right λhF hG1=>hF (g5 a p hG1);obtain⟨m1,m2,m3⟩:=g7 hC (λa p h1 h2=>e3 a p (hS a p h1 h2)) k1 (λa p hg=>by
      rcases hg with⟨h1,_⟩|h1
      · exact .inl h1
      · exact(hG a p h1).imp_left (e3 a p))
    refine⟨?_,λr hr hok=>?_⟩
    · simp only[T.set];refine m1.CC λa p=>?_;constructor
      · rintro (⟨hF,h1⟩|⟨h1,h2⟩|h1)
        · exact .inl ⟨hF,λhGx=>h1 (e3 a p hGx)⟩
        · exact .inl ⟨g5 a p h1,h2⟩
        · exact .inr h1
      · rintro (⟨hF,h1⟩|h1)
        · by_cases hG1:G1 a p
          · exact .inr (.inl ⟨hG1,h1⟩)
          · exact .inl ⟨hF,hG1⟩
        · exact .inr (.inr h1)
    · cases r with
      | nil=>rfl
      | cons a r=>
        obtain⟨n',k',c'⟩:=a
        by_cases e:k'=k0∧c'=c0
        · obtain⟨rfl,rfl⟩:=e;obtain⟨hnn,_,_,hok⟩:=hok;subst hnn;simp only[hd,g1,g2,m2];exact k2 r (λ⟨a,s,hs⟩=>hr ⟨a,s,by rw[hs];rfl⟩) hok
        · exact m3 n' k' c' r (by omega) hok
  | _ :: _,.v _,_,_,_,hq=>hq.elim
  | _ :: _,.j,_,_,_,hq=>hq.elim

theorem yP:∀{q:bF} {t:T} {y:T} {r:bF},bT t q→¬Bh q r→bT t r→bT (t.set q y) r∧(r=q∧(t.set q y).at r=y∨r≠q∧∀{n len:Nat} {f:Nat→Nat→T},t.at r= .s n len f→∃f',(t.set q y).at r= .s n len f')
  | [],t,y,[],_,_,_=>⟨by simp[bT],.inl ⟨rfl,by simp[T.at,T.set]⟩⟩
  | [],t,y,a :: s,_,h,_=>absurd ⟨a,s,rfl⟩ h
  | (n0,k0,c0) :: q,.s n1 l1 f1,y,[],_,_,_=>⟨by simp[bT],.inr ⟨by simp,λ{n len f} h=>by
    simp only[T.at,T.set]at h ⊢;cases h;exact⟨_,rfl⟩⟩⟩
  | (n0,k0,c0) :: q,.s n1 l1 f1,y,(n',k',c') :: r,hq0,h,hq=>by
    obtain⟨h1,h2,h3,h4⟩:=hq;obtain⟨e1,_,_,e4⟩:=hq0;simp only[T.set,bT,T.at]
    by_cases e:k'=k0∧c'=c0
    · obtain⟨rfl,rfl⟩:=e;simp only[VM.m6,and_self,if_true];obtain⟨g1,g2⟩:=yP (y:=y) e4 (λ⟨a,s,hs⟩=>h ⟨a,s,by rw[hs,h1,e1];rfl⟩) h4;refine⟨⟨h1,h2,h3,g1⟩,?_⟩;rcases g2 with⟨g2,g3⟩|⟨g2,g3⟩
      · exact .inl ⟨by rw[g2,h1,e1],g3⟩
      · exact .inr ⟨λhh=>g2 (by simpa using(List.cons.inj hh).2),g3⟩
    · simp only[VM.m6,e,if_false];exact⟨⟨h1,h2,h3,h4⟩,.inr ⟨λhh=>e (by have:=(List.cons.inj hh).1;simp only[Prod.mk.injEq]at this;exact this.2),λh=>⟨_,h⟩⟩⟩
  | _ :: _,.v _,_,[],hq,_,_=>hq.elim
  | _ :: _,.j,_,[],hq,_,_=>hq.elim
  | _ :: _,.v _,_,_ :: _,hq,_,_=>hq.elim
  | _ :: _,.j,_,_ :: _,hq,_,_=>hq.elim
theorem n6:∀{q s:bF},p0 q (q++s)=true
  | [],_=>rfl
  | (a,b,d) :: q,s=>by simp[p0,n6 (q:=q)]
open Go Go.RowKit

abbrev eJ:=Nat×Nat×bF×T
def T.sY:T→Bool
 | .s .. =>true
 | _=>false
def T.CM:T→Bool
 | .j=>true
 | _=>false
theorem T.sb:∀{t:T},t.sY=true→∃n len f,t= .s n len f
 | .s n len f,_=>⟨n,len,f,rfl⟩
 | .v _,h=>by cases h
 | .j,h=>by cases h
/- arguments handed over: each header's node under a number of its own -/
mutual
def wX(L:List E):X→Nat→X×List eJ×Nat
 | .h id q,n=>match bZ L id with
  | some (_,t)=>if T.sY (t.at q)=true then(.h n [],[(n,id,q,t.at q)],n+1)else(.j,[],n)
  | none=>(.j,[],n)
 | .p id q w k c,n=>match bZ L id with
  | some (_,t)=>if T.sY (t.at q)=true then(.p n [] w k c,[(n,id,q,t.at q)],n+1)else(.j,[],n)
  | none=>(.j,[],n)
 | .g xs,n=>let (ys,r,m):=Av L xs n;(.g ys,r,m)
 | .v x,n=>(.v x,[],n)
 | .c,n=>(.c,[],n)
 | .f f [],n=>(.f f [],[],n)
 | _,n=>(.j,[],n)
def Av(L:List E):List X→Nat→List X×List eJ×Nat
 | [],n=>([],[],n)
 | x :: xs,n=>let (y,r,m):=wX L x n;let (ys,rs,m'):=Av L xs m;(y :: ys,r++rs,m')
end
def dr:List (Nat×T)→Nat→Option T
  | [],_=>none
  | (i,y) :: r,n=>if beq i n then some y else dr r n
def kX(Ws:List (Nat×T)):List eJ→List E
  | []=>[]
  | (n,_,_,t) :: r=> .rt n (match dr Ws n with|some _=> .row|none=> .ro) t :: kX Ws r
def eX(Ws:List (Nat×T)):List eJ→Nat→Option (bF×T)
  | [],_=>none
  | (n,i,q,_) :: r,id=>match dr Ws n with
    | some y=>if beq i id then some (q,y)else eX Ws r id
    | none=>eX Ws r id
def AA(L:List E)(id:Nat)(q:bF)(y:T):Bool:=match bZ L id with
 | some (.row,_)=>true
 | some (.box,_)=>(match q with| []=>(match y with| .s _ l _=>beq l 1|_=>false)|_=>true)
 | _=>false
def DN(L:List E)(Ws:List (Nat×T)):List eJ→Bool
  | []=>true
  | (n,i,q,_) :: r=>(match dr Ws n with
      | some y=>(T.sY y || T.CM y)&&AA L i q y&&r.all λe=> !beq i e.2.1
      | none=>r.all λe=>(match dr Ws e.1 with|some _=> !beq i e.2.1|none=>true))&&DN L Ws r
def kq(es:List eJ)(Ws:List (Nat×T))(id:Nat)(r:bF):Bool:=match eX Ws es id with
 | some (q,_)=> !p0 q r
 | none=>true
def qf(es:List eJ)(Ws:List (Nat×T))(id:Nat)(r:bF)(n k c:Nat):Bool:=match eX Ws es id with
 | some (q,.s n' l' _)=>beq r.length q.length&&(beq n' n&&(blt k l'&&blt c n))
 | some _=>false
 | none=>true
mutual
def jx(es:List eJ)(Ws:List (Nat×T)):X→Bool
  | .p id q n k c=>kq es Ws id q || qf es Ws id q n k c
  | .h id r=>kq es Ws id r || (match eX Ws es id with|some (q,y)=>beq r.length q.length&&T.sY y|none=>true)
  | .a id q .. =>kq es Ws id q
  | .g xs=>lx es Ws xs
  | .t xs=>lx es Ws xs
  | .f _ xs=>lx es Ws xs
  | _=>true
def lx(es:List eJ)(Ws:List (Nat×T)):List X→Bool
  | []=>true
  | x :: xs=>jx es Ws x&&lx es Ws xs
end
def jj(es:List eJ)(Ws:List (Nat×T))(id:Nat)(t:T):T:=match eX Ws es id with
 | some (q,y)=>t.set q y
 | none=>t
def dU(es:List eJ)(Ws:List (Nat×T)):List E→List E
 | []=>[]
 | .sl s x :: L=>if jx es Ws x then .sl s x :: dU es Ws L else dU es Ws L
 | .rt i m t :: L=> .rt i m (jj es Ws i t) :: dU es Ws L
 | .al i c x :: L=>if jx es Ws x&&kq es Ws i [(0,0,c)]then .al i c x :: dU es Ws L else dU es Ws L
theorem jI{es:List eJ}{Ws:List (Nat×T)}:∀{L:List E} {s:Nat} {x:X},E.sl s x∈dU es Ws L→E.sl s x∈L∧jx es Ws x=true
 | .sl s' x' :: L,s,x,h=>by
  simp only[dU]at h;split at h
  ·rename_i hx;rcases List.mem_cons.1 h with h|h
   ·cases h;exact⟨mem_cons_self .., hx⟩
   ·obtain⟨h1,h2⟩:=jI h;exact⟨mem_cons_of_mem _ h1,h2⟩
  ·obtain⟨h1,h2⟩:=jI h;exact⟨mem_cons_of_mem _ h1,h2⟩
 | .rt i m t :: L,s,x,h=>by
  simp only[dU]at h;rcases List.mem_cons.1 h with h|h
  ·cases h
  ·obtain⟨h1,h2⟩:=jI h;exact⟨mem_cons_of_mem _ h1,h2⟩
 | .al i c x' :: L,s,x,h=>by
  simp only[dU]at h;split at h
  ·rcases List.mem_cons.1 h with h|h
   ·cases h
   ·obtain⟨h1,h2⟩:=jI h;exact⟨mem_cons_of_mem _ h1,h2⟩
  ·obtain⟨h1,h2⟩:=jI h;exact⟨mem_cons_of_mem _ h1,h2⟩
theorem jC{es:List eJ}{Ws:List (Nat×T)}:∀{L:List E} {s c:Nat} {x:X},E.al s c x∈dU es Ws L→E.al s c x∈L∧jx es Ws x=true∧kq es Ws s [(0,0,c)]=true
 | .sl s' x' :: L,s,c,x,h=>by
  simp only[dU]at h;split at h
  ·rcases List.mem_cons.1 h with h|h
   ·cases h
   ·obtain⟨h1,h2⟩:=jC h;exact⟨mem_cons_of_mem _ h1,h2⟩
  ·obtain⟨h1,h2⟩:=jC h;exact⟨mem_cons_of_mem _ h1,h2⟩
 | .rt i m t :: L,s,c,x,h=>by
  simp only[dU]at h;rcases List.mem_cons.1 h with h|h
  ·cases h
  ·obtain⟨h1,h2⟩:=jC h;exact⟨mem_cons_of_mem _ h1,h2⟩
 | .al i c' x' :: L,s,c,x,h=>by
  simp only[dU]at h;split at h
  ·rename_i hx;simp only[Bool.and_eq_true]at hx;rcases List.mem_cons.1 h with h|h
   ·cases h;exact⟨mem_cons_self .., hx⟩
   ·obtain⟨h1,h2⟩:=jC h;exact⟨mem_cons_of_mem _ h1,h2⟩
  ·obtain⟨h1,h2⟩:=jC h;exact⟨mem_cons_of_mem _ h1,h2⟩
theorem fj{es:List eJ}{Ws:List (Nat×T)}:∀{L:List E} {i:Nat} {m:M} {t:T},aW (dU es Ws L) i m t↔∃t0,aW L i m t0∧t=jj es Ws i t0
 | [],_,_,_=>by simp[aW,dU]
 | .sl s x :: L,i,m,t=>by
  have:=fj (es:=es) (Ws:=Ws) (L:=L) (i:=i) (m:=m) (t:=t);simp only[aW,dU]at this ⊢;split<;>simp[this]
 | .al s c x :: L,i,m,t=>by
  have:=fj (es:=es) (Ws:=Ws) (L:=L) (i:=i) (m:=m) (t:=t);simp only[aW,dU]at this ⊢;split<;>simp[this]
 | .rt j m1 t1 :: L,i,m,t=>by
  have:=fj (es:=es) (Ws:=Ws) (L:=L) (i:=i) (m:=m) (t:=t);simp only[aW,dU]at this ⊢;simp only[mem_cons,this,E.rt.injEq];constructor
  ·rintro (⟨rfl,rfl,rfl⟩|⟨t0,h1,h2⟩)
   ·exact⟨t1,.inl ⟨rfl,rfl,rfl⟩,rfl⟩
   ·exact⟨t0,.inr h1,h2⟩
  ·rintro ⟨t0,⟨rfl,rfl,rfl⟩|h1,h2⟩
   ·exact .inl ⟨rfl,rfl,h2⟩
   ·exact .inr ⟨t0,h1,h2⟩
mutual
theorem qS{es:List eJ}{Ws:List (Nat×T)}:∀{x:X},jx es Ws x=true→X.all (λx=>jx es Ws x=true) x
 | .g _,e=>jS e
 | .t _,e=>jS e
 | .f _ _,e=>jS e
 | .v _,e=>e
 | .j,e=>e
 | .c,e=>e
 | .p .., e=>e
 | .h .., e=>e
 | .a .., e=>e
theorem jS{es:List eJ}{Ws:List (Nat×T)}:∀{xs:List X},lx es Ws xs=true→X.pO (λx=>jx es Ws x=true) xs
 | [],_=>trivial
 | x :: xs,e=>by
  simp only[lx,Bool.and_eq_true]at e;exact⟨qS e.1,jS e.2⟩
end

section
variable{L:List E}{val:Nat→Value}{H:Nat→Value}{G:Nat→FP}{w w':World}
def CW(L:List E)(H:Nat→Value)(w:World)(e:eJ):Prop:=∃m t0 hv,aW L e.2.1 m t0∧bT t0 e.2.2.1∧t0.at e.2.2.1=e.2.2.2∧(∃n len f,e.2.2.2= .s n len f)∧hd w (H e.2.1) e.2.2.1=some hv
def eg(L:List E)(H:Nat→Value)(w:World)(es:List eJ)(n m:Nat):Prop:=n≤m∧(∀e∈es,CW L H w e∧n≤e.1∧e.1<m)∧(es.map (·.1)).Nodup
def Bs(H:Nat→Value)(w:World)(es:List eJ)(K:RT→(Nat→Value)→Prop):Prop:=∀R' H',(∀e∈es,(∃m,R' e.1 m e.2.2.2)∧hd w (H e.2.1) e.2.2.1=some (H' e.1))→K R' H'
theorem eg.nil{n:Nat}:eg L H w [] n n:=⟨Nat.le_refl _,by simp,by simp⟩
theorem eg.append{es es':List eJ}{n m p:Nat}(h:eg L H w es n m)(h':eg L H w es' m p):eg L H w (es++es') n p:=by
 obtain⟨a1,a2,a3⟩:=h;obtain⟨b1,b2,b3⟩:=h';refine⟨by omega,λe he=>?_,?_⟩
 ·rcases List.mem_append.1 he with h|h
  ·obtain⟨c1,c2,c3⟩:=a2 e h;exact⟨c1,c2,by omega⟩
  ·obtain⟨c1,c2,c3⟩:=b2 e h;exact⟨c1,by omega,c3⟩
 ·rw[map_append,nodup_append];refine⟨a3,b3,λx hx y hy hxy=>?_⟩;obtain⟨e,he,rfl⟩:=List.mem_map.1 hx;obtain⟨e',he',rfl⟩:=List.mem_map.1 hy;have:=(a2 e he).2.2;have:=(b2 e' he').2.1;omega
mutual
theorem CV(hr:Rp L val H G w):∀(x:X) (n:Nat) {v:Value},VR (aW L) H w x v→eg L H w (wX L x n).2.1 n (wX L x n).2.2∧Bs H w (wX L x n).2.1 λR' H'=>VR R' H' w (wX L x n).1 v
 | .v x,n,v,h=>⟨eg.nil,λ_ _ _=>h⟩
 | .j,n,v,_=>⟨eg.nil,λ_ _ _=>trivial⟩
 | .c,n,v,h=>⟨eg.nil,λ_ _ _=>h⟩
 | .p id q w1 k c,n,v,h=>by
  simp only[wX];split
  ·rename_i m t hR;split
   ·rename_i hS;obtain⟨w',len,f,hT⟩:=T.sb hS;obtain⟨m',t',g1,g2,⟨len',f',g3,g4,g5⟩,hv,A,g6,g7,g8⟩:=h;obtain⟨rfl,rfl⟩:=hr.one _ _ _ _ _ g1 (aq hR);refine⟨⟨le_succ n,λe he=>?_,by simp⟩,λR' H' hh=>?_⟩
    ·rw[mem_singleton]at he;subst he;exact⟨⟨m',t',hv,g1,g2,rfl,⟨_,_,_,hT⟩,g6⟩,Nat.le_refl _,by simp⟩
    ·obtain⟨⟨m2,e1⟩,e2⟩:=hh _ (List.mem_singleton.2 rfl);simp only[g6,Option.some.injEq]at e2;exact⟨m2,_,e1,by simp[bT],⟨len',f',by simp only[T.at];exact g3,g4,g5⟩,hv,A,by rw[←e2];simp only[VM.hd],g7,g8⟩
   ·exact⟨eg.nil,λ_ _ _=>trivial⟩
  ·exact⟨eg.nil,λ_ _ _=>trivial⟩
 | .a .., n,v,_=>⟨eg.nil,λ_ _ _=>trivial⟩
 | .t _,n,v,_=>⟨eg.nil,λ_ _ _=>trivial⟩
 | .f _ [],n,v,⟨vs,h1,h2⟩=>⟨eg.nil,λ_ _ _=>⟨vs,h1,by cases vs<;>first|trivial|exact h2.elim⟩⟩
 | .f _ (_ :: _),n,v,_=>⟨eg.nil,λ_ _ _=>trivial⟩
 | .g xs,n,v,⟨vs,h1,h2⟩=>by
  obtain⟨a,b⟩:=vy hr xs n h2;exact⟨a,λR' H' hh=>⟨vs,h1,b R' H' hh⟩⟩
 | .h id q,n,v,h=>by
  simp only[wX];split
  ·rename_i m t hR;split
   ·rename_i hS;obtain⟨w',len,f,hT⟩:=T.sb hS;obtain⟨m',t',g1,g2,g3,g4⟩:=h;obtain⟨rfl,rfl⟩:=hr.one _ _ _ _ _ g1 (aq hR);refine⟨⟨le_succ n,λe he=>?_,by simp⟩,λR' H' hh=>?_⟩
    ·rw[mem_singleton]at he;subst he;exact⟨⟨m',t',v,g1,g2,rfl,⟨_,_,_,hT⟩,g4⟩,Nat.le_refl _,by simp⟩
    ·obtain⟨⟨m2,e1⟩,e2⟩:=hh _ (List.mem_singleton.2 rfl);simp only[g4,Option.some.injEq]at e2;exact⟨m2,_,e1,by simp[bT],⟨_,_,_,by simp only[T.at];exact hT⟩,by rw[e2];simp only[VM.hd]⟩
   ·exact⟨eg.nil,λ_ _ _=>trivial⟩
  ·exact⟨eg.nil,λ_ _ _=>trivial⟩
theorem vy(hr:Rp L val H G w):∀(xs:List X) (n:Nat) {vs:List Value},db (aW L) H w xs vs→eg L H w (Av L xs n).2.1 n (Av L xs n).2.2∧Bs H w (Av L xs n).2.1 λR' H'=>db R' H' w (Av L xs n).1 vs
 | [],n,[],_=>⟨eg.nil,λ_ _ _=>trivial⟩
 | x :: xs,n,v :: vs,⟨h1,h2⟩=>by
  simp only[Av];obtain⟨a1,a2⟩:=CV hr x n h1;obtain⟨b1,b2⟩:=vy hr xs (wX L x n).2.2 h2;exact⟨a1.append b1,λR' H' hh=>⟨a2 R' H' λe he=>hh e (List.mem_append.2 (.inl he)),b2 R' H' λe he=>hh e (List.mem_append.2 (.inr he))⟩⟩
 | [],_,_ :: _,h=>h.elim
 | _ :: _,_,[],h=>h.elim
end
theorem fg{Ws:List (Nat×T)}{n:Nat}{m:M}{t:T}:∀{es:List eJ},aW (kX Ws es) n m t↔∃e∈es,e.1=n∧e.2.2.2=t∧m=(match dr Ws n with|some _=> .row|none=> .ro)
  | []=>by simp[aW,kX]
  | (n',i,q,t') :: r=>by
    have:=fg (Ws:=Ws) (n:=n) (m:=m) (t:=t) (es:=r);simp only[aW,kX]at this ⊢;rw[mem_cons,this];constructor
    · rintro (h|⟨e,h1,h2⟩)
      · cases h;exact⟨_,mem_cons_self .., rfl,rfl,rfl⟩
      · exact⟨e,mem_cons_of_mem _ h1,h2⟩
    · rintro ⟨e,h1,h2,h3,h4⟩
      rcases List.mem_cons.1 h1 with rfl|h1
      · simp only at h2 h3;subst h2 h3;exact .inl (by rw[h4])
      · exact .inr ⟨e,h1,h2,h3,h4⟩
theorem mW{Ws:List (Nat×T)}:∀{es:List eJ} {e:E},e∈kX Ws es→∃id m t,e= .rt id m t
  | (n',i,q,t') :: r,e,h=>by
    rcases List.mem_cons.1 h with h|h
    · exact⟨_,_,_,h⟩
    · exact mW h
theorem kJ{Ws:List (Nat×T)}{id:Nat}{q:bF}{y:T}:∀{es:List eJ},eX Ws es id=some (q,y)→∃e∈es,e.2.1=id∧e.2.2.1=q∧dr Ws e.1=some y
  | (n',i,q',t') :: r,h=>by
    simp only[eX]at h;split at h
    · rename_i y' hy;split at h
      · rename_i hi;cases h;exact⟨_,mem_cons_self .., eq_of_beq_eq_true hi,rfl,hy⟩
      · obtain⟨e,h1,h2⟩:=kJ h;exact⟨e,mem_cons_of_mem _ h1,h2⟩
    · obtain⟨e,h1,h2⟩:=kJ h;exact⟨e,mem_cons_of_mem _ h1,h2⟩
theorem lh{Ws:List (Nat×T)}{id:Nat}:∀{es:List eJ},eX Ws es id=none→∀e∈es,e.2.1=id→dr Ws e.1=none
  | (n',i,q',t') :: r,h,e,he,hid=>by
    simp only[eX]at h;rcases List.mem_cons.1 he with rfl|he
    · simp only at hid ⊢;split at h
      · rw[hid,beq_refl,if_pos rfl]at h;cases h
      · assumption
    · split at h
      · split at h
        · cases h
        · exact lh h e he hid
      · exact lh h e he hid
theorem qt{Ws:List (Nat×T)}:∀{es:List eJ},DN L Ws es=true→(∀e∈es,∀y,dr Ws e.1=some y→(T.sY y || T.CM y)=true∧AA L e.2.1 e.2.2.1 y=true)∧∀e∈es,∀e'∈es,(dr Ws e.1).isSome=true→e.1≠e'.1→e.2.1≠e'.2.1
  | [],_=>⟨by simp,by simp⟩
  | (n,i,q,t) :: r,h=>by
    simp only[DN,Bool.and_eq_true]at h;obtain⟨h1,h2⟩:=h;obtain⟨a1,a2⟩:=qt h2;refine⟨λe he y hy=>?_,λe he e' he' hs hne hid=>?_⟩
    · rcases List.mem_cons.1 he with rfl|he
      · simp only at hy ⊢;simp only[hy,Bool.and_eq_true,Bool.not_eq_true']at h1;exact h1.1
      · exact a1 e he y hy
    · rcases List.mem_cons.1 he with rfl|he<;>rcases List.mem_cons.1 he' with rfl|he'
      · exact hne rfl
      · obtain⟨y,hy⟩:=Option.isSome_iff_exists.1 hs;simp only at hy hid;simp only[hy,Bool.and_eq_true,all_eq_true,Bool.not_eq_true']at h1;have:=h1.2 e' he';rw[hid,beq_refl]at this;cases this
      · obtain⟨y,hy⟩:=Option.isSome_iff_exists.1 hs;simp only at hid;split at h1
        · simp only[Bool.and_eq_true,all_eq_true,Bool.not_eq_true']at h1;have:=h1.2 e he;rw[hid,beq_refl]at this;cases this
        · simp only[all_eq_true]at h1;have:=h1 e he;simp only[hy,hid,beq_refl,Bool.not_true]at this;cases this
      · exact a2 e he e' he' hs hne hid
end
open Go Go.RowKit
theorem fC{n:Nat}{y:T}:∀{Ws:List (Nat×T)},dr Ws n=some y→(n,y)∈Ws
  | (i,z) :: r,h=>by
    simp only[dr]at h;split at h
    · rename_i hi;cases h;rw[eq_of_beq_eq_true hi];exact mem_cons_self ..
    · exact mem_cons_of_mem _ (fC h)
open Go Go.RowKit
def ch(X0:X)(L0:List (Nat×M×T))(Ws:List (Nat×T))(x:X)(L:List E):Prop:=
 ∃ρ:Nat→Nat,x=X0.od ρ∧(∀n,aa≤n→ρ n=n)∧(L0.map λr=>ρ r.1).Nodup∧(∀r∈L0,r.2.1≠ .ro∧aW L (ρ r.1) r.2.1 r.2.2∧ρ r.1<aa)∧∀p∈Ws,aW L p.1 .row p.2
def qo:List eJ→Nat→Option (Nat×bF)
  | [],_=>none
  | (i,id,q,_) :: r,n=>if beq i n then some (id,q)else qo r n
theorem qY{n id:Nat}{q:bF}:∀{es:List eJ},qo es n=some (id,q)→∃e∈es,e.1=n∧e.2.1=id∧e.2.2.1=q
  | (i,id',q',t) :: r,h=>by
    simp only[qo]at h;split at h
    · rename_i hi;cases h;exact⟨_,mem_cons_self .., eq_of_beq_eq_true hi,rfl,rfl⟩
    · obtain⟨e,h1,h2⟩:=qY h;exact⟨e,mem_cons_of_mem _ h1,h2⟩
/- a result, as the caller names it -/
mutual
def X.out(d:Nat)(es:List eJ):X→X
 | .p id q n k cc=> .p (nu d id) q n k cc
 | .h n q=>if blt n aa then .h (nu d n) q else match qo es n with
  | some (id,q')=> .h id q'
  | none=> .j
 | .a id q n lo len=> .a (nu d id) q n lo len
 | .g xs=> .g (X.outs d es xs)
 | .t xs=> .t (X.outs d es xs)
 | .f fn xs=> .f fn (X.outs d es xs)
 | x=>x
def X.outs(d:Nat)(es:List eJ):List X→List X
 | []=>[]
 | x :: xs=>X.out d es x :: X.outs d es xs
end
mutual
def X.vD(d:Nat)(es:List eJ)(ids:List Nat):X→Bool
 | .p id .. =>ids.contains id
 | .h n q=>if blt n aa then ids.contains n else q.isEmpty&&match qo es n with|some (id,_)=> !(ids.map (nu d)).contains id|none=>true
 | .a id .. =>ids.contains id
 | .g xs=>X.qT d es ids xs
 | .t xs=>X.qT d es ids xs
 | .f _ xs=>X.qT d es ids xs
 | _=>true
def X.qT(d:Nat)(es:List eJ)(ids:List Nat):List X→Bool
 | []=>true
 | x :: xs=>X.vD d es ids x&&X.qT d es ids xs
end
mutual
theorem yC{R R':RT}{H H':Nat→Value}{w:World}{d:Nat}{es:List eJ}{ids:List Nat}{ρ:Nat→Nat}(hfix:∀n,aa≤n→ρ n=n)(hids:∀i∈ids,i<aa)
  (hR:∀id,id∈ids→∀m t,R (ρ id) m t→R' (nu d id) m t∧H' (nu d id)=H (ρ id))
  (hE:∀e∈es,∀v,VR R H w (.h e.1 []) v→(∀i∈ids,nu d i≠e.2.1)→VR R' H' w (.h e.2.1 e.2.2.1) v):∀{x:X} {v:Value},x.vD d es ids=true→VR R H w (x.od ρ) v→VR R' H' w (x.out d es) v
 | .g xs,v,hx,⟨vs,h1,h2⟩=>⟨vs,h1,n8 hfix hids hR hE hx h2⟩
 | .t xs,v,hx,⟨vs,h1,h2⟩=>⟨vs,h1,n8 hfix hids hR hE hx h2⟩
 | .f fn xs,v,hx,⟨vs,h1,h2⟩=>⟨vs,h1,n8 hfix hids hR hE hx h2⟩
 | .v x,v,_,h=>h
 | .j,v,_,_=>trivial
 | .c,v,_,h=>h
 | .p id q n k c,v,hx,h=>by
  obtain⟨m,t,h1,h2⟩:=h;obtain⟨e1,e2⟩:=hR id (by simpa [X.vD]using hx) m t h1;exact⟨m,t,e1,by rw[e2];exact h2⟩
 | .a id q n lo len,v,hx,h=>by
  obtain⟨m,t,h1,h2⟩:=h;obtain⟨e1,e2⟩:=hR id (by simpa [X.vD]using hx) m t h1;exact⟨m,t,e1,by rw[e2];exact h2⟩
 | .h n q,v,hx,h=>by
  simp only[X.vD]at hx;simp only[X.out];split
  ·rename_i hlt;rw[if_pos hlt]at hx;obtain⟨m,t,h1,h2⟩:=h;obtain⟨e1,e2⟩:=hR n (by simpa using hx) m t h1;exact⟨m,t,e1,by rw[e2];exact h2⟩
  ·rename_i hlt;rw[if_neg hlt]at hx;have hn:aa≤n:=by
    rcases Nat.lt_or_ge n aa with h|h
    ·exact absurd (Eq.mpr blt_eq h) hlt
    ·exact h
   simp only[Bool.and_eq_true,isEmpty_iff]at hx;obtain⟨rfl,hx⟩:=hx;split
   ·rename_i id q' he;rw[he]at hx;obtain⟨e,he1,rfl,rfl,rfl⟩:=qY he;have h':VR R H w (.h (ρ e.1) []) v:=h;rw[hfix _ hn]at h';refine hE e he1 v h' λi hi hne=>?_;simp only[Bool.not_eq_true',contains_eq_mem,decide_eq_false_iff_not]at hx;exact hx (List.mem_map.2 ⟨i,hi,hne⟩)
   ·trivial
theorem n8{R R':RT}{H H':Nat→Value}{w:World}{d:Nat}{es:List eJ}{ids:List Nat}{ρ:Nat→Nat}(hfix:∀n,aa≤n→ρ n=n)(hids:∀i∈ids,i<aa)
  (hR:∀id,id∈ids→∀m t,R (ρ id) m t→R' (nu d id) m t∧H' (nu d id)=H (ρ id))
  (hE:∀e∈es,∀v,VR R H w (.h e.1 []) v→(∀i∈ids,nu d i≠e.2.1)→VR R' H' w (.h e.2.1 e.2.2.1) v):∀{xs:List X} {vs:List Value},X.qT d es ids xs=true→db R H w (X.eu ρ xs) vs→db R' H' w (X.outs d es xs) vs
 | [],[],_,_=>trivial
 | x :: xs,v :: vs,hx,⟨g1,g2⟩=>by
  simp only[X.qT,Bool.and_eq_true]at hx;exact⟨yC hfix hids hR hE hx.1 g1,n8 hfix hids hR hE hx.2 g2⟩
 | [],_ :: _,_,h=>h.elim
 | _ :: _,[],_,h=>h.elim
end
section
variable{P:Program}{N:Nat}{L:List E}{dst:Option Tmp}{ty:TypeId}{pos:String}{af:Array Edge}{g:Option (Nat×Bool)}{d:Nat}
theorem aE.Df(Ws:List (Nat×T)){f:FuncId}{cal:Operand}{args:Array Operand}{tys:Array TypeId}{xs:List X}{es:List eJ}{m:Nat}{X0:X}{L0:List (Nat×M×T)}(hds:dst=some d)(hN:d<N)(hE:lL P f)(hcal:cp L cal= .f f [])(hq:Av L (args.toList.map (cp L)) aa=(xs,es,m))(hok:DN L Ws es=true)
    (hc:a_ P f xs (kX Ws es) (ch X0 L0 Ws))
    (hn:(L0.map (·.1)).Nodup) (hb:(L0.all λr=>nu d r.1<aa&&r.1<aa)=true) (hx0:X0.vD d es (L0.map (·.1))=true):
    aE P N ⟨dst,.call { callee:= .value cal,args:=args,argTypes:=tys },ty,pos,af,g⟩ L (cn (fW (dU es Ws L) (eu d L0)) d (X0.out d es)):=λcx a w Q hs=>by
  obtain⟨H,G,hr,hG⟩:=hs.rp;have hcv:=dw hr cal;rw[hcal]at hcv;obtain⟨us,hu1,hu2⟩:=hcv;obtain rfl:us=[]:=by cases us with
    | nil=>rfl
    | cons _ _=>exact hu2.elim
  unfold Oper.wp;rw[mR hE hu1,append_nil];obtain⟨⟨hnm,hent,hnd⟩,hvr⟩:=vy hr (args.toList.map (cp L)) aa (nY hr args.toList);rw[hq]at hnm hent hnd hvr;simp only at hnm hent hnd hvr;obtain⟨hro,hap⟩:=qt hok;have hmode:∀e∈es,(dr Ws e.1).isSome=true→∀m t,aW L e.2.1 m t→m≠ .ro:=λe he hw m t hm=>by
    obtain⟨y,hy⟩:=Option.isSome_iff_exists.1 hw;have h1:=(hro e he y hy).2;unfold AA at h1;split at h1
    · rename_i t1 hR;obtain⟨rfl,rfl⟩:=hr.one _ _ _ _ _ hm (aq hR);simp
    · rename_i t1 hR;obtain⟨rfl,rfl⟩:=hr.one _ _ _ _ _ hm (aq hR);simp
    · cases h1
  have hmode2:∀e∈es,∀y,dr Ws e.1=some y→∀t,aW L e.2.1 .box t→e.2.2.1≠[]∨∃n f,y= .s n 1 f:=λe he y hy t hm=>by
    have h1:=(hro e he y hy).2;unfold AA at h1;split at h1
    · rename_i t1 hR;obtain⟨hh,_⟩:=hr.one _ _ _ _ _ hm (aq hR);cases hh
    · rename_i t1 hR;cases hqq:e.2.2.1 with
      | cons a r=>exact .inl (by simp)
      | nil=>
        rw[hqq]at h1;cases y with
        | s n l f=>exact .inr ⟨n,f,by rw[eq_of_beq_eq_true h1]⟩
        | _=>cases h1
    · cases h1
  -- where the nodes lie
  let P0:eJ→FP→Prop:=λe F=>∃hv,hd w (H e.2.1) e.2.2.1=some hv∧Rd w e.2.2.2 F hv∧(∀x y,F x y→G e.2.1 x y)∧(∀x y,F x y→x<w.heap.size)∧
    ((dr Ws e.1).isSome=true→du w e.2.2.2 F hv∧∀{w':World} {S:FP} {y:T} {Gy:FP},dt S w w'→(∀a p,G e.2.1 a p→S a p→F a p)→du w' y Gy hv→(∀a p,Gy a p→F a p∨¬G e.2.1 a p)→
      ∀m t,aW L e.2.1 m t→du w' (t.set e.2.2.1 y) (λa p=>(G e.2.1 a p∧¬F a p)∨Gy a p) (H e.2.1)∧∀r,¬Bh e.2.2.1 r→bT t r→hd w' (H e.2.1) r=hd w (H e.2.1) r)∧
    ((dr Ws e.1).isSome=true→e.2.2.1≠[]→∀m n len f,aW L e.2.1 m (.s n len f)→∀k c b o,k<len→c<n→gU (H e.2.1) n k c=some ⟨b,o,none⟩→¬F b o)
  have hkey:∀n,∃F:FP,∀e∈es,e.1=n→P0 e F:=λn=>by
    by_cases hex:∃e∈es,e.1=n
    · obtain⟨e,he,rfl⟩:=hex;have huniq:∀e'∈es,e'.1=e.1→e'=e:=λe' he' h=>gm hnd he' he h;obtain⟨⟨m0,t0,hv,g1,g2,g3,g4,g5⟩,_⟩:=hent e he;cases hw:(dr Ws e.1).isSome with
      | false=>
        obtain⟨hv',F,k1,k2,k3⟩:=(hr.rd g1).at g2;rw[g5]at k1;cases k1;rw[g3]at k2;refine⟨F,λe' he' h=>?_⟩;rw[huniq e' he' h];refine⟨hv,g5,k2,k3,λx y hF=>?_,λh=>(by rw[hw]at h;cases h),λh=>(by rw[hw]at h;cases h)⟩;have:=k3 x y hF
        by_cases hm:m0= .ro
        · subst hm;exact hr.fR _ _ g1 x y this
        · exact(hr.own _ _ _ g1 hm).n9 x y this
      | true=>
        have hm:=(hmode e he hw m0 t0 g1)
        obtain⟨hv',F,k1,k2,k3,k5,k4⟩:=(hr.own _ _ _ g1 hm).Dw g2;rw[g5]at k1;cases k1;rw[g3]at k2;refine⟨F,λe' he' h=>?_⟩;rw[huniq e' he' h];refine⟨hv,g5,k2.rd,k3,λx y hF=>k2.n9 x y hF,λ_=>⟨k2,?_⟩,λ_ hq m n len f hmt=>?_⟩
        rotate_left
        · obtain⟨rfl,rfl⟩:=hr.one _ _ _ _ _ hmt g1;exact k5 hq n len f rfl
        intro w' S y Gy c1 c2 c3 c4 m t hmt;obtain⟨rfl,rfl⟩:=hr.one _ _ _ _ _ hmt g1;exact k4 c1 c2 c3 c4
    · exact⟨λ_ _=>False,λe he h=>absurd ⟨e,he,h⟩ hex⟩
  obtain⟨G',hG'⟩:=Classical.axiomOfChoice hkey;let H':Nat→Value:=λn=>match es.find? (λe=>e.1==n)with|some e=>(hd w (H e.2.1) e.2.2.1).getD undef|none=>undef
  have hH':∀e∈es,hd w (H e.2.1) e.2.2.1=some (H' e.1):=λe he=>by
    obtain⟨⟨m0,t0,hv,g1,g2,g3,g4,g5⟩,_⟩:=hent e he;have:es.find? (λe'=>e'.1==e.1)=some e:=by
      cases hf:es.find? (λe'=>e'.1==e.1)with
      | none=>exact absurd (List.find?_eq_none.1 hf e he) (by simp)
      | some e'=>
        have h1:=mem_of_find?_eq_some hf;have h2:=find?_some hf;rw[gm hnd h1 he (by simpa using h2)]
    show _=some (match es.find? (λe'=>e'.1==e.1)with|some e=>(hd w (H e.2.1) e.2.2.1).getD undef|none=>undef);rw[this];simp only[g5,Option.getD_some]
  have hP0:∀e∈es,P0 e (G' e.1):=λe he=>hG' e.1 e he rfl;have hrow:∀n m t,aW (kX Ws es) n m t→m≠ .ro→∃e∈es,e.1=n∧e.2.2.2=t∧(dr Ws n).isSome=true∧m= .row:=λn m t h hm=>by
    obtain⟨e,he,h1,h2,h3⟩:=fg.1 h;refine⟨e,he,h1,h2,?_⟩;cases hw:dr Ws n with
    | none=>rw[hw]at h3;exact absurd h3 hm
    | some y=>rw[hw]at h3;exact⟨rfl,h3⟩
  have hrp:Rp (kX Ws es) (λ_=>undef) H' G' w:=by
    refine⟨λid m t m' t' k1 k2=>?_,λid m t k1 k2=>?_,λid t k=>?_,λid t k=>?_,λid t k=>?_,λid m t id' m' t' k1 k2 hne hm x y=>?_,λt x k=>?_,λid c x k=>?_⟩
    · obtain⟨e,he,h1,h2,h3⟩:=fg.1 k1;obtain⟨e',he',h1',h2',h3'⟩:=fg.1 k2;have:e=e':=gm hnd he he' (by rw[h1,h1']);subst this;exact⟨h3.trans h3'.symm,h2.symm.trans h2'⟩
    · obtain⟨e,he,rfl,rfl,h3,h4⟩:=hrow id m t k1 k2;obtain⟨hv,e1,_,_,_,e5⟩:=hP0 e he;rw[hH' e he]at e1;cases e1;exact(e5.1 h3).1
    · obtain⟨e,he,rfl,rfl,_⟩:=fg.1 k;obtain⟨hv,e1,e2,_⟩:=hP0 e he;rw[hH' e he]at e1;cases e1;exact e2
    · obtain⟨e,he,rfl,rfl,_⟩:=fg.1 k;obtain⟨hv,_,_,_,e4,_⟩:=hP0 e he;exact e4
    · obtain⟨e,he,_,_,h3⟩:=fg.1 k;split at h3<;>cases h3
    · obtain⟨e,he,rfl,rfl,h3,h4⟩:=hrow id m t k1 hm;obtain⟨e',he',rfl,rfl,_⟩:=fg.1 k2;obtain⟨_,_,_,e3,_⟩:=hP0 e he;obtain⟨_,_,_,e3',_⟩:=hP0 e' he';obtain⟨⟨m0,t0,_,g1,_⟩,_⟩:=hent e he;obtain⟨⟨m0',t0',_,g1',_⟩,_⟩:=hent e' he';exact λha hb=>hr.jZ _ _ _ _ _ _ g1 g1' (hap e he e' he' h3 hne) (hmode e he h3 _ _ g1) x y (e3 x y ha) (e3' x y hb)
    · obtain⟨_,_,_,h⟩:=mW k;cases h
    · obtain⟨_,_,_,h⟩:=mW k;cases h
  have hxv:=hvr (aW (kX Ws es)) H' λe he=>⟨⟨_,fg.2 ⟨e,he,rfl,rfl,rfl⟩⟩,hH' e he⟩
  simp only[Oper.upon];refine(hc w _ H' G' (cx.now hs.fV) (λn m t h1 h2 a o h3=>by
    obtain⟨e,he,rfl,_,h4,_⟩:=hrow n m t h1 h2;obtain⟨_,_,_,e3,_⟩:=hP0 e he;obtain⟨⟨m0,t0,_,g1,_⟩,_⟩:=hent e he;exact cx.Ev (hG.1 _ _ _ g1 (hmode e he h4 _ _ g1) a o (e3 a o h3))) hrp hxv).mono ?_
  rintro e w' ⟨v,x,L2,H2,G2,val2,rfl,⟨ρ',rfl,hfix,rn,r2,hpost⟩,k1,k2,k3,k4,k5⟩
  refine⟨⟨_,rfl⟩,?_⟩
  -- what has turned
  let S:FP:=λa o=>∃e∈es,(dr Ws e.1).isSome=true∧G' e.1 a o;have hC:dt S w w':=k3.mono λa o _ ⟨id,m,t,h1,h2,h3⟩=>by
    obtain⟨e,he,rfl,_,h4,_⟩:=hrow id m t h1 h2;exact⟨e,he,h4,h3⟩
  have hold:∀id m t,aW L id m t→∀x y,G id x y→x<w.heap.size:=λid m t h x y hg=>by
    by_cases hm:m= .ro
    · subst hm;exact hr.fR id t h x y hg
    · exact(hr.own id m t h hm).n9 x y hg
  have hSG:∀id m t,aW L id m t→∀a o,G id a o→S a o→∃e∈es,(dr Ws e.1).isSome=true∧e.2.1=id∧G' e.1 a o:=λid m t h a o hg ⟨e,he,hw,hs'⟩=>by
    refine⟨e,he,hw,?_,hs'⟩;obtain⟨_,_,_,e3,_⟩:=hP0 e he;obtain⟨⟨m0,t0,_,g1,_⟩,_⟩:=hent e he
    by_cases hid:e.2.1=id
    · exact hid
    · exact(hr.jZ _ _ _ _ _ _ g1 h hid (hmode e he hw _ _ g1) a o (e3 a o hs') hg).elim
  -- the written entry of a root
  have hwr:∀id,(∃q y,eX Ws es id=some (q,y)∧∃e∈es,e.2.1=id∧e.2.2.1=q∧dr Ws e.1=some y)∨(eX Ws es id=none∧∀e∈es,e.2.1=id→dr Ws e.1=none):=λid=>by
    cases h:eX Ws es id with
    | none=>exact .inr ⟨rfl,lh h⟩
    | some p=>obtain⟨q,y⟩:=p;exact .inl ⟨q,y,rfl,kJ h⟩
  have hkey2:∀id,∃F:FP,(∀e∈es,e.2.1=id→(dr Ws e.1).isSome=true→F= λa p=>(G id a p∧¬G' e.1 a p)∨G2 e.1 a p)∧((∀e∈es,e.2.1=id→dr Ws e.1=none)→F=G id):=λid=>by
    rcases hwr id with⟨q,y,_,e,he,rfl,_,hy⟩|⟨_,hn⟩
    · refine⟨λa p=>(G e.2.1 a p∧¬G' e.1 a p)∨G2 e.1 a p,λe' he' hid hw=>?_,λhn=>?_⟩
      · have:e'.1=e.1:=by
          rcases Nat.decEq e'.1 e.1 with h|h
          · exact absurd hid (hap e' he' e he hw h)
          · exact h
        rw[this]
      · have:=hn e he rfl;rw[hy]at this;cases this
    · exact⟨G id,⟨λe he hid hw=>(by rw[hn e he hid]at hw;cases hw),λ_=>rfl⟩⟩
  obtain⟨G3,hG3⟩:=Classical.axiomOfChoice hkey2;have hG2:∀e∈es,(dr Ws e.1).isSome=true→∀a o,G2 e.1 a o→S a o∨w.heap.size≤a:=λe he hw a o hg=>by
    obtain⟨y,hy⟩:=Option.isSome_iff_exists.1 hw;rcases k4 _ _ _ (hpost _ (fC hy)) (by simp) a o hg with⟨id,m,t,h1,h2,h3⟩|h
    · obtain⟨e',he',rfl,_,h4,_⟩:=hrow id m t h1 h2;exact .inl ⟨e',he',h4,h3⟩
    · exact .inr h
  -- a written root
  have hset:∀e∈es,∀y,dr Ws e.1=some y→∀m t,aW L e.2.1 m t→du w' (t.set e.2.2.1 y) (G3 e.2.1) (H e.2.1)∧∀r,¬Bh e.2.2.1 r→bT t r→hd w' (H e.2.1) r=hd w (H e.2.1) r:=λe he y hy m t hmt=>by
    have hw:(dr Ws e.1).isSome=true:=by rw[hy];rfl
    obtain⟨hv',e1,e2,e3,e4,e5⟩:=hP0 e he;rw[hH' e he]at e1;cases e1;have hown2:=k1.own _ _ _ (hpost _ (fC hy)) (by simp);have hhd2:H2 e.1=H' e.1:=k5 _ _ _ (hent e he).2.1 (hpost _ (fC hy));rw[show(e.1,y).1=e.1 from rfl]at hown2;rw[hhd2]at hown2;have hdis:∀a p,G2 e.1 a p→G' e.1 a p∨¬G e.2.1 a p:=λa p hg=>by
      by_cases hgg:G e.2.1 a p
      · rcases hG2 e he hw a p hg with h|h
        · obtain⟨e',he',hw',hid,hg'⟩:=hSG _ _ _ hmt a p hgg h;have:e'.1=e.1:=by
            rcases Nat.decEq e'.1 e.1 with h|h
            · exact absurd hid (hap e' he' e he hw' h)
            · exact h
          rw[this]at hg';exact .inl hg'
        · have:=hold _ _ _ hmt a p hgg;omega
      · exact .inr hgg
    obtain⟨r1,r2⟩:=(e5.1 hw).2 (y:=y) hC (λa p hg hs'=>by
      obtain⟨e',he',hw',hid,hg'⟩:=hSG _ _ _ hmt a p hg hs';have:e'.1=e.1:=by
        rcases Nat.decEq e'.1 e.1 with h|h
        · exact absurd hid (hap e' he' e he hw' h)
        · exact h
      rw[this]at hg';exact hg') hown2 hdis m t hmt
    rw[(hG3 e.2.1).1 e he rfl hw];exact⟨r1,r2⟩
  have hkeep:∀id,(∀e∈es,e.2.1=id→dr Ws e.1=none)→∀m t,aW L id m t→∀a o,G id a o→¬S a o:=λid hn m t h a o hg hs'=>by
    obtain⟨e,he,hw,hid,_⟩:=hSG id m t h a o hg hs';rw[hn e he hid]at hw;cases hw
  have hrt:∀{id m t},aW (dU es Ws L) id m t→∃t0,aW L id m t0∧t=jj es Ws id t0:=λh=>fj.1 h
  -- a way, seen now
  have hway:∀id m t r,aW L id m t→bT t r→(match eX Ws es id with|some (q,_)=>¬Bh q r|none=>True)→
      bT (jj es Ws id t) r∧hd w' (H id) r=hd w (H id) r∧((∃y,eX Ws es id=some (r,y)∧(jj es Ws id t).at r=y)∨∀(n len:Nat) (f:Nat→Nat→T),t.at r= .s n len f→∃f',(jj es Ws id t).at r= .s n len f'):=λid m t r h hq hb=>by
    rcases hwr id with⟨q,y,hf,e,he,rfl,rfl,hy⟩|⟨hf,hn⟩
    · simp only[hf]at hb;obtain⟨_,r2⟩:=hset e he y hy m t h;obtain⟨⟨m0,t0,hv0,g1,g2,g3,⟨n0,l0,f0,g4⟩,g5⟩,hb1,_⟩:=hent e he;obtain⟨rfl,rfl⟩:=hr.one _ _ _ _ _ h g1;obtain⟨c1,c2⟩:=yP (y:=y) g2 hb hq;simp only[jj,hf];refine⟨c1,r2 r hb hq,?_⟩;rcases c2 with⟨c2,c3⟩|⟨c2,c3⟩
      · exact .inl ⟨y,by rw[c2],c3⟩
      · exact .inr λn len f h=>c3 h
    · simp only[jj,hf];exact⟨hq,jy hC (hr.rd h) hq (hkeep id hn m t h),.inr λn len f hat=>⟨f,hat⟩⟩
  have hnw:∀id r y,kq es Ws id r=true→eX Ws es id≠some (r,y):=λid r y hk hf=>by
    simp only[kq,hf,Bool.not_eq_true']at hk;have:=n6 (q:=r) (s:=[]);rw[append_nil,hk]at this;cases this
  have hcases:∀id m t,aW L id m t→∀a p,G3 id a p→(G id a p∧¬S a p)∨∃e∈es,(dr Ws e.1).isSome=true∧e.2.1=id∧G2 e.1 a p:=λid m t h a p hg=>by
    rcases hwr id with⟨q,y,hf,e,he,rfl,rfl,hy⟩|⟨hf,hn⟩
    · have hw:(dr Ws e.1).isSome=true:=by rw[hy];rfl
      rw[(hG3 e.2.1).1 e he rfl hw]at hg;rcases hg with⟨h1,h2⟩|h1
      · refine .inl ⟨h1,λhs'=>?_⟩;obtain⟨e',he',hw',hid,hg'⟩:=hSG _ _ _ h a p h1 hs';have:e'.1=e.1:=by
          rcases Nat.decEq e'.1 e.1 with h|h
          · exact absurd hid (hap e' he' e he hw' h)
          · exact h
        rw[this]at hg';exact h2 hg'
      · exact .inr ⟨e,he,hw,rfl,h1⟩
    · rw[(hG3 id).2 hn]at hg;exact .inl ⟨hg,hkeep id hn m t h a p hg⟩
  have hleaf:∀{x v},jx es Ws x=true→VR (aW L) H w x v→VR (aW (dU es Ws L)) H w' x v:=λhx h=>
    VR.leaves (C:=λx=>jx es Ws x=true) (λx v hl hx h=>by
      have hbeh:∀id r,kq es Ws id r=true→(match eX Ws es id with|some (q,_)=>¬Bh q r|none=>True):=λid r hk=>by
        unfold kq at hk;split
        · rename_i q y hf;simp only[hf,Bool.not_eq_true']at hk
          rintro ⟨a,s,rfl⟩
          rw[n6]at hk;cases hk
        · trivial
      cases x with
      | p i q' n' k' c'=>
        obtain⟨m',t',h1,h2,⟨l',f',h3,h4,h5⟩,h6⟩:=h;simp only[jx,Bool.or_eq_true]at hx;have hb:(match eX Ws es i with|some (q,_)=>¬Bh q q'|none=>True):=by
          rcases hx with hx|hx
          · exact hbeh i q' hx
          · unfold qf at hx;split at hx
            · rename_i q n2 l2 f2 hf;simp only[Bool.and_eq_true]at hx;have hll:=eq_of_beq_eq_true hx.1
              try simp only[hf]
              rintro ⟨a,s,rfl⟩
              simp at hll
            · cases hx
            · rename_i hf
              first|(simp only[hf];done)|trivial
        obtain⟨g1,g2,g3⟩:=hway i m' t' q' h1 h2 hb;have hat:∃l2 f2,(jj es Ws i t').at q'= .s n' l2 f2∧k'<l2∧c'<n':=by
          rcases g3 with⟨y,hf,hy⟩|g3
          · rcases hx with hx|hx
            · exact absurd hf (hnw _ _ _ hx)
            · rw[hy];cases y with
              | s n2 l2 f2=>
                simp only[qf,hf,Bool.and_eq_true,blt_eq]at hx;obtain⟨_,e1,e2,e3⟩:=hx;exact⟨l2,f2,by rw[eq_of_beq_eq_true e1],e2,e3⟩
              | v _=>simp[qf,hf]at hx
              | j=>simp[qf,hf]at hx
          · obtain⟨f2,g5⟩:=g3 _ _ _ h3;exact⟨l',f2,g5,h4,h5⟩
        obtain⟨l2,f2,g5,g6,g7⟩:=hat;exact⟨m',_,fj.2 ⟨t',h1,rfl⟩,g1,⟨l2,f2,g5,g6,g7⟩,by rw[g2];exact h6⟩
      | h i q'=>
        obtain⟨m',t',h1,h2,h3,h6⟩:=h;simp only[jx,Bool.or_eq_true]at hx;have hb:(match eX Ws es i with|some (q,_)=>¬Bh q q'|none=>True)∧∀y,eX Ws es i=some (q',y)→T.sY y=true:=by
          rcases hx with hx|hx
          · exact⟨hbeh i q' hx,λy hf=>absurd hf (hnw _ _ _ hx)⟩
          · split at hx
            · rename_i q y hf;simp only[Bool.and_eq_true]at hx;have hll:=eq_of_beq_eq_true hx.1;refine⟨?_,λy' hf'=>?_⟩
              · try simp only[hf]
                rintro ⟨a,s,rfl⟩
                simp at hll
              · rw[hf]at hf';cases hf';exact hx.2
            · rename_i hf;exact⟨by first|(simp only[hf];done)|trivial,λy hf'=>by rw[hf]at hf';cases hf'⟩
        obtain⟨g1,g2,g3⟩:=hway i m' t' q' h1 h2 hb.1;have hS:∃n len f,(jj es Ws i t').at q'= .s n len f:=by
          rcases g3 with⟨y,hf,hy⟩|g3
          · obtain⟨n,len,f,rfl⟩:=T.sb (hb.2 y hf);exact⟨n,len,f,hy⟩
          · obtain⟨n,len,f,h3⟩:=h3;obtain⟨f',h'⟩:=g3 _ _ _ h3;exact⟨_,_,f',h'⟩
        exact⟨m',_,fj.2 ⟨t',h1,rfl⟩,g1,hS,by rw[g2];exact h6⟩
      | a i q' n' lo len=>
        obtain⟨m',t',h1,h2,⟨l',f',h3,h4⟩,h6⟩:=h;obtain⟨g1,g2,g3⟩:=hway i m' t' q' h1 h2 (hbeh i q' hx);rcases g3 with⟨y,hf,_⟩|g3
        · exact absurd hf (hnw _ _ _ hx)
        obtain⟨f2,g5⟩:=g3 _ _ _ h3;exact⟨m',_,fj.2 ⟨t',h1,rfl⟩,g1,⟨l',f2,g5,h4⟩,by rw[g2];exact h6⟩
      | _=>exact hl.elim) (qS hx) h
  have hsz:w.heap.size≤w'.heap.size:=hC.size;have hRp:Rp (dU es Ws L) (Act.val a) H G3 w':=by
    refine⟨λid m t m' t' h1 h2=>?_,λid m t h1 h2=>?_,λid t h1=>?_,λid t h1=>?_,λid t h1=>?_,λid m t id' m' t' h1 h2 hne hm x y hx hy=>?_,λt x h=>?_,λid c x h=>?_⟩
    · obtain⟨t0,g1,rfl⟩:=hrt h1;obtain⟨t1,g2,rfl⟩:=hrt h2;obtain⟨rfl,rfl⟩:=hr.one _ _ _ _ _ g1 g2;exact⟨rfl,rfl⟩
    · obtain⟨t0,g1,rfl⟩:=hrt h1;rcases hwr id with⟨q,y,hf,e,he,rfl,rfl,hy⟩|⟨hf,hn⟩
      · simp only[jj,hf];exact(hset e he y hy m t0 g1).1
      · simp only[jj,hf];rw[(hG3 id).2 hn];exact(hr.own id m t0 g1 h2).frame hC (hkeep id hn m t0 g1)
    · obtain⟨t0,g1,rfl⟩:=hrt h1;rcases hwr id with⟨q,y,hf,e,he,rfl,rfl,hy⟩|⟨hf,hn⟩
      · exact absurd rfl (hmode e he (by rw[hy];rfl) _ _ g1)
      · simp only[jj,hf];rw[(hG3 id).2 hn];exact(hr.ro id t0 g1).frame hC (hkeep id hn _ t0 g1)
    · obtain⟨t0,g1,rfl⟩:=hrt h1;rcases hwr id with⟨q,y,hf,e,he,rfl,rfl,hy⟩|⟨hf,hn⟩
      · exact absurd rfl (hmode e he (by rw[hy];rfl) _ _ g1)
      · rw[(hG3 id).2 hn];exact λx y h=>Nat.lt_of_lt_of_le (hr.fR id t0 g1 x y h) hsz
    · obtain⟨t0,g1,rfl⟩:=hrt h1;obtain⟨n,f,rfl⟩:=hr.box id t0 g1;rcases hwr id with⟨q,y,hf,e,he,rfl,rfl,hy⟩|⟨hf,hn⟩
      · simp only[jj,hf];rcases hmode2 e he y hy _ g1 with hq|⟨n',f',rfl⟩
        · cases hqq:e.2.2.1 with
          | nil=>exact absurd hqq hq
          | cons a r=>exact⟨_,_,by simp only[T.set];rfl⟩
        · cases hqq:e.2.2.1 with
          | nil=>exact⟨_,_,by simp only[T.set];rfl⟩
          | cons a r=>exact⟨_,_,by simp only[T.set];rfl⟩
      · simp only[jj,hf];exact⟨_,_,rfl⟩
    · obtain⟨t0,g1,rfl⟩:=hrt h1;obtain⟨t1,g2,rfl⟩:=hrt h2;rcases hcases id m t0 g1 x y hx with⟨hx1,hx2⟩|⟨e,he,hw,hid,hx1⟩<;>rcases hcases id' m' t1 g2 x y hy with⟨hy1,hy2⟩|⟨e',he',hw',hid',hy1⟩
      · exact hr.jZ _ _ _ _ _ _ g1 g2 hne hm x y hx1 hy1
      · rcases hG2 e' he' hw' x y hy1 with h|h
        · exact hx2 h
        · have:=hold _ _ _ g1 x y hx1;omega
      · rcases hG2 e he hw x y hx1 with h|h
        · exact hy2 h
        · have:=hold _ _ _ g2 x y hy1;omega
      · obtain⟨z,hz⟩:=Option.isSome_iff_exists.1 hw;obtain⟨z',hz'⟩:=Option.isSome_iff_exists.1 hw';have hee:e.1≠e'.1:=λhh=>hne (by rw[←hid,←hid',gm hnd he he' hh]);exact k1.jZ _ _ _ _ _ _ (hpost _ (fC hz)) (hpost _ (fC hz')) hee (by simp) x y hx1 hy1
    · obtain⟨h1,h2⟩:=jI h;exact hleaf h2 (hr.sl t x h1)
    · obtain⟨h1,h2,h3⟩:=jC h;obtain⟨n,f,g1,g2,A,v,g3,g4,g5⟩:=hr.al id c x h1;have hq0:∀q y,eX Ws es id=some (q,y)→q≠[]:=λq y hf hqq=>by
        simp only[kq,hf,hqq,Bool.not_eq_true']at h3;have:=n6 (q:=([]:bF)) (s:=[(0,0,c)]);rw[nil_append,h3]at this;cases this
      have hbx:∃f',aW (dU es Ws L) id .box (.s n 1 f'):=by
        refine(?_:∃f',jj es Ws id (.s n 1 f)= .s n 1 f').imp λf' hf'=>fj.2 ⟨_,g1,hf'.symm⟩;rcases hwr id with⟨q,y,hf,e,he,rfl,rfl,hy⟩|⟨hf,hn⟩
        · have hq:=hq0 _ _ hf;simp only[jj,hf];cases hqq:e.2.2.1 with
          | nil=>exact absurd hqq hq
          | cons a r=>exact⟨_,by simp only[T.set];rfl⟩
        · simp only[jj,hf];exact⟨_,rfl⟩
      obtain⟨f',hbx⟩:=hbx;obtain⟨b,o,rfl,hGb⟩:=oH hr g1 g2 g3;refine⟨n,f',hbx,g2,_,v,g3,hC.cell g4 λhs'=>?_,hleaf h2 g5⟩;obtain⟨e,he,hw,hid,hg'⟩:=hSG _ _ _ g1 b o hGb hs';obtain⟨y,hy⟩:=Option.isSome_iff_exists.1 hw;subst hid;have hq:e.2.2.1≠[]:=by
        rcases hwr e.2.1 with⟨q2,y2,hf2,e2,he2,hid2,rfl,hy2⟩|⟨hf2,hn2⟩
        · have:e2=e:=by
            rcases Nat.decEq e2.1 e.1 with h|h
            · exact absurd hid2 (hap e2 he2 e he (by rw[hy2];rfl) h)
            · exact gm hnd he2 he h
          subst this;exact hq0 _ _ hf2
        · rw[hn2 e he rfl]at hy;cases hy
      obtain⟨_,_,_,_,_,_,e6⟩:=hP0 e he;refine e6 hw hq _ n 1 f g1 0 c b o (by omega) g2 ?_ hg';obtain⟨a0,l0,c0,q1,q2⟩:=ez g3;rw[q1,q2];simp[gU]
  have hinv:∀i,(nu d i-d) / 1000=i:=λi=>by simp only[nu];omega
  have hbase:aa=100000:=rfl;have hmem:∀r∈eu d L0,∃r0∈L0,r=(nu d r0.1,r0.2):=λr hr=>by
    obtain⟨r0,h,e⟩:=List.mem_map.1 hr;exact⟨r0,h,e.symm⟩
  have hnd2:((eu d L0).map (·.1)).Nodup:=by
    have e:(eu d L0).map (·.1)=(L0.map (·.1)).map (nu d):=by simp[eu]
    rw[e];exact List.pairwise_map.2 (hn.imp λ{x y} h e=>h (by simp only[nu]at e;omega))
  have hfromL2:∀r∈L0,∀a o,G2 (ρ' r.1) a o→S a o∨w.heap.size≤a:=λr hr0 a o hg=>by
    obtain⟨g1,g2,_⟩:=r2 r hr0;rcases k4 _ _ _ g2 g1 a o hg with⟨id,m,t,h1,h2,h3⟩|h
    · obtain⟨e',he',rfl,_,h4,_⟩:=hrow id m t h1 h2;exact .inl ⟨e',he',h4,h3⟩
    · exact .inr h
  have hnews:=hRp.news (λi=>G2 (ρ' ((i-d) / 1000))) (λi=>H2 (ρ' ((i-d) / 1000))) (eu d L0) hnd2 (λr hr0 b o hF id m t hid hG4=>by
      obtain⟨r0,h0,rfl⟩:=hmem r hr0;simp only[hinv]at hF;obtain⟨t0,g1,rfl⟩:=hrt hid;rcases hcases id m t0 g1 b o hG4 with⟨hx1,hx2⟩|⟨e,he,hw,hid2,hx1⟩
      · rcases hfromL2 r0 h0 b o hF with h|h
        · exact hx2 h
        · have:=hold _ _ _ g1 b o hx1;omega
      · obtain⟨z,hz⟩:=Option.isSome_iff_exists.1 hw;obtain⟨q1,q2,q3⟩:=r2 r0 h0;have hb1:=(hent e he).2.1;exact k1.jZ _ _ _ _ _ _ (hpost _ (fC hz)) q2 (by simp only;omega) (by simp) b o hx1 hF) (λr hr0=>by
      obtain⟨r0,h0,rfl⟩:=hmem r hr0;obtain⟨g1,g2,_⟩:=r2 r0 h0;simp only[hinv];exact⟨g1,k1.own _ _ _ g2 g1,λe=>by rw[e]at g2;exact k1.box _ _ g2⟩) (λr hr0 r' hr' hne b o hF hF'=>by
      obtain⟨r0,h0,rfl⟩:=hmem r hr0;obtain⟨r0',h0',rfl⟩:=hmem r' hr';simp only[hinv]at hF hF';have hne':ρ' r0.1≠ρ' r0'.1:=λe=>hne (by rw[gm rn h0 h0' e]);exact k1.jZ _ _ _ _ _ _ (r2 r0 h0).2.1 (r2 r0' h0').2.1 hne' (r2 r0 h0).1 b o hF hF')
  let H4:Nat→Value:=λi=>if i∈(eu d L0).map (·.1)then H2 (ρ' ((i-d) / 1000))else H i
  have hout:∀id,id∈L0.map (·.1)→∀m t,aW L2 (ρ' id) m t→aW (fW (dU es Ws L) (eu d L0)) (nu d id) m t∧H4 (nu d id)=H2 (ρ' id):=λid hid m t hh=>by
    obtain⟨r0,h0,rfl⟩:=List.mem_map.1 hid;obtain⟨g1,g2,_⟩:=r2 r0 h0;obtain⟨rfl,rfl⟩:=k1.one _ _ _ _ _ hh g2;have hin:nu d r0.1∈(eu d L0).map (·.1):=List.mem_map.2 ⟨_,List.mem_map.2 ⟨r0,h0,rfl⟩,rfl⟩;refine⟨(e_ hnd2).2 (.inl (List.mem_map.2 ⟨r0,h0,rfl⟩)),?_⟩;show(if _ then _ else _)=_;rw[if_pos hin,hinv]
  -- what was handed over, as the caller names it
  have hback:∀e∈es,∀v,VR (aW L2) H2 w' (.h e.1 []) v→(∀i∈L0.map (·.1),nu d i≠e.2.1)→VR (aW (fW (dU es Ws L) (eu d L0))) H4 w' (.h e.2.1 e.2.2.1) v:=λe he v hv hne=>by
    obtain⟨m2,t2,h1,_,⟨n2,l2,f2,h3⟩,h4⟩:=hv;simp only[T.at]at h3;simp only[VM.hd,Option.some.injEq]at h4;subst h4;have hb1:=(hent e he).2.1;have hh2:H2 e.1=H' e.1:=k5 _ _ _ hb1 h1;obtain⟨⟨m0,t0,hv0,g1,g2,g3,⟨n0,l0,f0,g4⟩,g5⟩,_⟩:=hent e he;have hni:e.2.1 ∉ (eu d L0).map (·.1):=λhm=>by
      obtain⟨r,hr0,hre⟩:=List.mem_map.1 hm;obtain⟨r0,h0,rfl⟩:=hmem r hr0;exact hne r0.1 (List.mem_map.2 ⟨r0,h0,rfl⟩) hre
    have hH4:H4 e.2.1=H e.2.1:=if_neg hni;have hb:(match eX Ws es e.2.1 with|some (q,_)=>¬Bh q e.2.2.1|none=>True):=by
      rcases hwr e.2.1 with⟨q,y,hf,e',he',hid,rfl,hy⟩|⟨hf,hn'⟩
      · simp only[hf];have:e'=e:=by
          rcases Nat.decEq e'.1 e.1 with h|h
          · exact absurd hid (hap e' he' e he (by rw[hy];rfl) h)
          · exact gm hnd he' he h
        subst this
        rintro ⟨a,s,hs'⟩
        have:=congrArg length hs';simp at this
      · simp only[hf]
    obtain⟨c1,c2,c3⟩:=hway e.2.1 m0 t0 e.2.2.1 g1 g2 hb;have hS:∃n len f,(jj es Ws e.2.1 t0).at e.2.2.1= .s n len f:=by
      rcases c3 with⟨y,hf,hy⟩|c3
      · obtain⟨e',he',hid,hq',hy'⟩:=kJ hf;have:e'=e:=by
          rcases Nat.decEq e'.1 e.1 with h|h
          · exact absurd hid (hap e' he' e he (by rw[hy'];rfl) h)
          · exact gm hnd he' he h
        subst this;obtain⟨_,ht⟩:=k1.one _ _ _ _ _ h1 (hpost _ (fC hy'));exact⟨_,_,_,hy.trans (ht.symm.trans h3)⟩
      · obtain⟨f',h'⟩:=c3 _ _ _ (g3.trans g4);exact⟨_,_,f',h'⟩
    refine⟨m0,jj es Ws e.2.1 t0,(e_ hnd2).2 (.inr ⟨fj.2 ⟨t0,g1,rfl⟩,hni⟩),c1,hS,?_⟩;rw[hH4,c2,hh2,hH' e he]
  have hv:=yC (R:=aW L2) (R':=aW (fW (dU es Ws L) (eu d L0))) (H:=H2) (H':=H4) (w:=w') (d:=d) (es:=es) (ids:=L0.map (·.1)) (ρ:=ρ') hfix (λi hi=>by
    obtain⟨r0,h0,rfl⟩:=List.mem_map.1 hi;have:=List.all_eq_true.1 hb _ h0;simp only[Bool.and_eq_true,decide_eq_true_eq]at this;exact this.2) hout hback hx0 k2
  refine⟨by rw[hds];simpa [Go.Act.put]using hs.kR,by rw[hds];simpa [Go.Act.put]using hs.lc,hs.fV.step hC (λx y hx ⟨e,he,hw,hg⟩=>?_),H4,(λi=>if i∈(eu d L0).map (·.1)then G2 (ρ' ((i-d) / 1000))else G3 i),?_,?_⟩
  · obtain⟨_,_,_,e3,_⟩:=hP0 e he;obtain⟨⟨m0,t0,_,g1,_⟩,_⟩:=hent e he;exact(hG.1 _ _ _ g1 (hmode e he hw _ _ g1) x y (e3 x y hg)).resolve_right (by omega)
  · rw[hds];exact(hnews.put (x:=X0.out d es) (v:=v) hv).val λt=>(Act.jc (Nat.lt_of_lt_of_le hN hs.kR) t).symm
  · rw[cq];have hSg:∀x y,S x y→cx.S0 x y∨cx.w0.heap.size≤x:=λx y ⟨e',he',hw',hg'⟩=>by
      obtain⟨_,_,_,e3,_⟩:=hP0 e' he';obtain⟨⟨m0,t0,_,g1,_⟩,_⟩:=hent e' he';exact hG.1 _ _ _ g1 (hmode e' he' hw' _ _ g1) x y (e3 x y hg')
    refine⟨λid m t h1 h2 x y hg=>?_,λid m t hbs h1=>?_⟩
    · rcases(e_ hnd2).1 h1 with hh|⟨hh,hni⟩
      · obtain⟨⟨i0,m0,t0⟩,h0,e⟩:=hmem _ hh;cases e;have hin:nu d i0∈(eu d L0).map (·.1):=List.mem_map.2 ⟨_,hh,rfl⟩;simp only[hin,if_true,hinv]at hg;rcases hfromL2 _ h0 x y hg with h|h
        · exact hSg x y h
        · have:=hs.fV.size;exact .inr (by omega)
      · simp only[hni,if_false]at hg;obtain⟨t0,g1,rfl⟩:=hrt hh;rcases hcases id m t0 g1 x y hg with⟨hx1,_⟩|⟨e,he,hw,hid,hx1⟩
        · exact hG.1 _ _ _ g1 h2 x y hx1
        · rcases hG2 e he hw x y hx1 with h|h
          · exact hSg x y h
          · have:=hs.fV.size;exact .inr (by omega)
    · rcases(e_ hnd2).1 h1 with hh|⟨hh,hni⟩
      · obtain⟨⟨i0,m0,t0⟩,h0,e⟩:=hmem _ hh;cases e;have:=List.all_eq_true.1 hb _ h0;simp only[Bool.and_eq_true,decide_eq_true_eq]at this;have h6:aa≤nu d i0:=hbs;omega
      · show(if _ then _ else _)=_;rw[if_neg hni];obtain⟨t0,g1,rfl⟩:=hrt hh;exact hG.2 _ _ _ hbs g1
theorem aE.bW{Ws:List (Nat×T)}{f:FuncId}{cal:Operand}{args:Array Operand}{tys:Array TypeId}{xs:List X}{ρ:List E}{es:List eJ}{m:Nat}{X0:X}{L0:List (Nat×M×T)}(hds:dst=some d)(hN:d<N)(hE:lL P f)(hcal:cp L cal= .f f [])(hc:a_ P f xs ρ (ch X0 L0 Ws))(hq:Av L (args.toList.map (cp L)) aa=(xs,es,m))(hρ:kX Ws es=ρ)(hok:DN L Ws es=true)
  (hn:(L0.map (·.1)).Nodup) (hb:(L0.all λr=>nu d r.1<aa&&r.1<aa)=true) (hx0:X0.vD d es (L0.map (·.1))=true):
  aE P N ⟨dst,.call { callee:= .value cal,args:=args,argTypes:=tys },ty,pos,af,g⟩ L (cn (fW (dU es Ws L) (eu d L0)) d (X0.out d es)):=
 aE.Df Ws hds hN hE hcal hq hok (hρ ▸ hc) hn hb hx0
end
open Go Go.RowKit
section
variable{P:Program}{N:Nat}{Q:Exit→List E→Prop}{L:List E}{ops:Array Oper}{rest:List Oper}{dst:Option Tmp}{ty:TypeId}{pos:String}{af:Array Edge}{g:Option (Nat×Bool)}{d:Nat}
theorem aB.nS{t t2 e:TypeId}{x:Operand}{id:Nat}{q:bF}{n len:Nat}{f:Nat→Nat→T}{gb:Bool}(hw:b9 ops L ⟨dst,.binOp .eql t x (.const (.slice none 0 0)) t2,ty,pos,af,g⟩=some gb)(hgb:gb=true)(hd:dst=some d)(hN:d<N)(hx:cp L x= .h id q){m:M}{T0:T}(hR:bZ L id=some (m,T0))(hT:T0.at q= .s n len f)(hS:Sl P t e)
  (k:∀b:Bool,(b=true→len=0)→aB P N ops rest Q (cn L d (.v (.bool b)))):aB P N ops (⟨dst,.binOp .eql t x (.const (.slice none 0 0)) t2,ty,pos,af,g⟩ :: rest) Q L:=λcx a w hs=>by
 obtain⟨H,G,hr,hG⟩:=hs.rp;have h:=dw hr x;rw[hx]at h;obtain⟨m',t',g1,g2,g3,g4⟩:=h;obtain⟨rfl,rfl⟩:=hr.one _ _ _ _ _ g1 (aq hR);obtain⟨h',F,e1,e2⟩:=hr.node g1 g2;rw[g4]at e1;cases e1;rw[hT]at e2;obtain⟨hn,ad,cap,h0,hl,hm,b,off,V,G',h1,h2⟩:=e2;subst hgb;simp only[wpList,iN hw hr,if_true];refine .inl ?_;unfold Oper.wp;have hgd:eqGuard .eql t x (.const (.slice none 0 0)) (.slice ad len cap) (.slice none 0 0)=pure ():=rfl;have:(execOp a.eval ⟨dst,.binOp .eql t x (.const (.slice none 0 0)) t2,ty,pos,af,g⟩).run P w= .ok (.value (.bool ad.isNone)) w:=by
  have hbin:(binOp .eql t (.slice ad len cap) (.slice none 0 0)).run P w= .ok (.bool ad.isNone) w:=Lib.run_eql_slice_nil w _ _ ad len cap 0 0 hS;have hev:Act.eval a (.const (.slice none 0 0))= .slice none 0 0:=rfl;refine jh ?_;simp only[h0,hev,hgd,Sem.run_bind];simp[hbin]
 rw[this];rw[Oper.upon_value];refine k ad.isNone (λhb=>?_) cx _ _ ?_
 ·rcases eq_zero_or_pos len with h|h
  ·exact h
  ·rw[h1 h]at hb;cases hb
 ·show Sat N cx _ (a.put dst (.bool ad.isNone)) w;rw[hd];exact hs.put hr hG hN rfl
end

section
variable{P:Program}{N:Nat}{Q:Exit→List E→Prop}{L:List E}{cx:Cx}{a:Act}{w:World}{val H:Nat→Value}{G:Nat→FP}
theorem lH{L:List E}{id:Nat}(h:bZ L id=none):∀m t,¬aW L id m t:=by
 induction L with
 | nil=>intro m t h;cases h
 | cons x r ih=>
  intro m t hm;cases x with
  | sl s x=>
   rcases List.mem_cons.1 hm with hm|hm
   ·cases hm
   ·exact ih (by simpa only[bZ]using h) m t hm
  | al s c x=>
   rcases List.mem_cons.1 hm with hm|hm
   ·cases hm
   ·exact ih (by simpa only[bZ]using h) m t hm
  | rt j m1 t1=>
   simp only[bZ]at h;split at h
   ·cases h
   ·rename_i hne;rcases List.mem_cons.1 hm with hm|hm
    ·cases hm;exact hne rfl
    ·exact ih h m t hm
theorem Rp.more(hr:Rp L val H G w){nid:Nat}{t:T}{F:FP}{h:Value}(hf:∀m t,¬aW L nid m t)(hO:du w t F h)(hF:∀id m t,aW L id m t→∀a o,G id a o→F a o→False):Rp (.rt nid .row t :: L) val (bm H nid h) (bm G nid F) w:=by
 have hrt:∀{id m' t'},aW (.rt nid .row t :: L) id m' t'→(id=nid∧m'= .row∧t'=t)∨(id≠nid∧aW L id m' t'):=λ{id m' t'} h=>by
  rcases List.mem_cons.1 h with h|h
  ·cases h;exact .inl ⟨rfl,rfl,rfl⟩
  ·exact .inr ⟨λe=>hf m' t' (e ▸ h),h⟩
 have hsub:∀{x v},VR (aW L) H w x v→VR (aW (.rt nid .row t :: L)) (bm H nid h) w x v:=λhv=>hv.same λid m t hh=>⟨mem_cons_of_mem _ hh,by
  have:id≠nid:=λe=>hf m t (e ▸ hh);simp[bm,this]⟩
 refine⟨?_,?_,?_,?_,?_,?_,?_,?_⟩
 ·intro id m1 t1 m2 t2 h1 h2;rcases hrt h1 with⟨rfl,rfl,rfl⟩|⟨hne,h1⟩<;>rcases hrt h2 with⟨e,rfl,rfl⟩|⟨hne',h2⟩
  ·exact⟨rfl,rfl⟩
  ·exact absurd rfl hne'
  ·exact absurd e hne
  ·exact hr.one _ _ _ _ _ h1 h2
 ·intro id m1 t1 h1 hm1;rcases hrt h1 with⟨rfl,rfl,rfl⟩|⟨hne,h1⟩
  ·simpa [bm]using hO
  ·simpa [bm,hne]using hr.own _ _ _ h1 hm1
 ·intro id t1 h1;rcases hrt h1 with⟨rfl,e,rfl⟩|⟨hne,h1⟩
  ·cases e
  ·simpa [bm,hne]using hr.ro _ _ h1
 ·intro id t1 h1;rcases hrt h1 with⟨rfl,e,rfl⟩|⟨hne,h1⟩
  ·cases e
  ·simpa [bm,hne]using hr.fR _ _ h1
 ·intro id t1 h1;rcases hrt h1 with⟨rfl,e,rfl⟩|⟨hne,h1⟩
  ·cases e
  ·exact hr.box _ _ h1
 ·intro id m1 t1 id' m2 t2 h1 h2 hne hm1 x y;rcases hrt h1 with⟨rfl,rfl,rfl⟩|⟨hne1,k1⟩<;>rcases hrt h2 with⟨rfl,rfl,rfl⟩|⟨hne2,k2⟩
  ·exact absurd rfl hne
  ·simp only[bm,if_true,hne2,if_false];exact λa b=>hF _ _ _ k2 x y b a
  ·simp only[bm,if_true,hne1,if_false];exact λa b=>hF _ _ _ k1 x y a b
  ·simp only[bm,hne1,hne2,if_false];exact hr.jZ _ _ _ _ _ _ k1 k2 hne hm1 x y
 ·intro t1 x h1;rcases List.mem_cons.1 h1 with h1|h1
  ·cases h1
  ·exact hsub (hr.sl t1 x h1)
 ·intro id c x h1;rcases List.mem_cons.1 h1 with h1|h1
  ·cases h1
  ·obtain⟨n,f,g1,g2,A,v,g3,g4,g5⟩:=hr.al id c x h1;have hne:id≠nid:=λe=>hf _ _ (e ▸ g1);exact⟨n,f,mem_cons_of_mem _ g1,g2,A,v,by simpa [bm,hne]using g3,g4,hsub g5⟩
theorem Good.more{nid:Nat}{t:T}{F:FP}{h:Value}(hG:Good cx L H G)(hf:∀m t,¬aW L nid m t)(hb:nid<aa)(hF:∀a o,F a o→cx.S0 a o∨cx.w0.heap.size≤a):Good cx (.rt nid .row t :: L) (bm H nid h) (bm G nid F):=by
 refine⟨λid m1 t1 h1 h2 x y hg=>?_,λid m1 t1 h0 h1=>?_⟩
 ·rcases List.mem_cons.1 h1 with h1|h1
  ·cases h1;simp only[bm,if_true]at hg;exact hF x y hg
  ·have hne:id≠nid:=λe=>hf _ _ (e ▸ h1);simp only[bm,hne,if_false]at hg;exact hG.1 id m1 t1 h1 h2 x y hg
 ·rcases List.mem_cons.1 h1 with h1|h1
  ·cases h1;omega
  ·have hne:id≠nid:=λe=>hf _ _ (e ▸ h1);simp only[bm,hne,if_false];exact hG.2 id m1 t1 h0 h1
theorem AW.lm{c:Code}(s nid n:Nat)(hn:0<n)(hs:ax L s= .v (.slice none 0 0))(hf:bZ L nid=none)(hb:nid<aa)(k:AW P N c Q (cn (.rt nid .row (.s n 0 λ_ _=> .j) :: L) s (.h nid []))):AW P N c Q L:=λcx a w hsat=>by
 refine k cx a w ?_;obtain⟨H,G,hr,hG⟩:=hsat.rp;have hv:Act.val a s= .slice none 0 0:=by
  have h:=dw hr (.tmp s);simp only[cp,hs,VR]at h;exact h
 have hO:du w (.s n 0 λ_ _=> .j) (λ_ _=>False) (.slice none 0 0):=ZC.own (t:= .s n 0 λ_ _=> .j) ⟨hn,rfl,rfl⟩;have h1:=hr.more (lH hf) hO λ_ _ _ _ _ _ _ h=>h;have h2:=h1.put (d:=s) (x:= .h nid []) (v:= .slice none 0 0) ⟨.row,_,mem_cons_self .., by simp[bT],⟨n,0,λ_ _=> .j,by simp only[T.at]⟩,by simp only[VM.hd,bm,if_true]⟩;refine⟨hsat.kR,hsat.lc,hsat.fV,_,_,h2.val λt=>?_,?_⟩
 ·split
  ·rename_i e;rw[e,hv]
  ·rfl
 ·rw[cq];exact Good.more hG (lH hf) hb λ_ _ h=>h.elim
end
open Go Go.RowKit
section
variable{P:Program}{N:Nat}{Q:Exit→List E→Prop}{L:List E}
theorem AW.len{c:Code}(id:Nat)(q:bF){m:M}{t:T}{n len:Nat}{f:Nat→Nat→T}(hR:bZ L id=some (m,t))(hq:bT t q)(hT:t.at q= .s n len f)(k:len≤9223372036854775807→AW P N c Q L):AW P N c Q L:=λcx a w hs=>by
 obtain⟨H,G,hr,hG⟩:=hs.rp;obtain⟨h',F,_,h2⟩:=hr.node (aq hR) hq;rw[hT]at h2;obtain⟨_,cap,_,h3,h4⟩:=h2.DV;exact k (by simp only[maxLen]at h4;omega) cx a w hs
end

def jY{α:Type}[En α](k len:Nat)(g h:Nat→α):T:= .s (En.n α) len λi c=>(En.cs (if i<k then g i else h i)).getD c .j
section
variable{α:Type}[En α]{len k:Nat}{g h:Nat→α}{l:List α}
theorem eW(hk:len≤k)(hl:l.length=len)(hg:∀i,i<len→g i=l.getD i En.ab):(jY k len g h).bb (tr l):=by
 subst hl;exact T.vt λi c hi _=>by rw[if_pos (by omega),hg i hi]
theorem eN{f:Nat→Nat→T}(ho:∀i c,i≠k→f i c=(En.cs (if i<k then g i else h i)).getD c .j)(hc:∀c,c<En.n α→(f k c).bb ((En.cs (g k)).getD c .j)):(T.s (En.n α) len f).bb (jY (k+1) len g h):=by
 refine⟨_,rfl,λi c _ hcc=>?_⟩
 by_cases e:i=k
 ·subst e;rw[if_pos (by omega)];exact hc c hcc
 ·rw[ho i c e];have:(if i<k+1 then g i else h i)=if i<k then g i else h i:=by
   by_cases h1:i<k
   ·rw[if_pos h1,if_pos (by omega)]
   ·rw[if_neg h1,if_neg (by omega)]
  rw[this];exact T.eQ _
end
structure cV(n:Nat) where
 k:Nat
 le:k≤n
structure iJ{α:Type}(l l':List α) where
 k:Nat
 le:k≤l.length
 eq:l.take k=l'.take k
section
variable{α:Type}{l l':List α}
theorem iJ.next(i:iJ l l')(d:α)(hl:l.length=l'.length)(hk:i.k<l.length)(h:l.getD i.k d=l'.getD i.k d):l.take (i.k+1)=l'.take (i.k+1):=by
 rw[take_add_one,take_add_one,i.eq];congr 1;rw[getElem?_eq_getElem hk,getElem?_eq_getElem (hl ▸ hk)];simp only[getD_eq_getElem?_getD,getElem?_eq_getElem hk,getElem?_eq_getElem (hl ▸ hk),Option.getD_some]at h;rw[h]
theorem iJ.stop(i:iJ l l')(d:α)(h:l.getD i.k d≠l'.getD i.k d):l≠l':=λe=>h (congrArg (λx=>x.getD i.k d) e)
theorem iJ.full(i:iJ l l')(hl:l.length=l'.length)(hk:¬i.k<l.length):l=l':=by
 have h:=i.eq
 rwa [take_of_length_le (by omega),take_of_length_le (by omega)]at h
theorem fa(h:l.length≠l'.length):l≠l':=λe=>h (by rw[e])
end
def g_(n:Nat)(left:Int):Int:=if left-n<0 then -1 else left-n

class Mk (α:Type) extends En α where
 wt:α→Nat
 dG:α→Nat
 mark:α→Int→α
 dD:∀a k,dG (mark a k)=dG a
def mE{α:Type}(w:α→Nat)(l:List α):Nat:=(l.map w).foldr (· + ·) 0
def bD{α:Type}(c:α→Nat)(d:α)(l:List α):Nat→Nat
 | 0=>0
 | i+1=>bD c d l i+c (l.getD i d)
def Ec{α:Type}[Mk α](l:List α)(k:Int)(i:Nat):α:=Mk.mark (l.getD i En.ab) (k+bD Mk.dG En.ab l i)
def CQ{α:Type}[Mk α](l:List α)(k:Int):List α:=(range l.length).map (Ec l k)
theorem AN{α:Type}[Mk α](l:List α)(k:Int):(CQ l k).length=l.length:=by simp[CQ]
theorem AV{α:Type}[Mk α](l:List α)(k:Int){i:Nat}(hi:i<l.length):(CQ l k).getD i En.ab=Ec l k i:=by
 simp[CQ,getD_eq_getElem?_getD,hi]
theorem w8{α:Type}[Mk α](l:List α)(k:Int):∀{i:Nat},i≤l.length→bD Mk.dG En.ab (CQ l k) i=bD Mk.dG En.ab l i
 | 0,_=>rfl
 | i+1,h=>by
  simp only[bD];rw[w8 l k (by omega),AV l k (by omega),Ec,Mk.dD]
theorem dK{α:Type}{c:α→Nat}{d:α}{l:List α}:∀{i j:Nat},i≤j→bD c d l i≤bD c d l j
 | i,0,h=>by rw[show i=0 by omega];exact Nat.le_refl _
 | i,j+1,h=>by
  rcases Nat.lt_or_ge i (j+1)with h'|h'
  ·have:=dK (c:=c) (d:=d) (l:=l) (show i≤j by omega);simp only[bD];omega
  ·rw[show i=j+1 by omega];exact Nat.le_refl _
instance:Mk Int:={ wt:=λ_=>0,dG:=λ_=>1,mark:=λ_ k=>k,dD:=λ_ _=>rfl }
instance:Mk Bool:={ wt:=λ_=>0,dG:=λ_=>1,mark:=λ_ k=>decide (k.tmod 3=0),dD:=λ_ _=>rfl }
instance Cy {α:Type} [Mk α]:Mk (List α):={ wt:=λl=>l.length+mE Mk.wt l,dG:=λl=>bD Mk.dG En.ab l l.length,mark:=CQ,dD:=λl k=>by rw[AN];exact w8 l k (Nat.le_refl _) }
theorem fN{α:Type}{w:α→Nat}{d:α}:∀{l:List α} {i:Nat},i<l.length→w (l.getD i d)≤mE w l
 | x :: l,0,_=>by simp[mE]
 | x :: l,i+1,h=>by
  have:=fN (w:=w) (d:=d) (l:=l) (i:=i) (by simpa using h);simp only[getD_cons_succ];simp only[mE,map_cons,foldr_cons]at this ⊢;omega
theorem cX{α:Type}[Mk α](l:List α):Mk.wt l=l.length+mE Mk.wt l:=rfl
theorem kn{α:Type}{w:α→Nat}(h:∀a,w a=0):∀l:List α,mE w l=0
 | []=>rfl
 | x :: l=>by
  have:=kn h l;simp only[mE,map_cons,foldr_cons,h]at this ⊢;omega
theorem Cw(a:Int):En.cs a=[.v (iv a)]:=rfl
theorem A5(a:Bool):En.cs a=[.v (.bool a)]:=rfl
theorem B5(a:ByteArray):En.cs a=[.v (.string a)]:=rfl
theorem AQ{α:Type}[En α](a:List α):En.cs a=[tr a]:=rfl
theorem zv{α:Type}[En α](L:List E)(id:Nat)(q:bF)(n k c:Nat)(l:List α):fO L id q n k c (tr l)= .h id (q++[(n,k,c)]):=rfl
open Go Go.RowKit
theorem wL{a b:Int}(h: -9223372036854775808≤a+b∧a+b≤9223372036854775807):bR .add (iv a) (iv b)=some (iv (a+b)):=by
 show some (Value.int .i64 (IntKind.i64.wrap (a+b)))=_;rw[IntWalk.i64_in _ h]
theorem ck{a b:Int}(h: -9223372036854775808≤a-b∧a-b≤9223372036854775807):bR .sub (iv a) (iv b)=some (iv (a-b)):=by
 show some (Value.int .i64 (IntKind.i64.wrap (a-b)))=_;rw[IntWalk.i64_in _ h]
theorem dM{a b:Int}(h: -9223372036854775808≤a*b∧a*b≤9223372036854775807):bR .mul (iv a) (iv b)=some (iv (a*b)):=by
 show some (Value.int .i64 (IntKind.i64.wrap (a*b)))=_;rw[IntWalk.i64_in _ h]
theorem ai(f:Nat→Nat→T)(k c:Nat)(y:T)(k' c':Nat):m6 f k c y k' c'=if k'=k∧c'=c then y else f k' c':=rfl
theorem Ei(a b:Nat):beq a b=(a==b):=by
 rw[Bool.eq_iff_iff,beq_eq];simp
theorem Bm(L:List E)(id:Nat)(q:bF)(n k c:Nat)(y:Go.Value):fO L id q n k c (.v y)= .v y:=rfl
theorem Bg(L:List E)(id:Nat)(q:bF)(n k c m l:Nat)(f:Nat→Nat→T):fO L id q n k c (.s m l f)= .h id (q++[(n,k,c)]):=rfl
theorem DP(L:List E)(id:Nat)(q:bF)(n k c:Nat):fO L id q n k c .j=match q,k with| [],0=>(match fK L id c with| .j=> .c|x=>x)|_,_=> .c:=rfl
theorem zm(L:List E)(id:Nat)(n c:Nat):fO L id [] n 0 c .j=match fK L id c with| .j=> .c|x=>x:=rfl
theorem zw(L:List E)(id:Nat)(a:Nat×Nat×Nat)(q:bF)(n k c:Nat):fO L id (a :: q) n k c .j= .c:=rfl
theorem y_{L:List E}{id:Nat}{q:bF}{n k c:Nat}(h:fK L id c= .j):fO L id q n k c .j= .c:=by
 unfold fO;dsimp only;split
 ·rw[h]
 ·rfl
open Go Go.RowKit
section
variable{P:Program}{N:Nat}{Q:Exit→List E→Prop}{L:List E}{ops:Array Oper}{qs pend todo:List Nat}{S:Array Bool}
theorem aO.vZ{i:Nat}{d:Nat}{o:Oper}{x:X}(ho:ops[i]? =some o)(hd:o.dst=some d)(hp:pend.all (λk=>todo.contains k || k==i || !eI ops k i)=true)
  (h:Qd P ops o L x) (hx:ax L d=x) (k:aO P N ops qs Q S pend todo (cn L d x)):aO P N ops qs Q S pend (i :: todo) L:=by
 subst hx;exact aO.again ho hd hp h k
end
open Go Go.RowKit
theorem fp.bl{w:World}{cs:List Value}{ts us:List T}(o k:Nat)(h:fp w ts ((cs.drop o).take k))(h':fp w us (cs.drop (o+k))):fp w (ts++us) (cs.drop o):=by
 have:cs.drop o=(cs.drop o).take k++cs.drop (o+k):=by
  rw[←drop_drop,take_append_drop]
 rw[this];exact h.append h'
theorem fp.gn{w:World}{cs:List Value}{n:Nat}(h:cs.length=n):fp w [] (cs.drop n):=by
 rw[drop_eq_nil_of_le (by omega)];exact⟨rfl,λi t v h=>by simp at h⟩
open Go Go.RowKit
def Ew{α:Type}[En α](len:Nat)(g:Nat→α):T:= .s (En.n α) len λi c=>(En.cs (g i)).getD c .j
theorem Em(a b:Nat):blt a b=decide (a<b):=by
 rw[Bool.eq_iff_iff,decide_eq_true_eq];exact Iff.of_eq blt_eq
open Go Go.RowKit
theorem cj{α:Type}[En α]{l l':List α}{len:Nat}{f:Nat→Nat→T}(hlen:len=l.length)(hf:∀k c,k<l.length→c<En.n α→f k c=(En.cs (l.getD k En.ab)).getD c .j){g:Nat→Nat→T}(hg:∀k c,k<l'.length→c<En.n α→g k c=(En.cs (l'.getD k En.ab)).getD c .j):
  (oq (En.n α) len f l'.length g).bb (tr (l++l')):=by
 subst hlen;refine⟨λk c=>(En.cs ((l++l').getD k En.ab)).getD c .j,by simp[tr],λk c hk hc=>?_⟩;show(if k<l.length then f k c else g (k-l.length) c).bb ((En.cs ((l++l').getD k En.ab)).getD c .j);split
 ·rename_i h;rw[hf k c h hc,show(l++l').getD k En.ab=l.getD k En.ab by simp[getD_eq_getElem?_getD,getElem?_append_left h]];exact T.eQ _
 ·rename_i h;rw[hg _ c (by omega) hc,show(l++l').getD k En.ab=l'.getD (k-l.length) En.ab by simp[getD_eq_getElem?_getD,getElem?_append_right (by omega:l.length≤k)]];exact T.eQ _
class Fl (α:Type) extends En α where
 flat:∀(a:α) (c:Nat),c<n→jg ((cs a).getD c .j)=(cs a).getD c .j
theorem dA{α:Type}[Fl α]{l:List α}{f:Nat→Nat→T}:(oq (En.n α) 0 f l.length λk c=>jg ((En.cs (l.getD k En.ab)).getD c .j)).bb (tr l):=
 cj (l:=[]) rfl (λk c hk=>absurd hk (not_lt_zero k)) λk c _ hc=>Fl.flat _ c hc
open Go Go.RowKit
section
variable{P:Program}{L:List E}{dst:Option Tmp}{ty:TypeId}{pos:String}{af:Array Edge}{g:Option (Nat×Bool)}
theorem Qt.Dp{t t2:TypeId}{x y:Operand}{u v:Bool}(hx:cp L x= .v (.bool u))(hy:cp L y= .v (.bool v))(ht:P.underlying t=some .bool):Qt P ⟨dst,.binOp .eql t x y t2,ty,pos,af,g⟩ L (.v (.bool (u==v))):=
 Qt.D8 hx hy (.inl rfl) ht
end
open Go Go.RowKit
theorem Co{α:Type}[En α](l:List α)(k c:Nat)(y:T):T.put (tr l) [] k c y= .s (En.n α) l.length (m6 (λk c=>(En.cs (l.getD k En.ab)).getD c .j) k c y):=rfl
theorem bG{α:Type}[En α]{l:List α}{i:Nat}{a:α}{f:Nat→Nat→T}(ho:∀k c,k≠i→f k c=(En.cs (l.getD k En.ab)).getD c .j)(hc:∀c,c<En.n α→(f i c).bb ((En.cs a).getD c .j)):(T.s (En.n α) l.length f).bb (tr (l.set i a)):=by
 refine⟨λk c=>(En.cs ((l.set i a).getD k En.ab)).getD c .j,by simp[tr],λk c hk hcc=>?_⟩;show(f k c).bb ((En.cs ((l.set i a).getD k En.ab)).getD c .j)
 by_cases e:k=i
 ·subst e;rw[show(l.set k a).getD k En.ab=a by simp[getD_eq_getElem?_getD,hk]];exact hc c hcc
 ·rw[ho k c e,show(l.set i a).getD k En.ab=l.getD k En.ab by simp[getD_eq_getElem?_getD,getElem?_set_ne (Ne.symm e)]];exact T.eQ _
theorem dY(l:List Int):Mk.wt l=l.length:=by rw[cX,kn (w:=Mk.wt) (λ_=>rfl)];rfl
instance:Fl Int:=⟨λa c hc=>by
 match c,hc with
 | 0,_=>rfl
 | c+1,h=>exact absurd h (by simp[En.n])⟩
instance:Fl Bool:=⟨λa c hc=>by
 match c,hc with
 | 0,_=>rfl
 | c+1,h=>exact absurd h (by simp[En.n])⟩

structure ft{α:Type}(p:α→Bool)(l:List α) where
 k:Nat
 le:k≤l.length
 al:(l.take k).all p=true
theorem ft.next{α:Type}{p:α→Bool}{l:List α}(i:ft p l)(d:α)(hk:i.k<l.length)(h:p (l.getD i.k d)=true):(l.take (i.k+1)).all p=true:=by
 rw[take_add_one,all_append,i.al,getElem?_eq_getElem hk];simpa [hk]using h
theorem ft.stop{α:Type}{p:α→Bool}{l:List α}(i:ft p l)(d:α)(hk:i.k<l.length)(h:p (l.getD i.k d)=false):l.all p=false:=by
 rw[all_eq_false];exact⟨l[i.k],getElem_mem hk,by simpa [hk]using h⟩
theorem ft.full{α:Type}{p:α→Bool}{l:List α}(i:ft p l)(hk:¬i.k<l.length):l.all p=true:=by
 have:=i.al
 rwa [take_of_length_le (by omega)]at this
structure fo{α:Type}(p:α→Bool)(l:List α) where
 k:Nat
 le:k≤l.length
 al:(l.take k).all (λx=> !p x)=true
def fq{α:Type}(p:α→Bool)(l:List α):Int:=match l.findIdx? p with|some i=>i|none=> -1
theorem cZ{α:Type}{p:α→Bool}{l:List α}(i:fo p l)(d:α)(hk:i.k<l.length)(h:p (l.getD i.k d)=true):fq p l=i.k:=by
 have h2:p l[i.k]=true:=by simpa [hk]using h
 have:l.findIdx? p=some i.k:=by
  rw[findIdx?_eq_some_iff_getElem];refine⟨hk,h2,λj hj=>?_⟩;have:=List.all_eq_true.1 i.al l[j] (by rw[mem_take_iff_getElem];exact⟨j,by omega,rfl⟩);simpa using this
 simp[fq,this]
theorem cC{α:Type}{p:α→Bool}{l:List α}(i:fo p l)(hk:¬i.k<l.length):fq p l= -1:=by
 have:=i.al;rw[take_of_length_le (by omega)]at this;have:l.findIdx? p=none:=by
  rw[findIdx?_eq_none_iff];intro x hx;simpa using List.all_eq_true.1 this x hx
 simp[fq,this]
theorem fo.next{α:Type}{p:α→Bool}{l:List α}(i:fo p l)(d:α)(hk:i.k<l.length)(h:p (l.getD i.k d)=false):(l.take (i.k+1)).all (λx=> !p x)=true:=by
 rw[take_add_one,all_append,i.al,getElem?_eq_getElem hk];have:p l[i.k]=false:=by simpa [hk]using h
 simp[this]
theorem gk{α:Type}(p:α→Bool)(l:List α):decide (0≤fq p l)=l.any p:=by
 unfold fq;cases h:l.findIdx? p with
 | none=>
  rw[findIdx?_eq_none_iff]at h;have:l.any p=false:=by rw[any_eq_false];intro x hx;simp[h x hx]
  simp[this]
 | some i=>
  rw[findIdx?_eq_some_iff_getElem]at h;obtain⟨hi,h1,_⟩:=h;have:l.any p=true:=List.any_eq_true.2 ⟨_,getElem_mem hi,h1⟩;simp[this]
theorem l8{α:Type}(p:α→Bool)(l:List α): -1≤fq p l∧fq p l<l.length:=by
 unfold fq;cases h:l.findIdx? p with
 | none=>simp;omega
 | some i=>
  rw[findIdx?_eq_some_iff_getElem]at h;obtain⟨hi,_⟩:=h;simp;omega
open Go Go.RowKit
def jm:List E→Nat→T→List E
 | [],_,_=>[]
 | .rt i m t :: L,id,t'=>if i=id then .rt i m t' :: jm L id t' else .rt i m t :: jm L id t'
 | e :: L,id,t'=>e :: jm L id t'
theorem n7:∀{L:List E} {id:Nat} {t':T} {s:Nat} {x:X},E.sl s x∈jm L id t'→E.sl s x∈L
 | .sl s' x' :: L,id,t',s,x,h=>by
  rcases List.mem_cons.1 h with h|h
  ·rw[h];exact mem_cons_self ..
  ·exact mem_cons_of_mem _ (n7 h)
 | .rt i m t :: L,id,t',s,x,h=>by
  simp only[jm]at h;split at h<;>
  ·rcases List.mem_cons.1 h with h|h
   ·cases h
   ·exact mem_cons_of_mem _ (n7 h)
 | .al i c x' :: L,id,t',s,x,h=>by
  rcases List.mem_cons.1 h with h|h
  ·cases h
  ·exact mem_cons_of_mem _ (n7 h)
theorem nQ:∀{L:List E} {id:Nat} {t':T} {s c:Nat} {x:X},E.al s c x∈jm L id t'→E.al s c x∈L
 | .sl s' x' :: L,id,t',s,c,x,h=>by
  rcases List.mem_cons.1 h with h|h
  ·cases h
  ·exact mem_cons_of_mem _ (nQ h)
 | .rt i m t :: L,id,t',s,c,x,h=>by
  simp only[jm]at h;split at h<;>
  ·rcases List.mem_cons.1 h with h|h
   ·cases h
   ·exact mem_cons_of_mem _ (nQ h)
 | .al i c' x' :: L,id,t',s,c,x,h=>by
  rcases List.mem_cons.1 h with h|h
  ·rw[h];exact mem_cons_self ..
  ·exact mem_cons_of_mem _ (nQ h)
theorem gw:∀{L:List E} {id:Nat} {t':T} {i:Nat} {m:M} {t:T},aW (jm L id t') i m t↔(i=id∧t=t'∧∃t0,aW L id m t0)∨(i≠id∧aW L i m t)
 | [],_,_,_,_,_=>by simp[aW,jm]
 | .sl s x :: L,id,t',i,m,t=>by
  have:=gw (L:=L) (id:=id) (t':=t') (i:=i) (m:=m) (t:=t);simp only[aW,jm]at this ⊢;simp[this]
 | .al s c x :: L,id,t',i,m,t=>by
  have:=gw (L:=L) (id:=id) (t':=t') (i:=i) (m:=m) (t:=t);simp only[aW,jm]at this ⊢;simp[this]
 | .rt j m1 t1 :: L,id,t',i,m,t=>by
  have:=gw (L:=L) (id:=id) (t':=t') (i:=i) (m:=m) (t:=t);simp only[aW,jm]at this ⊢;split
  ·rename_i hj;subst hj;simp only[mem_cons,this,E.rt.injEq];constructor
   ·rintro (⟨rfl,rfl,rfl⟩|⟨rfl,rfl,t0,h⟩|⟨h1,h2⟩)
    ·exact .inl ⟨rfl,rfl,t1,.inl (by simp)⟩
    ·exact .inl ⟨rfl,rfl,t0,.inr h⟩
    ·exact .inr ⟨h1,.inr h2⟩
   ·rintro (⟨rfl,rfl,t0,⟨_,rfl,rfl⟩|h⟩|⟨h1,⟨rfl,_⟩|h2⟩)
    ·exact .inl ⟨rfl,rfl,rfl⟩
    ·exact .inr (.inl ⟨rfl,rfl,t0,h⟩)
    ·exact absurd rfl h1
    ·exact .inr (.inr ⟨h1,h2⟩)
  ·rename_i hj;simp only[mem_cons,this,E.rt.injEq];constructor
   ·rintro (⟨rfl,rfl,rfl⟩|⟨rfl,rfl,t0,h⟩|⟨h1,h2⟩)
    ·exact .inr ⟨hj,.inl ⟨rfl,rfl,rfl⟩⟩
    ·exact .inl ⟨rfl,rfl,t0,.inr h⟩
    ·exact .inr ⟨h1,.inr h2⟩
   ·rintro (⟨rfl,rfl,t0,⟨rfl,_⟩|h⟩|⟨h1,⟨rfl,rfl,rfl⟩|h2⟩)
    ·exact absurd rfl hj
    ·exact .inr (.inl ⟨rfl,rfl,t0,h⟩)
    ·exact .inl ⟨rfl,rfl,rfl⟩
    ·exact .inr (.inr ⟨h1,h2⟩)
theorem VR.Cu{R R':RT}{H:Nat→Value}{w:World}(hR:∀id m t,R id m t→∃t',R' id m t'∧t.bb t'){x:X}{v:Value}(h:VR R H w x v):VR R' H w x v:=
 VR.leaves (C:=λ_=>True) (λx v hl _ h=>by
  cases x with
  | p id q n k c=>
   obtain⟨m,t,h1,h2,⟨len,f,h3,h4,h5⟩,h6⟩:=h;obtain⟨t',e1,e2⟩:=hR id m t h1;obtain⟨e3,e4⟩:=lq e2 h2;rw[h3]at e4;obtain⟨g,e5,_⟩:=e4;exact⟨m,t',e1,e3,⟨len,g,e5,h4,h5⟩,h6⟩
  | h id q=>
   obtain⟨m,t,h1,h2,⟨n,len,f,h3⟩,h6⟩:=h;obtain⟨t',e1,e2⟩:=hR id m t h1;obtain⟨e3,e4⟩:=lq e2 h2;rw[h3]at e4;obtain⟨g,e5,_⟩:=e4;exact⟨m,t',e1,e3,⟨n,len,g,e5⟩,h6⟩
  | a id q n lo len=>
   obtain⟨m,t,h1,h2,⟨l,f,h3,h4⟩,h6⟩:=h;obtain⟨t',e1,e2⟩:=hR id m t h1;obtain⟨e3,e4⟩:=lq e2 h2;rw[h3]at e4;obtain⟨g,e5,_⟩:=e4;exact⟨m,t',e1,e3,⟨l,g,e5,h4⟩,h6⟩
  | _=>exact hl.elim) (X.all_true (λ_=>trivial) x) h
theorem ar.bB{N:Nat}{L:List E}{id:Nat}{m:M}{t t':T}(hR:bZ L id=some (m,t))(hs:t.bb t'):ar N L (jm L id t'):=λcx a w hsat=>by
 obtain⟨H,G,hr,hG⟩:=hsat.rp;have hid:=aq hR;have hback:∀{i m1 t1},aW (jm L id t') i m1 t1→∃t0,aW L i m1 t0∧t0.bb t1:=λh=>by
  rcases gw.1 h with⟨rfl,rfl,t0,h⟩|⟨_,h⟩
  ·obtain⟨rfl,rfl⟩:=hr.one _ _ _ _ _ h hid;exact⟨_,h,hs⟩
  ·exact⟨_,h,T.eQ _⟩
 have hfwd:∀i m1 t1,aW L i m1 t1→∃t2,aW (jm L id t') i m1 t2∧t1.bb t2:=λi m1 t1 h=>by
  by_cases e:i=id
  ·subst e;obtain⟨rfl,rfl⟩:=hr.one _ _ _ _ _ h hid;exact⟨t',gw.2 (.inl ⟨rfl,rfl,_,h⟩),hs⟩
  ·exact⟨t1,gw.2 (.inr ⟨e,h⟩),T.eQ _⟩
 have hV:∀{x v},VR (aW L) H w x v→VR (aW (jm L id t')) H w x v:=λh=>h.Cu hfwd;refine⟨hsat.kR,hsat.lc,hsat.fV,H,G,⟨?_,?_,?_,?_,?_,?_,?_,?_⟩,?_,?_⟩
 ·intro i m1 t1 m2 t2 h1 h2;rcases gw.1 h1 with⟨rfl,rfl,t0,g1⟩|⟨e1,g1⟩<;>rcases gw.1 h2 with⟨e,rfl,t3,g2⟩|⟨e2,g2⟩
  ·exact⟨(hr.one _ _ _ _ _ g1 g2).1,rfl⟩
  ·exact absurd rfl e2
  ·exact absurd e e1
  ·exact hr.one _ _ _ _ _ g1 g2
 ·intro i m1 t1 h1 h2;obtain⟨t0,e1,e2⟩:=hback h1;exact(hr.own i m1 t0 e1 h2).bb e2
 ·intro i t1 h1;obtain⟨t0,e1,e2⟩:=hback h1;exact(hr.ro i t0 e1).bb e2
 ·intro i t1 h1;obtain⟨t0,e1,e2⟩:=hback h1;exact hr.fR i t0 e1
 ·intro i t1 h1;obtain⟨t0,e1,e2⟩:=hback h1;obtain⟨n,f,rfl⟩:=hr.box i t0 e1;obtain⟨g,rfl,_⟩:=e2;exact⟨n,g,rfl⟩
 ·intro i m1 t1 i' m2 t2 h1 h2;obtain⟨t0,e1,_⟩:=hback h1;obtain⟨t3,e2,_⟩:=hback h2;exact hr.jZ i m1 t0 i' m2 t3 e1 e2
 ·intro s x h1;exact hV (hr.sl s x (n7 h1))
 ·intro i c x h1;obtain⟨n,f,g1,g2,A,v,g3,g4,g5⟩:=hr.al i c x (nQ h1);obtain⟨t2,g6,g7⟩:=hfwd _ _ _ g1;obtain⟨g,rfl,_⟩:=g7;exact⟨n,g,g6,g2,A,v,g3,g4,hV g5⟩
 ·intro i m1 t1 h1;obtain⟨t0,e1,_⟩:=hback h1;exact hG.1 i m1 t0 e1
 ·intro i m1 t1 hb h1;obtain⟨t0,e1,_⟩:=hback h1;exact hG.2 i m1 t0 hb e1
section
variable{P:Program}{N:Nat}{Q:Exit→List E→Prop}{L:List E}{ops:Array Oper}{l:List Oper}{qs pend todo:List Nat}{S:Array Bool}{m:M}{t:T}
theorem AW.bB{c:Code}(id:Nat)(t':T)(hR:bZ L id=some (m,t))(hs:t.bb t')(k:AW P N c Q (jm L id t')):AW P N c Q L:=AW.bS (ar.bB hR hs) k
theorem aB.bB(id:Nat)(t':T)(hR:bZ L id=some (m,t))(hs:t.bb t')(k:aB P N ops l Q (jm L id t')):aB P N ops l Q L:=aB.bS (ar.bB hR hs) k
theorem aO.bB(id:Nat)(t':T)(hR:bZ L id=some (m,t))(hs:t.bb t')(k:aO P N ops qs Q S pend todo (jm L id t')):aO P N ops qs Q S pend todo L:=aO.bS (ar.bB hR hs) k
end
theorem nT{b:Bool}(h:b=true):(!b)=false:=by rw[h];rfl
theorem nF{b:Bool}(h:b=false):(!b)=true:=by rw[h];rfl
open Go Go.RowKit
section
variable{P:Program}{L:List E}{dst:Option Tmp}{ty:TypeId}{pos:String}{af:Array Edge}{g:Option (Nat×Bool)}
theorem o4{R:RT}{H:Nat→Value}{w:World}:∀{vs us:List Value},db R H w (vs.map X.v) us→us=vs
 | [],[],_=>rfl
 | v :: vs,u :: us,⟨h1,h2⟩=>by
  have:u=v:=h1;rw[this,o4 h2]
 | [],_ :: _,h=>h.elim
 | _ :: _,[],h=>h.elim
theorem Qt.Ay{t t2:TypeId}{x y:Operand}{vs us:List Value}{r:Value}(hrun:∀(x y:Operand) (w:World),(do eqGuard .eql t x y (.agg vs.toArray) (.agg us.toArray);Go.binOp .eql t (.agg vs.toArray) (.agg us.toArray)).run P w= .ok r w)(hx:cp L x= .g (vs.map X.v))(hy:cp L y= .g (us.map X.v)):Qt P ⟨dst,.binOp .eql t x y t2,ty,pos,af,g⟩ L (.v r):=
 (λH w a he _=>by
  have h1:=he x;have h2:=he y;rw[hx]at h1;rw[hy]at h2;obtain⟨v1,e1,f1⟩:=h1;obtain⟨v2,e2,f2⟩:=h2;rw[o4 f1]at e1;rw[o4 f2]at e2;refine⟨r,?_,rfl⟩;have:=hrun x y w;rw[←e1,←e2]at this;exact jh this)
end
attribute [go_sem] ji cons_append nil_append append_nil cn oR cp ax Bm Bg zm zw y_ rv range' map_cons map_nil fK iR eV cr ij dz eC eF X.leaves X.yg X.kT X.oe X.sn X.wD bZ l_ length Bn fU qy X.rX X.vv p0 fW eu nu X.od X.eu Bc List.map aa jm jq T.Au replicate flatten T.put Co ai Ei eq_self Int.toNat_natCast X.one X.er tj C_ T.set dU jj eX jx lx kq dr Option.isSome X.out X.outs qo Em decide_true decide_false AQ jY Ew Cw A5 B5 zv getD_cons_zero getD_cons_succ contains elem Bool.and_true Bool.true_and Bool.and_false Bool.false_and Bool.or_false Bool.or_true Bool.false_or Bool.true_or Bool.false_eq_true and_true true_and and_false false_and and_self
open Go Go.RowKit
def fX:List E→List Nat→List E
 | [],_=>[]
 | .sl s x :: L,ds=>if ds.contains s then fX L ds else .sl s x :: fX L ds
 | .rt i m t :: L,ds=> .rt i m t :: fX L ds
 | .al i c x :: L,ds=> .al i c x :: fX L ds
theorem gW:∀{L:List E} {ds:List Nat} {e:E},e∈fX L ds→e∈L
 | .sl s x :: L,ds,e,h=>by
  simp only[fX]at h;split at h
  ·exact mem_cons_of_mem _ (gW h)
  ·rcases List.mem_cons.1 h with h|h
   ·rw[h];exact mem_cons_self ..
   ·exact mem_cons_of_mem _ (gW h)
 | .rt i m t :: L,ds,e,h=>by
  rcases List.mem_cons.1 h with h|h
  ·rw[h];exact mem_cons_self ..
  ·exact mem_cons_of_mem _ (gW h)
 | .al i c x :: L,ds,e,h=>by
  rcases List.mem_cons.1 h with h|h
  ·rw[h];exact mem_cons_self ..
  ·exact mem_cons_of_mem _ (gW h)
theorem dH:∀{L:List E} {ds:List Nat},aW (fX L ds)=aW L
 | [],_=>rfl
 | .sl s x :: L,ds=>by
  have:=dH (L:=L) (ds:=ds);funext i m t;have h:=congrFun (congrFun (congrFun this i) m) t;simp only[aW,fX]at h ⊢;split<;>simp[h]
 | .rt j m1 t1 :: L,ds=>by
  have:=dH (L:=L) (ds:=ds);funext i m t;have h:=congrFun (congrFun (congrFun this i) m) t;simp only[aW,fX]at h ⊢;simp[h]
 | .al j c x :: L,ds=>by
  have:=dH (L:=L) (ds:=ds);funext i m t;have h:=congrFun (congrFun (congrFun this i) m) t;simp only[aW,fX]at h ⊢;simp[h]
theorem ar.fX{N:Nat}{L:List E}(ds:List Nat):ar N L (VM.fX L ds):=λcx a w hs=>by
 obtain⟨H,G,hr,hG⟩:=hs.rp;refine⟨hs.kR,hs.lc,hs.fV,H,G,⟨?_,?_,?_,?_,?_,?_,?_,?_⟩,by rw[dH];exact hG⟩
 ·rw[dH];exact hr.one
 ·rw[dH];exact hr.own
 ·rw[dH];exact hr.ro
 ·rw[dH];exact hr.fR
 ·rw[dH];exact hr.box
 ·rw[dH];exact hr.jZ
 ·rw[dH];exact λt x h=>hr.sl t x (gW h)
 ·rw[dH];exact λid c x h=>hr.al id c x (gW h)
theorem ar.trans{N:Nat}{L L1 L2:List E}(h:ar N L L1)(h':ar N L1 L2):ar N L L2:=λcx a w hs=>h' cx a w (h cx a w hs)
theorem ar.slot{N:Nat}{L:List E}{d:Nat}{v v':Value}(h:ax L d= .v v)(e:v=v'):ar N L (cn L d (.v v')):=λcx a w hs=>by
 subst e;obtain⟨H,G,hr,hG⟩:=hs.rp;have hv:Act.val a d=v:=by
  have h1:=dw hr (.tmp d);simp only[cp,h,VR]at h1;exact h1
 refine⟨hs.kR,hs.lc,hs.fV,H,G,(hr.put (d:=d) (x:= .v v) (v:=v) rfl).val λt=>?_,by rw[cq];exact hG⟩;split
 ·rename_i e;rw[e,hv]
 ·rfl
theorem ar.join{N:Nat}{L LB:List E}{d:Nat}{ds:List Nat}{v v':Value}(h:ax L d= .v v)(e:v=v')(hB:VM.fX L ds=LB):ar N L (cn LB d (.v v')):=
 hB ▸ λcx a w hs=>by
  obtain⟨H,G,hr,hG⟩:=hs.rp;have hv:Act.val a d=v':=by
   have h1:=dw hr (.tmp d);simp only[cp,h,VR]at h1;exact h1.trans e
  have hs2:=ar.fX ds cx a w hs;obtain⟨H2,G2,hr2,hG2⟩:=hs2.rp;refine⟨hs.kR,hs.lc,hs.fV,H2,G2,(hr2.put (d:=d) (x:= .v v') (v:=v') rfl).val λt=>?_,by rw[cq];exact hG2⟩;split
  ·rename_i e;rw[e,hv]
  ·rfl
section
variable{P:Program}{N:Nat}{Q:Exit→List E→Prop}{L L':List E}{ops:Array Oper}{l:List Oper}{qs pend todo:List Nat}{S:Array Bool}
theorem aB.cut(k:Nat)(h1:aB P N ops (l.drop k) Q L'→aB P N ops l Q L)(h2:aB P N ops (l.drop k) Q L'):aB P N ops l Q L:=h1 h2
theorem AW.cut{x y:Code}(L':List E)(h1:AW P N x (aD (λL1=>ar N L1 L') Q) L)(h2:AW P N y Q L'):AW P N x (aD (AW P N y Q) Q) L:=
 AW.mono h1 λe L1 h=>by
  cases e with
  | normal=>exact AW.bS h h2
  | _=>exact h
end
section
variable{P:Program}{L:List E}{dst:Option Tmp}{ty:TypeId}{pos:String}{af:Array Edge}{g:Option (Nat×Bool)}
theorem Qt.aG{c x y:Operand}{b r:Bool}(hc:cp L c= .v (.bool b))(hx:cp L x= .v (if b then .bool r else undef))(hy:cp L y= .v (.bool false)):Qt P ⟨dst,.pick c x y,ty,pos,af,g⟩ L (.v (.bool (b&&r))):=by
 have h:=Qt.pick (P:=P) (dst:=dst) (ty:=ty) (pos:=pos) (af:=af) (g:=g) (x:=x) (y:=y) hc;cases b
 ·rw[if_neg (by simp),hy]at h;exact h
 ·rw[if_pos rfl,hx]at h;exact h
theorem Qt.br{c x y:Operand}{b r:Bool}(hc:cp L c= .v (.bool b))(hy:cp L y= .v (if b then undef else .bool r))(hx:cp L x= .v (.bool true)):Qt P ⟨dst,.pick c x y,ty,pos,af,g⟩ L (.v (.bool (b || r))):=by
 have h:=Qt.pick (P:=P) (dst:=dst) (ty:=ty) (pos:=pos) (af:=af) (g:=g) (x:=x) (y:=y) hc;cases b
 ·rw[if_neg (by simp),hy]at h;exact h
 ·rw[if_pos rfl,hx]at h;exact h
theorem bY{b:Bool}(h:b=true)(u v:Value):u=if b then u else v:=by rw[h];rfl
theorem bU{b:Bool}(h:b=false)(u v:Value):u=if b then v else u:=by rw[h];rfl
end
attribute [go_sem] fX
open Go Go.RowKit
section
variable{P:Program}{N:Nat}{Q:Exit→List E→Prop}{L:List E}{ops:Array Oper}{l:List Oper}
theorem aB.bq(t:Nat){b:Bool}(h:ax L t= .v (.bool b))(hf:b=false→aB P N ops l Q L)(ht:b=true→aB P N ops l Q L):aB P N ops l Q L:=aB.split t h ht hf
end
attribute [go_sem] take_succ_cons take_zero drop_succ_cons drop_zero take_nil drop_nil gM
open Go Go.RowKit
section
variable{P:Program}{N:Nat}{Q:Exit→List E→Prop}{L:List E}
theorem AW.jV{c:Operand}{x y:Code}{t:Bool}(hc:cp L c= .v (.bool t))(ht:t=true)(h:AW P N x Q L):AW P N (.cond c x y) Q L:=AW.cond hc (λ_=>h) λhf=>by rw[ht]at hf;cases hf
end
theorem en{α:Type}[En α]{n len:Nat}{g:Nat→α}{zt:List T}(hn:n=En.n α)(h:∀c,c<En.n α→(zt.getD c .j).bb ((En.cs (En.ab:α)).getD c .j)):(T.s n len λ_ j=>zt.getD j .j).bb (jY 0 len g λ_=>En.ab):=by
 rw[hn];exact⟨_,rfl,λi c _ hc=>by rw[if_neg (not_lt_zero i)];exact h c hc⟩
theorem bK{n:Nat}{f g:Nat→Nat→T}:(T.s n 0 f).bb (.s n 0 g):=⟨_,rfl,λk c hk=>absurd hk (not_lt_zero k)⟩
attribute [go_sem] Nat.lt_irrefl Av wX oU Bv T.at qi m9
structure tW{α:Type}[Mk α](left:Int)(a:List α) where
 k:Nat
 le:k≤a.length
 nn:0≤left-a.length-(bD Mk.wt En.ab a k:Nat)
theorem p7{α:Type}(c:α→Nat)(d x:α)(l:List α):∀i,bD c d (x :: l) (i+1)=c x+bD c d l i
 | 0=>by simp[bD]
 | i+1=>by
  rw[bD,p7 c d x l i,bD];simp only[getD_cons_succ];omega
theorem uh{α:Type}(c:α→Nat)(d:α):∀l:List α,bD c d l l.length=mE c l
 | []=>rfl
 | x :: l=>by
  rw[length_cons,p7,uh c d l];rfl
theorem dc{α:Type}[Mk α](a:List α):bD Mk.wt En.ab a a.length=mE Mk.wt a:=uh _ _ _
theorem b7(n:Nat)(left:Int):(left-n<0∧g_ n left= -1)∨(0≤left-n∧g_ n left=left-n):=by
 unfold g_;split
 ·exact .inl ⟨by omega,rfl⟩
 ·exact .inr ⟨by omega,rfl⟩
theorem Ca{α:Type}[En α](l:List α):(tr l).sY=true:=rfl
theorem Dy(n len:Nat)(f:Nat→Nat→T):(T.s n len f).sY=true:=rfl
theorem BT(t:T):t.at []=t:=by cases t<;>rfl
theorem Ds{α:Type}[En α](l:List α)(n k c:Nat)(q:bF):(tr l).at ((n,k,c) :: q)=((En.cs (l.getD k En.ab)).getD c .j).at q:=by rw[tr,T.at]
attribute [go_sem] Ca Dy BT Ds
open Go Go.RowKit
section
variable{P:Program}{N:Nat}{Q:Exit→List E→Prop}{L L':List E}{ops:Array Oper}{cx:Cx}{a b:Act}{w:World}{S R S':Array Bool}{pend pend' todo qs:List Nat}
theorem ar.refl:ar N L L:=λ_ _ _ h=>h
theorem aO.use(hS:S=S')(hp:(pend.all pend'.contains&&pend'.all pend.contains)=true)(hw:ar N L L')(K:aO P N ops qs Q S' pend' [] L'):aO P N ops qs Q S pend [] L:=by
 subst hS;simp only[Bool.and_eq_true,all_eq_true,contains_iff_mem]at hp;obtain⟨h1,h2⟩:=hp;intro hq cx a b w R fuel hu hv hs;refine K hq cx a b w R fuel hu ?_ (hw cx b w hs);exact⟨hv.yR,hv.y5,hv.sub,λi h h'=>h1 i (hv.BY i h h'),λi h=>hv.vk i (h2 i h),λi h=>hv.Ct i (h2 i h),hv.Aw,hv.lc,λt ht=>hv.uy t λi hi=>ht i (h1 i hi),λi hi=>hv.CO i (h2 i hi),hv.CP⟩
def pa(P:Program)(N:Nat)(ops:Array Oper)(qs:List Nat)(Q:Exit→List E→Prop)(S:Array Bool)(pend:List Nat)(L:List E):List Nat→Prop
 | []=>True
 | j :: r=>CK P N ops qs Q S pend L j∧pa P N ops qs Q S pend L r
theorem pa.all:∀{js:List Nat},pa P N ops qs Q S pend L js→∀j∈js,CK P N ops qs Q S pend L j
 | _ :: _,⟨h1,h2⟩,j,hj=>by
  rcases List.mem_cons.1 hj with rfl|hj
  ·exact h1
  ·exact pa.all h2 j hj
theorem aO.eD(js:List Nat)(hr:Region.ready .any ops S=js)(hne:js.isEmpty=false)(h:pa P N ops qs Q S pend L js):aO P N ops qs Q S pend [] L:=aO.any js hr hne h.all
theorem aO.eA(S':Array Bool)(pend':List Nat)(h1:aO P N ops qs Q S' pend' [] L'→aO P N ops qs Q S pend [] L)(h2:aO P N ops qs Q S' pend' [] L'):aO P N ops qs Q S pend [] L:=h1 h2
end
open Go Go.RowKit
section
variable{P:Program}{N:Nat}{Q:Exit→List E→Prop}{L:List E}
end
open Go Go.RowKit
section
variable{P:Program}{L:List E}{dst:Option Tmp}{ty:TypeId}{pos:String}{af:Array Edge}{g:Option (Nat×Bool)}
theorem Qt.se{s t e:TypeId}{x:Operand}{id:Nat}{q:bF}{m:M}{T0:T}{l:List UInt8}(hx:cp L x= .h id q)(hR:bZ L id=some (m,T0))(hT:T0.at q=tr l)(hs:P.underlying s=some (.slice e))(he:P.underlying e=some (.int .u8))(ht:P.underlying t=some .string):Qt P ⟨dst,.convert s t x,ty,pos,af,g⟩ L (.v (.string ⟨l.toArray⟩)):=
 (λH w a hev ⟨val,G,hr⟩=>by
  have h:=hev x;rw[hx]at h;obtain⟨m',t',g1,g2,g3,g4⟩:=h;obtain⟨rfl,rfl⟩:=hr.one _ _ _ _ _ g1 (aq hR);obtain⟨h',F,e1,e2⟩:=hr.node g1 g2;rw[g4]at e1;cases e1;rw[hT]at e2;obtain⟨hn,ad,cap,h0,hl,hm,b,off,V,G',h1,h2⟩:=e2;refine⟨_,jh ?_,rfl⟩;rw[h0];cases l with
  | nil=>
   have:=run_convert_bytes_string (P:=P) w s t e ad 0 cap hs he ht;simp only[length_nil]at this ⊢;rw[this];cases ad<;>simp[Conv.bytesToString,loadCells,loadCellsFrom,Sem.run_pure]<;>rfl
  | cons y l=>
   rw[h1 (by simp)];refine run_convert_bytes_back w s t e _ cap (y :: l) hs he ht λj hj=>?_;obtain⟨k1,k2,_⟩:=h2 j 0 (by simpa using hj) (by simp[En.n]);have hg:(y :: l).getD j En.ab=(y :: l)[j]:=by simp only[getD_eq_getElem?_getD,getElem?_eq_getElem hj,Option.getD_some]
   have hv:V j 0=bv ((y :: l)[j]):=by
    have k3:Rd w ((En.cs ((y :: l).getD j En.ab)).getD 0 T.j) (G' j 0) (V j 0):=k2;rw[hg]at k3;exact k3.1
   rw[Addr.add_lit];have hn1:En.n UInt8=1:=rfl;have k4:w.cell? ⟨b,off+j,none⟩=some (V j 0):=by simpa [hn1]using k1
   rw[k4,hv])
end
theorem qe{a b:ByteArray}(h:a.size+b.size≤9223372036854775807):bR .add (.string a) (.string b)=some (.string (a++b)):=if_pos h
theorem sM(a b:Int):bR .and (iv a) (iv b)=some (.int .i64 (bits .and .i64 a b)):=rfl
theorem Br(a b:Int):bR .or (iv a) (iv b)=some (.int .i64 (bits .or .i64 a b)):=rfl
open Go Go.RowKit
def nM:Nat→Nat→List UInt8
 | 0,_=>[]
 | f+1,n=>if n<128 then[UInt8.ofNat n]else UInt8.ofNat (128+n%128) :: nM f (n / 128)
def tM(n:Int):List UInt8:=if 0≤n∧n≤562949953421311 then nM 7 n.toNat else[]
def bt(n:Int):ByteArray:=⟨(tM n).toArray⟩
theorem uR{f k:Nat}(hf:1≤f)(h:127<k):nM f k=UInt8.ofNat (128+k%128) :: nM (f-1) (k / 128):=by
 obtain⟨g,rfl⟩:∃g,f=g+1:=⟨f-1,by omega⟩
 simp only[nM,if_neg (show ¬k<128 by omega),Nat.add_sub_cancel]
theorem oP{f k:Nat}(hf:1≤f)(h:k<128):nM f k=[UInt8.ofNat k]:=by
 obtain⟨g,rfl⟩:∃g,f=g+1:=⟨f-1,by omega⟩
 simp only[nM,if_pos h]
theorem ui:∀f n,(nM f n).length≤f
 | 0,_=>by simp[nM]
 | f+1,n=>by
  have:=ui f (n / 128);unfold nM;split<;>simp;omega
theorem yl(n:Int):(tM n).length≤7:=by
 unfold tM;split
 ·exact ui 7 _
 ·simp
theorem aA(n:Int):(bt n).size≤7:=by
 have:=yl n;show(tM n).toArray.size≤7;simpa using this
theorem ug{f k:Nat}(hf:1≤f)(hk:k<128 ^ f)(h:127<k):2≤f∧k / 128<128 ^ (f-1):=by
 have h2:2≤f:=by
  rcases Nat.lt_or_ge f 2 with h'|h'
  ·obtain rfl:f=1:=by omega
   simp at hk;omega
  ·exact h'
 refine⟨h2,?_⟩;obtain⟨g,rfl⟩:∃g,f=g+1:=⟨f-1,by omega⟩
 rw[Nat.pow_succ]at hk;simp only[Nat.add_sub_cancel];omega
theorem wP{f k:Nat}(hf:f≤7)(hk:k<128 ^ f):k≤562949953421311:=by
 have:128 ^ f≤128 ^ 7:=Nat.pow_le_pow_right (by omega) hf;have h7:(128:Nat) ^ 7=562949953421312:=by decide
 omega
theorem pz(n:Nat):bv (UInt8.ofNat n)= .int .u8 ((n:Int)%256):=by
 show Value.int .u8 _=_;congr 1
theorem kC(n:Int)(h0:0≤n)(h1:n<2 ^ 63):IntKind.i64.wrap n=n:=by rw[IntKind.wrap_i64];omega
theorem w_(a b:Nat)(ha:a<2 ^ 63)(hb:b<2 ^ 63):bits .and .i64 (a:Int) (b:Int)=((a &&& b:Nat):Int):=(bits_nat .i64 63 (by decide) kC a b ha hb).1
theorem B4(a b:Nat)(ha:a<2 ^ 63)(hb:b<2 ^ 63):bits .or .i64 (a:Int) (b:Int)=((a ||| b:Nat):Int):=(bits_nat .i64 63 (by decide) kC a b ha hb).2
theorem ze(k:Nat)(h:k<2 ^ 63):bR .and (iv k) (iv 127)=some (iv ((k%128:Nat):Int)):=by
 rw[sM,show(127:Int)=((127:Nat):Int)from rfl,w_ k 127 h (by decide),show(127:Nat)=2 ^ 7-1 by decide,and_two_pow_sub_one_eq_mod]
theorem Cv(i a b:Nat)(hb:b<2 ^ i):a*2 ^ i ||| b=a*2 ^ i+b:=by
 rw[Nat.mul_comm,←two_pow_add_eq_or_of_lt hb a]
theorem AR(k:Nat):bR .or (iv ((k%128:Nat):Int)) (iv 128)=some (iv ((128+k%128:Nat):Int)):=by
 rw[Br,show(128:Int)=((128:Nat):Int)from rfl,B4 _ 128 (by omega) (by decide),Nat.or_comm,Cv 7 1 (k%128) (by omega)]
structure zE(n:Nat) where
 f:Nat
 k:Nat
 acc:List UInt8
 f1:1≤f
 f7:f≤7
 kl:k<128 ^ f
 al:acc.length+f≤7
 eq:acc++nM f k=nM 7 n
instance:Fl UInt8:=⟨λa c hc=>by
 match c,hc with
 | 0,_=>rfl
 | c+1,h=>exact absurd h (by simp[En.n])⟩
theorem CX(a:UInt8):En.cs a=[.v (bv a)]:=rfl
attribute [go_sem] CX
theorem wY{α:Type}[Fl α]{l:List α}{a:α}{g:Nat→Nat→T}(hg:∀c,c<En.n α→jg (g 0 c)=(En.cs a).getD c .j):(oq (En.n α) l.length (λk c=>(En.cs (l.getD k En.ab)).getD c .j) 1 λk c=>jg (g k c)).bb (tr (l++[a])):=
 cj (l':=[a]) rfl (λk c _ _=>rfl) λk c hk hc=>by
  have:k=0:=by simpa using hk
  subst this;exact hg c hc
open Go Go.RowKit
mutual
theorem VR.rn{R R':RT}{H H':Nat→Value}{w:World}{ρ:Nat→Nat}(hR:∀id m t,R id m t→R' (ρ id) m t∧H' (ρ id)=H id):∀{x:X} {v:Value},VR R H w x v→VR R' H' w (x.od ρ) v
 | .g xs,v,⟨vs,h1,h2⟩=>⟨vs,h1,db.rn hR h2⟩
 | .t xs,v,⟨vs,h1,h2⟩=>⟨vs,h1,db.rn hR h2⟩
 | .f fn xs,v,⟨vs,h1,h2⟩=>⟨vs,h1,db.rn hR h2⟩
 | .v x,v,h=>h
 | .j,v,_=>trivial
 | .c,v,h=>h
 | .p id q n k c,v,h=>by obtain⟨m,t,h1,h2⟩:=h;exact⟨m,t,(hR _ _ _ h1).1,by rw[(hR _ _ _ h1).2];exact h2⟩
 | .h id q,v,h=>by obtain⟨m,t,h1,h2⟩:=h;exact⟨m,t,(hR _ _ _ h1).1,by rw[(hR _ _ _ h1).2];exact h2⟩
 | .a id q n lo len,v,h=>by obtain⟨m,t,h1,h2⟩:=h;exact⟨m,t,(hR _ _ _ h1).1,by rw[(hR _ _ _ h1).2];exact h2⟩
theorem db.rn{R R':RT}{H H':Nat→Value}{w:World}{ρ:Nat→Nat}(hR:∀id m t,R id m t→R' (ρ id) m t∧H' (ρ id)=H id):∀{xs:List X} {vs:List Value},db R H w xs vs→db R' H' w (X.eu ρ xs) vs
 | [],[],_=>trivial
 | x :: xs,v :: vs,⟨h1,h2⟩=>⟨h1.rn hR,db.rn hR h2⟩
 | [],_ :: _,h=>h.elim
 | _ :: _,[],h=>h.elim
end
def sG(a b i:Nat):Nat:=if i=a then b else i
def mN(a b:Nat):List E→List E
 | []=>[]
 | .sl s x :: L=> .sl s (x.od (sG a b)) :: mN a b L
 | .rt i m t :: L=> .rt (sG a b i) m t :: mN a b L
 | .al i c x :: L=> .al (sG a b i) c (x.od (sG a b)) :: mN a b L
theorem kt{a b:Nat}:∀{L:List E} {e:E},e∈mN a b L→(∃s x,.sl s x∈L∧e= .sl s (x.od (sG a b)))∨(∃i m t,.rt i m t∈L∧e= .rt (sG a b i) m t)∨∃i c x,.al i c x∈L∧e= .al (sG a b i) c (x.od (sG a b))
 | .sl s x :: L,e,h=>by
  rcases List.mem_cons.1 h with h|h
  ·exact .inl ⟨s,x,mem_cons_self .., h⟩
  ·rcases kt h with⟨s,x,h1,h2⟩|⟨i,m,t,h1,h2⟩|⟨i,c,x,h1,h2⟩
   ·exact .inl ⟨s,x,mem_cons_of_mem _ h1,h2⟩
   ·exact .inr (.inl ⟨i,m,t,mem_cons_of_mem _ h1,h2⟩)
   ·exact .inr (.inr ⟨i,c,x,mem_cons_of_mem _ h1,h2⟩)
 | .rt i m t :: L,e,h=>by
  rcases List.mem_cons.1 h with h|h
  ·exact .inr (.inl ⟨i,m,t,mem_cons_self .., h⟩)
  ·rcases kt h with⟨s,x,h1,h2⟩|⟨i,m,t,h1,h2⟩|⟨i,c,x,h1,h2⟩
   ·exact .inl ⟨s,x,mem_cons_of_mem _ h1,h2⟩
   ·exact .inr (.inl ⟨i,m,t,mem_cons_of_mem _ h1,h2⟩)
   ·exact .inr (.inr ⟨i,c,x,mem_cons_of_mem _ h1,h2⟩)
 | .al i c x :: L,e,h=>by
  rcases List.mem_cons.1 h with h|h
  ·exact .inr (.inr ⟨i,c,x,mem_cons_self .., h⟩)
  ·rcases kt h with⟨s,x,h1,h2⟩|⟨i,m,t,h1,h2⟩|⟨i,c,x,h1,h2⟩
   ·exact .inl ⟨s,x,mem_cons_of_mem _ h1,h2⟩
   ·exact .inr (.inl ⟨i,m,t,mem_cons_of_mem _ h1,h2⟩)
   ·exact .inr (.inr ⟨i,c,x,mem_cons_of_mem _ h1,h2⟩)
theorem eG{a b:Nat}{i:Nat}{m:M}{t:T}{L:List E}:aW (mN a b L) i m t↔∃i0,aW L i0 m t∧sG a b i0=i:=by
 induction L with
 | nil=>simp[aW,mN]
 | cons e L ih=>
  simp only[aW]at ih ⊢;cases e with
  | sl s x=>simp only[mN,mem_cons,ih];simp
  | al i' c x=>simp only[mN,mem_cons,ih];simp
  | rt j m1 t1=>
   simp only[mN,mem_cons,ih,E.rt.injEq];constructor
   ·rintro (⟨rfl,rfl,rfl⟩|⟨i0,h1,h2⟩)
    ·exact⟨j,.inl ⟨rfl,rfl,rfl⟩,rfl⟩
    ·exact⟨i0,.inr h1,h2⟩
   ·rintro ⟨i0,⟨rfl,rfl,rfl⟩|h1,h2⟩
    ·exact .inl ⟨h2.symm,rfl,rfl⟩
    ·exact .inr ⟨i0,h1,h2⟩
theorem ar.ke{N:Nat}{L:List E}{a b:Nat}(hb:bZ L b=none)(ha1:a<aa)(hb1:b<aa):ar N L (mN a b L):=λcx ac w hs=>by
 obtain⟨H,G,hr,hG⟩:=hs.rp;have hnb:=lH hb;have hinj:∀{i j m t m' t'},aW L i m t→aW L j m' t'→sG a b i=sG a b j→i=j:=λ{i j m t m' t'} h1 h2 e=>by
  have e1:i≠b:=λe=>hnb _ _ (e ▸ h1);have e2:j≠b:=λe=>hnb _ _ (e ▸ h2);unfold sG at e;split at e<;>split at e<;>omega
 let H':Nat→Value:=λi=>if i=b then H a else H i
 let G':Nat→FP:=λi=>if i=b then G a else G i
 have hH:∀{i m t},aW L i m t→H' (sG a b i)=H i∧G' (sG a b i)=G i:=λ{i m t} h=>by
  have e1:i≠b:=λe=>hnb _ _ (e ▸ h);simp only[H',G',sG]
  by_cases e:i=a
  ·subst e;simp
  ·simp[e,e1]
 have hV:∀{x v},VR (aW L) H w x v→VR (aW (mN a b L)) H' w (x.od (sG a b)) v:=λh=>h.rn λid m t hh=>⟨eG.2 ⟨id,hh,rfl⟩,(hH hh).1⟩
 refine⟨hs.kR,hs.lc,hs.fV,H',G',⟨?_,?_,?_,?_,?_,?_,?_,?_⟩,?_,?_⟩
 ·intro i m t m' t' h1 h2;obtain⟨i0,g1,rfl⟩:=eG.1 h1;obtain⟨j0,g2,e⟩:=eG.1 h2;obtain rfl:=hinj g2 g1 e;exact hr.one _ _ _ _ _ g1 g2
 ·intro i m t h1 h2;obtain⟨i0,g1,rfl⟩:=eG.1 h1;rw[(hH g1).1,(hH g1).2];exact hr.own _ _ _ g1 h2
 ·intro i t h1;obtain⟨i0,g1,rfl⟩:=eG.1 h1;rw[(hH g1).1,(hH g1).2];exact hr.ro _ _ g1
 ·intro i t h1;obtain⟨i0,g1,rfl⟩:=eG.1 h1;rw[(hH g1).2];exact hr.fR _ _ g1
 ·intro i t h1;obtain⟨i0,g1,rfl⟩:=eG.1 h1;exact hr.box _ _ g1
 ·intro i m t i' m' t' h1 h2 hne hm;obtain⟨i0,g1,rfl⟩:=eG.1 h1;obtain⟨j0,g2,rfl⟩:=eG.1 h2;rw[(hH g1).2,(hH g2).2];exact hr.jZ _ _ _ _ _ _ g1 g2 (λe=>hne (by rw[e])) hm
 ·intro s x h;rcases kt h with⟨s',x',h1,h2⟩|⟨i,m,t,h1,h2⟩|⟨i,c,x',h1,h2⟩
  ·cases h2;exact hV (hr.sl _ _ h1)
  ·cases h2
  ·cases h2
 ·intro i c x h;rcases kt h with⟨s',x',h1,h2⟩|⟨i',m,t,h1,h2⟩|⟨i',c',x',h1,h2⟩
  ·cases h2
  ·cases h2
  ·cases h2;obtain⟨n,f,g1,g2,A,v,g3,g4,g5⟩:=hr.al _ _ _ h1;exact⟨n,f,eG.2 ⟨_,g1,rfl⟩,g2,A,v,by rw[(hH g1).1];exact g3,g4,hV g5⟩
 ·intro i m t h1;obtain⟨i0,g1,rfl⟩:=eG.1 h1;rw[(hH g1).2];exact hG.1 _ _ _ g1
 ·intro i m t hbs h1;obtain⟨i0,g1,e⟩:=eG.1 h1;have:i0=i:=by
   unfold sG at e;split at e
   ·subst e;omega
   ·exact e
  subst this;have:=hH g1;rw[e]at this;rw[this.1];exact hG.2 _ _ _ hbs g1
section
variable{P:Program}{N:Nat}{Q:Exit→List E→Prop}{L:List E}
theorem AW.ke{c:Code}(a b:Nat)(hb:bZ L b=none)(ha1:a<aa)(hb1:b<aa)(k:AW P N c Q (mN a b L)):AW P N c Q L:=AW.bS (ar.ke hb ha1 hb1) k
end
attribute [go_sem] mN sG
open Go Go.RowKit
theorem Cd(k:Nat):bR .shr (iv k) (.int .u64 7)=some (iv ((k / 128:Nat):Int)):=by
 show some (Value.int .i64 ((k:Int).fdiv 128))=_;rw[Int.fdiv_eq_ediv_of_nonneg _ (by omega)];congr 2
theorem zl(k:Nat)(h:k<2 ^ 63):bR .quo (iv k) (iv 128)=some (iv ((k / 128:Nat):Int)):=by
 show some (Value.int .i64 (IntKind.i64.wrap ((k:Int).tdiv 128)))=_;have:((k:Int).tdiv 128)=((k / 128:Nat):Int):=by rw[Int.tdiv_eq_ediv_of_nonneg (by omega)];omega
 rw[this,IntWalk.i64_in _ (by omega)]
theorem zN(k:Nat):bR .rem (iv k) (iv 128)=some (iv ((k%128:Nat):Int)):=by
 show some (Value.int .i64 ((k:Int).tmod 128))=_;have:((k:Int).tmod 128)=((k%128:Nat):Int):=by rw[Int.tmod_eq_emod_of_nonneg (by omega)];omega
 rw[this]
theorem nX{n:Nat}(h:n<256):Value.int .u8 (IntKind.u8.wrap (n:Int))=bv (UInt8.ofNat n):=by
 rw[pz,IntWalk.u8_in _ (by omega)];congr 1;omega
theorem zH{n:Nat}{x:Int}(h:n<256)(e:x=n):Value.int .u8 (IntKind.u8.wrap x)=bv (UInt8.ofNat n):=by subst e;exact nX h
theorem lV{l:List UInt8}{b:UInt8}{v:Value}(h:v=bv b){g:Nat→Nat→T}(hg:g 0 0= .v v):(oq (En.n UInt8) l.length (λk c=>(En.cs (l.getD k En.ab)).getD c .j) 1 λk c=>jg (g k c)).bb (tr (l++[b])):=
 wY λc hc=>by
  match c,hc with
  | 0,_=>rw[hg,h];rfl
  | c+1,hc=>exact absurd hc (by simp[En.n])
open Go Go.RowKit
section
variable{P:Program}{N:Nat}{L:List E}{dst:Option Tmp}{ty:TypeId}{pos:String}{af:Array Edge}{g:Option (Nat×Bool)}
def DS(L:List E)(d:Nat):Option Operand→Nat→Prop
 | none,k=>k=d
 | some x,k=>∃kd j,cp L x= .v (.int kd j)∧j=(k:Int)
theorem yU{d k:Nat}{o:Option Operand}(h:DS L d o k){H:Nat→Value}{w:World}{a:Act}(he:∀y,VR (aW L) H w (cp L y) (Act.eval a y)):(o.map a.eval=none∧k=d)∨∃kd,o.map a.eval=some (.int kd (k:Int)):=by
 cases o with
 | none=>exact .inl ⟨rfl,h⟩
 | some x=>
  obtain⟨kd,j,h1,h2⟩:=h;have h3:=he x;rw[h1]at h3;simp only[VR]at h3;exact .inr ⟨kd,by rw[Option.map_some,h3,h2]⟩
theorem pE{w:World}{kd:IntKind}{k y:Nat}{code:BoundsCode}(h:k≤y):(Instr.sliceBound (.int kd (k:Int)) y code).run P w= .ok k w:=by
 have h2:(0:Int)≤k∧(k:Int)≤y:=by omega
 simp[Instr.sliceBound,asIntOf,h2,go_sem]
theorem nB{w:World}{b:Bool}{len cap lo hi:Nat}{ol oh:Option Value}(hl:(ol=none∧lo=0)∨∃kd,ol=some (.int kd (lo:Int)))(hh:(oh=none∧hi=len)∨∃kd,oh=some (.int kd (hi:Int)))(h1:lo≤hi)(h2:hi≤cap):(Instr.sliceBounds b len cap ol oh none).run P w= .ok (lo,hi,cap) w:=by
 have hb:= @pE P;rcases hl with⟨rfl,rfl⟩|⟨kl,rfl⟩<;>rcases hh with⟨rfl,rfl⟩|⟨kh,rfl⟩<;>simp[Instr.sliceBounds,go_sem,hb,h1,h2]
theorem vU{w:World}{t e:TypeId}{ad:Option Addr}{len cap lo hi n:Nat}{ol oh:Option Value}(h:P.underlying t=some (.slice e))(hz:(sizeOf e).run P w= .ok n w)(hb:(Instr.sliceBounds true len cap ol oh none).run P w= .ok (lo,hi,cap) w):(Instr.slice t (.slice ad len cap) ol oh none).run P w= .ok (.slice (if cap=lo then ad else ad.map (·.add (lo*n))) (hi-lo) (cap-lo)) w:=by
 simp only[Instr.slice,Sem.run_bind,run_underlying h,Result.andThen,hb,hz,Sem.run_pure]
theorem Qt.An{t e:TypeId}{x:Operand}{ol oh:Option Operand}{id:Nat}{q:bF}{n len lo hi:Nat}{f:Nat→Nat→T}(hx:cp L x= .h id q){m:M}{T0:T}(hR:bZ L id=some (m,T0))(hT:T0.at q= .s n len f)(hS:Sl P t e)(hZ:Sz P e n)(hn:0<n)(hl:DS L 0 ol lo)(hh:DS L len oh hi)(h1:lo≤hi)(h2:hi≤len):Qt P ⟨dst,.slice t x ol oh none,ty,pos,af,g⟩ L (.a id q n lo (hi-lo)):=
 (λH w a he ⟨val,G,hr⟩=>by
  have h:=he x;rw[hx]at h;obtain⟨m',t',g1,g2,g3,g4⟩:=h;obtain⟨rfl,rfl⟩:=hr.one _ _ _ _ _ g1 (aq hR);obtain⟨hv,F,e1,e2⟩:=hr.node g1 g2;rw[hT]at e2;obtain⟨ad,cap,e3,e4,e5⟩:=e2.DV;rw[e1]at g4;cases g4;have hb:=nB (P:=P) (w:=w) (b:=true) (len:=len) (cap:=cap) (yU hl he) (yU hh he) h1 (by omega);refine⟨.slice (if cap=lo then ad else ad.map (·.add (lo*n))) (hi-lo) (cap-lo),?_,m',t',g1,g2,⟨len,f,hT,by omega⟩,_,e1,_,_,rfl,by omega,by omega,λhp=>?_,⟨ad,len,by rw[e3,Nat.add_sub_cancel' (by omega)]⟩,λb off l0 c0 e hp=>?_⟩
  ·have hu:P.underlying t=some (.slice e):=hS;have hq:=vU (ad:=ad) hu (hZ w) hb;have hq2:=run_underlying (P:=P) (w:=w) hu;simp only[execOp,e3,Instr.sliceAt,Option.map_none]
   generalize Instr.slice t (.slice ad len cap) (Option.map a.eval ol) (Option.map a.eval oh) none=B at hq ⊢
   simp[go_sem,hq,hq2]
  ·rw[e3];have hne:¬cap=lo:=by omega
   rw[if_neg hne];obtain⟨b,o,cap',off,e6,e7,e8,e9⟩:=e2.row (k:=lo) (c:=0) (by omega) hn;rw[e3]at e6;cases e6;simp[gU,Addr.add]
  ·rw[e3]at e;cases e;rw[if_neg (by omega)];simp[Addr.add])
end
end Go.Proofs.YtekcnnngjoonbaaGreat.VM
