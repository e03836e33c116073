/- Rules to walk by. No conditions. -/
import Derived.Lib.Hide
import Derived.Lib.SliceRun
import Derived.Sort.Grow
import Derived.Sort.Row
import Derived.Test.YtekcnnngjoonbaaGreatWb
set_option linter.all false
namespace Go.Proofs.YtekcnnngjoonbaaGreat.VM
open List Nat
open Go Go.RowKit
section
variable{L:List E}{val:Nat→Value}{H:Nat→Value}{G:Nat→FP}{w w':World}{P:Program}{N:Nat}{cx:Cx}{a:Act}
theorem yM(hr:Rp L val H G w){z:T}{x:X}{v:Value}(hz:gZ [z]=true)(h:VR (aW L) H w x v)(hx:x.one=true):dA w (eB [] z x).1 (λ_ _=>False) v∧(eB [] z x).2=none:=by
 have hj:dA w .j (λ_ _=>False) v:=⟨hr.ml x v h hx,λ_ _ h=>h⟩
 cases x with
 | v y=>
  have hv:v=y:=h;subst hv;simp only[eB];split
  ·rename_i n l f;split
   ·exact⟨ZC.own (t:= .s n 0 λ_ _=> .j) ⟨by simpa [gZ]using hz,rfl,rfl⟩,rfl⟩
   ·exact⟨⟨rfl,hx,λ_ _ h=>h⟩,rfl⟩
  ·exact⟨⟨rfl,hx,λ_ _ h=>h⟩,rfl⟩
 | h id q=>
  simp only[eB];split
  ·simp only[b7];exact⟨hj,trivial⟩
  ·exact⟨hj,rfl⟩
 | _=>exact⟨hj,rfl⟩
theorem oG(hr:Rp L val H G w):∀{zs:List T} {xs:List X} {vs:List Value},zs.length=xs.length→gZ zs=true→dj (aW L) H w xs vs→xs.all X.one=true→
  (eF [] zs xs).length=xs.length∧∀i v,vs[i]? =some v→dA w ((eF [] zs xs).getD i (.j,none)).1 (λ_ _=>False) v∧((eF [] zs xs).getD i (.j,none)).2=none
 | [],[],[],_,_,_,_=>⟨rfl,λi v h=>by simp at h⟩
 | z :: zs,x :: xs,v :: vs,hl,hz,⟨h1,h2⟩,ho=>by
  simp only[all_cons,Bool.and_eq_true]at ho;have hz2:gZ [z]=true∧gZ zs=true:=by
   cases z<;>simp[gZ]at hz ⊢ <;>exact hz
  obtain⟨g1,g2⟩:=oG hr (zs:=zs) (by simpa using hl) hz2.2 h2 ho.2;refine⟨by simp[eF,g1],λi u hu=>?_⟩;cases i with
  | zero=>
   simp only[getElem?_cons_zero,Option.some.injEq]at hu;subst hu;exact yM hr hz2.1 h1 ho.1
  | succ i=>exact g2 i u (by simpa using hu)
 | [],_ :: _,_,hl,_,_,_=>by simp at hl
 | _ :: _,[],_,hl,_,_,_=>by simp at hl
 | _ :: _,_ :: _,[],_,_,h,_=>h.elim
 | [],[],_ :: _,_,_,h,_=>h.elim
end

section
variable{P:Program}{N:Nat}{L:List E}{dst:Option Tmp}{ty:TypeId}{pos:String}{af:Array Edge}{g:Option (Nat×Bool)}{d:Nat}
theorem aK.yT{t:TypeId}{x:Operand}{zt:List T}[hT:ec P t zt](hd:dst=some d)(hN:d<N)(hb:d<aa)(hx:(cw L x).flat=true)(hl:(cw L x).leaves.length=zt.length)(hz:gZ zt=true)(ho:(cw L x).leaves.all X.one=true):aK P N ⟨dst, .box t x,ty,pos,af,g⟩ L
   (iR (eY (cr L d)) d (eF [] zt (cw L x).leaves) (cw L x).leaves 0++cq (.rt d .box (lB zt.length 1 (eF [] zt (cw L x).leaves)) :: cr L d) d (.p d [] zt.length 0 0)):=
 aK.op (λcx a w hs=>by
  obtain⟨H,G,hr,hG⟩:=hs.rp;have hv:=(dC hr x).cells hr.ml hx;obtain⟨q1,q2⟩:=oG hr hl.symm hz hv ho;have hC:dK (λ_ _=>False) w (w.alloc (.cells (a.eval x).cells t)):=dK.alloc _ _ _;have hcs:(a.eval x).cells.size=zt.length:=by have:=hv.len;simp only[Array.length_toList]at this;omega
  have hold:∀id m t,aW L id m t→∀x y,G id x y→x<w.heap.size:=λid m t h x y hg=>by
   by_cases hm:m= .ro
   ·subst hm;exact hr.gv id t h x y hg
   ·exact(hr.own id m t h hm).nC x y hg
  have g1:=dA.alloc (w:=w) (n:=zt.length) (len:=1) (cap:=1) (f:=λk c=>((eF [] zt (cw L x).leaves).getD (k*zt.length+c) (.j,none)).1) hT.pos (Nat.le_refl _) (by simp[maxLen]) (cs:=(a.eval x).cells) (e:=t) (by omega) (λ_ _=>λ_ _=>False) (λk c hk hc=>by
   have hlt:k*zt.length+c<(a.eval x).cells.size:=by
    rw[show k=0 by omega];omega
   exact⟨(a.eval x).cells[k*zt.length+c],by simp[hlt],(q2 _ _ (by simp[hlt])).1⟩) (λ_ _ _ _ _ _ _ _ _ _ _ h=>h.elim)
  generalize hF:(λa o=>(0<1∧gC w.heap.size a o)∨∃k c,k<1∧c<zt.length∧False)=F at g1
  have hFn:∀a o,F a o→a=w.heap.size:=λa o h=>by
   rw[←hF]at h;rcases h with⟨_,h⟩|⟨_,_,_,_,h⟩
   ·exact h
   ·exact h.elim
  have g2:∀id m t,aW L id m t→∀a o,G id a o→F a o→False:=λid m t h a o hg hf=>by
   have:=hold id m t h a o hg;have:=hFn a o hf;omega
  have g3:∀a o,F a o→cx.S0 a o∨cx.w0.heap.size≤a:=λa o hf=>by
   have:=hFn a o hf;have:=hs.gh.size;exact .inr (by omega)
  refine⟨.pointer (some ⟨w.heap.size,0,none⟩),w.alloc (.cells (a.eval x).cells t),jW (by simp[Instr.box,newVar,newRow]),?_⟩;rw[hd]
  generalize hss:eF [] zt (cw L x).leaves=ss at*
  have h1:=(hr.gh hC λ_ _ _ _ _ _ _ h=>h).new d (m:= .box) (by simp) g1 (λ_=>⟨_,_,rfl⟩) (λid m t _ h=>g2 id m t h);have hbox:=VR.box (o:=w.heap.size) (R:=aW (.rt d .box (lB zt.length 1 ss) :: cr L d)) (H:=bq H d (.slice (some ⟨w.heap.size,0,none⟩) 1 1)) (w:=w.alloc (.cells (a.eval x).cells t)) (m:= .box) (mem_cons_self ..) hT.pos (by simp[bq]);have h2:=(h1.put (d:=d) hbox).val λt=>(Act.iW (a:=a) (v:= .pointer (some ⟨w.heap.size,0,none⟩)) (Nat.lt_of_lt_of_le hN hs.kL) t).symm;have hA:∀e∈iR (eY (cr L d)) d ss (cw L x).leaves 0,∃id c x,e=E.al id c x:=λe he=>by
   obtain⟨k,y,h,_⟩:=jr he;exact⟨_,_,_,h⟩
  have hsat:=hs.new (cx:=cx) hr hG hC hN hb (m:= .box) (by simp) g1 (λ_=>⟨_,_,rfl⟩) (λid m t _ h=>g2 id m t h) g3 hbox;obtain⟨_,_,hs3,_⟩:=hsat;refine⟨by simpa [Go.Act.put]using hs.kL,by simpa [Go.Act.put]using hs.kP,hs3,bq H d (.slice (some ⟨w.heap.size,0,none⟩) 1 1),bq G d F,h2.By λe he=>?_,?_⟩
  ·obtain⟨k,y,rfl,hk1,hk2,hk3⟩:=jr he;refine⟨d,0+k,y,rfl,zt.length,_,by rw[cu];exact mem_cons_self .., ?_,?_⟩
   ·have hlt:k<(cw L x).leaves.length:=by
     rcases Nat.lt_or_ge k (cw L x).leaves.length with h|h
     ·exact h
     ·rw[getElem?_eq_none h]at hk1;cases hk1
    omega
   ·have hlt:k<(a.eval x).cells.size:=by
     have h6:=hv.len;rcases Nat.lt_or_ge k (cw L x).leaves.length with h|h
     ·simp only[Array.length_toList]at h6;omega
     ·rw[getElem?_eq_none h]at hk1;cases hk1
    have hcell:(w.alloc (.cells (a.eval x).cells t)).cell? ⟨w.heap.size,k,none⟩=some (a.eval x).cells[k]:=by
     have hbk:(w.alloc (.cells (a.eval x).cells t)).heap[w.heap.size]? =some (.cells (a.eval x).cells t (0,0)):=Array.getElem?_push_size;simp only[World.cell?,hbk,Option.isSome_none,Bool.false_eq_true,if_false];exact Array.getElem?_eq_getElem hlt
    refine⟨⟨w.heap.size,k,none⟩,(a.eval x).cells[k],by simp[bq,hL],hcell,?_⟩;have hvk:=hv.nth.2 k;rw[getD_eq_getElem?_getD,hk1]at hvk;have:((a.eval x).cells.toList.getD k undef)=(a.eval x).cells[k]:=by simp[hlt]
    rw[this]at hvk;simp only[Option.getD_some]at hvk;rw[cu];refine VR.leaves (C:=λx=>x.kK (eY (cr L d))=true) (λz u hl' hz' hu=>?_) (X.nq hk3) (VR.gh hr hC (λ_ _ _ _ _ _ _ h=>h) hvk);have hin:∀id,(eY (cr L d)).contains id=true→∀m t,aW L id m t→aW (.rt d .box (lB zt.length 1 ss) :: cr L d) id m t∧bq H d (.slice (some ⟨w.heap.size,0,none⟩) 1 1) id=H id:=λid hi m t hh=>by
     obtain⟨m',t',h'⟩:=en.1 (by simpa using hi);obtain⟨h8,h9⟩:=bE.1 h';obtain⟨rfl,rfl⟩:=hr.one _ _ _ _ _ hh h8;exact⟨mem_cons_of_mem _ h',by simp[bq,h9]⟩
    cases z with
    | p id q n k c=>obtain⟨m,t,h1,h2⟩:=hu;have:=hin id (by simpa [X.kK]using hz') _ _ h1;exact⟨m,t,this.1,by rw[this.2];exact h2⟩
    | h id q=>obtain⟨m,t,h1,h2⟩:=hu;have:=hin id (by simpa [X.kK]using hz') _ _ h1;exact⟨m,t,this.1,by rw[this.2];exact h2⟩
    | a id q n lo len=>obtain⟨m,t,h1,h2⟩:=hu;have:=hin id (by simpa [X.kK]using hz') _ _ h1;exact⟨m,t,this.1,by rw[this.2];exact h2⟩
    | _=>exact hl'.elim
  ·rw[vq hA,cu];refine⟨λid m' t' k1 k2 x y k3=>?_,λid m' t' k0 k1=>?_⟩
   ·by_cases e:id=d
    ·subst e;simp only[bq,if_true]at k3;exact g3 x y k3
    ·simp only[bq,e,if_false]at k3;rcases List.mem_cons.1 k1 with k1|k1
     ·cases k1;exact absurd rfl e
     ·exact hG.1 id m' t' (bE.1 k1).1 k2 x y k3
   ·have e:id≠d:=by omega
    simp only[bq,e,if_false];rcases List.mem_cons.1 k1 with k1|k1
    ·cases k1;exact absurd rfl e
    ·exact hG.2 id m' t' k0 (bE.1 k1).1)
end

def X.er(x:X):X:=if x.v8 then .c else x
def AD(L:List E)(id c:Nat)(x:X):List E:=if x.v8&&x.kK (eY L)then .al id c x :: L else L
def rW(L:List E)(id:Nat)(t:T)(n c:Nat)(z:T)(x:X):List E:=AD (yg L id t [] n 0 c (eB [] z x.er)) id c x
def ze(id:Nat)(n c:Nat)(z:T)(x:X)(xs:List X):Bool:=x.one&&gZ [z]&&(x :: xs).all (λy=> !X.qN id [(n,0,c)] y)
def iG(id:Nat)(n:Nat):Nat→List T→List X→List E→T→Option (List E)
 | c,z :: zs,x :: xs,L,t=>
  if ze id n c z x xs=true then
   iG id n (c+1) zs xs (rW L id t n c z x) (t.put [] 0 c (eB [] z x.er).1)
  else none
 | _,[],[],L,_=>some L
 | _,_,_,_,_=>none
theorem xO(L:List E)(z:T)(x:X):eB L z x.er=eB [] z x.er:=by
 unfold X.er;split
 ·rfl
 ·rename_i h;cases x<;>simp[X.v8]at h<;>rfl
theorem vL(z:T)(x:X):(eB [] z x.er).2=none:=by
 unfold X.er;split
 ·rfl
 ·rename_i h;cases x<;>simp[X.v8]at h<;>simp only[eB]
  split
  ·split<;>rfl
  ·rfl
section
variable{L:List E}{val:Nat→Value}{H:Nat→Value}{G:Nat→FP}{w w':World}{cx:Cx}{P:Program}
theorem vF{id c:Nat}{x:X}:aW (AD L id c x)=aW L:=by
 unfold AD;split
 ·funext i m t;simp[aW]
 ·rfl
theorem AV(hr:Rp L val H G w){x:X}{v:Value}(h:VR (aW L) H w x v)(hx:x.one=true):VR (aW L) H w x.er v:=by
 unfold X.er;split
 ·exact hr.ml x v h hx
 ·exact h
theorem zM{x:X}(hx:x.one=true):x.er.one=true:=by
 unfold X.er;split
 ·rfl
 ·exact hx
theorem lU{id:Nat}{n b o:Nat}:∀(zs:List T) (xs:List X) (vs:List Value) (c:Nat) (L:List E) (t:T) (G:Nat→FP) (w:World) {L':List E},Rp L val H G w→Good cx L H G→dK cx.S0 cx.w0 w→aW L id .box t→(∃f,t= .s n 1 f)→c+zs.length≤n→
  VR (aW L) H w (.p id [] n 0 0) (.pointer (some ⟨b,o,none⟩))→dj (aW L) H w xs vs→iG id n c zs xs L t=some L'→
  ∃w' G',(storeCells ⟨b,o,none⟩ vs c).run P w= .ok () w'∧Rp L' val H G' w'∧Good cx L' H G'∧dK cx.S0 cx.w0 w'
 | [],[],[],c,L,t,G,w,L',hr,hG,hch,_,_,_,_,_,e=>by
  simp only[iG,Option.some.injEq]at e;subst e;exact⟨w,G,rfl,hr,hG,hch⟩
 | z :: zs,x :: xs,v :: vs,i,L,t,G,w,L',hr,hG,hch,hid,⟨f,ht⟩,hc,hp,⟨hv,hvs⟩,e=>by
  rw[iG]at e;split at e
  ·rename_i hcond;simp only[ze,Bool.and_eq_true,all_cons,Bool.not_eq_true']at hcond;obtain⟨⟨c1,c3⟩,c5,c4⟩:=hcond;simp only[length_cons]at hc;have hat:t.at []= .s n 1 f:=by rw[ht];simp[T.at]
   have hne:(eB L z x.er).2≠some id:=by rw[xO,vL];simp
   obtain⟨h',b',o',sz,G',e1,e2,e3,e4,e5,e6,e7,e8,e9⟩:=n8 hr hG hch (by simp) hid (q:=[]) (by simp[ck]) hat (k:=0) (by omega) (by omega:i<n) c3 (AV hr hv c1) (zM c1) hne;rw[xO]at e5 e6 e8 e9;have hadr:b'=b∧o'=o+i:=by
    obtain⟨m1,t1,g1,g2,⟨l1,f1,g3,g4,g5⟩,hv',A,g6,g7,g8⟩:=hp;rw[e1]at g6;cases g6;obtain⟨a0,l0,c0,k1,k2⟩:=eD g7;cases g8;rw[k1]at e2;simp only[hL,Option.some.injEq,Addr.mk.injEq]at e2;simp only[Addr.mk.injEq]at k2;omega
   obtain⟨rfl,rfl⟩:=hadr;have hmn:∀y,w7 (eB [] z x.er).2 y=false:=λy=>by rw[vL];rfl
   have hcell:(w.setCell ⟨b',o+i,none⟩ v).cell? ⟨b',o+i,none⟩=some v:=by
    obtain⟨y,hy⟩:=Option.isSome_iff_exists.1 (e3.cell e4);exact World.cell?_setCell_same w _ v hy
   have hAl:Rp (rW L id t n i z x) val H G' (w.setCell ⟨b',o+i,none⟩ v):=by
    unfold rW AD;split
    ·refine e5.By (A:=[.al id i x]) λee he=>?_;rw[mem_singleton]at he;subst he;refine⟨id,i,x,rfl,n,mU f 0 i (eB [] z x.er).1,?_,by omega,⟨b',o+i,none⟩,v,?_,hcell,e9 (hmn x) (by simpa using c5) hv⟩
     ·rw[ht]at e8 ⊢;exact e8
     ·simp only[VM.hd,Option.some.injEq]at e1;rw[e1];obtain⟨a0,l0,c0,k1,k2⟩:=eD e2;rw[k1,k2];simp[hL]
    ·exact e5
   have hGl:Good cx (rW L id t n i z x) H G':=by
    unfold Good rW;rw[vF];exact e6
   have hrt:aW (rW L id t n i z x)=aW (yg L id t [] n 0 i (eB [] z x.er)):=vF;have hp':=e9 (y:= .p id [] n 0 0) (hmn _) (by simp[X.qN,pu]) hp;have hvs':dj (aW (rW L id t n i z x)) H (w.setCell ⟨b',o+i,none⟩ v) xs vs:=by
    rw[hrt];clear e
    induction xs generalizing vs with
    | nil=>cases vs with
     | nil=>trivial
     | cons _ _=>exact hvs.elim
    | cons y ys ih=>
     cases vs with
     | nil=>exact hvs.elim
     | cons u us=>
      simp only[all_cons,Bool.and_eq_true,Bool.not_eq_true']at c4;exact⟨e9 (hmn _) (by simpa using c4.1) hvs.1,ih us hvs.2 c4.2⟩
   obtain⟨w',G2,r1,r2,r3,r4⟩:=lU zs xs vs (i+1) _ _ G' _ hAl hGl e7 (by rw[hrt];exact e8) ⟨_,by rw[ht];simp only[T.put];rfl⟩ (by omega) (by rw[hrt];exact hp') hvs' e;refine⟨w',G2,?_,r2,r3,r4⟩;have hone:=hr.ml x v hv c1;have hs:(store ((⟨b',o,none⟩:Addr).add i) v).run P w= .ok () (w.setCell ⟨b',o+i,none⟩ v):=by
    rw[Addr.add_lit];exact n5 e3 e4 hone
   simp only[storeCells,Sem.run_bind,hs,Result.andThen];exact r1
  ·exact absurd e (by simp)
 | [],[],_ :: _,_,_,_,_,_,_,_,_,_,_,_,_,_,h,_=>h.elim
 | _,_ :: _,[],_,_,_,_,_,_,_,_,_,_,_,_,_,h,_=>h.elim
 | [],_ :: _,_,_,_,_,_,_,_,_,_,_,_,_,_,_,_,e=>by simp[iG]at e
 | _ :: _,[],_,_,_,_,_,_,_,_,_,_,_,_,_,_,_,e=>by simp[iG]at e
end
section
variable{P:Program}{N:Nat}{L:List E}{dst:Option Tmp}{ty:TypeId}{pos:String}{af:Array Edge}{g:Option (Nat×Bool)}{d:Nat}
theorem aK.fI{t:TypeId}{x y:Operand}{zt:List T}[hTy:ec P t zt]{id:Nat}{n c:Nat}{f:Nat→Nat→T}{L':List E}(hx:cw L x= .p id [] n 0 c)(hR:b7 L id=some (.box, .s n 1 f))
  (hf:(cw L y).flat=true) (hl:(cw L y).leaves.length=zt.length) (hc:c+zt.length≤n) (hst:iG id n c zt (cw L y).leaves L (.s n 1 f)=some L'):aK P N ⟨none, .store t x y,ty,pos,af,g⟩ L L':=
 aK.BO (λcx a w hs=>by
  obtain⟨H,G,hr,hG⟩:=hs.rp;have hv:=dC hr x;rw[hx]at hv;obtain⟨m',t',g1,g2,⟨l',f',g3,g4,g5⟩,hv',A,g6,g7,g8⟩:=hv;obtain⟨rfl,rfl⟩:=hr.one _ _ _ _ _ g1 (aq hR);have hy:=(dC hr y).cells hr.ml hf;have hyl:=hy.len;simp only[Array.length_toList]at hyl;obtain⟨a0,l0,c0,k1,k2⟩:=eD g7;have hp:VR (aW L) H w (.p id [] n 0 0) (.pointer (some ⟨a0.block,a0.off,none⟩)):=
   ⟨.box,_,g1,g2,⟨1,f,by simp[T.at],by omega,by omega⟩,hv',_,g6,by rw[k1];simp[hL],rfl⟩
  obtain⟨w',G',r1,r2,r3,r4⟩:=lU (P:=P) (b:=a0.block) (o:=a0.off) zt _ _ c L _ G w hr hG hs.gh g1 ⟨f,rfl⟩ hc hp hy hst;refine⟨w',?_,⟨hs.kL,hs.kP,r4,H,G',r2,r3⟩⟩;have hsz:(a.eval y).cells.size=zt.length:=by omega
  have hA:∀(vs:List Value) (i:Nat) (w:World),(storeCells A vs i).run P w=(storeCells ⟨a0.block,a0.off,none⟩ vs (c+i)).run P w:=by
   intro vs
   induction vs with
   | nil=>intro i w;rfl
   | cons u us ih=>
    intro i w;have hadd:A.add i=(⟨a0.block,a0.off,none⟩:Addr).add (c+i):=by
     rw[k2,Addr.add_lit,Addr.add_lit];congr 1;omega
    simp only[storeCells,Sem.run_bind,hadd];congr 1;funext u w;rw[ih (i+1) w];congr 2
  have:=hA (a.eval y).cells.toList 0 w;rw[Nat.add_zero,r1]at this;simp[execOp,g8,Instr.storeAt,Instr.sureAddr,storeVar,hTy.size w,hsz,this])
end
open Go Go.RowKit
def T.set(t:T)(q:bJ)(y:T):T:=
  match q with
  | []=>y
  | (_,k0,c0) :: q'=>match t with
    | .s n len f=> .s n len (mU f k0 c0 ((f k0 c0).set q' y))
    | t=>t
def yq(q r:bJ):Prop:=∃a s,r=q++a :: s

theorem dA.sub{w:World}{n len:Nat}{f:Nat→Nat→T}{F:FP}{h:Value}(hO:dA w (.s n len f) F h){k c:Nat}(hk:k<len)(hc:c<n):
  ∃(b o:Nat) (x:Value) (Gx:FP),hL h n k c=some ⟨b,o,none⟩∧w.cell? ⟨b,o,none⟩=some x∧dA w (f k c) Gx x∧F b o∧(∀a p,Gx a p→F a p)∧(∀k' c' b' o',k'<len→c'<n→hL h n k' c'=some ⟨b',o',none⟩→¬Gx b' o')∧
   ∀{w':World} {S:FP} {y:T} {Gy:FP},dK S w w'→(∀a p,F a p→S a p→Gx a p)→dA w' y Gy x→(∀a p,Gy a p→Gx a p∨¬F a p)→
    dA w' (.s n len (VM.mU f k c y)) (λa p=>(F a p∧¬Gx a p)∨Gy a p) h∧w'.cell? ⟨b,o,none⟩=some x∧
    ∀n' k' c' r,(k'≠k∨c'≠c)→ck (.s n len f) ((n',k',c') :: r)→hd w' h ((n',k',c') :: r)=hd w h ((n',k',c') :: r):=by
 obtain⟨hn,a,cap,h0,hl,hm,b,off,V,G,h1,h2,h3,h4,h5⟩:=hO;have hcap:0<cap:=by omega
 have hrow:∀k' c',k'<len→c'<n→gC b b (off+(k'*n+c')):=λ_ _ _ _=>rfl;obtain⟨ha,sz,hsz,hoff⟩:=h1 hcap;obtain⟨e1,e2⟩:=h2 k c hk hc;have hin:∀k' c',k'<len→c'<n→F b (off+(k'*n+c')):=λk' c' hk' hc'=>(h5 _ _).2 (.inl ⟨hcap,hrow k' c' hk' hc'⟩);have hsubF:∀k' c',k'<len→c'<n→∀x y,G k' c' x y→F x y:=λk' c' hk' hc' x y hG=>(h5 x y).2 (.inr ⟨k',c',hk',hc',hG⟩);refine⟨b,off+(k*n+c),V k c,G k c,?_,e1,e2,hin k c hk hc,hsubF k c hk hc,λk' c' b' o' hk' hc' ha' hG=>?_,?_⟩
 ·rw[h0,ha];rfl
 ·rw[h0,ha]at ha';simp only[hL,Option.some.injEq,Addr.mk.injEq]at ha';obtain⟨rfl,rfl,_⟩:=ha';exact h4 k c hk hc _ _ hG (hrow k' c' hk' hc')
 intro w' S y Gy hC hS hy hGy;have hcellAll:∀k' c',k'<len→c'<n→w'.cell? ⟨b,off+(k'*n+c'),none⟩=some (V k' c'):=λk' c' hk' hc'=>
  hC.cell (h2 k' c' hk' hc').1 λhs=>h4 k c hk hc _ _ (hS _ _ (hin k' c' hk' hc') hs) (hrow k' c' hk' hc')
 have hoth:∀k' c',(k'≠k∨c'≠c)→k'<len→c'<n→dA w' (f k' c') (G k' c') (V k' c'):=λk' c' hne hk' hc'=>
  (h2 k' c' hk' hc').2.frame hC λx y hG hs=>h3 k' c' k c hne hk' hc' hk hc x y hG (hS _ _ (hsubF k' c' hk' hc' x y hG) hs)
 refine⟨⟨hn,a,cap,h0,hl,hm,b,off,V,λk' c'=>if k'=k∧c'=c then Gy else G k' c',λ_=>⟨ha,sz,hsz.gh hC,hoff⟩,?_,?_,?_,?_⟩,hcellAll k c hk hc,?_⟩
 ·intro k' c' hk' hc';refine⟨hcellAll k' c' hk' hc',?_⟩
  by_cases he:k'=k∧c'=c
  ·obtain⟨rfl,rfl⟩:=he;simp only[and_self,if_true,VM.mU];exact hy
  ·simp only[VM.mU,he,if_false];exact hoth k' c' (by omega) hk' hc'
 ·intro k1 c1 k2 c2 hne hk1 hc1 hk2 hc2 x y g1 g2
  by_cases e1:k1=k∧c1=c
  ·have e2:¬(k2=k∧c2=c):=by omega
   simp only[e1,and_self,if_true]at g1;simp only[e2,if_false]at g2;rcases hGy x y g1 with h|h
   ·exact h3 k c k2 c2 (by omega) hk hc hk2 hc2 x y h g2
   ·exact h ((h5 x y).2 (.inr ⟨k2,c2,hk2,hc2,g2⟩))
  ·simp only[e1,if_false]at g1
   by_cases e2:k2=k∧c2=c
   ·simp only[e2,and_self,if_true]at g2;rcases hGy x y g2 with h|h
    ·exact h3 k c k1 c1 (by omega) hk hc hk1 hc1 x y h g1
    ·exact h ((h5 x y).2 (.inr ⟨k1,c1,hk1,hc1,g1⟩))
   ·simp only[e2,if_false]at g2;exact h3 k1 c1 k2 c2 hne hk1 hc1 hk2 hc2 x y g1 g2
 ·intro k' c' hk' hc' x y g hr
  by_cases e1:k'=k∧c'=c
  ·simp only[e1,and_self,if_true]at g;rcases hGy x y g with h|h
   ·exact h4 k c hk hc x y h hr
   ·exact h ((h5 x y).2 (.inl ⟨hcap,hr⟩))
  ·simp only[e1,if_false]at g;exact h4 k' c' hk' hc' x y g hr
 ·intro x y;constructor
  ·rintro (⟨hF,hG⟩|hG)
   ·rcases(h5 x y).1 hF with h|⟨k',c',hk',hc',h⟩
    ·exact .inl h
    ·refine .inr ⟨k',c',hk',hc',?_⟩;have e1:¬(k'=k∧c'=c):=by rintro ⟨rfl,rfl⟩;exact hG h
     simp only[e1,if_false];exact h
   ·exact .inr ⟨k,c,hk,hc,by simp only[and_self,if_true];exact hG⟩
  ·rintro (⟨h,hr⟩|⟨k',c',hk',hc',g⟩)
   ·exact .inl ⟨(h5 x y).2 (.inl ⟨h,hr⟩),λhG=>h4 k c hk hc x y hG hr⟩
   ·by_cases e1:k'=k∧c'=c
    ·simp only[e1,and_self,if_true]at g;exact .inr g
    ·simp only[e1,if_false]at g;exact .inl ⟨(h5 x y).2 (.inr ⟨k',c',hk',hc',g⟩),λhG=>h3 k' c' k c (by omega) hk' hc' hk hc x y g hG⟩
 ·intro n' k' c' r hne hq;obtain⟨hnn,hk',hc',hr⟩:=hq;subst hnn;rw[h0,ha];obtain⟨g3,g4⟩:=h2 k' c' hk' hc';simp only[hd,hL,hcellAll k' c' hk' hc',g3];exact jA hC g4.rd hr λx y hG hs=>h3 k' c' k c hne hk' hc' hk hc x y hG (hS _ _ (hsubF k' c' hk' hc' x y hG) hs)

theorem dA.AF{w:World}:∀{q:bJ} {t:T} {F:FP} {h:Value},dA w t F h→ck t q→
    ∃(h':Value) (Gx:FP),hd w h q=some h'∧dA w (t.at q) Gx h'∧(∀a p,Gx a p→F a p)∧(q≠[]→∀n len f,t= .s n len f→∀k c b o,k<len→c<n→hL h n k c=some ⟨b,o,none⟩→¬Gx b o)∧
      ∀{w':World} {S:FP} {y:T} {Gy:FP},dK S w w'→(∀a p,F a p→S a p→Gx a p)→dA w' y Gy h'→(∀a p,Gy a p→Gx a p∨¬F a p)→
        dA w' (t.set q y) (λa p=>(F a p∧¬Gx a p)∨Gy a p) h∧∀r,¬yq q r→ck t r→hd w' h r=hd w h r
  | [],t,F,h,hO,_=>⟨h,F,rfl,(by simpa only[T.at]using hO),λ_ _ h=>h,λh=>absurd rfl h,by
    intro w' S y Gy hC hS hy hG;refine⟨?_,λr hr hok=>?_⟩
    · simp only[T.set];refine hy.zw λa p=>?_;constructor
      · exact .inr
      · rintro (⟨h1,h2⟩|h1)
        · exact absurd h1 h2
        · exact h1
    · cases r with
      | nil=>rfl
      | cons a s=>exact absurd ⟨a,s,rfl⟩ hr⟩
  | (n0,k0,c0) :: q, .s n1 len1 f1,F,h,hO,⟨hnn,hk0,hc0,hq⟩=>by
    subst hnn;obtain⟨b1,o1,x1,G1,g1,g2,g3,g4,g5,g6,g7⟩:=hO.sub hk0 hc0;obtain⟨h',Gx,e1,e2,e3,_,e4⟩:=dA.AF g3 hq;refine⟨h',Gx,?_,by simpa only[T.at]using e2,λa p hG=>g5 a p (e3 a p hG),λ_ n len f ht k c b o hk hc ha hG=>?_,?_⟩
    rotate_left
    · cases ht;exact g6 k c b o hk hc ha (e3 b o hG)
    rotate_left
    · simp only[hd,g1,g2];exact e1
    intro w' S y Gy hC hS hy hG;obtain⟨k1,k2⟩:=e4 hC (λa p h1 h2=>hS a p (g5 a p h1) h2) hy λa p hGy=>(hG a p hGy).imp_right λhF hG1=>hF (g5 a p hG1);obtain⟨m1,m2,m3⟩:=g7 hC (λa p h1 h2=>e3 a p (hS a p h1 h2)) k1 (λa p hg=>by
      rcases hg with⟨h1,_⟩|h1
      · exact .inl h1
      · exact(hG a p h1).imp_left (e3 a p))
    refine⟨?_,λr hr hok=>?_⟩
    · simp only[T.set];refine m1.zw λa p=>?_;constructor
      · rintro (⟨hF,h1⟩|⟨h1,h2⟩|h1)
        · exact .inl ⟨hF,λhGx=>h1 (e3 a p hGx)⟩
        · exact .inl ⟨g5 a p h1,h2⟩
        · exact .inr h1
      · rintro (⟨hF,h1⟩|h1)
        · by_cases hG1:G1 a p
          · exact .inr (.inl ⟨hG1,h1⟩)
          · exact .inl ⟨hF,hG1⟩
        · exact .inr (.inr h1)
    · cases r with
      | nil=>rfl
      | cons a r=>
        obtain⟨n',k',c'⟩:=a
        by_cases e:k'=k0∧c'=c0
        · obtain⟨rfl,rfl⟩:=e;obtain⟨hnn,_,_,hok⟩:=hok;subst hnn;simp only[hd,g1,g2,m2];exact k2 r (λ⟨a,s,hs⟩=>hr ⟨a,s,by rw[hs];rfl⟩) hok
        · exact m3 n' k' c' r (by omega) hok
  | _ :: _, .v _,_,_,_,hq=>hq.elim
  | _ :: _, .j,_,_,_,hq=>hq.elim

theorem wO:∀{q:bJ} {t:T} {y:T} {r:bJ},ck t q→¬yq q r→ck t r→ck (t.set q y) r∧(r=q∧(t.set q y).at r=y∨r≠q∧∀{n len:Nat} {f:Nat→Nat→T},t.at r= .s n len f→∃f',(t.set q y).at r= .s n len f')
  | [],t,y,[],_,_,_=>⟨by simp[ck], .inl ⟨rfl,by simp[T.at,T.set]⟩⟩
  | [],t,y,a :: s,_,h,_=>absurd ⟨a,s,rfl⟩ h
  | (n0,k0,c0) :: q, .s n1 l1 f1,y,[],_,_,_=>⟨by simp[ck], .inr ⟨by simp,λ{n len f} h=>by
    simp only[T.at,T.set]at h ⊢;cases h;exact⟨_,rfl⟩⟩⟩
  | (n0,k0,c0) :: q, .s n1 l1 f1,y,(n',k',c') :: r,hq0,h,hq=>by
    obtain⟨h1,h2,h3,h4⟩:=hq;obtain⟨e1,_,_,e4⟩:=hq0;simp only[T.set,ck,T.at]
    by_cases e:k'=k0∧c'=c0
    · obtain⟨rfl,rfl⟩:=e;simp only[VM.mU,and_self,if_true];obtain⟨g1,g2⟩:=wO (y:=y) e4 (λ⟨a,s,hs⟩=>h ⟨a,s,by rw[hs,h1,e1];rfl⟩) h4;refine⟨⟨h1,h2,h3,g1⟩,?_⟩;rcases g2 with⟨g2,g3⟩|⟨g2,g3⟩
      · exact .inl ⟨by rw[g2,h1,e1],g3⟩
      · exact .inr ⟨λhh=>g2 (by simpa using(List.cons.inj hh).2),g3⟩
    · simp only[VM.mU,e,if_false];exact⟨⟨h1,h2,h3,h4⟩, .inr ⟨λhh=>e (by have:=(List.cons.inj hh).1;simp only[Prod.mk.injEq]at this;exact this.2),λh=>⟨_,h⟩⟩⟩
  | _ :: _, .v _,_,[],hq,_,_=>hq.elim
  | _ :: _, .j,_,[],hq,_,_=>hq.elim
  | _ :: _, .v _,_,_ :: _,hq,_,_=>hq.elim
  | _ :: _, .j,_,_ :: _,hq,_,_=>hq.elim
theorem nD:∀{q s:bJ},pu q (q++s)=true
  | [],_=>rfl
  | (a,b,d) :: q,s=>by simp[pu,nD (q:=q)]
open Go Go.RowKit

abbrev eL:=Nat×Nat×bJ×T
def T.tw:T→Bool
 | .s .. =>true
 | _=>false
def T.Al:T→Bool
 | .j=>true
 | _=>false
theorem T.qy:∀{t:T},t.tw=true→∃n len f,t= .s n len f
 | .s n len f,_=>⟨n,len,f,rfl⟩
 | .v _,h=>by cases h
 | .j,h=>by cases h
/- arguments handed over: each header's node under a number of its own -/
mutual
def wX(L:List E):X→Nat→X×List eL×Nat
 | .h id q,n=>match b7 L id with
  | some (_,t)=>if T.tw (t.at q)=true then(.h n [],[(n,id,q,t.at q)],n+1)else(.j,[],n)
  | none=>(.j,[],n)
 | .p id q w k c,n=>match b7 L id with
  | some (_,t)=>if T.tw (t.at q)=true then(.p n [] w k c,[(n,id,q,t.at q)],n+1)else(.j,[],n)
  | none=>(.j,[],n)
 | .g xs,n=>let (ys,r,m):=yc L xs n;(.g ys,r,m)
 | .v x,n=>(.v x,[],n)
 | .c,n=>(.c,[],n)
 | .f f [],n=>(.f f [],[],n)
 | _,n=>(.j,[],n)
def yc(L:List E):List X→Nat→List X×List eL×Nat
 | [],n=>([],[],n)
 | x :: xs,n=>let (y,r,m):=wX L x n;let (ys,rs,m'):=yc L xs m;(y :: ys,r++rs,m')
end
def dz:List (Nat×T)→Nat→Option T
  | [],_=>none
  | (i,y) :: r,n=>if beq i n then some y else dz r n
def kX(Ws:List (Nat×T)):List eL→List E
  | []=>[]
  | (n,_,_,t) :: r=> .rt n (match dz Ws n with|some _=> .row|none=> .ro) t :: kX Ws r
def eR(Ws:List (Nat×T)):List eL→Nat→Option (bJ×T)
  | [],_=>none
  | (n,i,q,_) :: r,id=>match dz Ws n with
    | some y=>if beq i id then some (q,y)else eR Ws r id
    | none=>eR Ws r id
def yF(L:List E)(id:Nat)(q:bJ)(y:T):Bool:=match b7 L id with
 | some (.row,_)=>true
 | some (.box,_)=>(match q with| []=>(match y with| .s _ l _=>beq l 1|_=>false)|_=>true)
 | _=>false
def Bh(L:List E)(Ws:List (Nat×T)):List eL→Bool
  | []=>true
  | (n,i,q,_) :: r=>(match dz Ws n with
      | some y=>(T.tw y || T.Al y)&&yF L i q y&&r.all λe=> !beq i e.2.1
      | none=>r.all λe=>(match dz Ws e.1 with|some _=> !beq i e.2.1|none=>true))&&Bh L Ws r
def ke(es:List eL)(Ws:List (Nat×T))(id:Nat)(r:bJ):Bool:=match eR Ws es id with
 | some (q,_)=> !pu q r
 | none=>true
def p_(es:List eL)(Ws:List (Nat×T))(id:Nat)(r:bJ)(n k c:Nat):Bool:=match eR Ws es id with
 | some (q, .s n' l' _)=>beq r.length q.length&&(beq n' n&&(blt k l'&&blt c n))
 | some _=>false
 | none=>true
mutual
def ju(es:List eL)(Ws:List (Nat×T)):X→Bool
  | .p id q n k c=>ke es Ws id q || p_ es Ws id q n k c
  | .h id r=>ke es Ws id r || (match eR Ws es id with|some (q,y)=>beq r.length q.length&&T.tw y|none=>true)
  | .a id q .. =>ke es Ws id q
  | .g xs=>lg es Ws xs
  | .t xs=>lg es Ws xs
  | .f _ xs=>lg es Ws xs
  | _=>true
def lg(es:List eL)(Ws:List (Nat×T)):List X→Bool
  | []=>true
  | x :: xs=>ju es Ws x&&lg es Ws xs
end
def jf(es:List eL)(Ws:List (Nat×T))(id:Nat)(t:T):T:=match eR Ws es id with
 | some (q,y)=>t.set q y
 | none=>t
def dZ(es:List eL)(Ws:List (Nat×T)):List E→List E
 | []=>[]
 | .sl s x :: L=>if ju es Ws x then .sl s x :: dZ es Ws L else dZ es Ws L
 | .rt i m t :: L=> .rt i m (jf es Ws i t) :: dZ es Ws L
 | .al i c x :: L=>if ju es Ws x&&ke es Ws i [(0,0,c)]then .al i c x :: dZ es Ws L else dZ es Ws L
theorem jv{es:List eL}{Ws:List (Nat×T)}:∀{L:List E} {s:Nat} {x:X},E.sl s x∈dZ es Ws L→E.sl s x∈L∧ju es Ws x=true
 | .sl s' x' :: L,s,x,h=>by
  simp only[dZ]at h;split at h
  ·rename_i hx;rcases List.mem_cons.1 h with h|h
   ·cases h;exact⟨mem_cons_self .., hx⟩
   ·obtain⟨h1,h2⟩:=jv h;exact⟨mem_cons_of_mem _ h1,h2⟩
  ·obtain⟨h1,h2⟩:=jv h;exact⟨mem_cons_of_mem _ h1,h2⟩
 | .rt i m t :: L,s,x,h=>by
  simp only[dZ]at h;rcases List.mem_cons.1 h with h|h
  ·cases h
  ·obtain⟨h1,h2⟩:=jv h;exact⟨mem_cons_of_mem _ h1,h2⟩
 | .al i c x' :: L,s,x,h=>by
  simp only[dZ]at h;split at h
  ·rcases List.mem_cons.1 h with h|h
   ·cases h
   ·obtain⟨h1,h2⟩:=jv h;exact⟨mem_cons_of_mem _ h1,h2⟩
  ·obtain⟨h1,h2⟩:=jv h;exact⟨mem_cons_of_mem _ h1,h2⟩
theorem jt{es:List eL}{Ws:List (Nat×T)}:∀{L:List E} {s c:Nat} {x:X},E.al s c x∈dZ es Ws L→E.al s c x∈L∧ju es Ws x=true∧ke es Ws s [(0,0,c)]=true
 | .sl s' x' :: L,s,c,x,h=>by
  simp only[dZ]at h;split at h
  ·rcases List.mem_cons.1 h with h|h
   ·cases h
   ·obtain⟨h1,h2⟩:=jt h;exact⟨mem_cons_of_mem _ h1,h2⟩
  ·obtain⟨h1,h2⟩:=jt h;exact⟨mem_cons_of_mem _ h1,h2⟩
 | .rt i m t :: L,s,c,x,h=>by
  simp only[dZ]at h;rcases List.mem_cons.1 h with h|h
  ·cases h
  ·obtain⟨h1,h2⟩:=jt h;exact⟨mem_cons_of_mem _ h1,h2⟩
 | .al i c' x' :: L,s,c,x,h=>by
  simp only[dZ]at h;split at h
  ·rename_i hx;simp only[Bool.and_eq_true]at hx;rcases List.mem_cons.1 h with h|h
   ·cases h;exact⟨mem_cons_self .., hx⟩
   ·obtain⟨h1,h2⟩:=jt h;exact⟨mem_cons_of_mem _ h1,h2⟩
  ·obtain⟨h1,h2⟩:=jt h;exact⟨mem_cons_of_mem _ h1,h2⟩
theorem fo{es:List eL}{Ws:List (Nat×T)}:∀{L:List E} {i:Nat} {m:M} {t:T},aW (dZ es Ws L) i m t↔∃t0,aW L i m t0∧t=jf es Ws i t0
 | [],_,_,_=>by simp[aW,dZ]
 | .sl s x :: L,i,m,t=>by
  have:=fo (es:=es) (Ws:=Ws) (L:=L) (i:=i) (m:=m) (t:=t);simp only[aW,dZ]at this ⊢;split<;>simp[this]
 | .al s c x :: L,i,m,t=>by
  have:=fo (es:=es) (Ws:=Ws) (L:=L) (i:=i) (m:=m) (t:=t);simp only[aW,dZ]at this ⊢;split<;>simp[this]
 | .rt j m1 t1 :: L,i,m,t=>by
  have:=fo (es:=es) (Ws:=Ws) (L:=L) (i:=i) (m:=m) (t:=t);simp only[aW,dZ]at this ⊢;simp only[mem_cons,this,E.rt.injEq];constructor
  ·rintro (⟨rfl,rfl,rfl⟩|⟨t0,h1,h2⟩)
   ·exact⟨t1, .inl ⟨rfl,rfl,rfl⟩,rfl⟩
   ·exact⟨t0, .inr h1,h2⟩
  ·rintro ⟨t0,⟨rfl,rfl,rfl⟩|h1,h2⟩
   ·exact .inl ⟨rfl,rfl,h2⟩
   ·exact .inr ⟨t0,h1,h2⟩
mutual
theorem qe{es:List eL}{Ws:List (Nat×T)}:∀{x:X},ju es Ws x=true→X.all (λx=>ju es Ws x=true) x
 | .g _,e=>jN e
 | .t _,e=>jN e
 | .f _ _,e=>jN e
 | .v _,e=>e
 | .j,e=>e
 | .c,e=>e
 | .p .., e=>e
 | .h .., e=>e
 | .a .., e=>e
theorem jN{es:List eL}{Ws:List (Nat×T)}:∀{xs:List X},lg es Ws xs=true→X.pf (λx=>ju es Ws x=true) xs
 | [],_=>trivial
 | x :: xs,e=>by
  simp only[lg,Bool.and_eq_true]at e;exact⟨qe e.1,jN e.2⟩
end

section
variable{L:List E}{val:Nat→Value}{H:Nat→Value}{G:Nat→FP}{w w':World}
def AO(L:List E)(H:Nat→Value)(w:World)(e:eL):Prop:=∃m t0 hv,aW L e.2.1 m t0∧ck t0 e.2.2.1∧t0.at e.2.2.1=e.2.2.2∧(∃n len f,e.2.2.2= .s n len f)∧hd w (H e.2.1) e.2.2.1=some hv
def ep(L:List E)(H:Nat→Value)(w:World)(es:List eL)(n m:Nat):Prop:=n≤m∧(∀e∈es,AO L H w e∧n≤e.1∧e.1<m)∧(es.map (·.1)).Nodup
def zf(H:Nat→Value)(w:World)(es:List eL)(K:RT→(Nat→Value)→Prop):Prop:=∀R' H',(∀e∈es,(∃m,R' e.1 m e.2.2.2)∧hd w (H e.2.1) e.2.2.1=some (H' e.1))→K R' H'
theorem ep.nil{n:Nat}:ep L H w [] n n:=⟨Nat.le_refl _,by simp,by simp⟩
theorem ep.append{es es':List eL}{n m p:Nat}(h:ep L H w es n m)(h':ep L H w es' m p):ep L H w (es++es') n p:=by
 obtain⟨a1,a2,a3⟩:=h;obtain⟨b1,b2,b3⟩:=h';refine⟨by omega,λe he=>?_,?_⟩
 ·rcases List.mem_append.1 he with h|h
  ·obtain⟨c1,c2,c3⟩:=a2 e h;exact⟨c1,c2,by omega⟩
  ·obtain⟨c1,c2,c3⟩:=b2 e h;exact⟨c1,by omega,c3⟩
 ·rw[map_append,nodup_append];refine⟨a3,b3,λx hx y hy hxy=>?_⟩;obtain⟨e,he,rfl⟩:=List.mem_map.1 hx;obtain⟨e',he',rfl⟩:=List.mem_map.1 hy;have:=(a2 e he).2.2;have:=(b2 e' he').2.1;omega
mutual
theorem A8(hr:Rp L val H G w):∀(x:X) (n:Nat) {v:Value},VR (aW L) H w x v→ep L H w (wX L x n).2.1 n (wX L x n).2.2∧zf H w (wX L x n).2.1 λR' H'=>VR R' H' w (wX L x n).1 v
 | .v x,n,v,h=>⟨ep.nil,λ_ _ _=>h⟩
 | .j,n,v,_=>⟨ep.nil,λ_ _ _=>trivial⟩
 | .c,n,v,h=>⟨ep.nil,λ_ _ _=>h⟩
 | .p id q w1 k c,n,v,h=>by
  simp only[wX];split
  ·rename_i m t hR;split
   ·rename_i hS;obtain⟨w',len,f,hT⟩:=T.qy hS;obtain⟨m',t',g1,g2,⟨len',f',g3,g4,g5⟩,hv,A,g6,g7,g8⟩:=h;obtain⟨rfl,rfl⟩:=hr.one _ _ _ _ _ g1 (aq hR);refine⟨⟨le_succ n,λe he=>?_,by simp⟩,λR' H' hh=>?_⟩
    ·rw[mem_singleton]at he;subst he;exact⟨⟨m',t',hv,g1,g2,rfl,⟨_,_,_,hT⟩,g6⟩,Nat.le_refl _,by simp⟩
    ·obtain⟨⟨m2,e1⟩,e2⟩:=hh _ (List.mem_singleton.2 rfl);simp only[g6,Option.some.injEq]at e2;exact⟨m2,_,e1,by simp[ck],⟨len',f',by simp only[T.at];exact g3,g4,g5⟩,hv,A,by rw[←e2];simp only[VM.hd],g7,g8⟩
   ·exact⟨ep.nil,λ_ _ _=>trivial⟩
  ·exact⟨ep.nil,λ_ _ _=>trivial⟩
 | .a .., n,v,_=>⟨ep.nil,λ_ _ _=>trivial⟩
 | .t _,n,v,_=>⟨ep.nil,λ_ _ _=>trivial⟩
 | .f _ [],n,v,⟨vs,h1,h2⟩=>⟨ep.nil,λ_ _ _=>⟨vs,h1,by cases vs<;>first|trivial|exact h2.elim⟩⟩
 | .f _ (_ :: _),n,v,_=>⟨ep.nil,λ_ _ _=>trivial⟩
 | .g xs,n,v,⟨vs,h1,h2⟩=>by
  obtain⟨a,b⟩:=uv hr xs n h2;exact⟨a,λR' H' hh=>⟨vs,h1,b R' H' hh⟩⟩
 | .h id q,n,v,h=>by
  simp only[wX];split
  ·rename_i m t hR;split
   ·rename_i hS;obtain⟨w',len,f,hT⟩:=T.qy hS;obtain⟨m',t',g1,g2,g3,g4⟩:=h;obtain⟨rfl,rfl⟩:=hr.one _ _ _ _ _ g1 (aq hR);refine⟨⟨le_succ n,λe he=>?_,by simp⟩,λR' H' hh=>?_⟩
    ·rw[mem_singleton]at he;subst he;exact⟨⟨m',t',v,g1,g2,rfl,⟨_,_,_,hT⟩,g4⟩,Nat.le_refl _,by simp⟩
    ·obtain⟨⟨m2,e1⟩,e2⟩:=hh _ (List.mem_singleton.2 rfl);simp only[g4,Option.some.injEq]at e2;exact⟨m2,_,e1,by simp[ck],⟨_,_,_,by simp only[T.at];exact hT⟩,by rw[e2];simp only[VM.hd]⟩
   ·exact⟨ep.nil,λ_ _ _=>trivial⟩
  ·exact⟨ep.nil,λ_ _ _=>trivial⟩
theorem uv(hr:Rp L val H G w):∀(xs:List X) (n:Nat) {vs:List Value},dj (aW L) H w xs vs→ep L H w (yc L xs n).2.1 n (yc L xs n).2.2∧zf H w (yc L xs n).2.1 λR' H'=>dj R' H' w (yc L xs n).1 vs
 | [],n,[],_=>⟨ep.nil,λ_ _ _=>trivial⟩
 | x :: xs,n,v :: vs,⟨h1,h2⟩=>by
  simp only[yc];obtain⟨a1,a2⟩:=A8 hr x n h1;obtain⟨b1,b2⟩:=uv hr xs (wX L x n).2.2 h2;exact⟨a1.append b1,λR' H' hh=>⟨a2 R' H' λe he=>hh e (List.mem_append.2 (.inl he)),b2 R' H' λe he=>hh e (List.mem_append.2 (.inr he))⟩⟩
 | [],_,_ :: _,h=>h.elim
 | _ :: _,_,[],h=>h.elim
end
theorem fh{Ws:List (Nat×T)}{n:Nat}{m:M}{t:T}:∀{es:List eL},aW (kX Ws es) n m t↔∃e∈es,e.1=n∧e.2.2.2=t∧m=(match dz Ws n with|some _=> .row|none=> .ro)
  | []=>by simp[aW,kX]
  | (n',i,q,t') :: r=>by
    have:=fh (Ws:=Ws) (n:=n) (m:=m) (t:=t) (es:=r);simp only[aW,kX]at this ⊢;rw[mem_cons,this];constructor
    · rintro (h|⟨e,h1,h2⟩)
      · cases h;exact⟨_,mem_cons_self .., rfl,rfl,rfl⟩
      · exact⟨e,mem_cons_of_mem _ h1,h2⟩
    · rintro ⟨e,h1,h2,h3,h4⟩
      rcases List.mem_cons.1 h1 with rfl|h1
      · simp only at h2 h3;subst h2 h3;exact .inl (by rw[h4])
      · exact .inr ⟨e,h1,h2,h3,h4⟩
theorem mC{Ws:List (Nat×T)}:∀{es:List eL} {e:E},e∈kX Ws es→∃id m t,e= .rt id m t
  | (n',i,q,t') :: r,e,h=>by
    rcases List.mem_cons.1 h with h|h
    · exact⟨_,_,_,h⟩
    · exact mC h
theorem kI{Ws:List (Nat×T)}{id:Nat}{q:bJ}{y:T}:∀{es:List eL},eR Ws es id=some (q,y)→∃e∈es,e.2.1=id∧e.2.2.1=q∧dz Ws e.1=some y
  | (n',i,q',t') :: r,h=>by
    simp only[eR]at h;split at h
    · rename_i y' hy;split at h
      · rename_i hi;cases h;exact⟨_,mem_cons_self .., eq_of_beq_eq_true hi,rfl,hy⟩
      · obtain⟨e,h1,h2⟩:=kI h;exact⟨e,mem_cons_of_mem _ h1,h2⟩
    · obtain⟨e,h1,h2⟩:=kI h;exact⟨e,mem_cons_of_mem _ h1,h2⟩
theorem lm{Ws:List (Nat×T)}{id:Nat}:∀{es:List eL},eR Ws es id=none→∀e∈es,e.2.1=id→dz Ws e.1=none
  | (n',i,q',t') :: r,h,e,he,hid=>by
    simp only[eR]at h;rcases List.mem_cons.1 he with rfl|he
    · simp only at hid ⊢;split at h
      · rw[hid,beq_refl,if_pos rfl]at h;cases h
      · assumption
    · split at h
      · split at h
        · cases h
        · exact lm h e he hid
      · exact lm h e he hid
theorem pw{Ws:List (Nat×T)}:∀{es:List eL},Bh L Ws es=true→(∀e∈es,∀y,dz Ws e.1=some y→(T.tw y || T.Al y)=true∧yF L e.2.1 e.2.2.1 y=true)∧∀e∈es,∀e'∈es,(dz Ws e.1).isSome=true→e.1≠e'.1→e.2.1≠e'.2.1
  | [],_=>⟨by simp,by simp⟩
  | (n,i,q,t) :: r,h=>by
    simp only[Bh,Bool.and_eq_true]at h;obtain⟨h1,h2⟩:=h;obtain⟨a1,a2⟩:=pw h2;refine⟨λe he y hy=>?_,λe he e' he' hs hne hid=>?_⟩
    · rcases List.mem_cons.1 he with rfl|he
      · simp only at hy ⊢;simp only[hy,Bool.and_eq_true,Bool.not_eq_true']at h1;exact h1.1
      · exact a1 e he y hy
    · rcases List.mem_cons.1 he with rfl|he<;>rcases List.mem_cons.1 he' with rfl|he'
      · exact hne rfl
      · obtain⟨y,hy⟩:=Option.isSome_iff_exists.1 hs;simp only at hy hid;simp only[hy,Bool.and_eq_true,all_eq_true,Bool.not_eq_true']at h1;have:=h1.2 e' he';rw[hid,beq_refl]at this;cases this
      · obtain⟨y,hy⟩:=Option.isSome_iff_exists.1 hs;simp only at hid;split at h1
        · simp only[Bool.and_eq_true,all_eq_true,Bool.not_eq_true']at h1;have:=h1.2 e he;rw[hid,beq_refl]at this;cases this
        · simp only[all_eq_true]at h1;have:=h1 e he;simp only[hy,hid,beq_refl,Bool.not_true]at this;cases this
      · exact a2 e he e' he' hs hne hid
end
open Go Go.RowKit
theorem fQ{n:Nat}{y:T}:∀{Ws:List (Nat×T)},dz Ws n=some y→(n,y)∈Ws
  | (i,z) :: r,h=>by
    simp only[dz]at h;split at h
    · rename_i hi;cases h;rw[eq_of_beq_eq_true hi];exact mem_cons_self ..
    · exact mem_cons_of_mem _ (fQ h)
open Go Go.RowKit
def cn(X0:X)(L0:List (Nat×M×T))(Ws:List (Nat×T))(x:X)(L:List E):Prop:=
 ∃ρ:Nat→Nat,x=X0.ni ρ∧(∀n,aa≤n→ρ n=n)∧(L0.map λr=>ρ r.1).Nodup∧(∀r∈L0,r.2.1≠ .ro∧aW L (ρ r.1) r.2.1 r.2.2∧ρ r.1<aa)∧∀p∈Ws,aW L p.1 .row p.2
def pV:List eL→Nat→Option (Nat×bJ)
  | [],_=>none
  | (i,id,q,_) :: r,n=>if beq i n then some (id,q)else pV r n
theorem px{n id:Nat}{q:bJ}:∀{es:List eL},pV es n=some (id,q)→∃e∈es,e.1=n∧e.2.1=id∧e.2.2.1=q
  | (i,id',q',t) :: r,h=>by
    simp only[pV]at h;split at h
    · rename_i hi;cases h;exact⟨_,mem_cons_self .., eq_of_beq_eq_true hi,rfl,rfl⟩
    · obtain⟨e,h1,h2⟩:=px h;exact⟨e,mem_cons_of_mem _ h1,h2⟩
/- a result, as the caller names it -/
mutual
def X.out(d:Nat)(es:List eL):X→X
 | .p id q n k cc=> .p (nu d id) q n k cc
 | .h n q=>if blt n aa then .h (nu d n) q else match pV es n with
  | some (id,q')=> .h id q'
  | none=> .j
 | .a id q n lo len=> .a (nu d id) q n lo len
 | .g xs=> .g (X.outs d es xs)
 | .t xs=> .t (X.outs d es xs)
 | .f fn xs=> .f fn (X.outs d es xs)
 | x=>x
def X.outs(d:Nat)(es:List eL):List X→List X
 | []=>[]
 | x :: xs=>X.out d es x :: X.outs d es xs
end
mutual
def X.tZ(d:Nat)(es:List eL)(ids:List Nat):X→Bool
 | .p id .. =>ids.contains id
 | .h n q=>if blt n aa then ids.contains n else q.isEmpty&&match pV es n with|some (id,_)=> !(ids.map (nu d)).contains id|none=>true
 | .a id .. =>ids.contains id
 | .g xs=>X.pP d es ids xs
 | .t xs=>X.pP d es ids xs
 | .f _ xs=>X.pP d es ids xs
 | _=>true
def X.pP(d:Nat)(es:List eL)(ids:List Nat):List X→Bool
 | []=>true
 | x :: xs=>X.tZ d es ids x&&X.pP d es ids xs
end
mutual
theorem w_{R R':RT}{H H':Nat→Value}{w:World}{d:Nat}{es:List eL}{ids:List Nat}{ρ:Nat→Nat}(hfix:∀n,aa≤n→ρ n=n)(hids:∀i∈ids,i<aa)
  (hR:∀id,id∈ids→∀m t,R (ρ id) m t→R' (nu d id) m t∧H' (nu d id)=H (ρ id))
  (hE:∀e∈es,∀v,VR R H w (.h e.1 []) v→(∀i∈ids,nu d i≠e.2.1)→VR R' H' w (.h e.2.1 e.2.2.1) v):∀{x:X} {v:Value},x.tZ d es ids=true→VR R H w (x.ni ρ) v→VR R' H' w (x.out d es) v
 | .g xs,v,hx,⟨vs,h1,h2⟩=>⟨vs,h1,nh hfix hids hR hE hx h2⟩
 | .t xs,v,hx,⟨vs,h1,h2⟩=>⟨vs,h1,nh hfix hids hR hE hx h2⟩
 | .f fn xs,v,hx,⟨vs,h1,h2⟩=>⟨vs,h1,nh hfix hids hR hE hx h2⟩
 | .v x,v,_,h=>h
 | .j,v,_,_=>trivial
 | .c,v,_,h=>h
 | .p id q n k c,v,hx,h=>by
  obtain⟨m,t,h1,h2⟩:=h;obtain⟨e1,e2⟩:=hR id (by simpa [X.tZ]using hx) m t h1;exact⟨m,t,e1,by rw[e2];exact h2⟩
 | .a id q n lo len,v,hx,h=>by
  obtain⟨m,t,h1,h2⟩:=h;obtain⟨e1,e2⟩:=hR id (by simpa [X.tZ]using hx) m t h1;exact⟨m,t,e1,by rw[e2];exact h2⟩
 | .h n q,v,hx,h=>by
  simp only[X.tZ]at hx;simp only[X.out];split
  ·rename_i hlt;rw[if_pos hlt]at hx;obtain⟨m,t,h1,h2⟩:=h;obtain⟨e1,e2⟩:=hR n (by simpa using hx) m t h1;exact⟨m,t,e1,by rw[e2];exact h2⟩
  ·rename_i hlt;rw[if_neg hlt]at hx;have hn:aa≤n:=by
    rcases Nat.lt_or_ge n aa with h|h
    ·exact absurd (Eq.mpr blt_eq h) hlt
    ·exact h
   simp only[Bool.and_eq_true,isEmpty_iff]at hx;obtain⟨rfl,hx⟩:=hx;split
   ·rename_i id q' he;rw[he]at hx;obtain⟨e,he1,rfl,rfl,rfl⟩:=px he;have h':VR R H w (.h (ρ e.1) []) v:=h;rw[hfix _ hn]at h';refine hE e he1 v h' λi hi hne=>?_;simp only[Bool.not_eq_true',contains_eq_mem,decide_eq_false_iff_not]at hx;exact hx (List.mem_map.2 ⟨i,hi,hne⟩)
   ·trivial
theorem nh{R R':RT}{H H':Nat→Value}{w:World}{d:Nat}{es:List eL}{ids:List Nat}{ρ:Nat→Nat}(hfix:∀n,aa≤n→ρ n=n)(hids:∀i∈ids,i<aa)
  (hR:∀id,id∈ids→∀m t,R (ρ id) m t→R' (nu d id) m t∧H' (nu d id)=H (ρ id))
  (hE:∀e∈es,∀v,VR R H w (.h e.1 []) v→(∀i∈ids,nu d i≠e.2.1)→VR R' H' w (.h e.2.1 e.2.2.1) v):∀{xs:List X} {vs:List Value},X.pP d es ids xs=true→dj R H w (X.eA ρ xs) vs→dj R' H' w (X.outs d es xs) vs
 | [],[],_,_=>trivial
 | x :: xs,v :: vs,hx,⟨g1,g2⟩=>by
  simp only[X.pP,Bool.and_eq_true]at hx;exact⟨w_ hfix hids hR hE hx.1 g1,nh hfix hids hR hE hx.2 g2⟩
 | [],_ :: _,_,h=>h.elim
 | _ :: _,[],_,h=>h.elim
end
section
variable{P:Program}{N:Nat}{L:List E}{dst:Option Tmp}{ty:TypeId}{pos:String}{af:Array Edge}{g:Option (Nat×Bool)}{d:Nat}
theorem aK.Be(Ws:List (Nat×T)){f:FuncId}{cal:Operand}{args:Array Operand}{tys:Array TypeId}{xs:List X}{es:List eL}{m:Nat}{X0:X}{L0:List (Nat×M×T)}(hds:dst=some d)(hN:d<N)(hE:l4 P f)(hcal:cw L cal= .f f [])(hq:yc L (args.toList.map (cw L)) aa=(xs,es,m))(hok:Bh L Ws es=true)
    (hc:bf P f xs (kX Ws es) (cn X0 L0 Ws))
    (hn:(L0.map (·.1)).Nodup) (hb:(L0.all λr=>nu d r.1<aa&&r.1<aa)=true) (hx0:X0.tZ d es (L0.map (·.1))=true):
    aK P N ⟨dst, .call { callee:= .value cal,args:=args,argTypes:=tys },ty,pos,af,g⟩ L (cq (gn (dZ es Ws L) (eA d L0)) d (X0.out d es)):=λcx a w Q hs=>by
  obtain⟨H,G,hr,hG⟩:=hs.rp;have hcv:=dC hr cal;rw[hcal]at hcv;obtain⟨us,hu1,hu2⟩:=hcv;obtain rfl:us=[]:=by cases us with
    | nil=>rfl
    | cons _ _=>exact hu2.elim
  unfold Oper.wp;rw[mE hE hu1,append_nil];obtain⟨⟨hnm,hent,hnd⟩,hvr⟩:=uv hr (args.toList.map (cw L)) aa (np hr args.toList);rw[hq]at hnm hent hnd hvr;simp only at hnm hent hnd hvr;obtain⟨hro,hap⟩:=pw hok;have hmode:∀e∈es,(dz Ws e.1).isSome=true→∀m t,aW L e.2.1 m t→m≠ .ro:=λe he hw m t hm=>by
    obtain⟨y,hy⟩:=Option.isSome_iff_exists.1 hw;have h1:=(hro e he y hy).2;unfold yF at h1;split at h1
    · rename_i t1 hR;obtain⟨rfl,rfl⟩:=hr.one _ _ _ _ _ hm (aq hR);simp
    · rename_i t1 hR;obtain⟨rfl,rfl⟩:=hr.one _ _ _ _ _ hm (aq hR);simp
    · cases h1
  have hmode2:∀e∈es,∀y,dz Ws e.1=some y→∀t,aW L e.2.1 .box t→e.2.2.1≠[]∨∃n f,y= .s n 1 f:=λe he y hy t hm=>by
    have h1:=(hro e he y hy).2;unfold yF at h1;split at h1
    · rename_i t1 hR;obtain⟨hh,_⟩:=hr.one _ _ _ _ _ hm (aq hR);cases hh
    · rename_i t1 hR;cases hqq:e.2.2.1 with
      | cons a r=>exact .inl (by simp)
      | nil=>
        rw[hqq]at h1;cases y with
        | s n l f=>exact .inr ⟨n,f,by rw[eq_of_beq_eq_true h1]⟩
        | _=>cases h1
    · cases h1
  -- where the nodes lie
  let P0:eL→FP→Prop:=λe F=>∃hv,hd w (H e.2.1) e.2.2.1=some hv∧Rd w e.2.2.2 F hv∧(∀x y,F x y→G e.2.1 x y)∧(∀x y,F x y→x<w.heap.size)∧
    ((dz Ws e.1).isSome=true→dA w e.2.2.2 F hv∧∀{w':World} {S:FP} {y:T} {Gy:FP},dK S w w'→(∀a p,G e.2.1 a p→S a p→F a p)→dA w' y Gy hv→(∀a p,Gy a p→F a p∨¬G e.2.1 a p)→
      ∀m t,aW L e.2.1 m t→dA w' (t.set e.2.2.1 y) (λa p=>(G e.2.1 a p∧¬F a p)∨Gy a p) (H e.2.1)∧∀r,¬yq e.2.2.1 r→ck t r→hd w' (H e.2.1) r=hd w (H e.2.1) r)∧
    ((dz Ws e.1).isSome=true→e.2.2.1≠[]→∀m n len f,aW L e.2.1 m (.s n len f)→∀k c b o,k<len→c<n→hL (H e.2.1) n k c=some ⟨b,o,none⟩→¬F b o)
  have hkey:∀n,∃F:FP,∀e∈es,e.1=n→P0 e F:=λn=>by
    by_cases hex:∃e∈es,e.1=n
    · obtain⟨e,he,rfl⟩:=hex;have huniq:∀e'∈es,e'.1=e.1→e'=e:=λe' he' h=>gz hnd he' he h;obtain⟨⟨m0,t0,hv,g1,g2,g3,g4,g5⟩,_⟩:=hent e he;cases hw:(dz Ws e.1).isSome with
      | false=>
        obtain⟨hv',F,k1,k2,k3⟩:=(hr.rd g1).at g2;rw[g5]at k1;cases k1;rw[g3]at k2;refine⟨F,λe' he' h=>?_⟩;rw[huniq e' he' h];refine⟨hv,g5,k2,k3,λx y hF=>?_,λh=>(by rw[hw]at h;cases h),λh=>(by rw[hw]at h;cases h)⟩;have:=k3 x y hF
        by_cases hm:m0= .ro
        · subst hm;exact hr.gv _ _ g1 x y this
        · exact(hr.own _ _ _ g1 hm).nC x y this
      | true=>
        have hm:=(hmode e he hw m0 t0 g1)
        obtain⟨hv',F,k1,k2,k3,k5,k4⟩:=(hr.own _ _ _ g1 hm).AF g2;rw[g5]at k1;cases k1;rw[g3]at k2;refine⟨F,λe' he' h=>?_⟩;rw[huniq e' he' h];refine⟨hv,g5,k2.rd,k3,λx y hF=>k2.nC x y hF,λ_=>⟨k2,?_⟩,λ_ hq m n len f hmt=>?_⟩
        rotate_left
        · obtain⟨rfl,rfl⟩:=hr.one _ _ _ _ _ hmt g1;exact k5 hq n len f rfl
        intro w' S y Gy c1 c2 c3 c4 m t hmt;obtain⟨rfl,rfl⟩:=hr.one _ _ _ _ _ hmt g1;exact k4 c1 c2 c3 c4
    · exact⟨λ_ _=>False,λe he h=>absurd ⟨e,he,h⟩ hex⟩
  obtain⟨G',hG'⟩:=Classical.axiomOfChoice hkey;let H':Nat→Value:=λn=>match es.find? (λe=>e.1==n)with|some e=>(hd w (H e.2.1) e.2.2.1).getD undef|none=>undef
  have hH':∀e∈es,hd w (H e.2.1) e.2.2.1=some (H' e.1):=λe he=>by
    obtain⟨⟨m0,t0,hv,g1,g2,g3,g4,g5⟩,_⟩:=hent e he;have:es.find? (λe'=>e'.1==e.1)=some e:=by
      cases hf:es.find? (λe'=>e'.1==e.1)with
      | none=>exact absurd (List.find?_eq_none.1 hf e he) (by simp)
      | some e'=>
        have h1:=mem_of_find?_eq_some hf;have h2:=find?_some hf;rw[gz hnd h1 he (by simpa using h2)]
    show _=some (match es.find? (λe'=>e'.1==e.1)with|some e=>(hd w (H e.2.1) e.2.2.1).getD undef|none=>undef);rw[this];simp only[g5,Option.getD_some]
  have hP0:∀e∈es,P0 e (G' e.1):=λe he=>hG' e.1 e he rfl;have hrow:∀n m t,aW (kX Ws es) n m t→m≠ .ro→∃e∈es,e.1=n∧e.2.2.2=t∧(dz Ws n).isSome=true∧m= .row:=λn m t h hm=>by
    obtain⟨e,he,h1,h2,h3⟩:=fh.1 h;refine⟨e,he,h1,h2,?_⟩;cases hw:dz Ws n with
    | none=>rw[hw]at h3;exact absurd h3 hm
    | some y=>rw[hw]at h3;exact⟨rfl,h3⟩
  have hrp:Rp (kX Ws es) (λ_=>undef) H' G' w:=by
    refine⟨λid m t m' t' k1 k2=>?_,λid m t k1 k2=>?_,λid t k=>?_,λid t k=>?_,λid t k=>?_,λid m t id' m' t' k1 k2 hne hm x y=>?_,λt x k=>?_,λid c x k=>?_⟩
    · obtain⟨e,he,h1,h2,h3⟩:=fh.1 k1;obtain⟨e',he',h1',h2',h3'⟩:=fh.1 k2;have:e=e':=gz hnd he he' (by rw[h1,h1']);subst this;exact⟨h3.trans h3'.symm,h2.symm.trans h2'⟩
    · obtain⟨e,he,rfl,rfl,h3,h4⟩:=hrow id m t k1 k2;obtain⟨hv,e1,_,_,_,e5⟩:=hP0 e he;rw[hH' e he]at e1;cases e1;exact(e5.1 h3).1
    · obtain⟨e,he,rfl,rfl,_⟩:=fh.1 k;obtain⟨hv,e1,e2,_⟩:=hP0 e he;rw[hH' e he]at e1;cases e1;exact e2
    · obtain⟨e,he,rfl,rfl,_⟩:=fh.1 k;obtain⟨hv,_,_,_,e4,_⟩:=hP0 e he;exact e4
    · obtain⟨e,he,_,_,h3⟩:=fh.1 k;split at h3<;>cases h3
    · obtain⟨e,he,rfl,rfl,h3,h4⟩:=hrow id m t k1 hm;obtain⟨e',he',rfl,rfl,_⟩:=fh.1 k2;obtain⟨_,_,_,e3,_⟩:=hP0 e he;obtain⟨_,_,_,e3',_⟩:=hP0 e' he';obtain⟨⟨m0,t0,_,g1,_⟩,_⟩:=hent e he;obtain⟨⟨m0',t0',_,g1',_⟩,_⟩:=hent e' he';exact λha hb=>hr.jX _ _ _ _ _ _ g1 g1' (hap e he e' he' h3 hne) (hmode e he h3 _ _ g1) x y (e3 x y ha) (e3' x y hb)
    · obtain⟨_,_,_,h⟩:=mC k;cases h
    · obtain⟨_,_,_,h⟩:=mC k;cases h
  have hxv:=hvr (aW (kX Ws es)) H' λe he=>⟨⟨_,fh.2 ⟨e,he,rfl,rfl,rfl⟩⟩,hH' e he⟩
  simp only[Oper.upon];refine(hc w _ H' G' (cx.now hs.gh) (λn m t h1 h2 a o h3=>by
    obtain⟨e,he,rfl,_,h4,_⟩:=hrow n m t h1 h2;obtain⟨_,_,_,e3,_⟩:=hP0 e he;obtain⟨⟨m0,t0,_,g1,_⟩,_⟩:=hent e he;exact cx.BY (hG.1 _ _ _ g1 (hmode e he h4 _ _ g1) a o (e3 a o h3))) hrp hxv).mono ?_
  rintro e w' ⟨v,x,L2,H2,G2,val2,rfl,⟨ρ',rfl,hfix,rn,r2,hpost⟩,k1,k2,k3,k4,k5⟩
  refine⟨⟨_,rfl⟩,?_⟩
  -- what has turned
  let S:FP:=λa o=>∃e∈es,(dz Ws e.1).isSome=true∧G' e.1 a o;have hC:dK S w w':=k3.mono λa o _ ⟨id,m,t,h1,h2,h3⟩=>by
    obtain⟨e,he,rfl,_,h4,_⟩:=hrow id m t h1 h2;exact⟨e,he,h4,h3⟩
  have hold:∀id m t,aW L id m t→∀x y,G id x y→x<w.heap.size:=λid m t h x y hg=>by
    by_cases hm:m= .ro
    · subst hm;exact hr.gv id t h x y hg
    · exact(hr.own id m t h hm).nC x y hg
  have hSG:∀id m t,aW L id m t→∀a o,G id a o→S a o→∃e∈es,(dz Ws e.1).isSome=true∧e.2.1=id∧G' e.1 a o:=λid m t h a o hg ⟨e,he,hw,hs'⟩=>by
    refine⟨e,he,hw,?_,hs'⟩;obtain⟨_,_,_,e3,_⟩:=hP0 e he;obtain⟨⟨m0,t0,_,g1,_⟩,_⟩:=hent e he
    by_cases hid:e.2.1=id
    · exact hid
    · exact(hr.jX _ _ _ _ _ _ g1 h hid (hmode e he hw _ _ g1) a o (e3 a o hs') hg).elim
  -- the written entry of a root
  have hwr:∀id,(∃q y,eR Ws es id=some (q,y)∧∃e∈es,e.2.1=id∧e.2.2.1=q∧dz Ws e.1=some y)∨(eR Ws es id=none∧∀e∈es,e.2.1=id→dz Ws e.1=none):=λid=>by
    cases h:eR Ws es id with
    | none=>exact .inr ⟨rfl,lm h⟩
    | some p=>obtain⟨q,y⟩:=p;exact .inl ⟨q,y,rfl,kI h⟩
  have hkey2:∀id,∃F:FP,(∀e∈es,e.2.1=id→(dz Ws e.1).isSome=true→F= λa p=>(G id a p∧¬G' e.1 a p)∨G2 e.1 a p)∧((∀e∈es,e.2.1=id→dz Ws e.1=none)→F=G id):=λid=>by
    rcases hwr id with⟨q,y,_,e,he,rfl,_,hy⟩|⟨_,hn⟩
    · refine⟨λa p=>(G e.2.1 a p∧¬G' e.1 a p)∨G2 e.1 a p,λe' he' hid hw=>?_,λhn=>?_⟩
      · have:e'.1=e.1:=by
          rcases Nat.decEq e'.1 e.1 with h|h
          · exact absurd hid (hap e' he' e he hw h)
          · exact h
        rw[this]
      · have:=hn e he rfl;rw[hy]at this;cases this
    · exact⟨G id,⟨λe he hid hw=>(by rw[hn e he hid]at hw;cases hw),λ_=>rfl⟩⟩
  obtain⟨G3,hG3⟩:=Classical.axiomOfChoice hkey2;have hG2:∀e∈es,(dz Ws e.1).isSome=true→∀a o,G2 e.1 a o→S a o∨w.heap.size≤a:=λe he hw a o hg=>by
    obtain⟨y,hy⟩:=Option.isSome_iff_exists.1 hw;rcases k4 _ _ _ (hpost _ (fQ hy)) (by simp) a o hg with⟨id,m,t,h1,h2,h3⟩|h
    · obtain⟨e',he',rfl,_,h4,_⟩:=hrow id m t h1 h2;exact .inl ⟨e',he',h4,h3⟩
    · exact .inr h
  -- a written root
  have hset:∀e∈es,∀y,dz Ws e.1=some y→∀m t,aW L e.2.1 m t→dA w' (t.set e.2.2.1 y) (G3 e.2.1) (H e.2.1)∧∀r,¬yq e.2.2.1 r→ck t r→hd w' (H e.2.1) r=hd w (H e.2.1) r:=λe he y hy m t hmt=>by
    have hw:(dz Ws e.1).isSome=true:=by rw[hy];rfl
    obtain⟨hv',e1,e2,e3,e4,e5⟩:=hP0 e he;rw[hH' e he]at e1;cases e1;have hown2:=k1.own _ _ _ (hpost _ (fQ hy)) (by simp);have hhd2:H2 e.1=H' e.1:=k5 _ _ _ (hent e he).2.1 (hpost _ (fQ hy));rw[show(e.1,y).1=e.1 from rfl]at hown2;rw[hhd2]at hown2;have hdis:∀a p,G2 e.1 a p→G' e.1 a p∨¬G e.2.1 a p:=λa p hg=>by
      by_cases hgg:G e.2.1 a p
      · rcases hG2 e he hw a p hg with h|h
        · obtain⟨e',he',hw',hid,hg'⟩:=hSG _ _ _ hmt a p hgg h;have:e'.1=e.1:=by
            rcases Nat.decEq e'.1 e.1 with h|h
            · exact absurd hid (hap e' he' e he hw' h)
            · exact h
          rw[this]at hg';exact .inl hg'
        · have:=hold _ _ _ hmt a p hgg;omega
      · exact .inr hgg
    obtain⟨r1,r2⟩:=(e5.1 hw).2 (y:=y) hC (λa p hg hs'=>by
      obtain⟨e',he',hw',hid,hg'⟩:=hSG _ _ _ hmt a p hg hs';have:e'.1=e.1:=by
        rcases Nat.decEq e'.1 e.1 with h|h
        · exact absurd hid (hap e' he' e he hw' h)
        · exact h
      rw[this]at hg';exact hg') hown2 hdis m t hmt
    rw[(hG3 e.2.1).1 e he rfl hw];exact⟨r1,r2⟩
  have hkeep:∀id,(∀e∈es,e.2.1=id→dz Ws e.1=none)→∀m t,aW L id m t→∀a o,G id a o→¬S a o:=λid hn m t h a o hg hs'=>by
    obtain⟨e,he,hw,hid,_⟩:=hSG id m t h a o hg hs';rw[hn e he hid]at hw;cases hw
  have hrt:∀{id m t},aW (dZ es Ws L) id m t→∃t0,aW L id m t0∧t=jf es Ws id t0:=λh=>fo.1 h
  -- a way, seen now
  have hway:∀id m t r,aW L id m t→ck t r→(match eR Ws es id with|some (q,_)=>¬yq q r|none=>True)→
      ck (jf es Ws id t) r∧hd w' (H id) r=hd w (H id) r∧((∃y,eR Ws es id=some (r,y)∧(jf es Ws id t).at r=y)∨∀(n len:Nat) (f:Nat→Nat→T),t.at r= .s n len f→∃f',(jf es Ws id t).at r= .s n len f'):=λid m t r h hq hb=>by
    rcases hwr id with⟨q,y,hf,e,he,rfl,rfl,hy⟩|⟨hf,hn⟩
    · simp only[hf]at hb;obtain⟨_,r2⟩:=hset e he y hy m t h;obtain⟨⟨m0,t0,hv0,g1,g2,g3,⟨n0,l0,f0,g4⟩,g5⟩,hb1,_⟩:=hent e he;obtain⟨rfl,rfl⟩:=hr.one _ _ _ _ _ h g1;obtain⟨c1,c2⟩:=wO (y:=y) g2 hb hq;simp only[jf,hf];refine⟨c1,r2 r hb hq,?_⟩;rcases c2 with⟨c2,c3⟩|⟨c2,c3⟩
      · exact .inl ⟨y,by rw[c2],c3⟩
      · exact .inr λn len f h=>c3 h
    · simp only[jf,hf];exact⟨hq,jA hC (hr.rd h) hq (hkeep id hn m t h), .inr λn len f hat=>⟨f,hat⟩⟩
  have hnw:∀id r y,ke es Ws id r=true→eR Ws es id≠some (r,y):=λid r y hk hf=>by
    simp only[ke,hf,Bool.not_eq_true']at hk;have:=nD (q:=r) (s:=[]);rw[append_nil,hk]at this;cases this
  have hcases:∀id m t,aW L id m t→∀a p,G3 id a p→(G id a p∧¬S a p)∨∃e∈es,(dz Ws e.1).isSome=true∧e.2.1=id∧G2 e.1 a p:=λid m t h a p hg=>by
    rcases hwr id with⟨q,y,hf,e,he,rfl,rfl,hy⟩|⟨hf,hn⟩
    · have hw:(dz Ws e.1).isSome=true:=by rw[hy];rfl
      rw[(hG3 e.2.1).1 e he rfl hw]at hg;rcases hg with⟨h1,h2⟩|h1
      · refine .inl ⟨h1,λhs'=>?_⟩;obtain⟨e',he',hw',hid,hg'⟩:=hSG _ _ _ h a p h1 hs';have:e'.1=e.1:=by
          rcases Nat.decEq e'.1 e.1 with h|h
          · exact absurd hid (hap e' he' e he hw' h)
          · exact h
        rw[this]at hg';exact h2 hg'
      · exact .inr ⟨e,he,hw,rfl,h1⟩
    · rw[(hG3 id).2 hn]at hg;exact .inl ⟨hg,hkeep id hn m t h a p hg⟩
  have hleaf:∀{x v},ju es Ws x=true→VR (aW L) H w x v→VR (aW (dZ es Ws L)) H w' x v:=λhx h=>
    VR.leaves (C:=λx=>ju es Ws x=true) (λx v hl hx h=>by
      have hbeh:∀id r,ke es Ws id r=true→(match eR Ws es id with|some (q,_)=>¬yq q r|none=>True):=λid r hk=>by
        unfold ke at hk;split
        · rename_i q y hf;simp only[hf,Bool.not_eq_true']at hk
          rintro ⟨a,s,rfl⟩
          rw[nD]at hk;cases hk
        · trivial
      cases x with
      | p i q' n' k' c'=>
        obtain⟨m',t',h1,h2,⟨l',f',h3,h4,h5⟩,h6⟩:=h;simp only[ju,Bool.or_eq_true]at hx;have hb:(match eR Ws es i with|some (q,_)=>¬yq q q'|none=>True):=by
          rcases hx with hx|hx
          · exact hbeh i q' hx
          · unfold p_ at hx;split at hx
            · rename_i q n2 l2 f2 hf;simp only[Bool.and_eq_true]at hx;have hll:=eq_of_beq_eq_true hx.1
              try simp only[hf]
              rintro ⟨a,s,rfl⟩
              simp at hll
            · cases hx
            · rename_i hf
              first|(simp only[hf];done)|trivial
        obtain⟨g1,g2,g3⟩:=hway i m' t' q' h1 h2 hb;have hat:∃l2 f2,(jf es Ws i t').at q'= .s n' l2 f2∧k'<l2∧c'<n':=by
          rcases g3 with⟨y,hf,hy⟩|g3
          · rcases hx with hx|hx
            · exact absurd hf (hnw _ _ _ hx)
            · rw[hy];cases y with
              | s n2 l2 f2=>
                simp only[p_,hf,Bool.and_eq_true,blt_eq]at hx;obtain⟨_,e1,e2,e3⟩:=hx;exact⟨l2,f2,by rw[eq_of_beq_eq_true e1],e2,e3⟩
              | v _=>simp[p_,hf]at hx
              | j=>simp[p_,hf]at hx
          · obtain⟨f2,g5⟩:=g3 _ _ _ h3;exact⟨l',f2,g5,h4,h5⟩
        obtain⟨l2,f2,g5,g6,g7⟩:=hat;exact⟨m',_,fo.2 ⟨t',h1,rfl⟩,g1,⟨l2,f2,g5,g6,g7⟩,by rw[g2];exact h6⟩
      | h i q'=>
        obtain⟨m',t',h1,h2,h3,h6⟩:=h;simp only[ju,Bool.or_eq_true]at hx;have hb:(match eR Ws es i with|some (q,_)=>¬yq q q'|none=>True)∧∀y,eR Ws es i=some (q',y)→T.tw y=true:=by
          rcases hx with hx|hx
          · exact⟨hbeh i q' hx,λy hf=>absurd hf (hnw _ _ _ hx)⟩
          · split at hx
            · rename_i q y hf;simp only[Bool.and_eq_true]at hx;have hll:=eq_of_beq_eq_true hx.1;refine⟨?_,λy' hf'=>?_⟩
              · try simp only[hf]
                rintro ⟨a,s,rfl⟩
                simp at hll
              · rw[hf]at hf';cases hf';exact hx.2
            · rename_i hf;exact⟨by first|(simp only[hf];done)|trivial,λy hf'=>by rw[hf]at hf';cases hf'⟩
        obtain⟨g1,g2,g3⟩:=hway i m' t' q' h1 h2 hb.1;have hS:∃n len f,(jf es Ws i t').at q'= .s n len f:=by
          rcases g3 with⟨y,hf,hy⟩|g3
          · obtain⟨n,len,f,rfl⟩:=T.qy (hb.2 y hf);exact⟨n,len,f,hy⟩
          · obtain⟨n,len,f,h3⟩:=h3;obtain⟨f',h'⟩:=g3 _ _ _ h3;exact⟨_,_,f',h'⟩
        exact⟨m',_,fo.2 ⟨t',h1,rfl⟩,g1,hS,by rw[g2];exact h6⟩
      | a i q' n' lo len=>
        obtain⟨m',t',h1,h2,⟨l',f',h3,h4⟩,h6⟩:=h;obtain⟨g1,g2,g3⟩:=hway i m' t' q' h1 h2 (hbeh i q' hx);rcases g3 with⟨y,hf,_⟩|g3
        · exact absurd hf (hnw _ _ _ hx)
        obtain⟨f2,g5⟩:=g3 _ _ _ h3;exact⟨m',_,fo.2 ⟨t',h1,rfl⟩,g1,⟨l',f2,g5,h4⟩,by rw[g2];exact h6⟩
      | _=>exact hl.elim) (qe hx) h
  have hsz:w.heap.size≤w'.heap.size:=hC.size;have hRp:Rp (dZ es Ws L) (Act.val a) H G3 w':=by
    refine⟨λid m t m' t' h1 h2=>?_,λid m t h1 h2=>?_,λid t h1=>?_,λid t h1=>?_,λid t h1=>?_,λid m t id' m' t' h1 h2 hne hm x y hx hy=>?_,λt x h=>?_,λid c x h=>?_⟩
    · obtain⟨t0,g1,rfl⟩:=hrt h1;obtain⟨t1,g2,rfl⟩:=hrt h2;obtain⟨rfl,rfl⟩:=hr.one _ _ _ _ _ g1 g2;exact⟨rfl,rfl⟩
    · obtain⟨t0,g1,rfl⟩:=hrt h1;rcases hwr id with⟨q,y,hf,e,he,rfl,rfl,hy⟩|⟨hf,hn⟩
      · simp only[jf,hf];exact(hset e he y hy m t0 g1).1
      · simp only[jf,hf];rw[(hG3 id).2 hn];exact(hr.own id m t0 g1 h2).frame hC (hkeep id hn m t0 g1)
    · obtain⟨t0,g1,rfl⟩:=hrt h1;rcases hwr id with⟨q,y,hf,e,he,rfl,rfl,hy⟩|⟨hf,hn⟩
      · exact absurd rfl (hmode e he (by rw[hy];rfl) _ _ g1)
      · simp only[jf,hf];rw[(hG3 id).2 hn];exact(hr.ro id t0 g1).frame hC (hkeep id hn _ t0 g1)
    · obtain⟨t0,g1,rfl⟩:=hrt h1;rcases hwr id with⟨q,y,hf,e,he,rfl,rfl,hy⟩|⟨hf,hn⟩
      · exact absurd rfl (hmode e he (by rw[hy];rfl) _ _ g1)
      · rw[(hG3 id).2 hn];exact λx y h=>Nat.lt_of_lt_of_le (hr.gv id t0 g1 x y h) hsz
    · obtain⟨t0,g1,rfl⟩:=hrt h1;obtain⟨n,f,rfl⟩:=hr.box id t0 g1;rcases hwr id with⟨q,y,hf,e,he,rfl,rfl,hy⟩|⟨hf,hn⟩
      · simp only[jf,hf];rcases hmode2 e he y hy _ g1 with hq|⟨n',f',rfl⟩
        · cases hqq:e.2.2.1 with
          | nil=>exact absurd hqq hq
          | cons a r=>exact⟨_,_,by simp only[T.set];rfl⟩
        · cases hqq:e.2.2.1 with
          | nil=>exact⟨_,_,by simp only[T.set];rfl⟩
          | cons a r=>exact⟨_,_,by simp only[T.set];rfl⟩
      · simp only[jf,hf];exact⟨_,_,rfl⟩
    · obtain⟨t0,g1,rfl⟩:=hrt h1;obtain⟨t1,g2,rfl⟩:=hrt h2;rcases hcases id m t0 g1 x y hx with⟨hx1,hx2⟩|⟨e,he,hw,hid,hx1⟩<;>rcases hcases id' m' t1 g2 x y hy with⟨hy1,hy2⟩|⟨e',he',hw',hid',hy1⟩
      · exact hr.jX _ _ _ _ _ _ g1 g2 hne hm x y hx1 hy1
      · rcases hG2 e' he' hw' x y hy1 with h|h
        · exact hx2 h
        · have:=hold _ _ _ g1 x y hx1;omega
      · rcases hG2 e he hw x y hx1 with h|h
        · exact hy2 h
        · have:=hold _ _ _ g2 x y hy1;omega
      · obtain⟨z,hz⟩:=Option.isSome_iff_exists.1 hw;obtain⟨z',hz'⟩:=Option.isSome_iff_exists.1 hw';have hee:e.1≠e'.1:=λhh=>hne (by rw[←hid,←hid',gz hnd he he' hh]);exact k1.jX _ _ _ _ _ _ (hpost _ (fQ hz)) (hpost _ (fQ hz')) hee (by simp) x y hx1 hy1
    · obtain⟨h1,h2⟩:=jv h;exact hleaf h2 (hr.sl t x h1)
    · obtain⟨h1,h2,h3⟩:=jt h;obtain⟨n,f,g1,g2,A,v,g3,g4,g5⟩:=hr.al id c x h1;have hq0:∀q y,eR Ws es id=some (q,y)→q≠[]:=λq y hf hqq=>by
        simp only[ke,hf,hqq,Bool.not_eq_true']at h3;have:=nD (q:=([]:bJ)) (s:=[(0,0,c)]);rw[nil_append,h3]at this;cases this
      have hbx:∃f',aW (dZ es Ws L) id .box (.s n 1 f'):=by
        refine(?_:∃f',jf es Ws id (.s n 1 f)= .s n 1 f').imp λf' hf'=>fo.2 ⟨_,g1,hf'.symm⟩;rcases hwr id with⟨q,y,hf,e,he,rfl,rfl,hy⟩|⟨hf,hn⟩
        · have hq:=hq0 _ _ hf;simp only[jf,hf];cases hqq:e.2.2.1 with
          | nil=>exact absurd hqq hq
          | cons a r=>exact⟨_,by simp only[T.set];rfl⟩
        · simp only[jf,hf];exact⟨_,rfl⟩
      obtain⟨f',hbx⟩:=hbx;obtain⟨b,o,rfl,hGb⟩:=nK hr g1 g2 g3;refine⟨n,f',hbx,g2,_,v,g3,hC.cell g4 λhs'=>?_,hleaf h2 g5⟩;obtain⟨e,he,hw,hid,hg'⟩:=hSG _ _ _ g1 b o hGb hs';obtain⟨y,hy⟩:=Option.isSome_iff_exists.1 hw;subst hid;have hq:e.2.2.1≠[]:=by
        rcases hwr e.2.1 with⟨q2,y2,hf2,e2,he2,hid2,rfl,hy2⟩|⟨hf2,hn2⟩
        · have:e2=e:=by
            rcases Nat.decEq e2.1 e.1 with h|h
            · exact absurd hid2 (hap e2 he2 e he (by rw[hy2];rfl) h)
            · exact gz hnd he2 he h
          subst this;exact hq0 _ _ hf2
        · rw[hn2 e he rfl]at hy;cases hy
      obtain⟨_,_,_,_,_,_,e6⟩:=hP0 e he;refine e6 hw hq _ n 1 f g1 0 c b o (by omega) g2 ?_ hg';obtain⟨a0,l0,c0,q1,q2⟩:=eD g3;rw[q1,q2];simp[hL]
  have hinv:∀i,(nu d i-d) / 1000=i:=λi=>by simp only[nu];omega
  have hbase:aa=100000:=rfl;have hmem:∀r∈eA d L0,∃r0∈L0,r=(nu d r0.1,r0.2):=λr hr=>by
    obtain⟨r0,h,e⟩:=List.mem_map.1 hr;exact⟨r0,h,e.symm⟩
  have hnd2:((eA d L0).map (·.1)).Nodup:=by
    have e:(eA d L0).map (·.1)=(L0.map (·.1)).map (nu d):=by simp[eA]
    rw[e];exact List.pairwise_map.2 (hn.imp λ{x y} h e=>h (by simp only[nu]at e;omega))
  have hfromL2:∀r∈L0,∀a o,G2 (ρ' r.1) a o→S a o∨w.heap.size≤a:=λr hr0 a o hg=>by
    obtain⟨g1,g2,_⟩:=r2 r hr0;rcases k4 _ _ _ g2 g1 a o hg with⟨id,m,t,h1,h2,h3⟩|h
    · obtain⟨e',he',rfl,_,h4,_⟩:=hrow id m t h1 h2;exact .inl ⟨e',he',h4,h3⟩
    · exact .inr h
  have hnews:=hRp.news (λi=>G2 (ρ' ((i-d) / 1000))) (λi=>H2 (ρ' ((i-d) / 1000))) (eA d L0) hnd2 (λr hr0 b o hF id m t hid hG4=>by
      obtain⟨r0,h0,rfl⟩:=hmem r hr0;simp only[hinv]at hF;obtain⟨t0,g1,rfl⟩:=hrt hid;rcases hcases id m t0 g1 b o hG4 with⟨hx1,hx2⟩|⟨e,he,hw,hid2,hx1⟩
      · rcases hfromL2 r0 h0 b o hF with h|h
        · exact hx2 h
        · have:=hold _ _ _ g1 b o hx1;omega
      · obtain⟨z,hz⟩:=Option.isSome_iff_exists.1 hw;obtain⟨q1,q2,q3⟩:=r2 r0 h0;have hb1:=(hent e he).2.1;exact k1.jX _ _ _ _ _ _ (hpost _ (fQ hz)) q2 (by simp only;omega) (by simp) b o hx1 hF) (λr hr0=>by
      obtain⟨r0,h0,rfl⟩:=hmem r hr0;obtain⟨g1,g2,_⟩:=r2 r0 h0;simp only[hinv];exact⟨g1,k1.own _ _ _ g2 g1,λe=>by rw[e]at g2;exact k1.box _ _ g2⟩) (λr hr0 r' hr' hne b o hF hF'=>by
      obtain⟨r0,h0,rfl⟩:=hmem r hr0;obtain⟨r0',h0',rfl⟩:=hmem r' hr';simp only[hinv]at hF hF';have hne':ρ' r0.1≠ρ' r0'.1:=λe=>hne (by rw[gz rn h0 h0' e]);exact k1.jX _ _ _ _ _ _ (r2 r0 h0).2.1 (r2 r0' h0').2.1 hne' (r2 r0 h0).1 b o hF hF')
  let H4:Nat→Value:=λi=>if i∈(eA d L0).map (·.1)then H2 (ρ' ((i-d) / 1000))else H i
  have hout:∀id,id∈L0.map (·.1)→∀m t,aW L2 (ρ' id) m t→aW (gn (dZ es Ws L) (eA d L0)) (nu d id) m t∧H4 (nu d id)=H2 (ρ' id):=λid hid m t hh=>by
    obtain⟨r0,h0,rfl⟩:=List.mem_map.1 hid;obtain⟨g1,g2,_⟩:=r2 r0 h0;obtain⟨rfl,rfl⟩:=k1.one _ _ _ _ _ hh g2;have hin:nu d r0.1∈(eA d L0).map (·.1):=List.mem_map.2 ⟨_,List.mem_map.2 ⟨r0,h0,rfl⟩,rfl⟩;refine⟨(fq hnd2).2 (.inl (List.mem_map.2 ⟨r0,h0,rfl⟩)),?_⟩;show(if _ then _ else _)=_;rw[if_pos hin,hinv]
  -- what was handed over, as the caller names it
  have hback:∀e∈es,∀v,VR (aW L2) H2 w' (.h e.1 []) v→(∀i∈L0.map (·.1),nu d i≠e.2.1)→VR (aW (gn (dZ es Ws L) (eA d L0))) H4 w' (.h e.2.1 e.2.2.1) v:=λe he v hv hne=>by
    obtain⟨m2,t2,h1,_,⟨n2,l2,f2,h3⟩,h4⟩:=hv;simp only[T.at]at h3;simp only[VM.hd,Option.some.injEq]at h4;subst h4;have hb1:=(hent e he).2.1;have hh2:H2 e.1=H' e.1:=k5 _ _ _ hb1 h1;obtain⟨⟨m0,t0,hv0,g1,g2,g3,⟨n0,l0,f0,g4⟩,g5⟩,_⟩:=hent e he;have hni:e.2.1 ∉ (eA d L0).map (·.1):=λhm=>by
      obtain⟨r,hr0,hre⟩:=List.mem_map.1 hm;obtain⟨r0,h0,rfl⟩:=hmem r hr0;exact hne r0.1 (List.mem_map.2 ⟨r0,h0,rfl⟩) hre
    have hH4:H4 e.2.1=H e.2.1:=if_neg hni;have hb:(match eR Ws es e.2.1 with|some (q,_)=>¬yq q e.2.2.1|none=>True):=by
      rcases hwr e.2.1 with⟨q,y,hf,e',he',hid,rfl,hy⟩|⟨hf,hn'⟩
      · simp only[hf];have:e'=e:=by
          rcases Nat.decEq e'.1 e.1 with h|h
          · exact absurd hid (hap e' he' e he (by rw[hy];rfl) h)
          · exact gz hnd he' he h
        subst this
        rintro ⟨a,s,hs'⟩
        have:=congrArg length hs';simp at this
      · simp only[hf]
    obtain⟨c1,c2,c3⟩:=hway e.2.1 m0 t0 e.2.2.1 g1 g2 hb;have hS:∃n len f,(jf es Ws e.2.1 t0).at e.2.2.1= .s n len f:=by
      rcases c3 with⟨y,hf,hy⟩|c3
      · obtain⟨e',he',hid,hq',hy'⟩:=kI hf;have:e'=e:=by
          rcases Nat.decEq e'.1 e.1 with h|h
          · exact absurd hid (hap e' he' e he (by rw[hy'];rfl) h)
          · exact gz hnd he' he h
        subst this;obtain⟨_,ht⟩:=k1.one _ _ _ _ _ h1 (hpost _ (fQ hy'));exact⟨_,_,_,hy.trans (ht.symm.trans h3)⟩
      · obtain⟨f',h'⟩:=c3 _ _ _ (g3.trans g4);exact⟨_,_,f',h'⟩
    refine⟨m0,jf es Ws e.2.1 t0,(fq hnd2).2 (.inr ⟨fo.2 ⟨t0,g1,rfl⟩,hni⟩),c1,hS,?_⟩;rw[hH4,c2,hh2,hH' e he]
  have hv:=w_ (R:=aW L2) (R':=aW (gn (dZ es Ws L) (eA d L0))) (H:=H2) (H':=H4) (w:=w') (d:=d) (es:=es) (ids:=L0.map (·.1)) (ρ:=ρ') hfix (λi hi=>by
    obtain⟨r0,h0,rfl⟩:=List.mem_map.1 hi;have:=List.all_eq_true.1 hb _ h0;simp only[Bool.and_eq_true,decide_eq_true_eq]at this;exact this.2) hout hback hx0 k2
  refine⟨by rw[hds];simpa [Go.Act.put]using hs.kL,by rw[hds];simpa [Go.Act.put]using hs.kP,hs.gh.step hC (λx y hx ⟨e,he,hw,hg⟩=>?_),H4,(λi=>if i∈(eA d L0).map (·.1)then G2 (ρ' ((i-d) / 1000))else G3 i),?_,?_⟩
  · obtain⟨_,_,_,e3,_⟩:=hP0 e he;obtain⟨⟨m0,t0,_,g1,_⟩,_⟩:=hent e he;exact(hG.1 _ _ _ g1 (hmode e he hw _ _ g1) x y (e3 x y hg)).resolve_right (by omega)
  · rw[hds];exact(hnews.put (x:=X0.out d es) (v:=v) hv).val λt=>(Act.iW (Nat.lt_of_lt_of_le hN hs.kL) t).symm
  · rw[cu];have hSg:∀x y,S x y→cx.S0 x y∨cx.w0.heap.size≤x:=λx y ⟨e',he',hw',hg'⟩=>by
      obtain⟨_,_,_,e3,_⟩:=hP0 e' he';obtain⟨⟨m0,t0,_,g1,_⟩,_⟩:=hent e' he';exact hG.1 _ _ _ g1 (hmode e' he' hw' _ _ g1) x y (e3 x y hg')
    refine⟨λid m t h1 h2 x y hg=>?_,λid m t hbs h1=>?_⟩
    · rcases(fq hnd2).1 h1 with hh|⟨hh,hni⟩
      · obtain⟨⟨i0,m0,t0⟩,h0,e⟩:=hmem _ hh;cases e;have hin:nu d i0∈(eA d L0).map (·.1):=List.mem_map.2 ⟨_,hh,rfl⟩;simp only[hin,if_true,hinv]at hg;rcases hfromL2 _ h0 x y hg with h|h
        · exact hSg x y h
        · have:=hs.gh.size;exact .inr (by omega)
      · simp only[hni,if_false]at hg;obtain⟨t0,g1,rfl⟩:=hrt hh;rcases hcases id m t0 g1 x y hg with⟨hx1,_⟩|⟨e,he,hw,hid,hx1⟩
        · exact hG.1 _ _ _ g1 h2 x y hx1
        · rcases hG2 e he hw x y hx1 with h|h
          · exact hSg x y h
          · have:=hs.gh.size;exact .inr (by omega)
    · rcases(fq hnd2).1 h1 with hh|⟨hh,hni⟩
      · obtain⟨⟨i0,m0,t0⟩,h0,e⟩:=hmem _ hh;cases e;have:=List.all_eq_true.1 hb _ h0;simp only[Bool.and_eq_true,decide_eq_true_eq]at this;have h6:aa≤nu d i0:=hbs;omega
      · show(if _ then _ else _)=_;rw[if_neg hni];obtain⟨t0,g1,rfl⟩:=hrt hh;exact hG.2 _ _ _ hbs g1
theorem aK.bW{Ws:List (Nat×T)}{f:FuncId}{cal:Operand}{args:Array Operand}{tys:Array TypeId}{xs:List X}{ρ:List E}{es:List eL}{m:Nat}{X0:X}{L0:List (Nat×M×T)}(hds:dst=some d)(hN:d<N)(hE:l4 P f)(hcal:cw L cal= .f f [])(hc:bf P f xs ρ (cn X0 L0 Ws))(hq:yc L (args.toList.map (cw L)) aa=(xs,es,m))(hρ:kX Ws es=ρ)(hok:Bh L Ws es=true)
  (hn:(L0.map (·.1)).Nodup) (hb:(L0.all λr=>nu d r.1<aa&&r.1<aa)=true) (hx0:X0.tZ d es (L0.map (·.1))=true):
  aK P N ⟨dst, .call { callee:= .value cal,args:=args,argTypes:=tys },ty,pos,af,g⟩ L (cq (gn (dZ es Ws L) (eA d L0)) d (X0.out d es)):=
 aK.Be Ws hds hN hE hcal hq hok (hρ ▸ hc) hn hb hx0
end
open Go Go.RowKit
section
variable{P:Program}{N:Nat}{Q:Exit→List E→Prop}{L:List E}{ops:Array Oper}{rest:List Oper}{dst:Option Tmp}{ty:TypeId}{pos:String}{af:Array Edge}{g:Option (Nat×Bool)}{d:Nat}
theorem az.nj{t t2 e:TypeId}{x:Operand}{id:Nat}{q:bJ}{n len:Nat}{f:Nat→Nat→T}{gb:Bool}(hw:cf ops L ⟨dst, .binOp .eql t x (.const (.slice none 0 0)) t2,ty,pos,af,g⟩=some gb)(hgb:gb=true)(hd:dst=some d)(hN:d<N)(hx:cw L x= .h id q){m:M}{T0:T}(hR:b7 L id=some (m,T0))(hT:T0.at q= .s n len f)(hS:Sl P t e)
  (k:∀b:Bool,(b=true→len=0)→az P N ops rest Q (cq L d (.v (.bool b)))):az P N ops (⟨dst, .binOp .eql t x (.const (.slice none 0 0)) t2,ty,pos,af,g⟩ :: rest) Q L:=λcx a w hs=>by
 obtain⟨H,G,hr,hG⟩:=hs.rp;have h:=dC hr x;rw[hx]at h;obtain⟨m',t',g1,g2,g3,g4⟩:=h;obtain⟨rfl,rfl⟩:=hr.one _ _ _ _ _ g1 (aq hR);obtain⟨h',F,e1,e2⟩:=hr.node g1 g2;rw[g4]at e1;cases e1;rw[hT]at e2;obtain⟨hn,ad,cap,h0,hl,hm,b,off,V,G',h1,h2⟩:=e2;subst hgb;simp only[wpList,iq hw hr,if_true];refine .inl ?_;unfold Oper.wp;have hgd:eqGuard .eql t x (.const (.slice none 0 0)) (.slice ad len cap) (.slice none 0 0)=pure ():=rfl;have:(execOp a.eval ⟨dst, .binOp .eql t x (.const (.slice none 0 0)) t2,ty,pos,af,g⟩).run P w= .ok (.value (.bool ad.isNone)) w:=by
  have hbin:(binOp .eql t (.slice ad len cap) (.slice none 0 0)).run P w= .ok (.bool ad.isNone) w:=Lib.run_eql_slice_nil w _ _ ad len cap 0 0 hS;have hev:Act.eval a (.const (.slice none 0 0))= .slice none 0 0:=rfl;refine jW ?_;simp only[h0,hev,hgd,Sem.run_bind];simp[hbin]
 rw[this];rw[Oper.upon_value];refine k ad.isNone (λhb=>?_) cx _ _ ?_
 ·rcases eq_zero_or_pos len with h|h
  ·exact h
  ·rw[h1 h]at hb;cases hb
 ·show Sat N cx _ (a.put dst (.bool ad.isNone)) w;rw[hd];exact hs.put hr hG hN rfl
end

section
variable{P:Program}{N:Nat}{Q:Exit→List E→Prop}{L:List E}{cx:Cx}{a:Act}{w:World}{val H:Nat→Value}{G:Nat→FP}
theorem ld{L:List E}{id:Nat}(h:b7 L id=none):∀m t,¬aW L id m t:=by
 induction L with
 | nil=>intro m t h;cases h
 | cons x r ih=>
  intro m t hm;cases x with
  | sl s x=>
   rcases List.mem_cons.1 hm with hm|hm
   ·cases hm
   ·exact ih (by simpa only[b7]using h) m t hm
  | al s c x=>
   rcases List.mem_cons.1 hm with hm|hm
   ·cases hm
   ·exact ih (by simpa only[b7]using h) m t hm
  | rt j m1 t1=>
   simp only[b7]at h;split at h
   ·cases h
   ·rename_i hne;rcases List.mem_cons.1 hm with hm|hm
    ·cases hm;exact hne rfl
    ·exact ih h m t hm
theorem Rp.more(hr:Rp L val H G w){nid:Nat}{t:T}{F:FP}{h:Value}(hf:∀m t,¬aW L nid m t)(hO:dA w t F h)(hF:∀id m t,aW L id m t→∀a o,G id a o→F a o→False):Rp (.rt nid .row t :: L) val (bq H nid h) (bq G nid F) w:=by
 have hrt:∀{id m' t'},aW (.rt nid .row t :: L) id m' t'→(id=nid∧m'= .row∧t'=t)∨(id≠nid∧aW L id m' t'):=λ{id m' t'} h=>by
  rcases List.mem_cons.1 h with h|h
  ·cases h;exact .inl ⟨rfl,rfl,rfl⟩
  ·exact .inr ⟨λe=>hf m' t' (e ▸ h),h⟩
 have hsub:∀{x v},VR (aW L) H w x v→VR (aW (.rt nid .row t :: L)) (bq H nid h) w x v:=λhv=>hv.same λid m t hh=>⟨mem_cons_of_mem _ hh,by
  have:id≠nid:=λe=>hf m t (e ▸ hh);simp[bq,this]⟩
 refine⟨?_,?_,?_,?_,?_,?_,?_,?_⟩
 ·intro id m1 t1 m2 t2 h1 h2;rcases hrt h1 with⟨rfl,rfl,rfl⟩|⟨hne,h1⟩<;>rcases hrt h2 with⟨e,rfl,rfl⟩|⟨hne',h2⟩
  ·exact⟨rfl,rfl⟩
  ·exact absurd rfl hne'
  ·exact absurd e hne
  ·exact hr.one _ _ _ _ _ h1 h2
 ·intro id m1 t1 h1 hm1;rcases hrt h1 with⟨rfl,rfl,rfl⟩|⟨hne,h1⟩
  ·simpa [bq]using hO
  ·simpa [bq,hne]using hr.own _ _ _ h1 hm1
 ·intro id t1 h1;rcases hrt h1 with⟨rfl,e,rfl⟩|⟨hne,h1⟩
  ·cases e
  ·simpa [bq,hne]using hr.ro _ _ h1
 ·intro id t1 h1;rcases hrt h1 with⟨rfl,e,rfl⟩|⟨hne,h1⟩
  ·cases e
  ·simpa [bq,hne]using hr.gv _ _ h1
 ·intro id t1 h1;rcases hrt h1 with⟨rfl,e,rfl⟩|⟨hne,h1⟩
  ·cases e
  ·exact hr.box _ _ h1
 ·intro id m1 t1 id' m2 t2 h1 h2 hne hm1 x y;rcases hrt h1 with⟨rfl,rfl,rfl⟩|⟨hne1,k1⟩<;>rcases hrt h2 with⟨rfl,rfl,rfl⟩|⟨hne2,k2⟩
  ·exact absurd rfl hne
  ·simp only[bq,if_true,hne2,if_false];exact λa b=>hF _ _ _ k2 x y b a
  ·simp only[bq,if_true,hne1,if_false];exact λa b=>hF _ _ _ k1 x y a b
  ·simp only[bq,hne1,hne2,if_false];exact hr.jX _ _ _ _ _ _ k1 k2 hne hm1 x y
 ·intro t1 x h1;rcases List.mem_cons.1 h1 with h1|h1
  ·cases h1
  ·exact hsub (hr.sl t1 x h1)
 ·intro id c x h1;rcases List.mem_cons.1 h1 with h1|h1
  ·cases h1
  ·obtain⟨n,f,g1,g2,A,v,g3,g4,g5⟩:=hr.al id c x h1;have hne:id≠nid:=λe=>hf _ _ (e ▸ g1);exact⟨n,f,mem_cons_of_mem _ g1,g2,A,v,by simpa [bq,hne]using g3,g4,hsub g5⟩
theorem Good.more{nid:Nat}{t:T}{F:FP}{h:Value}(hG:Good cx L H G)(hf:∀m t,¬aW L nid m t)(hb:nid<aa)(hF:∀a o,F a o→cx.S0 a o∨cx.w0.heap.size≤a):Good cx (.rt nid .row t :: L) (bq H nid h) (bq G nid F):=by
 refine⟨λid m1 t1 h1 h2 x y hg=>?_,λid m1 t1 h0 h1=>?_⟩
 ·rcases List.mem_cons.1 h1 with h1|h1
  ·cases h1;simp only[bq,if_true]at hg;exact hF x y hg
  ·have hne:id≠nid:=λe=>hf _ _ (e ▸ h1);simp only[bq,hne,if_false]at hg;exact hG.1 id m1 t1 h1 h2 x y hg
 ·rcases List.mem_cons.1 h1 with h1|h1
  ·cases h1;omega
  ·have hne:id≠nid:=λe=>hf _ _ (e ▸ h1);simp only[bq,hne,if_false];exact hG.2 id m1 t1 h0 h1
theorem AW.k7{c:Code}(s nid n:Nat)(hn:0<n)(hs:aA L s= .v (.slice none 0 0))(hf:b7 L nid=none)(hb:nid<aa)(k:AW P N c Q (cq (.rt nid .row (.s n 0 λ_ _=> .j) :: L) s (.h nid []))):AW P N c Q L:=λcx a w hsat=>by
 refine k cx a w ?_;obtain⟨H,G,hr,hG⟩:=hsat.rp;have hv:Act.val a s= .slice none 0 0:=by
  have h:=dC hr (.tmp s);simp only[cw,hs,VR]at h;exact h
 have hO:dA w (.s n 0 λ_ _=> .j) (λ_ _=>False) (.slice none 0 0):=ZC.own (t:= .s n 0 λ_ _=> .j) ⟨hn,rfl,rfl⟩;have h1:=hr.more (ld hf) hO λ_ _ _ _ _ _ _ h=>h;have h2:=h1.put (d:=s) (x:= .h nid []) (v:= .slice none 0 0) ⟨.row,_,mem_cons_self .., by simp[ck],⟨n,0,λ_ _=> .j,by simp only[T.at]⟩,by simp only[VM.hd,bq,if_true]⟩;refine⟨hsat.kL,hsat.kP,hsat.gh,_,_,h2.val λt=>?_,?_⟩
 ·split
  ·rename_i e;rw[e,hv]
  ·rfl
 ·rw[cu];exact Good.more hG (ld hf) hb λ_ _ h=>h.elim
end
open Go Go.RowKit
section
variable{P:Program}{N:Nat}{Q:Exit→List E→Prop}{L:List E}
theorem AW.len{c:Code}(id:Nat)(q:bJ){m:M}{t:T}{n len:Nat}{f:Nat→Nat→T}(hR:b7 L id=some (m,t))(hq:ck t q)(hT:t.at q= .s n len f)(k:len≤9223372036854775807→AW P N c Q L):AW P N c Q L:=λcx a w hs=>by
 obtain⟨H,G,hr,hG⟩:=hs.rp;obtain⟨h',F,_,h2⟩:=hr.node (aq hR) hq;rw[hT]at h2;obtain⟨_,cap,_,h3,h4⟩:=h2.Bp;exact k (by simp only[maxLen]at h4;omega) cx a w hs
end

def fR{α:Type}[En α](k len:Nat)(g h:Nat→α):T:= .s (En.n α) len λi c=>(En.cs (if i<k then g i else h i)).getD c .j
section
variable{α:Type}[En α]{len k:Nat}{g h:Nat→α}{l:List α}
theorem eP(hk:len≤k)(hl:l.length=len)(hg:∀i,i<len→g i=l.getD i En.ab):(fR k len g h).aZ (tr l):=by
 subst hl;exact T.wJ λi c hi _=>by rw[if_pos (by omega),hg i hi]
theorem eU{f:Nat→Nat→T}(ho:∀i c,i≠k→f i c=(En.cs (if i<k then g i else h i)).getD c .j)(hc:∀c,c<En.n α→(f k c).aZ ((En.cs (g k)).getD c .j)):(T.s (En.n α) len f).aZ (fR (k+1) len g h):=by
 refine⟨_,rfl,λi c _ hcc=>?_⟩
 by_cases e:i=k
 ·subst e;rw[if_pos (by omega)];exact hc c hcc
 ·rw[ho i c e];have:(if i<k+1 then g i else h i)=if i<k then g i else h i:=by
   by_cases h1:i<k
   ·rw[if_pos h1,if_pos (by omega)]
   ·rw[if_neg h1,if_neg (by omega)]
  rw[this];exact T.eZ _
end
structure ei(n:Nat) where
 k:Nat
 le:k≤n
structure iz{α:Type}(l l':List α) where
 k:Nat
 le:k≤l.length
 eq:l.take k=l'.take k
section
variable{α:Type}{l l':List α}
theorem iz.next(i:iz l l')(d:α)(hl:l.length=l'.length)(hk:i.k<l.length)(h:l.getD i.k d=l'.getD i.k d):l.take (i.k+1)=l'.take (i.k+1):=by
 rw[take_add_one,take_add_one,i.eq];congr 1;rw[getElem?_eq_getElem hk,getElem?_eq_getElem (hl ▸ hk)];simp only[getD_eq_getElem?_getD,getElem?_eq_getElem hk,getElem?_eq_getElem (hl ▸ hk),Option.getD_some]at h;rw[h]
theorem iz.stop(i:iz l l')(d:α)(h:l.getD i.k d≠l'.getD i.k d):l≠l':=λe=>h (congrArg (λx=>x.getD i.k d) e)
theorem iz.full(i:iz l l')(hl:l.length=l'.length)(hk:¬i.k<l.length):l=l':=by
 have h:=i.eq
 rwa [take_of_length_le (by omega),take_of_length_le (by omega)]at h
theorem fm(h:l.length≠l'.length):l≠l':=λe=>h (by rw[e])
end
def ia(n:Nat)(left:Int):Int:=if left-n<0 then -1 else left-n

class Mk (α:Type) extends En α where
 wt:α→Nat
 dO:α→Nat
 mark:α→Int→α
 dN:∀a k,dO (mark a k)=dO a
def lN{α:Type}(w:α→Nat)(l:List α):Nat:=(l.map w).foldr (· + ·) 0
def bB{α:Type}(c:α→Nat)(d:α)(l:List α):Nat→Nat
 | 0=>0
 | i+1=>bB c d l i+c (l.getD i d)
def BN{α:Type}[Mk α](l:List α)(k:Int)(i:Nat):α:=Mk.mark (l.getD i En.ab) (k+bB Mk.dO En.ab l i)
def Ap{α:Type}[Mk α](l:List α)(k:Int):List α:=(range l.length).map (BN l k)
theorem yL{α:Type}[Mk α](l:List α)(k:Int):(Ap l k).length=l.length:=by simp[Ap]
theorem yj{α:Type}[Mk α](l:List α)(k:Int){i:Nat}(hi:i<l.length):(Ap l k).getD i En.ab=BN l k i:=by
 simp[Ap,getD_eq_getElem?_getD,hi]
theorem vc{α:Type}[Mk α](l:List α)(k:Int):∀{i:Nat},i≤l.length→bB Mk.dO En.ab (Ap l k) i=bB Mk.dO En.ab l i
 | 0,_=>rfl
 | i+1,h=>by
  simp only[bB];rw[vc l k (by omega),yj l k (by omega),BN,Mk.dN]
theorem dQ{α:Type}{c:α→Nat}{d:α}{l:List α}:∀{i j:Nat},i≤j→bB c d l i≤bB c d l j
 | i,0,h=>by rw[show i=0 by omega];exact Nat.le_refl _
 | i,j+1,h=>by
  rcases Nat.lt_or_ge i (j+1)with h'|h'
  ·have:=dQ (c:=c) (d:=d) (l:=l) (show i≤j by omega);simp only[bB];omega
  ·rw[show i=j+1 by omega];exact Nat.le_refl _
instance:Mk Int:={ wt:=λ_=>0,dO:=λ_=>1,mark:=λ_ k=>k,dN:=λ_ _=>rfl }
instance:Mk Bool:={ wt:=λ_=>0,dO:=λ_=>1,mark:=λ_ k=>decide (k.tmod 3=0),dN:=λ_ _=>rfl }
instance zR {α:Type} [Mk α]:Mk (List α):={ wt:=λl=>l.length+lN Mk.wt l,dO:=λl=>bB Mk.dO En.ab l l.length,mark:=Ap,dN:=λl k=>by rw[yL];exact vc l k (Nat.le_refl _) }
theorem ga{α:Type}{w:α→Nat}{d:α}:∀{l:List α} {i:Nat},i<l.length→w (l.getD i d)≤lN w l
 | x :: l,0,_=>by simp[lN]
 | x :: l,i+1,h=>by
  have:=ga (w:=w) (d:=d) (l:=l) (i:=i) (by simpa using h);simp only[getD_cons_succ];simp only[lN,map_cons,foldr_cons]at this ⊢;omega
theorem da{α:Type}[Mk α](l:List α):Mk.wt l=l.length+lN Mk.wt l:=rfl
theorem j_{α:Type}{w:α→Nat}(h:∀a,w a=0):∀l:List α,lN w l=0
 | []=>rfl
 | x :: l=>by
  have:=j_ h l;simp only[lN,map_cons,foldr_cons,h]at this ⊢;omega
theorem zJ(a:Int):En.cs a=[.v (iv a)]:=rfl
theorem yN(a:Bool):En.cs a=[.v (.bool a)]:=rfl
theorem Aa(a:ByteArray):En.cs a=[.v (.string a)]:=rfl
theorem yV{α:Type}[En α](a:List α):En.cs a=[tr a]:=rfl
theorem xz{α:Type}[En α](L:List E)(id:Nat)(q:bJ)(n k c:Nat)(l:List α):fZ L id q n k c (tr l)= .h id (q++[(n,k,c)]):=rfl
open Go Go.RowKit
theorem db{a b:Int}(h: -9223372036854775808≤a+b∧a+b≤9223372036854775807):dV .add (iv a) (iv b)=some (iv (a+b)):=by
 show some (Value.int .i64 (IntKind.i64.wrap (a+b)))=_;rw[IntWalk.i64_in _ h]
theorem bg{a b:Int}(h: -9223372036854775808≤a-b∧a-b≤9223372036854775807):dV .sub (iv a) (iv b)=some (iv (a-b)):=by
 show some (Value.int .i64 (IntKind.i64.wrap (a-b)))=_;rw[IntWalk.i64_in _ h]
theorem eJ{a b:Int}(h: -9223372036854775808≤a*b∧a*b≤9223372036854775807):dV .mul (iv a) (iv b)=some (iv (a*b)):=by
 show some (Value.int .i64 (IntKind.i64.wrap (a*b)))=_;rw[IntWalk.i64_in _ h]
theorem aj(f:Nat→Nat→T)(k c:Nat)(y:T)(k' c':Nat):mU f k c y k' c'=if k'=k∧c'=c then y else f k' c':=rfl
theorem BF(a b:Nat):beq a b=(a==b):=by
 rw[Bool.eq_iff_iff,beq_eq];simp
theorem yE(L:List E)(id:Nat)(q:bJ)(n k c:Nat)(y:Go.Value):fZ L id q n k c (.v y)= .v y:=rfl
theorem yw(L:List E)(id:Nat)(q:bJ)(n k c m l:Nat)(f:Nat→Nat→T):fZ L id q n k c (.s m l f)= .h id (q++[(n,k,c)]):=rfl
theorem Bk(L:List E)(id:Nat)(q:bJ)(n k c:Nat):fZ L id q n k c .j=match q,k with| [],0=>(match fY L id c with| .j=> .c|x=>x)|_,_=> .c:=rfl
theorem wL(L:List E)(id:Nat)(n c:Nat):fZ L id [] n 0 c .j=match fY L id c with| .j=> .c|x=>x:=rfl
theorem w3(L:List E)(id:Nat)(a:Nat×Nat×Nat)(q:bJ)(n k c:Nat):fZ L id (a :: q) n k c .j= .c:=rfl
theorem xM{L:List E}{id:Nat}{q:bJ}{n k c:Nat}(h:fY L id c= .j):fZ L id q n k c .j= .c:=by
 unfold fZ;dsimp only;split
 ·rw[h]
 ·rfl
open Go Go.RowKit
section
variable{P:Program}{N:Nat}{Q:Exit→List E→Prop}{L:List E}{ops:Array Oper}{qs pend todo:List Nat}{S:Array Bool}
theorem aQ.uU{i:Nat}{d:Nat}{o:Oper}{x:X}(ho:ops[i]? =some o)(hd:o.dst=some d)(hp:pend.all (λk=>todo.contains k || k==i || !eK ops k i)=true)
  (h:Qd P ops o L x) (hx:aA L d=x) (k:aQ P N ops qs Q S pend todo (cq L d x)):aQ P N ops qs Q S pend (i :: todo) L:=by
 subst hx;exact aQ.again ho hd hp h k
end
open Go Go.RowKit
theorem fv.bm{w:World}{cs:List Value}{ts us:List T}(o k:Nat)(h:fv w ts ((cs.drop o).take k))(h':fv w us (cs.drop (o+k))):fv w (ts++us) (cs.drop o):=by
 have:cs.drop o=(cs.drop o).take k++cs.drop (o+k):=by
  rw[←drop_drop,take_append_drop]
 rw[this];exact h.append h'
theorem fv.gB{w:World}{cs:List Value}{n:Nat}(h:cs.length=n):fv w [] (cs.drop n):=by
 rw[drop_eq_nil_of_le (by omega)];exact⟨rfl,λi t v h=>by simp at h⟩
open Go Go.RowKit
def B2{α:Type}[En α](len:Nat)(g:Nat→α):T:= .s (En.n α) len λi c=>(En.cs (g i)).getD c .j
theorem BR(a b:Nat):blt a b=decide (a<b):=by
 rw[Bool.eq_iff_iff,decide_eq_true_eq];exact Iff.of_eq blt_eq
open Go Go.RowKit
theorem ct{α:Type}[En α]{l l':List α}{len:Nat}{f:Nat→Nat→T}(hlen:len=l.length)(hf:∀k c,k<l.length→c<En.n α→f k c=(En.cs (l.getD k En.ab)).getD c .j){g:Nat→Nat→T}(hg:∀k c,k<l'.length→c<En.n α→g k c=(En.cs (l'.getD k En.ab)).getD c .j):
  (q8 (En.n α) len f l'.length g).aZ (tr (l++l')):=by
 subst hlen;refine⟨λk c=>(En.cs ((l++l').getD k En.ab)).getD c .j,by simp[tr],λk c hk hc=>?_⟩;show(if k<l.length then f k c else g (k-l.length) c).aZ ((En.cs ((l++l').getD k En.ab)).getD c .j);split
 ·rename_i h;rw[hf k c h hc,show(l++l').getD k En.ab=l.getD k En.ab by simp[getD_eq_getElem?_getD,getElem?_append_left h]];exact T.eZ _
 ·rename_i h;rw[hg _ c (by omega) hc,show(l++l').getD k En.ab=l'.getD (k-l.length) En.ab by simp[getD_eq_getElem?_getD,getElem?_append_right (by omega:l.length≤k)]];exact T.eZ _
class Fl (α:Type) extends En α where
 flat:∀(a:α) (c:Nat),c<n→j9 ((cs a).getD c .j)=(cs a).getD c .j
theorem dJ{α:Type}[Fl α]{l:List α}{f:Nat→Nat→T}:(q8 (En.n α) 0 f l.length λk c=>j9 ((En.cs (l.getD k En.ab)).getD c .j)).aZ (tr l):=
 ct (l:=[]) rfl (λk c hk=>absurd hk (not_lt_zero k)) λk c _ hc=>Fl.flat _ c hc
open Go Go.RowKit
section
variable{P:Program}{L:List E}{dst:Option Tmp}{ty:TypeId}{pos:String}{af:Array Edge}{g:Option (Nat×Bool)}
theorem Qt.Ay{t t2:TypeId}{x y:Operand}{u v:Bool}(hx:cw L x= .v (.bool u))(hy:cw L y= .v (.bool v))(ht:P.underlying t=some .bool):Qt P ⟨dst, .binOp .eql t x y t2,ty,pos,af,g⟩ L (.v (.bool (u==v))):=
 Qt.AX hx hy (.inl rfl) ht
theorem Qt.Bl{t t2:TypeId}{x y:Operand}{u v:Bool}(hx:cw L x= .v (.bool u))(hy:cw L y= .v (.bool v))(ht:P.underlying t=some .bool):Qt P ⟨dst, .binOp .neq t x y t2,ty,pos,af,g⟩ L (.v (.bool (u != v))):=
 Qt.AX hx hy (.inr rfl) ht
end
open Go Go.RowKit
theorem zD{α:Type}[En α](l:List α)(k c:Nat)(y:T):T.put (tr l) [] k c y= .s (En.n α) l.length (mU (λk c=>(En.cs (l.getD k En.ab)).getD c .j) k c y):=rfl
theorem bN{α:Type}[En α]{l:List α}{i:Nat}{a:α}{f:Nat→Nat→T}(ho:∀k c,k≠i→f k c=(En.cs (l.getD k En.ab)).getD c .j)(hc:∀c,c<En.n α→(f i c).aZ ((En.cs a).getD c .j)):(T.s (En.n α) l.length f).aZ (tr (l.set i a)):=by
 refine⟨λk c=>(En.cs ((l.set i a).getD k En.ab)).getD c .j,by simp[tr],λk c hk hcc=>?_⟩;show(f k c).aZ ((En.cs ((l.set i a).getD k En.ab)).getD c .j)
 by_cases e:k=i
 ·subst e;rw[show(l.set k a).getD k En.ab=a by simp[getD_eq_getElem?_getD,hk]];exact hc c hcc
 ·rw[ho k c e,show(l.set i a).getD k En.ab=l.getD k En.ab by simp[getD_eq_getElem?_getD,getElem?_set_ne (Ne.symm e)]];exact T.eZ _
theorem ed(l:List Int):Mk.wt l=l.length:=by rw[da,j_ (w:=Mk.wt) (λ_=>rfl)];rfl
instance:Fl Int:=⟨λa c hc=>by
 match c,hc with
 | 0,_=>rfl
 | c+1,h=>exact absurd h (by simp[En.n])⟩
instance:Fl Bool:=⟨λa c hc=>by
 match c,hc with
 | 0,_=>rfl
 | c+1,h=>exact absurd h (by simp[En.n])⟩

structure fx{α:Type}(p:α→Bool)(l:List α) where
 k:Nat
 le:k≤l.length
 al:(l.take k).all p=true
theorem fx.next{α:Type}{p:α→Bool}{l:List α}(i:fx p l)(d:α)(hk:i.k<l.length)(h:p (l.getD i.k d)=true):(l.take (i.k+1)).all p=true:=by
 rw[take_add_one,all_append,i.al,getElem?_eq_getElem hk];simpa [hk]using h
theorem fx.stop{α:Type}{p:α→Bool}{l:List α}(i:fx p l)(d:α)(hk:i.k<l.length)(h:p (l.getD i.k d)=false):l.all p=false:=by
 rw[all_eq_false];exact⟨l[i.k],getElem_mem hk,by simpa [hk]using h⟩
theorem fx.full{α:Type}{p:α→Bool}{l:List α}(i:fx p l)(hk:¬i.k<l.length):l.all p=true:=by
 have:=i.al
 rwa [take_of_length_le (by omega)]at this
structure fw{α:Type}(p:α→Bool)(l:List α) where
 k:Nat
 le:k≤l.length
 al:(l.take k).all (λx=> !p x)=true
def gg{α:Type}(p:α→Bool)(l:List α):Int:=match l.findIdx? p with|some i=>i|none=> -1
theorem dc{α:Type}{p:α→Bool}{l:List α}(i:fw p l)(d:α)(hk:i.k<l.length)(h:p (l.getD i.k d)=true):gg p l=i.k:=by
 have h2:p l[i.k]=true:=by simpa [hk]using h
 have:l.findIdx? p=some i.k:=by
  rw[findIdx?_eq_some_iff_getElem];refine⟨hk,h2,λj hj=>?_⟩;have:=List.all_eq_true.1 i.al l[j] (by rw[mem_take_iff_getElem];exact⟨j,by omega,rfl⟩);simpa using this
 simp[gg,this]
theorem cD{α:Type}{p:α→Bool}{l:List α}(i:fw p l)(hk:¬i.k<l.length):gg p l= -1:=by
 have:=i.al;rw[take_of_length_le (by omega)]at this;have:l.findIdx? p=none:=by
  rw[findIdx?_eq_none_iff];intro x hx;simpa using List.all_eq_true.1 this x hx
 simp[gg,this]
theorem fw.next{α:Type}{p:α→Bool}{l:List α}(i:fw p l)(d:α)(hk:i.k<l.length)(h:p (l.getD i.k d)=false):(l.take (i.k+1)).all (λx=> !p x)=true:=by
 rw[take_add_one,all_append,i.al,getElem?_eq_getElem hk];have:p l[i.k]=false:=by simpa [hk]using h
 simp[this]
theorem gx{α:Type}(p:α→Bool)(l:List α):decide (0≤gg p l)=l.any p:=by
 unfold gg;cases h:l.findIdx? p with
 | none=>
  rw[findIdx?_eq_none_iff]at h;have:l.any p=false:=by rw[any_eq_false];intro x hx;simp[h x hx]
  simp[this]
 | some i=>
  rw[findIdx?_eq_some_iff_getElem]at h;obtain⟨hi,h1,_⟩:=h;have:l.any p=true:=List.any_eq_true.2 ⟨_,getElem_mem hi,h1⟩;simp[this]
theorem ny{α:Type}(p:α→Bool)(l:List α): -1≤gg p l∧gg p l<l.length:=by
 unfold gg;cases h:l.findIdx? p with
 | none=>simp;omega
 | some i=>
  rw[findIdx?_eq_some_iff_getElem]at h;obtain⟨hi,_⟩:=h;simp;omega
open Go Go.RowKit
def je:List E→Nat→T→List E
 | [],_,_=>[]
 | .rt i m t :: L,id,t'=>if i=id then .rt i m t' :: je L id t' else .rt i m t :: je L id t'
 | e :: L,id,t'=>e :: je L id t'
theorem nw:∀{L:List E} {id:Nat} {t':T} {s:Nat} {x:X},E.sl s x∈je L id t'→E.sl s x∈L
 | .sl s' x' :: L,id,t',s,x,h=>by
  rcases List.mem_cons.1 h with h|h
  ·rw[h];exact mem_cons_self ..
  ·exact mem_cons_of_mem _ (nw h)
 | .rt i m t :: L,id,t',s,x,h=>by
  simp only[je]at h;split at h<;>
  ·rcases List.mem_cons.1 h with h|h
   ·cases h
   ·exact mem_cons_of_mem _ (nw h)
 | .al i c x' :: L,id,t',s,x,h=>by
  rcases List.mem_cons.1 h with h|h
  ·cases h
  ·exact mem_cons_of_mem _ (nw h)
theorem nv:∀{L:List E} {id:Nat} {t':T} {s c:Nat} {x:X},E.al s c x∈je L id t'→E.al s c x∈L
 | .sl s' x' :: L,id,t',s,c,x,h=>by
  rcases List.mem_cons.1 h with h|h
  ·cases h
  ·exact mem_cons_of_mem _ (nv h)
 | .rt i m t :: L,id,t',s,c,x,h=>by
  simp only[je]at h;split at h<;>
  ·rcases List.mem_cons.1 h with h|h
   ·cases h
   ·exact mem_cons_of_mem _ (nv h)
 | .al i c' x' :: L,id,t',s,c,x,h=>by
  rcases List.mem_cons.1 h with h|h
  ·rw[h];exact mem_cons_self ..
  ·exact mem_cons_of_mem _ (nv h)
theorem gH:∀{L:List E} {id:Nat} {t':T} {i:Nat} {m:M} {t:T},aW (je L id t') i m t↔(i=id∧t=t'∧∃t0,aW L id m t0)∨(i≠id∧aW L i m t)
 | [],_,_,_,_,_=>by simp[aW,je]
 | .sl s x :: L,id,t',i,m,t=>by
  have:=gH (L:=L) (id:=id) (t':=t') (i:=i) (m:=m) (t:=t);simp only[aW,je]at this ⊢;simp[this]
 | .al s c x :: L,id,t',i,m,t=>by
  have:=gH (L:=L) (id:=id) (t':=t') (i:=i) (m:=m) (t:=t);simp only[aW,je]at this ⊢;simp[this]
 | .rt j m1 t1 :: L,id,t',i,m,t=>by
  have:=gH (L:=L) (id:=id) (t':=t') (i:=i) (m:=m) (t:=t);simp only[aW,je]at this ⊢;split
  ·rename_i hj;subst hj;simp only[mem_cons,this,E.rt.injEq];constructor
   ·rintro (⟨rfl,rfl,rfl⟩|⟨rfl,rfl,t0,h⟩|⟨h1,h2⟩)
    ·exact .inl ⟨rfl,rfl,t1, .inl (by simp)⟩
    ·exact .inl ⟨rfl,rfl,t0, .inr h⟩
    ·exact .inr ⟨h1, .inr h2⟩
   ·rintro (⟨rfl,rfl,t0,⟨_,rfl,rfl⟩|h⟩|⟨h1,⟨rfl,_⟩|h2⟩)
    ·exact .inl ⟨rfl,rfl,rfl⟩
    ·exact .inr (.inl ⟨rfl,rfl,t0,h⟩)
    ·exact absurd rfl h1
    ·exact .inr (.inr ⟨h1,h2⟩)
  ·rename_i hj;simp only[mem_cons,this,E.rt.injEq];constructor
   ·rintro (⟨rfl,rfl,rfl⟩|⟨rfl,rfl,t0,h⟩|⟨h1,h2⟩)
    ·exact .inr ⟨hj, .inl ⟨rfl,rfl,rfl⟩⟩
    ·exact .inl ⟨rfl,rfl,t0, .inr h⟩
    ·exact .inr ⟨h1, .inr h2⟩
   ·rintro (⟨rfl,rfl,t0,⟨rfl,_⟩|h⟩|⟨h1,⟨rfl,rfl,rfl⟩|h2⟩)
    ·exact absurd rfl hj
    ·exact .inr (.inl ⟨rfl,rfl,t0,h⟩)
    ·exact .inl ⟨rfl,rfl,rfl⟩
    ·exact .inr (.inr ⟨h1,h2⟩)
theorem VR.zS{R R':RT}{H:Nat→Value}{w:World}(hR:∀id m t,R id m t→∃t',R' id m t'∧t.aZ t'){x:X}{v:Value}(h:VR R H w x v):VR R' H w x v:=
 VR.leaves (C:=λ_=>True) (λx v hl _ h=>by
  cases x with
  | p id q n k c=>
   obtain⟨m,t,h1,h2,⟨len,f,h3,h4,h5⟩,h6⟩:=h;obtain⟨t',e1,e2⟩:=hR id m t h1;obtain⟨e3,e4⟩:=lj e2 h2;rw[h3]at e4;obtain⟨g,e5,_⟩:=e4;exact⟨m,t',e1,e3,⟨len,g,e5,h4,h5⟩,h6⟩
  | h id q=>
   obtain⟨m,t,h1,h2,⟨n,len,f,h3⟩,h6⟩:=h;obtain⟨t',e1,e2⟩:=hR id m t h1;obtain⟨e3,e4⟩:=lj e2 h2;rw[h3]at e4;obtain⟨g,e5,_⟩:=e4;exact⟨m,t',e1,e3,⟨n,len,g,e5⟩,h6⟩
  | a id q n lo len=>
   obtain⟨m,t,h1,h2,⟨l,f,h3,h4⟩,h6⟩:=h;obtain⟨t',e1,e2⟩:=hR id m t h1;obtain⟨e3,e4⟩:=lj e2 h2;rw[h3]at e4;obtain⟨g,e5,_⟩:=e4;exact⟨m,t',e1,e3,⟨l,g,e5,h4⟩,h6⟩
  | _=>exact hl.elim) (X.all_true (λ_=>trivial) x) h
theorem ar.bQ{N:Nat}{L:List E}{id:Nat}{m:M}{t t':T}(hR:b7 L id=some (m,t))(hs:t.aZ t'):ar N L (je L id t'):=λcx a w hsat=>by
 obtain⟨H,G,hr,hG⟩:=hsat.rp;have hid:=aq hR;have hback:∀{i m1 t1},aW (je L id t') i m1 t1→∃t0,aW L i m1 t0∧t0.aZ t1:=λh=>by
  rcases gH.1 h with⟨rfl,rfl,t0,h⟩|⟨_,h⟩
  ·obtain⟨rfl,rfl⟩:=hr.one _ _ _ _ _ h hid;exact⟨_,h,hs⟩
  ·exact⟨_,h,T.eZ _⟩
 have hfwd:∀i m1 t1,aW L i m1 t1→∃t2,aW (je L id t') i m1 t2∧t1.aZ t2:=λi m1 t1 h=>by
  by_cases e:i=id
  ·subst e;obtain⟨rfl,rfl⟩:=hr.one _ _ _ _ _ h hid;exact⟨t',gH.2 (.inl ⟨rfl,rfl,_,h⟩),hs⟩
  ·exact⟨t1,gH.2 (.inr ⟨e,h⟩),T.eZ _⟩
 have hV:∀{x v},VR (aW L) H w x v→VR (aW (je L id t')) H w x v:=λh=>h.zS hfwd;refine⟨hsat.kL,hsat.kP,hsat.gh,H,G,⟨?_,?_,?_,?_,?_,?_,?_,?_⟩,?_,?_⟩
 ·intro i m1 t1 m2 t2 h1 h2;rcases gH.1 h1 with⟨rfl,rfl,t0,g1⟩|⟨e1,g1⟩<;>rcases gH.1 h2 with⟨e,rfl,t3,g2⟩|⟨e2,g2⟩
  ·exact⟨(hr.one _ _ _ _ _ g1 g2).1,rfl⟩
  ·exact absurd rfl e2
  ·exact absurd e e1
  ·exact hr.one _ _ _ _ _ g1 g2
 ·intro i m1 t1 h1 h2;obtain⟨t0,e1,e2⟩:=hback h1;exact(hr.own i m1 t0 e1 h2).aZ e2
 ·intro i t1 h1;obtain⟨t0,e1,e2⟩:=hback h1;exact(hr.ro i t0 e1).aZ e2
 ·intro i t1 h1;obtain⟨t0,e1,e2⟩:=hback h1;exact hr.gv i t0 e1
 ·intro i t1 h1;obtain⟨t0,e1,e2⟩:=hback h1;obtain⟨n,f,rfl⟩:=hr.box i t0 e1;obtain⟨g,rfl,_⟩:=e2;exact⟨n,g,rfl⟩
 ·intro i m1 t1 i' m2 t2 h1 h2;obtain⟨t0,e1,_⟩:=hback h1;obtain⟨t3,e2,_⟩:=hback h2;exact hr.jX i m1 t0 i' m2 t3 e1 e2
 ·intro s x h1;exact hV (hr.sl s x (nw h1))
 ·intro i c x h1;obtain⟨n,f,g1,g2,A,v,g3,g4,g5⟩:=hr.al i c x (nv h1);obtain⟨t2,g6,g7⟩:=hfwd _ _ _ g1;obtain⟨g,rfl,_⟩:=g7;exact⟨n,g,g6,g2,A,v,g3,g4,hV g5⟩
 ·intro i m1 t1 h1;obtain⟨t0,e1,_⟩:=hback h1;exact hG.1 i m1 t0 e1
 ·intro i m1 t1 hb h1;obtain⟨t0,e1,_⟩:=hback h1;exact hG.2 i m1 t0 hb e1
section
variable{P:Program}{N:Nat}{Q:Exit→List E→Prop}{L:List E}{ops:Array Oper}{l:List Oper}{qs pend todo:List Nat}{S:Array Bool}{m:M}{t:T}
theorem AW.bQ{c:Code}(id:Nat)(t':T)(hR:b7 L id=some (m,t))(hs:t.aZ t')(k:AW P N c Q (je L id t')):AW P N c Q L:=AW.bc (ar.bQ hR hs) k
theorem az.bQ(id:Nat)(t':T)(hR:b7 L id=some (m,t))(hs:t.aZ t')(k:az P N ops l Q (je L id t')):az P N ops l Q L:=az.bc (ar.bQ hR hs) k
theorem aQ.bQ(id:Nat)(t':T)(hR:b7 L id=some (m,t))(hs:t.aZ t')(k:aQ P N ops qs Q S pend todo (je L id t')):aQ P N ops qs Q S pend todo L:=aQ.bc (ar.bQ hR hs) k
end
theorem nT{b:Bool}(h:b=true):(!b)=false:=by rw[h];rfl
theorem nF{b:Bool}(h:b=false):(!b)=true:=by rw[h];rfl
open Go Go.RowKit
section
variable{P:Program}{L:List E}{dst:Option Tmp}{ty:TypeId}{pos:String}{af:Array Edge}{g:Option (Nat×Bool)}
theorem oc{R:RT}{H:Nat→Value}{w:World}:∀{vs us:List Value},dj R H w (vs.map X.v) us→us=vs
 | [],[],_=>rfl
 | v :: vs,u :: us,⟨h1,h2⟩=>by
  have:u=v:=h1;rw[this,oc h2]
 | [],_ :: _,h=>h.elim
 | _ :: _,[],h=>h.elim
theorem Qt.y5{t t2:TypeId}{x y:Operand}{vs us:List Value}{r:Value}(hrun:∀(x y:Operand) (w:World),(do eqGuard .eql t x y (.agg vs.toArray) (.agg us.toArray);Go.binOp .eql t (.agg vs.toArray) (.agg us.toArray)).run P w= .ok r w)(hx:cw L x= .g (vs.map X.v))(hy:cw L y= .g (us.map X.v)):Qt P ⟨dst, .binOp .eql t x y t2,ty,pos,af,g⟩ L (.v r):=
 (λH w a he _=>by
  have h1:=he x;have h2:=he y;rw[hx]at h1;rw[hy]at h2;obtain⟨v1,e1,f1⟩:=h1;obtain⟨v2,e2,f2⟩:=h2;rw[oc f1]at e1;rw[oc f2]at e2;refine⟨r,?_,rfl⟩;have:=hrun x y w;rw[←e1,←e2]at this;exact jW this)
end
attribute [go_sem] jc cons_append nil_append append_nil cq oK cw aA yE yw wL w3 xM q4 range' map_cons map_nil fY iR eY cr iK dI eF eB X.leaves X.v8 X.kK X.ot X.qi X.ub b7 lB length yg gi pZ X.qN X.uV pu gn eA nu X.ni X.eA yX List.map aa je jh T.yd replicate flatten T.put zD aj BF eq_self Int.toNat_natCast X.one X.er rW AD T.set dZ jf eR ju lg ke dz Option.isSome X.out X.outs pV BR decide_true decide_false yV fR B2 zJ yN Aa xz getD_cons_zero getD_cons_succ contains elem Bool.and_true Bool.true_and Bool.and_false Bool.false_and Bool.or_false Bool.or_true Bool.false_or Bool.true_or Bool.false_eq_true and_true true_and and_false false_and and_self
open Go Go.RowKit
def gp:List E→List Nat→List E
 | [],_=>[]
 | .sl s x :: L,ds=>if ds.contains s then gp L ds else .sl s x :: gp L ds
 | .rt i m t :: L,ds=> .rt i m t :: gp L ds
 | .al i c x :: L,ds=> .al i c x :: gp L ds
theorem hJ:∀{L:List E} {ds:List Nat} {e:E},e∈gp L ds→e∈L
 | .sl s x :: L,ds,e,h=>by
  simp only[gp]at h;split at h
  ·exact mem_cons_of_mem _ (hJ h)
  ·rcases List.mem_cons.1 h with h|h
   ·rw[h];exact mem_cons_self ..
   ·exact mem_cons_of_mem _ (hJ h)
 | .rt i m t :: L,ds,e,h=>by
  rcases List.mem_cons.1 h with h|h
  ·rw[h];exact mem_cons_self ..
  ·exact mem_cons_of_mem _ (hJ h)
 | .al i c x :: L,ds,e,h=>by
  rcases List.mem_cons.1 h with h|h
  ·rw[h];exact mem_cons_self ..
  ·exact mem_cons_of_mem _ (hJ h)
theorem dT:∀{L:List E} {ds:List Nat},aW (gp L ds)=aW L
 | [],_=>rfl
 | .sl s x :: L,ds=>by
  have:=dT (L:=L) (ds:=ds);funext i m t;have h:=congrFun (congrFun (congrFun this i) m) t;simp only[aW,gp]at h ⊢;split<;>simp[h]
 | .rt j m1 t1 :: L,ds=>by
  have:=dT (L:=L) (ds:=ds);funext i m t;have h:=congrFun (congrFun (congrFun this i) m) t;simp only[aW,gp]at h ⊢;simp[h]
 | .al j c x :: L,ds=>by
  have:=dT (L:=L) (ds:=ds);funext i m t;have h:=congrFun (congrFun (congrFun this i) m) t;simp only[aW,gp]at h ⊢;simp[h]
theorem ar.gp{N:Nat}{L:List E}(ds:List Nat):ar N L (VM.gp L ds):=λcx a w hs=>by
 obtain⟨H,G,hr,hG⟩:=hs.rp;refine⟨hs.kL,hs.kP,hs.gh,H,G,⟨?_,?_,?_,?_,?_,?_,?_,?_⟩,by rw[dT];exact hG⟩
 ·rw[dT];exact hr.one
 ·rw[dT];exact hr.own
 ·rw[dT];exact hr.ro
 ·rw[dT];exact hr.gv
 ·rw[dT];exact hr.box
 ·rw[dT];exact hr.jX
 ·rw[dT];exact λt x h=>hr.sl t x (hJ h)
 ·rw[dT];exact λid c x h=>hr.al id c x (hJ h)
theorem ar.trans{N:Nat}{L L1 L2:List E}(h:ar N L L1)(h':ar N L1 L2):ar N L L2:=λcx a w hs=>h' cx a w (h cx a w hs)
theorem ar.slot{N:Nat}{L:List E}{d:Nat}{v v':Value}(h:aA L d= .v v)(e:v=v'):ar N L (cq L d (.v v')):=λcx a w hs=>by
 subst e;obtain⟨H,G,hr,hG⟩:=hs.rp;have hv:Act.val a d=v:=by
  have h1:=dC hr (.tmp d);simp only[cw,h,VR]at h1;exact h1
 refine⟨hs.kL,hs.kP,hs.gh,H,G,(hr.put (d:=d) (x:= .v v) (v:=v) rfl).val λt=>?_,by rw[cu];exact hG⟩;split
 ·rename_i e;rw[e,hv]
 ·rfl
theorem ar.join{N:Nat}{L LB:List E}{d:Nat}{ds:List Nat}{v v':Value}(h:aA L d= .v v)(e:v=v')(hB:VM.gp L ds=LB):ar N L (cq LB d (.v v')):=
 hB ▸ λcx a w hs=>by
  obtain⟨H,G,hr,hG⟩:=hs.rp;have hv:Act.val a d=v':=by
   have h1:=dC hr (.tmp d);simp only[cw,h,VR]at h1;exact h1.trans e
  have hs2:=ar.gp ds cx a w hs;obtain⟨H2,G2,hr2,hG2⟩:=hs2.rp;refine⟨hs.kL,hs.kP,hs.gh,H2,G2,(hr2.put (d:=d) (x:= .v v') (v:=v') rfl).val λt=>?_,by rw[cu];exact hG2⟩;split
  ·rename_i e;rw[e,hv]
  ·rfl
section
variable{P:Program}{N:Nat}{Q:Exit→List E→Prop}{L L':List E}{ops:Array Oper}{l:List Oper}{qs pend todo:List Nat}{S:Array Bool}
theorem az.cut(k:Nat)(h1:az P N ops (l.drop k) Q L'→az P N ops l Q L)(h2:az P N ops (l.drop k) Q L'):az P N ops l Q L:=h1 h2
theorem AW.cut{x y:Code}(L':List E)(h1:AW P N x (aJ (λL1=>ar N L1 L') Q) L)(h2:AW P N y Q L'):AW P N x (aJ (AW P N y Q) Q) L:=
 AW.mono h1 λe L1 h=>by
  cases e with
  | normal=>exact AW.bc h h2
  | _=>exact h
end
section
variable{P:Program}{L:List E}{dst:Option Tmp}{ty:TypeId}{pos:String}{af:Array Edge}{g:Option (Nat×Bool)}
theorem Qt.aD{c x y:Operand}{b r:Bool}(hc:cw L c= .v (.bool b))(hx:cw L x= .v (if b then .bool r else undef))(hy:cw L y= .v (.bool false)):Qt P ⟨dst, .pick c x y,ty,pos,af,g⟩ L (.v (.bool (b&&r))):=by
 have h:=Qt.pick (P:=P) (dst:=dst) (ty:=ty) (pos:=pos) (af:=af) (g:=g) (x:=x) (y:=y) hc;cases b
 ·rw[if_neg (by simp),hy]at h;exact h
 ·rw[if_pos rfl,hx]at h;exact h
theorem Qt.bz{c x y:Operand}{b r:Bool}(hc:cw L c= .v (.bool b))(hy:cw L y= .v (if b then undef else .bool r))(hx:cw L x= .v (.bool true)):Qt P ⟨dst, .pick c x y,ty,pos,af,g⟩ L (.v (.bool (b || r))):=by
 have h:=Qt.pick (P:=P) (dst:=dst) (ty:=ty) (pos:=pos) (af:=af) (g:=g) (x:=x) (y:=y) hc;cases b
 ·rw[if_neg (by simp),hy]at h;exact h
 ·rw[if_pos rfl,hx]at h;exact h
theorem b6{b:Bool}(h:b=true)(u v:Value):u=if b then u else v:=by rw[h];rfl
theorem bY{b:Bool}(h:b=false)(u v:Value):u=if b then v else u:=by rw[h];rfl
end
attribute [go_sem] gp
open Go Go.RowKit
section
variable{P:Program}{N:Nat}{Q:Exit→List E→Prop}{L:List E}{ops:Array Oper}{l:List Oper}
theorem az.bA(t:Nat){b:Bool}(h:aA L t= .v (.bool b))(hf:b=false→az P N ops l Q L)(ht:b=true→az P N ops l Q L):az P N ops l Q L:=az.split t h ht hf
end
attribute [go_sem] take_succ_cons take_zero drop_succ_cons drop_zero take_nil drop_nil gU
open Go Go.RowKit
section
variable{P:Program}{N:Nat}{Q:Exit→List E→Prop}{L:List E}
theorem AW.jU{c:Operand}{x y:Code}{t:Bool}(hc:cw L c= .v (.bool t))(ht:t=true)(h:AW P N x Q L):AW P N (.cond c x y) Q L:=AW.cond hc (λ_=>h) λhf=>by rw[ht]at hf;cases hf
end
theorem ew{α:Type}[En α]{n len:Nat}{g:Nat→α}{zt:List T}(hn:n=En.n α)(h:∀c,c<En.n α→(zt.getD c .j).aZ ((En.cs (En.ab:α)).getD c .j)):(T.s n len λ_ j=>zt.getD j .j).aZ (fR 0 len g λ_=>En.ab):=by
 rw[hn];exact⟨_,rfl,λi c _ hc=>by rw[if_neg (not_lt_zero i)];exact h c hc⟩
theorem bS{n:Nat}{f g:Nat→Nat→T}:(T.s n 0 f).aZ (.s n 0 g):=⟨_,rfl,λk c hk=>absurd hk (not_lt_zero k)⟩
attribute [go_sem] Nat.lt_irrefl yc wX nX zb T.at pB mT
structure tQ{α:Type}[Mk α](left:Int)(a:List α) where
 k:Nat
 le:k≤a.length
 nn:0≤left-a.length-(bB Mk.wt En.ab a k:Nat)
theorem pY{α:Type}(c:α→Nat)(d x:α)(l:List α):∀i,bB c d (x :: l) (i+1)=c x+bB c d l i
 | 0=>by simp[bB]
 | i+1=>by
  rw[bB,pY c d x l i,bB];simp only[getD_cons_succ];omega
theorem sf{α:Type}(c:α→Nat)(d:α):∀l:List α,bB c d l l.length=lN c l
 | []=>rfl
 | x :: l=>by
  rw[length_cons,pY,sf c d l];rfl
theorem dl{α:Type}[Mk α](a:List α):bB Mk.wt En.ab a a.length=lN Mk.wt a:=sf _ _ _
theorem b8(n:Nat)(left:Int):(left-n<0∧ia n left= -1)∨(0≤left-n∧ia n left=left-n):=by
 unfold ia;split
 ·exact .inl ⟨by omega,rfl⟩
 ·exact .inr ⟨by omega,rfl⟩
theorem zm{α:Type}[En α](l:List α):(tr l).tw=true:=rfl
theorem AE(n len:Nat)(f:Nat→Nat→T):(T.s n len f).tw=true:=rfl
theorem zC(t:T):t.at []=t:=by cases t<;>rfl
theorem Aq{α:Type}[En α](l:List α)(n k c:Nat)(q:bJ):(tr l).at ((n,k,c) :: q)=((En.cs (l.getD k En.ab)).getD c .j).at q:=by rw[tr,T.at]
attribute [go_sem] zm AE zC Aq
open Go Go.RowKit
section
variable{P:Program}{N:Nat}{Q:Exit→List E→Prop}{L L':List E}{ops:Array Oper}{cx:Cx}{a b:Act}{w:World}{S R S':Array Bool}{pend pend' todo qs:List Nat}
theorem ar.refl:ar N L L:=λ_ _ _ h=>h
theorem aQ.use(hS:S=S')(hp:(pend.all pend'.contains&&pend'.all pend.contains)=true)(hw:ar N L L')(K:aQ P N ops qs Q S' pend' [] L'):aQ P N ops qs Q S pend [] L:=by
 subst hS;simp only[Bool.and_eq_true,all_eq_true,contains_iff_mem]at hp;obtain⟨h1,h2⟩:=hp;intro hq cx a b w R fuel hu hv hs;refine K hq cx a b w R fuel hu ?_ (hw cx b w hs);exact⟨hv.xI,hv.xE,hv.sub,λi h h'=>h1 i (hv.Ae i h h'),λi h=>hv.tW i (h2 i h),λi h=>hv.zu i (h2 i h),hv.ye,hv.kP,λt ht=>hv.th t λi hi=>ht i (h1 i hi),λi hi=>hv.Ao i (h2 i hi),hv.Aj⟩
def nW(P:Program)(N:Nat)(ops:Array Oper)(qs:List Nat)(Q:Exit→List E→Prop)(S:Array Bool)(pend:List Nat)(L:List E):List Nat→Prop
 | []=>True
 | j :: r=>Ak P N ops qs Q S pend L j∧nW P N ops qs Q S pend L r
theorem nW.all:∀{js:List Nat},nW P N ops qs Q S pend L js→∀j∈js,Ak P N ops qs Q S pend L j
 | _ :: _,⟨h1,h2⟩,j,hj=>by
  rcases List.mem_cons.1 hj with rfl|hj
  ·exact h1
  ·exact nW.all h2 j hj
theorem aQ.gj(js:List Nat)(hr:Region.ready .any ops S=js)(hne:js.isEmpty=false)(h:nW P N ops qs Q S pend L js):aQ P N ops qs Q S pend [] L:=aQ.any js hr hne h.all
theorem aQ.gk(S':Array Bool)(pend':List Nat)(h1:aQ P N ops qs Q S' pend' [] L'→aQ P N ops qs Q S pend [] L)(h2:aQ P N ops qs Q S' pend' [] L'):aQ P N ops qs Q S pend [] L:=h1 h2
end
open Go Go.RowKit
section
variable{P:Program}{N:Nat}{Q:Exit→List E→Prop}{L:List E}
end
open Go Go.RowKit
section
variable{P:Program}{L:List E}{dst:Option Tmp}{ty:TypeId}{pos:String}{af:Array Edge}{g:Option (Nat×Bool)}
end
open Go Go.RowKit
instance:Fl UInt8:=⟨λa c hc=>by
 match c,hc with
 | 0,_=>rfl
 | c+1,h=>exact absurd h (by simp[En.n])⟩
theorem A0(a:UInt8):En.cs a=[.v (bv a)]:=rfl
attribute [go_sem] A0
theorem yx{α:Type}[Fl α]{l:List α}{a:α}{g:Nat→Nat→T}(hg:∀c,c<En.n α→j9 (g 0 c)=(En.cs a).getD c .j):(q8 (En.n α) l.length (λk c=>(En.cs (l.getD k En.ab)).getD c .j) 1 λk c=>j9 (g k c)).aZ (tr (l++[a])):=
 ct (l':=[a]) rfl (λk c _ _=>rfl) λk c hk hc=>by
  have:k=0:=by simpa using hk
  subst this;exact hg c hc
open Go Go.RowKit
mutual
theorem VR.rn{R R':RT}{H H':Nat→Value}{w:World}{ρ:Nat→Nat}(hR:∀id m t,R id m t→R' (ρ id) m t∧H' (ρ id)=H id):∀{x:X} {v:Value},VR R H w x v→VR R' H' w (x.ni ρ) v
 | .g xs,v,⟨vs,h1,h2⟩=>⟨vs,h1,dj.rn hR h2⟩
 | .t xs,v,⟨vs,h1,h2⟩=>⟨vs,h1,dj.rn hR h2⟩
 | .f fn xs,v,⟨vs,h1,h2⟩=>⟨vs,h1,dj.rn hR h2⟩
 | .v x,v,h=>h
 | .j,v,_=>trivial
 | .c,v,h=>h
 | .p id q n k c,v,h=>by obtain⟨m,t,h1,h2⟩:=h;exact⟨m,t,(hR _ _ _ h1).1,by rw[(hR _ _ _ h1).2];exact h2⟩
 | .h id q,v,h=>by obtain⟨m,t,h1,h2⟩:=h;exact⟨m,t,(hR _ _ _ h1).1,by rw[(hR _ _ _ h1).2];exact h2⟩
 | .a id q n lo len,v,h=>by obtain⟨m,t,h1,h2⟩:=h;exact⟨m,t,(hR _ _ _ h1).1,by rw[(hR _ _ _ h1).2];exact h2⟩
theorem dj.rn{R R':RT}{H H':Nat→Value}{w:World}{ρ:Nat→Nat}(hR:∀id m t,R id m t→R' (ρ id) m t∧H' (ρ id)=H id):∀{xs:List X} {vs:List Value},dj R H w xs vs→dj R' H' w (X.eA ρ xs) vs
 | [],[],_=>trivial
 | x :: xs,v :: vs,⟨h1,h2⟩=>⟨h1.rn hR,dj.rn hR h2⟩
 | [],_ :: _,h=>h.elim
 | _ :: _,[],h=>h.elim
end
def rJ(a b i:Nat):Nat:=if i=a then b else i
def mr(a b:Nat):List E→List E
 | []=>[]
 | .sl s x :: L=> .sl s (x.ni (rJ a b)) :: mr a b L
 | .rt i m t :: L=> .rt (rJ a b i) m t :: mr a b L
 | .al i c x :: L=> .al (rJ a b i) c (x.ni (rJ a b)) :: mr a b L
theorem kn{a b:Nat}:∀{L:List E} {e:E},e∈mr a b L→(∃s x, .sl s x∈L∧e= .sl s (x.ni (rJ a b)))∨(∃i m t, .rt i m t∈L∧e= .rt (rJ a b i) m t)∨∃i c x, .al i c x∈L∧e= .al (rJ a b i) c (x.ni (rJ a b))
 | .sl s x :: L,e,h=>by
  rcases List.mem_cons.1 h with h|h
  ·exact .inl ⟨s,x,mem_cons_self .., h⟩
  ·rcases kn h with⟨s,x,h1,h2⟩|⟨i,m,t,h1,h2⟩|⟨i,c,x,h1,h2⟩
   ·exact .inl ⟨s,x,mem_cons_of_mem _ h1,h2⟩
   ·exact .inr (.inl ⟨i,m,t,mem_cons_of_mem _ h1,h2⟩)
   ·exact .inr (.inr ⟨i,c,x,mem_cons_of_mem _ h1,h2⟩)
 | .rt i m t :: L,e,h=>by
  rcases List.mem_cons.1 h with h|h
  ·exact .inr (.inl ⟨i,m,t,mem_cons_self .., h⟩)
  ·rcases kn h with⟨s,x,h1,h2⟩|⟨i,m,t,h1,h2⟩|⟨i,c,x,h1,h2⟩
   ·exact .inl ⟨s,x,mem_cons_of_mem _ h1,h2⟩
   ·exact .inr (.inl ⟨i,m,t,mem_cons_of_mem _ h1,h2⟩)
   ·exact .inr (.inr ⟨i,c,x,mem_cons_of_mem _ h1,h2⟩)
 | .al i c x :: L,e,h=>by
  rcases List.mem_cons.1 h with h|h
  ·exact .inr (.inr ⟨i,c,x,mem_cons_self .., h⟩)
  ·rcases kn h with⟨s,x,h1,h2⟩|⟨i,m,t,h1,h2⟩|⟨i,c,x,h1,h2⟩
   ·exact .inl ⟨s,x,mem_cons_of_mem _ h1,h2⟩
   ·exact .inr (.inl ⟨i,m,t,mem_cons_of_mem _ h1,h2⟩)
   ·exact .inr (.inr ⟨i,c,x,mem_cons_of_mem _ h1,h2⟩)
theorem eC{a b:Nat}{i:Nat}{m:M}{t:T}{L:List E}:aW (mr a b L) i m t↔∃i0,aW L i0 m t∧rJ a b i0=i:=by
 induction L with
 | nil=>simp[aW,mr]
 | cons e L ih=>
  simp only[aW]at ih ⊢;cases e with
  | sl s x=>simp only[mr,mem_cons,ih];simp
  | al i' c x=>simp only[mr,mem_cons,ih];simp
  | rt j m1 t1=>
   simp only[mr,mem_cons,ih,E.rt.injEq];constructor
   ·rintro (⟨rfl,rfl,rfl⟩|⟨i0,h1,h2⟩)
    ·exact⟨j, .inl ⟨rfl,rfl,rfl⟩,rfl⟩
    ·exact⟨i0, .inr h1,h2⟩
   ·rintro ⟨i0,⟨rfl,rfl,rfl⟩|h1,h2⟩
    ·exact .inl ⟨h2.symm,rfl,rfl⟩
    ·exact .inr ⟨i0,h1,h2⟩
theorem ar.oW{N:Nat}{L:List E}{a b:Nat}(hb:b7 L b=none)(ha1:a<aa)(hb1:b<aa):ar N L (mr a b L):=λcx ac w hs=>by
 obtain⟨H,G,hr,hG⟩:=hs.rp;have hnb:=ld hb;have hinj:∀{i j m t m' t'},aW L i m t→aW L j m' t'→rJ a b i=rJ a b j→i=j:=λ{i j m t m' t'} h1 h2 e=>by
  have e1:i≠b:=λe=>hnb _ _ (e ▸ h1);have e2:j≠b:=λe=>hnb _ _ (e ▸ h2);unfold rJ at e;split at e<;>split at e<;>omega
 let H':Nat→Value:=λi=>if i=b then H a else H i
 let G':Nat→FP:=λi=>if i=b then G a else G i
 have hH:∀{i m t},aW L i m t→H' (rJ a b i)=H i∧G' (rJ a b i)=G i:=λ{i m t} h=>by
  have e1:i≠b:=λe=>hnb _ _ (e ▸ h);simp only[H',G',rJ]
  by_cases e:i=a
  ·subst e;simp
  ·simp[e,e1]
 have hV:∀{x v},VR (aW L) H w x v→VR (aW (mr a b L)) H' w (x.ni (rJ a b)) v:=λh=>h.rn λid m t hh=>⟨eC.2 ⟨id,hh,rfl⟩,(hH hh).1⟩
 refine⟨hs.kL,hs.kP,hs.gh,H',G',⟨?_,?_,?_,?_,?_,?_,?_,?_⟩,?_,?_⟩
 ·intro i m t m' t' h1 h2;obtain⟨i0,g1,rfl⟩:=eC.1 h1;obtain⟨j0,g2,e⟩:=eC.1 h2;obtain rfl:=hinj g2 g1 e;exact hr.one _ _ _ _ _ g1 g2
 ·intro i m t h1 h2;obtain⟨i0,g1,rfl⟩:=eC.1 h1;rw[(hH g1).1,(hH g1).2];exact hr.own _ _ _ g1 h2
 ·intro i t h1;obtain⟨i0,g1,rfl⟩:=eC.1 h1;rw[(hH g1).1,(hH g1).2];exact hr.ro _ _ g1
 ·intro i t h1;obtain⟨i0,g1,rfl⟩:=eC.1 h1;rw[(hH g1).2];exact hr.gv _ _ g1
 ·intro i t h1;obtain⟨i0,g1,rfl⟩:=eC.1 h1;exact hr.box _ _ g1
 ·intro i m t i' m' t' h1 h2 hne hm;obtain⟨i0,g1,rfl⟩:=eC.1 h1;obtain⟨j0,g2,rfl⟩:=eC.1 h2;rw[(hH g1).2,(hH g2).2];exact hr.jX _ _ _ _ _ _ g1 g2 (λe=>hne (by rw[e])) hm
 ·intro s x h;rcases kn h with⟨s',x',h1,h2⟩|⟨i,m,t,h1,h2⟩|⟨i,c,x',h1,h2⟩
  ·cases h2;exact hV (hr.sl _ _ h1)
  ·cases h2
  ·cases h2
 ·intro i c x h;rcases kn h with⟨s',x',h1,h2⟩|⟨i',m,t,h1,h2⟩|⟨i',c',x',h1,h2⟩
  ·cases h2
  ·cases h2
  ·cases h2;obtain⟨n,f,g1,g2,A,v,g3,g4,g5⟩:=hr.al _ _ _ h1;exact⟨n,f,eC.2 ⟨_,g1,rfl⟩,g2,A,v,by rw[(hH g1).1];exact g3,g4,hV g5⟩
 ·intro i m t h1;obtain⟨i0,g1,rfl⟩:=eC.1 h1;rw[(hH g1).2];exact hG.1 _ _ _ g1
 ·intro i m t hbs h1;obtain⟨i0,g1,e⟩:=eC.1 h1;have:i0=i:=by
   unfold rJ at e;split at e
   ·subst e;omega
   ·exact e
  subst this;have:=hH g1;rw[e]at this;rw[this.1];exact hG.2 _ _ _ hbs g1
section
variable{P:Program}{N:Nat}{Q:Exit→List E→Prop}{L:List E}
theorem AW.oW{c:Code}(a b:Nat)(hb:b7 L b=none)(ha1:a<aa)(hb1:b<aa)(k:AW P N c Q (mr a b L)):AW P N c Q L:=AW.bc (ar.oW hb ha1 hb1) k
end
attribute [go_sem] mr rJ
open Go Go.RowKit
open Go Go.RowKit
section
variable{P:Program}{N:Nat}{L:List E}{dst:Option Tmp}{ty:TypeId}{pos:String}{af:Array Edge}{g:Option (Nat×Bool)}
def Bm(L:List E)(d:Nat):Option Operand→Nat→Prop
 | none,k=>k=d
 | some x,k=>∃kd j,cw L x= .v (.int kd j)∧j=(k:Int)
theorem wP{d k:Nat}{o:Option Operand}(h:Bm L d o k){H:Nat→Value}{w:World}{a:Act}(he:∀y,VR (aW L) H w (cw L y) (Act.eval a y)):(o.map a.eval=none∧k=d)∨∃kd,o.map a.eval=some (.int kd (k:Int)):=by
 cases o with
 | none=>exact .inl ⟨rfl,h⟩
 | some x=>
  obtain⟨kd,j,h1,h2⟩:=h;have h3:=he x;rw[h1]at h3;simp only[VR]at h3;exact .inr ⟨kd,by rw[Option.map_some,h3,h2]⟩
theorem oV{w:World}{kd:IntKind}{k y:Nat}{code:BoundsCode}(h:k≤y):(Instr.sliceBound (.int kd (k:Int)) y code).run P w= .ok k w:=by
 have h2:(0:Int)≤k∧(k:Int)≤y:=by omega
 simp[Instr.sliceBound,asIntOf,h2,go_sem]
theorem m9{w:World}{b:Bool}{len cap lo hi:Nat}{ol oh:Option Value}(hl:(ol=none∧lo=0)∨∃kd,ol=some (.int kd (lo:Int)))(hh:(oh=none∧hi=len)∨∃kd,oh=some (.int kd (hi:Int)))(h1:lo≤hi)(h2:hi≤cap):(Instr.sliceBounds b len cap ol oh none).run P w= .ok (lo,hi,cap) w:=by
 have hb:= @oV P;rcases hl with⟨rfl,rfl⟩|⟨kl,rfl⟩<;>rcases hh with⟨rfl,rfl⟩|⟨kh,rfl⟩<;>simp[Instr.sliceBounds,go_sem,hb,h1,h2]
theorem uF{w:World}{t e:TypeId}{ad:Option Addr}{len cap lo hi n:Nat}{ol oh:Option Value}(h:P.underlying t=some (.slice e))(hz:(sizeOf e).run P w= .ok n w)(hb:(Instr.sliceBounds true len cap ol oh none).run P w= .ok (lo,hi,cap) w):(Instr.slice t (.slice ad len cap) ol oh none).run P w= .ok (.slice (if cap=lo then ad else ad.map (·.add (lo*n))) (hi-lo) (cap-lo)) w:=by
 simp only[Instr.slice,Sem.run_bind,run_underlying h,Result.andThen,hb,hz,Sem.run_pure]
theorem Qt.xA{t e:TypeId}{x:Operand}{ol oh:Option Operand}{id:Nat}{q:bJ}{n len lo hi:Nat}{f:Nat→Nat→T}(hx:cw L x= .h id q){m:M}{T0:T}(hR:b7 L id=some (m,T0))(hT:T0.at q= .s n len f)(hS:Sl P t e)(hZ:Sz P e n)(hn:0<n)(hl:Bm L 0 ol lo)(hh:Bm L len oh hi)(h1:lo≤hi)(h2:hi≤len):Qt P ⟨dst, .slice t x ol oh none,ty,pos,af,g⟩ L (.a id q n lo (hi-lo)):=
 (λH w a he ⟨val,G,hr⟩=>by
  have h:=he x;rw[hx]at h;obtain⟨m',t',g1,g2,g3,g4⟩:=h;obtain⟨rfl,rfl⟩:=hr.one _ _ _ _ _ g1 (aq hR);obtain⟨hv,F,e1,e2⟩:=hr.node g1 g2;rw[hT]at e2;obtain⟨ad,cap,e3,e4,e5⟩:=e2.Bp;rw[e1]at g4;cases g4;have hb:=m9 (P:=P) (w:=w) (b:=true) (len:=len) (cap:=cap) (wP hl he) (wP hh he) h1 (by omega);refine⟨.slice (if cap=lo then ad else ad.map (·.add (lo*n))) (hi-lo) (cap-lo),?_,m',t',g1,g2,⟨len,f,hT,by omega⟩,_,e1,_,_,rfl,by omega,by omega,λhp=>?_,⟨ad,len,by rw[e3,Nat.add_sub_cancel' (by omega)]⟩,λb off l0 c0 e hp=>?_⟩
  ·have hu:P.underlying t=some (.slice e):=hS;have hq:=uF (ad:=ad) hu (hZ w) hb;have hq2:=run_underlying (P:=P) (w:=w) hu;simp only[execOp,e3,Instr.sliceAt,Option.map_none]
   generalize Instr.slice t (.slice ad len cap) (Option.map a.eval ol) (Option.map a.eval oh) none=B at hq ⊢
   simp[go_sem,hq,hq2]
  ·rw[e3];have hne:¬cap=lo:=by omega
   rw[if_neg hne];obtain⟨b,o,cap',off,e6,e7,e8,e9⟩:=e2.row (k:=lo) (c:=0) (by omega) hn;rw[e3]at e6;cases e6;simp[hL,Addr.add]
  ·rw[e3]at e;cases e;rw[if_neg (by omega)];simp[Addr.add])
end
open Go Go.RowKit Go.Sort

theorem lh{w:World}{b off n:Nat}{d:Array Int}{os:Array Obj}{b':Nat}(h:b'<w.heap.size):
  (grow (putRow (Value.int .i64) (Sort.ahead w n) b off d) os).heap[b']? =if b=b' then(w.heap[b']?).map (onCells (putCells (Value.int .i64) off d))else w.heap[b']? :=by
 simp only[grow,putRow,mapBlock,Sort.ahead];rw[Array.getElem?_append_left (by simpa using h),Array.getElem?_modify]
theorem uc{w:World}{b off n:Nat}{d:Array Int}{os:Array Obj}:dK (vh b off d.size) w (grow (putRow (Value.int .i64) (Sort.ahead w n) b off d) os):=by
 refine⟨rfl,rfl,rfl,?_,?_,?_⟩
 ·simp[grow,putRow,mapBlock,Sort.ahead]
 ·intro b' cur e fr h;rw[lh (Array.getElem?_eq_some_iff.1 h).1,h]
  by_cases hb:b=b'
  ·refine⟨putCells (Value.int .i64) off d cur,by simp[hb,onCells],by simp[putCells],λo ho=>?_⟩;simp only[putCells,Array.getElem?_mapIdx];cases cur[o]? with
   | none=>rfl
   | some x=>
    simp only[Option.map_some];rw[if_neg (λhh=>ho ⟨hb.symm,hh.1,hh.2⟩)]
  ·exact⟨cur,by simp[hb],rfl,λ_ _=>rfl⟩
 ·intro b' o h ho;rw[lh (Array.getElem?_eq_some_iff.1 h).1,h]
  by_cases hb:b=b'
  ·simp only[hb,if_true,Option.map_some];cases o with
   | cells c e f=>exact absurd rfl (ho c e f)
   | _=>rfl
  ·simp[hb]
theorem rQ{w:World}{b off n k:Nat}{d:Array Int}{os:Array Obj}{v:Value}(hc:w.cell? ⟨b,off+k,none⟩=some v)(hk:k<d.size):
  (grow (putRow (Value.int .i64) (Sort.ahead w n) b off d) os).cell? ⟨b,off+k,none⟩=some (.int .i64 d[k]!):=by
 have hlt:=rv hc;simp only[World.cell?]at hc ⊢;rw[lh hlt];split at hc
 ·rename_i cur e fr hb;simp only[Option.isSome_none,Bool.false_eq_true,if_false]at hc;simp only[if_true,hb,Option.map_some,onCells,Option.isSome_none,Bool.false_eq_true,if_false];simp only[putCells,Array.getElem?_mapIdx,hc,Option.map_some];rw[if_pos ⟨by omega,by omega⟩,show off+k-off=k by omega]
 ·cases hc
theorem vr{l l':List Int}{w w':World}{H:Nat→Value}{G:Nat→FP}(hr:Rp [.rt aa .row (tr l)] (λ_=>undef) H G w)(hC:dK (G aa) w w')(hO:dA w' (tr l') (G aa) (H aa)):
  ∃x L H' G' val,cn (.t []) [] [(aa,tr l')] x L∧Rp L val H' G' w'∧VR (aW L) H' w' x (.tuple #[])∧
   dK (λa o=>∃id m t,aW [.rt aa .row (tr l)] id m t∧m≠ .ro∧G id a o) w w'∧
   (∀id m t,aW L id m t→m≠ .ro→∀a o,G' id a o→(∃id m t,aW [.rt aa .row (tr l)] id m t∧m≠ .ro∧G id a o)∨w.heap.size≤a)∧
   ∀id m t,aa≤id→aW L id m t→H' id=H id:=by
 have hm:∀{t0:T} {id:Nat} {m:M} {t:T},aW [.rt aa .row t0] id m t→id=aa∧m= .row∧t=t0:=λh=>by
  cases List.mem_singleton.1 h;exact⟨rfl,rfl,rfl⟩
 have hb:aW [.rt aa .row (tr l)] aa .row (tr l):=List.mem_singleton.2 rfl;refine⟨.t [],[.rt aa .row (tr l')],H,G,λ_=>undef,⟨λn=>n,rfl,λ_ _=>rfl,nodup_nil,by simp,?_⟩,?_,⟨[],rfl,trivial⟩,hC.mono λa o _ h=>⟨aa, .row,tr l,hb,by simp,h⟩,?_,λ_ _ _ _ _=>rfl⟩
 ·intro p hp;cases List.mem_singleton.1 hp;exact List.mem_singleton.2 rfl
 ·refine⟨λid m t m' t' h h'=>?_,λid m t h _=>?_,λid t h=>?_,λid t h=>?_,λid t h=>?_,λid m t id' m' t' h h' hne=>?_,λt x h=>?_,λid c x h=>?_⟩
  ·obtain⟨_,rfl,rfl⟩:=hm h;obtain⟨_,rfl,rfl⟩:=hm h';exact⟨rfl,rfl⟩
  ·obtain⟨rfl,rfl,rfl⟩:=hm h;exact hO
  ·obtain⟨_,h,_⟩:=hm h;cases h
  ·obtain⟨_,h,_⟩:=hm h;cases h
  ·obtain⟨_,h,_⟩:=hm h;cases h
  ·exact absurd ((hm h).1.trans (hm h').1.symm) hne
  ·cases List.mem_singleton.1 h
  ·cases List.mem_singleton.1 h
 ·intro id m t h _ a o hg;obtain⟨rfl,rfl,rfl⟩:=hm h;exact .inl ⟨aa, .row,tr l,hb,by simp,hg⟩
theorem tB{P:Program}{f:FuncId}{S:List Int→List Int}(hS:∀l,(S l).length=l.length)
  (hs:∀(blk off cap:Nat) (zs:List Int) (w:World),Holds (Value.int .i64) w blk off zs.toArray→blk<w.heap.size→zs.length<4611686018427387904→Calls P f #[.slice (some ⟨blk,off,none⟩) zs.length cap] w λe w'=>e= .returned (.tuple #[])∧∃n os,w'=grow (putRow (Value.int .i64) (Sort.ahead w n) blk off (S zs).toArray) os)
  (h0:∀(p:Option Addr) (cap:Nat) (w:World),Calls P f #[.slice p 0 cap] w λe w'=>e= .returned (.tuple #[])∧w'=w) (l:List Int) (hlen:l.length<4611686018427387904):
  bf P f [.h aa []] [.rt aa .row (tr l)] (cn (.t []) [] [(aa,tr (S l))]):=by
 intro w vs H G _ _ hr hv;cases vs with
 | nil=>exact hv.elim
 | cons v vs=>
 cases vs with
 | cons _ _=>exact hv.2.elim
 | nil=>
 obtain⟨⟨m,t,_,_,_,hh⟩,_⟩:=hv;simp only[hd,Option.some.injEq]at hh;have hO:=hr.own aa .row (tr l) (List.mem_singleton.2 rfl) (by simp);have hO0:=hO;obtain⟨hn,a,cap,e0,hl,hm,b,off,V,Gk,h1,h2,h3,h4,h5⟩:=hO;have hv:v= .slice a l.length cap:=by rw[←hh,e0]
 subst hv;rcases eq_zero_or_pos l.length with hz|hp
 ·rw[hz];refine(h0 a cap w).mono ?_
  rintro e w' ⟨rfl,rfl⟩
  have hl0:l=[]:=eq_nil_of_length_eq_zero hz;have hS0:S l=[]:=eq_nil_of_length_eq_zero (by rw[hS,hz]);obtain⟨x,L,H',G',val,r⟩:=vr (l':=S l) hr (dK.refl _ _) (by rw[hS0,←hl0];exact hO0);exact⟨_,x,L,H',G',val,rfl,r⟩
 ·have hc0:0<cap:=by omega
  obtain⟨rfl,sz,hK,hoff⟩:=h1 hc0;have hcell:∀k,k<l.length→w.cell? ⟨b,off+k,none⟩=some (iv (l.getD k 0))∧∀x y,¬Gk k 0 x y:=λk hk=>by
   obtain⟨g1,g2⟩:=h2 k 0 hk (by decide);rw[show k*En.n Int+0=k from Nat.mul_one k]at g1;obtain⟨g3,_,g4⟩:=g2;rw[g1,g3];exact⟨rfl,g4⟩
  have hfro:∀k,w.frozen? ⟨b,off+k,none⟩=false:=λk=>by
   obtain⟨cur,e,g1,_⟩:=hK;simp[World.frozen?,g1]
  refine(hs b off cap l w (λj hj=>⟨?_,hfro j⟩) hK.lt hlen).mono ?_
  ·have hj':j<l.length:=by simpa using hj
   rw[(hcell j hj').1];simp[getD_eq_getElem?_getD,hj',iv]
  rintro e w' ⟨rfl,n,os,rfl⟩
  have hsz:(S l).toArray.size=l.length:=by simp[hS]
  have hF:∀x y,vh b off (S l).toArray.size x y→G aa x y:=λx y hxy=>(h5 x y).2 (.inl ⟨hc0,hxy.1⟩);have hC:=uc (w:=w) (b:=b) (off:=off) (n:=n) (d:=(S l).toArray) (os:=os)
  suffices hfin:dA _ (tr (S l)) (G aa) (H aa)from(by
   obtain⟨x,L,H',G',val,r⟩:=vr hr (hC.mono λx y _ h=>hF x y h) hfin;exact⟨_,x,L,H',G',val,rfl,r⟩)
  refine⟨hn,some ⟨b,off,none⟩,cap,by rw[hS];exact e0,by rw[hS];exact hl,hm,b,off,λk _=>iv ((S l).getD k 0),λ_ _ _ _=>False,λ_=>⟨rfl,sz,hK.gh hC,hoff⟩,?_,?_,?_,?_⟩
  ·intro k c hk hc;have hk':k<l.length:=by rw[←hS];exact hk
   have hc':c<1:=hc;obtain rfl:c=0:=by omega
   refine⟨?_,rfl,rfl,λ_ _ h=>h⟩;rw[show k*En.n Int+0=k from Nat.mul_one k,rQ (hcell k hk').1 (by rw[hsz];exact hk')];simp[getD_eq_getElem?_getD,hS,hk',iv]
  ·intros;assumption
  ·intro _ _ _ _ _ _ h;exact h.elim
  ·intro x y;rw[h5];constructor
   ·rintro (h|⟨k,c,hk,hc,hg⟩)
    ·exact .inl h
    ·have hc':c<1:=hc;obtain rfl:c=0:=by omega
     exact((hcell k hk).2 x y hg).elim
   ·rintro (h|⟨_,_,_,_,h⟩)
    ·exact .inl h
    ·exact h.elim
end Go.Proofs.YtekcnnngjoonbaaGreat.VM
