/- Contracts. No conditions. -/
import Derived.Shelf.Slices.Reverse
import Derived.Shelf.Spec.SlicesGrow
import Derived.Test.YtekcnnngjoonbaaGreatWd
import Derived.Test.YtekcnnngjoonbaaGreatWe
import Derived.Test.YtekcnnngjoonbaaGreatWx
set_option linter.all false
set_option maxHeartbeats 8000000
set_option maxRecDepth 10000
namespace Go.Proofs.YtekcnnngjoonbaaGreat.VM
open List Nat
open Go Go.RowKit Go.Proofs Go.Proofs.Tryz
theorem pf{l m:List Int}{n:Nat}{g:Nat→Nat→T}(hn:n=m.length)(hg:∀k,k<m.length→g k 0= .v (iv (m.getD k En.ab))):(oq 1 l.length (λk c=>[T.v (iv (l.getD k En.ab))].getD c .j) n g).bb (tr (l++m)):=by
 subst hn;show T.bb _ (.s 1 (l++m).length λk c=>[T.v (iv ((l++m).getD k En.ab))].getD c .j);rw[length_append];refine T.vt λk c hk hc=>?_;obtain rfl:c=0:=by omega
 show(if k<l.length then _ else _)=T.v (iv ((l++m).getD k En.ab))
 by_cases h:k<l.length
 ·rw[if_pos h,getD_eq_getElem?_getD (l:=l++m),getElem?_append_left h,←getD_eq_getElem?_getD];rfl
 ·rw[if_neg h,hg _ (by omega),getD_eq_getElem?_getD (l:=l++m),getElem?_append_right (by omega),←getD_eq_getElem?_getD]
theorem w2{l jt:List Int}{f:Int}(hr:jt.length=64)(h0:0≤f)(h1:f≤15):(oq 1 l.length (λk c=>[T.v (iv (l.getD k En.ab))].getD c .j) (((f+1)*4).toNat-(f*4).toNat) λk c=>jg ([T.v (iv (jt.getD ((f*4).toNat+k) En.ab))].getD c .j)).bb (tr (l++yi jt f)):=by
 have e:(yi jt f).length=4:=by unfold yi;rw[length_take,length_drop];omega
 refine pf (by rw[e];omega) λk hk=>?_;rw[e]at hk;show T.v (iv (jt.getD ((f*4).toNat+k) En.ab))=_;unfold yi;rw[getD_eq_getElem?_getD (l:=take _ _),getElem?_take_of_lt hk,getElem?_drop,←getD_eq_getElem?_getD]
theorem x4(jt fs:List Int)(hr:jt.length=64)(hf:∀k,k<fs.length→0≤fs.getD k En.ab∧fs.getD k En.ab≤15)(hl:fs.length≤1048576):a_ prog 41 [.h aa [],.h (aa+1) []] [.rt aa .ro (tr jt),.rt (aa+1) .ro (tr fs)] (j6 (.h 0 []) [(0,.row,tr (j5 jt fs fs.length))]):=by
 refine ob func41 ntmps41 ?_;refine sr ?_;refine sx ?_;refine qn ?_;refine dq ?_;refine mn ?_;refine qh kb ?_;refine qm ?_;refine nl ?_;refine AW.block ?_;refine AW.lm 5 18 1 (by omega) rfl rfl (by decide) ?_;refine AW.aL (λi:cV fs.length=>[.sl 10 (.v (iv i.k)),.sl 9 (.v (iv fs.length)),.sl 8 (.h (aa+1) []),.sl 5 (.h 18 []),.rt 18 .row (tr (j5 jt fs i.k)),.sl 0 (.h aa []),.rt aa .ro (tr jt),.rt (aa+1) .ro (tr fs)]) (λi=>fs.length-i.k) ⟨0,zero_le _⟩ (ar.bb ⟨rfl,rfl,rfl,rfl,⟨_,rfl,bK⟩,rfl,Rf rfl,Rf rfl,trivial⟩ rfl rfl) ?_;intro i;have hle:=i.le;have hml:=pw jt fs i.k i.le;refine sr ?_;refine qb ?_;refine nl ?_;refine AW.seq ?_;refine cd (λc1=>?_) λc1=>?_
 ·try simp only[ah]at c1
  have hfi:=hf i.k (by omega);have hfw:=sc jt (fs.getD i.k En.ab);refine jd (AW.seq (AW.block (sr ?_)));refine qq (ix kb fP) ?_;refine nm ?_;refine ql DX ?_;refine qn ?_;refine AW.region ?_;refine mn ?_;refine qm ?_;refine qm ?_;refine sp (aE.Dc rfl (by decide) call117 rfl rfl rfl rfl (by omega) (pq jt _ hr hfi.1 hfi.2)) ?_;refine nm ?_;refine sp (by first|exact aE.bN rfl (by decide) (by decide) rfl rfl (by omega)|exact aE.bc rfl (by decide) (by decide) rfl rfl rfl (by omega)) ?_;refine nm ?_;refine qn ?_;refine AW.region ?_;refine ba ?_;refine qm ?_;refine nl ?_;refine⟨⟨i.k+1,by omega⟩,ar.bb ⟨ew,rfl,rfl,rfl,⟨_,rfl,(by rw[mV (by omega)];exact w2 hr hfi.1 hfi.2)⟩,rfl,Rf rfl,Rf rfl,trivial⟩ rfl rfl,?_⟩;show fs.length-(i.k+1)<fs.length-i.k;omega
 try simp only[ah]at c1
 refine AW.exit ?_;dsimp only[aD,au,reduceIte];refine sr ?_;refine mn ?_;refine qr 4 ?_;rw[show j5 jt fs fs.length=j5 jt fs i.k from congrArg (j5 jt fs) (by omega)];refine⟨λ_=>18,rfl,aj rfl,?_⟩;intro r hr;cases List.mem_singleton.1 hr;exact⟨by simp,aq rfl⟩
open Go Go.RowKit Go.Proofs Go.Proofs.Tryz
theorem cb{α:Type}[En α]{a:α}{f:Nat→Nat→T}(h:∀c,c<En.n α→(f 0 c).bb ((En.cs a).getD c .j)):(T.s (En.n α) 1 f).bb (tr [a]):=by
 refine⟨_,rfl,λk c hk hc=>?_⟩;obtain rfl:k=0:=by omega
 exact h c hc
instance:Fl cU:=⟨(λa c hc=>by
 have hc':c<4:=hc
 match c,hc' with
 | 0,_=>rfl
 | 1,_=>rfl
 | 2,_=>rfl
 | 3,_=>rfl
 | c+4,h=>omega)⟩
instance:Fl az:=⟨(λa c hc=>by
 have hc':c<5:=hc
 match c,hc' with
 | 0,_=>rfl
 | 1,_=>rfl
 | 2,_=>rfl
 | 3,_=>rfl
 | 4,_=>rfl
 | c+5,h=>omega)⟩
theorem uv{α:Type}[En α][Mk α]{l:List (List α)}(hw:Mk.wt l≤1048576):l.length≤1048576∧∀k,k<l.length→(l.getD k En.ab).length≤1048576:=by
 have h1:=cX l;refine⟨by omega,λk hk=>?_⟩;have h2:=fN (w:=Mk.wt) (d:=En.ab) (l:=l) (i:=k) hk;have h3:=cX (l.getD k En.ab);omega
theorem dT{α:Type}{l:List α}{k:Nat}(d:α)(h:k<l.length):l.take (k+1)=l.take k++[l.getD k d]:=by
 rw[take_add_one,getElem?_eq_getElem h];simp[getD_eq_getElem?_getD,h]
theorem ph{α:Type}[Mk α]{l:List α}{k:Nat}(hk:k<l.length):Mk.wt (l.getD k En.ab)+l.length≤Mk.wt l:=by
 have h1:=cX l;have h2:=fN (w:=Mk.wt) (d:=En.ab) (l:=l) (i:=k) hk;omega
theorem iH{α:Type}[Mk α](l:List α):l.length≤Mk.wt l:=by
 have h1:=cX l;omega
theorem rz(l:List cU)(hs:l.length≤4194304):a_ prog 116 [.h aa []] [.rt aa .ro (tr l)] (j6 (.h 0 []) [(0,.row,tr l)]):=by
 refine ob func116 ntmps116 ?_;refine sr ?_;refine qn ?_;refine dq ?_;refine qm ?_;refine aB.nS rfl rfl rfl (by decide) rfl rfl rfl CS ?_;intro b1 hb1;refine nc (λc2=>?_) λc2=>?_
 ·try simp only[ah]at c2
  refine sr ?_;refine qn ?_;have hl0:l=[]:=eq_nil_of_length_eq_zero (hb1 c2);subst hl0;refine AW.lm 2 900 4 (by omega) rfl rfl (by decide) ?_;refine AW.bB 900 (tr ([]:List cU)) rfl bK ?_;refine aQ 2 ?_;refine⟨λ_=>900,rfl,aj rfl,?_⟩;intro r hr;cases List.mem_singleton.1 hr;exact⟨by simp,aq rfl⟩
 try simp only[ah]at c2
 refine jd (sr ?_);refine sp sS ?_;refine nm ?_;refine qm ?_;refine sp (by first|exact aE.bN rfl (by decide) (by decide) rfl rfl (by omega)|exact aE.bc rfl (by decide) (by decide) rfl rfl rfl (by omega)) ?_;refine nm ?_;refine qn ?_;refine AW.bB 7 (tr l) rfl (dA (α:=cU)) ?_;refine aQ 2 ?_;refine⟨λ_=>7,rfl,aj rfl,?_⟩;intro r hr;cases List.mem_singleton.1 hr;exact⟨by simp,aq rfl⟩
theorem j9(l:List (List cU))(hw:Mk.wt l≤1048576):a_ prog 36 [.h aa []] [.rt aa .ro (tr l)] (j6 (.h 0 []) [(0,.row,tr l)]):=by
 refine ob func36 ntmps36 ?_;refine AW.len (aa) [] rfl (by simp[bT]) rfl (λhl=>?_);have hbd:=uv hw;refine sr ?_;refine sx ?_;refine qn ?_;refine dq ?_;refine mn ?_;refine qh A6 ?_;refine qm ?_;refine nl ?_;refine AW.block ?_;refine AW.lm 3 16 1 (by omega) rfl rfl (by decide) ?_;refine AW.aL (λi:cV l.length=>[.sl 8 (.v (iv i.k)),.sl 7 (.v (iv l.length)),.sl 6 (.h aa []),.sl 3 (.h 16 []),.rt aa .ro (tr l),.rt 16 .row (tr (l.take i.k))]) (λi=>l.length-i.k) ⟨0,zero_le _⟩ (ar.bb ⟨rfl,rfl,rfl,rfl,Rf rfl,⟨_,rfl,bK⟩,trivial⟩ rfl rfl) ?_;intro i;have hle:=i.le;refine sr ?_;refine qb ?_;refine nl ?_;refine AW.seq ?_;refine cd (λc1=>?_) λc1=>?_
 ·try simp only[ah]at c1
  have hik:=hbd.2 i.k (by omega);have htl:(l.take i.k).length≤1048576:=by rw[length_take];omega
  refine jd (AW.seq (AW.block (sr ?_)));refine qq (ix A6 Ae) ?_;refine nm ?_;refine ql zh ?_;refine qn ?_;refine AW.region ?_;refine mn ?_;refine qm ?_;refine sp (aE.bP rfl (by decide) call116 rfl rfl (rz _ (by omega)) (aj rfl) rfl rfl) ?_;refine nm ?_;refine sp sS ?_;refine nm ?_;refine aB.bB 15 (tr [(l.getD i.k En.ab)]) rfl (cb (α:=List cU) (λc hc=>match c,hc with|0,_=>aw|c+1,hc=>absurd hc (by simp only[En.n];omega))) ?_;refine nm ?_;refine sp (aE.bc rfl (by decide) (by decide) rfl rfl rfl (by simp only[length_cons,length_nil];omega)) ?_;refine nm ?_;refine aB.bB 16 (tr (l.take (i.k+1))) rfl (by rw[dT En.ab (show i.k<l.length by omega)];exact cj (l:=l.take i.k) (l':=[l.getD i.k En.ab]) rfl (λ_ _ _ _=>rfl) (λ_ _ _ _=>rfl)) ?_;refine nm ?_;refine qn ?_;refine AW.region ?_;refine ba ?_;refine qm ?_;refine nl ?_;refine⟨⟨i.k+1,by omega⟩,ar.bb ⟨ew,rfl,rfl,rfl,Rf rfl,Rf rfl,trivial⟩ rfl rfl,?_⟩;show l.length-(i.k+1)<l.length-i.k;omega
 try simp only[ah]at c1
 refine AW.exit ?_;dsimp only[aD,au,reduceIte];refine sr ?_;refine mn ?_;refine qn ?_;refine AW.bB 16 (tr l) rfl (by rw[take_of_length_le (by omega)];exact aw) ?_;refine aQ 2 ?_;refine⟨λ_=>16,rfl,aj rfl,?_⟩;intro r hr;cases List.mem_singleton.1 hr;exact⟨by simp,aq rfl⟩
theorem cW(l:List (List cU))(hw:Mk.wt l≤1048576):a_ prog 95 [.h aa []] [.rt aa .ro (tr l)] (j6 (.h 0 []) [(0,.row,tr l)]):=by
 refine ob func95 ntmps95 ?_;refine AW.len (aa) [] rfl (by simp[bT]) rfl (λhl=>?_);have hbd:=uv hw;refine sr ?_;refine sx ?_;refine sp sS ?_;refine nm ?_;refine qn ?_;refine dq ?_;refine qn ?_;refine AW.block ?_;refine AW.ke 5 20 rfl (by decide) (by decide) ?_;refine AW.aL (λi:cV l.length=>[.sl 4 (.v (iv i.k)),.sl 0 (.h aa []),.sl 3 (.h 20 []),.rt aa .ro (tr l),.rt 20 .row (tr (l.take i.k))]) (λi=>l.length-i.k) ⟨0,zero_le _⟩ (ar.bb ⟨rfl,rfl,rfl,Rf rfl,⟨_,rfl,bK⟩,trivial⟩ rfl rfl) ?_;intro i;have hle:=i.le;refine dq ?_;refine mn ?_;refine qm ?_;refine qh A6 ?_;refine qb ?_;refine nc (λc1=>?_) λc1=>?_
 ·try simp only[ah]at c1
  have hik:=hbd.2 i.k (by omega);have htl:(l.take i.k).length≤1048576:=by rw[length_take];omega
  refine jd (AW.seq (AW.block (AW.region ?_)));refine mn ?_;refine sp sS ?_;refine nm ?_;refine qm ?_;refine qm ?_;refine qq (ix A6 Ae) ?_;refine nm ?_;refine ql zh ?_;refine sp (by first|exact aE.bN rfl (by decide) (by decide) rfl rfl (by omega)|exact aE.bc rfl (by decide) (by decide) rfl rfl rfl (by omega)) ?_;refine nm ?_;refine aB.bB 18 (tr (l.getD i.k En.ab)) rfl (dA (α:=cU)) ?_;refine nm ?_;refine sp sS ?_;refine nm ?_;refine aB.bB 19 (tr [(l.getD i.k En.ab)]) rfl (cb (α:=List cU) (λc hc=>match c,hc with|0,_=>aw|c+1,hc=>absurd hc (by simp only[En.n];omega))) ?_;refine nm ?_;refine sp (aE.bc rfl (by decide) (by decide) rfl rfl rfl (by simp only[length_cons,length_nil];omega)) ?_;refine nm ?_;refine aB.bB 20 (tr (l.take (i.k+1))) rfl (by rw[dT En.ab (show i.k<l.length by omega)];exact cj (l:=l.take i.k) (l':=[l.getD i.k En.ab]) rfl (λ_ _ _ _=>rfl) (λ_ _ _ _=>rfl)) ?_;refine nm ?_;refine qn ?_;refine AW.region ?_;refine qm ?_;refine ba ?_;refine nm ?_;refine qn ?_;refine⟨⟨i.k+1,by omega⟩,ar.bb ⟨ew,rfl,rfl,Rf rfl,Rf rfl,trivial⟩ rfl rfl,?_⟩;show l.length-(i.k+1)<l.length-i.k;omega
 try simp only[ah]at c1
 refine AW.exit ?_;dsimp only[aD,au,reduceIte];refine sr ?_;refine qm ?_;refine qn ?_;refine AW.bB 20 (tr l) rfl (by rw[take_of_length_le (by omega)];exact aw) ?_;refine aQ 2 ?_;refine⟨λ_=>20,rfl,aj rfl,?_⟩;intro r hr;cases List.mem_singleton.1 hr;exact⟨by simp,aq rfl⟩
open Go Go.RowKit Go.Proofs Go.Shelf
def BP:Go.Shelf.Ren:=⟨λ |4=>119|n=>n,λ |22=>24|25=>3|n=>n,λn=>n⟩
theorem Bu:Go.Proofs.Lays8.n4 Tryz.prog BP:={
 mixed:=by kernel_rfl
 f4:=⟨"slices.Grow[[]int,int]",by decide,Tryz.func119.trans (congrArg some (by kernel_rfl))⟩
 t0:=by kernel_rfl
 a0:=λw=>by kernel_rfl
 z0:=λw=>by kernel_rfl
 v0:=λw=>by kernel_rfl
 t3:=by kernel_rfl
 a3:=λw=>by kernel_rfl
 z3:=λw=>by kernel_rfl
 v3:=λw=>by kernel_rfl
 t4:=by kernel_rfl
 a4:=λw=>by kernel_rfl
 z4:=λw=>by kernel_rfl
 v4:=λw=>by kernel_rfl
 t9:=by kernel_rfl
 a9:=λw=>by kernel_rfl
 z9:=λw=>by kernel_rfl
 v9:=λw=>by kernel_rfl
 t20:=by kernel_rfl
 a20:=λw=>by kernel_rfl
 z20:=λw=>by kernel_rfl
 v20:=λw=>by kernel_rfl
 t22:=by kernel_rfl
 a22:=λw=>by kernel_rfl
 z22:=λw=>by kernel_rfl
 v22:=λw=>by kernel_rfl }
theorem yO:Tryz.t3.bytes=8:=by kernel_rfl
theorem yZ(n:Nat)(hn:n*8≤140737488355328):a_ Tryz.prog 119 [.v (.slice none 0 0),.v (iv n)] [] (ch (.h 0 []) [(0,.row,tr ([]:List Int))] []):=
 zI (λw=>Any8.slices_Grow_room Bu none 0 0 0 w (by omega) (by omega) (by omega) (by omega))
  (λn w h0 h1=>(Any8.slices_Grow_grow Bu Tryz.t3 (.int .i64 0) (by kernel_rfl) (by kernel_rfl) (by decide) none 0 0 n [] w (by omega) (by omega) (by rw[yO];omega) (by omega) rfl (λ_=>rfl) (λa ha=>by cases ha)).mono λe w' ⟨h2,h3⟩=>by
   refine⟨grownCap w (0+n) 0 (BP.t 25),_,_,grownCap_le_maxLen w _ _ _ (by simp only[maxLen];omega),?_,h2,h3⟩;have:=grownCap_ge w n 0 (BP.t 25);rw[Nat.zero_add];simp[Builtin.zeroCells,Value.cells];omega) n hn
open Go Go.RowKit Go.Proofs Go.Sort
open Go.Shelf
def tq:Go.Shelf.Ren:=⟨λ |112=>118|n=>n,λ |28=>24|3=>3|4=>4|0=>0|n=>n,λ |n=>n⟩
theorem xx:Go.Proofs.Lays.n112 Tryz.prog tq:={
 mixed:=by kernel_rfl
 f112:=Tryz.func118.trans (congrArg some (by kernel_rfl))
 t0:=Tryz.underlying0
 a0:=Tryz.isAgg0
 z0:=Tryz.sizeOf0
 v0:=Tryz.zeroValue0
 t3:=Tryz.underlying3
 a3:=Tryz.isAgg3
 z3:=Tryz.sizeOf3
 v3:=Tryz.zeroValue3
 t4:=Tryz.underlying4
 a4:=Tryz.isAgg4
 z4:=Tryz.sizeOf4
 v4:=Tryz.zeroValue4
 t28:=Tryz.underlying24
 a28:=Tryz.isAgg24
 z28:=Tryz.sizeOf24
 v28:=Tryz.zeroValue24 }
theorem AX(l:List Int)(hlen:l.length<4611686018427387904):a_ Tryz.prog 118 [.h aa []] [.rt aa .row (tr l)] (ch (.t []) [] [(aa,tr l.reverse)]):=
 tv (S:=reverse) (λl=>length_reverse) (λblk off cap zs w hH hb hs=>(Any.slices_Reverse_int xx blk off cap zs w hH (by omega)).mono λe w' ⟨h1,n,h2⟩=>⟨h1,n, #[],by rw[h2,grow,Array.append_empty]⟩) (λp cap w=>Any.slices_Reverse_int_empty xx p cap w) l hlen
open Go Go.RowKit Go.Proofs Go.Proofs.Tryz
theorem o5:∀l:List (List Int),l.flatten.length≤Mk.wt l
 | []=>zero_le _
 | x :: l=>by
  have h:=o5 l;have h2:=dY x;rw[cX]at h ⊢;simp only[flatten_cons,length_append,length_cons,mE,map_cons,foldr_cons]at h ⊢;omega
theorem ie{l:List (List Int)}{k:Nat}(h:k<l.length):(l.take (k+1)).flatten=(l.take k).flatten++l.getD k En.ab:=by
 rw[dT En.ab h];simp
theorem nU(l:List (List Int))(k:Nat):(l.take k).flatten.length≤l.flatten.length:=by
 conv=>rhs;rw[←take_append_drop k l]
 rw[flatten_append,length_append];omega
theorem vI(l:List (List Int))(hw:Mk.wt l≤1048576):a_ prog 43 [.h aa []] [.rt aa .ro (tr l)] (j6 (.h 0 []) [(0,.row,tr l.flatten)]):=by
 refine ob func43 ntmps43 ?_;refine AW.len (aa) [] rfl (by simp[bT]) rfl (λhl=>?_);have hfl:=o5 l;refine go [.R,.a,.Z,.R,.a,.Z,.R2,.m,.N,.h,.m,.Z] ?_;refine AW.block ?_;refine AW.aL (λi:cV l.length=>[.sl 11 (.v (iv i.k)),.sl 10 (.v (iv l.length)),.sl 9 (.h aa []),.sl 3 (.v (iv ((l.take i.k).flatten.length:Nat))),.sl 0 (.h aa []),.rt aa .ro (tr l)]) (λi=>l.length-i.k) ⟨0,zero_le _⟩ (ws) ?_;intro i;have hle:=i.le;refine go [.R,.b,.Z] ?_;refine AW.seq ?_;refine cd (λc1=>?_) λc1=>?_
 ·try simp only[ah]at c1
  have hf1:=nU l (i.k+1);rw[ie (show i.k<l.length by omega),length_append]at hf1;refine jd (AW.seq (AW.block (sr ?_)));refine go [.i,.N,.l,.a,.Z,.R,.m,.N,.m,.h,.b,.N,.a,.Z,.R,.m,.b,.Z] ?_;refine AW.cond rfl (λc2=>(by exfalso;first|(cases c2;done)|(simp at c2;done)|(simp only[ah]at c2;omega))) (λc2=>?_)
  try simp only[ah]at c2
  refine go [.J,.R1,.b,.N,.m,.Z] ?_;refine⟨⟨i.k+1,by omega⟩,ar.bb ⟨ew,rfl,rfl,(by simp only[ax,reduceIte,Nat.reduceEqDiff];congr 2;rw[ie (by omega),length_append];omega),rfl,Rf rfl,trivial⟩ rfl rfl,?_⟩;show l.length-(i.k+1)<l.length-i.k;omega
 try simp only[ah]at c1
 refine AW.exit ?_;dsimp only[aD,au,reduceIte];refine go [.R,.m] ?_;refine sp (aE.bW rfl (by decide) call119 rfl (yZ _ (by have:=nU l i.k;omega)) rfl rfl rfl (aj rfl) rfl rfl) ?_;refine go [.N,.a,.Z,.R2,.m,.h,.N,.m,.Z] ?_;refine AW.block ?_;refine AW.ke 24 33 rfl (by decide) (by decide) ?_;refine AW.aL (λj:cV l.length=>[.sl 27 (.v (iv j.k)),.sl 26 (.v (iv l.length)),.sl 25 (.h aa []),.sl 6 (.h 33 []),.rt aa .ro (tr l),.rt 33 .row (tr (l.take j.k).flatten)]) (λj=>l.length-j.k) ⟨0,zero_le _⟩ (ar.bb ⟨rfl,rfl,rfl,rfl,Rf rfl,⟨_,rfl,bK⟩,trivial⟩ rfl rfl) ?_;intro j;have hlej:=j.le;refine go [.R,.b,.Z] ?_;refine AW.seq ?_;refine cd (λc3=>?_) λc3=>?_
 ·try simp only[ah]at c3
  have hf1:=nU l (j.k+1);rw[ie (show j.k<l.length by omega),length_append]at hf1;refine jd (AW.seq (AW.block (sr ?_)));refine go [.i,.N,.l,.a,.Z,.R1,.m,.N,.m] ?_;refine sp (by first|exact aE.bN rfl (by decide) (by decide) rfl rfl (by omega)|exact aE.bc rfl (by decide) (by decide) rfl rfl rfl (by omega)) ?_;refine go [.N,.a,.Z,.R1,.b,.m,.Z] ?_;refine⟨⟨j.k+1,by omega⟩,ar.bb ⟨ew,rfl,rfl,rfl,Rf rfl,⟨_,rfl,(by rw[ie (by omega)];exact pf rfl (λ_ _=>rfl))⟩,trivial⟩ rfl rfl,?_⟩;show l.length-(j.k+1)<l.length-j.k;omega
 try simp only[ah]at c3
 refine AW.exit ?_;dsimp only[aD,au,reduceIte];refine go [.R,.m,.N,.a,.Z] ?_;refine aQ 2 ?_;rw[show l.flatten=(l.take j.k).flatten from by rw[take_of_length_le (by omega)]];refine⟨λ_=>33,rfl,aj rfl,?_⟩;intro r hr;cases List.mem_singleton.1 hr;exact⟨by simp,aq rfl⟩
theorem rh(l:List Int)(hs:l.length≤4194304):a_ prog 42 [.h aa []] [.rt aa .ro (tr l)] (j6 (.h 0 []) [(0,.row,tr l.reverse)]):=by
 refine ob func42 ntmps42 ?_;refine go [.R,.a,.Z,.R,.m] ?_;refine sp (aE.bP rfl (by decide) call39 rfl rfl (eY _ (by omega)) (aj rfl) rfl rfl) ?_;refine go [.N,.a,.Z,.R,.m] ?_;refine sp (aE.bW rfl (by decide) call118 rfl (AX _ (by omega)) rfl rfl rfl (aj rfl) rfl rfl) ?_;refine go [.Z,.R,.m,.N,.a,.Z] ?_;refine aQ 2 ?_;refine⟨λ_=>5,rfl,aj rfl,?_⟩;intro r hr;cases List.mem_singleton.1 hr;exact⟨by simp,aq rfl⟩
theorem oO(l:List az)(hs:l.length≤4194304):a_ prog 37 [.h aa []] [.rt aa .ro (tr l)] (j6 (.h 0 []) [(0,.row,tr l)]):=by
 refine ob func37 ntmps37 ?_;refine go [.R,.a,.Z,.R2,.m] ?_;refine aB.nS rfl rfl rfl (by decide) rfl rfl rfl gB ?_;intro b1 hb1;refine go [.Z] ?_;refine cd (λc2=>?_) λc2=>?_
 ·try simp only[ah]at c2
  refine go [.R,.a,.Z] ?_;have hl0:l=[]:=eq_nil_of_length_eq_zero (hb1 c2);subst hl0;refine AW.lm 2 900 5 (by omega) rfl rfl (by decide) ?_;refine AW.bB 900 (tr ([]:List az)) rfl bK ?_;refine aQ 2 ?_;refine⟨λ_=>900,rfl,aj rfl,?_⟩;intro r hr;cases List.mem_singleton.1 hr;exact⟨by simp,aq rfl⟩
 try simp only[ah]at c2
 refine go [.J,.R,.S,.N,.m] ?_;refine sp (by first|exact aE.bN rfl (by decide) (by decide) rfl rfl (by omega)|exact aE.bc rfl (by decide) (by decide) rfl rfl rfl (by omega)) ?_;refine go [.N,.a,.Z] ?_;refine AW.bB 7 (tr l) rfl (dA (α:=az)) ?_;refine aQ 2 ?_;refine⟨λ_=>7,rfl,aj rfl,?_⟩;intro r hr;cases List.mem_singleton.1 hr;exact⟨by simp,aq rfl⟩
theorem ki(l:List ca)(hw:Mk.wt l≤1048576):a_ prog 38 [.h aa []] [.rt aa .ro (tr l)] (j6 (.h 0 []) [(0,.row,tr l)]):=by
 refine ob func38 ntmps38 ?_;refine AW.len (aa) [] rfl (by simp[bT]) rfl (λhl=>?_);have hbd:=iH l;refine go [.R,.a,.Z,.R,.a,.Z,.R2,.m,.N,.h,.m,.Z] ?_;refine AW.block ?_;refine AW.lm 3 20 2 (by omega) rfl rfl (by decide) ?_;refine AW.aL (λi:cV l.length=>[.sl 8 (.v (iv i.k)),.sl 7 (.v (iv l.length)),.sl 6 (.h aa []),.sl 3 (.h 20 []),.rt aa .ro (tr l),.rt 20 .row (tr (l.take i.k))]) (λi=>l.length-i.k) ⟨0,zero_le _⟩ (ar.bb ⟨rfl,rfl,rfl,rfl,Rf rfl,⟨_,rfl,bK⟩,trivial⟩ rfl rfl) ?_;intro i;have hle:=i.le;refine go [.R,.b,.Z] ?_;refine AW.seq ?_;refine cd (λc1=>?_) λc1=>?_
 ·try simp only[ah]at c1
  have hik:=ph (show i.k<l.length by omega);have hik2:Mk.wt (l.getD i.k En.ab)=(l.getD i.k En.ab).Data.length:=dY _;have htl:(l.take i.k).length≤1048576:=by rw[length_take];omega
  refine jd (AW.seq (AW.block (sr ?_)));refine go [.i,.N,.G,.A,.N,.s,.Z,.D [0,1,2,3,4,6],.t 0,.m,.N,.t 1,.f,.t 2,.l,.t 3,.f,.N,.t 4,.l] ?_;refine a1 5 [0,1,2] [4,3] rfl rfl (aE.bP rfl (by decide) call39 rfl rfl (eY _ (by omega)) (aj rfl) rfl rfl) ?_;refine go [.N,.g,.m,.N,.g,.f,.N,.g,.l,.N,.t 6,.u,.O 7 [0] [6,5,2,4,1,3],.S,.N,.g,.m,.N] ?_;refine aO.bB 19 (tr [(l.getD i.k En.ab)]) rfl (cb (α:=ca) (λc hc=>match c,hc with|0,_=>aw|1,_=>aw|c+2,hc=>absurd hc (by simp only[En.n];omega))) ?_;refine go [.N] ?_;refine a1 8 [] [7,5,0,6,4,2,3,1] rfl rfl (aE.bc rfl (by decide) (by decide) rfl rfl rfl (by simp only[length_cons,length_nil];omega)) ?_;refine go [.N] ?_;refine aO.bB 20 (tr (l.take (i.k+1))) rfl (by rw[dT En.ab (show i.k<l.length by omega)];exact cj (l:=l.take i.k) (l':=[l.getD i.k En.ab]) rfl (λ_ _ _ _=>rfl) (λ_ _ _ _=>rfl)) ?_;refine go [.N] ?_;refine a1 9 [] [8,7,6,5,4,3,2,1,0] rfl rfl (aE.q rfl (by decide) Qt.assign) ?_;refine go [.N,.Z,.R1,.b,.m,.Z] ?_;refine⟨⟨i.k+1,by omega⟩,ws,?_⟩;show l.length-(i.k+1)<l.length-i.k;omega
 try simp only[ah]at c1
 refine AW.exit ?_;dsimp only[aD,au,reduceIte];refine go [.R,.m,.N,.a,.Z] ?_;refine AW.bB 20 (tr l) rfl (by rw[take_of_length_le (by omega)];exact aw) ?_;refine aQ 2 ?_;refine⟨λ_=>20,rfl,aj rfl,?_⟩;intro r hr;cases List.mem_singleton.1 hr;exact⟨by simp,aq rfl⟩
theorem rA(c:oj)(hs:c.b_.length≤4194304):a_ prog 40 [.g [.v (iv c.Pc),.h aa []]] [.rt aa .ro (tr c.b_)] (j6 (.g [.v (iv c.Pc),.h 0 []]) [(0,.row,tr c.b_)]):=by
 refine ob func40 ntmps40 ?_;refine go [.R,.B,.N,.A,.Z] ?_;refine AW.seq ?_;refine go [.D [0,1,2,3,5],.t 0,.f,.N,.t 1,.l,.t 2,.f,.t 3,.l,.N] ?_;refine a1 4 [0,1] [3,2] rfl rfl (aE.bP rfl (by decide) call39 rfl rfl (eY _ (by omega)) (aj rfl) rfl rfl) ?_;refine go [.N,.g,.f,.g,.l,.N,.t 5,.u,.O 6 [] [5,4,3,2,1,0],.s,.N,.Z] ?_;refine AW.ret (ct (.cons (.jf 2 75 rfl rfl rfl Cb yG (by decide)) .nil) ?_);refine⟨λ_=>7,rfl,aj rfl,?_⟩;intro r hr;cases List.mem_singleton.1 hr;exact⟨by simp,aq rfl⟩
end Go.Proofs.YtekcnnngjoonbaaGreat.VM

