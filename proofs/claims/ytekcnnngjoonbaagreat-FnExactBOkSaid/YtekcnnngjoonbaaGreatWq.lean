/- Contracts. No conditions. -/
import Derived.Shelf.Slices.Reverse
import Derived.Shelf.Spec.SlicesGrow
import Derived.Test.YtekcnnngjoonbaaGreatWd
import Derived.Test.YtekcnnngjoonbaaGreatWe
import Derived.Test.YtekcnnngjoonbaaGreatWp
set_option linter.all false
set_option maxHeartbeats 8000000
set_option maxRecDepth 10000
namespace Go.Proofs.YtekcnnngjoonbaaGreat.VM
open List Nat
open Go Go.RowKit Go.Proofs
theorem cg{α:Type}[En α]{a:α}{f:Nat→Nat→T}(h:∀c,c<En.n α→(f 0 c).aZ ((En.cs a).getD c .j)):(T.s (En.n α) 1 f).aZ (tr [a]):=by
 refine⟨_,rfl,λk c hk hc=>?_⟩;obtain rfl:k=0:=by omega
 exact h c hc
instance:Fl dE:=⟨(λa c hc=>by
 have hc':c<4:=hc
 match c,hc' with
 | 0,_=>rfl
 | 1,_=>rfl
 | 2,_=>rfl
 | 3,_=>rfl
 | c+4,h=>omega)⟩
instance:Fl aw:=⟨(λa c hc=>by
 have hc':c<5:=hc
 match c,hc' with
 | 0,_=>rfl
 | 1,_=>rfl
 | 2,_=>rfl
 | 3,_=>rfl
 | 4,_=>rfl
 | c+5,h=>omega)⟩
theorem rL{α:Type}[En α][Mk α]{l:List (List α)}(hw:Mk.wt l≤1048576):l.length≤1048576∧∀k,k<l.length→(l.getD k En.ab).length≤1048576:=by
 have h1:=da l;refine⟨by omega,λk hk=>?_⟩;have h2:=ga (w:=Mk.wt) (d:=En.ab) (l:=l) (i:=k) hk;have h3:=da (l.getD k En.ab);omega
theorem dX{α:Type}{l:List α}{k:Nat}(d:α)(h:k<l.length):l.take (k+1)=l.take k++[l.getD k d]:=by
 rw[take_add_one,getElem?_eq_getElem h];simp[getD_eq_getElem?_getD,h]
theorem oB{α:Type}[Mk α]{l:List α}{k:Nat}(hk:k<l.length):Mk.wt (l.getD k En.ab)+l.length≤Mk.wt l:=by
 have h1:=da l;have h2:=ga (w:=Mk.wt) (d:=En.ab) (l:=l) (i:=k) hk;omega
theorem im{α:Type}[Mk α](l:List α):l.length≤Mk.wt l:=by
 have h1:=da l;omega
theorem qt(l:List dE)(hs:l.length≤4194304):bf Tryz.prog 116 [.h aa []] [.rt aa .ro (tr l)] (jY (.h 0 []) [(0, .row,tr l)]):=by
 refine ob Tryz.func116 Tryz.ntmps116 ?_;refine sr ?_;refine qn ?_;refine bP ?_;refine qm ?_;refine az.nj rfl rfl rfl (by decide) rfl rfl rfl A9 ?_;intro b1 hb1;refine nc (λc2=>?_) λc2=>?_
 ·try simp only[ai]at c2
  refine sr ?_;refine qn ?_;have hl0:l=[]:=eq_nil_of_length_eq_zero (hb1 c2);subst hl0;refine AW.k7 2 900 4 (by omega) rfl rfl (by decide) ?_;refine AW.bQ 900 (tr ([]:List dE)) rfl bS ?_;refine aM 2 ?_;refine⟨λ_=>900,rfl,ak rfl,?_⟩;intro r hr;cases List.mem_singleton.1 hr;exact⟨by simp,aq rfl⟩
 try simp only[ai]at c2
 refine jd (sr ?_);refine sp sS ?_;refine nm ?_;refine qm ?_;refine sp (by first|exact aK.cW rfl (by decide) (by decide) rfl rfl (by omega)|exact aK.bu rfl (by decide) (by decide) rfl rfl rfl (by omega)) ?_;refine nm ?_;refine qn ?_;refine AW.bQ 7 (tr l) rfl (dJ (α:=dE)) ?_;refine aM 2 ?_;refine⟨λ_=>7,rfl,ak rfl,?_⟩;intro r hr;cases List.mem_singleton.1 hr;exact⟨by simp,aq rfl⟩
theorem kp(l:List (List dE))(hw:Mk.wt l≤1048576):bf Tryz.prog 36 [.h aa []] [.rt aa .ro (tr l)] (jY (.h 0 []) [(0, .row,tr l)]):=by
 refine ob Tryz.func36 Tryz.ntmps36 ?_;refine AW.len (aa) [] rfl (by simp[ck]) rfl (λhl=>?_);have hbd:=rL hw;refine sr ?_;refine fi ?_;refine qn ?_;refine bP ?_;refine mn ?_;refine qh yh ?_;refine qm ?_;refine nl ?_;refine AW.block ?_;refine AW.k7 3 16 1 (by omega) rfl rfl (by decide) ?_;refine AW.bw (λi:ei l.length=>[.sl 8 (.v (iv i.k)), .sl 7 (.v (iv l.length)), .sl 6 (.h aa []), .sl 3 (.h 16 []), .rt aa .ro (tr l), .rt 16 .row (tr (l.take i.k))]) (λi=>l.length-i.k) ⟨0,zero_le _⟩ (ar.aZ ⟨rfl,rfl,rfl,rfl,Rf rfl,⟨_,rfl,bS⟩,trivial⟩ rfl rfl) ?_;intro i;have hle:=i.le;refine sr ?_;refine qb ?_;refine nl ?_;refine AW.seq ?_;refine cd (λc1=>?_) λc1=>?_
 ·try simp only[ai]at c1
  have hik:=hbd.2 i.k (by omega);have htl:(l.take i.k).length≤1048576:=by rw[length_take];omega
  refine jd (AW.seq (AW.block (sr ?_)));refine qq (ix yh xr) ?_;refine nm ?_;refine ql xB ?_;refine qn ?_;refine AW.region ?_;refine mn ?_;refine qm ?_;refine sp (aK.bV rfl (by decide) Tryz.call116 rfl rfl (qt _ (by omega)) (ak rfl) rfl rfl) ?_;refine nm ?_;refine sp sS ?_;refine nm ?_;refine az.bQ 15 (tr [(l.getD i.k En.ab)]) rfl (cg (α:=List dE) (λc hc=>match c,hc with|0,_=>au|c+1,hc=>absurd hc (by simp only[En.n];omega))) ?_;refine nm ?_;refine sp (aK.bu rfl (by decide) (by decide) rfl rfl rfl (by simp only[length_cons,length_nil];omega)) ?_;refine nm ?_;refine az.bQ 16 (tr (l.take (i.k+1))) rfl (by rw[dX En.ab (show i.k<l.length by omega)];exact ct (l:=l.take i.k) (l':=[l.getD i.k En.ab]) rfl (λ_ _ _ _=>rfl) (λ_ _ _ _=>rfl)) ?_;refine nm ?_;refine qn ?_;refine AW.region ?_;refine ba ?_;refine qm ?_;refine nl ?_;refine⟨⟨i.k+1,by omega⟩,ar.aZ ⟨fe,rfl,rfl,rfl,Rf rfl,Rf rfl,trivial⟩ rfl rfl,?_⟩;show l.length-(i.k+1)<l.length-i.k;omega
 try simp only[ai]at c1
 refine AW.exit ?_;dsimp only[aJ,ay,reduceIte];refine sr ?_;refine mn ?_;refine qn ?_;refine AW.bQ 16 (tr l) rfl (by rw[take_of_length_le (by omega)];exact au) ?_;refine aM 2 ?_;refine⟨λ_=>16,rfl,ak rfl,?_⟩;intro r hr;cases List.mem_singleton.1 hr;exact⟨by simp,aq rfl⟩
theorem cZ(l:List (List dE))(hw:Mk.wt l≤1048576):bf Tryz.prog 95 [.h aa []] [.rt aa .ro (tr l)] (jY (.h 0 []) [(0, .row,tr l)]):=by
 refine ob Tryz.func95 Tryz.ntmps95 ?_;refine AW.len (aa) [] rfl (by simp[ck]) rfl (λhl=>?_);have hbd:=rL hw;refine sr ?_;refine fi ?_;refine sp sS ?_;refine nm ?_;refine qn ?_;refine bP ?_;refine qn ?_;refine AW.block ?_;refine AW.oW 5 20 rfl (by decide) (by decide) ?_;refine AW.bw (λi:ei l.length=>[.sl 4 (.v (iv i.k)), .sl 0 (.h aa []), .sl 3 (.h 20 []), .rt aa .ro (tr l), .rt 20 .row (tr (l.take i.k))]) (λi=>l.length-i.k) ⟨0,zero_le _⟩ (ar.aZ ⟨rfl,rfl,rfl,Rf rfl,⟨_,rfl,bS⟩,trivial⟩ rfl rfl) ?_;intro i;have hle:=i.le;refine bP ?_;refine mn ?_;refine qm ?_;refine qh yh ?_;refine qb ?_;refine nc (λc1=>?_) λc1=>?_
 ·try simp only[ai]at c1
  have hik:=hbd.2 i.k (by omega);have htl:(l.take i.k).length≤1048576:=by rw[length_take];omega
  refine jd (AW.seq (AW.block (AW.region ?_)));refine mn ?_;refine sp sS ?_;refine nm ?_;refine qm ?_;refine qm ?_;refine qq (ix yh xr) ?_;refine nm ?_;refine ql xB ?_;refine sp (by first|exact aK.cW rfl (by decide) (by decide) rfl rfl (by omega)|exact aK.bu rfl (by decide) (by decide) rfl rfl rfl (by omega)) ?_;refine nm ?_;refine az.bQ 18 (tr (l.getD i.k En.ab)) rfl (dJ (α:=dE)) ?_;refine nm ?_;refine sp sS ?_;refine nm ?_;refine az.bQ 19 (tr [(l.getD i.k En.ab)]) rfl (cg (α:=List dE) (λc hc=>match c,hc with|0,_=>au|c+1,hc=>absurd hc (by simp only[En.n];omega))) ?_;refine nm ?_;refine sp (aK.bu rfl (by decide) (by decide) rfl rfl rfl (by simp only[length_cons,length_nil];omega)) ?_;refine nm ?_;refine az.bQ 20 (tr (l.take (i.k+1))) rfl (by rw[dX En.ab (show i.k<l.length by omega)];exact ct (l:=l.take i.k) (l':=[l.getD i.k En.ab]) rfl (λ_ _ _ _=>rfl) (λ_ _ _ _=>rfl)) ?_;refine nm ?_;refine qn ?_;refine AW.region ?_;refine qm ?_;refine ba ?_;refine nm ?_;refine qn ?_;refine⟨⟨i.k+1,by omega⟩,ar.aZ ⟨fe,rfl,rfl,Rf rfl,Rf rfl,trivial⟩ rfl rfl,?_⟩;show l.length-(i.k+1)<l.length-i.k;omega
 try simp only[ai]at c1
 refine AW.exit ?_;dsimp only[aJ,ay,reduceIte];refine sr ?_;refine qm ?_;refine qn ?_;refine AW.bQ 20 (tr l) rfl (by rw[take_of_length_le (by omega)];exact au) ?_;refine aM 2 ?_;refine⟨λ_=>20,rfl,ak rfl,?_⟩;intro r hr;cases List.mem_singleton.1 hr;exact⟨by simp,aq rfl⟩
open Go Go.RowKit Go.Proofs Go.Shelf
def z6:Go.Shelf.Ren:=⟨λ |4=>119|n=>n,λ |22=>24|25=>3|n=>n,λn=>n⟩
theorem zc:Go.Proofs.Lays8.n4 Tryz.prog z6:={
 mixed:=by kernel_rfl
 f4:=⟨"slices.Grow[[]int,int]",by decide,Tryz.func119.trans (congrArg some (by kernel_rfl))⟩
 t0:=by kernel_rfl
 a0:=λw=>by kernel_rfl
 z0:=λw=>by kernel_rfl
 v0:=λw=>by kernel_rfl
 t3:=by kernel_rfl
 a3:=λw=>by kernel_rfl
 z3:=λw=>by kernel_rfl
 v3:=λw=>by kernel_rfl
 t4:=by kernel_rfl
 a4:=λw=>by kernel_rfl
 z4:=λw=>by kernel_rfl
 v4:=λw=>by kernel_rfl
 t9:=by kernel_rfl
 a9:=λw=>by kernel_rfl
 z9:=λw=>by kernel_rfl
 v9:=λw=>by kernel_rfl
 t20:=by kernel_rfl
 a20:=λw=>by kernel_rfl
 z20:=λw=>by kernel_rfl
 v20:=λw=>by kernel_rfl
 t22:=by kernel_rfl
 a22:=λw=>by kernel_rfl
 z22:=λw=>by kernel_rfl
 v22:=λw=>by kernel_rfl }
theorem wY:Tryz.t3.bytes=8:=by kernel_rfl
theorem ya(n:Nat)(hn:n*8≤140737488355328):bf Tryz.prog 119 [.v (.slice none 0 0), .v (iv n)] [] (cn (.h 0 []) [(0, .row,tr ([]:List Int))] []):=
 wQ (λw=>Any8.slices_Grow_room zc none 0 0 0 w (by omega) (by omega) (by omega) (by omega))
  (λn w h0 h1=>(Any8.slices_Grow_grow zc Tryz.t3 (.int .i64 0) (by kernel_rfl) (by kernel_rfl) (by decide) none 0 0 n [] w (by omega) (by omega) (by rw[wY];omega) (by omega) rfl (λ_=>rfl) (λa ha=>by cases ha)).mono λe w' ⟨h2,h3⟩=>by
   refine⟨grownCap w (0+n) 0 (z6.t 25),_,_,grownCap_le_maxLen w _ _ _ (by simp only[maxLen];omega),?_,h2,h3⟩;have:=grownCap_ge w n 0 (z6.t 25);rw[Nat.zero_add];simp[Builtin.zeroCells,Value.cells];omega) n hn
open Go Go.RowKit Go.Proofs Go.Sort
open Go.Shelf
def ti:Go.Shelf.Ren:=⟨λ |112=>118|n=>n,λ |28=>24|3=>3|4=>4|0=>0|n=>n,λ |n=>n⟩
theorem vj:Go.Proofs.Lays.n112 Tryz.prog ti:={
 mixed:=by kernel_rfl
 f112:=Tryz.func118.trans (congrArg some (by kernel_rfl))
 t0:=Tryz.underlying0
 a0:=Tryz.isAgg0
 z0:=Tryz.sizeOf0
 v0:=Tryz.zeroValue0
 t3:=Tryz.underlying3
 a3:=Tryz.isAgg3
 z3:=Tryz.sizeOf3
 v3:=Tryz.zeroValue3
 t4:=Tryz.underlying4
 a4:=Tryz.isAgg4
 z4:=Tryz.sizeOf4
 v4:=Tryz.zeroValue4
 t28:=Tryz.underlying24
 a28:=Tryz.isAgg24
 z28:=Tryz.sizeOf24
 v28:=Tryz.zeroValue24 }
theorem yz(l:List Int)(hlen:l.length<4611686018427387904):bf Tryz.prog 118 [.h aa []] [.rt aa .row (tr l)] (cn (.t []) [] [(aa,tr l.reverse)]):=
 tB (S:=reverse) (λl=>length_reverse) (λblk off cap zs w hH hb hs=>(Any.slices_Reverse_int vj blk off cap zs w hH (by omega)).mono λe w' ⟨h1,n,h2⟩=>⟨h1,n, #[],by rw[h2,grow,Array.append_empty]⟩) (λp cap w=>Any.slices_Reverse_int_empty vj p cap w) l hlen
open Go Go.RowKit Go.Proofs
theorem nO:∀l:List (List Int),l.flatten.length≤Mk.wt l
 | []=>zero_le _
 | x :: l=>by
  have h:=nO l;have h2:=ed x;rw[da]at h ⊢;simp only[flatten_cons,length_append,length_cons,lN,map_cons,foldr_cons]at h ⊢;omega
theorem ij{l:List (List Int)}{k:Nat}(h:k<l.length):(l.take (k+1)).flatten=(l.take k).flatten++l.getD k En.ab:=by
 rw[dX En.ab h];simp
theorem nt(l:List (List Int))(k:Nat):(l.take k).flatten.length≤l.flatten.length:=by
 conv=>rhs;rw[←take_append_drop k l]
 rw[flatten_append,length_append];omega
theorem ur(l:List (List Int))(hw:Mk.wt l≤1048576):bf Tryz.prog 43 [.h aa []] [.rt aa .ro (tr l)] (jY (.h 0 []) [(0, .row,tr l.flatten)]):=by
 refine ob Tryz.func43 Tryz.ntmps43 ?_;refine AW.len (aa) [] rfl (by simp[ck]) rfl (λhl=>?_);have hfl:=nO l;refine sr ?_;refine fi ?_;refine qn ?_;refine bP ?_;refine mn ?_;refine qh pq ?_;refine qm ?_;refine nl ?_;refine AW.block ?_;refine AW.bw (λi:ei l.length=>[.sl 11 (.v (iv i.k)), .sl 10 (.v (iv l.length)), .sl 9 (.h aa []), .sl 3 (.v (iv ((l.take i.k).flatten.length:Nat))), .sl 0 (.h aa []), .rt aa .ro (tr l)]) (λi=>l.length-i.k) ⟨0,zero_le _⟩ (ar.aZ ⟨rfl,rfl,rfl,rfl,rfl,Rf rfl,trivial⟩ rfl rfl) ?_;intro i;have hle:=i.le;refine sr ?_;refine qb ?_;refine nl ?_;refine AW.seq ?_;refine cd (λc1=>?_) λc1=>?_
 ·try simp only[ai]at c1
  have hf1:=nt l (i.k+1);rw[ij (show i.k<l.length by omega),length_append]at hf1;refine jd (AW.seq (AW.block (sr ?_)));refine qq (ix pq gO) ?_;refine nm ?_;refine ql a_ ?_;refine fi ?_;refine mn ?_;refine qm ?_;refine qh jj ?_;refine ba ?_;refine nm ?_;refine fi ?_;refine qm ?_;refine qb ?_;refine nl ?_;refine AW.cond rfl (λc2=>(by exfalso;first|(cases c2;done)|(simp at c2;done)|(simp only[ai]at c2;omega))) (λc2=>?_)
  try simp only[ai]at c2
  refine jd (AW.region ?_);refine ba ?_;refine nm ?_;refine qm ?_;refine nl ?_;refine⟨⟨i.k+1,by omega⟩,ar.aZ ⟨fe,rfl,rfl,(by simp only[aA,reduceIte,Nat.reduceEqDiff];congr 2;rw[ij (by omega),length_append];omega),rfl,Rf rfl,trivial⟩ rfl rfl,?_⟩;show l.length-(i.k+1)<l.length-i.k;omega
 try simp only[ai]at c1
 refine AW.exit ?_;dsimp only[aJ,ay,reduceIte];refine sr ?_;refine qm ?_;refine sp (aK.bW rfl (by decide) Tryz.call119 rfl (ya _ (by have:=nt l i.k;omega)) rfl rfl rfl (ak rfl) rfl rfl) ?_;refine nm ?_;refine qn ?_;refine bP ?_;refine qm ?_;refine qh pq ?_;refine nm ?_;refine qm ?_;refine nl ?_;refine AW.block ?_;refine AW.oW 24 33 rfl (by decide) (by decide) ?_;refine AW.bw (λj:ei l.length=>[.sl 27 (.v (iv j.k)), .sl 26 (.v (iv l.length)), .sl 25 (.h aa []), .sl 6 (.h 33 []), .rt aa .ro (tr l), .rt 33 .row (tr (l.take j.k).flatten)]) (λj=>l.length-j.k) ⟨0,zero_le _⟩ (ar.aZ ⟨rfl,rfl,rfl,rfl,Rf rfl,⟨_,rfl,bS⟩,trivial⟩ rfl rfl) ?_;intro j;have hlej:=j.le;refine sr ?_;refine qb ?_;refine nl ?_;refine AW.seq ?_;refine cd (λc3=>?_) λc3=>?_
 ·try simp only[ai]at c3
  have hf1:=nt l (j.k+1);rw[ij (show j.k<l.length by omega),length_append]at hf1;refine jd (AW.seq (AW.block (sr ?_)));refine qq (ix pq gO) ?_;refine nm ?_;refine ql a_ ?_;refine qn ?_;refine AW.region ?_;refine mn ?_;refine qm ?_;refine sp (by first|exact aK.cW rfl (by decide) (by decide) rfl rfl (by omega)|exact aK.bu rfl (by decide) (by decide) rfl rfl rfl (by omega)) ?_;refine nm ?_;refine qn ?_;refine AW.region ?_;refine ba ?_;refine qm ?_;refine nl ?_;refine⟨⟨j.k+1,by omega⟩,ar.aZ ⟨fe,rfl,rfl,rfl,Rf rfl,⟨_,rfl,(by rw[ij (by omega)];exact nM rfl (λ_ _=>rfl))⟩,trivial⟩ rfl rfl,?_⟩;show l.length-(j.k+1)<l.length-j.k;omega
 try simp only[ai]at c3
 refine AW.exit ?_;dsimp only[aJ,ay,reduceIte];refine sr ?_;refine mn ?_;refine qr 2 ?_;rw[show l.flatten=(l.take j.k).flatten from by rw[take_of_length_le (by omega)]];refine⟨λ_=>33,rfl,ak rfl,?_⟩;intro r hr;cases List.mem_singleton.1 hr;exact⟨by simp,aq rfl⟩
theorem q0(l:List Int)(hs:l.length≤4194304):bf Tryz.prog 42 [.h aa []] [.rt aa .ro (tr l)] (jY (.h 0 []) [(0, .row,tr l.reverse)]):=by
 refine ob Tryz.func42 Tryz.ntmps42 ?_;refine sr ?_;refine fi ?_;refine qm ?_;refine sp (aK.bV rfl (by decide) Tryz.call39 rfl rfl (e_ _ (by omega)) (ak rfl) rfl rfl) ?_;refine nm ?_;refine fi ?_;refine qm ?_;refine sp (aK.bW rfl (by decide) Tryz.call118 rfl (yz _ (by omega)) rfl rfl rfl (ak rfl) rfl rfl) ?_;refine ns ?_;refine mn ?_;refine qr 2 ?_;refine⟨λ_=>5,rfl,ak rfl,?_⟩;intro r hr;cases List.mem_singleton.1 hr;exact⟨by simp,aq rfl⟩
theorem oe(l:List aw)(hs:l.length≤4194304):bf Tryz.prog 37 [.h aa []] [.rt aa .ro (tr l)] (jY (.h 0 []) [(0, .row,tr l)]):=by
 refine ob Tryz.func37 Tryz.ntmps37 ?_;refine sr ?_;refine qn ?_;refine bP ?_;refine qm ?_;refine az.nj rfl rfl rfl (by decide) rfl rfl rfl fB ?_;intro b1 hb1;refine nc (λc2=>?_) λc2=>?_
 ·try simp only[ai]at c2
  refine sr ?_;refine qn ?_;have hl0:l=[]:=eq_nil_of_length_eq_zero (hb1 c2);subst hl0;refine AW.k7 2 900 5 (by omega) rfl rfl (by decide) ?_;refine AW.bQ 900 (tr ([]:List aw)) rfl bS ?_;refine aM 2 ?_;refine⟨λ_=>900,rfl,ak rfl,?_⟩;intro r hr;cases List.mem_singleton.1 hr;exact⟨by simp,aq rfl⟩
 try simp only[ai]at c2
 refine jd (sr ?_);refine sp sS ?_;refine nm ?_;refine qm ?_;refine sp (by first|exact aK.cW rfl (by decide) (by decide) rfl rfl (by omega)|exact aK.bu rfl (by decide) (by decide) rfl rfl rfl (by omega)) ?_;refine nm ?_;refine qn ?_;refine AW.bQ 7 (tr l) rfl (dJ (α:=aw)) ?_;refine aM 2 ?_;refine⟨λ_=>7,rfl,ak rfl,?_⟩;intro r hr;cases List.mem_singleton.1 hr;exact⟨by simp,aq rfl⟩
theorem ko(l:List cm)(hw:Mk.wt l≤1048576):bf Tryz.prog 38 [.h aa []] [.rt aa .ro (tr l)] (jY (.h 0 []) [(0, .row,tr l)]):=by
 refine ob Tryz.func38 Tryz.ntmps38 ?_;refine AW.len (aa) [] rfl (by simp[ck]) rfl (λhl=>?_);have hbd:=im l;refine sr ?_;refine fi ?_;refine qn ?_;refine bP ?_;refine mn ?_;refine qh ez ?_;refine qm ?_;refine nl ?_;refine AW.block ?_;refine AW.k7 3 20 2 (by omega) rfl rfl (by decide) ?_;refine AW.bw (λi:ei l.length=>[.sl 8 (.v (iv i.k)), .sl 7 (.v (iv l.length)), .sl 6 (.h aa []), .sl 3 (.h 20 []), .rt aa .ro (tr l), .rt 20 .row (tr (l.take i.k))]) (λi=>l.length-i.k) ⟨0,zero_le _⟩ (ar.aZ ⟨rfl,rfl,rfl,rfl,Rf rfl,⟨_,rfl,bS⟩,trivial⟩ rfl rfl) ?_;intro i;have hle:=i.le;refine sr ?_;refine qb ?_;refine nl ?_;refine AW.seq ?_;refine cd (λc1=>?_) λc1=>?_
 ·try simp only[ai]at c1
  have hik:=oB (show i.k<l.length by omega);have hik2:Mk.wt (l.getD i.k En.ab)=(l.getD i.k En.ab).Data.length:=ed _;have htl:(l.take i.k).length≤1048576:=by rw[length_take];omega
  refine jd (AW.seq (AW.block (sr ?_)));refine qq (ix ez cX) ?_;refine nm ?_;refine qG gS cX ?_;refine sp sA ?_;refine nm ?_;refine ss ?_;refine nl ?_;refine AW.draw [0,1,2,3,4,6] rfl (by decide +kernel) ?_;refine tk 0 rfl Qt.move ?_;refine na ?_;refine tk 1 rfl (fA jg) ?_;refine tk 2 rfl (Qt.ag rfl rfl rfl aX) ?_;refine tk 3 rfl (fA rz) ?_;refine na ?_;refine tk 4 rfl (Qt.ag rfl rfl rfl a_) ?_;refine a1 5 [0,1,2] [4,3] rfl rfl (aK.bV rfl (by decide) Tryz.call39 rfl rfl (e_ _ (by omega)) (ak rfl) rfl rfl) ?_;refine na ?_;refine na ?_;refine ae rfl Qt.move ?_;refine na ?_;refine ae rfl (fA jg) ?_;refine na ?_;refine ae rfl (Qt.ag rfl rfl rfl aX) ?_;refine na ?_;refine tk 6 rfl (Qt.build rfl) ?_;refine a1 7 [0] [6,5,2,4,1,3] rfl rfl sS ?_;refine na ?_;refine na ?_;refine ae rfl Qt.move ?_;refine na ?_;refine aQ.bQ 19 (tr [(l.getD i.k En.ab)]) rfl (cg (α:=cm) (λc hc=>match c,hc with|0,_=>au|1,_=>au|c+2,hc=>absurd hc (by simp only[En.n];omega))) ?_;refine na ?_;refine a1 8 [] [7,5,0,6,4,2,3,1] rfl rfl (aK.bu rfl (by decide) (by decide) rfl rfl rfl (by simp only[length_cons,length_nil];omega)) ?_;refine na ?_;refine na ?_;refine aQ.bQ 20 (tr (l.take (i.k+1))) rfl (by rw[dX En.ab (show i.k<l.length by omega)];exact ct (l:=l.take i.k) (l':=[l.getD i.k En.ab]) rfl (λ_ _ _ _=>rfl) (λ_ _ _ _=>rfl)) ?_;refine na ?_;refine a1 9 [] [8,7,6,5,4,3,2,1,0] rfl rfl (aK.q rfl (by decide) Qt.assign) ?_;refine na ?_;refine na ?_;refine nz ?_;refine AW.region ?_;refine ba ?_;refine qm ?_;refine nl ?_;refine⟨⟨i.k+1,by omega⟩,ar.aZ ⟨fe,rfl,rfl,rfl,Rf rfl,Rf rfl,trivial⟩ rfl rfl,?_⟩;show l.length-(i.k+1)<l.length-i.k;omega
 try simp only[ai]at c1
 refine AW.exit ?_;dsimp only[aJ,ay,reduceIte];refine sr ?_;refine mn ?_;refine qn ?_;refine AW.bQ 20 (tr l) rfl (by rw[take_of_length_le (by omega)];exact au) ?_;refine aM 2 ?_;refine⟨λ_=>20,rfl,ak rfl,?_⟩;intro r hr;cases List.mem_singleton.1 hr;exact⟨by simp,aq rfl⟩
theorem rC(c:oM)(hs:c.cy.length≤4194304):bf Tryz.prog 40 [.g [.v (iv c.Pc), .h aa []]] [.rt aa .ro (tr c.cy)] (jY (.g [.v (iv c.Pc), .h 0 []]) [(0, .row,tr c.cy)]):=by
 refine ob Tryz.func40 Tryz.ntmps40 ?_;refine sr ?_;refine bx ?_;refine nm ?_;refine sp sA ?_;refine nl ?_;refine AW.seq ?_;refine AW.draw [0,1,2,3,5] rfl (by decide +kernel) ?_;refine tk 0 rfl (fA dd) ?_;refine na ?_;refine tk 1 rfl (Qt.ag rfl rfl rfl aX) ?_;refine tk 2 rfl (fA fJ) ?_;refine tk 3 rfl (Qt.ag rfl rfl rfl a_) ?_;refine na ?_;refine a1 4 [0,1] [3,2] rfl rfl (aK.bV rfl (by decide) Tryz.call39 rfl rfl (e_ _ (by omega)) (ak rfl) rfl rfl) ?_;refine na ?_;refine ae rfl (fA dd) ?_;refine ae rfl (Qt.ag rfl rfl rfl aX) ?_;refine na ?_;refine tk 5 rfl (Qt.build rfl) ?_;refine a1 6 [] [5,4,3,2,1,0] rfl rfl (by first|exact aK.fI rfl rfl rfl rfl (by decide) rfl|exact aK.store rfl rfl (by simp) rfl rfl rfl (by decide) rfl) ?_;refine na ?_;refine na ?_;refine nz ?_;refine AW.ret (cz (.cons (.ja 2 75 rfl rfl rfl yH vW (by decide)) .nil) ?_);refine⟨λ_=>7,rfl,ak rfl,?_⟩;intro r hr;cases List.mem_singleton.1 hr;exact⟨by simp,aq rfl⟩
end Go.Proofs.YtekcnnngjoonbaaGreat.VM
