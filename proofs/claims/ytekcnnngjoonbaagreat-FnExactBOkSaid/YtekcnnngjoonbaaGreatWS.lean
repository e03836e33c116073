/- Contracts. No conditions. -/
import Derived.Shelf.Slices.In.SortNone
import Derived.Shelf.Sort.Plain
import Derived.Test.YtekcnnngjoonbaaGreatWQ
import Derived.Test.YtekcnnngjoonbaaGreatWR
import Derived.Test.YtekcnnngjoonbaaGreatWe
set_option linter.all false
set_option maxHeartbeats 8000000
set_option maxRecDepth 10000
namespace Go.Proofs.YtekcnnngjoonbaaGreat.VM
open List Nat
open Go Go.RowKit Go.Proofs
open Go.Shelf
def tq:Go.Shelf.Ren:=⟨λ |189=>205|125=>237|257=>236|128=>258|129=>259|294=>249|295=>250|296=>251|297=>252|298=>253|299=>254|216=>255|300=>256|301=>257|328=>262|329=>263|330=>264|331=>265|332=>266|215=>267|343=>270|n=>n,λ |28=>24|3=>3|46=>205|0=>0|51=>250|53=>252|4=>4|183=>242|182=>241|131=>247|5=>5|9=>9|218=>254|222=>258|228=>263|229=>264|n=>n,λ |n=>n⟩
theorem vi:Go.Proofs.Lays.n189 Tryz.prog tq:={
 mixed:=by kernel_rfl
 f125:=Tryz.func237.trans (congrArg some (by kernel_rfl))
 f128:=Tryz.func258.trans (congrArg some (by kernel_rfl))
 f129:=Tryz.func259.trans (congrArg some (by kernel_rfl))
 f189:=Tryz.func205.trans (congrArg some (by kernel_rfl))
 f215:=Tryz.func267.trans (congrArg some (by kernel_rfl))
 f216:=Tryz.func255.trans (congrArg some (by kernel_rfl))
 f257:=Tryz.func236.trans (congrArg some (by kernel_rfl))
 f294:=Tryz.func249.trans (congrArg some (by kernel_rfl))
 f295:=Tryz.func250.trans (congrArg some (by kernel_rfl))
 f296:=Tryz.func251.trans (congrArg some (by kernel_rfl))
 f297:=Tryz.func252.trans (congrArg some (by kernel_rfl))
 f298:=Tryz.func253.trans (congrArg some (by kernel_rfl))
 f299:=Tryz.func254.trans (congrArg some (by kernel_rfl))
 f300:=Tryz.func256.trans (congrArg some (by kernel_rfl))
 f301:=Tryz.func257.trans (congrArg some (by kernel_rfl))
 f328:=Tryz.func262.trans (congrArg some (by kernel_rfl))
 f329:=Tryz.func263.trans (congrArg some (by kernel_rfl))
 f330:=Tryz.func264.trans (congrArg some (by kernel_rfl))
 f331:=Tryz.func265.trans (congrArg some (by kernel_rfl))
 f332:=Tryz.func266.trans (congrArg some (by kernel_rfl))
 f343:=Tryz.func270.trans (congrArg some (by kernel_rfl))
 t0:=Tryz.underlying0
 a0:=Tryz.isAgg0
 z0:=Tryz.sizeOf0
 v0:=Tryz.zeroValue0
 t3:=Tryz.underlying3
 a3:=Tryz.isAgg3
 z3:=Tryz.sizeOf3
 v3:=Tryz.zeroValue3
 t4:=Tryz.underlying4
 a4:=Tryz.isAgg4
 z4:=Tryz.sizeOf4
 v4:=Tryz.zeroValue4
 t5:=Tryz.underlying5
 a5:=Tryz.isAgg5
 z5:=Tryz.sizeOf5
 v5:=Tryz.zeroValue5
 t9:=Tryz.underlying9
 a9:=Tryz.isAgg9
 z9:=Tryz.sizeOf9
 v9:=Tryz.zeroValue9
 t28:=Tryz.underlying24
 a28:=Tryz.isAgg24
 z28:=Tryz.sizeOf24
 v28:=Tryz.zeroValue24
 t46:=Tryz.underlying205
 a46:=Tryz.isAgg205
 z46:=Tryz.sizeOf205
 v46:=Tryz.zeroValue205
 t51:=Tryz.underlying250
 a51:=Tryz.isAgg250
 z51:=Tryz.sizeOf250
 v51:=Tryz.zeroValue250
 t53:=Tryz.underlying252
 a53:=Tryz.isAgg252
 z53:=Tryz.sizeOf252
 v53:=Tryz.zeroValue252
 t131:=Tryz.underlying247
 a131:=Tryz.isAgg247
 z131:=Tryz.sizeOf247
 v131:=Tryz.zeroValue247
 t182:=Tryz.underlying241
 a182:=Tryz.isAgg241
 z182:=Tryz.sizeOf241
 v182:=Tryz.zeroValue241
 t183:=Tryz.underlying242
 a183:=Tryz.isAgg242
 z183:=Tryz.sizeOf242
 v183:=Tryz.zeroValue242
 t218:=Tryz.underlying254
 a218:=Tryz.isAgg254
 z218:=Tryz.sizeOf254
 v218:=Tryz.zeroValue254
 t222:=Tryz.underlying258
 a222:=Tryz.isAgg258
 z222:=Tryz.sizeOf258
 v222:=Tryz.zeroValue258
 t228:=Tryz.underlying263
 a228:=Tryz.isAgg263
 z228:=Tryz.sizeOf263
 v228:=Tryz.zeroValue263
 t229:=Tryz.underlying264
 a229:=Tryz.isAgg264
 z229:=Tryz.sizeOf264
 v229:=Tryz.zeroValue264 }
theorem wq(l:List Int)(hlen:l.length<4611686018427387904):bf Tryz.prog 205 [.h aa []] [.rt aa .row (tr l)] (cn (.t []) [] [(aa,tr (l.mergeSort λx y=>decide (x≤y)))]):=
 tB (S:=λl=>l.mergeSort λx y=>decide (x≤y)) (λl=>length_mergeSort _) (λblk off cap zs w hH hb hs=>Any.slices_Sort_int vi blk off cap zs w hH hb hs) (λp cap w=>Any.slices_Sort_int_none vi p cap w) l hlen
open Go Go.RowKit Go.Proofs
structure ud(u:bt) where
 k:Nat
 le:k≤u.ah.length
 acc:List Int
 eq:acc=df (u.ah.take k)
theorem ud.len{u:bt}(i:ud u):i.acc.length≤i.k:=by rw[i.eq,om i.le];exact mz _ _
theorem ud.t{u:bt}(i:ud u)(hk:i.k<u.ah.length)(hs:(u.ah.getD i.k En.ab).State=1):i.acc++[(u.ah.getD i.k En.ab).fc]=df (u.ah.take (i.k+1)):=by rw[mB hk,if_pos hs,←i.eq]
theorem ud.f{u:bt}(i:ud u)(hk:i.k<u.ah.length)(hs:(u.ah.getD i.k En.ab).State≠1):i.acc=df (u.ah.take (i.k+1)):=by rw[mB hk,if_neg hs,←i.eq]
theorem uZ(l:List Int)(hs:l.length≤4194304):bf Tryz.prog 39 [.h aa []] [.rt aa .ro (tr l)] (jY (.h 0 []) [(0, .row,tr l)]):=by
 refine ob Tryz.func39 Tryz.ntmps39 ?_;refine go [.R,.a,.Z,.R2,.m] (k:=?_);refine az.nj rfl rfl rfl (by decide) rfl rfl rfl jj ?_;intro b1 hb1;refine go [.Z] (k:=?_);refine cd (λc2=>?_) λc2=>?_
 ·try simp only[ai]at c2
  refine go [.R,.a,.Z] (k:=?_);have hl0:l=[]:=eq_nil_of_length_eq_zero (hb1 c2);subst hl0;refine AW.k7 2 900 1 (by omega) rfl rfl (by decide) ?_;refine AW.bQ 900 (tr ([]:List Int)) rfl bS ?_;refine aM 2 ?_;refine⟨λ_=>900,rfl,ak rfl,?_⟩;intro r hr;cases List.mem_singleton.1 hr;exact⟨by simp,aq rfl⟩
 try simp only[ai]at c2
 refine go [.J,.R,.S,.N,.m] (k:=?_);refine sp (by first|exact aK.cW rfl (by decide) (by decide) rfl rfl (by omega)|exact aK.bu rfl (by decide) (by decide) rfl rfl rfl (by omega)) ?_;refine go [.N,.a,.Z] (k:=?_);refine AW.bQ 7 (tr l) rfl (dJ (α:=Int)) ?_;refine aM 2 ?_;refine⟨λ_=>7,rfl,ak rfl,?_⟩;intro r hr;cases List.mem_singleton.1 hr;exact⟨by simp,aq rfl⟩
theorem uO(a b:List Int):bf Tryz.prog 206 [.h aa [], .h (aa+1) []] [.rt aa .ro (tr a), .rt (aa+1) .ro (tr b)] (λy _=>y= .v (.bool (decide (a=b)))):=by
 refine ob Tryz.func206 Tryz.ntmps206 ?_;refine AW.len (aa) [] rfl (by simp[ck]) rfl (λhl=>?_);refine AW.len (aa+1) [] rfl (by simp[ck]) rfl (λhl2=>?_);refine go [.R,.a,.Z,.R2,.m,.h,.N,.m,.h,.b,.Z] (k:=?_);refine cd (λc1=>?_) λc1=>?_
 ·try simp only[ai]at c1
  refine go [.R,.a,.Z] (k:=?_);refine aM 4 ?_;simp only[bj,aA,reduceIte,Nat.reduceEqDiff];rw[decide_eq_false (show a≠b from fm (by omega))]
 try simp only[ai]at c1
 refine jd (bP ?_);refine go [.m,.N,.h,.m,.Z] (k:=?_);refine AW.block ?_;refine AW.bw (λi:iz a b=>[.sl 13 (.v (iv i.k)), .sl 12 (.v (iv a.length)), .sl 0 (.h aa []), .sl 1 (.h (aa+1) []), .rt aa .ro (tr a), .rt (aa+1) .ro (tr b)]) (λi=>a.length-i.k) ⟨0,zero_le _,rfl⟩ (ws) ?_;intro i;have hle:=i.le;refine go [.R,.b,.Z] (k:=?_);refine AW.seq ?_;refine cd (λc2=>?_) λc2=>?_
 ·try simp only[ai]at c2
  refine jd (AW.seq (AW.block (sr ?_)));refine go [.m,.N,.a,.Z] (k:=?_);refine AW.seq ?_;refine go [.D [0,1,2,3,4,5,6,7,8],.t 0,.m,.t 1,.m,.N,.t 2,.i,.t 3,.l,.t 4,.m,.N,.t 5,.m,.t 6,.i,.t 7,.l,.N,.t 8,.b,.Z] (k:=?_);refine cd (λc3=>?_) λc3=>?_
  ·try simp only[ai]at c3
   refine go [.R,.a,.Z] (k:=?_);refine aM 4 ?_;simp only[bj,aA,reduceIte,Nat.reduceEqDiff];rw[decide_eq_false (show a≠b from i.stop En.ab (by simpa using c3))]
  try simp only[ai]at c3
  refine go [.J,.R1,.b,.N,.m,.Z] (k:=?_);refine⟨⟨i.k+1,by omega,i.next En.ab (by omega) (by omega) (by simpa using c3)⟩,ws,?_⟩;show a.length-(i.k+1)<a.length-i.k;omega
 try simp only[ai]at c2
 refine AW.exit ?_;dsimp only[aJ,ay,reduceIte];refine go [.R,.a,.Z] (k:=?_);refine aM 4 ?_;simp only[bj,aA,reduceIte,Nat.reduceEqDiff];rw[decide_eq_true (show a=b from i.full (by omega) (by omega))]
theorem qZ(u:bt)(hb:jw u):bf Tryz.prog 154 [.g [.v (iv u.Next), .v (iv u.bF), .h aa [], .h (aa+1) [], .h (aa+2) [], .h (aa+3) [], .h (aa+4) [], .h (aa+5) [], .h (aa+6) []]] [.rt aa .ro (tr u.aV), .rt (aa+1) .ro (tr u.ah), .rt (aa+2) .ro (tr u.ax), .rt (aa+3) .ro (tr u.ao), .rt (aa+4) .ro (tr u.aC), .rt (aa+5) .ro (tr u.aR), .rt (aa+6) .ro (tr u.Out)] (λy _=>y= .v (.bool (decide (y8 u.aR=df u.ah)))):=by
 refine ob Tryz.func154 Tryz.ntmps154 ?_;refine AW.len (aa+1) [] rfl (by simp[ck]) rfl (λhl=>?_);have hrb:=hb.ready;have hpb:=hb.procs;refine go [.R,.B,.N,.a,.Z,.R,.f,.l,.N] (k:=?_);refine sp (aK.bV rfl (by decide) Tryz.call39 rfl rfl (uZ _ (by omega)) (ak rfl) rfl rfl) ?_;refine go [.N,.a,.Z,.R,.m] (k:=?_);refine sp (aK.bW rfl (by decide) Tryz.call205 rfl (wq _ (by omega)) rfl rfl rfl (ak rfl) rfl rfl) ?_;refine go [.Z,.R,.S,.N,.a,.Z,.R2,.f,.l,.N,.h,.m,.Z] (k:=?_);refine AW.block ?_;refine AW.bc (L':=[.sl 16 (.v (iv (0:Nat))), .sl 4 (.h 12 []), .sl 3 (.h 9 []), .sl 14 (.h (aa+1) []), .sl 15 (.v (iv u.ah.length)), .rt aa .ro (tr u.aV), .rt (aa+1) .ro (tr u.ah), .rt (aa+2) .ro (tr u.ax), .rt (aa+3) .ro (tr u.ao), .rt (aa+4) .ro (tr u.aC), .rt (aa+5) .ro (tr u.aR), .rt (aa+6) .ro (tr u.Out), .rt 12 .row (tr ([]:List Int)), .rt 9 .row (tr (y8 u.aR))]) (ar.aZ ⟨rfl,rfl,rfl,rfl,rfl,Rf rfl,Rf rfl,Rf rfl,Rf rfl,Rf rfl,Rf rfl,Rf rfl,⟨_,rfl,bS⟩,Rf rfl,trivial⟩ rfl rfl) ?_;refine AW.loop (λi:ud u=>[.sl 16 (.v (iv i.k)), .sl 4 (.h 12 []), .sl 3 (.h 9 []), .sl 14 (.h (aa+1) []), .sl 15 (.v (iv u.ah.length)), .rt aa .ro (tr u.aV), .rt (aa+1) .ro (tr u.ah), .rt (aa+2) .ro (tr u.ax), .rt (aa+3) .ro (tr u.ao), .rt (aa+4) .ro (tr u.aC), .rt (aa+5) .ro (tr u.aR), .rt (aa+6) .ro (tr u.Out), .rt 12 .row (tr i.acc), .rt 9 .row (tr (y8 u.aR))]) (λi=>u.ah.length-i.k) ⟨0,zero_le _,[],by simp[df]⟩ ?_;intro i;have hle:=i.le;have hacc:=i.len;refine go [.R,.b,.Z] (k:=?_);refine AW.seq ?_;refine cd (λc1=>?_) λc1=>?_
 ·try simp only[ai]at c1
  refine jd (AW.seq (AW.block (sr ?_)));refine go [.i,.N,.G,.A,.N,.s,.Z,.R,.f,.N,.l,.b,.Z] (k:=?_);refine cd (λc2=>?_) λc2=>?_
  ·try simp only[ai]at c2
   refine go [.R1,.m,.N,.f,.l,.S,.N] (k:=?_);refine sp (by first|exact aK.cW rfl (by decide) (by decide) rfl rfl (by omega)|exact aK.bu rfl (by decide) (by decide) rfl rfl rfl (by omega)) ?_;refine go [.N,.a,.Z,.R1,.b,.m,.Z] (k:=?_);refine⟨⟨i.k+1,by omega,_,i.t (by omega) (by simpa using c2)⟩,ar.trans (ar.oW (a:=27) (b:=12) rfl (by decide) (by decide)) (ar.aZ ⟨fe,rfl,rfl,rfl,rfl,Rf rfl,Rf rfl,Rf rfl,Rf rfl,Rf rfl,Rf rfl,Rf rfl,⟨_,rfl,yx (α:=Int) (a:=(u.ah.getD i.k En.ab).fc) (λc hc=>match c,hc with|0,_=>rfl|c+1,hc=>absurd hc (by simp only[En.n];omega))⟩,Rf rfl,trivial⟩ rfl rfl),?_⟩;show u.ah.length-(i.k+1)<u.ah.length-i.k;omega
  try simp only[ai]at c2
  refine go [.J,.R1,.b,.N,.m,.Z] (k:=?_);refine⟨⟨i.k+1,by omega,_,i.f (by omega) (by simpa using c2)⟩,ws,?_⟩;show u.ah.length-(i.k+1)<u.ah.length-i.k;omega
 try simp only[ai]at c1
 refine AW.exit ?_;dsimp only[aJ,ay,reduceIte];refine go [.R,.m,.m,.N] (k:=?_);refine cv Tryz.call206 rfl rfl (uO _ _) ?_;refine go [.N,.a,.Z] (k:=?_);refine aM 2 ?_;simp only[bj,aA,reduceIte,Nat.reduceEqDiff];rw[show i.acc=df u.ah from by rw[i.eq,take_of_length_le (by omega)]]
end Go.Proofs.YtekcnnngjoonbaaGreat.VM

