/- Contracts. No conditions. -/
import Derived.Test.YtldefnpobjabpaaGreatCQ4
set_option linter.all false
set_option maxHeartbeats 8000000
set_option maxRecDepth 10000
namespace Go.Proofs.YtldefnpobjabpaaGreat.VM
open Go Go.RowKit Go.Proofs
theorem view_G {α : Type} [En α] {l : List α} {lo n : Nat} (h : lo + n ≤ l.length) : (T.s (En.n α) n fun k c => (En.cs (l.getD (lo + k) En.dflt)).getD c .j).sim (tr ((l.drop lo).take n)) := by
 refine ⟨fun k c => (En.cs (((l.drop lo).take n).getD k En.dflt)).getD c .j, by simp only [tr, List.length_take, List.length_drop]; rw [Nat.min_eq_left (by omega)], fun k c hk hc => ?_⟩
 show T.sim ((En.cs (l.getD (lo + k) En.dflt)).getD c .j) ((En.cs (((l.drop lo).take n).getD k En.dflt)).getD c .j)
 rw [show ((l.drop lo).take n).getD k En.dflt = l.getD (lo + k) En.dflt by simp [List.getD_eq_getElem?_getD, List.getElem?_take, hk]]
 exact tsr
theorem memK_next {ram fs : List Int} {k : Nat} (h : k < fs.length) : memK ram fs (k + 1) = memK ram fs k ++ frW ram (fs.getD k En.dflt) := by
 unfold memK
 rw [List.take_add_one, List.getElem?_eq_getElem h, List.map_append, List.flatten_append, List.getD_eq_getElem?_getD, List.getElem?_eq_getElem h]
 simp
theorem frW_len (ram : List Int) (f : Int) : (frW ram f).length ≤ 4 := by
 unfold frW
 rw [List.length_take]
 omega
theorem memK_len (ram fs : List Int) : ∀ k, k ≤ fs.length → (memK ram fs k).length ≤ 4 * k
 | 0, _ => by simp [memK]
 | k + 1, h => by
  rw [memK_next (by omega), List.length_append]
  have := memK_len ram fs k (by omega)
  have := frW_len ram (fs.getD k En.dflt)
  omega
theorem dataK_next (r : DARing) (k : Nat) : dataK r (k + 1) = dataK r k ++ [r.Buf.getD ((r.Head + (k : Int)).tmod (r.Buf.length : Int)).toNat En.dflt] := by
 unfold dataK
 rw [List.range_succ, List.map_append]
 rfl
theorem dataK_len (r : DARing) (k : Nat) : (dataK r k).length = k := by simp [dataK]
theorem tmod_bd {a n : Int} (h : 0 ≤ a) (hn : 0 < n) : 0 ≤ a.tmod n ∧ a.tmod n < n := by
 rw [Int.tmod_eq_emod_of_nonneg h]
 exact ⟨Int.emod_nonneg _ (by omega), Int.emod_lt_of_pos _ hn⟩
theorem pbRemI {a b : Int} (h : b ≠ 0) : pureBin .rem (iv a) (iv b) = some (iv (a.tmod b)) := by
 show (if b = 0 then none else some (Value.int .i64 (a.tmod b))) = _
 rw [if_neg h]
theorem ring_facts {r : DARing} {n : Int} (h : ringOk r n = true) : (r.Buf.length : Int) = n ∧ 0 ≤ r.Head ∧ r.Head ≤ n - 1 ∧ 0 ≤ r.Len ∧ r.Len ≤ n := by
 simp only [ringOk, Bool.and_eq_true, beq_iff_eq, decide_eq_true_eq] at h
 omega
theorem pages_stop (l : List Int) (h : pagesN l < l.length) : isFr (l.getD (pagesN l) En.dflt) = false := by
 cases hx : isFr (l.getD (pagesN l) En.dflt) with
 | false => rfl
 | true =>
  exfalso
  have := List.takeWhile_append_dropWhile (p := isFr) (l := l)
  cases hd : l.dropWhile isFr with
  | nil =>
   rw [hd, List.append_nil] at this
   have h4 : pagesN l = l.length := by unfold pagesN; rw [this]
   omega
  | cons y r =>
   have hy := List.head_dropWhile_not isFr (by rw [hd]; simp : l.dropWhile isFr ≠ [])
   simp only [hd, List.head_cons] at hy
   have e : l.getD (pagesN l) En.dflt = y := by
    conv => lhs; arg 1; rw [← this, hd]
    unfold pagesN
    rw [List.getD_eq_getElem?_getD, List.getElem?_append_right (Nat.le_refl _), Nat.sub_self]
    rfl
   rw [e, hy] at hx
   cases hx
structure PgI (l : List Int) where
 k : Nat
 le : k ≤ l.length
 h : ∀ j, j < k → isFr (l.getD j En.dflt) = true
theorem pagesOf_con (l : List Int) (hs : l.length ≤ 1000) : Con Tryz.prog 48 [.h base []] [.rt base .ro (tr l)] (Ret (.h 0 []) [(0, .row, tr (l.takeWhile isFr))]) := by
 refine ob Tryz.func48 Tryz.ntmps48 ?_
 refine AW.len (base) [] rfl (by simp [Okp]) rfl (fun hl => ?_)
 have hpx := pages_ix l
 have hpl := pagesN_le l
 refine go [.R,.a,.Z,.R,.m] (k := ?_)
 refine cv Tryz.call134 rfl rfl (ixI_con Tryz.call135 (fun x => pagesOf1_con x) _) ?_
 refine go [.N,.a,.Z,.R2,.m,.b,.Z] (k := ?_)
 refine cd (fun c1 => ?_) fun c1 => ?_
 ·try simp only [cnd] at c1
  have hN : pagesN l = l.length := by split at hpx <;> omega
  refine go [.R1,.m,.N,.h,.a,.Z,.R,.m,.N,.m] (k := ?_)
  refine qq (Qt.sliceH (hi := pagesN l) rfl rfl rfl sl24 sz3 (by decide) slB_no (slB_so rfl (by omega)) (by omega) (by omega)) ?_
  refine go [.N] (k := ?_)
  refine AWL.weak (Weak.viewA 12 901 rfl rfl (.inr (by omega)) rfl (by decide)) ?_
  refine AWL.rep 901 (tr ((l.drop 0).take (pagesN l - 0))) rfl (view_G (l := l) (lo := 0) (n := pagesN l - 0) (by omega)) ?_
  refine go [.N] (k := ?_)
  refine sp (Stp.callR rfl (by decide) Tryz.call46 rfl rfl (cloneI_con _ (by rw [List.length_take]; omega)) (nodup_of rfl) rfl rfl) ?_
  refine go [.N,.a,.Z] (k := ?_)
  refine rt1 2 ?_
  rw [← pages_take]
  refine ⟨fun _ => 13, rfl, nodup_of rfl, ?_⟩
  intro r hr
  cases List.mem_singleton.1 hr
  exact ⟨by simp, rootL_mem rfl⟩
 try simp only [cnd] at c1
 have hN : ixOf (fun x => !isFr x) l = ((pagesN l : Nat) : Int) := by split at hpx <;> omega
 refine go [.J,.R,.m,.m,.N] (k := ?_)
 refine qq (Qt.sliceH (hi := pagesN l) rfl rfl rfl sl24 sz3 (by decide) slB_no (slB_so rfl hN) (by omega) (by omega)) ?_
 refine go [.N] (k := ?_)
 refine AWL.weak (Weak.viewA 12 901 rfl rfl (.inr (by omega)) rfl (by decide)) ?_
 refine AWL.rep 901 (tr ((l.drop 0).take (pagesN l - 0))) rfl (view_G (l := l) (lo := 0) (n := pagesN l - 0) (by omega)) ?_
 refine go [.N] (k := ?_)
 refine sp (Stp.callR rfl (by decide) Tryz.call46 rfl rfl (cloneI_con _ (by rw [List.length_take]; omega)) (nodup_of rfl) rfl rfl) ?_
 refine go [.N,.a,.Z] (k := ?_)
 refine rt1 2 ?_
 rw [← pages_take]
 refine ⟨fun _ => 13, rfl, nodup_of rfl, ?_⟩
 intro r hr
 cases List.mem_singleton.1 hr
 exact ⟨by simp, rootL_mem rfl⟩
theorem l12Pages_con (l : List Int) (hs : l.length ≤ 1000) : Con Tryz.prog 82 [.h base []] [.rt base .ro (tr l)] (fun y _ => y = .v (iv (pagesN l : Nat))) := by
 refine ob Tryz.func82 Tryz.ntmps82 ?_
 refine go [.R,.a,.Z,.R,.a,.Z] (k := ?_)
 refine AW.seq (AW.block ?_)
 refine AW.loopW (fun i : PgI l => [.sl 3 (.v (iv i.k)), .sl 0 (.h base []), .rt base .ro (tr l)]) (fun i => l.length - i.k) ⟨0, Nat.zero_le _, fun _ h => absurd h (Nat.not_lt_zero _)⟩ (ws) ?_
 intro i
 have hle := i.le
 refine go [.R2,.m,.N,.m,.h,.b,.N,.m] (k := ?_)
 apply AWL.cut 5
 ·intro Kg1
  refine AWL.split 8 rfl (fun g1 => ?_) (fun g1 => ?_)
  ·have eg1 := g1
   try simp only [cnd] at eg1
   refine go [.m,.m,.N,.i,.l] (k := ?_)
   refine AWL.step rfl g1 (Stp.callV rfl (by decide) Tryz.call155 rfl rfl (l12Frame_con _)) ?_
   refine go [.N] (k := ?_)
   exact wjT 13 [9, 10, 11, 12, 13] (ifT g1 _ undef) Kg1
  ·refine go [.x,.x,.x,.x,.N,.x] (k := ?_)
   exact wjF 13 [9, 10, 11, 12, 13] (ifF g1 undef _) Kg1
 refine qq (Qt.pickAnd rfl rfl rfl) ?_
 refine go [.Z] (k := ?_)
 refine cd (fun c2 => ?_) fun c2 => ?_
 ·try simp only [cnd] at c2
  refine jd (AW.block (AW.region ?_))
  refine go [.m,.b,.N,.a,.Z] (k := ?_)
  refine ⟨⟨i.k + 1, by omega, fun j hj => by
   rcases Nat.lt_or_ge j i.k with h | h
   ·exact i.h j h
   ·rw [show j = i.k by omega]; grind only⟩, ws, ?_⟩
  show l.length - (i.k + 1) < l.length - i.k
  omega
 try simp only [cnd] at c2
 refine AW.exit ?_
 dsimp only [thenQ, blockQ, reduceIte]
 refine go [.R,.m,.a,.Z] (k := ?_)
 refine rt1 2 ?_
 have hN : pagesN l = i.k := by
  rcases Nat.lt_or_ge i.k l.length with h | h
  ·exact pages_end h i.h (by grind only)
  ·have h1 := pagesN_le l
   rcases Nat.lt_or_ge (pagesN l) i.k with h2 | h2
   ·exfalso
    have h3 := i.h _ h2
    have h4 := pages_stop l (by omega)
    rw [h4] at h3; cases h3
   ·omega
 rw [hN]
 rfl
theorem frameWords_con (ram : List Int) (f : Int) (hr : ram.length = 64) (h0 : 0 ≤ f) (h1 : f ≤ 15) : Con Tryz.prog 133 [.h base [], .v (iv f)] [.rt base .ro (tr ram)] (RetW (.a base [] 1 (f * 4).toNat (((f + 1) * 4).toNat - (f * 4).toNat)) [] []) := by
 refine ob Tryz.func133 Tryz.ntmps133 ?_
 refine go [.R,.a,.Z,.R,.m,.m,.N] (k := ?_)
 refine qq (Qt.binOp rfl rfl (by first | exact pbMul (by omega) | rfl)) ?_
 refine go [.m,.b,.N] (k := ?_)
 refine qq (Qt.binOp rfl rfl (by first | exact pbMul (by omega) | rfl)) ?_
 refine qq (Qt.sliceH rfl rfl rfl sl24 sz3 (by decide) (slB_sn rfl (by omega)) (slB_sn rfl (by omega)) (by omega) (by omega)) ?_
 refine go [.a,.Z] (k := ?_)
 refine rt1 4 ?_
 exact ⟨fun n => n, rfl, fun _ _ => rfl, List.nodup_nil, by simp, by simp⟩
theorem dataOf_con (r : DARing) (n : Int) (hn : 1 ≤ n ∧ n ≤ 100) (hr : ringOk r n = true) : Con Tryz.prog 45 [.g [.v (.bool r.Used), .h base [], .v (iv r.Head), .v (iv r.Len)]] [.rt base .ro (tr r.Buf)] (Ret (.h 0 []) [(0, .row, tr (dataL r))]) := by
 refine ob Tryz.func45 Tryz.ntmps45 ?_
 have hrf := ring_facts hr
 refine go [.R,.B,.N,.a,.Z,.R,.a,.Z,.R2,.f,.N,.l,.m,.Z] (k := ?_)
 refine AW.block ?_
 refine AW.nilRow 3 24 1 (by omega) rfl rfl (by decide) ?_
 refine AW.weak (L' := [.sl 7 (.v (iv (0 : Nat))), .sl 6 (.v (iv r.Len)), .sl 3 (.h 24 []), .rt 24 .row (tr (dataK r (0 : Nat))), .rt 1 .box (T.s 4 1 fun k c => ([(T.v (Value.bool r.Used), none), (T.j, none), (T.v (iv r.Head), none), (T.v (iv r.Len), none)].getD (k * 4 + c) (T.j, none)).fst), .al 1 1 (.h base []), .rt base .ro (tr r.Buf), .sl 1 (.p 1 [] 4 0 0)]) (Weak.sim ⟨rfl, rfl, rfl, ⟨_, rfl, sim_nil⟩, Rf rfl, ⟨rfl, rfl⟩, Rf rfl, rfl, trivial⟩ rfl rfl) ?_
 refine AW.loop (fun i : KInv r.Len.toNat => [.sl 7 (.v (iv i.k)), .sl 6 (.v (iv r.Len)), .sl 3 (.h 24 []), .rt 24 .row (tr (dataK r i.k)), .rt 1 .box (T.s 4 1 fun k c => ([(T.v (Value.bool r.Used), none), (T.j, none), (T.v (iv r.Head), none), (T.v (iv r.Len), none)].getD (k * 4 + c) (T.j, none)).fst), .al 1 1 (.h base []), .rt base .ro (tr r.Buf), .sl 1 (.p 1 [] 4 0 0)]) (fun i => r.Len.toNat - i.k) ⟨0, Nat.zero_le _⟩ ?_
 intro i
 have hle := i.le
 have hdl := dataK_len r i.k
 refine go [.R,.b,.Z] (k := ?_)
 refine AW.seq ?_
 refine cd (fun c1 => ?_) fun c1 => ?_
 ·try simp only [cnd] at c1
  have hmod := tmod_bd (a := r.Head + (i.k : Int)) (n := (r.Buf.length : Int)) (by omega) (by omega)
  refine jd (AW.seq (AW.block (sr ?_)))
  refine go [.m,.N,.a,.Z,.D [0, 1, 2, 3, 4, 5, 6, 7, 8, 9, 10, 11, 12],.t 0,.m,.t 1,.f,.N,.t 2,.l,.t 3,.f,.t 4,.l,.N,.t 5,.m,.t 6,.b,.t 7,.f,.N,.t 8,.l,.t 9,.h] (k := ?_)
  refine tk 10 rfl (Qt.binOp rfl rfl (pbRemI (by omega))) ?_
  refine go [.N,.t 11,.i,.t 12,.l,.o 13 [0],.S,.N,.g,.m,.N] (k := ?_)
  refine AWA.rep 23 (tr ([(r.Buf.getD ((r.Head + (i.k : Int)).tmod (r.Buf.length : Int)).toNat En.dflt)] : List Int)) rfl (sim_row1 rfl rfl rfl (fun k hk => match k, hk with | 0, _ => rfl | k + 1, hk => absurd hk (by omega))) ?_
  refine go [.N] (k := ?_)
  refine a1 14 [] [13, 0, 12, 11, 10, 2, 9, 6, 1, 8, 5, 4, 7, 3] rfl rfl (Stp.appendC rfl (by decide) (by decide) rfl rfl (by simp only [List.length_cons, List.length_nil]; omega)) ?_
  refine go [.N] (k := ?_)
  refine AWA.rep 24 (tr (dataK r i.k ++ [(r.Buf.getD ((r.Head + (i.k : Int)).tmod (r.Buf.length : Int)).toNat En.dflt)])) rfl (app_sim (l := dataK r i.k) (l' := [(r.Buf.getD ((r.Head + (i.k : Int)).tmod (r.Buf.length : Int)).toNat En.dflt)]) rfl (fun _ _ _ _ => rfl) (fun k c _ hc => match c, hc with | 0, _ => rfl | c + 1, hc => absurd hc (by simp only [En.n]; omega))) ?_
  refine go [.N] (k := ?_)
  refine a1 15 [] [14, 13, 12, 11, 10, 9, 8, 7, 6, 5, 4, 3, 2, 1, 0] rfl rfl (Stp.q rfl (by decide) Qt.assign) ?_
  refine go [.N,.Z,.R1,.b,.m,.Z] (k := ?_)
  refine ⟨⟨i.k + 1, by omega⟩, Weak.sim ⟨st1, rfl, rfl, ⟨_, rfl, (by rw [dataK_next]; exact tsr)⟩, Rf rfl, ⟨rfl, rfl⟩, Rf rfl, rfl, trivial⟩ rfl rfl, ?_⟩
  show r.Len.toNat - (i.k + 1) < r.Len.toNat - i.k
  omega
 try simp only [cnd] at c1
 refine AW.exit ?_
 dsimp only [thenQ, blockQ, reduceIte]
 refine go [.R,.m,.N,.a,.Z] (k := ?_)
 refine rt1 2 ?_
 rw [show dataL r = dataK r i.k from congrArg (dataK r) (by omega)]
 refine ⟨fun _ => 24, rfl, nodup_of rfl, ?_⟩
 intro r hr
 cases List.mem_singleton.1 hr
 exact ⟨by simp, rootL_mem rfl⟩
theorem l12Go_con (r : DARing) (n : Int) (hn : 1 ≤ n ∧ n ≤ 100) (hr : ringOk r n = true) : Con Tryz.prog 114 [.g [.v (.bool r.Used), .h base [], .v (iv r.Head), .v (iv r.Len)]] [.rt base .ro (tr r.Buf)] (Ret (.h 0 []) [(0, .row, tr (dataL r))]) := by
 refine ob Tryz.func114 Tryz.ntmps114 ?_
 have hrf := ring_facts hr
 refine go [.R,.B,.N,.a,.Z,.R,.S,.N,.a,.Z,.R2,.a,.Z] (k := ?_)
 refine AW.block ?_
 refine AW.renR 5 26 rfl (by decide) (by decide) ?_
 refine AW.weak (L' := [.sl 4 (.v (iv (0 : Nat))), .sl 3 (.h 26 []), .rt 26 .row (tr (dataK r (0 : Nat))), .rt 1 .box (T.s 4 1 fun k c => ([(T.v (Value.bool r.Used), none), (T.j, none), (T.v (iv r.Head), none), (T.v (iv r.Len), none)].getD (k * 4 + c) (T.j, none)).fst), .al 1 1 (.h base []), .rt base .ro (tr r.Buf), .sl 1 (.p 1 [] 4 0 0)]) (Weak.sim ⟨rfl, rfl, ⟨_, rfl, sim_nil⟩, Rf rfl, ⟨rfl, rfl⟩, Rf rfl, rfl, trivial⟩ rfl rfl) ?_
 refine AW.loop (fun i : KInv r.Len.toNat => [.sl 4 (.v (iv i.k)), .sl 3 (.h 26 []), .rt 26 .row (tr (dataK r i.k)), .rt 1 .box (T.s 4 1 fun k c => ([(T.v (Value.bool r.Used), none), (T.j, none), (T.v (iv r.Head), none), (T.v (iv r.Len), none)].getD (k * 4 + c) (T.j, none)).fst), .al 1 1 (.h base []), .rt base .ro (tr r.Buf), .sl 1 (.p 1 [] 4 0 0)]) (fun i => r.Len.toNat - i.k) ⟨0, Nat.zero_le _⟩ ?_
 intro i
 have hle := i.le
 have hdl := dataK_len r i.k
 refine go [.R2,.m,.N,.f,.l,.b,.Z] (k := ?_)
 refine cd (fun c1 => ?_) fun c1 => ?_
 ·try simp only [cnd] at c1
  have hmod := tmod_bd (a := r.Head + (i.k : Int)) (n := (r.Buf.length : Int)) (by omega) (by omega)
  refine jd (AW.seq (AW.block ?_))
  refine go [.D [0, 1, 2, 3, 4, 5, 6, 7, 8, 9, 10, 11, 12],.t 0,.m,.N,.t 1,.f,.t 2,.l,.t 3,.f,.N,.t 4,.l,.t 5,.m,.t 6,.b,.N,.t 7,.f,.t 8,.l,.t 9,.h,.N] (k := ?_)
  refine tk 10 rfl (Qt.binOp rfl rfl (pbRemI (by omega))) ?_
  refine go [.t 11,.i,.t 12,.l,.N,.o 13 [0],.S,.N,.g,.m,.N] (k := ?_)
  refine AWA.rep 25 (tr ([(r.Buf.getD ((r.Head + (i.k : Int)).tmod (r.Buf.length : Int)).toNat En.dflt)] : List Int)) rfl (sim_row1 rfl rfl rfl (fun k hk => match k, hk with | 0, _ => rfl | k + 1, hk => absurd hk (by omega))) ?_
  refine go [.N] (k := ?_)
  refine a1 14 [] [13, 0, 12, 11, 10, 2, 9, 6, 1, 8, 5, 4, 7, 3] rfl rfl (Stp.appendC rfl (by decide) (by decide) rfl rfl (by simp only [List.length_cons, List.length_nil]; omega)) ?_
  refine go [.N] (k := ?_)
  refine AWA.rep 26 (tr (dataK r i.k ++ [(r.Buf.getD ((r.Head + (i.k : Int)).tmod (r.Buf.length : Int)).toNat En.dflt)])) rfl (app_sim (l := dataK r i.k) (l' := [(r.Buf.getD ((r.Head + (i.k : Int)).tmod (r.Buf.length : Int)).toNat En.dflt)]) rfl (fun _ _ _ _ => rfl) (fun k c _ hc => match c, hc with | 0, _ => rfl | c + 1, hc => absurd hc (by simp only [En.n]; omega))) ?_
  refine go [.N] (k := ?_)
  refine a1 15 [] [14, 13, 12, 11, 10, 9, 8, 7, 6, 5, 4, 3, 2, 1, 0] rfl rfl (Stp.q rfl (by decide) Qt.assign) ?_
  refine go [.N,.Z,.R1,.m,.b,.a,.Z] (k := ?_)
  refine ⟨⟨i.k + 1, by omega⟩, Weak.sim ⟨st1, rfl, ⟨_, rfl, (by rw [dataK_next]; exact tsr)⟩, Rf rfl, ⟨rfl, rfl⟩, Rf rfl, rfl, trivial⟩ rfl rfl, ?_⟩
  show r.Len.toNat - (i.k + 1) < r.Len.toNat - i.k
  omega
 try simp only [cnd] at c1
 refine AW.exit ?_
 dsimp only [thenQ, blockQ, reduceIte]
 refine go [.R,.m,.N,.a,.Z] (k := ?_)
 refine rt1 2 ?_
 rw [show dataL r = dataK r i.k from congrArg (dataK r) (by omega)]
 refine ⟨fun _ => 26, rfl, nodup_of rfl, ?_⟩
 intro r hr
 cases List.mem_singleton.1 hr
 exact ⟨by simp, rootL_mem rfl⟩
end Go.Proofs.YtldefnpobjabpaaGreat.VM

