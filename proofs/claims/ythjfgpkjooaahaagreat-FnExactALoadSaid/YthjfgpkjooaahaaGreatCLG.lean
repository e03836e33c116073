/- Contracts. No conditions. -/
import Derived.Test.YthjfgpkjooaahaaGreatCLF
set_option linter.all false
set_option maxHeartbeats 8000000
set_option maxRecDepth 10000
namespace Go.Proofs.YthjfgpkjooaahaaGreat.VM
open Go Go.RowKit Go.Proofs
theorem pbRemI {a b : Int} (h : b ≠ 0) : pureBin .rem (iv a) (iv b) = some (iv (a.tmod b)) := by
 show (if b = 0 then none else some (Value.int .i64 (a.tmod b))) = _
 rw [if_neg h]
theorem pages_stop (l : List Int) (h : pagesN l < l.length) : isFr (l.getD (pagesN l) En.dflt) = false := by
 cases hx : isFr (l.getD (pagesN l) En.dflt) with
 | false => rfl
 | true =>
  exfalso
  have := List.takeWhile_append_dropWhile (p := isFr) (l := l)
  cases hd : l.dropWhile isFr with
  | nil =>
   rw [hd, List.append_nil] at this
   have h4 : pagesN l = l.length := by unfold pagesN; rw [this]
   omega
  | cons y r =>
   have hy := List.head_dropWhile_not isFr (by rw [hd]; simp : l.dropWhile isFr ≠ [])
   simp only [hd, List.head_cons] at hy
   have e : l.getD (pagesN l) En.dflt = y := by
    conv => lhs; arg 1; rw [← this, hd]
    unfold pagesN
    rw [List.getD_eq_getElem?_getD, List.getElem?_append_right (Nat.le_refl _), Nat.sub_self]
    rfl
   rw [e, hy] at hx
   cases hx
structure PgI (l : List Int) where
 k : Nat
 le : k ≤ l.length
 h : ∀ j, j < k → isFr (l.getD j En.dflt) = true
theorem l12Pages_con (l : List Int) (hs : l.length ≤ 1000) : Con Tryz.prog 197 [.h base []] [.rt base .ro (tr l)] (fun y _ => y = .v (iv (pagesN l : Nat))) := by
 refine ob Tryz.func197 Tryz.ntmps197 ?_
 refine go [.R,.a,.Z,.R,.a,.Z] (k := ?_)
 refine AW.seq (AW.block ?_)
 refine AW.loopW (fun i : PgI l => [.sl 3 (.v (iv i.k)), .sl 0 (.h base []), .rt base .ro (tr l)]) (fun i => l.length - i.k) ⟨0, Nat.zero_le _, fun _ h => absurd h (Nat.not_lt_zero _)⟩ (ws) ?_
 intro i
 have hle := i.le
 refine go [.R2,.m,.N,.m,.h,.b,.N,.m] (k := ?_)
 apply AWL.cut 5
 ·intro Kg1
  refine AWL.split 8 rfl (fun g1 => ?_) (fun g1 => ?_)
  ·have eg1 := g1
   try simp only [cnd] at eg1
   refine go [.m,.m,.N,.i,.l] (k := ?_)
   refine AWL.step rfl g1 (Stp.callV rfl (by decide) Tryz.call295 rfl rfl (l12Frame_con _)) ?_
   refine go [.N] (k := ?_)
   exact wjT 13 [9, 10, 11, 12, 13] (ifT g1 _ undef) Kg1
  ·refine go [.x,.x,.x,.x,.N,.x] (k := ?_)
   exact wjF 13 [9, 10, 11, 12, 13] (ifF g1 undef _) Kg1
 refine qq (Qt.pickAnd rfl rfl rfl) ?_
 refine go [.Z] (k := ?_)
 refine cd (fun c2 => ?_) fun c2 => ?_
 ·try simp only [cnd] at c2
  refine jd (AW.block (AW.region ?_))
  refine go [.m,.b,.N,.a,.Z] (k := ?_)
  refine ⟨⟨i.k + 1, by omega, fun j hj => by
   rcases Nat.lt_or_ge j i.k with h | h
   ·exact i.h j h
   ·rw [show j = i.k by omega]; grind only⟩, ws, ?_⟩
  show l.length - (i.k + 1) < l.length - i.k
  omega
 try simp only [cnd] at c2
 refine AW.exit ?_
 dsimp only [thenQ, blockQ, reduceIte]
 refine go [.R,.m,.a,.Z] (k := ?_)
 refine rt1 2 ?_
 have hN : pagesN l = i.k := by
  rcases Nat.lt_or_ge i.k l.length with h | h
  ·exact pages_end h i.h (by grind only)
  ·have h1 := pagesN_le l
   rcases Nat.lt_or_ge (pagesN l) i.k with h2 | h2
   ·exfalso
    have h3 := i.h _ h2
    have h4 := pages_stop l (by omega)
    rw [h4] at h3; cases h3
   ·omega
 rw [hN]
 rfl
theorem frameWords_con (ram : List Int) (f : Int) (hr : ram.length = 64) (h0 : 0 ≤ f) (h1 : f ≤ 15) : Con Tryz.prog 167 [.h base [], .v (iv f)] [.rt base .ro (tr ram)] (RetW (.a base [] 1 (f * 4).toNat (((f + 1) * 4).toNat - (f * 4).toNat)) [] []) := by
 refine ob Tryz.func167 Tryz.ntmps167 ?_
 refine go [.R,.a,.Z,.R,.m,.m,.N] (k := ?_)
 refine qq (Qt.binOp rfl rfl (by first | exact pbMul (by omega) | rfl)) ?_
 refine go [.m,.b,.N] (k := ?_)
 refine qq (Qt.binOp rfl rfl (by first | exact pbMul (by omega) | rfl)) ?_
 refine qq (Qt.sliceH rfl rfl rfl SlI.sl SzI.ok (by decide) (slB_sn rfl (by omega)) (slB_sn rfl (by omega)) (by omega) (by omega)) ?_
 refine go [.a,.Z] (k := ?_)
 refine rt1 4 ?_
 exact ⟨fun n => n, rfl, fun _ _ => rfl, List.nodup_nil, by simp, by simp⟩
end Go.Proofs.YthjfgpkjooaahaaGreat.VM

