/- Contracts of functions of the program. No conditions beyond those that each states. -/
import Derived.Test.YtfbefcmeghpalaaCMJ
set_option linter.all false
namespace Go.Proofs.Ytfbefcmeghpalaa.VM
open Go Go.RowKit Go.Proofs
theorem fo_spec (S : List (List Int)) : ∀ n k, k ≤ fo S n k ∧ fo S n k ≤ k + n ∧ (∀ j, k ≤ j → j < fo S n k → S.getD j En.dflt = []) ∧ (fo S n k < k + n → S.getD (fo S n k) En.dflt ≠ [])
 | 0, k => ⟨Nat.le_refl _, Nat.le_refl _, fun j h1 h2 => absurd h2 (by rw [fo]; omega), fun h => absurd h (by rw [fo]; omega)⟩
 | n + 1, k => by
  by_cases h : S.getD k En.dflt = []
  ·have ⟨h1, h2, h3, h4⟩ := fo_spec S n (k + 1)
   rw [fo, if_pos h]
   refine ⟨by omega, by omega, fun j hj1 hj2 => ?_, fun hh => h4 (by omega)⟩
   rcases Nat.eq_or_lt_of_le hj1 with rfl | hlt
   ·exact h
   ·exact h3 j hlt hj2
  ·rw [fo, if_neg h]
   exact ⟨Nat.le_refl _, by omega, fun j h1 h2 => absurd h2 (by omega), fun _ => h⟩
theorem ix_fo {S : List (List Int)} (h5 : S.length = 5) : ixOf (fun l => decide (0 < l.length)) S = if fo S 5 0 = 5 then (-1 : Int) else ((fo S 5 0 : Nat) : Int) := by
 have ⟨h1, h2, h3, h4⟩ := fo_spec S 5 0
 by_cases ho : fo S 5 0 = 5
 ·rw [if_pos ho]
  have : S.findIdx? (fun l => decide (0 < l.length)) = none := by
   rw [List.findIdx?_eq_none_iff]
   intro x hx
   obtain ⟨j, hj, rfl⟩ := List.getElem_of_mem hx
   have := h3 j (by omega) (by omega)
   rw [List.getD_eq_getElem?_getD, List.getElem?_eq_getElem hj, Option.getD_some] at this
   rw [this]; rfl
  rw [ixOf, this]
 ·rw [if_neg ho]
  have hlt : fo S 5 0 < S.length := by omega
  have : S.findIdx? (fun l => decide (0 < l.length)) = some (fo S 5 0) := by
   rw [List.findIdx?_eq_some_iff_getElem]
   refine ⟨hlt, ?_, fun j hj => ?_⟩
   ·have := h4 (by omega)
    rw [List.getD_eq_getElem?_getD, List.getElem?_eq_getElem hlt, Option.getD_some] at this
    simpa [List.length_pos_iff] using this
   ·have := h3 j (by omega) hj
    rw [List.getD_eq_getElem?_getD, List.getElem?_eq_getElem (by omega), Option.getD_some] at this
    simp [this]
  rw [ixOf, this]
set_option maxHeartbeats 8000000 in
set_option maxRecDepth 10000 in
theorem bt1_con (l : List Int) : Con Try.prog 29 [.h base []] [.rt base .ro (tr l)] (fun y _ => y = .v (.bool (decide (0 < l.length)))) := by
 refine Con.of_body Try.func29 rfl (by simp) ?_
 rw [Try.ntmps29]
 refine AW.len (base) [] rfl (by simp [Okp]) rfl (fun hl => ?_)
 refine AW.seq (AW.region ?_)
 refine qq Qt.assign ?_
 refine nl ?_
 refine AW.seq (AW.region ?_)
 refine qq Qt.move ?_
 refine qq (Qt.lenH rfl rfl rfl sl35) ?_
 refine nm ?_
 refine qq (Qt.binOp rfl rfl rfl) ?_
 refine qq Qt.assign ?_
 refine nl ?_
 refine AW.ret (endQ_ret (.cons (.tmp 2) .nil) ?_)
 rw [show decide (0 < l.length) = decide ((l.length : Int) > 0) by simp]
 rfl
set_option maxHeartbeats 8000000 in
set_option maxRecDepth 10000 in
theorem ixLL_con {fid : FuncId} {p : (List Int) → Bool} (hE : Ent Try.prog fid) (hp : ∀ x : List Int, Con Try.prog fid [.h base []] [.rt base .ro (tr x)] (fun y _ => y = .v (.bool (p x)))) (l : List (List Int)) : Con Try.prog 28 [.h base [], .f fid []] [.rt base .ro (tr l)] (fun y _ => y = .v (iv (ixOf p l))) := by
 refine Con.of_body Try.func28 rfl (by simp) ?_
 rw [Try.ntmps28]
 refine AW.len base [] rfl (by simp [Okp]) rfl (fun hl => ?_)
 refine AW.seq (AW.region ?_)
 refine qq Qt.assign ?_
 refine nl ?_
 refine AW.seq (AW.seq (AW.region ?_))
 refine qq Qt.move ?_
 refine qq (Qt.lenH rfl rfl rfl sl24) ?_
 refine nm ?_
 refine qq Qt.move ?_
 refine nl ?_
 refine AW.block ?_
 refine AW.loopW (fun i : IxInv p l => [.sl 8 (.v (iv i.k)), .sl 7 (.v (iv l.length)), .sl 0 (.h base []), .sl 1 (.f fid []), .rt base .ro (tr l)]) (fun i => l.length - i.k) ⟨0, Nat.zero_le _, rfl⟩ (Weak.sim ⟨rfl, rfl, rfl, rfl, Rf rfl, trivial⟩ rfl rfl) ?_
 intro i
 have hle := i.le
 refine AW.seq (AW.region ?_)
 refine qq (Qt.binOp rfl rfl rfl) ?_
 refine nl ?_
 refine AW.seq ?_
 refine AW.cond rfl (fun c1 => ?_) (fun c1 => ?_)
 ·have k1 := c1
  try simp only [cnd] at c1
  refine jd (AW.seq (AW.block (AW.seq (AW.region ?_))))
  refine qq Qt.move ?_
  refine nm ?_
  refine qq Qt.assign ?_
  refine nl ?_
  refine AW.seq (AW.region ?_)
  refine qq Qt.move ?_
  refine qq Qt.move ?_
  refine nm ?_
  refine qq Qt.move ?_
  refine qq (Qt.indexAddr rfl rfl rfl rfl sl24 sz35 (by decide) (by omega)) ?_
  refine qq (Qt.load1 rfl rfl rfl ag35) ?_
  refine nm ?_
  refine cv hE rfl rfl (hp (l.getD i.k En.dflt)) ?_
  refine nl ?_
  refine AW.cond rfl (fun c2 => ?_) (fun c2 => ?_)
  ·have k2 := c2
   try simp only [cnd] at c2
   refine AW.seq (AW.region ?_)
   refine qq Qt.move ?_
   refine nm ?_
   refine qq Qt.assign ?_
   refine nl ?_
   refine AW.ret (endQ_ret (.cons (.tmp 4) .nil) ?_)
   rw [ixOf_hit i En.dflt (by omega) c2]
   rfl
  have k2 := c2
  try simp only [cnd] at c2
  refine jd (AW.region ?_)
  refine qq (Qt.binOp rfl rfl (by first | exact pbAdd (by omega) | rfl)) ?_
  refine qq Qt.move ?_
  refine nl ?_
  refine ⟨⟨i.k + 1, by omega, i.next En.dflt (by omega) c2⟩, Weak.sim ⟨st1, rfl, rfl, rfl, Rf rfl, trivial⟩ rfl rfl, ?_⟩
  show l.length - (i.k + 1) < l.length - i.k
  omega
 have k1 := c1
 try simp only [cnd] at c1
 refine AW.exit ?_
 dsimp only [thenQ, blockQ, reduceIte]
 refine AW.seq (AW.region ?_)
 refine qq Qt.assign ?_
 refine nl ?_
 refine AW.ret (endQ_ret (.cons (.tmp 4) .nil) ?_)
 rw [ixOf_none i (by omega)]
 rfl
end Go.Proofs.Ytfbefcmeghpalaa.VM
