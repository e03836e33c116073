/- Contracts of functions of the program. No conditions beyond those that each states. -/
import Derived.Test.YtlploojfcmcckaaDoorCKS
set_option linter.all false
set_option maxHeartbeats 8000000
set_option maxRecDepth 10000
namespace Go.Proofs.YtlploojfcmcckaaDoor.VM
open Go Go.RowKit Go.Proofs
theorem dec_len : ∀ (k u : Nat), u < 10 ^ (k + 1) → (Lib.decDigits u).length ≤ k + 1
 | 0, u, h => by rw [Lib.decDigits, dif_pos (by omega)]; exact Nat.le_refl _
 | k + 1, u, h => by
  rw [Lib.decDigits]
  split
  ·simp
  ·have := dec_len k (u / 10) (by rw [Nat.div_lt_iff_lt_mul (by omega)]; rw [Nat.pow_succ] at h; exact h)
   simp; omega
theorem DecI_con (n : Int) (hb : -9223372036854775808 ≤ n ∧ n ≤ 9223372036854775807) : Con Tryd.prog 9 [.v (iv n)] [] (fun y _ => y = .v (.string (decB n))) := by
 refine ob Tryd.func9 Tryd.ntmps9 ?_
 refine sr ?_
 refine qs' ?_
 refine qm ?_
 refine cv Tryd.call31 rfl rfl (itoa_con n hb.1 hb.2) ?_
 refine nm ?_
 refine qr 2 ?_
 rfl
end Go.Proofs.YtlploojfcmcckaaDoor.VM
