/- Contracts of functions of the program. No conditions beyond those that each states. -/
import Derived.Test.YtlploojfcmcckaaDoorCK6
set_option linter.all false
set_option maxHeartbeats 8000000
set_option maxRecDepth 10000
namespace Go.Proofs.YtlploojfcmcckaaDoor.VM
open Go Go.RowKit Go.Proofs
theorem FnExactListing_con (a : List DIns) : Con Tryd.prog 4 [.h base []] [.rt base .ro (tr a)] (fun y _ => y = .v (.bool true)) := by
 refine ob Tryd.func4 Tryd.ntmps4 ?_
 refine sr ?_
 refine qs' ?_
 refine qs' ?_
 refine mn ?_
 refine qm ?_
 refine cv Tryd.call10 rfl rfl (szInsS_con _ _ (by first | omega | (repeat (first | omega | apply szd_lo))) (by first | omega | (repeat (first | omega | apply szd_hi)))) ?_
 refine nm ?_
 refine qn ?_
 refine sr2 ?_
 refine qm ?_
 refine qb ?_
 refine nc (fun c1 => ?_) fun c1 => ?_
 ·try simp only [cnd] at c1
  refine sr ?_
  refine qr 2 ?_
  first | rfl | (exfalso; simp_all; done)
 try simp only [cnd] at c1
 have hw : Mk.wt a ≤ 1048576 := by simp only [szd] at c1; omega
 refine jd (sr ?_)
 refine mn ?_
 refine sp (Stp.callR rfl (by decide) Tryd.call12 rfl rfl (toInsS_con _ (by first | omega | (simp only [Int.toNat_natCast]; omega) | (simp only [Mk.wt] at *; omega))) (nodup_of rfl) rfl rfl) ?_
 refine nm ?_
 refine cv Tryd.call11 rfl rfl (ListingS_con _) ?_
 refine nm ?_
 refine qs' ?_
 refine qm ?_
 refine sp (Stp.callR rfl (by decide) Tryd.call12 rfl rfl (toInsS_con _ (by first | omega | (simp only [Int.toNat_natCast]; omega) | (simp only [Mk.wt] at *; omega))) (nodup_of rfl) rfl rfl) ?_
 refine nm ?_
 refine qs' ?_
 refine qm ?_
 refine cv Tryd.call13 rfl rfl (ListingI_con _) ?_
 refine nm ?_
 refine qn ?_
 refine sr2 ?_
 refine qm ?_
 refine mn ?_
 refine qb ?_
 refine nl ?_
 refine AW.cond rfl (fun c2 => (by exfalso; first | (simp at c2; done) | (simp only [decide_eq_true_eq] at c2; omega))) (fun c2 => ?_)
 refine jd (sr2 ?_)
 refine qm ?_
 refine mn ?_
 refine sp (Stp.callR rfl (by decide) Tryd.call12 rfl rfl (toInsS_con _ (by first | omega | (simp only [Int.toNat_natCast]; omega) | (simp only [Mk.wt] at *; omega))) (nodup_of rfl) rfl rfl) ?_
 refine nm ?_
 refine cv Tryd.call14 rfl rfl (eqInsS_con _ _) ?_
 refine nm ?_
 refine qq (Qt.notB rfl) ?_
 refine nl ?_
 refine AW.cond rfl (fun c3 => (by exfalso; first | (simp at c3; done) | (simp only [decide_eq_true_eq] at c3; omega))) (fun c3 => ?_)
 refine jd (sr ?_)
 refine qr 2 ?_
 first | rfl | (exfalso; simp_all; done)
end Go.Proofs.YtlploojfcmcckaaDoor.VM
