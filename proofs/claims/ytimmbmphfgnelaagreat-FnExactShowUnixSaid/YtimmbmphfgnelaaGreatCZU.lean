/- Contracts of functions of the program. No conditions beyond those that each states. -/
import Derived.Test.YtimmbmphfgnelaaGreatCZR
import Derived.Test.YtimmbmphfgnelaaGreatCZT
set_option linter.all false
namespace Go.Proofs.YtimmbmphfgnelaaGreat.VM
open Go Go.RowKit Go.Proofs
set_option maxHeartbeats 8000000 in
set_option maxRecDepth 10000 in
theorem FnExactShowUnix_con (a : DUnix) : Con Tryz.prog 7 [.g [.v (iv a.Next), .v (iv a.Tick), .h base [], .h (base + 1) [], .h (base + 2) [], .h (base + 3) [], .h (base + 4) [], .h (base + 5) [], .h (base + 6) []]] [.rt base .ro (tr a.Progs), .rt (base + 1) .ro (tr a.Procs), .rt (base + 2) .ro (tr a.Opens), .rt (base + 3) .ro (tr a.Pipes), .rt (base + 4) .ro (tr a.Files), .rt (base + 5) .ro (tr a.Ready), .rt (base + 6) .ro (tr a.Out)] (fun y _ => y = .v (.bool true)) := by
 refine Con.of_body Tryz.func7 rfl (by simp) ?_
 rw [Tryz.ntmps7]
 refine AW.seq (AW.region ?_)
 refine sp (Stp.boxB rfl (by decide) (by decide) rfl rfl rfl rfl) ?_
 refine nm ?_
 refine qq Qt.assign ?_
 refine nl ?_
 refine AW.seq (AW.region ?_)
 refine qq Qt.assign ?_
 refine nl ?_
 refine AW.seq (AW.region ?_)
 refine qq (Qt.loadG rfl rfl rfl ag29 sz29 (by decide)) ?_
 refine nm ?_
 refine qq Qt.move ?_
 refine cv Tryz.call10 rfl rfl (szUnix_con _ _ (by first | omega | (repeat (first | omega | apply szd_lo))) (by first | omega | (repeat (first | omega | apply szd_hi)))) ?_
 refine nm ?_
 refine qq Qt.assign ?_
 refine nl ?_
 refine AW.seq (AW.seq (AW.region ?_))
 refine qq Qt.move ?_
 refine qq (Qt.binOp rfl rfl rfl) ?_
 refine nl ?_
 refine AW.cond rfl (fun c1 => ?_) (fun c1 => ?_)
 ·have k1 := c1
  try simp only [cnd] at c1
  refine AW.seq (AW.region ?_)
  refine qq Qt.assign ?_
  refine nl ?_
  refine AW.ret (endQ_ret (.cons (.tmp 2) .nil) ?_)
  first | rfl | (exfalso; simp_all; done)
 have k1 := c1
 try simp only [cnd] at c1
 have hw : Mk.wt a ≤ 1048576 := by simp only [szd] at c1; omega
 refine jd (AW.seq (AW.region ?_))
 refine qq (Qt.loadG rfl rfl rfl ag29 sz29 (by decide)) ?_
 refine nm ?_
 refine sp (Stp.callR rfl (by decide) Tryz.call12 rfl rfl (toUnix_con _ (by first | omega | (simp only [Int.toNat_natCast]; omega) | (simp only [Mk.wt] at *; omega))) (nodup_of rfl) rfl rfl) ?_
 refine nm ?_
 refine cv Tryz.call21 rfl rfl (ShowUnixS_con _ (unixB_of hw)) ?_
 refine nm ?_
 refine qq Qt.assign ?_
 refine nl ?_
 refine AW.seq (AW.region ?_)
 refine qq (Qt.loadG rfl rfl rfl ag29 sz29 (by decide)) ?_
 refine sp (Stp.callR rfl (by decide) Tryz.call12 rfl rfl (toUnix_con _ (by first | omega | (simp only [Int.toNat_natCast]; omega) | (simp only [Mk.wt] at *; omega))) (nodup_of rfl) rfl rfl) ?_
 refine nm ?_
 refine sp (Stp.alloc rfl (by decide) (by decide)) ?_
 refine nm ?_
 refine ss ?_
 refine nl ?_
 refine AW.seq (AW.region ?_)
 refine qq (Qt.loadG rfl rfl rfl ag38 sz38 (by decide)) ?_
 refine nm ?_
 refine cv Tryz.call22 rfl rfl (ShowUnixI_con _ (unixB_of hw)) ?_
 refine nm ?_
 refine qq Qt.assign ?_
 refine nl ?_
 refine AW.seq (AW.seq (AW.region ?_))
 refine qq Qt.move ?_
 refine qq Qt.move ?_
 refine nm ?_
 refine qq (Qt.binOp rfl rfl rfl) ?_
 refine nl ?_
 refine AW.cond rfl (fun c2 => (by exfalso; first | (simp at c2; done) | (simp only [decide_eq_true_eq] at c2; omega))) (fun c2 => ?_)
 refine jd (AW.seq (AW.seq ?_))
 refine AW.draw [0, 1, 4] rfl (by decide +kernel) ?_
 refine tk 0 rfl (Qt.loadG rfl rfl rfl ag38 sz38 (by decide)) ?_
 refine tk 1 rfl (Qt.loadG rfl rfl rfl ag29 sz29 (by decide)) ?_
 refine na ?_
 refine a1 2 [0] [1] rfl rfl (Stp.callR rfl (by decide) Tryz.call12 rfl rfl (toUnix_con _ (by first | omega | (simp only [Int.toNat_natCast]; omega) | (simp only [Mk.wt] at *; omega))) (nodup_of rfl) rfl rfl) ?_
 refine na ?_
 refine AWA.againE rfl rfl (by decide +kernel) (.on rfl rfl (Qt.loadG rfl rfl rfl ag38 sz38 (by decide))) rfl ?_
 refine na ?_
 refine a1 3 [] [2, 0, 1] rfl rfl (Stp.callV rfl (by decide) Tryz.call14 rfl rfl (eqUnix_con _ _)) ?_
 refine na ?_
 refine na ?_
 refine tk 4 rfl (Qt.notB rfl) ?_
 refine nz ?_
 refine AW.cond rfl (fun c3 => (by exfalso; first | (simp at c3; done) | (simp only [decide_eq_true_eq] at c3; omega))) (fun c3 => ?_)
 refine jd (AW.seq (AW.region ?_))
 refine qq Qt.assign ?_
 refine nl ?_
 refine AW.ret (endQ_ret (.cons (.tmp 2) .nil) ?_)
 first | rfl | (exfalso; simp_all; done)
end Go.Proofs.YtimmbmphfgnelaaGreat.VM
