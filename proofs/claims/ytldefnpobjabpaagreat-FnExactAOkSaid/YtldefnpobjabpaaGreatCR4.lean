/- Contracts of functions of the program. No conditions beyond those that each states. -/
import Derived.Test.YtldefnpobjabpaaGreatCR3
set_option linter.all false
set_option maxHeartbeats 8000000
set_option maxRecDepth 10000
namespace Go.Proofs.YtldefnpobjabpaaGreat.VM
open Go Go.RowKit Go.Proofs
theorem FnExactAOk_con (a : DArrays) : Con Tryz.prog 4 [.g [.v (iv a.Next), .v (iv a.Tick), .h base [], .h (base + 1) [], .h (base + 2) [], .h (base + 3) [], .h (base + 4) [], .h (base + 5) [], .h (base + 6) [], .v (.bool a.Ready.Used), .h (base + 7) [], .v (iv a.Ready.Head), .v (iv a.Ready.Len), .h (base + 8) []]] [.rt base .ro (tr a.Progs), .rt (base + 1) .ro (tr a.Slots), .rt (base + 2) .ro (tr a.Ram), .rt (base + 3) .ro (tr a.Map), .rt (base + 4) .ro (tr a.Opens), .rt (base + 5) .ro (tr a.Pipes), .rt (base + 6) .ro (tr a.Files), .rt (base + 7) .ro (tr a.Ready.Buf), .rt (base + 8) .ro (tr a.Out)] (fun y _ => y = .v (.bool true)) := by
 refine ob Tryz.func4 Tryz.ntmps4 ?_
 refine sr ?_
 refine bx ?_
 refine nm ?_
 refine qs' ?_
 refine qs' ?_
 refine qG ag32 sz32 ?_
 refine nm ?_
 refine qm ?_
 refine cv Tryz.call7 rfl rfl (szArrays_con _ _ (by first | omega | (repeat (first | omega | apply szd_lo))) (by first | omega | (repeat (first | omega | apply szd_hi)))) ?_
 refine nm ?_
 refine qn ?_
 refine sr2 ?_
 refine qm ?_
 refine qb ?_
 refine nc (fun c1 => ?_) fun c1 => ?_
 ·try simp only [cnd] at c1
  refine sr ?_
  refine qr 2 ?_
  first | rfl | (exfalso; simp_all; done)
 try simp only [cnd] at c1
 have hw : Mk.wt a ≤ 1048576 := by simp only [szd] at c1; omega
 refine jd (sr ?_)
 refine qG ag32 sz32 ?_
 refine nm ?_
 refine sp (Stp.callR rfl (by decide) Tryz.call9 rfl rfl (toArrays_con _ (by first | omega | (simp only [Int.toNat_natCast]; omega) | (simp only [Mk.wt] at *; omega))) (nodup_of rfl) rfl rfl) ?_
 refine nm ?_
 refine cv Tryz.call16 rfl rfl (AOkS_con _ hw) ?_
 refine nm ?_
 refine qs' ?_
 refine qG ag32 sz32 ?_
 refine sp (Stp.callR rfl (by decide) Tryz.call9 rfl rfl (toArrays_con _ (by first | omega | (simp only [Int.toNat_natCast]; omega) | (simp only [Mk.wt] at *; omega))) (nodup_of rfl) rfl rfl) ?_
 refine nm ?_
 refine sp sA ?_
 refine nm ?_
 refine ss ?_
 refine ns ?_
 refine qG ag48 sz48 ?_
 refine nm ?_
 refine cv Tryz.call17 rfl rfl (AOkI_con _ hw) ?_
 refine nm ?_
 refine qn ?_
 refine sr2 ?_
 refine qm ?_
 refine mn ?_
 refine qq (Qt.neB rfl rfl Tryz.underlying4) ?_
 refine nl ?_
 refine AW.cond rfl (fun c2 => (by exfalso; first | (simp at c2; done) | (simp only [decide_eq_true_eq] at c2; omega))) (fun c2 => ?_)
 refine jd (AW.seq (AW.seq ?_))
 refine AW.draw [0, 1, 4] rfl (by decide +kernel) ?_
 refine tk 0 rfl (Qt.loadG rfl rfl rfl ag48 sz48 (by decide)) ?_
 refine tk 1 rfl (Qt.loadG rfl rfl rfl ag32 sz32 (by decide)) ?_
 refine na ?_
 refine a1 2 [0] [1] rfl rfl (Stp.callR rfl (by decide) Tryz.call9 rfl rfl (toArrays_con _ (by first | omega | (simp only [Int.toNat_natCast]; omega) | (simp only [Mk.wt] at *; omega))) (nodup_of rfl) rfl rfl) ?_
 refine na ?_
 refine ae rfl (Qt.loadG rfl rfl rfl ag48 sz48 (by decide)) ?_
 refine na ?_
 refine a1 3 [] [2, 0, 1] rfl rfl (Stp.callV rfl (by decide) Tryz.call12 rfl rfl (eqArrays_con _ _)) ?_
 refine na ?_
 refine na ?_
 refine tk 4 rfl (Qt.notB rfl) ?_
 refine nz ?_
 refine AW.cond rfl (fun c3 => (by exfalso; first | (simp at c3; done) | (simp only [decide_eq_true_eq] at c3; omega))) (fun c3 => ?_)
 refine jd (sr ?_)
 refine qr 2 ?_
 first | rfl | (exfalso; simp_all; done)
end Go.Proofs.YtldefnpobjabpaaGreat.VM
