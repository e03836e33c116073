/- Contracts. No conditions. -/
import Derived.Test.YthjfgpkjooaahaaGreatCLX
import Derived.Test.YthjfgpkjooaahaaGreatCLW
import Derived.Test.YthjfgpkjooaahaaGreatCEV3
import Derived.Test.YthjfgpkjooaahaaGreatCEV4
set_option linter.all false
set_option maxHeartbeats 8000000
set_option maxRecDepth 10000
namespace Go.Proofs.YthjfgpkjooaahaaGreat.VM
open Go Go.RowKit Go.Proofs
theorem FnExactALoad_con (a : DUnix) : Con Tryz.prog 3 [.g [.v (iv a.Next), .v (iv a.Tick), .h base [], .h (base + 1) [], .h (base + 2) [], .h (base + 3) [], .h (base + 4) [], .h (base + 5) [], .h (base + 6) []]] [.rt base .ro (tr a.Progs), .rt (base + 1) .ro (tr a.Procs), .rt (base + 2) .ro (tr a.Opens), .rt (base + 3) .ro (tr a.Pipes), .rt (base + 4) .ro (tr a.Files), .rt (base + 5) .ro (tr a.Ready), .rt (base + 6) .ro (tr a.Out)] (fun y _ => y = .v (.bool true)) := by
 refine ob Tryz.func3 Tryz.ntmps3 ?_
 refine go [.R,.B,.N,.a,.Z,.R,.a,.Z,.R,.G,.N,.m] (k := ?_)
 refine cv Tryz.call7 rfl rfl (szUnix_con _ _ (by first | omega | (repeat (first | omega | apply szd_lo))) (by first | omega | (repeat (first | omega | apply szd_hi)))) ?_
 refine go [.N,.a,.Z,.R2,.m,.b,.Z] (k := ?_)
 refine cd (fun c1 => ?_) fun c1 => ?_
 ·try simp only [cnd] at c1
  refine go [.R,.a,.Z] (k := ?_)
  refine rt1 2 ?_
  first | rfl | (exfalso; simp_all; done)
 try simp only [cnd] at c1
 have hw : Mk.wt a ≤ 1048576 := by simp only [szd] at c1; omega
 have hca := cnt_unix (u := a) (Nat.le_trans hw (by decide))
 have hct := cnt_arrays (loadR_wt hw)
 refine go [.J,.R,.G,.N] (k := ?_)
 refine sp (Stp.callR rfl (by decide) Tryz.call9 rfl rfl (toUnix_con _ (by first | omega | (simp only [Int.toNat_natCast]; omega) | (simp only [Mk.wt] at *; omega))) (nodup_of rfl) rfl rfl) ?_
 refine go [.N] (k := ?_)
 refine sp (Stp.callR rfl (by decide) Tryz.call8 rfl rfl (ALoadS_con _ hw) (nodup_of rfl) rfl rfl) ?_
 refine go [.N,.m,.e,.e,.N,.A,.N,.s,.N,.a,.Z,.R,.G] (k := ?_)
 refine sp (Stp.callR rfl (by decide) Tryz.call9 rfl rfl (toUnix_con _ (by first | omega | (simp only [Int.toNat_natCast]; omega) | (simp only [Mk.wt] at *; omega))) (nodup_of rfl) rfl rfl) ?_
 refine go [.N,.A,.N,.s,.Z,.R,.G,.N] (k := ?_)
 refine sp (Stp.callR rfl (by decide) Tryz.call10 rfl rfl (ALoadI_con _ hw) (nodup_of rfl) rfl rfl) ?_
 refine go [.N,.m,.e,.e,.N,.A,.N,.s,.N,.a,.Z,.R2,.G,.G,.N] (k := ?_)
 refine cv Tryz.call11 rfl rfl (eqArrays_con _ _) ?_
 refine go [.N,.n,.m] (k := ?_)
 refine AWL.split 36 rfl (fun g2 => (by exfalso; first | (simp at g2; done) | (simp only [decide_eq_true_eq] at g2; omega))) (fun g2 => ?_)
 refine go [.m,.N,.m] (k := ?_)
 refine qg (nF g2) (Qt.neB rfl rfl Tryz.underlying4) ?_
 refine qq (Qt.pickF rfl g2) ?_
 refine go [.Z] (k := ?_)
 refine AW.cond rfl (fun c3 => (by exfalso; first | (simp at c3; done) | (simp only [decide_eq_true_eq] at c3; omega))) (fun c3 => ?_)
 refine jd (AW.seq (AW.seq ?_))
 refine go [.D [0, 1, 4],.t 0,.G,.N,.t 1,.G] (k := ?_)
 refine a1 2 [0] [1] rfl rfl (Stp.callR rfl (by decide) Tryz.call9 rfl rfl (toUnix_con _ (by first | omega | (simp only [Int.toNat_natCast]; omega) | (simp only [Mk.wt] at *; omega))) (nodup_of rfl) rfl rfl) ?_
 refine go [.N,.g,.G,.N] (k := ?_)
 refine a1 3 [] [2, 0, 1] rfl rfl (Stp.callV rfl (by decide) Tryz.call12 rfl rfl (eqUnix_con _ _)) ?_
 refine go [.N,.t 4,.n,.Z] (k := ?_)
 refine AW.cond rfl (fun c4 => (by exfalso; first | (simp at c4; done) | (simp only [decide_eq_true_eq] at c4; omega))) (fun c4 => ?_)
 refine go [.J,.R,.a,.Z,.R,.G,.N,.m] (k := ?_)
 refine sp (Stp.callH rfl (by decide) Tryz.call13 rfl (markUnix_con _ _ (by omega) (by omega)) rfl rfl rfl (nodup_of rfl) rfl rfl) ?_
 refine go [.N,.a,.Z,.R2,.m,.b,.N,.m] (k := ?_)
 refine AWL.split 51 rfl (fun g5 => (by exfalso; first | (simp at g5; done) | (simp only [decide_eq_true_eq] at g5; omega))) (fun g5 => ?_)
 refine go [.G,.G,.N] (k := ?_)
 refine AWL.step rfl (nF g5) (Stp.callV rfl (by decide) Tryz.call11 rfl rfl (eqArrays_con _ _)) ?_
 refine go [.N,.n] (k := ?_)
 refine qq (Qt.pickF rfl g5) ?_
 refine go [.m,.N] (k := ?_)
 refine AWL.split 57 rfl (fun g6 => (by exfalso; first | (simp at g6; done) | (simp only [decide_eq_true_eq] at g6; omega))) (fun g6 => ?_)
 refine go [.m,.m] (k := ?_)
 refine qg (nF g6) (Qt.neB rfl rfl Tryz.underlying4) ?_
 refine go [.N] (k := ?_)
 refine qq (Qt.pickF rfl g6) ?_
 refine go [.Z] (k := ?_)
 refine AW.cond rfl (fun c7 => (by exfalso; first | (simp at c7; done) | (simp only [decide_eq_true_eq] at c7; omega))) (fun c7 => ?_)
 refine go [.J,.R,.a,.Z,.R,.G,.N,.m] (k := ?_)
 refine sp (Stp.callH rfl (by decide) Tryz.call14 rfl (markArrays_con _ _ (by omega) (by omega)) rfl rfl rfl (nodup_of rfl) rfl rfl) ?_
 refine go [.N,.a,.Z,.R,.a,.Z,.R,.G,.N,.m] (k := ?_)
 refine cv Tryz.call15 rfl rfl (heldArrays_con _ _ (by omega) (by omega)) ?_
 refine go [.N,.a,.Z,.R2,.m,.b,.Z] (k := ?_)
 refine AW.cond rfl (fun c8 => (by exfalso; first | (simp at c8; done) | (simp only [decide_eq_true_eq] at c8; omega))) (fun c8 => ?_)
 refine jd (sr2 ?_)
 refine go [.m,.N,.m,.b,.Z] (k := ?_)
 refine AW.cond rfl (fun c9 => (by exfalso; first | (simp at c9; done) | (simp only [decide_eq_true_eq] at c9; omega))) (fun c9 => ?_)
 refine go [.J,.R,.G,.N] (k := ?_)
 refine sp (Stp.callR rfl (by decide) Tryz.call9 rfl rfl (toUnix_con _ (by first | omega | (simp only [Int.toNat_natCast]; omega) | (simp only [Mk.wt] at *; omega))) (nodup_of rfl) rfl rfl) ?_
 refine go [.N] (k := ?_)
 refine sp (Stp.callR rfl (by decide) Tryz.call10 rfl rfl (ALoadI_con _ hw) (nodup_of rfl) rfl rfl) ?_
 refine go [.N,.m,.e,.e,.N,.A,.N,.s,.N,.a,.Z,.R2,.G,.G,.N] (k := ?_)
 refine cv Tryz.call11 rfl rfl (eqArrays_con _ _) ?_
 refine go [.N,.n,.m] (k := ?_)
 refine AWL.split 83 rfl (fun g10 => (by exfalso; first | (simp at g10; done) | (simp only [decide_eq_true_eq] at g10; omega))) (fun g10 => ?_)
 refine go [.m,.N,.m] (k := ?_)
 refine qg (nF g10) (Qt.neB rfl rfl Tryz.underlying4) ?_
 refine qq (Qt.pickF rfl g10) ?_
 refine go [.Z] (k := ?_)
 refine AW.cond rfl (fun c11 => (by exfalso; first | (simp at c11; done) | (simp only [decide_eq_true_eq] at c11; omega))) (fun c11 => ?_)
 refine go [.J,.R,.a,.Z,.R,.G,.N,.m] (k := ?_)
 refine cv Tryz.call15 rfl rfl (heldArrays_con _ _ (by omega) (by omega)) ?_
 refine go [.N,.a,.Z,.R2,.m,.b,.Z] (k := ?_)
 refine AW.cond rfl (fun c12 => (by exfalso; first | (simp at c12; done) | (simp only [decide_eq_true_eq] at c12; omega))) (fun c12 => ?_)
 refine jd (sr2 ?_)
 refine go [.m,.N,.m,.b,.Z] (k := ?_)
 refine AW.cond rfl (fun c13 => (by exfalso; first | (simp at c13; done) | (simp only [decide_eq_true_eq] at c13; omega))) (fun c13 => ?_)
 refine go [.J,.R,.a,.Z] (k := ?_)
 refine rt1 2 ?_
 first | rfl | (exfalso; simp_all; done)
end Go.Proofs.YthjfgpkjooaahaaGreat.VM

