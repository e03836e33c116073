/- Contracts. No conditions. -/
import Derived.Test.YtldefnpobjabpaaGreatCR8
set_option linter.all false
set_option maxHeartbeats 8000000
set_option maxRecDepth 10000
namespace Go.Proofs.YtldefnpobjabpaaGreat.VM
open Go Go.RowKit Go.Proofs
theorem FnExactImageA_con (a : DArrays) : Con Tryz.prog 5 [.g [.v (iv a.Next), .v (iv a.Tick), .h base [], .h (base + 1) [], .h (base + 2) [], .h (base + 3) [], .h (base + 4) [], .h (base + 5) [], .h (base + 6) [], .v (.bool a.Ready.Used), .h (base + 7) [], .v (iv a.Ready.Head), .v (iv a.Ready.Len), .h (base + 8) []]] [.rt base .ro (tr a.Progs), .rt (base + 1) .ro (tr a.Slots), .rt (base + 2) .ro (tr a.Ram), .rt (base + 3) .ro (tr a.Map), .rt (base + 4) .ro (tr a.Opens), .rt (base + 5) .ro (tr a.Pipes), .rt (base + 6) .ro (tr a.Files), .rt (base + 7) .ro (tr a.Ready.Buf), .rt (base + 8) .ro (tr a.Out)] (fun y _ => y = .v (.bool true)) := by
 refine ob Tryz.func5 Tryz.ntmps5 ?_
 refine go [.R,.B,.N,.a,.Z,.R,.a,.Z,.R,.G,.N,.m] (k := ?_)
 refine cv Tryz.call7 rfl rfl (szArrays_con _ _ (by first | omega | (repeat (first | omega | apply szd_lo))) (by first | omega | (repeat (first | omega | apply szd_hi)))) ?_
 refine go [.N,.a,.Z,.R2,.m,.b,.Z] (k := ?_)
 refine cd (fun c1 => ?_) fun c1 => ?_
 ·try simp only [cnd] at c1
  refine go [.R,.a,.Z] (k := ?_)
  refine rt1 2 ?_
  first | rfl | (exfalso; simp_all; done)
 try simp only [cnd] at c1
 have hw : Mk.wt a ≤ 1048576 := by simp only [szd] at c1; omega
 refine go [.J,.R,.G,.N] (k := ?_)
 refine sp (Stp.callR rfl (by decide) Tryz.call9 rfl rfl (toArrays_con _ (by first | omega | (simp only [Int.toNat_natCast]; omega) | (simp only [Mk.wt] at *; omega))) (nodup_of rfl) rfl rfl) ?_
 refine go [.N] (k := ?_)
 refine cv Tryz.call18 rfl rfl (ImageAS_con _ hw) ?_
 refine go [.N,.a,.Z,.R,.G] (k := ?_)
 refine sp (Stp.callR rfl (by decide) Tryz.call9 rfl rfl (toArrays_con _ (by first | omega | (simp only [Int.toNat_natCast]; omega) | (simp only [Mk.wt] at *; omega))) (nodup_of rfl) rfl rfl) ?_
 refine go [.N,.A,.N,.s,.Z,.R,.G,.N] (k := ?_)
 refine cv Tryz.call19 rfl rfl (ImageAI_con _ hw) ?_
 refine go [.N,.a,.Z,.R2,.m,.m,.N,.b,.Z] (k := ?_)
 refine AW.cond rfl (fun c2 => (by exfalso; first | (simp at c2; done) | (simp only [decide_eq_true_eq] at c2; omega))) (fun c2 => ?_)
 refine jd (AW.seq (AW.seq ?_))
 refine go [.D [0, 1, 4],.t 0,.G,.t 1,.G,.N] (k := ?_)
 refine a1 2 [0] [1] rfl rfl (Stp.callR rfl (by decide) Tryz.call9 rfl rfl (toArrays_con _ (by first | omega | (simp only [Int.toNat_natCast]; omega) | (simp only [Mk.wt] at *; omega))) (nodup_of rfl) rfl rfl) ?_
 refine go [.N,.g,.G,.N] (k := ?_)
 refine a1 3 [] [2, 0, 1] rfl rfl (Stp.callV rfl (by decide) Tryz.call12 rfl rfl (eqArrays_con _ _)) ?_
 refine go [.N,.t 4,.n,.Z] (k := ?_)
 refine AW.cond rfl (fun c3 => (by exfalso; first | (simp at c3; done) | (simp only [decide_eq_true_eq] at c3; omega))) (fun c3 => ?_)
 refine go [.J,.R,.a,.Z] (k := ?_)
 refine rt1 2 ?_
 first | rfl | (exfalso; simp_all; done)
end Go.Proofs.YtldefnpobjabpaaGreat.VM

