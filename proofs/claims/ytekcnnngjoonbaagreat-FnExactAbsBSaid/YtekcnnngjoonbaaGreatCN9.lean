/- Contracts. No conditions. -/
import Derived.Test.YtekcnnngjoonbaaGreatCN8
set_option linter.all false
set_option maxHeartbeats 8000000
set_option maxRecDepth 10000
namespace Go.Proofs.YtekcnnngjoonbaaGreat.VM
open Go Go.RowKit Go.Proofs
theorem AbsBS_con (a : DNodes) (hw : Mk.wt a ≤ 1048576) : Con Tryz.prog 7 [.g [.v (iv a.Next), .v (iv a.Tick), .h base [], .h (base + 1) [], .h (base + 2) [], .h (base + 3) [], .h (base + 4) [], .h (base + 5) [], .h (base + 6) [], .h (base + 7) [], .h (base + 8) []]] [.rt base .ro (tr a.Progs), .rt (base + 1) .ro (tr a.Procs), .rt (base + 2) .ro (tr a.Ram), .rt (base + 3) .ro (tr a.Heap.Free), .rt (base + 4) .ro (tr a.Opens), .rt (base + 5) .ro (tr a.Pipes), .rt (base + 6) .ro (tr a.Files), .rt (base + 7) .ro (tr a.Ready), .rt (base + 8) .ro (tr a.Out)] (Ret (.g [.v (iv (absB a).Next), .v (iv (absB a).Tick), .h 0 [], .h 1 [], .h 2 [], .h 3 [], .h 4 [], .h 5 [], .h 6 []]) [(0, .row, tr (absB a).Progs), (1, .row, tr (absB a).Procs), (2, .row, tr (absB a).Opens), (3, .row, tr (absB a).Pipes), (4, .row, tr (absB a).Files), (5, .row, tr (absB a).Ready), (6, .row, tr (absB a).Out)]) := by
 refine ob Tryz.func7 Tryz.ntmps7 ?_
 refine sr ?_
 refine bx ?_
 refine nm ?_
 refine sp sA ?_
 refine nl ?_
 refine sr2 ?_
 refine qG ag46 sz46 ?_
 refine nm ?_
 refine cv Tryz.call26 rfl rfl (l16Shape_con a) ?_
 refine nm ?_
 refine qq (Qt.notB rfl) ?_
 refine nc (fun c1 => ?_) fun c1 => ?_
 ·have k1 := c1
  try simp only [cnd] at c1
  have hsh : shapeB a = false := by first | exact c1 | simpa using k1
  refine sr ?_
  refine qq (Qt.build rfl) ?_
  refine ss ?_
  refine nl ?_
  refine AW.weak (Weak.hoist 2 2 902 rfl (by decide) rfl rfl rfl) ?_
  refine AW.rep 902 (tr ([] : List (List DIns))) rfl sim_nil ?_
  refine AW.weak (Weak.hoist 2 3 903 rfl (by decide) rfl rfl rfl) ?_
  refine AW.rep 903 (tr ([] : List DProc)) rfl sim_nil ?_
  refine AW.weak (Weak.hoist 2 4 904 rfl (by decide) rfl rfl rfl) ?_
  refine AW.rep 904 (tr ([] : List DOpen)) rfl sim_nil ?_
  refine AW.weak (Weak.hoist 2 5 905 rfl (by decide) rfl rfl rfl) ?_
  refine AW.rep 905 (tr ([] : List DPipe)) rfl sim_nil ?_
  refine AW.weak (Weak.hoist 2 6 906 rfl (by decide) rfl rfl rfl) ?_
  refine AW.rep 906 (tr ([] : List DFile)) rfl sim_nil ?_
  refine AW.weak (Weak.hoist 2 7 907 rfl (by decide) rfl rfl rfl) ?_
  refine AW.rep 907 (tr ([] : List Int)) rfl sim_nil ?_
  refine AW.weak (Weak.hoist 2 8 908 rfl (by decide) rfl rfl rfl) ?_
  refine AW.rep 908 (tr ([] : List Int)) rfl sim_nil ?_
  refine AW.ret (endQ_ret (.cons (.cellG 2 40 rfl rfl rfl ag40 sz40 (by decide)) .nil) ?_)
  rw [absB_f hsh]
  refine ⟨fun i => if i = 0 then 902 else if i = 1 then 903 else if i = 2 then 904 else if i = 3 then 905 else if i = 4 then 906 else if i = 5 then 907 else 908, rfl, nodup_of rfl, ?_⟩
  intro r hr
  simp only [List.mem_cons, List.not_mem_nil, or_false] at hr
  rcases hr with rfl | rfl | rfl | rfl | rfl | rfl | rfl <;> exact ⟨by simp, rootL_mem rfl⟩
 have k1 := c1
 try simp only [cnd] at c1
 have hsh : shapeB a = true := by first | exact c1 | simpa using k1
 refine jd (sr ?_)
 refine qG ag46 sz46 ?_
 refine nm ?_
 refine sp (Stp.callR rfl (by decide) Tryz.call27 rfl rfl (l16Abs_con a (shpB hsh) hw) (nodup_of rfl) rfl rfl) ?_
 refine nm ?_
 refine ss ?_
 refine nl ?_
 refine AW.ret (endQ_ret (.cons (.cellG 2 40 rfl rfl rfl ag40 sz40 (by decide)) .nil) ?_)
 rw [absB_t hsh]
 refine ⟨fun i => if i = 0 then 8 else if i = 1 then 1008 else if i = 2 then 2008 else if i = 3 then 3008 else if i = 4 then 4008 else if i = 5 then 5008 else 6008, rfl, nodup_of rfl, ?_⟩
 intro r hr
 simp only [List.mem_cons, List.not_mem_nil, or_false] at hr
 rcases hr with rfl | rfl | rfl | rfl | rfl | rfl | rfl <;> exact ⟨by simp, rootL_mem rfl⟩
end Go.Proofs.YtekcnnngjoonbaaGreat.VM
