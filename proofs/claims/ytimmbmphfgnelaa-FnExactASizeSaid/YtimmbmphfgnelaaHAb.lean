/- Contracts of functions of the program. No conditions beyond those that each states. -/
import Derived.Test.YtimmbmphfgnelaaHAa
set_option linter.all false
namespace Go.Proofs.Ytimmbmphfgnelaa.VM
open Go Go.RowKit Go.Proofs
set_option maxHeartbeats 8000000 in
set_option maxRecDepth 10000 in
theorem toArrays_con (a : DArrays) (hw : Mk.wt a ≤ 1048576) : Con Try.prog 15 [.g [.v (iv a.Next), .v (iv a.Tick), .h base [], .h (base + 1) [], .h (base + 2) [], .h (base + 3) [], .h (base + 4) [], .h (base + 5) [], .h (base + 6) [], .v (.bool a.Ready.Used), .h (base + 7) [], .v (iv a.Ready.Head), .v (iv a.Ready.Len), .h (base + 8) []]] [.rt base .ro (tr a.Progs), .rt (base + 1) .ro (tr a.Slots), .rt (base + 2) .ro (tr a.Ram), .rt (base + 3) .ro (tr a.Map), .rt (base + 4) .ro (tr a.Opens), .rt (base + 5) .ro (tr a.Pipes), .rt (base + 6) .ro (tr a.Files), .rt (base + 7) .ro (tr a.Ready.Buf), .rt (base + 8) .ro (tr a.Out)] (Ret (.g [.v (iv a.Next), .v (iv a.Tick), .h 0 [], .h 1 [], .h 2 [], .h 3 [], .h 4 [], .h 5 [], .h 6 [], .v (.bool a.Ready.Used), .h 7 [], .v (iv a.Ready.Head), .v (iv a.Ready.Len), .h 8 []]) [(0, .row, tr a.Progs), (1, .row, tr a.Slots), (2, .row, tr a.Ram), (3, .row, tr a.Map), (4, .row, tr a.Opens), (5, .row, tr a.Pipes), (6, .row, tr a.Files), (7, .row, tr a.Ready.Buf), (8, .row, tr a.Out)]) := by
  refine Con.of_body Try.func15 rfl (by simp) ?_
  rw [Try.ntmps15]
  refine AW.seq ?_
  refine AW.region ?_
  refine AWL.step rfl rfl (Stp.boxB rfl (by decide) (by decide) rfl rfl rfl rfl) ?_
  refine AWL.nrm (by simp only [go_sem, Int.reduceToNat, Nat.reduceLT, reduceIte, Nat.reduceEqDiff, Nat.reduceAdd, Nat.reduceMul, Nat.reduceBEq, reduceCtorEq]; rfl) ?_
  refine AWL.step rfl rfl (Stp.alloc rfl (by decide) (by decide)) ?_
  refine AWL.nilE (by simp only [go_sem, Int.reduceToNat, Nat.reduceLT, reduceIte, Nat.reduceEqDiff, Nat.reduceAdd, Nat.reduceMul, Nat.reduceBEq, reduceCtorEq]; rfl) ?_
  try dsimp only [thenQ, blockQ]
  refine AW.seq ?_
  refine AW.region ?_
  refine AWL.step rfl rfl (Stp.alloc rfl (by decide) (by decide)) ?_
  refine AWL.nilE (by simp only [go_sem, Int.reduceToNat, Nat.reduceLT, reduceIte, Nat.reduceEqDiff, Nat.reduceAdd, Nat.reduceMul, Nat.reduceBEq, reduceCtorEq]; rfl) ?_
  try dsimp only [thenQ, blockQ]
  refine AW.seq ?_
  refine AW.region ?_
  refine AWL.q rfl rfl rfl (by decide) (Qt.fieldAddr rfl fl54_0 rfl rfl (by decide)) ?_
  refine AWL.nrm (by simp only [go_sem, Int.reduceToNat, Nat.reduceLT, reduceIte, Nat.reduceEqDiff, Nat.reduceAdd, Nat.reduceMul, Nat.reduceBEq, reduceCtorEq]; rfl) ?_
  refine AWL.q rfl rfl rfl (by decide) (Qt.load1 rfl rfl rfl ag3) ?_
  refine AWL.q rfl rfl rfl (by decide) (Qt.fieldAddr rfl fl63_0 rfl rfl (by decide)) ?_
  refine AWL.step rfl rfl (by first | exact Stp.storeA rfl rfl rfl rfl (by decide) rfl | exact Stp.store rfl rfl (by simp) rfl rfl rfl (by decide) rfl) ?_
  refine AWL.nilE (by simp only [go_sem, Int.reduceToNat, Nat.reduceLT, reduceIte, Nat.reduceEqDiff, Nat.reduceAdd, Nat.reduceMul, Nat.reduceBEq, reduceCtorEq]; rfl) ?_
  try dsimp only [thenQ, blockQ]
  refine AW.seq ?_
  refine AW.region ?_
  refine AWL.q rfl rfl rfl (by decide) (Qt.fieldAddr rfl fl54_1 rfl rfl (by decide)) ?_
  refine AWL.nrm (by simp only [go_sem, Int.reduceToNat, Nat.reduceLT, reduceIte, Nat.reduceEqDiff, Nat.reduceAdd, Nat.reduceMul, Nat.reduceBEq, reduceCtorEq]; rfl) ?_
  refine AWL.q rfl rfl rfl (by decide) (Qt.load1 rfl rfl rfl ag3) ?_
  refine AWL.q rfl rfl rfl (by decide) (Qt.fieldAddr rfl fl63_1 rfl rfl (by decide)) ?_
  refine AWL.step rfl rfl (by first | exact Stp.storeA rfl rfl rfl rfl (by decide) rfl | exact Stp.store rfl rfl (by simp) rfl rfl rfl (by decide) rfl) ?_
  refine AWL.nilE (by simp only [go_sem, Int.reduceToNat, Nat.reduceLT, reduceIte, Nat.reduceEqDiff, Nat.reduceAdd, Nat.reduceMul, Nat.reduceBEq, reduceCtorEq]; rfl) ?_
  try dsimp only [thenQ, blockQ]
  refine AW.seq ?_
  refine AW.region ?_
  refine AWL.q rfl rfl rfl (by decide) (Qt.fieldAddr rfl fl54_2 rfl rfl (by decide)) ?_
  refine AWL.nrm (by simp only [go_sem, Int.reduceToNat, Nat.reduceLT, reduceIte, Nat.reduceEqDiff, Nat.reduceAdd, Nat.reduceMul, Nat.reduceBEq, reduceCtorEq]; rfl) ?_
  refine AWL.q rfl rfl rfl (by decide) (Qt.load1 rfl rfl rfl ag22) ?_
  refine AWL.step rfl rfl (Stp.callR rfl (by decide) Try.call20 rfl rfl (toInsSS_con _ (by first | omega | (simp only [Int.toNat_natCast]; omega) | (simp only [Mk.wt] at *; omega))) (nodup_of rfl) rfl rfl) ?_
  refine AWL.nrm (by simp only [go_sem, Int.reduceToNat, Nat.reduceLT, reduceIte, Nat.reduceEqDiff, Nat.reduceAdd, Nat.reduceMul, Nat.reduceBEq, reduceCtorEq]; rfl) ?_
  refine AWL.q rfl rfl rfl (by decide) (Qt.fieldAddr rfl fl63_2 rfl rfl (by decide)) ?_
  refine AWL.step rfl rfl (by first | exact Stp.storeA rfl rfl rfl rfl (by decide) rfl | exact Stp.store rfl rfl (by simp) rfl rfl rfl (by decide) rfl) ?_
  refine AWL.nilE (by simp only [go_sem, Int.reduceToNat, Nat.reduceLT, reduceIte, Nat.reduceEqDiff, Nat.reduceAdd, Nat.reduceMul, Nat.reduceBEq, reduceCtorEq]; rfl) ?_
  try dsimp only [thenQ, blockQ]
  refine AW.seq ?_
  refine AW.region ?_
  refine AWL.q rfl rfl rfl (by decide) (Qt.fieldAddr rfl fl54_3 rfl rfl (by decide)) ?_
  refine AWL.nrm (by simp only [go_sem, Int.reduceToNat, Nat.reduceLT, reduceIte, Nat.reduceEqDiff, Nat.reduceAdd, Nat.reduceMul, Nat.reduceBEq, reduceCtorEq]; rfl) ?_
  refine AWL.q rfl rfl rfl (by decide) (Qt.load1 rfl rfl rfl ag46) ?_
  refine AWL.step rfl rfl (Stp.callR rfl (by decide) Try.call60 rfl rfl (toASlotS_con _ (by first | omega | (simp only [Int.toNat_natCast]; omega) | (simp only [Mk.wt] at *; omega))) (nodup_of rfl) rfl rfl) ?_
  refine AWL.nrm (by simp only [go_sem, Int.reduceToNat, Nat.reduceLT, reduceIte, Nat.reduceEqDiff, Nat.reduceAdd, Nat.reduceMul, Nat.reduceBEq, reduceCtorEq]; rfl) ?_
  refine AWL.q rfl rfl rfl (by decide) (Qt.fieldAddr rfl fl63_3 rfl rfl (by decide)) ?_
  refine AWL.step rfl rfl (by first | exact Stp.storeA rfl rfl rfl rfl (by decide) rfl | exact Stp.store rfl rfl (by simp) rfl rfl rfl (by decide) rfl) ?_
  refine AWL.nilE (by simp only [go_sem, Int.reduceToNat, Nat.reduceLT, reduceIte, Nat.reduceEqDiff, Nat.reduceAdd, Nat.reduceMul, Nat.reduceBEq, reduceCtorEq]; rfl) ?_
  try dsimp only [thenQ, blockQ]
  refine AW.seq ?_
  refine AW.region ?_
  refine AWL.q rfl rfl rfl (by decide) (Qt.fieldAddr rfl fl54_4 rfl rfl (by decide)) ?_
  refine AWL.nrm (by simp only [go_sem, Int.reduceToNat, Nat.reduceLT, reduceIte, Nat.reduceEqDiff, Nat.reduceAdd, Nat.reduceMul, Nat.reduceBEq, reduceCtorEq]; rfl) ?_
  refine AWL.q rfl rfl rfl (by decide) (Qt.load1 rfl rfl rfl ag24) ?_
  refine AWL.step rfl rfl (Stp.callR rfl (by decide) Try.call43 rfl rfl (toIntS_con _ (by first | omega | (simp only [Int.toNat_natCast]; omega) | (simp only [Mk.wt] at *; omega))) (nodup_of rfl) rfl rfl) ?_
  refine AWL.nrm (by simp only [go_sem, Int.reduceToNat, Nat.reduceLT, reduceIte, Nat.reduceEqDiff, Nat.reduceAdd, Nat.reduceMul, Nat.reduceBEq, reduceCtorEq]; rfl) ?_
  refine AWL.q rfl rfl rfl (by decide) (Qt.fieldAddr rfl fl63_4 rfl rfl (by decide)) ?_
  refine AWL.step rfl rfl (by first | exact Stp.storeA rfl rfl rfl rfl (by decide) rfl | exact Stp.store rfl rfl (by simp) rfl rfl rfl (by decide) rfl) ?_
  refine AWL.nilE (by simp only [go_sem, Int.reduceToNat, Nat.reduceLT, reduceIte, Nat.reduceEqDiff, Nat.reduceAdd, Nat.reduceMul, Nat.reduceBEq, reduceCtorEq]; rfl) ?_
  try dsimp only [thenQ, blockQ]
  refine AW.seq ?_
  refine AW.region ?_
  refine AWL.q rfl rfl rfl (by decide) (Qt.fieldAddr rfl fl54_5 rfl rfl (by decide)) ?_
  refine AWL.nrm (by simp only [go_sem, Int.reduceToNat, Nat.reduceLT, reduceIte, Nat.reduceEqDiff, Nat.reduceAdd, Nat.reduceMul, Nat.reduceBEq, reduceCtorEq]; rfl) ?_
  refine AWL.q rfl rfl rfl (by decide) (Qt.load1 rfl rfl rfl ag47) ?_
  refine AWL.step rfl rfl (Stp.callR rfl (by decide) Try.call61 rfl rfl (toBoolS_con _ (by first | omega | (simp only [Int.toNat_natCast]; omega) | (simp only [Mk.wt] at *; omega))) (nodup_of rfl) rfl rfl) ?_
  refine AWL.nrm (by simp only [go_sem, Int.reduceToNat, Nat.reduceLT, reduceIte, Nat.reduceEqDiff, Nat.reduceAdd, Nat.reduceMul, Nat.reduceBEq, reduceCtorEq]; rfl) ?_
  refine AWL.q rfl rfl rfl (by decide) (Qt.fieldAddr rfl fl63_5 rfl rfl (by decide)) ?_
  refine AWL.step rfl rfl (by first | exact Stp.storeA rfl rfl rfl rfl (by decide) rfl | exact Stp.store rfl rfl (by simp) rfl rfl rfl (by decide) rfl) ?_
  refine AWL.nilE (by simp only [go_sem, Int.reduceToNat, Nat.reduceLT, reduceIte, Nat.reduceEqDiff, Nat.reduceAdd, Nat.reduceMul, Nat.reduceBEq, reduceCtorEq]; rfl) ?_
  try dsimp only [thenQ, blockQ]
  refine AW.seq ?_
  refine AW.region ?_
  refine AWL.q rfl rfl rfl (by decide) (Qt.fieldAddr rfl fl54_6 rfl rfl (by decide)) ?_
  refine AWL.nrm (by simp only [go_sem, Int.reduceToNat, Nat.reduceLT, reduceIte, Nat.reduceEqDiff, Nat.reduceAdd, Nat.reduceMul, Nat.reduceBEq, reduceCtorEq]; rfl) ?_
  refine AWL.q rfl rfl rfl (by decide) (Qt.load1 rfl rfl rfl ag48) ?_
  refine AWL.step rfl rfl (Stp.callR rfl (by decide) Try.call62 rfl rfl (toAOpenS_con _ (by first | omega | (simp only [Int.toNat_natCast]; omega) | (simp only [Mk.wt] at *; omega))) (nodup_of rfl) rfl rfl) ?_
  refine AWL.nrm (by simp only [go_sem, Int.reduceToNat, Nat.reduceLT, reduceIte, Nat.reduceEqDiff, Nat.reduceAdd, Nat.reduceMul, Nat.reduceBEq, reduceCtorEq]; rfl) ?_
  refine AWL.q rfl rfl rfl (by decide) (Qt.fieldAddr rfl fl63_6 rfl rfl (by decide)) ?_
  refine AWL.step rfl rfl (by first | exact Stp.storeA rfl rfl rfl rfl (by decide) rfl | exact Stp.store rfl rfl (by simp) rfl rfl rfl (by decide) rfl) ?_
  refine AWL.nilE (by simp only [go_sem, Int.reduceToNat, Nat.reduceLT, reduceIte, Nat.reduceEqDiff, Nat.reduceAdd, Nat.reduceMul, Nat.reduceBEq, reduceCtorEq]; rfl) ?_
  try dsimp only [thenQ, blockQ]
  refine AW.seq ?_
  refine AW.region ?_
  refine AWL.q rfl rfl rfl (by decide) (Qt.fieldAddr rfl fl54_7 rfl rfl (by decide)) ?_
  refine AWL.nrm (by simp only [go_sem, Int.reduceToNat, Nat.reduceLT, reduceIte, Nat.reduceEqDiff, Nat.reduceAdd, Nat.reduceMul, Nat.reduceBEq, reduceCtorEq]; rfl) ?_
  refine AWL.q rfl rfl rfl (by decide) (Qt.load1 rfl rfl rfl ag49) ?_
  refine AWL.step rfl rfl (Stp.callR rfl (by decide) Try.call63 rfl rfl (toARingS_con _ (by first | omega | (simp only [Int.toNat_natCast]; omega) | (simp only [Mk.wt] at *; omega))) (nodup_of rfl) rfl rfl) ?_
  refine AWL.nrm (by simp only [go_sem, Int.reduceToNat, Nat.reduceLT, reduceIte, Nat.reduceEqDiff, Nat.reduceAdd, Nat.reduceMul, Nat.reduceBEq, reduceCtorEq]; rfl) ?_
  refine AWL.q rfl rfl rfl (by decide) (Qt.fieldAddr rfl fl63_7 rfl rfl (by decide)) ?_
  refine AWL.step rfl rfl (by first | exact Stp.storeA rfl rfl rfl rfl (by decide) rfl | exact Stp.store rfl rfl (by simp) rfl rfl rfl (by decide) rfl) ?_
  refine AWL.nilE (by simp only [go_sem, Int.reduceToNat, Nat.reduceLT, reduceIte, Nat.reduceEqDiff, Nat.reduceAdd, Nat.reduceMul, Nat.reduceBEq, reduceCtorEq]; rfl) ?_
  try dsimp only [thenQ, blockQ]
  refine AW.seq ?_
  refine AW.region ?_
  refine AWL.q rfl rfl rfl (by decide) (Qt.fieldAddr rfl fl54_8 rfl rfl (by decide)) ?_
  refine AWL.nrm (by simp only [go_sem, Int.reduceToNat, Nat.reduceLT, reduceIte, Nat.reduceEqDiff, Nat.reduceAdd, Nat.reduceMul, Nat.reduceBEq, reduceCtorEq]; rfl) ?_
  refine AWL.q rfl rfl rfl (by decide) (Qt.load1 rfl rfl rfl ag50) ?_
  refine AWL.step rfl rfl (Stp.callR rfl (by decide) Try.call64 rfl rfl (toAFileS_con _ (by first | omega | (simp only [Int.toNat_natCast]; omega) | (simp only [Mk.wt] at *; omega))) (nodup_of rfl) rfl rfl) ?_
  refine AWL.nrm (by simp only [go_sem, Int.reduceToNat, Nat.reduceLT, reduceIte, Nat.reduceEqDiff, Nat.reduceAdd, Nat.reduceMul, Nat.reduceBEq, reduceCtorEq]; rfl) ?_
  refine AWL.q rfl rfl rfl (by decide) (Qt.fieldAddr rfl fl63_8 rfl rfl (by decide)) ?_
  refine AWL.step rfl rfl (by first | exact Stp.storeA rfl rfl rfl rfl (by decide) rfl | exact Stp.store rfl rfl (by simp) rfl rfl rfl (by decide) rfl) ?_
  refine AWL.nilE (by simp only [go_sem, Int.reduceToNat, Nat.reduceLT, reduceIte, Nat.reduceEqDiff, Nat.reduceAdd, Nat.reduceMul, Nat.reduceBEq, reduceCtorEq]; rfl) ?_
  try dsimp only [thenQ, blockQ]
  refine AW.seq ?_
  refine AW.region ?_
  refine AWL.q rfl rfl rfl (by decide) (Qt.fieldAddr rfl fl54_9 rfl rfl (by decide)) ?_
  refine AWL.nrm (by simp only [go_sem, Int.reduceToNat, Nat.reduceLT, reduceIte, Nat.reduceEqDiff, Nat.reduceAdd, Nat.reduceMul, Nat.reduceBEq, reduceCtorEq]; rfl) ?_
  refine AWL.q rfl rfl rfl (by decide) (Qt.loadG rfl rfl rfl ag52 sz52 (by decide)) ?_
  refine AWL.step rfl rfl (Stp.callR rfl (by decide) Try.call65 rfl rfl (toARing_con _ (by first | omega | (simp only [Int.toNat_natCast]; omega) | (simp only [Mk.wt] at *; omega))) (nodup_of rfl) rfl rfl) ?_
  refine AWL.nrm (by simp only [go_sem, Int.reduceToNat, Nat.reduceLT, reduceIte, Nat.reduceEqDiff, Nat.reduceAdd, Nat.reduceMul, Nat.reduceBEq, reduceCtorEq]; rfl) ?_
  refine AWL.q rfl rfl rfl (by decide) (Qt.fieldAddr rfl fl63_9 rfl rfl (by decide)) ?_
  refine AWL.step rfl rfl (by first | exact Stp.storeA rfl rfl rfl rfl (by decide) rfl | exact Stp.store rfl rfl (by simp) rfl rfl rfl (by decide) rfl) ?_
  refine AWL.nilE (by simp only [go_sem, Int.reduceToNat, Nat.reduceLT, reduceIte, Nat.reduceEqDiff, Nat.reduceAdd, Nat.reduceMul, Nat.reduceBEq, reduceCtorEq]; rfl) ?_
  try dsimp only [thenQ, blockQ]
  refine AW.seq ?_
  refine AW.region ?_
  refine AWL.q rfl rfl rfl (by decide) (Qt.fieldAddr rfl fl54_10 rfl rfl (by decide)) ?_
  refine AWL.nrm (by simp only [go_sem, Int.reduceToNat, Nat.reduceLT, reduceIte, Nat.reduceEqDiff, Nat.reduceAdd, Nat.reduceMul, Nat.reduceBEq, reduceCtorEq]; rfl) ?_
  refine AWL.q rfl rfl rfl (by decide) (Qt.load1 rfl rfl rfl ag24) ?_
  refine AWL.step rfl rfl (Stp.callR rfl (by decide) Try.call43 rfl rfl (toIntS_con _ (by first | omega | (simp only [Int.toNat_natCast]; omega) | (simp only [Mk.wt] at *; omega))) (nodup_of rfl) rfl rfl) ?_
  refine AWL.nrm (by simp only [go_sem, Int.reduceToNat, Nat.reduceLT, reduceIte, Nat.reduceEqDiff, Nat.reduceAdd, Nat.reduceMul, Nat.reduceBEq, reduceCtorEq]; rfl) ?_
  refine AWL.q rfl rfl rfl (by decide) (Qt.fieldAddr rfl fl63_10 rfl rfl (by decide)) ?_
  refine AWL.step rfl rfl (by first | exact Stp.storeA rfl rfl rfl rfl (by decide) rfl | exact Stp.store rfl rfl (by simp) rfl rfl rfl (by decide) rfl) ?_
  refine AWL.nilE (by simp only [go_sem, Int.reduceToNat, Nat.reduceLT, reduceIte, Nat.reduceEqDiff, Nat.reduceAdd, Nat.reduceMul, Nat.reduceBEq, reduceCtorEq]; rfl) ?_
  try dsimp only [thenQ, blockQ]
  refine AW.seq ?_
  refine AW.region ?_
  refine AWL.q rfl rfl rfl (by decide) (Qt.loadG rfl rfl rfl ag63 sz63 (by decide)) ?_
  refine AWL.nrm (by simp only [go_sem, Int.reduceToNat, Nat.reduceLT, reduceIte, Nat.reduceEqDiff, Nat.reduceAdd, Nat.reduceMul, Nat.reduceBEq, reduceCtorEq]; rfl) ?_
  refine AWL.step rfl rfl (by first | exact Stp.storeA rfl rfl rfl rfl (by decide) rfl | exact Stp.store rfl rfl (by simp) rfl rfl rfl (by decide) rfl) ?_
  refine AWL.nilE (by simp only [go_sem, Int.reduceToNat, Nat.reduceLT, reduceIte, Nat.reduceEqDiff, Nat.reduceAdd, Nat.reduceMul, Nat.reduceBEq, reduceCtorEq]; rfl) ?_
  try dsimp only [thenQ, blockQ]
  refine AW.ret ?_
  try dsimp only [thenQ, blockQ]
  refine endQ_ret (.cons (.cellG 2 63 rfl rfl rfl ag63 sz63 (by decide)) .nil) ?_
  refine ⟨fun i => if i = 0 then 12 else if i = 1 then 16 else if i = 2 then 20 else if i = 3 then 24 else if i = 4 then 28 else if i = 5 then 32 else if i = 6 then 36 else if i = 7 then 40 else 44, rfl, nodup_of rfl, ?_⟩
  intro r hr
  simp only [List.mem_cons, List.not_mem_nil, or_false] at hr
  rcases hr with rfl | rfl | rfl | rfl | rfl | rfl | rfl | rfl | rfl <;> exact ⟨by simp, rootL_mem rfl⟩
set_option maxHeartbeats 8000000 in
set_option maxRecDepth 10000 in
theorem eqIns_con (a b : DIns) : Con Try.prog 170 [.g [.v (iv a.Op), .v (iv a.A), .v (iv a.B), .v (iv a.C)], .g [.v (iv b.Op), .v (iv b.A), .v (iv b.B), .v (iv b.C)]] [] (fun y _ => y = .v (.bool (decide (a = b)))) := by
  refine Con.of_body Try.func170 rfl (by simp) ?_
  rw [Try.ntmps170]
  refine AW.seq ?_
  refine AW.region ?_
  refine AWL.step rfl rfl (Stp.boxB rfl (by decide) (by decide) rfl rfl rfl rfl) ?_
  refine AWL.nrm (by simp only [go_sem, Int.reduceToNat, Nat.reduceLT, reduceIte, Nat.reduceEqDiff, Nat.reduceAdd, Nat.reduceMul, Nat.reduceBEq, reduceCtorEq]; rfl) ?_
  refine AWL.step rfl rfl (Stp.boxB rfl (by decide) (by decide) rfl rfl rfl rfl) ?_
  refine AWL.nrm (by simp only [go_sem, Int.reduceToNat, Nat.reduceLT, reduceIte, Nat.reduceEqDiff, Nat.reduceAdd, Nat.reduceMul, Nat.reduceBEq, reduceCtorEq]; rfl) ?_
  refine AWL.q rfl rfl rfl (by decide) Qt.assign ?_
  refine AWL.nilE (by simp only [go_sem, Int.reduceToNat, Nat.reduceLT, reduceIte, Nat.reduceEqDiff, Nat.reduceAdd, Nat.reduceMul, Nat.reduceBEq, reduceCtorEq]; rfl) ?_
  try dsimp only [thenQ, blockQ]
  refine AW.seq ?_
  refine AW.seq ?_
  refine AW.region ?_
  refine AWL.q rfl rfl rfl (by decide) (Qt.fieldAddr rfl fl218_0 rfl rfl (by decide)) ?_
  refine AWL.q rfl rfl rfl (by decide) (Qt.load1 rfl rfl rfl ag3) ?_
  refine AWL.nrm (by simp only [go_sem, Int.reduceToNat, Nat.reduceLT, reduceIte, Nat.reduceEqDiff, Nat.reduceAdd, Nat.reduceMul, Nat.reduceBEq, reduceCtorEq]; rfl) ?_
  refine AWL.q rfl rfl rfl (by decide) (Qt.fieldAddr rfl fl218_0 rfl rfl (by decide)) ?_
  refine AWL.q rfl rfl rfl (by decide) (Qt.load1 rfl rfl rfl ag3) ?_
  refine AWL.q rfl rfl rfl (by decide) (Qt.binOp rfl rfl rfl) ?_
  refine AWL.nilE (by simp only [go_sem, Int.reduceToNat, Nat.reduceLT, reduceIte, Nat.reduceEqDiff, Nat.reduceAdd, Nat.reduceMul, Nat.reduceBEq, reduceCtorEq]; rfl) ?_
  try dsimp only [thenQ, blockQ]
  refine AW.cond rfl (fun c1 => ?_) (fun c1 => ?_)
  · have k1 := c1
    try simp only [decide_eq_true_eq, decide_eq_false_iff_not, bne_iff_ne, ne_eq, beq_iff_eq, beq_eq_false_iff_ne, bne_eq_false_iff_eq, Bool.not_eq_true', Bool.not_eq_false', Bool.and_eq_true, Bool.or_eq_true, Bool.and_eq_false_iff, Bool.or_eq_false_iff, Int.not_lt, Int.not_le, Int.toNat_natCast] at c1
    refine AW.seq ?_
    refine AW.region ?_
    refine AWL.q rfl rfl rfl (by decide) Qt.assign ?_
    refine AWL.nilE (by simp only [go_sem, Int.reduceToNat, Nat.reduceLT, reduceIte, Nat.reduceEqDiff, Nat.reduceAdd, Nat.reduceMul, Nat.reduceBEq, reduceCtorEq]; rfl) ?_
    try dsimp only [thenQ, blockQ]
    refine AW.ret ?_
    try dsimp only [thenQ, blockQ]
    refine endQ_ret (.cons (.tmp 4) .nil) ?_
    simp only [retX, slotL, reduceIte, Nat.reduceEqDiff]
    cases a
    cases b
    simp_all
  · have k1 := c1
    try simp only [decide_eq_true_eq, decide_eq_false_iff_not, bne_iff_ne, ne_eq, beq_iff_eq, beq_eq_false_iff_ne, bne_eq_false_iff_eq, Bool.not_eq_true', Bool.not_eq_false', Bool.and_eq_true, Bool.or_eq_true, Bool.and_eq_false_iff, Bool.or_eq_false_iff, Int.not_lt, Int.not_le, Int.toNat_natCast] at c1
    refine AW.skip ?_
    dsimp only [thenQ, blockQ]
    refine AW.seq ?_
    refine AW.seq ?_
    refine AW.region ?_
    refine AWL.q rfl rfl rfl (by decide) (Qt.fieldAddr rfl fl218_1 rfl rfl (by decide)) ?_
    refine AWL.nrm (by simp only [go_sem, Int.reduceToNat, Nat.reduceLT, reduceIte, Nat.reduceEqDiff, Nat.reduceAdd, Nat.reduceMul, Nat.reduceBEq, reduceCtorEq]; rfl) ?_
    refine AWL.q rfl rfl rfl (by decide) (Qt.load1 rfl rfl rfl ag3) ?_
    refine AWL.q rfl rfl rfl (by decide) (Qt.fieldAddr rfl fl218_1 rfl rfl (by decide)) ?_
    refine AWL.q rfl rfl rfl (by decide) (Qt.load1 rfl rfl rfl ag3) ?_
    refine AWL.nrm (by simp only [go_sem, Int.reduceToNat, Nat.reduceLT, reduceIte, Nat.reduceEqDiff, Nat.reduceAdd, Nat.reduceMul, Nat.reduceBEq, reduceCtorEq]; rfl) ?_
    refine AWL.q rfl rfl rfl (by decide) (Qt.binOp rfl rfl rfl) ?_
    refine AWL.nilE (by simp only [go_sem, Int.reduceToNat, Nat.reduceLT, reduceIte, Nat.reduceEqDiff, Nat.reduceAdd, Nat.reduceMul, Nat.reduceBEq, reduceCtorEq]; rfl) ?_
    try dsimp only [thenQ, blockQ]
    refine AW.cond rfl (fun c2 => ?_) (fun c2 => ?_)
    · have k2 := c2
      try simp only [decide_eq_true_eq, decide_eq_false_iff_not, bne_iff_ne, ne_eq, beq_iff_eq, beq_eq_false_iff_ne, bne_eq_false_iff_eq, Bool.not_eq_true', Bool.not_eq_false', Bool.and_eq_true, Bool.or_eq_true, Bool.and_eq_false_iff, Bool.or_eq_false_iff, Int.not_lt, Int.not_le, Int.toNat_natCast] at c2
      refine AW.seq ?_
      refine AW.region ?_
      refine AWL.q rfl rfl rfl (by decide) Qt.assign ?_
      refine AWL.nilE (by simp only [go_sem, Int.reduceToNat, Nat.reduceLT, reduceIte, Nat.reduceEqDiff, Nat.reduceAdd, Nat.reduceMul, Nat.reduceBEq, reduceCtorEq]; rfl) ?_
      try dsimp only [thenQ, blockQ]
      refine AW.ret ?_
      try dsimp only [thenQ, blockQ]
      refine endQ_ret (.cons (.tmp 4) .nil) ?_
      simp only [retX, slotL, reduceIte, Nat.reduceEqDiff]
      cases a
      cases b
      simp_all
    · have k2 := c2
      try simp only [decide_eq_true_eq, decide_eq_false_iff_not, bne_iff_ne, ne_eq, beq_iff_eq, beq_eq_false_iff_ne, bne_eq_false_iff_eq, Bool.not_eq_true', Bool.not_eq_false', Bool.and_eq_true, Bool.or_eq_true, Bool.and_eq_false_iff, Bool.or_eq_false_iff, Int.not_lt, Int.not_le, Int.toNat_natCast] at c2
      refine AW.skip ?_
      dsimp only [thenQ, blockQ]
      refine AW.seq ?_
      refine AW.seq ?_
      refine AW.region ?_
      refine AWL.q rfl rfl rfl (by decide) (Qt.fieldAddr rfl fl218_2 rfl rfl (by decide)) ?_
      refine AWL.nrm (by simp only [go_sem, Int.reduceToNat, Nat.reduceLT, reduceIte, Nat.reduceEqDiff, Nat.reduceAdd, Nat.reduceMul, Nat.reduceBEq, reduceCtorEq]; rfl) ?_
      refine AWL.q rfl rfl rfl (by decide) (Qt.load1 rfl rfl rfl ag3) ?_
      refine AWL.q rfl rfl rfl (by decide) (Qt.fieldAddr rfl fl218_2 rfl rfl (by decide)) ?_
      refine AWL.q rfl rfl rfl (by decide) (Qt.load1 rfl rfl rfl ag3) ?_
      refine AWL.nrm (by simp only [go_sem, Int.reduceToNat, Nat.reduceLT, reduceIte, Nat.reduceEqDiff, Nat.reduceAdd, Nat.reduceMul, Nat.reduceBEq, reduceCtorEq]; rfl) ?_
      refine AWL.q rfl rfl rfl (by decide) (Qt.binOp rfl rfl rfl) ?_
      refine AWL.nilE (by simp only [go_sem, Int.reduceToNat, Nat.reduceLT, reduceIte, Nat.reduceEqDiff, Nat.reduceAdd, Nat.reduceMul, Nat.reduceBEq, reduceCtorEq]; rfl) ?_
      try dsimp only [thenQ, blockQ]
      refine AW.cond rfl (fun c3 => ?_) (fun c3 => ?_)
      · have k3 := c3
        try simp only [decide_eq_true_eq, decide_eq_false_iff_not, bne_iff_ne, ne_eq, beq_iff_eq, beq_eq_false_iff_ne, bne_eq_false_iff_eq, Bool.not_eq_true', Bool.not_eq_false', Bool.and_eq_true, Bool.or_eq_true, Bool.and_eq_false_iff, Bool.or_eq_false_iff, Int.not_lt, Int.not_le, Int.toNat_natCast] at c3
        refine AW.seq ?_
        refine AW.region ?_
        refine AWL.q rfl rfl rfl (by decide) Qt.assign ?_
        refine AWL.nilE (by simp only [go_sem, Int.reduceToNat, Nat.reduceLT, reduceIte, Nat.reduceEqDiff, Nat.reduceAdd, Nat.reduceMul, Nat.reduceBEq, reduceCtorEq]; rfl) ?_
        try dsimp only [thenQ, blockQ]
        refine AW.ret ?_
        try dsimp only [thenQ, blockQ]
        refine endQ_ret (.cons (.tmp 4) .nil) ?_
        simp only [retX, slotL, reduceIte, Nat.reduceEqDiff]
        cases a
        cases b
        simp_all
      · have k3 := c3
        try simp only [decide_eq_true_eq, decide_eq_false_iff_not, bne_iff_ne, ne_eq, beq_iff_eq, beq_eq_false_iff_ne, bne_eq_false_iff_eq, Bool.not_eq_true', Bool.not_eq_false', Bool.and_eq_true, Bool.or_eq_true, Bool.and_eq_false_iff, Bool.or_eq_false_iff, Int.not_lt, Int.not_le, Int.toNat_natCast] at c3
        refine AW.skip ?_
        dsimp only [thenQ, blockQ]
        refine AW.seq ?_
        refine AW.seq ?_
        refine AW.region ?_
        refine AWL.q rfl rfl rfl (by decide) (Qt.fieldAddr rfl fl218_3 rfl rfl (by decide)) ?_
        refine AWL.nrm (by simp only [go_sem, Int.reduceToNat, Nat.reduceLT, reduceIte, Nat.reduceEqDiff, Nat.reduceAdd, Nat.reduceMul, Nat.reduceBEq, reduceCtorEq]; rfl) ?_
        refine AWL.q rfl rfl rfl (by decide) (Qt.load1 rfl rfl rfl ag3) ?_
        refine AWL.q rfl rfl rfl (by decide) (Qt.fieldAddr rfl fl218_3 rfl rfl (by decide)) ?_
        refine AWL.q rfl rfl rfl (by decide) (Qt.load1 rfl rfl rfl ag3) ?_
        refine AWL.nrm (by simp only [go_sem, Int.reduceToNat, Nat.reduceLT, reduceIte, Nat.reduceEqDiff, Nat.reduceAdd, Nat.reduceMul, Nat.reduceBEq, reduceCtorEq]; rfl) ?_
        refine AWL.q rfl rfl rfl (by decide) (Qt.binOp rfl rfl rfl) ?_
        refine AWL.nilE (by simp only [go_sem, Int.reduceToNat, Nat.reduceLT, reduceIte, Nat.reduceEqDiff, Nat.reduceAdd, Nat.reduceMul, Nat.reduceBEq, reduceCtorEq]; rfl) ?_
        try dsimp only [thenQ, blockQ]
        refine AW.cond rfl (fun c4 => ?_) (fun c4 => ?_)
        · have k4 := c4
          try simp only [decide_eq_true_eq, decide_eq_false_iff_not, bne_iff_ne, ne_eq, beq_iff_eq, beq_eq_false_iff_ne, bne_eq_false_iff_eq, Bool.not_eq_true', Bool.not_eq_false', Bool.and_eq_true, Bool.or_eq_true, Bool.and_eq_false_iff, Bool.or_eq_false_iff, Int.not_lt, Int.not_le, Int.toNat_natCast] at c4
          refine AW.seq ?_
          refine AW.region ?_
          refine AWL.q rfl rfl rfl (by decide) Qt.assign ?_
          refine AWL.nilE (by simp only [go_sem, Int.reduceToNat, Nat.reduceLT, reduceIte, Nat.reduceEqDiff, Nat.reduceAdd, Nat.reduceMul, Nat.reduceBEq, reduceCtorEq]; rfl) ?_
          try dsimp only [thenQ, blockQ]
          refine AW.ret ?_
          try dsimp only [thenQ, blockQ]
          refine endQ_ret (.cons (.tmp 4) .nil) ?_
          simp only [retX, slotL, reduceIte, Nat.reduceEqDiff]
          cases a
          cases b
          simp_all
        · have k4 := c4
          try simp only [decide_eq_true_eq, decide_eq_false_iff_not, bne_iff_ne, ne_eq, beq_iff_eq, beq_eq_false_iff_ne, bne_eq_false_iff_eq, Bool.not_eq_true', Bool.not_eq_false', Bool.and_eq_true, Bool.or_eq_true, Bool.and_eq_false_iff, Bool.or_eq_false_iff, Int.not_lt, Int.not_le, Int.toNat_natCast] at c4
          refine AW.skip ?_
          dsimp only [thenQ, blockQ]
          refine AW.seq ?_
          refine AW.region ?_
          refine AWL.q rfl rfl rfl (by decide) Qt.assign ?_
          refine AWL.nilE (by simp only [go_sem, Int.reduceToNat, Nat.reduceLT, reduceIte, Nat.reduceEqDiff, Nat.reduceAdd, Nat.reduceMul, Nat.reduceBEq, reduceCtorEq]; rfl) ?_
          try dsimp only [thenQ, blockQ]
          refine AW.ret ?_
          try dsimp only [thenQ, blockQ]
          refine endQ_ret (.cons (.tmp 4) .nil) ?_
          simp only [retX, slotL, reduceIte, Nat.reduceEqDiff]
          cases a
          cases b
          simp_all
set_option maxHeartbeats 8000000 in
set_option maxRecDepth 10000 in
theorem eqInsS_con (a b : List DIns) : Con Try.prog 85 [.h base [], .h (base + 1) []] [.rt base .ro (tr a), .rt (base + 1) .ro (tr b)] (fun y _ => y = .v (.bool (decide (a = b)))) := by
  refine Con.of_body Try.func85 rfl (by simp) ?_
  rw [Try.ntmps85]
  refine AW.len base [] rfl (by simp [Okp]) rfl (fun hl => ?_)
  refine AW.len (base + 1) [] rfl (by simp [Okp]) rfl (fun hl2 => ?_)
  refine AW.seq ?_
  refine AW.region ?_
  refine AWL.q rfl rfl rfl (by decide) Qt.assign ?_
  refine AWL.nilE (by simp only [go_sem, Int.reduceToNat, Nat.reduceLT, reduceIte, Nat.reduceEqDiff, Nat.reduceAdd, Nat.reduceMul, Nat.reduceBEq, reduceCtorEq]; rfl) ?_
  try dsimp only [thenQ, blockQ]
  refine AW.seq ?_
  refine AW.seq ?_
  refine AW.region ?_
  refine AWL.q rfl rfl rfl (by decide) Qt.move ?_
  refine AWL.q rfl rfl rfl (by decide) (Qt.lenH rfl rfl rfl sl138) ?_
  refine AWL.nrm (by simp only [go_sem, Int.reduceToNat, Nat.reduceLT, reduceIte, Nat.reduceEqDiff, Nat.reduceAdd, Nat.reduceMul, Nat.reduceBEq, reduceCtorEq]; rfl) ?_
  refine AWL.q rfl rfl rfl (by decide) Qt.move ?_
  refine AWL.q rfl rfl rfl (by decide) (Qt.lenH rfl rfl rfl sl138) ?_
  refine AWL.q rfl rfl rfl (by decide) (Qt.binOp rfl rfl rfl) ?_
  refine AWL.nilE (by simp only [go_sem, Int.reduceToNat, Nat.reduceLT, reduceIte, Nat.reduceEqDiff, Nat.reduceAdd, Nat.reduceMul, Nat.reduceBEq, reduceCtorEq]; rfl) ?_
  try dsimp only [thenQ, blockQ]
  refine AW.cond rfl (fun c1 => ?_) (fun c1 => ?_)
  · have k1 := c1
    try simp only [decide_eq_true_eq, decide_eq_false_iff_not, bne_iff_ne, ne_eq, beq_iff_eq, beq_eq_false_iff_ne, bne_eq_false_iff_eq, Bool.not_eq_true', Bool.not_eq_false', Bool.and_eq_true, Bool.or_eq_true, Bool.and_eq_false_iff, Bool.or_eq_false_iff, Int.not_lt, Int.not_le, Int.toNat_natCast] at c1
    refine AW.seq ?_
    refine AW.region ?_
    refine AWL.q rfl rfl rfl (by decide) Qt.assign ?_
    refine AWL.nilE (by simp only [go_sem, Int.reduceToNat, Nat.reduceLT, reduceIte, Nat.reduceEqDiff, Nat.reduceAdd, Nat.reduceMul, Nat.reduceBEq, reduceCtorEq]; rfl) ?_
    try dsimp only [thenQ, blockQ]
    refine AW.ret ?_
    try dsimp only [thenQ, blockQ]
    refine endQ_ret (.cons (.tmp 4) .nil) ?_
    simp only [retX, slotL, reduceIte, Nat.reduceEqDiff]
    rw [decide_eq_false (show a ≠ b from ne_of_len (by omega))]
  · have k1 := c1
    try simp only [decide_eq_true_eq, decide_eq_false_iff_not, bne_iff_ne, ne_eq, beq_iff_eq, beq_eq_false_iff_ne, bne_eq_false_iff_eq, Bool.not_eq_true', Bool.not_eq_false', Bool.and_eq_true, Bool.or_eq_true, Bool.and_eq_false_iff, Bool.or_eq_false_iff, Int.not_lt, Int.not_le, Int.toNat_natCast] at c1
    refine AW.skip ?_
    dsimp only [thenQ, blockQ]
    refine AW.seq ?_
    refine AW.seq ?_
    refine AW.region ?_
    refine AWL.q rfl rfl rfl (by decide) Qt.assign ?_
    refine AWL.nilE (by simp only [go_sem, Int.reduceToNat, Nat.reduceLT, reduceIte, Nat.reduceEqDiff, Nat.reduceAdd, Nat.reduceMul, Nat.reduceBEq, reduceCtorEq]; rfl) ?_
    try dsimp only [thenQ, blockQ]
    refine AW.block ?_
    refine AW.weak (L' := [.sl 5 (.v (iv (0 : Nat))), .sl 0 (.h base []), .sl 1 (.h (base + 1) []), .rt base .ro (tr a), .rt (base + 1) .ro (tr b)]) (Weak.sim ⟨rfl, rfl, rfl, ⟨_, rfl, T.sim_refl _⟩, ⟨_, rfl, T.sim_refl _⟩, trivial⟩ rfl rfl) ?_
    refine AW.loop (fun i : EqInv a b => [.sl 5 (.v (iv i.k)), .sl 0 (.h base []), .sl 1 (.h (base + 1) []), .rt base .ro (tr a), .rt (base + 1) .ro (tr b)]) (fun i => a.length - i.k) ⟨0, Nat.zero_le _, rfl⟩ ?_
    intro i
    have hle := i.le
    refine AW.seq ?_
    refine AW.seq ?_
    refine AW.region ?_
    refine AWL.q rfl rfl rfl (by decide) Qt.move ?_
    refine AWL.nrm (by simp only [go_sem, Int.reduceToNat, Nat.reduceLT, reduceIte, Nat.reduceEqDiff, Nat.reduceAdd, Nat.reduceMul, Nat.reduceBEq, reduceCtorEq]; rfl) ?_
    refine AWL.q rfl rfl rfl (by decide) Qt.move ?_
    refine AWL.q rfl rfl rfl (by decide) (Qt.lenH rfl rfl rfl sl138) ?_
    refine AWL.q rfl rfl rfl (by decide) (Qt.binOp rfl rfl rfl) ?_
    refine AWL.nilE (by simp only [go_sem, Int.reduceToNat, Nat.reduceLT, reduceIte, Nat.reduceEqDiff, Nat.reduceAdd, Nat.reduceMul, Nat.reduceBEq, reduceCtorEq]; rfl) ?_
    try dsimp only [thenQ, blockQ]
    refine AW.cond rfl (fun c2 => ?_) (fun c2 => ?_)
    · have k2 := c2
      try simp only [decide_eq_true_eq, decide_eq_false_iff_not, bne_iff_ne, ne_eq, beq_iff_eq, beq_eq_false_iff_ne, bne_eq_false_iff_eq, Bool.not_eq_true', Bool.not_eq_false', Bool.and_eq_true, Bool.or_eq_true, Bool.and_eq_false_iff, Bool.or_eq_false_iff, Int.not_lt, Int.not_le, Int.toNat_natCast] at c2
      refine AW.skip ?_
      dsimp only [thenQ, blockQ]
      refine AW.seq ?_
      refine AW.block ?_
      refine AW.seq ?_
      refine AW.draw [0, 1, 2, 3, 4, 5, 6, 7, 9] rfl (by decide +kernel) ?_
      refine AWA.take 0 rfl rfl rfl (by decide +kernel) (.on rfl rfl Qt.move) ?_
      refine AWA.nrm (by first | (simp only [go_sem, Int.reduceToNat, Nat.reduceLT, reduceIte, Nat.reduceEqDiff, Nat.reduceAdd, Nat.reduceMul, Nat.reduceBEq, reduceCtorEq]; rfl) | rfl) ?_
      refine AWA.take 1 rfl rfl rfl (by decide +kernel) (.on rfl rfl Qt.move) ?_
      refine AWA.take 2 rfl rfl rfl (by decide +kernel) (.on rfl rfl (Qt.indexAddr rfl rfl rfl rfl sl138 sz218 (by decide) (by omega))) ?_
      refine AWA.take 3 rfl rfl rfl (by decide +kernel) (.on rfl rfl (Qt.loadG rfl rfl rfl ag218 sz218 (by decide))) ?_
      refine AWA.nrm (by first | (simp only [go_sem, Int.reduceToNat, Nat.reduceLT, reduceIte, Nat.reduceEqDiff, Nat.reduceAdd, Nat.reduceMul, Nat.reduceBEq, reduceCtorEq]; rfl) | rfl) ?_
      refine AWA.take 4 rfl rfl rfl (by decide +kernel) (.on rfl rfl Qt.move) ?_
      refine AWA.take 5 rfl rfl rfl (by decide +kernel) (.on rfl rfl Qt.move) ?_
      refine AWA.take 6 rfl rfl rfl (by decide +kernel) (.on rfl rfl (Qt.indexAddr rfl rfl rfl rfl sl138 sz218 (by decide) (by omega))) ?_
      refine AWA.nrm (by first | (simp only [go_sem, Int.reduceToNat, Nat.reduceLT, reduceIte, Nat.reduceEqDiff, Nat.reduceAdd, Nat.reduceMul, Nat.reduceBEq, reduceCtorEq]; rfl) | rfl) ?_
      refine AWA.take 7 rfl rfl rfl (by decide +kernel) (.on rfl rfl (Qt.loadG rfl rfl rfl ag218 sz218 (by decide))) ?_
      refine AWA.one 8 [] [7, 3, 6, 2, 5, 4, 1, 0] (by decide +kernel) rfl rfl rfl (by decide +kernel) (by decide +kernel) (by decide +kernel) (Stp.callV rfl (by decide) Try.call170 rfl rfl (eqIns_con _ _)) ?_
      refine AWA.nrm (by first | (simp only [go_sem, Int.reduceToNat, Nat.reduceLT, reduceIte, Nat.reduceEqDiff, Nat.reduceAdd, Nat.reduceMul, Nat.reduceBEq, reduceCtorEq]; rfl) | rfl) ?_
      refine AWA.nrm (by first | (simp only [go_sem, Int.reduceToNat, Nat.reduceLT, reduceIte, Nat.reduceEqDiff, Nat.reduceAdd, Nat.reduceMul, Nat.reduceBEq, reduceCtorEq]; rfl) | rfl) ?_
      refine AWA.take 9 rfl rfl rfl (by decide +kernel) (.on rfl rfl (Qt.notB rfl)) ?_
      refine AWA.nilE (by decide +kernel) (by first | (simp only [go_sem, Int.reduceToNat, Nat.reduceLT, reduceIte, Nat.reduceEqDiff, Nat.reduceAdd, Nat.reduceMul, Nat.reduceBEq, reduceCtorEq]; rfl) | rfl) ?_
      try dsimp only [thenQ, blockQ]
      refine AW.cond rfl (fun c3 => ?_) (fun c3 => ?_)
      · have k3 := c3
        try simp only [decide_eq_true_eq, decide_eq_false_iff_not, bne_iff_ne, ne_eq, beq_iff_eq, beq_eq_false_iff_ne, bne_eq_false_iff_eq, Bool.not_eq_true', Bool.not_eq_false', Bool.and_eq_true, Bool.or_eq_true, Bool.and_eq_false_iff, Bool.or_eq_false_iff, Int.not_lt, Int.not_le, Int.toNat_natCast] at c3
        refine AW.seq ?_
        refine AW.region ?_
        refine AWL.q rfl rfl rfl (by decide) Qt.assign ?_
        refine AWL.nilE (by simp only [go_sem, Int.reduceToNat, Nat.reduceLT, reduceIte, Nat.reduceEqDiff, Nat.reduceAdd, Nat.reduceMul, Nat.reduceBEq, reduceCtorEq]; rfl) ?_
        try dsimp only [thenQ, blockQ]
        refine AW.ret ?_
        try dsimp only [thenQ, blockQ]
        refine endQ_ret (.cons (.tmp 4) .nil) ?_
        simp only [retX, slotL, reduceIte, Nat.reduceEqDiff]
        rw [decide_eq_false (show a ≠ b from i.stop En.dflt (by simpa using c3))]
      · have k3 := c3
        try simp only [decide_eq_true_eq, decide_eq_false_iff_not, bne_iff_ne, ne_eq, beq_iff_eq, beq_eq_false_iff_ne, bne_eq_false_iff_eq, Bool.not_eq_true', Bool.not_eq_false', Bool.and_eq_true, Bool.or_eq_true, Bool.and_eq_false_iff, Bool.or_eq_false_iff, Int.not_lt, Int.not_le, Int.toNat_natCast] at c3
        refine AW.skip ?_
        dsimp only [thenQ, blockQ]
        refine AW.region ?_
        refine AWL.q rfl rfl rfl (by decide) Qt.move ?_
        refine AWL.nrm (by simp only [go_sem, Int.reduceToNat, Nat.reduceLT, reduceIte, Nat.reduceEqDiff, Nat.reduceAdd, Nat.reduceMul, Nat.reduceBEq, reduceCtorEq]; rfl) ?_
        refine AWL.q rfl rfl rfl (by decide) (Qt.binOp rfl rfl (by first | exact pbAdd (by omega) | rfl)) ?_
        refine AWL.q rfl rfl rfl (by decide) Qt.assign ?_
        refine AWL.nilE (by simp only [go_sem, Int.reduceToNat, Nat.reduceLT, reduceIte, Nat.reduceEqDiff, Nat.reduceAdd, Nat.reduceMul, Nat.reduceBEq, reduceCtorEq]; rfl) ?_
        try dsimp only [thenQ, blockQ]
        refine ⟨⟨i.k + 1, by omega, i.next En.dflt (by omega) (by omega) (by simpa using c3)⟩, Weak.sim ⟨(by simp only [slotL, reduceIte, Nat.reduceEqDiff]; first | rfl | (rw [IntWalk.i64_in _ (by omega)]; rfl)), rfl, rfl, ⟨_, rfl, T.sim_refl _⟩, ⟨_, rfl, T.sim_refl _⟩, trivial⟩ rfl rfl, ?_⟩
        show a.length - (i.k + 1) < a.length - i.k
        omega
    · have k2 := c2
      try simp only [decide_eq_true_eq, decide_eq_false_iff_not, bne_iff_ne, ne_eq, beq_iff_eq, beq_eq_false_iff_ne, bne_eq_false_iff_eq, Bool.not_eq_true', Bool.not_eq_false', Bool.and_eq_true, Bool.or_eq_true, Bool.and_eq_false_iff, Bool.or_eq_false_iff, Int.not_lt, Int.not_le, Int.toNat_natCast] at c2
      refine AW.exit ?_
      dsimp only [thenQ, blockQ, reduceIte]
      refine AW.seq ?_
      refine AW.region ?_
      refine AWL.q rfl rfl rfl (by decide) Qt.assign ?_
      refine AWL.nilE (by simp only [go_sem, Int.reduceToNat, Nat.reduceLT, reduceIte, Nat.reduceEqDiff, Nat.reduceAdd, Nat.reduceMul, Nat.reduceBEq, reduceCtorEq]; rfl) ?_
      try dsimp only [thenQ, blockQ]
      refine AW.ret ?_
      try dsimp only [thenQ, blockQ]
      refine endQ_ret (.cons (.tmp 4) .nil) ?_
      simp only [retX, slotL, reduceIte, Nat.reduceEqDiff]
      rw [decide_eq_true (show a = b from i.full (by omega) (by omega))]
set_option maxHeartbeats 8000000 in
set_option maxRecDepth 10000 in
theorem eqInsSS_con (a b : List (List DIns)) : Con Try.prog 23 [.h base [], .h (base + 1) []] [.rt base .ro (tr a), .rt (base + 1) .ro (tr b)] (fun y _ => y = .v (.bool (decide (a = b)))) := by
  refine Con.of_body Try.func23 rfl (by simp) ?_
  rw [Try.ntmps23]
  refine AW.len base [] rfl (by simp [Okp]) rfl (fun hl => ?_)
  refine AW.len (base + 1) [] rfl (by simp [Okp]) rfl (fun hl2 => ?_)
  refine AW.seq ?_
  refine AW.region ?_
  refine AWL.q rfl rfl rfl (by decide) Qt.assign ?_
  refine AWL.nilE (by simp only [go_sem, Int.reduceToNat, Nat.reduceLT, reduceIte, Nat.reduceEqDiff, Nat.reduceAdd, Nat.reduceMul, Nat.reduceBEq, reduceCtorEq]; rfl) ?_
  try dsimp only [thenQ, blockQ]
  refine AW.seq ?_
  refine AW.seq ?_
  refine AW.region ?_
  refine AWL.q rfl rfl rfl (by decide) Qt.move ?_
  refine AWL.q rfl rfl rfl (by decide) (Qt.lenH rfl rfl rfl sl35) ?_
  refine AWL.nrm (by simp only [go_sem, Int.reduceToNat, Nat.reduceLT, reduceIte, Nat.reduceEqDiff, Nat.reduceAdd, Nat.reduceMul, Nat.reduceBEq, reduceCtorEq]; rfl) ?_
  refine AWL.q rfl rfl rfl (by decide) Qt.move ?_
  refine AWL.q rfl rfl rfl (by decide) (Qt.lenH rfl rfl rfl sl35) ?_
  refine AWL.q rfl rfl rfl (by decide) (Qt.binOp rfl rfl rfl) ?_
  refine AWL.nilE (by simp only [go_sem, Int.reduceToNat, Nat.reduceLT, reduceIte, Nat.reduceEqDiff, Nat.reduceAdd, Nat.reduceMul, Nat.reduceBEq, reduceCtorEq]; rfl) ?_
  try dsimp only [thenQ, blockQ]
  refine AW.cond rfl (fun c1 => ?_) (fun c1 => ?_)
  · have k1 := c1
    try simp only [decide_eq_true_eq, decide_eq_false_iff_not, bne_iff_ne, ne_eq, beq_iff_eq, beq_eq_false_iff_ne, bne_eq_false_iff_eq, Bool.not_eq_true', Bool.not_eq_false', Bool.and_eq_true, Bool.or_eq_true, Bool.and_eq_false_iff, Bool.or_eq_false_iff, Int.not_lt, Int.not_le, Int.toNat_natCast] at c1
    refine AW.seq ?_
    refine AW.region ?_
    refine AWL.q rfl rfl rfl (by decide) Qt.assign ?_
    refine AWL.nilE (by simp only [go_sem, Int.reduceToNat, Nat.reduceLT, reduceIte, Nat.reduceEqDiff, Nat.reduceAdd, Nat.reduceMul, Nat.reduceBEq, reduceCtorEq]; rfl) ?_
    try dsimp only [thenQ, blockQ]
    refine AW.ret ?_
    try dsimp only [thenQ, blockQ]
    refine endQ_ret (.cons (.tmp 4) .nil) ?_
    simp only [retX, slotL, reduceIte, Nat.reduceEqDiff]
    rw [decide_eq_false (show a ≠ b from ne_of_len (by omega))]
  · have k1 := c1
    try simp only [decide_eq_true_eq, decide_eq_false_iff_not, bne_iff_ne, ne_eq, beq_iff_eq, beq_eq_false_iff_ne, bne_eq_false_iff_eq, Bool.not_eq_true', Bool.not_eq_false', Bool.and_eq_true, Bool.or_eq_true, Bool.and_eq_false_iff, Bool.or_eq_false_iff, Int.not_lt, Int.not_le, Int.toNat_natCast] at c1
    refine AW.skip ?_
    dsimp only [thenQ, blockQ]
    refine AW.seq ?_
    refine AW.seq ?_
    refine AW.region ?_
    refine AWL.q rfl rfl rfl (by decide) Qt.assign ?_
    refine AWL.nilE (by simp only [go_sem, Int.reduceToNat, Nat.reduceLT, reduceIte, Nat.reduceEqDiff, Nat.reduceAdd, Nat.reduceMul, Nat.reduceBEq, reduceCtorEq]; rfl) ?_
    try dsimp only [thenQ, blockQ]
    refine AW.block ?_
    refine AW.weak (L' := [.sl 5 (.v (iv (0 : Nat))), .sl 0 (.h base []), .sl 1 (.h (base + 1) []), .rt base .ro (tr a), .rt (base + 1) .ro (tr b)]) (Weak.sim ⟨rfl, rfl, rfl, ⟨_, rfl, T.sim_refl _⟩, ⟨_, rfl, T.sim_refl _⟩, trivial⟩ rfl rfl) ?_
    refine AW.loop (fun i : EqInv a b => [.sl 5 (.v (iv i.k)), .sl 0 (.h base []), .sl 1 (.h (base + 1) []), .rt base .ro (tr a), .rt (base + 1) .ro (tr b)]) (fun i => a.length - i.k) ⟨0, Nat.zero_le _, rfl⟩ ?_
    intro i
    have hle := i.le
    refine AW.seq ?_
    refine AW.seq ?_
    refine AW.region ?_
    refine AWL.q rfl rfl rfl (by decide) Qt.move ?_
    refine AWL.nrm (by simp only [go_sem, Int.reduceToNat, Nat.reduceLT, reduceIte, Nat.reduceEqDiff, Nat.reduceAdd, Nat.reduceMul, Nat.reduceBEq, reduceCtorEq]; rfl) ?_
    refine AWL.q rfl rfl rfl (by decide) Qt.move ?_
    refine AWL.q rfl rfl rfl (by decide) (Qt.lenH rfl rfl rfl sl35) ?_
    refine AWL.q rfl rfl rfl (by decide) (Qt.binOp rfl rfl rfl) ?_
    refine AWL.nilE (by simp only [go_sem, Int.reduceToNat, Nat.reduceLT, reduceIte, Nat.reduceEqDiff, Nat.reduceAdd, Nat.reduceMul, Nat.reduceBEq, reduceCtorEq]; rfl) ?_
    try dsimp only [thenQ, blockQ]
    refine AW.cond rfl (fun c2 => ?_) (fun c2 => ?_)
    · have k2 := c2
      try simp only [decide_eq_true_eq, decide_eq_false_iff_not, bne_iff_ne, ne_eq, beq_iff_eq, beq_eq_false_iff_ne, bne_eq_false_iff_eq, Bool.not_eq_true', Bool.not_eq_false', Bool.and_eq_true, Bool.or_eq_true, Bool.and_eq_false_iff, Bool.or_eq_false_iff, Int.not_lt, Int.not_le, Int.toNat_natCast] at c2
      refine AW.skip ?_
      dsimp only [thenQ, blockQ]
      refine AW.seq ?_
      refine AW.block ?_
      refine AW.seq ?_
      refine AW.draw [0, 1, 2, 3, 4, 5, 6, 7, 9] rfl (by decide +kernel) ?_
      refine AWA.take 0 rfl rfl rfl (by decide +kernel) (.on rfl rfl Qt.move) ?_
      refine AWA.nrm (by first | (simp only [go_sem, Int.reduceToNat, Nat.reduceLT, reduceIte, Nat.reduceEqDiff, Nat.reduceAdd, Nat.reduceMul, Nat.reduceBEq, reduceCtorEq]; rfl) | rfl) ?_
      refine AWA.take 1 rfl rfl rfl (by decide +kernel) (.on rfl rfl Qt.move) ?_
      refine AWA.take 2 rfl rfl rfl (by decide +kernel) (.on rfl rfl (Qt.indexAddr rfl rfl rfl rfl sl35 sz138 (by decide) (by omega))) ?_
      refine AWA.take 3 rfl rfl rfl (by decide +kernel) (.on rfl rfl (Qt.load1 rfl rfl rfl ag138)) ?_
      refine AWA.nrm (by first | (simp only [go_sem, Int.reduceToNat, Nat.reduceLT, reduceIte, Nat.reduceEqDiff, Nat.reduceAdd, Nat.reduceMul, Nat.reduceBEq, reduceCtorEq]; rfl) | rfl) ?_
      refine AWA.take 4 rfl rfl rfl (by decide +kernel) (.on rfl rfl Qt.move) ?_
      refine AWA.take 5 rfl rfl rfl (by decide +kernel) (.on rfl rfl Qt.move) ?_
      refine AWA.take 6 rfl rfl rfl (by decide +kernel) (.on rfl rfl (Qt.indexAddr rfl rfl rfl rfl sl35 sz138 (by decide) (by omega))) ?_
      refine AWA.nrm (by first | (simp only [go_sem, Int.reduceToNat, Nat.reduceLT, reduceIte, Nat.reduceEqDiff, Nat.reduceAdd, Nat.reduceMul, Nat.reduceBEq, reduceCtorEq]; rfl) | rfl) ?_
      refine AWA.take 7 rfl rfl rfl (by decide +kernel) (.on rfl rfl (Qt.load1 rfl rfl rfl ag138)) ?_
      refine AWA.one 8 [] [7, 3, 6, 2, 5, 4, 1, 0] (by decide +kernel) rfl rfl rfl (by decide +kernel) (by decide +kernel) (by decide +kernel) (Stp.callV rfl (by decide) Try.call85 rfl rfl (eqInsS_con _ _)) ?_
      refine AWA.nrm (by first | (simp only [go_sem, Int.reduceToNat, Nat.reduceLT, reduceIte, Nat.reduceEqDiff, Nat.reduceAdd, Nat.reduceMul, Nat.reduceBEq, reduceCtorEq]; rfl) | rfl) ?_
      refine AWA.nrm (by first | (simp only [go_sem, Int.reduceToNat, Nat.reduceLT, reduceIte, Nat.reduceEqDiff, Nat.reduceAdd, Nat.reduceMul, Nat.reduceBEq, reduceCtorEq]; rfl) | rfl) ?_
      refine AWA.take 9 rfl rfl rfl (by decide +kernel) (.on rfl rfl (Qt.notB rfl)) ?_
      refine AWA.nilE (by decide +kernel) (by first | (simp only [go_sem, Int.reduceToNat, Nat.reduceLT, reduceIte, Nat.reduceEqDiff, Nat.reduceAdd, Nat.reduceMul, Nat.reduceBEq, reduceCtorEq]; rfl) | rfl) ?_
      try dsimp only [thenQ, blockQ]
      refine AW.cond rfl (fun c3 => ?_) (fun c3 => ?_)
      · have k3 := c3
        try simp only [decide_eq_true_eq, decide_eq_false_iff_not, bne_iff_ne, ne_eq, beq_iff_eq, beq_eq_false_iff_ne, bne_eq_false_iff_eq, Bool.not_eq_true', Bool.not_eq_false', Bool.and_eq_true, Bool.or_eq_true, Bool.and_eq_false_iff, Bool.or_eq_false_iff, Int.not_lt, Int.not_le, Int.toNat_natCast] at c3
        refine AW.seq ?_
        refine AW.region ?_
        refine AWL.q rfl rfl rfl (by decide) Qt.assign ?_
        refine AWL.nilE (by simp only [go_sem, Int.reduceToNat, Nat.reduceLT, reduceIte, Nat.reduceEqDiff, Nat.reduceAdd, Nat.reduceMul, Nat.reduceBEq, reduceCtorEq]; rfl) ?_
        try dsimp only [thenQ, blockQ]
        refine AW.ret ?_
        try dsimp only [thenQ, blockQ]
        refine endQ_ret (.cons (.tmp 4) .nil) ?_
        simp only [retX, slotL, reduceIte, Nat.reduceEqDiff]
        rw [decide_eq_false (show a ≠ b from i.stop En.dflt (by simpa using c3))]
      · have k3 := c3
        try simp only [decide_eq_true_eq, decide_eq_false_iff_not, bne_iff_ne, ne_eq, beq_iff_eq, beq_eq_false_iff_ne, bne_eq_false_iff_eq, Bool.not_eq_true', Bool.not_eq_false', Bool.and_eq_true, Bool.or_eq_true, Bool.and_eq_false_iff, Bool.or_eq_false_iff, Int.not_lt, Int.not_le, Int.toNat_natCast] at c3
        refine AW.skip ?_
        dsimp only [thenQ, blockQ]
        refine AW.region ?_
        refine AWL.q rfl rfl rfl (by decide) Qt.move ?_
        refine AWL.nrm (by simp only [go_sem, Int.reduceToNat, Nat.reduceLT, reduceIte, Nat.reduceEqDiff, Nat.reduceAdd, Nat.reduceMul, Nat.reduceBEq, reduceCtorEq]; rfl) ?_
        refine AWL.q rfl rfl rfl (by decide) (Qt.binOp rfl rfl (by first | exact pbAdd (by omega) | rfl)) ?_
        refine AWL.q rfl rfl rfl (by decide) Qt.assign ?_
        refine AWL.nilE (by simp only [go_sem, Int.reduceToNat, Nat.reduceLT, reduceIte, Nat.reduceEqDiff, Nat.reduceAdd, Nat.reduceMul, Nat.reduceBEq, reduceCtorEq]; rfl) ?_
        try dsimp only [thenQ, blockQ]
        refine ⟨⟨i.k + 1, by omega, i.next En.dflt (by omega) (by omega) (by simpa using c3)⟩, Weak.sim ⟨(by simp only [slotL, reduceIte, Nat.reduceEqDiff]; first | rfl | (rw [IntWalk.i64_in _ (by omega)]; rfl)), rfl, rfl, ⟨_, rfl, T.sim_refl _⟩, ⟨_, rfl, T.sim_refl _⟩, trivial⟩ rfl rfl, ?_⟩
        show a.length - (i.k + 1) < a.length - i.k
        omega
    · have k2 := c2
      try simp only [decide_eq_true_eq, decide_eq_false_iff_not, bne_iff_ne, ne_eq, beq_iff_eq, beq_eq_false_iff_ne, bne_eq_false_iff_eq, Bool.not_eq_true', Bool.not_eq_false', Bool.and_eq_true, Bool.or_eq_true, Bool.and_eq_false_iff, Bool.or_eq_false_iff, Int.not_lt, Int.not_le, Int.toNat_natCast] at c2
      refine AW.exit ?_
      dsimp only [thenQ, blockQ, reduceIte]
      refine AW.seq ?_
      refine AW.region ?_
      refine AWL.q rfl rfl rfl (by decide) Qt.assign ?_
      refine AWL.nilE (by simp only [go_sem, Int.reduceToNat, Nat.reduceLT, reduceIte, Nat.reduceEqDiff, Nat.reduceAdd, Nat.reduceMul, Nat.reduceBEq, reduceCtorEq]; rfl) ?_
      try dsimp only [thenQ, blockQ]
      refine AW.ret ?_
      try dsimp only [thenQ, blockQ]
      refine endQ_ret (.cons (.tmp 4) .nil) ?_
      simp only [retX, slotL, reduceIte, Nat.reduceEqDiff]
      rw [decide_eq_true (show a = b from i.full (by omega) (by omega))]
set_option maxHeartbeats 8000000 in
set_option maxRecDepth 10000 in
theorem eqIntS_con (a b : List Int) : Con Try.prog 49 [.h base [], .h (base + 1) []] [.rt base .ro (tr a), .rt (base + 1) .ro (tr b)] (fun y _ => y = .v (.bool (decide (a = b)))) := by
  refine Con.of_body Try.func49 rfl (by simp) ?_
  rw [Try.ntmps49]
  refine AW.len base [] rfl (by simp [Okp]) rfl (fun hl => ?_)
  refine AW.len (base + 1) [] rfl (by simp [Okp]) rfl (fun hl2 => ?_)
  refine AW.seq ?_
  refine AW.region ?_
  refine AWL.q rfl rfl rfl (by decide) Qt.assign ?_
  refine AWL.nilE (by simp only [go_sem, Int.reduceToNat, Nat.reduceLT, reduceIte, Nat.reduceEqDiff, Nat.reduceAdd, Nat.reduceMul, Nat.reduceBEq, reduceCtorEq]; rfl) ?_
  try dsimp only [thenQ, blockQ]
  refine AW.seq ?_
  refine AW.seq ?_
  refine AW.region ?_
  refine AWL.q rfl rfl rfl (by decide) Qt.move ?_
  refine AWL.q rfl rfl rfl (by decide) (Qt.lenH rfl rfl rfl sl24) ?_
  refine AWL.nrm (by simp only [go_sem, Int.reduceToNat, Nat.reduceLT, reduceIte, Nat.reduceEqDiff, Nat.reduceAdd, Nat.reduceMul, Nat.reduceBEq, reduceCtorEq]; rfl) ?_
  refine AWL.q rfl rfl rfl (by decide) Qt.move ?_
  refine AWL.q rfl rfl rfl (by decide) (Qt.lenH rfl rfl rfl sl24) ?_
  refine AWL.q rfl rfl rfl (by decide) (Qt.binOp rfl rfl rfl) ?_
  refine AWL.nilE (by simp only [go_sem, Int.reduceToNat, Nat.reduceLT, reduceIte, Nat.reduceEqDiff, Nat.reduceAdd, Nat.reduceMul, Nat.reduceBEq, reduceCtorEq]; rfl) ?_
  try dsimp only [thenQ, blockQ]
  refine AW.cond rfl (fun c1 => ?_) (fun c1 => ?_)
  · have k1 := c1
    try simp only [decide_eq_true_eq, decide_eq_false_iff_not, bne_iff_ne, ne_eq, beq_iff_eq, beq_eq_false_iff_ne, bne_eq_false_iff_eq, Bool.not_eq_true', Bool.not_eq_false', Bool.and_eq_true, Bool.or_eq_true, Bool.and_eq_false_iff, Bool.or_eq_false_iff, Int.not_lt, Int.not_le, Int.toNat_natCast] at c1
    refine AW.seq ?_
    refine AW.region ?_
    refine AWL.q rfl rfl rfl (by decide) Qt.assign ?_
    refine AWL.nilE (by simp only [go_sem, Int.reduceToNat, Nat.reduceLT, reduceIte, Nat.reduceEqDiff, Nat.reduceAdd, Nat.reduceMul, Nat.reduceBEq, reduceCtorEq]; rfl) ?_
    try dsimp only [thenQ, blockQ]
    refine AW.ret ?_
    try dsimp only [thenQ, blockQ]
    refine endQ_ret (.cons (.tmp 4) .nil) ?_
    simp only [retX, slotL, reduceIte, Nat.reduceEqDiff]
    rw [decide_eq_false (show a ≠ b from ne_of_len (by omega))]
  · have k1 := c1
    try simp only [decide_eq_true_eq, decide_eq_false_iff_not, bne_iff_ne, ne_eq, beq_iff_eq, beq_eq_false_iff_ne, bne_eq_false_iff_eq, Bool.not_eq_true', Bool.not_eq_false', Bool.and_eq_true, Bool.or_eq_true, Bool.and_eq_false_iff, Bool.or_eq_false_iff, Int.not_lt, Int.not_le, Int.toNat_natCast] at c1
    refine AW.skip ?_
    dsimp only [thenQ, blockQ]
    refine AW.seq ?_
    refine AW.seq ?_
    refine AW.region ?_
    refine AWL.q rfl rfl rfl (by decide) Qt.assign ?_
    refine AWL.nilE (by simp only [go_sem, Int.reduceToNat, Nat.reduceLT, reduceIte, Nat.reduceEqDiff, Nat.reduceAdd, Nat.reduceMul, Nat.reduceBEq, reduceCtorEq]; rfl) ?_
    try dsimp only [thenQ, blockQ]
    refine AW.block ?_
    refine AW.weak (L' := [.sl 5 (.v (iv (0 : Nat))), .sl 0 (.h base []), .sl 1 (.h (base + 1) []), .rt base .ro (tr a), .rt (base + 1) .ro (tr b)]) (Weak.sim ⟨rfl, rfl, rfl, ⟨_, rfl, T.sim_refl _⟩, ⟨_, rfl, T.sim_refl _⟩, trivial⟩ rfl rfl) ?_
    refine AW.loop (fun i : EqInv a b => [.sl 5 (.v (iv i.k)), .sl 0 (.h base []), .sl 1 (.h (base + 1) []), .rt base .ro (tr a), .rt (base + 1) .ro (tr b)]) (fun i => a.length - i.k) ⟨0, Nat.zero_le _, rfl⟩ ?_
    intro i
    have hle := i.le
    refine AW.seq ?_
    refine AW.seq ?_
    refine AW.region ?_
    refine AWL.q rfl rfl rfl (by decide) Qt.move ?_
    refine AWL.nrm (by simp only [go_sem, Int.reduceToNat, Nat.reduceLT, reduceIte, Nat.reduceEqDiff, Nat.reduceAdd, Nat.reduceMul, Nat.reduceBEq, reduceCtorEq]; rfl) ?_
    refine AWL.q rfl rfl rfl (by decide) Qt.move ?_
    refine AWL.q rfl rfl rfl (by decide) (Qt.lenH rfl rfl rfl sl24) ?_
    refine AWL.q rfl rfl rfl (by decide) (Qt.binOp rfl rfl rfl) ?_
    refine AWL.nilE (by simp only [go_sem, Int.reduceToNat, Nat.reduceLT, reduceIte, Nat.reduceEqDiff, Nat.reduceAdd, Nat.reduceMul, Nat.reduceBEq, reduceCtorEq]; rfl) ?_
    try dsimp only [thenQ, blockQ]
    refine AW.cond rfl (fun c2 => ?_) (fun c2 => ?_)
    · have k2 := c2
      try simp only [decide_eq_true_eq, decide_eq_false_iff_not, bne_iff_ne, ne_eq, beq_iff_eq, beq_eq_false_iff_ne, bne_eq_false_iff_eq, Bool.not_eq_true', Bool.not_eq_false', Bool.and_eq_true, Bool.or_eq_true, Bool.and_eq_false_iff, Bool.or_eq_false_iff, Int.not_lt, Int.not_le, Int.toNat_natCast] at c2
      refine AW.skip ?_
      dsimp only [thenQ, blockQ]
      refine AW.seq ?_
      refine AW.block ?_
      refine AW.seq ?_
      refine AW.draw [0, 1, 2, 3, 4, 5, 6, 7, 8] rfl (by decide +kernel) ?_
      refine AWA.take 0 rfl rfl rfl (by decide +kernel) (.on rfl rfl Qt.move) ?_
      refine AWA.nrm (by first | (simp only [go_sem, Int.reduceToNat, Nat.reduceLT, reduceIte, Nat.reduceEqDiff, Nat.reduceAdd, Nat.reduceMul, Nat.reduceBEq, reduceCtorEq]; rfl) | rfl) ?_
      refine AWA.take 1 rfl rfl rfl (by decide +kernel) (.on rfl rfl Qt.move) ?_
      refine AWA.take 2 rfl rfl rfl (by decide +kernel) (.on rfl rfl (Qt.indexAddr rfl rfl rfl rfl sl24 sz3 (by decide) (by omega))) ?_
      refine AWA.take 3 rfl rfl rfl (by decide +kernel) (.on rfl rfl (Qt.load1 rfl rfl rfl ag3)) ?_
      refine AWA.nrm (by first | (simp only [go_sem, Int.reduceToNat, Nat.reduceLT, reduceIte, Nat.reduceEqDiff, Nat.reduceAdd, Nat.reduceMul, Nat.reduceBEq, reduceCtorEq]; rfl) | rfl) ?_
      refine AWA.take 4 rfl rfl rfl (by decide +kernel) (.on rfl rfl Qt.move) ?_
      refine AWA.take 5 rfl rfl rfl (by decide +kernel) (.on rfl rfl Qt.move) ?_
      refine AWA.take 6 rfl rfl rfl (by decide +kernel) (.on rfl rfl (Qt.indexAddr rfl rfl rfl rfl sl24 sz3 (by decide) (by omega))) ?_
      refine AWA.nrm (by first | (simp only [go_sem, Int.reduceToNat, Nat.reduceLT, reduceIte, Nat.reduceEqDiff, Nat.reduceAdd, Nat.reduceMul, Nat.reduceBEq, reduceCtorEq]; rfl) | rfl) ?_
      refine AWA.take 7 rfl rfl rfl (by decide +kernel) (.on rfl rfl (Qt.load1 rfl rfl rfl ag3)) ?_
      refine AWA.take 8 rfl rfl rfl (by decide +kernel) (.on rfl rfl (Qt.binOp rfl rfl rfl)) ?_
      refine AWA.nilE (by decide +kernel) (by first | (simp only [go_sem, Int.reduceToNat, Nat.reduceLT, reduceIte, Nat.reduceEqDiff, Nat.reduceAdd, Nat.reduceMul, Nat.reduceBEq, reduceCtorEq]; rfl) | rfl) ?_
      try dsimp only [thenQ, blockQ]
      refine AW.cond rfl (fun c3 => ?_) (fun c3 => ?_)
      · have k3 := c3
        try simp only [decide_eq_true_eq, decide_eq_false_iff_not, bne_iff_ne, ne_eq, beq_iff_eq, beq_eq_false_iff_ne, bne_eq_false_iff_eq, Bool.not_eq_true', Bool.not_eq_false', Bool.and_eq_true, Bool.or_eq_true, Bool.and_eq_false_iff, Bool.or_eq_false_iff, Int.not_lt, Int.not_le, Int.toNat_natCast] at c3
        refine AW.seq ?_
        refine AW.region ?_
        refine AWL.q rfl rfl rfl (by decide) Qt.assign ?_
        refine AWL.nilE (by simp only [go_sem, Int.reduceToNat, Nat.reduceLT, reduceIte, Nat.reduceEqDiff, Nat.reduceAdd, Nat.reduceMul, Nat.reduceBEq, reduceCtorEq]; rfl) ?_
        try dsimp only [thenQ, blockQ]
        refine AW.ret ?_
        try dsimp only [thenQ, blockQ]
        refine endQ_ret (.cons (.tmp 4) .nil) ?_
        simp only [retX, slotL, reduceIte, Nat.reduceEqDiff]
        rw [decide_eq_false (show a ≠ b from i.stop En.dflt (by simpa using c3))]
      · have k3 := c3
        try simp only [decide_eq_true_eq, decide_eq_false_iff_not, bne_iff_ne, ne_eq, beq_iff_eq, beq_eq_false_iff_ne, bne_eq_false_iff_eq, Bool.not_eq_true', Bool.not_eq_false', Bool.and_eq_true, Bool.or_eq_true, Bool.and_eq_false_iff, Bool.or_eq_false_iff, Int.not_lt, Int.not_le, Int.toNat_natCast] at c3
        refine AW.skip ?_
        dsimp only [thenQ, blockQ]
        refine AW.region ?_
        refine AWL.q rfl rfl rfl (by decide) Qt.move ?_
        refine AWL.nrm (by simp only [go_sem, Int.reduceToNat, Nat.reduceLT, reduceIte, Nat.reduceEqDiff, Nat.reduceAdd, Nat.reduceMul, Nat.reduceBEq, reduceCtorEq]; rfl) ?_
        refine AWL.q rfl rfl rfl (by decide) (Qt.binOp rfl rfl (by first | exact pbAdd (by omega) | rfl)) ?_
        refine AWL.q rfl rfl rfl (by decide) Qt.assign ?_
        refine AWL.nilE (by simp only [go_sem, Int.reduceToNat, Nat.reduceLT, reduceIte, Nat.reduceEqDiff, Nat.reduceAdd, Nat.reduceMul, Nat.reduceBEq, reduceCtorEq]; rfl) ?_
        try dsimp only [thenQ, blockQ]
        refine ⟨⟨i.k + 1, by omega, i.next En.dflt (by omega) (by omega) (by simpa using c3)⟩, Weak.sim ⟨(by simp only [slotL, reduceIte, Nat.reduceEqDiff]; first | rfl | (rw [IntWalk.i64_in _ (by omega)]; rfl)), rfl, rfl, ⟨_, rfl, T.sim_refl _⟩, ⟨_, rfl, T.sim_refl _⟩, trivial⟩ rfl rfl, ?_⟩
        show a.length - (i.k + 1) < a.length - i.k
        omega
    · have k2 := c2
      try simp only [decide_eq_true_eq, decide_eq_false_iff_not, bne_iff_ne, ne_eq, beq_iff_eq, beq_eq_false_iff_ne, bne_eq_false_iff_eq, Bool.not_eq_true', Bool.not_eq_false', Bool.and_eq_true, Bool.or_eq_true, Bool.and_eq_false_iff, Bool.or_eq_false_iff, Int.not_lt, Int.not_le, Int.toNat_natCast] at c2
      refine AW.exit ?_
      dsimp only [thenQ, blockQ, reduceIte]
      refine AW.seq ?_
      refine AW.region ?_
      refine AWL.q rfl rfl rfl (by decide) Qt.assign ?_
      refine AWL.nilE (by simp only [go_sem, Int.reduceToNat, Nat.reduceLT, reduceIte, Nat.reduceEqDiff, Nat.reduceAdd, Nat.reduceMul, Nat.reduceBEq, reduceCtorEq]; rfl) ?_
      try dsimp only [thenQ, blockQ]
      refine AW.ret ?_
      try dsimp only [thenQ, blockQ]
      refine endQ_ret (.cons (.tmp 4) .nil) ?_
      simp only [retX, slotL, reduceIte, Nat.reduceEqDiff]
      rw [decide_eq_true (show a = b from i.full (by omega) (by omega))]
set_option maxHeartbeats 8000000 in
set_option maxRecDepth 10000 in
theorem eqASlot_con (a b : DASlot) : Con Try.prog 156 [.g [.v (.bool a.Used), .v (iv a.Pid), .v (iv a.Parent), .v (iv a.State), .v (iv a.Prog), .v (iv a.Pc), .v (iv a.Until), .v (iv a.Code), .h base [], .h (base + 1) [], .h (base + 2) []], .g [.v (.bool b.Used), .v (iv b.Pid), .v (iv b.Parent), .v (iv b.State), .v (iv b.Prog), .v (iv b.Pc), .v (iv b.Until), .v (iv b.Code), .h (base + 3) [], .h (base + 4) [], .h (base + 5) []]] [.rt base .ro (tr a.Regs), .rt (base + 1) .ro (tr a.Pt), .rt (base + 2) .ro (tr a.Fds), .rt (base + 3) .ro (tr b.Regs), .rt (base + 4) .ro (tr b.Pt), .rt (base + 5) .ro (tr b.Fds)] (fun y _ => y = .v (.bool (decide (a = b)))) := by
  refine Con.of_body Try.func156 rfl (by simp) ?_
  rw [Try.ntmps156]
  refine AW.seq ?_
  refine AW.region ?_
  refine AWL.step rfl rfl (Stp.boxB rfl (by decide) (by decide) rfl rfl rfl rfl) ?_
  refine AWL.nrm (by simp only [go_sem, Int.reduceToNat, Nat.reduceLT, reduceIte, Nat.reduceEqDiff, Nat.reduceAdd, Nat.reduceMul, Nat.reduceBEq, reduceCtorEq]; rfl) ?_
  refine AWL.step rfl rfl (Stp.boxB rfl (by decide) (by decide) rfl rfl rfl rfl) ?_
  refine AWL.nrm (by simp only [go_sem, Int.reduceToNat, Nat.reduceLT, reduceIte, Nat.reduceEqDiff, Nat.reduceAdd, Nat.reduceMul, Nat.reduceBEq, reduceCtorEq]; rfl) ?_
  refine AWL.q rfl rfl rfl (by decide) Qt.assign ?_
  refine AWL.nilE (by simp only [go_sem, Int.reduceToNat, Nat.reduceLT, reduceIte, Nat.reduceEqDiff, Nat.reduceAdd, Nat.reduceMul, Nat.reduceBEq, reduceCtorEq]; rfl) ?_
  try dsimp only [thenQ, blockQ]
  refine AW.seq ?_
  refine AW.seq ?_
  refine AW.region ?_
  refine AWL.q rfl rfl rfl (by decide) (Qt.fieldAddr rfl fl120_0 rfl rfl (by decide)) ?_
  refine AWL.q rfl rfl rfl (by decide) (Qt.load1 rfl rfl rfl ag4) ?_
  refine AWL.nrm (by simp only [go_sem, Int.reduceToNat, Nat.reduceLT, reduceIte, Nat.reduceEqDiff, Nat.reduceAdd, Nat.reduceMul, Nat.reduceBEq, reduceCtorEq]; rfl) ?_
  refine AWL.q rfl rfl rfl (by decide) (Qt.fieldAddr rfl fl120_0 rfl rfl (by decide)) ?_
  refine AWL.q rfl rfl rfl (by decide) (Qt.load1 rfl rfl rfl ag4) ?_
  refine AWL.q rfl rfl rfl (by decide) (Qt.neB rfl rfl Try.underlying4) ?_
  refine AWL.nilE (by simp only [go_sem, Int.reduceToNat, Nat.reduceLT, reduceIte, Nat.reduceEqDiff, Nat.reduceAdd, Nat.reduceMul, Nat.reduceBEq, reduceCtorEq]; rfl) ?_
  try dsimp only [thenQ, blockQ]
  refine AW.cond rfl (fun c1 => ?_) (fun c1 => ?_)
  · have k1 := c1
    try simp only [decide_eq_true_eq, decide_eq_false_iff_not, bne_iff_ne, ne_eq, beq_iff_eq, beq_eq_false_iff_ne, bne_eq_false_iff_eq, Bool.not_eq_true', Bool.not_eq_false', Bool.and_eq_true, Bool.or_eq_true, Bool.and_eq_false_iff, Bool.or_eq_false_iff, Int.not_lt, Int.not_le, Int.toNat_natCast] at c1
    refine AW.seq ?_
    refine AW.region ?_
    refine AWL.q rfl rfl rfl (by decide) Qt.assign ?_
    refine AWL.nilE (by simp only [go_sem, Int.reduceToNat, Nat.reduceLT, reduceIte, Nat.reduceEqDiff, Nat.reduceAdd, Nat.reduceMul, Nat.reduceBEq, reduceCtorEq]; rfl) ?_
    try dsimp only [thenQ, blockQ]
    refine AW.ret ?_
    try dsimp only [thenQ, blockQ]
    refine endQ_ret (.cons (.tmp 4) .nil) ?_
    simp only [retX, slotL, reduceIte, Nat.reduceEqDiff]
    cases a
    cases b
    simp_all
  · have k1 := c1
    try simp only [decide_eq_true_eq, decide_eq_false_iff_not, bne_iff_ne, ne_eq, beq_iff_eq, beq_eq_false_iff_ne, bne_eq_false_iff_eq, Bool.not_eq_true', Bool.not_eq_false', Bool.and_eq_true, Bool.or_eq_true, Bool.and_eq_false_iff, Bool.or_eq_false_iff, Int.not_lt, Int.not_le, Int.toNat_natCast] at c1
    refine AW.skip ?_
    dsimp only [thenQ, blockQ]
    refine AW.seq ?_
    refine AW.seq ?_
    refine AW.region ?_
    refine AWL.q rfl rfl rfl (by decide) (Qt.fieldAddr rfl fl120_1 rfl rfl (by decide)) ?_
    refine AWL.nrm (by simp only [go_sem, Int.reduceToNat, Nat.reduceLT, reduceIte, Nat.reduceEqDiff, Nat.reduceAdd, Nat.reduceMul, Nat.reduceBEq, reduceCtorEq]; rfl) ?_
    refine AWL.q rfl rfl rfl (by decide) (Qt.load1 rfl rfl rfl ag3) ?_
    refine AWL.q rfl rfl rfl (by decide) (Qt.fieldAddr rfl fl120_1 rfl rfl (by decide)) ?_
    refine AWL.q rfl rfl rfl (by decide) (Qt.load1 rfl rfl rfl ag3) ?_
    refine AWL.nrm (by simp only [go_sem, Int.reduceToNat, Nat.reduceLT, reduceIte, Nat.reduceEqDiff, Nat.reduceAdd, Nat.reduceMul, Nat.reduceBEq, reduceCtorEq]; rfl) ?_
    refine AWL.q rfl rfl rfl (by decide) (Qt.binOp rfl rfl rfl) ?_
    refine AWL.nilE (by simp only [go_sem, Int.reduceToNat, Nat.reduceLT, reduceIte, Nat.reduceEqDiff, Nat.reduceAdd, Nat.reduceMul, Nat.reduceBEq, reduceCtorEq]; rfl) ?_
    try dsimp only [thenQ, blockQ]
    refine AW.cond rfl (fun c2 => ?_) (fun c2 => ?_)
    · have k2 := c2
      try simp only [decide_eq_true_eq, decide_eq_false_iff_not, bne_iff_ne, ne_eq, beq_iff_eq, beq_eq_false_iff_ne, bne_eq_false_iff_eq, Bool.not_eq_true', Bool.not_eq_false', Bool.and_eq_true, Bool.or_eq_true, Bool.and_eq_false_iff, Bool.or_eq_false_iff, Int.not_lt, Int.not_le, Int.toNat_natCast] at c2
      refine AW.seq ?_
      refine AW.region ?_
      refine AWL.q rfl rfl rfl (by decide) Qt.assign ?_
      refine AWL.nilE (by simp only [go_sem, Int.reduceToNat, Nat.reduceLT, reduceIte, Nat.reduceEqDiff, Nat.reduceAdd, Nat.reduceMul, Nat.reduceBEq, reduceCtorEq]; rfl) ?_
      try dsimp only [thenQ, blockQ]
      refine AW.ret ?_
      try dsimp only [thenQ, blockQ]
      refine endQ_ret (.cons (.tmp 4) .nil) ?_
      simp only [retX, slotL, reduceIte, Nat.reduceEqDiff]
      cases a
      cases b
      simp_all
    · have k2 := c2
      try simp only [decide_eq_true_eq, decide_eq_false_iff_not, bne_iff_ne, ne_eq, beq_iff_eq, beq_eq_false_iff_ne, bne_eq_false_iff_eq, Bool.not_eq_true', Bool.not_eq_false', Bool.and_eq_true, Bool.or_eq_true, Bool.and_eq_false_iff, Bool.or_eq_false_iff, Int.not_lt, Int.not_le, Int.toNat_natCast] at c2
      refine AW.skip ?_
      dsimp only [thenQ, blockQ]
      refine AW.seq ?_
      refine AW.seq ?_
      refine AW.region ?_
      refine AWL.q rfl rfl rfl (by decide) (Qt.fieldAddr rfl fl120_2 rfl rfl (by decide)) ?_
      refine AWL.nrm (by simp only [go_sem, Int.reduceToNat, Nat.reduceLT, reduceIte, Nat.reduceEqDiff, Nat.reduceAdd, Nat.reduceMul, Nat.reduceBEq, reduceCtorEq]; rfl) ?_
      refine AWL.q rfl rfl rfl (by decide) (Qt.load1 rfl rfl rfl ag3) ?_
      refine AWL.q rfl rfl rfl (by decide) (Qt.fieldAddr rfl fl120_2 rfl rfl (by decide)) ?_
      refine AWL.q rfl rfl rfl (by decide) (Qt.load1 rfl rfl rfl ag3) ?_
      refine AWL.nrm (by simp only [go_sem, Int.reduceToNat, Nat.reduceLT, reduceIte, Nat.reduceEqDiff, Nat.reduceAdd, Nat.reduceMul, Nat.reduceBEq, reduceCtorEq]; rfl) ?_
      refine AWL.q rfl rfl rfl (by decide) (Qt.binOp rfl rfl rfl) ?_
      refine AWL.nilE (by simp only [go_sem, Int.reduceToNat, Nat.reduceLT, reduceIte, Nat.reduceEqDiff, Nat.reduceAdd, Nat.reduceMul, Nat.reduceBEq, reduceCtorEq]; rfl) ?_
      try dsimp only [thenQ, blockQ]
      refine AW.cond rfl (fun c3 => ?_) (fun c3 => ?_)
      · have k3 := c3
        try simp only [decide_eq_true_eq, decide_eq_false_iff_not, bne_iff_ne, ne_eq, beq_iff_eq, beq_eq_false_iff_ne, bne_eq_false_iff_eq, Bool.not_eq_true', Bool.not_eq_false', Bool.and_eq_true, Bool.or_eq_true, Bool.and_eq_false_iff, Bool.or_eq_false_iff, Int.not_lt, Int.not_le, Int.toNat_natCast] at c3
        refine AW.seq ?_
        refine AW.region ?_
        refine AWL.q rfl rfl rfl (by decide) Qt.assign ?_
        refine AWL.nilE (by simp only [go_sem, Int.reduceToNat, Nat.reduceLT, reduceIte, Nat.reduceEqDiff, Nat.reduceAdd, Nat.reduceMul, Nat.reduceBEq, reduceCtorEq]; rfl) ?_
        try dsimp only [thenQ, blockQ]
        refine AW.ret ?_
        try dsimp only [thenQ, blockQ]
        refine endQ_ret (.cons (.tmp 4) .nil) ?_
        simp only [retX, slotL, reduceIte, Nat.reduceEqDiff]
        cases a
        cases b
        simp_all
      · have k3 := c3
        try simp only [decide_eq_true_eq, decide_eq_false_iff_not, bne_iff_ne, ne_eq, beq_iff_eq, beq_eq_false_iff_ne, bne_eq_false_iff_eq, Bool.not_eq_true', Bool.not_eq_false', Bool.and_eq_true, Bool.or_eq_true, Bool.and_eq_false_iff, Bool.or_eq_false_iff, Int.not_lt, Int.not_le, Int.toNat_natCast] at c3
        refine AW.skip ?_
        dsimp only [thenQ, blockQ]
        refine AW.seq ?_
        refine AW.seq ?_
        refine AW.region ?_
        refine AWL.q rfl rfl rfl (by decide) (Qt.fieldAddr rfl fl120_3 rfl rfl (by decide)) ?_
        refine AWL.nrm (by simp only [go_sem, Int.reduceToNat, Nat.reduceLT, reduceIte, Nat.reduceEqDiff, Nat.reduceAdd, Nat.reduceMul, Nat.reduceBEq, reduceCtorEq]; rfl) ?_
        refine AWL.q rfl rfl rfl (by decide) (Qt.load1 rfl rfl rfl ag3) ?_
        refine AWL.q rfl rfl rfl (by decide) (Qt.fieldAddr rfl fl120_3 rfl rfl (by decide)) ?_
        refine AWL.q rfl rfl rfl (by decide) (Qt.load1 rfl rfl rfl ag3) ?_
        refine AWL.nrm (by simp only [go_sem, Int.reduceToNat, Nat.reduceLT, reduceIte, Nat.reduceEqDiff, Nat.reduceAdd, Nat.reduceMul, Nat.reduceBEq, reduceCtorEq]; rfl) ?_
        refine AWL.q rfl rfl rfl (by decide) (Qt.binOp rfl rfl rfl) ?_
        refine AWL.nilE (by simp only [go_sem, Int.reduceToNat, Nat.reduceLT, reduceIte, Nat.reduceEqDiff, Nat.reduceAdd, Nat.reduceMul, Nat.reduceBEq, reduceCtorEq]; rfl) ?_
        try dsimp only [thenQ, blockQ]
        refine AW.cond rfl (fun c4 => ?_) (fun c4 => ?_)
        · have k4 := c4
          try simp only [decide_eq_true_eq, decide_eq_false_iff_not, bne_iff_ne, ne_eq, beq_iff_eq, beq_eq_false_iff_ne, bne_eq_false_iff_eq, Bool.not_eq_true', Bool.not_eq_false', Bool.and_eq_true, Bool.or_eq_true, Bool.and_eq_false_iff, Bool.or_eq_false_iff, Int.not_lt, Int.not_le, Int.toNat_natCast] at c4
          refine AW.seq ?_
          refine AW.region ?_
          refine AWL.q rfl rfl rfl (by decide) Qt.assign ?_
          refine AWL.nilE (by simp only [go_sem, Int.reduceToNat, Nat.reduceLT, reduceIte, Nat.reduceEqDiff, Nat.reduceAdd, Nat.reduceMul, Nat.reduceBEq, reduceCtorEq]; rfl) ?_
          try dsimp only [thenQ, blockQ]
          refine AW.ret ?_
          try dsimp only [thenQ, blockQ]
          refine endQ_ret (.cons (.tmp 4) .nil) ?_
          simp only [retX, slotL, reduceIte, Nat.reduceEqDiff]
          cases a
          cases b
          simp_all
        · have k4 := c4
          try simp only [decide_eq_true_eq, decide_eq_false_iff_not, bne_iff_ne, ne_eq, beq_iff_eq, beq_eq_false_iff_ne, bne_eq_false_iff_eq, Bool.not_eq_true', Bool.not_eq_false', Bool.and_eq_true, Bool.or_eq_true, Bool.and_eq_false_iff, Bool.or_eq_false_iff, Int.not_lt, Int.not_le, Int.toNat_natCast] at c4
          refine AW.skip ?_
          dsimp only [thenQ, blockQ]
          refine AW.seq ?_
          refine AW.seq ?_
          refine AW.region ?_
          refine AWL.q rfl rfl rfl (by decide) (Qt.fieldAddr rfl fl120_4 rfl rfl (by decide)) ?_
          refine AWL.nrm (by simp only [go_sem, Int.reduceToNat, Nat.reduceLT, reduceIte, Nat.reduceEqDiff, Nat.reduceAdd, Nat.reduceMul, Nat.reduceBEq, reduceCtorEq]; rfl) ?_
          refine AWL.q rfl rfl rfl (by decide) (Qt.load1 rfl rfl rfl ag3) ?_
          refine AWL.q rfl rfl rfl (by decide) (Qt.fieldAddr rfl fl120_4 rfl rfl (by decide)) ?_
          refine AWL.q rfl rfl rfl (by decide) (Qt.load1 rfl rfl rfl ag3) ?_
          refine AWL.nrm (by simp only [go_sem, Int.reduceToNat, Nat.reduceLT, reduceIte, Nat.reduceEqDiff, Nat.reduceAdd, Nat.reduceMul, Nat.reduceBEq, reduceCtorEq]; rfl) ?_
          refine AWL.q rfl rfl rfl (by decide) (Qt.binOp rfl rfl rfl) ?_
          refine AWL.nilE (by simp only [go_sem, Int.reduceToNat, Nat.reduceLT, reduceIte, Nat.reduceEqDiff, Nat.reduceAdd, Nat.reduceMul, Nat.reduceBEq, reduceCtorEq]; rfl) ?_
          try dsimp only [thenQ, blockQ]
          refine AW.cond rfl (fun c5 => ?_) (fun c5 => ?_)
          · have k5 := c5
            try simp only [decide_eq_true_eq, decide_eq_false_iff_not, bne_iff_ne, ne_eq, beq_iff_eq, beq_eq_false_iff_ne, bne_eq_false_iff_eq, Bool.not_eq_true', Bool.not_eq_false', Bool.and_eq_true, Bool.or_eq_true, Bool.and_eq_false_iff, Bool.or_eq_false_iff, Int.not_lt, Int.not_le, Int.toNat_natCast] at c5
            refine AW.seq ?_
            refine AW.region ?_
            refine AWL.q rfl rfl rfl (by decide) Qt.assign ?_
            refine AWL.nilE (by simp only [go_sem, Int.reduceToNat, Nat.reduceLT, reduceIte, Nat.reduceEqDiff, Nat.reduceAdd, Nat.reduceMul, Nat.reduceBEq, reduceCtorEq]; rfl) ?_
            try dsimp only [thenQ, blockQ]
            refine AW.ret ?_
            try dsimp only [thenQ, blockQ]
            refine endQ_ret (.cons (.tmp 4) .nil) ?_
            simp only [retX, slotL, reduceIte, Nat.reduceEqDiff]
            cases a
            cases b
            simp_all
          · have k5 := c5
            try simp only [decide_eq_true_eq, decide_eq_false_iff_not, bne_iff_ne, ne_eq, beq_iff_eq, beq_eq_false_iff_ne, bne_eq_false_iff_eq, Bool.not_eq_true', Bool.not_eq_false', Bool.and_eq_true, Bool.or_eq_true, Bool.and_eq_false_iff, Bool.or_eq_false_iff, Int.not_lt, Int.not_le, Int.toNat_natCast] at c5
            refine AW.skip ?_
            dsimp only [thenQ, blockQ]
            refine AW.seq ?_
            refine AW.seq ?_
            refine AW.region ?_
            refine AWL.q rfl rfl rfl (by decide) (Qt.fieldAddr rfl fl120_5 rfl rfl (by decide)) ?_
            refine AWL.nrm (by simp only [go_sem, Int.reduceToNat, Nat.reduceLT, reduceIte, Nat.reduceEqDiff, Nat.reduceAdd, Nat.reduceMul, Nat.reduceBEq, reduceCtorEq]; rfl) ?_
            refine AWL.q rfl rfl rfl (by decide) (Qt.load1 rfl rfl rfl ag3) ?_
            refine AWL.q rfl rfl rfl (by decide) (Qt.fieldAddr rfl fl120_5 rfl rfl (by decide)) ?_
            refine AWL.q rfl rfl rfl (by decide) (Qt.load1 rfl rfl rfl ag3) ?_
            refine AWL.nrm (by simp only [go_sem, Int.reduceToNat, Nat.reduceLT, reduceIte, Nat.reduceEqDiff, Nat.reduceAdd, Nat.reduceMul, Nat.reduceBEq, reduceCtorEq]; rfl) ?_
            refine AWL.q rfl rfl rfl (by decide) (Qt.binOp rfl rfl rfl) ?_
            refine AWL.nilE (by simp only [go_sem, Int.reduceToNat, Nat.reduceLT, reduceIte, Nat.reduceEqDiff, Nat.reduceAdd, Nat.reduceMul, Nat.reduceBEq, reduceCtorEq]; rfl) ?_
            try dsimp only [thenQ, blockQ]
            refine AW.cond rfl (fun c6 => ?_) (fun c6 => ?_)
            · have k6 := c6
              try simp only [decide_eq_true_eq, decide_eq_false_iff_not, bne_iff_ne, ne_eq, beq_iff_eq, beq_eq_false_iff_ne, bne_eq_false_iff_eq, Bool.not_eq_true', Bool.not_eq_false', Bool.and_eq_true, Bool.or_eq_true, Bool.and_eq_false_iff, Bool.or_eq_false_iff, Int.not_lt, Int.not_le, Int.toNat_natCast] at c6
              refine AW.seq ?_
              refine AW.region ?_
              refine AWL.q rfl rfl rfl (by decide) Qt.assign ?_
              refine AWL.nilE (by simp only [go_sem, Int.reduceToNat, Nat.reduceLT, reduceIte, Nat.reduceEqDiff, Nat.reduceAdd, Nat.reduceMul, Nat.reduceBEq, reduceCtorEq]; rfl) ?_
              try dsimp only [thenQ, blockQ]
              refine AW.ret ?_
              try dsimp only [thenQ, blockQ]
              refine endQ_ret (.cons (.tmp 4) .nil) ?_
              simp only [retX, slotL, reduceIte, Nat.reduceEqDiff]
              cases a
              cases b
              simp_all
            · have k6 := c6
              try simp only [decide_eq_true_eq, decide_eq_false_iff_not, bne_iff_ne, ne_eq, beq_iff_eq, beq_eq_false_iff_ne, bne_eq_false_iff_eq, Bool.not_eq_true', Bool.not_eq_false', Bool.and_eq_true, Bool.or_eq_true, Bool.and_eq_false_iff, Bool.or_eq_false_iff, Int.not_lt, Int.not_le, Int.toNat_natCast] at c6
              refine AW.skip ?_
              dsimp only [thenQ, blockQ]
              refine AW.seq ?_
              refine AW.seq ?_
              refine AW.region ?_
              refine AWL.q rfl rfl rfl (by decide) (Qt.fieldAddr rfl fl120_6 rfl rfl (by decide)) ?_
              refine AWL.nrm (by simp only [go_sem, Int.reduceToNat, Nat.reduceLT, reduceIte, Nat.reduceEqDiff, Nat.reduceAdd, Nat.reduceMul, Nat.reduceBEq, reduceCtorEq]; rfl) ?_
              refine AWL.q rfl rfl rfl (by decide) (Qt.load1 rfl rfl rfl ag3) ?_
              refine AWL.q rfl rfl rfl (by decide) (Qt.fieldAddr rfl fl120_6 rfl rfl (by decide)) ?_
              refine AWL.q rfl rfl rfl (by decide) (Qt.load1 rfl rfl rfl ag3) ?_
              refine AWL.nrm (by simp only [go_sem, Int.reduceToNat, Nat.reduceLT, reduceIte, Nat.reduceEqDiff, Nat.reduceAdd, Nat.reduceMul, Nat.reduceBEq, reduceCtorEq]; rfl) ?_
              refine AWL.q rfl rfl rfl (by decide) (Qt.binOp rfl rfl rfl) ?_
              refine AWL.nilE (by simp only [go_sem, Int.reduceToNat, Nat.reduceLT, reduceIte, Nat.reduceEqDiff, Nat.reduceAdd, Nat.reduceMul, Nat.reduceBEq, reduceCtorEq]; rfl) ?_
              try dsimp only [thenQ, blockQ]
              refine AW.cond rfl (fun c7 => ?_) (fun c7 => ?_)
              · have k7 := c7
                try simp only [decide_eq_true_eq, decide_eq_false_iff_not, bne_iff_ne, ne_eq, beq_iff_eq, beq_eq_false_iff_ne, bne_eq_false_iff_eq, Bool.not_eq_true', Bool.not_eq_false', Bool.and_eq_true, Bool.or_eq_true, Bool.and_eq_false_iff, Bool.or_eq_false_iff, Int.not_lt, Int.not_le, Int.toNat_natCast] at c7
                refine AW.seq ?_
                refine AW.region ?_
                refine AWL.q rfl rfl rfl (by decide) Qt.assign ?_
                refine AWL.nilE (by simp only [go_sem, Int.reduceToNat, Nat.reduceLT, reduceIte, Nat.reduceEqDiff, Nat.reduceAdd, Nat.reduceMul, Nat.reduceBEq, reduceCtorEq]; rfl) ?_
                try dsimp only [thenQ, blockQ]
                refine AW.ret ?_
                try dsimp only [thenQ, blockQ]
                refine endQ_ret (.cons (.tmp 4) .nil) ?_
                simp only [retX, slotL, reduceIte, Nat.reduceEqDiff]
                cases a
                cases b
                simp_all
              · have k7 := c7
                try simp only [decide_eq_true_eq, decide_eq_false_iff_not, bne_iff_ne, ne_eq, beq_iff_eq, beq_eq_false_iff_ne, bne_eq_false_iff_eq, Bool.not_eq_true', Bool.not_eq_false', Bool.and_eq_true, Bool.or_eq_true, Bool.and_eq_false_iff, Bool.or_eq_false_iff, Int.not_lt, Int.not_le, Int.toNat_natCast] at c7
                refine AW.skip ?_
                dsimp only [thenQ, blockQ]
                refine AW.seq ?_
                refine AW.seq ?_
                refine AW.region ?_
                refine AWL.q rfl rfl rfl (by decide) (Qt.fieldAddr rfl fl120_7 rfl rfl (by decide)) ?_
                refine AWL.nrm (by simp only [go_sem, Int.reduceToNat, Nat.reduceLT, reduceIte, Nat.reduceEqDiff, Nat.reduceAdd, Nat.reduceMul, Nat.reduceBEq, reduceCtorEq]; rfl) ?_
                refine AWL.q rfl rfl rfl (by decide) (Qt.load1 rfl rfl rfl ag3) ?_
                refine AWL.q rfl rfl rfl (by decide) (Qt.fieldAddr rfl fl120_7 rfl rfl (by decide)) ?_
                refine AWL.q rfl rfl rfl (by decide) (Qt.load1 rfl rfl rfl ag3) ?_
                refine AWL.nrm (by simp only [go_sem, Int.reduceToNat, Nat.reduceLT, reduceIte, Nat.reduceEqDiff, Nat.reduceAdd, Nat.reduceMul, Nat.reduceBEq, reduceCtorEq]; rfl) ?_
                refine AWL.q rfl rfl rfl (by decide) (Qt.binOp rfl rfl rfl) ?_
                refine AWL.nilE (by simp only [go_sem, Int.reduceToNat, Nat.reduceLT, reduceIte, Nat.reduceEqDiff, Nat.reduceAdd, Nat.reduceMul, Nat.reduceBEq, reduceCtorEq]; rfl) ?_
                try dsimp only [thenQ, blockQ]
                refine AW.cond rfl (fun c8 => ?_) (fun c8 => ?_)
                · have k8 := c8
                  try simp only [decide_eq_true_eq, decide_eq_false_iff_not, bne_iff_ne, ne_eq, beq_iff_eq, beq_eq_false_iff_ne, bne_eq_false_iff_eq, Bool.not_eq_true', Bool.not_eq_false', Bool.and_eq_true, Bool.or_eq_true, Bool.and_eq_false_iff, Bool.or_eq_false_iff, Int.not_lt, Int.not_le, Int.toNat_natCast] at c8
                  refine AW.seq ?_
                  refine AW.region ?_
                  refine AWL.q rfl rfl rfl (by decide) Qt.assign ?_
                  refine AWL.nilE (by simp only [go_sem, Int.reduceToNat, Nat.reduceLT, reduceIte, Nat.reduceEqDiff, Nat.reduceAdd, Nat.reduceMul, Nat.reduceBEq, reduceCtorEq]; rfl) ?_
                  try dsimp only [thenQ, blockQ]
                  refine AW.ret ?_
                  try dsimp only [thenQ, blockQ]
                  refine endQ_ret (.cons (.tmp 4) .nil) ?_
                  simp only [retX, slotL, reduceIte, Nat.reduceEqDiff]
                  cases a
                  cases b
                  simp_all
                · have k8 := c8
                  try simp only [decide_eq_true_eq, decide_eq_false_iff_not, bne_iff_ne, ne_eq, beq_iff_eq, beq_eq_false_iff_ne, bne_eq_false_iff_eq, Bool.not_eq_true', Bool.not_eq_false', Bool.and_eq_true, Bool.or_eq_true, Bool.and_eq_false_iff, Bool.or_eq_false_iff, Int.not_lt, Int.not_le, Int.toNat_natCast] at c8
                  refine AW.skip ?_
                  dsimp only [thenQ, blockQ]
                  refine AW.seq ?_
                  refine AW.seq ?_
                  refine AW.region ?_
                  refine AWL.q rfl rfl rfl (by decide) (Qt.fieldAddr rfl fl120_8 rfl rfl (by decide)) ?_
                  refine AWL.nrm (by simp only [go_sem, Int.reduceToNat, Nat.reduceLT, reduceIte, Nat.reduceEqDiff, Nat.reduceAdd, Nat.reduceMul, Nat.reduceBEq, reduceCtorEq]; rfl) ?_
                  refine AWL.q rfl rfl rfl (by decide) (Qt.load1 rfl rfl rfl ag24) ?_
                  refine AWL.q rfl rfl rfl (by decide) (Qt.fieldAddr rfl fl120_8 rfl rfl (by decide)) ?_
                  refine AWL.q rfl rfl rfl (by decide) (Qt.load1 rfl rfl rfl ag24) ?_
                  refine AWL.nrm (by simp only [go_sem, Int.reduceToNat, Nat.reduceLT, reduceIte, Nat.reduceEqDiff, Nat.reduceAdd, Nat.reduceMul, Nat.reduceBEq, reduceCtorEq]; rfl) ?_
                  refine AWL.step rfl rfl (Stp.callV rfl (by decide) Try.call49 rfl rfl (eqIntS_con _ _)) ?_
                  refine AWL.nrm (by simp only [go_sem, Int.reduceToNat, Nat.reduceLT, reduceIte, Nat.reduceEqDiff, Nat.reduceAdd, Nat.reduceMul, Nat.reduceBEq, reduceCtorEq]; rfl) ?_
                  refine AWL.q rfl rfl rfl (by decide) (Qt.notB rfl) ?_
                  refine AWL.nilE (by simp only [go_sem, Int.reduceToNat, Nat.reduceLT, reduceIte, Nat.reduceEqDiff, Nat.reduceAdd, Nat.reduceMul, Nat.reduceBEq, reduceCtorEq]; rfl) ?_
                  try dsimp only [thenQ, blockQ]
                  refine AW.cond rfl (fun c9 => ?_) (fun c9 => ?_)
                  · have k9 := c9
                    try simp only [decide_eq_true_eq, decide_eq_false_iff_not, bne_iff_ne, ne_eq, beq_iff_eq, beq_eq_false_iff_ne, bne_eq_false_iff_eq, Bool.not_eq_true', Bool.not_eq_false', Bool.and_eq_true, Bool.or_eq_true, Bool.and_eq_false_iff, Bool.or_eq_false_iff, Int.not_lt, Int.not_le, Int.toNat_natCast] at c9
                    refine AW.seq ?_
                    refine AW.region ?_
                    refine AWL.q rfl rfl rfl (by decide) Qt.assign ?_
                    refine AWL.nilE (by simp only [go_sem, Int.reduceToNat, Nat.reduceLT, reduceIte, Nat.reduceEqDiff, Nat.reduceAdd, Nat.reduceMul, Nat.reduceBEq, reduceCtorEq]; rfl) ?_
                    try dsimp only [thenQ, blockQ]
                    refine AW.ret ?_
                    try dsimp only [thenQ, blockQ]
                    refine endQ_ret (.cons (.tmp 4) .nil) ?_
                    simp only [retX, slotL, reduceIte, Nat.reduceEqDiff]
                    cases a
                    cases b
                    simp_all
                  · have k9 := c9
                    try simp only [decide_eq_true_eq, decide_eq_false_iff_not, bne_iff_ne, ne_eq, beq_iff_eq, beq_eq_false_iff_ne, bne_eq_false_iff_eq, Bool.not_eq_true', Bool.not_eq_false', Bool.and_eq_true, Bool.or_eq_true, Bool.and_eq_false_iff, Bool.or_eq_false_iff, Int.not_lt, Int.not_le, Int.toNat_natCast] at c9
                    refine AW.skip ?_
                    dsimp only [thenQ, blockQ]
                    refine AW.seq ?_
                    refine AW.seq ?_
                    refine AW.region ?_
                    refine AWL.q rfl rfl rfl (by decide) (Qt.fieldAddr rfl fl120_9 rfl rfl (by decide)) ?_
                    refine AWL.nrm (by simp only [go_sem, Int.reduceToNat, Nat.reduceLT, reduceIte, Nat.reduceEqDiff, Nat.reduceAdd, Nat.reduceMul, Nat.reduceBEq, reduceCtorEq]; rfl) ?_
                    refine AWL.q rfl rfl rfl (by decide) (Qt.load1 rfl rfl rfl ag24) ?_
                    refine AWL.q rfl rfl rfl (by decide) (Qt.fieldAddr rfl fl120_9 rfl rfl (by decide)) ?_
                    refine AWL.q rfl rfl rfl (by decide) (Qt.load1 rfl rfl rfl ag24) ?_
                    refine AWL.nrm (by simp only [go_sem, Int.reduceToNat, Nat.reduceLT, reduceIte, Nat.reduceEqDiff, Nat.reduceAdd, Nat.reduceMul, Nat.reduceBEq, reduceCtorEq]; rfl) ?_
                    refine AWL.step rfl rfl (Stp.callV rfl (by decide) Try.call49 rfl rfl (eqIntS_con _ _)) ?_
                    refine AWL.nrm (by simp only [go_sem, Int.reduceToNat, Nat.reduceLT, reduceIte, Nat.reduceEqDiff, Nat.reduceAdd, Nat.reduceMul, Nat.reduceBEq, reduceCtorEq]; rfl) ?_
                    refine AWL.q rfl rfl rfl (by decide) (Qt.notB rfl) ?_
                    refine AWL.nilE (by simp only [go_sem, Int.reduceToNat, Nat.reduceLT, reduceIte, Nat.reduceEqDiff, Nat.reduceAdd, Nat.reduceMul, Nat.reduceBEq, reduceCtorEq]; rfl) ?_
                    try dsimp only [thenQ, blockQ]
                    refine AW.cond rfl (fun c10 => ?_) (fun c10 => ?_)
                    · have k10 := c10
                      try simp only [decide_eq_true_eq, decide_eq_false_iff_not, bne_iff_ne, ne_eq, beq_iff_eq, beq_eq_false_iff_ne, bne_eq_false_iff_eq, Bool.not_eq_true', Bool.not_eq_false', Bool.and_eq_true, Bool.or_eq_true, Bool.and_eq_false_iff, Bool.or_eq_false_iff, Int.not_lt, Int.not_le, Int.toNat_natCast] at c10
                      refine AW.seq ?_
                      refine AW.region ?_
                      refine AWL.q rfl rfl rfl (by decide) Qt.assign ?_
                      refine AWL.nilE (by simp only [go_sem, Int.reduceToNat, Nat.reduceLT, reduceIte, Nat.reduceEqDiff, Nat.reduceAdd, Nat.reduceMul, Nat.reduceBEq, reduceCtorEq]; rfl) ?_
                      try dsimp only [thenQ, blockQ]
                      refine AW.ret ?_
                      try dsimp only [thenQ, blockQ]
                      refine endQ_ret (.cons (.tmp 4) .nil) ?_
                      simp only [retX, slotL, reduceIte, Nat.reduceEqDiff]
                      cases a
                      cases b
                      simp_all
                    · have k10 := c10
                      try simp only [decide_eq_true_eq, decide_eq_false_iff_not, bne_iff_ne, ne_eq, beq_iff_eq, beq_eq_false_iff_ne, bne_eq_false_iff_eq, Bool.not_eq_true', Bool.not_eq_false', Bool.and_eq_true, Bool.or_eq_true, Bool.and_eq_false_iff, Bool.or_eq_false_iff, Int.not_lt, Int.not_le, Int.toNat_natCast] at c10
                      refine AW.skip ?_
                      dsimp only [thenQ, blockQ]
                      refine AW.seq ?_
                      refine AW.seq ?_
                      refine AW.region ?_
                      refine AWL.q rfl rfl rfl (by decide) (Qt.fieldAddr rfl fl120_10 rfl rfl (by decide)) ?_
                      refine AWL.nrm (by simp only [go_sem, Int.reduceToNat, Nat.reduceLT, reduceIte, Nat.reduceEqDiff, Nat.reduceAdd, Nat.reduceMul, Nat.reduceBEq, reduceCtorEq]; rfl) ?_
                      refine AWL.q rfl rfl rfl (by decide) (Qt.load1 rfl rfl rfl ag24) ?_
                      refine AWL.q rfl rfl rfl (by decide) (Qt.fieldAddr rfl fl120_10 rfl rfl (by decide)) ?_
                      refine AWL.q rfl rfl rfl (by decide) (Qt.load1 rfl rfl rfl ag24) ?_
                      refine AWL.nrm (by simp only [go_sem, Int.reduceToNat, Nat.reduceLT, reduceIte, Nat.reduceEqDiff, Nat.reduceAdd, Nat.reduceMul, Nat.reduceBEq, reduceCtorEq]; rfl) ?_
                      refine AWL.step rfl rfl (Stp.callV rfl (by decide) Try.call49 rfl rfl (eqIntS_con _ _)) ?_
                      refine AWL.nrm (by simp only [go_sem, Int.reduceToNat, Nat.reduceLT, reduceIte, Nat.reduceEqDiff, Nat.reduceAdd, Nat.reduceMul, Nat.reduceBEq, reduceCtorEq]; rfl) ?_
                      refine AWL.q rfl rfl rfl (by decide) (Qt.notB rfl) ?_
                      refine AWL.nilE (by simp only [go_sem, Int.reduceToNat, Nat.reduceLT, reduceIte, Nat.reduceEqDiff, Nat.reduceAdd, Nat.reduceMul, Nat.reduceBEq, reduceCtorEq]; rfl) ?_
                      try dsimp only [thenQ, blockQ]
                      refine AW.cond rfl (fun c11 => ?_) (fun c11 => ?_)
                      · have k11 := c11
                        try simp only [decide_eq_true_eq, decide_eq_false_iff_not, bne_iff_ne, ne_eq, beq_iff_eq, beq_eq_false_iff_ne, bne_eq_false_iff_eq, Bool.not_eq_true', Bool.not_eq_false', Bool.and_eq_true, Bool.or_eq_true, Bool.and_eq_false_iff, Bool.or_eq_false_iff, Int.not_lt, Int.not_le, Int.toNat_natCast] at c11
                        refine AW.seq ?_
                        refine AW.region ?_
                        refine AWL.q rfl rfl rfl (by decide) Qt.assign ?_
                        refine AWL.nilE (by simp only [go_sem, Int.reduceToNat, Nat.reduceLT, reduceIte, Nat.reduceEqDiff, Nat.reduceAdd, Nat.reduceMul, Nat.reduceBEq, reduceCtorEq]; rfl) ?_
                        try dsimp only [thenQ, blockQ]
                        refine AW.ret ?_
                        try dsimp only [thenQ, blockQ]
                        refine endQ_ret (.cons (.tmp 4) .nil) ?_
                        simp only [retX, slotL, reduceIte, Nat.reduceEqDiff]
                        cases a
                        cases b
                        simp_all
                      · have k11 := c11
                        try simp only [decide_eq_true_eq, decide_eq_false_iff_not, bne_iff_ne, ne_eq, beq_iff_eq, beq_eq_false_iff_ne, bne_eq_false_iff_eq, Bool.not_eq_true', Bool.not_eq_false', Bool.and_eq_true, Bool.or_eq_true, Bool.and_eq_false_iff, Bool.or_eq_false_iff, Int.not_lt, Int.not_le, Int.toNat_natCast] at c11
                        refine AW.skip ?_
                        dsimp only [thenQ, blockQ]
                        refine AW.seq ?_
                        refine AW.region ?_
                        refine AWL.q rfl rfl rfl (by decide) Qt.assign ?_
                        refine AWL.nilE (by simp only [go_sem, Int.reduceToNat, Nat.reduceLT, reduceIte, Nat.reduceEqDiff, Nat.reduceAdd, Nat.reduceMul, Nat.reduceBEq, reduceCtorEq]; rfl) ?_
                        try dsimp only [thenQ, blockQ]
                        refine AW.ret ?_
                        try dsimp only [thenQ, blockQ]
                        refine endQ_ret (.cons (.tmp 4) .nil) ?_
                        simp only [retX, slotL, reduceIte, Nat.reduceEqDiff]
                        cases a
                        cases b
                        simp_all
set_option maxHeartbeats 8000000 in
set_option maxRecDepth 10000 in
theorem eqASlotS_con (a b : List DASlot) : Con Try.prog 67 [.h base [], .h (base + 1) []] [.rt base .ro (tr a), .rt (base + 1) .ro (tr b)] (fun y _ => y = .v (.bool (decide (a = b)))) := by
  refine Con.of_body Try.func67 rfl (by simp) ?_
  rw [Try.ntmps67]
  refine AW.len base [] rfl (by simp [Okp]) rfl (fun hl => ?_)
  refine AW.len (base + 1) [] rfl (by simp [Okp]) rfl (fun hl2 => ?_)
  refine AW.seq ?_
  refine AW.region ?_
  refine AWL.q rfl rfl rfl (by decide) Qt.assign ?_
  refine AWL.nilE (by simp only [go_sem, Int.reduceToNat, Nat.reduceLT, reduceIte, Nat.reduceEqDiff, Nat.reduceAdd, Nat.reduceMul, Nat.reduceBEq, reduceCtorEq]; rfl) ?_
  try dsimp only [thenQ, blockQ]
  refine AW.seq ?_
  refine AW.seq ?_
  refine AW.region ?_
  refine AWL.q rfl rfl rfl (by decide) Qt.move ?_
  refine AWL.q rfl rfl rfl (by decide) (Qt.lenH rfl rfl rfl sl57) ?_
  refine AWL.nrm (by simp only [go_sem, Int.reduceToNat, Nat.reduceLT, reduceIte, Nat.reduceEqDiff, Nat.reduceAdd, Nat.reduceMul, Nat.reduceBEq, reduceCtorEq]; rfl) ?_
  refine AWL.q rfl rfl rfl (by decide) Qt.move ?_
  refine AWL.q rfl rfl rfl (by decide) (Qt.lenH rfl rfl rfl sl57) ?_
  refine AWL.q rfl rfl rfl (by decide) (Qt.binOp rfl rfl rfl) ?_
  refine AWL.nilE (by simp only [go_sem, Int.reduceToNat, Nat.reduceLT, reduceIte, Nat.reduceEqDiff, Nat.reduceAdd, Nat.reduceMul, Nat.reduceBEq, reduceCtorEq]; rfl) ?_
  try dsimp only [thenQ, blockQ]
  refine AW.cond rfl (fun c1 => ?_) (fun c1 => ?_)
  · have k1 := c1
    try simp only [decide_eq_true_eq, decide_eq_false_iff_not, bne_iff_ne, ne_eq, beq_iff_eq, beq_eq_false_iff_ne, bne_eq_false_iff_eq, Bool.not_eq_true', Bool.not_eq_false', Bool.and_eq_true, Bool.or_eq_true, Bool.and_eq_false_iff, Bool.or_eq_false_iff, Int.not_lt, Int.not_le, Int.toNat_natCast] at c1
    refine AW.seq ?_
    refine AW.region ?_
    refine AWL.q rfl rfl rfl (by decide) Qt.assign ?_
    refine AWL.nilE (by simp only [go_sem, Int.reduceToNat, Nat.reduceLT, reduceIte, Nat.reduceEqDiff, Nat.reduceAdd, Nat.reduceMul, Nat.reduceBEq, reduceCtorEq]; rfl) ?_
    try dsimp only [thenQ, blockQ]
    refine AW.ret ?_
    try dsimp only [thenQ, blockQ]
    refine endQ_ret (.cons (.tmp 4) .nil) ?_
    simp only [retX, slotL, reduceIte, Nat.reduceEqDiff]
    rw [decide_eq_false (show a ≠ b from ne_of_len (by omega))]
  · have k1 := c1
    try simp only [decide_eq_true_eq, decide_eq_false_iff_not, bne_iff_ne, ne_eq, beq_iff_eq, beq_eq_false_iff_ne, bne_eq_false_iff_eq, Bool.not_eq_true', Bool.not_eq_false', Bool.and_eq_true, Bool.or_eq_true, Bool.and_eq_false_iff, Bool.or_eq_false_iff, Int.not_lt, Int.not_le, Int.toNat_natCast] at c1
    refine AW.skip ?_
    dsimp only [thenQ, blockQ]
    refine AW.seq ?_
    refine AW.seq ?_
    refine AW.region ?_
    refine AWL.q rfl rfl rfl (by decide) Qt.assign ?_
    refine AWL.nilE (by simp only [go_sem, Int.reduceToNat, Nat.reduceLT, reduceIte, Nat.reduceEqDiff, Nat.reduceAdd, Nat.reduceMul, Nat.reduceBEq, reduceCtorEq]; rfl) ?_
    try dsimp only [thenQ, blockQ]
    refine AW.block ?_
    refine AW.weak (L' := [.sl 5 (.v (iv (0 : Nat))), .sl 0 (.h base []), .sl 1 (.h (base + 1) []), .rt base .ro (tr a), .rt (base + 1) .ro (tr b)]) (Weak.sim ⟨rfl, rfl, rfl, ⟨_, rfl, T.sim_refl _⟩, ⟨_, rfl, T.sim_refl _⟩, trivial⟩ rfl rfl) ?_
    refine AW.loop (fun i : EqInv a b => [.sl 5 (.v (iv i.k)), .sl 0 (.h base []), .sl 1 (.h (base + 1) []), .rt base .ro (tr a), .rt (base + 1) .ro (tr b)]) (fun i => a.length - i.k) ⟨0, Nat.zero_le _, rfl⟩ ?_
    intro i
    have hle := i.le
    refine AW.seq ?_
    refine AW.seq ?_
    refine AW.region ?_
    refine AWL.q rfl rfl rfl (by decide) Qt.move ?_
    refine AWL.nrm (by simp only [go_sem, Int.reduceToNat, Nat.reduceLT, reduceIte, Nat.reduceEqDiff, Nat.reduceAdd, Nat.reduceMul, Nat.reduceBEq, reduceCtorEq]; rfl) ?_
    refine AWL.q rfl rfl rfl (by decide) Qt.move ?_
    refine AWL.q rfl rfl rfl (by decide) (Qt.lenH rfl rfl rfl sl57) ?_
    refine AWL.q rfl rfl rfl (by decide) (Qt.binOp rfl rfl rfl) ?_
    refine AWL.nilE (by simp only [go_sem, Int.reduceToNat, Nat.reduceLT, reduceIte, Nat.reduceEqDiff, Nat.reduceAdd, Nat.reduceMul, Nat.reduceBEq, reduceCtorEq]; rfl) ?_
    try dsimp only [thenQ, blockQ]
    refine AW.cond rfl (fun c2 => ?_) (fun c2 => ?_)
    · have k2 := c2
      try simp only [decide_eq_true_eq, decide_eq_false_iff_not, bne_iff_ne, ne_eq, beq_iff_eq, beq_eq_false_iff_ne, bne_eq_false_iff_eq, Bool.not_eq_true', Bool.not_eq_false', Bool.and_eq_true, Bool.or_eq_true, Bool.and_eq_false_iff, Bool.or_eq_false_iff, Int.not_lt, Int.not_le, Int.toNat_natCast] at c2
      refine AW.skip ?_
      dsimp only [thenQ, blockQ]
      refine AW.seq ?_
      refine AW.block ?_
      refine AW.seq ?_
      refine AW.draw [0, 1, 2, 3, 4, 5, 6, 7, 9] rfl (by decide +kernel) ?_
      refine AWA.take 0 rfl rfl rfl (by decide +kernel) (.on rfl rfl Qt.move) ?_
      refine AWA.nrm (by first | (simp only [go_sem, Int.reduceToNat, Nat.reduceLT, reduceIte, Nat.reduceEqDiff, Nat.reduceAdd, Nat.reduceMul, Nat.reduceBEq, reduceCtorEq]; rfl) | rfl) ?_
      refine AWA.take 1 rfl rfl rfl (by decide +kernel) (.on rfl rfl Qt.move) ?_
      refine AWA.take 2 rfl rfl rfl (by decide +kernel) (.on rfl rfl (Qt.indexAddr rfl rfl rfl rfl sl57 sz120 (by decide) (by omega))) ?_
      refine AWA.take 3 rfl rfl rfl (by decide +kernel) (.on rfl rfl (Qt.loadG rfl rfl rfl ag120 sz120 (by decide))) ?_
      refine AWA.nrm (by first | (simp only [go_sem, Int.reduceToNat, Nat.reduceLT, reduceIte, Nat.reduceEqDiff, Nat.reduceAdd, Nat.reduceMul, Nat.reduceBEq, reduceCtorEq]; rfl) | rfl) ?_
      refine AWA.take 4 rfl rfl rfl (by decide +kernel) (.on rfl rfl Qt.move) ?_
      refine AWA.take 5 rfl rfl rfl (by decide +kernel) (.on rfl rfl Qt.move) ?_
      refine AWA.take 6 rfl rfl rfl (by decide +kernel) (.on rfl rfl (Qt.indexAddr rfl rfl rfl rfl sl57 sz120 (by decide) (by omega))) ?_
      refine AWA.nrm (by first | (simp only [go_sem, Int.reduceToNat, Nat.reduceLT, reduceIte, Nat.reduceEqDiff, Nat.reduceAdd, Nat.reduceMul, Nat.reduceBEq, reduceCtorEq]; rfl) | rfl) ?_
      refine AWA.take 7 rfl rfl rfl (by decide +kernel) (.on rfl rfl (Qt.loadG rfl rfl rfl ag120 sz120 (by decide))) ?_
      refine AWA.one 8 [] [7, 3, 6, 2, 5, 4, 1, 0] (by decide +kernel) rfl rfl rfl (by decide +kernel) (by decide +kernel) (by decide +kernel) (Stp.callV rfl (by decide) Try.call156 rfl rfl (eqASlot_con _ _)) ?_
      refine AWA.nrm (by first | (simp only [go_sem, Int.reduceToNat, Nat.reduceLT, reduceIte, Nat.reduceEqDiff, Nat.reduceAdd, Nat.reduceMul, Nat.reduceBEq, reduceCtorEq]; rfl) | rfl) ?_
      refine AWA.nrm (by first | (simp only [go_sem, Int.reduceToNat, Nat.reduceLT, reduceIte, Nat.reduceEqDiff, Nat.reduceAdd, Nat.reduceMul, Nat.reduceBEq, reduceCtorEq]; rfl) | rfl) ?_
      refine AWA.take 9 rfl rfl rfl (by decide +kernel) (.on rfl rfl (Qt.notB rfl)) ?_
      refine AWA.nilE (by decide +kernel) (by first | (simp only [go_sem, Int.reduceToNat, Nat.reduceLT, reduceIte, Nat.reduceEqDiff, Nat.reduceAdd, Nat.reduceMul, Nat.reduceBEq, reduceCtorEq]; rfl) | rfl) ?_
      try dsimp only [thenQ, blockQ]
      refine AW.cond rfl (fun c3 => ?_) (fun c3 => ?_)
      · have k3 := c3
        try simp only [decide_eq_true_eq, decide_eq_false_iff_not, bne_iff_ne, ne_eq, beq_iff_eq, beq_eq_false_iff_ne, bne_eq_false_iff_eq, Bool.not_eq_true', Bool.not_eq_false', Bool.and_eq_true, Bool.or_eq_true, Bool.and_eq_false_iff, Bool.or_eq_false_iff, Int.not_lt, Int.not_le, Int.toNat_natCast] at c3
        refine AW.seq ?_
        refine AW.region ?_
        refine AWL.q rfl rfl rfl (by decide) Qt.assign ?_
        refine AWL.nilE (by simp only [go_sem, Int.reduceToNat, Nat.reduceLT, reduceIte, Nat.reduceEqDiff, Nat.reduceAdd, Nat.reduceMul, Nat.reduceBEq, reduceCtorEq]; rfl) ?_
        try dsimp only [thenQ, blockQ]
        refine AW.ret ?_
        try dsimp only [thenQ, blockQ]
        refine endQ_ret (.cons (.tmp 4) .nil) ?_
        simp only [retX, slotL, reduceIte, Nat.reduceEqDiff]
        rw [decide_eq_false (show a ≠ b from i.stop En.dflt (by simpa using c3))]
      · have k3 := c3
        try simp only [decide_eq_true_eq, decide_eq_false_iff_not, bne_iff_ne, ne_eq, beq_iff_eq, beq_eq_false_iff_ne, bne_eq_false_iff_eq, Bool.not_eq_true', Bool.not_eq_false', Bool.and_eq_true, Bool.or_eq_true, Bool.and_eq_false_iff, Bool.or_eq_false_iff, Int.not_lt, Int.not_le, Int.toNat_natCast] at c3
        refine AW.skip ?_
        dsimp only [thenQ, blockQ]
        refine AW.region ?_
        refine AWL.q rfl rfl rfl (by decide) Qt.move ?_
        refine AWL.nrm (by simp only [go_sem, Int.reduceToNat, Nat.reduceLT, reduceIte, Nat.reduceEqDiff, Nat.reduceAdd, Nat.reduceMul, Nat.reduceBEq, reduceCtorEq]; rfl) ?_
        refine AWL.q rfl rfl rfl (by decide) (Qt.binOp rfl rfl (by first | exact pbAdd (by omega) | rfl)) ?_
        refine AWL.q rfl rfl rfl (by decide) Qt.assign ?_
        refine AWL.nilE (by simp only [go_sem, Int.reduceToNat, Nat.reduceLT, reduceIte, Nat.reduceEqDiff, Nat.reduceAdd, Nat.reduceMul, Nat.reduceBEq, reduceCtorEq]; rfl) ?_
        try dsimp only [thenQ, blockQ]
        refine ⟨⟨i.k + 1, by omega, i.next En.dflt (by omega) (by omega) (by simpa using c3)⟩, Weak.sim ⟨(by simp only [slotL, reduceIte, Nat.reduceEqDiff]; first | rfl | (rw [IntWalk.i64_in _ (by omega)]; rfl)), rfl, rfl, ⟨_, rfl, T.sim_refl _⟩, ⟨_, rfl, T.sim_refl _⟩, trivial⟩ rfl rfl, ?_⟩
        show a.length - (i.k + 1) < a.length - i.k
        omega
    · have k2 := c2
      try simp only [decide_eq_true_eq, decide_eq_false_iff_not, bne_iff_ne, ne_eq, beq_iff_eq, beq_eq_false_iff_ne, bne_eq_false_iff_eq, Bool.not_eq_true', Bool.not_eq_false', Bool.and_eq_true, Bool.or_eq_true, Bool.and_eq_false_iff, Bool.or_eq_false_iff, Int.not_lt, Int.not_le, Int.toNat_natCast] at c2
      refine AW.exit ?_
      dsimp only [thenQ, blockQ, reduceIte]
      refine AW.seq ?_
      refine AW.region ?_
      refine AWL.q rfl rfl rfl (by decide) Qt.assign ?_
      refine AWL.nilE (by simp only [go_sem, Int.reduceToNat, Nat.reduceLT, reduceIte, Nat.reduceEqDiff, Nat.reduceAdd, Nat.reduceMul, Nat.reduceBEq, reduceCtorEq]; rfl) ?_
      try dsimp only [thenQ, blockQ]
      refine AW.ret ?_
      try dsimp only [thenQ, blockQ]
      refine endQ_ret (.cons (.tmp 4) .nil) ?_
      simp only [retX, slotL, reduceIte, Nat.reduceEqDiff]
      rw [decide_eq_true (show a = b from i.full (by omega) (by omega))]
set_option maxHeartbeats 8000000 in
set_option maxRecDepth 10000 in
theorem eqBoolS_con (a b : List Bool) : Con Try.prog 68 [.h base [], .h (base + 1) []] [.rt base .ro (tr a), .rt (base + 1) .ro (tr b)] (fun y _ => y = .v (.bool (decide (a = b)))) := by
  refine Con.of_body Try.func68 rfl (by simp) ?_
  rw [Try.ntmps68]
  refine AW.len base [] rfl (by simp [Okp]) rfl (fun hl => ?_)
  refine AW.len (base + 1) [] rfl (by simp [Okp]) rfl (fun hl2 => ?_)
  refine AW.seq ?_
  refine AW.region ?_
  refine AWL.q rfl rfl rfl (by decide) Qt.assign ?_
  refine AWL.nilE (by simp only [go_sem, Int.reduceToNat, Nat.reduceLT, reduceIte, Nat.reduceEqDiff, Nat.reduceAdd, Nat.reduceMul, Nat.reduceBEq, reduceCtorEq]; rfl) ?_
  try dsimp only [thenQ, blockQ]
  refine AW.seq ?_
  refine AW.seq ?_
  refine AW.region ?_
  refine AWL.q rfl rfl rfl (by decide) Qt.move ?_
  refine AWL.q rfl rfl rfl (by decide) (Qt.lenH rfl rfl rfl sl47) ?_
  refine AWL.nrm (by simp only [go_sem, Int.reduceToNat, Nat.reduceLT, reduceIte, Nat.reduceEqDiff, Nat.reduceAdd, Nat.reduceMul, Nat.reduceBEq, reduceCtorEq]; rfl) ?_
  refine AWL.q rfl rfl rfl (by decide) Qt.move ?_
  refine AWL.q rfl rfl rfl (by decide) (Qt.lenH rfl rfl rfl sl47) ?_
  refine AWL.q rfl rfl rfl (by decide) (Qt.binOp rfl rfl rfl) ?_
  refine AWL.nilE (by simp only [go_sem, Int.reduceToNat, Nat.reduceLT, reduceIte, Nat.reduceEqDiff, Nat.reduceAdd, Nat.reduceMul, Nat.reduceBEq, reduceCtorEq]; rfl) ?_
  try dsimp only [thenQ, blockQ]
  refine AW.cond rfl (fun c1 => ?_) (fun c1 => ?_)
  · have k1 := c1
    try simp only [decide_eq_true_eq, decide_eq_false_iff_not, bne_iff_ne, ne_eq, beq_iff_eq, beq_eq_false_iff_ne, bne_eq_false_iff_eq, Bool.not_eq_true', Bool.not_eq_false', Bool.and_eq_true, Bool.or_eq_true, Bool.and_eq_false_iff, Bool.or_eq_false_iff, Int.not_lt, Int.not_le, Int.toNat_natCast] at c1
    refine AW.seq ?_
    refine AW.region ?_
    refine AWL.q rfl rfl rfl (by decide) Qt.assign ?_
    refine AWL.nilE (by simp only [go_sem, Int.reduceToNat, Nat.reduceLT, reduceIte, Nat.reduceEqDiff, Nat.reduceAdd, Nat.reduceMul, Nat.reduceBEq, reduceCtorEq]; rfl) ?_
    try dsimp only [thenQ, blockQ]
    refine AW.ret ?_
    try dsimp only [thenQ, blockQ]
    refine endQ_ret (.cons (.tmp 4) .nil) ?_
    simp only [retX, slotL, reduceIte, Nat.reduceEqDiff]
    rw [decide_eq_false (show a ≠ b from ne_of_len (by omega))]
  · have k1 := c1
    try simp only [decide_eq_true_eq, decide_eq_false_iff_not, bne_iff_ne, ne_eq, beq_iff_eq, beq_eq_false_iff_ne, bne_eq_false_iff_eq, Bool.not_eq_true', Bool.not_eq_false', Bool.and_eq_true, Bool.or_eq_true, Bool.and_eq_false_iff, Bool.or_eq_false_iff, Int.not_lt, Int.not_le, Int.toNat_natCast] at c1
    refine AW.skip ?_
    dsimp only [thenQ, blockQ]
    refine AW.seq ?_
    refine AW.seq ?_
    refine AW.region ?_
    refine AWL.q rfl rfl rfl (by decide) Qt.assign ?_
    refine AWL.nilE (by simp only [go_sem, Int.reduceToNat, Nat.reduceLT, reduceIte, Nat.reduceEqDiff, Nat.reduceAdd, Nat.reduceMul, Nat.reduceBEq, reduceCtorEq]; rfl) ?_
    try dsimp only [thenQ, blockQ]
    refine AW.block ?_
    refine AW.weak (L' := [.sl 5 (.v (iv (0 : Nat))), .sl 0 (.h base []), .sl 1 (.h (base + 1) []), .rt base .ro (tr a), .rt (base + 1) .ro (tr b)]) (Weak.sim ⟨rfl, rfl, rfl, ⟨_, rfl, T.sim_refl _⟩, ⟨_, rfl, T.sim_refl _⟩, trivial⟩ rfl rfl) ?_
    refine AW.loop (fun i : EqInv a b => [.sl 5 (.v (iv i.k)), .sl 0 (.h base []), .sl 1 (.h (base + 1) []), .rt base .ro (tr a), .rt (base + 1) .ro (tr b)]) (fun i => a.length - i.k) ⟨0, Nat.zero_le _, rfl⟩ ?_
    intro i
    have hle := i.le
    refine AW.seq ?_
    refine AW.seq ?_
    refine AW.region ?_
    refine AWL.q rfl rfl rfl (by decide) Qt.move ?_
    refine AWL.nrm (by simp only [go_sem, Int.reduceToNat, Nat.reduceLT, reduceIte, Nat.reduceEqDiff, Nat.reduceAdd, Nat.reduceMul, Nat.reduceBEq, reduceCtorEq]; rfl) ?_
    refine AWL.q rfl rfl rfl (by decide) Qt.move ?_
    refine AWL.q rfl rfl rfl (by decide) (Qt.lenH rfl rfl rfl sl47) ?_
    refine AWL.q rfl rfl rfl (by decide) (Qt.binOp rfl rfl rfl) ?_
    refine AWL.nilE (by simp only [go_sem, Int.reduceToNat, Nat.reduceLT, reduceIte, Nat.reduceEqDiff, Nat.reduceAdd, Nat.reduceMul, Nat.reduceBEq, reduceCtorEq]; rfl) ?_
    try dsimp only [thenQ, blockQ]
    refine AW.cond rfl (fun c2 => ?_) (fun c2 => ?_)
    · have k2 := c2
      try simp only [decide_eq_true_eq, decide_eq_false_iff_not, bne_iff_ne, ne_eq, beq_iff_eq, beq_eq_false_iff_ne, bne_eq_false_iff_eq, Bool.not_eq_true', Bool.not_eq_false', Bool.and_eq_true, Bool.or_eq_true, Bool.and_eq_false_iff, Bool.or_eq_false_iff, Int.not_lt, Int.not_le, Int.toNat_natCast] at c2
      refine AW.skip ?_
      dsimp only [thenQ, blockQ]
      refine AW.seq ?_
      refine AW.block ?_
      refine AW.seq ?_
      refine AW.draw [0, 1, 2, 3, 4, 5, 6, 7, 8] rfl (by decide +kernel) ?_
      refine AWA.take 0 rfl rfl rfl (by decide +kernel) (.on rfl rfl Qt.move) ?_
      refine AWA.nrm (by first | (simp only [go_sem, Int.reduceToNat, Nat.reduceLT, reduceIte, Nat.reduceEqDiff, Nat.reduceAdd, Nat.reduceMul, Nat.reduceBEq, reduceCtorEq]; rfl) | rfl) ?_
      refine AWA.take 1 rfl rfl rfl (by decide +kernel) (.on rfl rfl Qt.move) ?_
      refine AWA.take 2 rfl rfl rfl (by decide +kernel) (.on rfl rfl (Qt.indexAddr rfl rfl rfl rfl sl47 sz4 (by decide) (by omega))) ?_
      refine AWA.take 3 rfl rfl rfl (by decide +kernel) (.on rfl rfl (Qt.load1 rfl rfl rfl ag4)) ?_
      refine AWA.nrm (by first | (simp only [go_sem, Int.reduceToNat, Nat.reduceLT, reduceIte, Nat.reduceEqDiff, Nat.reduceAdd, Nat.reduceMul, Nat.reduceBEq, reduceCtorEq]; rfl) | rfl) ?_
      refine AWA.take 4 rfl rfl rfl (by decide +kernel) (.on rfl rfl Qt.move) ?_
      refine AWA.take 5 rfl rfl rfl (by decide +kernel) (.on rfl rfl Qt.move) ?_
      refine AWA.take 6 rfl rfl rfl (by decide +kernel) (.on rfl rfl (Qt.indexAddr rfl rfl rfl rfl sl47 sz4 (by decide) (by omega))) ?_
      refine AWA.nrm (by first | (simp only [go_sem, Int.reduceToNat, Nat.reduceLT, reduceIte, Nat.reduceEqDiff, Nat.reduceAdd, Nat.reduceMul, Nat.reduceBEq, reduceCtorEq]; rfl) | rfl) ?_
      refine AWA.take 7 rfl rfl rfl (by decide +kernel) (.on rfl rfl (Qt.load1 rfl rfl rfl ag4)) ?_
      refine AWA.take 8 rfl rfl rfl (by decide +kernel) (.on rfl rfl (Qt.neB rfl rfl Try.underlying4)) ?_
      refine AWA.nilE (by decide +kernel) (by first | (simp only [go_sem, Int.reduceToNat, Nat.reduceLT, reduceIte, Nat.reduceEqDiff, Nat.reduceAdd, Nat.reduceMul, Nat.reduceBEq, reduceCtorEq]; rfl) | rfl) ?_
      try dsimp only [thenQ, blockQ]
      refine AW.cond rfl (fun c3 => ?_) (fun c3 => ?_)
      · have k3 := c3
        try simp only [decide_eq_true_eq, decide_eq_false_iff_not, bne_iff_ne, ne_eq, beq_iff_eq, beq_eq_false_iff_ne, bne_eq_false_iff_eq, Bool.not_eq_true', Bool.not_eq_false', Bool.and_eq_true, Bool.or_eq_true, Bool.and_eq_false_iff, Bool.or_eq_false_iff, Int.not_lt, Int.not_le, Int.toNat_natCast] at c3
        refine AW.seq ?_
        refine AW.region ?_
        refine AWL.q rfl rfl rfl (by decide) Qt.assign ?_
        refine AWL.nilE (by simp only [go_sem, Int.reduceToNat, Nat.reduceLT, reduceIte, Nat.reduceEqDiff, Nat.reduceAdd, Nat.reduceMul, Nat.reduceBEq, reduceCtorEq]; rfl) ?_
        try dsimp only [thenQ, blockQ]
        refine AW.ret ?_
        try dsimp only [thenQ, blockQ]
        refine endQ_ret (.cons (.tmp 4) .nil) ?_
        simp only [retX, slotL, reduceIte, Nat.reduceEqDiff]
        rw [decide_eq_false (show a ≠ b from i.stop En.dflt (by simpa using c3))]
      · have k3 := c3
        try simp only [decide_eq_true_eq, decide_eq_false_iff_not, bne_iff_ne, ne_eq, beq_iff_eq, beq_eq_false_iff_ne, bne_eq_false_iff_eq, Bool.not_eq_true', Bool.not_eq_false', Bool.and_eq_true, Bool.or_eq_true, Bool.and_eq_false_iff, Bool.or_eq_false_iff, Int.not_lt, Int.not_le, Int.toNat_natCast] at c3
        refine AW.skip ?_
        dsimp only [thenQ, blockQ]
        refine AW.region ?_
        refine AWL.q rfl rfl rfl (by decide) Qt.move ?_
        refine AWL.nrm (by simp only [go_sem, Int.reduceToNat, Nat.reduceLT, reduceIte, Nat.reduceEqDiff, Nat.reduceAdd, Nat.reduceMul, Nat.reduceBEq, reduceCtorEq]; rfl) ?_
        refine AWL.q rfl rfl rfl (by decide) (Qt.binOp rfl rfl (by first | exact pbAdd (by omega) | rfl)) ?_
        refine AWL.q rfl rfl rfl (by decide) Qt.assign ?_
        refine AWL.nilE (by simp only [go_sem, Int.reduceToNat, Nat.reduceLT, reduceIte, Nat.reduceEqDiff, Nat.reduceAdd, Nat.reduceMul, Nat.reduceBEq, reduceCtorEq]; rfl) ?_
        try dsimp only [thenQ, blockQ]
        refine ⟨⟨i.k + 1, by omega, i.next En.dflt (by omega) (by omega) (by simpa using c3)⟩, Weak.sim ⟨(by simp only [slotL, reduceIte, Nat.reduceEqDiff]; first | rfl | (rw [IntWalk.i64_in _ (by omega)]; rfl)), rfl, rfl, ⟨_, rfl, T.sim_refl _⟩, ⟨_, rfl, T.sim_refl _⟩, trivial⟩ rfl rfl, ?_⟩
        show a.length - (i.k + 1) < a.length - i.k
        omega
    · have k2 := c2
      try simp only [decide_eq_true_eq, decide_eq_false_iff_not, bne_iff_ne, ne_eq, beq_iff_eq, beq_eq_false_iff_ne, bne_eq_false_iff_eq, Bool.not_eq_true', Bool.not_eq_false', Bool.and_eq_true, Bool.or_eq_true, Bool.and_eq_false_iff, Bool.or_eq_false_iff, Int.not_lt, Int.not_le, Int.toNat_natCast] at c2
      refine AW.exit ?_
      dsimp only [thenQ, blockQ, reduceIte]
      refine AW.seq ?_
      refine AW.region ?_
      refine AWL.q rfl rfl rfl (by decide) Qt.assign ?_
      refine AWL.nilE (by simp only [go_sem, Int.reduceToNat, Nat.reduceLT, reduceIte, Nat.reduceEqDiff, Nat.reduceAdd, Nat.reduceMul, Nat.reduceBEq, reduceCtorEq]; rfl) ?_
      try dsimp only [thenQ, blockQ]
      refine AW.ret ?_
      try dsimp only [thenQ, blockQ]
      refine endQ_ret (.cons (.tmp 4) .nil) ?_
      simp only [retX, slotL, reduceIte, Nat.reduceEqDiff]
      rw [decide_eq_true (show a = b from i.full (by omega) (by omega))]
set_option maxHeartbeats 8000000 in
set_option maxRecDepth 10000 in
theorem eqAOpen_con (a b : DAOpen) : Con Try.prog 157 [.g [.v (.bool a.Used), .v (iv a.Kind), .v (iv a.Target), .v (iv a.Off), .v (iv a.Refs)], .g [.v (.bool b.Used), .v (iv b.Kind), .v (iv b.Target), .v (iv b.Off), .v (iv b.Refs)]] [] (fun y _ => y = .v (.bool (decide (a = b)))) := by
  refine Con.of_body Try.func157 rfl (by simp) ?_
  rw [Try.ntmps157]
  refine AW.seq ?_
  refine AW.region ?_
  refine AWL.step rfl rfl (Stp.boxB rfl (by decide) (by decide) rfl rfl rfl rfl) ?_
  refine AWL.nrm (by simp only [go_sem, Int.reduceToNat, Nat.reduceLT, reduceIte, Nat.reduceEqDiff, Nat.reduceAdd, Nat.reduceMul, Nat.reduceBEq, reduceCtorEq]; rfl) ?_
  refine AWL.step rfl rfl (Stp.boxB rfl (by decide) (by decide) rfl rfl rfl rfl) ?_
  refine AWL.nrm (by simp only [go_sem, Int.reduceToNat, Nat.reduceLT, reduceIte, Nat.reduceEqDiff, Nat.reduceAdd, Nat.reduceMul, Nat.reduceBEq, reduceCtorEq]; rfl) ?_
  refine AWL.q rfl rfl rfl (by decide) Qt.assign ?_
  refine AWL.nilE (by simp only [go_sem, Int.reduceToNat, Nat.reduceLT, reduceIte, Nat.reduceEqDiff, Nat.reduceAdd, Nat.reduceMul, Nat.reduceBEq, reduceCtorEq]; rfl) ?_
  try dsimp only [thenQ, blockQ]
  refine AW.seq ?_
  refine AW.seq ?_
  refine AW.region ?_
  refine AWL.q rfl rfl rfl (by decide) (Qt.fieldAddr rfl fl201_0 rfl rfl (by decide)) ?_
  refine AWL.q rfl rfl rfl (by decide) (Qt.load1 rfl rfl rfl ag4) ?_
  refine AWL.nrm (by simp only [go_sem, Int.reduceToNat, Nat.reduceLT, reduceIte, Nat.reduceEqDiff, Nat.reduceAdd, Nat.reduceMul, Nat.reduceBEq, reduceCtorEq]; rfl) ?_
  refine AWL.q rfl rfl rfl (by decide) (Qt.fieldAddr rfl fl201_0 rfl rfl (by decide)) ?_
  refine AWL.q rfl rfl rfl (by decide) (Qt.load1 rfl rfl rfl ag4) ?_
  refine AWL.q rfl rfl rfl (by decide) (Qt.neB rfl rfl Try.underlying4) ?_
  refine AWL.nilE (by simp only [go_sem, Int.reduceToNat, Nat.reduceLT, reduceIte, Nat.reduceEqDiff, Nat.reduceAdd, Nat.reduceMul, Nat.reduceBEq, reduceCtorEq]; rfl) ?_
  try dsimp only [thenQ, blockQ]
  refine AW.cond rfl (fun c1 => ?_) (fun c1 => ?_)
  · have k1 := c1
    try simp only [decide_eq_true_eq, decide_eq_false_iff_not, bne_iff_ne, ne_eq, beq_iff_eq, beq_eq_false_iff_ne, bne_eq_false_iff_eq, Bool.not_eq_true', Bool.not_eq_false', Bool.and_eq_true, Bool.or_eq_true, Bool.and_eq_false_iff, Bool.or_eq_false_iff, Int.not_lt, Int.not_le, Int.toNat_natCast] at c1
    refine AW.seq ?_
    refine AW.region ?_
    refine AWL.q rfl rfl rfl (by decide) Qt.assign ?_
    refine AWL.nilE (by simp only [go_sem, Int.reduceToNat, Nat.reduceLT, reduceIte, Nat.reduceEqDiff, Nat.reduceAdd, Nat.reduceMul, Nat.reduceBEq, reduceCtorEq]; rfl) ?_
    try dsimp only [thenQ, blockQ]
    refine AW.ret ?_
    try dsimp only [thenQ, blockQ]
    refine endQ_ret (.cons (.tmp 4) .nil) ?_
    simp only [retX, slotL, reduceIte, Nat.reduceEqDiff]
    cases a
    cases b
    simp_all
  · have k1 := c1
    try simp only [decide_eq_true_eq, decide_eq_false_iff_not, bne_iff_ne, ne_eq, beq_iff_eq, beq_eq_false_iff_ne, bne_eq_false_iff_eq, Bool.not_eq_true', Bool.not_eq_false', Bool.and_eq_true, Bool.or_eq_true, Bool.and_eq_false_iff, Bool.or_eq_false_iff, Int.not_lt, Int.not_le, Int.toNat_natCast] at c1
    refine AW.skip ?_
    dsimp only [thenQ, blockQ]
    refine AW.seq ?_
    refine AW.seq ?_
    refine AW.region ?_
    refine AWL.q rfl rfl rfl (by decide) (Qt.fieldAddr rfl fl201_1 rfl rfl (by decide)) ?_
    refine AWL.nrm (by simp only [go_sem, Int.reduceToNat, Nat.reduceLT, reduceIte, Nat.reduceEqDiff, Nat.reduceAdd, Nat.reduceMul, Nat.reduceBEq, reduceCtorEq]; rfl) ?_
    refine AWL.q rfl rfl rfl (by decide) (Qt.load1 rfl rfl rfl ag3) ?_
    refine AWL.q rfl rfl rfl (by decide) (Qt.fieldAddr rfl fl201_1 rfl rfl (by decide)) ?_
    refine AWL.q rfl rfl rfl (by decide) (Qt.load1 rfl rfl rfl ag3) ?_
    refine AWL.nrm (by simp only [go_sem, Int.reduceToNat, Nat.reduceLT, reduceIte, Nat.reduceEqDiff, Nat.reduceAdd, Nat.reduceMul, Nat.reduceBEq, reduceCtorEq]; rfl) ?_
    refine AWL.q rfl rfl rfl (by decide) (Qt.binOp rfl rfl rfl) ?_
    refine AWL.nilE (by simp only [go_sem, Int.reduceToNat, Nat.reduceLT, reduceIte, Nat.reduceEqDiff, Nat.reduceAdd, Nat.reduceMul, Nat.reduceBEq, reduceCtorEq]; rfl) ?_
    try dsimp only [thenQ, blockQ]
    refine AW.cond rfl (fun c2 => ?_) (fun c2 => ?_)
    · have k2 := c2
      try simp only [decide_eq_true_eq, decide_eq_false_iff_not, bne_iff_ne, ne_eq, beq_iff_eq, beq_eq_false_iff_ne, bne_eq_false_iff_eq, Bool.not_eq_true', Bool.not_eq_false', Bool.and_eq_true, Bool.or_eq_true, Bool.and_eq_false_iff, Bool.or_eq_false_iff, Int.not_lt, Int.not_le, Int.toNat_natCast] at c2
      refine AW.seq ?_
      refine AW.region ?_
      refine AWL.q rfl rfl rfl (by decide) Qt.assign ?_
      refine AWL.nilE (by simp only [go_sem, Int.reduceToNat, Nat.reduceLT, reduceIte, Nat.reduceEqDiff, Nat.reduceAdd, Nat.reduceMul, Nat.reduceBEq, reduceCtorEq]; rfl) ?_
      try dsimp only [thenQ, blockQ]
      refine AW.ret ?_
      try dsimp only [thenQ, blockQ]
      refine endQ_ret (.cons (.tmp 4) .nil) ?_
      simp only [retX, slotL, reduceIte, Nat.reduceEqDiff]
      cases a
      cases b
      simp_all
    · have k2 := c2
      try simp only [decide_eq_true_eq, decide_eq_false_iff_not, bne_iff_ne, ne_eq, beq_iff_eq, beq_eq_false_iff_ne, bne_eq_false_iff_eq, Bool.not_eq_true', Bool.not_eq_false', Bool.and_eq_true, Bool.or_eq_true, Bool.and_eq_false_iff, Bool.or_eq_false_iff, Int.not_lt, Int.not_le, Int.toNat_natCast] at c2
      refine AW.skip ?_
      dsimp only [thenQ, blockQ]
      refine AW.seq ?_
      refine AW.seq ?_
      refine AW.region ?_
      refine AWL.q rfl rfl rfl (by decide) (Qt.fieldAddr rfl fl201_2 rfl rfl (by decide)) ?_
      refine AWL.nrm (by simp only [go_sem, Int.reduceToNat, Nat.reduceLT, reduceIte, Nat.reduceEqDiff, Nat.reduceAdd, Nat.reduceMul, Nat.reduceBEq, reduceCtorEq]; rfl) ?_
      refine AWL.q rfl rfl rfl (by decide) (Qt.load1 rfl rfl rfl ag3) ?_
      refine AWL.q rfl rfl rfl (by decide) (Qt.fieldAddr rfl fl201_2 rfl rfl (by decide)) ?_
      refine AWL.q rfl rfl rfl (by decide) (Qt.load1 rfl rfl rfl ag3) ?_
      refine AWL.nrm (by simp only [go_sem, Int.reduceToNat, Nat.reduceLT, reduceIte, Nat.reduceEqDiff, Nat.reduceAdd, Nat.reduceMul, Nat.reduceBEq, reduceCtorEq]; rfl) ?_
      refine AWL.q rfl rfl rfl (by decide) (Qt.binOp rfl rfl rfl) ?_
      refine AWL.nilE (by simp only [go_sem, Int.reduceToNat, Nat.reduceLT, reduceIte, Nat.reduceEqDiff, Nat.reduceAdd, Nat.reduceMul, Nat.reduceBEq, reduceCtorEq]; rfl) ?_
      try dsimp only [thenQ, blockQ]
      refine AW.cond rfl (fun c3 => ?_) (fun c3 => ?_)
      · have k3 := c3
        try simp only [decide_eq_true_eq, decide_eq_false_iff_not, bne_iff_ne, ne_eq, beq_iff_eq, beq_eq_false_iff_ne, bne_eq_false_iff_eq, Bool.not_eq_true', Bool.not_eq_false', Bool.and_eq_true, Bool.or_eq_true, Bool.and_eq_false_iff, Bool.or_eq_false_iff, Int.not_lt, Int.not_le, Int.toNat_natCast] at c3
        refine AW.seq ?_
        refine AW.region ?_
        refine AWL.q rfl rfl rfl (by decide) Qt.assign ?_
        refine AWL.nilE (by simp only [go_sem, Int.reduceToNat, Nat.reduceLT, reduceIte, Nat.reduceEqDiff, Nat.reduceAdd, Nat.reduceMul, Nat.reduceBEq, reduceCtorEq]; rfl) ?_
        try dsimp only [thenQ, blockQ]
        refine AW.ret ?_
        try dsimp only [thenQ, blockQ]
        refine endQ_ret (.cons (.tmp 4) .nil) ?_
        simp only [retX, slotL, reduceIte, Nat.reduceEqDiff]
        cases a
        cases b
        simp_all
      · have k3 := c3
        try simp only [decide_eq_true_eq, decide_eq_false_iff_not, bne_iff_ne, ne_eq, beq_iff_eq, beq_eq_false_iff_ne, bne_eq_false_iff_eq, Bool.not_eq_true', Bool.not_eq_false', Bool.and_eq_true, Bool.or_eq_true, Bool.and_eq_false_iff, Bool.or_eq_false_iff, Int.not_lt, Int.not_le, Int.toNat_natCast] at c3
        refine AW.skip ?_
        dsimp only [thenQ, blockQ]
        refine AW.seq ?_
        refine AW.seq ?_
        refine AW.region ?_
        refine AWL.q rfl rfl rfl (by decide) (Qt.fieldAddr rfl fl201_3 rfl rfl (by decide)) ?_
        refine AWL.nrm (by simp only [go_sem, Int.reduceToNat, Nat.reduceLT, reduceIte, Nat.reduceEqDiff, Nat.reduceAdd, Nat.reduceMul, Nat.reduceBEq, reduceCtorEq]; rfl) ?_
        refine AWL.q rfl rfl rfl (by decide) (Qt.load1 rfl rfl rfl ag3) ?_
        refine AWL.q rfl rfl rfl (by decide) (Qt.fieldAddr rfl fl201_3 rfl rfl (by decide)) ?_
        refine AWL.q rfl rfl rfl (by decide) (Qt.load1 rfl rfl rfl ag3) ?_
        refine AWL.nrm (by simp only [go_sem, Int.reduceToNat, Nat.reduceLT, reduceIte, Nat.reduceEqDiff, Nat.reduceAdd, Nat.reduceMul, Nat.reduceBEq, reduceCtorEq]; rfl) ?_
        refine AWL.q rfl rfl rfl (by decide) (Qt.binOp rfl rfl rfl) ?_
        refine AWL.nilE (by simp only [go_sem, Int.reduceToNat, Nat.reduceLT, reduceIte, Nat.reduceEqDiff, Nat.reduceAdd, Nat.reduceMul, Nat.reduceBEq, reduceCtorEq]; rfl) ?_
        try dsimp only [thenQ, blockQ]
        refine AW.cond rfl (fun c4 => ?_) (fun c4 => ?_)
        · have k4 := c4
          try simp only [decide_eq_true_eq, decide_eq_false_iff_not, bne_iff_ne, ne_eq, beq_iff_eq, beq_eq_false_iff_ne, bne_eq_false_iff_eq, Bool.not_eq_true', Bool.not_eq_false', Bool.and_eq_true, Bool.or_eq_true, Bool.and_eq_false_iff, Bool.or_eq_false_iff, Int.not_lt, Int.not_le, Int.toNat_natCast] at c4
          refine AW.seq ?_
          refine AW.region ?_
          refine AWL.q rfl rfl rfl (by decide) Qt.assign ?_
          refine AWL.nilE (by simp only [go_sem, Int.reduceToNat, Nat.reduceLT, reduceIte, Nat.reduceEqDiff, Nat.reduceAdd, Nat.reduceMul, Nat.reduceBEq, reduceCtorEq]; rfl) ?_
          try dsimp only [thenQ, blockQ]
          refine AW.ret ?_
          try dsimp only [thenQ, blockQ]
          refine endQ_ret (.cons (.tmp 4) .nil) ?_
          simp only [retX, slotL, reduceIte, Nat.reduceEqDiff]
          cases a
          cases b
          simp_all
        · have k4 := c4
          try simp only [decide_eq_true_eq, decide_eq_false_iff_not, bne_iff_ne, ne_eq, beq_iff_eq, beq_eq_false_iff_ne, bne_eq_false_iff_eq, Bool.not_eq_true', Bool.not_eq_false', Bool.and_eq_true, Bool.or_eq_true, Bool.and_eq_false_iff, Bool.or_eq_false_iff, Int.not_lt, Int.not_le, Int.toNat_natCast] at c4
          refine AW.skip ?_
          dsimp only [thenQ, blockQ]
          refine AW.seq ?_
          refine AW.seq ?_
          refine AW.region ?_
          refine AWL.q rfl rfl rfl (by decide) (Qt.fieldAddr rfl fl201_4 rfl rfl (by decide)) ?_
          refine AWL.nrm (by simp only [go_sem, Int.reduceToNat, Nat.reduceLT, reduceIte, Nat.reduceEqDiff, Nat.reduceAdd, Nat.reduceMul, Nat.reduceBEq, reduceCtorEq]; rfl) ?_
          refine AWL.q rfl rfl rfl (by decide) (Qt.load1 rfl rfl rfl ag3) ?_
          refine AWL.q rfl rfl rfl (by decide) (Qt.fieldAddr rfl fl201_4 rfl rfl (by decide)) ?_
          refine AWL.q rfl rfl rfl (by decide) (Qt.load1 rfl rfl rfl ag3) ?_
          refine AWL.nrm (by simp only [go_sem, Int.reduceToNat, Nat.reduceLT, reduceIte, Nat.reduceEqDiff, Nat.reduceAdd, Nat.reduceMul, Nat.reduceBEq, reduceCtorEq]; rfl) ?_
          refine AWL.q rfl rfl rfl (by decide) (Qt.binOp rfl rfl rfl) ?_
          refine AWL.nilE (by simp only [go_sem, Int.reduceToNat, Nat.reduceLT, reduceIte, Nat.reduceEqDiff, Nat.reduceAdd, Nat.reduceMul, Nat.reduceBEq, reduceCtorEq]; rfl) ?_
          try dsimp only [thenQ, blockQ]
          refine AW.cond rfl (fun c5 => ?_) (fun c5 => ?_)
          · have k5 := c5
            try simp only [decide_eq_true_eq, decide_eq_false_iff_not, bne_iff_ne, ne_eq, beq_iff_eq, beq_eq_false_iff_ne, bne_eq_false_iff_eq, Bool.not_eq_true', Bool.not_eq_false', Bool.and_eq_true, Bool.or_eq_true, Bool.and_eq_false_iff, Bool.or_eq_false_iff, Int.not_lt, Int.not_le, Int.toNat_natCast] at c5
            refine AW.seq ?_
            refine AW.region ?_
            refine AWL.q rfl rfl rfl (by decide) Qt.assign ?_
            refine AWL.nilE (by simp only [go_sem, Int.reduceToNat, Nat.reduceLT, reduceIte, Nat.reduceEqDiff, Nat.reduceAdd, Nat.reduceMul, Nat.reduceBEq, reduceCtorEq]; rfl) ?_
            try dsimp only [thenQ, blockQ]
            refine AW.ret ?_
            try dsimp only [thenQ, blockQ]
            refine endQ_ret (.cons (.tmp 4) .nil) ?_
            simp only [retX, slotL, reduceIte, Nat.reduceEqDiff]
            cases a
            cases b
            simp_all
          · have k5 := c5
            try simp only [decide_eq_true_eq, decide_eq_false_iff_not, bne_iff_ne, ne_eq, beq_iff_eq, beq_eq_false_iff_ne, bne_eq_false_iff_eq, Bool.not_eq_true', Bool.not_eq_false', Bool.and_eq_true, Bool.or_eq_true, Bool.and_eq_false_iff, Bool.or_eq_false_iff, Int.not_lt, Int.not_le, Int.toNat_natCast] at c5
            refine AW.skip ?_
            dsimp only [thenQ, blockQ]
            refine AW.seq ?_
            refine AW.region ?_
            refine AWL.q rfl rfl rfl (by decide) Qt.assign ?_
            refine AWL.nilE (by simp only [go_sem, Int.reduceToNat, Nat.reduceLT, reduceIte, Nat.reduceEqDiff, Nat.reduceAdd, Nat.reduceMul, Nat.reduceBEq, reduceCtorEq]; rfl) ?_
            try dsimp only [thenQ, blockQ]
            refine AW.ret ?_
            try dsimp only [thenQ, blockQ]
            refine endQ_ret (.cons (.tmp 4) .nil) ?_
            simp only [retX, slotL, reduceIte, Nat.reduceEqDiff]
            cases a
            cases b
            simp_all
set_option maxHeartbeats 8000000 in
set_option maxRecDepth 10000 in
theorem eqAOpenS_con (a b : List DAOpen) : Con Try.prog 69 [.h base [], .h (base + 1) []] [.rt base .ro (tr a), .rt (base + 1) .ro (tr b)] (fun y _ => y = .v (.bool (decide (a = b)))) := by
  refine Con.of_body Try.func69 rfl (by simp) ?_
  rw [Try.ntmps69]
  refine AW.len base [] rfl (by simp [Okp]) rfl (fun hl => ?_)
  refine AW.len (base + 1) [] rfl (by simp [Okp]) rfl (fun hl2 => ?_)
  refine AW.seq ?_
  refine AW.region ?_
  refine AWL.q rfl rfl rfl (by decide) Qt.assign ?_
  refine AWL.nilE (by simp only [go_sem, Int.reduceToNat, Nat.reduceLT, reduceIte, Nat.reduceEqDiff, Nat.reduceAdd, Nat.reduceMul, Nat.reduceBEq, reduceCtorEq]; rfl) ?_
  try dsimp only [thenQ, blockQ]
  refine AW.seq ?_
  refine AW.seq ?_
  refine AW.region ?_
  refine AWL.q rfl rfl rfl (by decide) Qt.move ?_
  refine AWL.q rfl rfl rfl (by decide) (Qt.lenH rfl rfl rfl sl58) ?_
  refine AWL.nrm (by simp only [go_sem, Int.reduceToNat, Nat.reduceLT, reduceIte, Nat.reduceEqDiff, Nat.reduceAdd, Nat.reduceMul, Nat.reduceBEq, reduceCtorEq]; rfl) ?_
  refine AWL.q rfl rfl rfl (by decide) Qt.move ?_
  refine AWL.q rfl rfl rfl (by decide) (Qt.lenH rfl rfl rfl sl58) ?_
  refine AWL.q rfl rfl rfl (by decide) (Qt.binOp rfl rfl rfl) ?_
  refine AWL.nilE (by simp only [go_sem, Int.reduceToNat, Nat.reduceLT, reduceIte, Nat.reduceEqDiff, Nat.reduceAdd, Nat.reduceMul, Nat.reduceBEq, reduceCtorEq]; rfl) ?_
  try dsimp only [thenQ, blockQ]
  refine AW.cond rfl (fun c1 => ?_) (fun c1 => ?_)
  · have k1 := c1
    try simp only [decide_eq_true_eq, decide_eq_false_iff_not, bne_iff_ne, ne_eq, beq_iff_eq, beq_eq_false_iff_ne, bne_eq_false_iff_eq, Bool.not_eq_true', Bool.not_eq_false', Bool.and_eq_true, Bool.or_eq_true, Bool.and_eq_false_iff, Bool.or_eq_false_iff, Int.not_lt, Int.not_le, Int.toNat_natCast] at c1
    refine AW.seq ?_
    refine AW.region ?_
    refine AWL.q rfl rfl rfl (by decide) Qt.assign ?_
    refine AWL.nilE (by simp only [go_sem, Int.reduceToNat, Nat.reduceLT, reduceIte, Nat.reduceEqDiff, Nat.reduceAdd, Nat.reduceMul, Nat.reduceBEq, reduceCtorEq]; rfl) ?_
    try dsimp only [thenQ, blockQ]
    refine AW.ret ?_
    try dsimp only [thenQ, blockQ]
    refine endQ_ret (.cons (.tmp 4) .nil) ?_
    simp only [retX, slotL, reduceIte, Nat.reduceEqDiff]
    rw [decide_eq_false (show a ≠ b from ne_of_len (by omega))]
  · have k1 := c1
    try simp only [decide_eq_true_eq, decide_eq_false_iff_not, bne_iff_ne, ne_eq, beq_iff_eq, beq_eq_false_iff_ne, bne_eq_false_iff_eq, Bool.not_eq_true', Bool.not_eq_false', Bool.and_eq_true, Bool.or_eq_true, Bool.and_eq_false_iff, Bool.or_eq_false_iff, Int.not_lt, Int.not_le, Int.toNat_natCast] at c1
    refine AW.skip ?_
    dsimp only [thenQ, blockQ]
    refine AW.seq ?_
    refine AW.seq ?_
    refine AW.region ?_
    refine AWL.q rfl rfl rfl (by decide) Qt.assign ?_
    refine AWL.nilE (by simp only [go_sem, Int.reduceToNat, Nat.reduceLT, reduceIte, Nat.reduceEqDiff, Nat.reduceAdd, Nat.reduceMul, Nat.reduceBEq, reduceCtorEq]; rfl) ?_
    try dsimp only [thenQ, blockQ]
    refine AW.block ?_
    refine AW.weak (L' := [.sl 5 (.v (iv (0 : Nat))), .sl 0 (.h base []), .sl 1 (.h (base + 1) []), .rt base .ro (tr a), .rt (base + 1) .ro (tr b)]) (Weak.sim ⟨rfl, rfl, rfl, ⟨_, rfl, T.sim_refl _⟩, ⟨_, rfl, T.sim_refl _⟩, trivial⟩ rfl rfl) ?_
    refine AW.loop (fun i : EqInv a b => [.sl 5 (.v (iv i.k)), .sl 0 (.h base []), .sl 1 (.h (base + 1) []), .rt base .ro (tr a), .rt (base + 1) .ro (tr b)]) (fun i => a.length - i.k) ⟨0, Nat.zero_le _, rfl⟩ ?_
    intro i
    have hle := i.le
    refine AW.seq ?_
    refine AW.seq ?_
    refine AW.region ?_
    refine AWL.q rfl rfl rfl (by decide) Qt.move ?_
    refine AWL.nrm (by simp only [go_sem, Int.reduceToNat, Nat.reduceLT, reduceIte, Nat.reduceEqDiff, Nat.reduceAdd, Nat.reduceMul, Nat.reduceBEq, reduceCtorEq]; rfl) ?_
    refine AWL.q rfl rfl rfl (by decide) Qt.move ?_
    refine AWL.q rfl rfl rfl (by decide) (Qt.lenH rfl rfl rfl sl58) ?_
    refine AWL.q rfl rfl rfl (by decide) (Qt.binOp rfl rfl rfl) ?_
    refine AWL.nilE (by simp only [go_sem, Int.reduceToNat, Nat.reduceLT, reduceIte, Nat.reduceEqDiff, Nat.reduceAdd, Nat.reduceMul, Nat.reduceBEq, reduceCtorEq]; rfl) ?_
    try dsimp only [thenQ, blockQ]
    refine AW.cond rfl (fun c2 => ?_) (fun c2 => ?_)
    · have k2 := c2
      try simp only [decide_eq_true_eq, decide_eq_false_iff_not, bne_iff_ne, ne_eq, beq_iff_eq, beq_eq_false_iff_ne, bne_eq_false_iff_eq, Bool.not_eq_true', Bool.not_eq_false', Bool.and_eq_true, Bool.or_eq_true, Bool.and_eq_false_iff, Bool.or_eq_false_iff, Int.not_lt, Int.not_le, Int.toNat_natCast] at c2
      refine AW.skip ?_
      dsimp only [thenQ, blockQ]
      refine AW.seq ?_
      refine AW.block ?_
      refine AW.seq ?_
      refine AW.draw [0, 1, 2, 3, 4, 5, 6, 7, 9] rfl (by decide +kernel) ?_
      refine AWA.take 0 rfl rfl rfl (by decide +kernel) (.on rfl rfl Qt.move) ?_
      refine AWA.nrm (by first | (simp only [go_sem, Int.reduceToNat, Nat.reduceLT, reduceIte, Nat.reduceEqDiff, Nat.reduceAdd, Nat.reduceMul, Nat.reduceBEq, reduceCtorEq]; rfl) | rfl) ?_
      refine AWA.take 1 rfl rfl rfl (by decide +kernel) (.on rfl rfl Qt.move) ?_
      refine AWA.take 2 rfl rfl rfl (by decide +kernel) (.on rfl rfl (Qt.indexAddr rfl rfl rfl rfl sl58 sz201 (by decide) (by omega))) ?_
      refine AWA.take 3 rfl rfl rfl (by decide +kernel) (.on rfl rfl (Qt.loadG rfl rfl rfl ag201 sz201 (by decide))) ?_
      refine AWA.nrm (by first | (simp only [go_sem, Int.reduceToNat, Nat.reduceLT, reduceIte, Nat.reduceEqDiff, Nat.reduceAdd, Nat.reduceMul, Nat.reduceBEq, reduceCtorEq]; rfl) | rfl) ?_
      refine AWA.take 4 rfl rfl rfl (by decide +kernel) (.on rfl rfl Qt.move) ?_
      refine AWA.take 5 rfl rfl rfl (by decide +kernel) (.on rfl rfl Qt.move) ?_
      refine AWA.take 6 rfl rfl rfl (by decide +kernel) (.on rfl rfl (Qt.indexAddr rfl rfl rfl rfl sl58 sz201 (by decide) (by omega))) ?_
      refine AWA.nrm (by first | (simp only [go_sem, Int.reduceToNat, Nat.reduceLT, reduceIte, Nat.reduceEqDiff, Nat.reduceAdd, Nat.reduceMul, Nat.reduceBEq, reduceCtorEq]; rfl) | rfl) ?_
      refine AWA.take 7 rfl rfl rfl (by decide +kernel) (.on rfl rfl (Qt.loadG rfl rfl rfl ag201 sz201 (by decide))) ?_
      refine AWA.one 8 [] [7, 3, 6, 2, 5, 4, 1, 0] (by decide +kernel) rfl rfl rfl (by decide +kernel) (by decide +kernel) (by decide +kernel) (Stp.callV rfl (by decide) Try.call157 rfl rfl (eqAOpen_con _ _)) ?_
      refine AWA.nrm (by first | (simp only [go_sem, Int.reduceToNat, Nat.reduceLT, reduceIte, Nat.reduceEqDiff, Nat.reduceAdd, Nat.reduceMul, Nat.reduceBEq, reduceCtorEq]; rfl) | rfl) ?_
      refine AWA.nrm (by first | (simp only [go_sem, Int.reduceToNat, Nat.reduceLT, reduceIte, Nat.reduceEqDiff, Nat.reduceAdd, Nat.reduceMul, Nat.reduceBEq, reduceCtorEq]; rfl) | rfl) ?_
      refine AWA.take 9 rfl rfl rfl (by decide +kernel) (.on rfl rfl (Qt.notB rfl)) ?_
      refine AWA.nilE (by decide +kernel) (by first | (simp only [go_sem, Int.reduceToNat, Nat.reduceLT, reduceIte, Nat.reduceEqDiff, Nat.reduceAdd, Nat.reduceMul, Nat.reduceBEq, reduceCtorEq]; rfl) | rfl) ?_
      try dsimp only [thenQ, blockQ]
      refine AW.cond rfl (fun c3 => ?_) (fun c3 => ?_)
      · have k3 := c3
        try simp only [decide_eq_true_eq, decide_eq_false_iff_not, bne_iff_ne, ne_eq, beq_iff_eq, beq_eq_false_iff_ne, bne_eq_false_iff_eq, Bool.not_eq_true', Bool.not_eq_false', Bool.and_eq_true, Bool.or_eq_true, Bool.and_eq_false_iff, Bool.or_eq_false_iff, Int.not_lt, Int.not_le, Int.toNat_natCast] at c3
        refine AW.seq ?_
        refine AW.region ?_
        refine AWL.q rfl rfl rfl (by decide) Qt.assign ?_
        refine AWL.nilE (by simp only [go_sem, Int.reduceToNat, Nat.reduceLT, reduceIte, Nat.reduceEqDiff, Nat.reduceAdd, Nat.reduceMul, Nat.reduceBEq, reduceCtorEq]; rfl) ?_
        try dsimp only [thenQ, blockQ]
        refine AW.ret ?_
        try dsimp only [thenQ, blockQ]
        refine endQ_ret (.cons (.tmp 4) .nil) ?_
        simp only [retX, slotL, reduceIte, Nat.reduceEqDiff]
        rw [decide_eq_false (show a ≠ b from i.stop En.dflt (by simpa using c3))]
      · have k3 := c3
        try simp only [decide_eq_true_eq, decide_eq_false_iff_not, bne_iff_ne, ne_eq, beq_iff_eq, beq_eq_false_iff_ne, bne_eq_false_iff_eq, Bool.not_eq_true', Bool.not_eq_false', Bool.and_eq_true, Bool.or_eq_true, Bool.and_eq_false_iff, Bool.or_eq_false_iff, Int.not_lt, Int.not_le, Int.toNat_natCast] at c3
        refine AW.skip ?_
        dsimp only [thenQ, blockQ]
        refine AW.region ?_
        refine AWL.q rfl rfl rfl (by decide) Qt.move ?_
        refine AWL.nrm (by simp only [go_sem, Int.reduceToNat, Nat.reduceLT, reduceIte, Nat.reduceEqDiff, Nat.reduceAdd, Nat.reduceMul, Nat.reduceBEq, reduceCtorEq]; rfl) ?_
        refine AWL.q rfl rfl rfl (by decide) (Qt.binOp rfl rfl (by first | exact pbAdd (by omega) | rfl)) ?_
        refine AWL.q rfl rfl rfl (by decide) Qt.assign ?_
        refine AWL.nilE (by simp only [go_sem, Int.reduceToNat, Nat.reduceLT, reduceIte, Nat.reduceEqDiff, Nat.reduceAdd, Nat.reduceMul, Nat.reduceBEq, reduceCtorEq]; rfl) ?_
        try dsimp only [thenQ, blockQ]
        refine ⟨⟨i.k + 1, by omega, i.next En.dflt (by omega) (by omega) (by simpa using c3)⟩, Weak.sim ⟨(by simp only [slotL, reduceIte, Nat.reduceEqDiff]; first | rfl | (rw [IntWalk.i64_in _ (by omega)]; rfl)), rfl, rfl, ⟨_, rfl, T.sim_refl _⟩, ⟨_, rfl, T.sim_refl _⟩, trivial⟩ rfl rfl, ?_⟩
        show a.length - (i.k + 1) < a.length - i.k
        omega
    · have k2 := c2
      try simp only [decide_eq_true_eq, decide_eq_false_iff_not, bne_iff_ne, ne_eq, beq_iff_eq, beq_eq_false_iff_ne, bne_eq_false_iff_eq, Bool.not_eq_true', Bool.not_eq_false', Bool.and_eq_true, Bool.or_eq_true, Bool.and_eq_false_iff, Bool.or_eq_false_iff, Int.not_lt, Int.not_le, Int.toNat_natCast] at c2
      refine AW.exit ?_
      dsimp only [thenQ, blockQ, reduceIte]
      refine AW.seq ?_
      refine AW.region ?_
      refine AWL.q rfl rfl rfl (by decide) Qt.assign ?_
      refine AWL.nilE (by simp only [go_sem, Int.reduceToNat, Nat.reduceLT, reduceIte, Nat.reduceEqDiff, Nat.reduceAdd, Nat.reduceMul, Nat.reduceBEq, reduceCtorEq]; rfl) ?_
      try dsimp only [thenQ, blockQ]
      refine AW.ret ?_
      try dsimp only [thenQ, blockQ]
      refine endQ_ret (.cons (.tmp 4) .nil) ?_
      simp only [retX, slotL, reduceIte, Nat.reduceEqDiff]
      rw [decide_eq_true (show a = b from i.full (by omega) (by omega))]
set_option maxHeartbeats 8000000 in
set_option maxRecDepth 10000 in
theorem eqARing_con (a b : DARing) : Con Try.prog 72 [.g [.v (.bool a.Used), .h base [], .v (iv a.Head), .v (iv a.Len)], .g [.v (.bool b.Used), .h (base + 1) [], .v (iv b.Head), .v (iv b.Len)]] [.rt base .ro (tr a.Buf), .rt (base + 1) .ro (tr b.Buf)] (fun y _ => y = .v (.bool (decide (a = b)))) := by
  refine Con.of_body Try.func72 rfl (by simp) ?_
  rw [Try.ntmps72]
  refine AW.seq ?_
  refine AW.region ?_
  refine AWL.step rfl rfl (Stp.boxB rfl (by decide) (by decide) rfl rfl rfl rfl) ?_
  refine AWL.nrm (by simp only [go_sem, Int.reduceToNat, Nat.reduceLT, reduceIte, Nat.reduceEqDiff, Nat.reduceAdd, Nat.reduceMul, Nat.reduceBEq, reduceCtorEq]; rfl) ?_
  refine AWL.step rfl rfl (Stp.boxB rfl (by decide) (by decide) rfl rfl rfl rfl) ?_
  refine AWL.nrm (by simp only [go_sem, Int.reduceToNat, Nat.reduceLT, reduceIte, Nat.reduceEqDiff, Nat.reduceAdd, Nat.reduceMul, Nat.reduceBEq, reduceCtorEq]; rfl) ?_
  refine AWL.q rfl rfl rfl (by decide) Qt.assign ?_
  refine AWL.nilE (by simp only [go_sem, Int.reduceToNat, Nat.reduceLT, reduceIte, Nat.reduceEqDiff, Nat.reduceAdd, Nat.reduceMul, Nat.reduceBEq, reduceCtorEq]; rfl) ?_
  try dsimp only [thenQ, blockQ]
  refine AW.seq ?_
  refine AW.seq ?_
  refine AW.region ?_
  refine AWL.q rfl rfl rfl (by decide) (Qt.fieldAddr rfl fl61_0 rfl rfl (by decide)) ?_
  refine AWL.q rfl rfl rfl (by decide) (Qt.load1 rfl rfl rfl ag4) ?_
  refine AWL.nrm (by simp only [go_sem, Int.reduceToNat, Nat.reduceLT, reduceIte, Nat.reduceEqDiff, Nat.reduceAdd, Nat.reduceMul, Nat.reduceBEq, reduceCtorEq]; rfl) ?_
  refine AWL.q rfl rfl rfl (by decide) (Qt.fieldAddr rfl fl61_0 rfl rfl (by decide)) ?_
  refine AWL.q rfl rfl rfl (by decide) (Qt.load1 rfl rfl rfl ag4) ?_
  refine AWL.q rfl rfl rfl (by decide) (Qt.neB rfl rfl Try.underlying4) ?_
  refine AWL.nilE (by simp only [go_sem, Int.reduceToNat, Nat.reduceLT, reduceIte, Nat.reduceEqDiff, Nat.reduceAdd, Nat.reduceMul, Nat.reduceBEq, reduceCtorEq]; rfl) ?_
  try dsimp only [thenQ, blockQ]
  refine AW.cond rfl (fun c1 => ?_) (fun c1 => ?_)
  · have k1 := c1
    try simp only [decide_eq_true_eq, decide_eq_false_iff_not, bne_iff_ne, ne_eq, beq_iff_eq, beq_eq_false_iff_ne, bne_eq_false_iff_eq, Bool.not_eq_true', Bool.not_eq_false', Bool.and_eq_true, Bool.or_eq_true, Bool.and_eq_false_iff, Bool.or_eq_false_iff, Int.not_lt, Int.not_le, Int.toNat_natCast] at c1
    refine AW.seq ?_
    refine AW.region ?_
    refine AWL.q rfl rfl rfl (by decide) Qt.assign ?_
    refine AWL.nilE (by simp only [go_sem, Int.reduceToNat, Nat.reduceLT, reduceIte, Nat.reduceEqDiff, Nat.reduceAdd, Nat.reduceMul, Nat.reduceBEq, reduceCtorEq]; rfl) ?_
    try dsimp only [thenQ, blockQ]
    refine AW.ret ?_
    try dsimp only [thenQ, blockQ]
    refine endQ_ret (.cons (.tmp 4) .nil) ?_
    simp only [retX, slotL, reduceIte, Nat.reduceEqDiff]
    cases a
    cases b
    simp_all
  · have k1 := c1
    try simp only [decide_eq_true_eq, decide_eq_false_iff_not, bne_iff_ne, ne_eq, beq_iff_eq, beq_eq_false_iff_ne, bne_eq_false_iff_eq, Bool.not_eq_true', Bool.not_eq_false', Bool.and_eq_true, Bool.or_eq_true, Bool.and_eq_false_iff, Bool.or_eq_false_iff, Int.not_lt, Int.not_le, Int.toNat_natCast] at c1
    refine AW.skip ?_
    dsimp only [thenQ, blockQ]
    refine AW.seq ?_
    refine AW.seq ?_
    refine AW.region ?_
    refine AWL.q rfl rfl rfl (by decide) (Qt.fieldAddr rfl fl61_1 rfl rfl (by decide)) ?_
    refine AWL.nrm (by simp only [go_sem, Int.reduceToNat, Nat.reduceLT, reduceIte, Nat.reduceEqDiff, Nat.reduceAdd, Nat.reduceMul, Nat.reduceBEq, reduceCtorEq]; rfl) ?_
    refine AWL.q rfl rfl rfl (by decide) (Qt.load1 rfl rfl rfl ag24) ?_
    refine AWL.q rfl rfl rfl (by decide) (Qt.fieldAddr rfl fl61_1 rfl rfl (by decide)) ?_
    refine AWL.q rfl rfl rfl (by decide) (Qt.load1 rfl rfl rfl ag24) ?_
    refine AWL.nrm (by simp only [go_sem, Int.reduceToNat, Nat.reduceLT, reduceIte, Nat.reduceEqDiff, Nat.reduceAdd, Nat.reduceMul, Nat.reduceBEq, reduceCtorEq]; rfl) ?_
    refine AWL.step rfl rfl (Stp.callV rfl (by decide) Try.call49 rfl rfl (eqIntS_con _ _)) ?_
    refine AWL.nrm (by simp only [go_sem, Int.reduceToNat, Nat.reduceLT, reduceIte, Nat.reduceEqDiff, Nat.reduceAdd, Nat.reduceMul, Nat.reduceBEq, reduceCtorEq]; rfl) ?_
    refine AWL.q rfl rfl rfl (by decide) (Qt.notB rfl) ?_
    refine AWL.nilE (by simp only [go_sem, Int.reduceToNat, Nat.reduceLT, reduceIte, Nat.reduceEqDiff, Nat.reduceAdd, Nat.reduceMul, Nat.reduceBEq, reduceCtorEq]; rfl) ?_
    try dsimp only [thenQ, blockQ]
    refine AW.cond rfl (fun c2 => ?_) (fun c2 => ?_)
    · have k2 := c2
      try simp only [decide_eq_true_eq, decide_eq_false_iff_not, bne_iff_ne, ne_eq, beq_iff_eq, beq_eq_false_iff_ne, bne_eq_false_iff_eq, Bool.not_eq_true', Bool.not_eq_false', Bool.and_eq_true, Bool.or_eq_true, Bool.and_eq_false_iff, Bool.or_eq_false_iff, Int.not_lt, Int.not_le, Int.toNat_natCast] at c2
      refine AW.seq ?_
      refine AW.region ?_
      refine AWL.q rfl rfl rfl (by decide) Qt.assign ?_
      refine AWL.nilE (by simp only [go_sem, Int.reduceToNat, Nat.reduceLT, reduceIte, Nat.reduceEqDiff, Nat.reduceAdd, Nat.reduceMul, Nat.reduceBEq, reduceCtorEq]; rfl) ?_
      try dsimp only [thenQ, blockQ]
      refine AW.ret ?_
      try dsimp only [thenQ, blockQ]
      refine endQ_ret (.cons (.tmp 4) .nil) ?_
      simp only [retX, slotL, reduceIte, Nat.reduceEqDiff]
      cases a
      cases b
      simp_all
    · have k2 := c2
      try simp only [decide_eq_true_eq, decide_eq_false_iff_not, bne_iff_ne, ne_eq, beq_iff_eq, beq_eq_false_iff_ne, bne_eq_false_iff_eq, Bool.not_eq_true', Bool.not_eq_false', Bool.and_eq_true, Bool.or_eq_true, Bool.and_eq_false_iff, Bool.or_eq_false_iff, Int.not_lt, Int.not_le, Int.toNat_natCast] at c2
      refine AW.skip ?_
      dsimp only [thenQ, blockQ]
      refine AW.seq ?_
      refine AW.seq ?_
      refine AW.region ?_
      refine AWL.q rfl rfl rfl (by decide) (Qt.fieldAddr rfl fl61_2 rfl rfl (by decide)) ?_
      refine AWL.nrm (by simp only [go_sem, Int.reduceToNat, Nat.reduceLT, reduceIte, Nat.reduceEqDiff, Nat.reduceAdd, Nat.reduceMul, Nat.reduceBEq, reduceCtorEq]; rfl) ?_
      refine AWL.q rfl rfl rfl (by decide) (Qt.load1 rfl rfl rfl ag3) ?_
      refine AWL.q rfl rfl rfl (by decide) (Qt.fieldAddr rfl fl61_2 rfl rfl (by decide)) ?_
      refine AWL.q rfl rfl rfl (by decide) (Qt.load1 rfl rfl rfl ag3) ?_
      refine AWL.nrm (by simp only [go_sem, Int.reduceToNat, Nat.reduceLT, reduceIte, Nat.reduceEqDiff, Nat.reduceAdd, Nat.reduceMul, Nat.reduceBEq, reduceCtorEq]; rfl) ?_
      refine AWL.q rfl rfl rfl (by decide) (Qt.binOp rfl rfl rfl) ?_
      refine AWL.nilE (by simp only [go_sem, Int.reduceToNat, Nat.reduceLT, reduceIte, Nat.reduceEqDiff, Nat.reduceAdd, Nat.reduceMul, Nat.reduceBEq, reduceCtorEq]; rfl) ?_
      try dsimp only [thenQ, blockQ]
      refine AW.cond rfl (fun c3 => ?_) (fun c3 => ?_)
      · have k3 := c3
        try simp only [decide_eq_true_eq, decide_eq_false_iff_not, bne_iff_ne, ne_eq, beq_iff_eq, beq_eq_false_iff_ne, bne_eq_false_iff_eq, Bool.not_eq_true', Bool.not_eq_false', Bool.and_eq_true, Bool.or_eq_true, Bool.and_eq_false_iff, Bool.or_eq_false_iff, Int.not_lt, Int.not_le, Int.toNat_natCast] at c3
        refine AW.seq ?_
        refine AW.region ?_
        refine AWL.q rfl rfl rfl (by decide) Qt.assign ?_
        refine AWL.nilE (by simp only [go_sem, Int.reduceToNat, Nat.reduceLT, reduceIte, Nat.reduceEqDiff, Nat.reduceAdd, Nat.reduceMul, Nat.reduceBEq, reduceCtorEq]; rfl) ?_
        try dsimp only [thenQ, blockQ]
        refine AW.ret ?_
        try dsimp only [thenQ, blockQ]
        refine endQ_ret (.cons (.tmp 4) .nil) ?_
        simp only [retX, slotL, reduceIte, Nat.reduceEqDiff]
        cases a
        cases b
        simp_all
      · have k3 := c3
        try simp only [decide_eq_true_eq, decide_eq_false_iff_not, bne_iff_ne, ne_eq, beq_iff_eq, beq_eq_false_iff_ne, bne_eq_false_iff_eq, Bool.not_eq_true', Bool.not_eq_false', Bool.and_eq_true, Bool.or_eq_true, Bool.and_eq_false_iff, Bool.or_eq_false_iff, Int.not_lt, Int.not_le, Int.toNat_natCast] at c3
        refine AW.skip ?_
        dsimp only [thenQ, blockQ]
        refine AW.seq ?_
        refine AW.seq ?_
        refine AW.region ?_
        refine AWL.q rfl rfl rfl (by decide) (Qt.fieldAddr rfl fl61_3 rfl rfl (by decide)) ?_
        refine AWL.nrm (by simp only [go_sem, Int.reduceToNat, Nat.reduceLT, reduceIte, Nat.reduceEqDiff, Nat.reduceAdd, Nat.reduceMul, Nat.reduceBEq, reduceCtorEq]; rfl) ?_
        refine AWL.q rfl rfl rfl (by decide) (Qt.load1 rfl rfl rfl ag3) ?_
        refine AWL.q rfl rfl rfl (by decide) (Qt.fieldAddr rfl fl61_3 rfl rfl (by decide)) ?_
        refine AWL.q rfl rfl rfl (by decide) (Qt.load1 rfl rfl rfl ag3) ?_
        refine AWL.nrm (by simp only [go_sem, Int.reduceToNat, Nat.reduceLT, reduceIte, Nat.reduceEqDiff, Nat.reduceAdd, Nat.reduceMul, Nat.reduceBEq, reduceCtorEq]; rfl) ?_
        refine AWL.q rfl rfl rfl (by decide) (Qt.binOp rfl rfl rfl) ?_
        refine AWL.nilE (by simp only [go_sem, Int.reduceToNat, Nat.reduceLT, reduceIte, Nat.reduceEqDiff, Nat.reduceAdd, Nat.reduceMul, Nat.reduceBEq, reduceCtorEq]; rfl) ?_
        try dsimp only [thenQ, blockQ]
        refine AW.cond rfl (fun c4 => ?_) (fun c4 => ?_)
        · have k4 := c4
          try simp only [decide_eq_true_eq, decide_eq_false_iff_not, bne_iff_ne, ne_eq, beq_iff_eq, beq_eq_false_iff_ne, bne_eq_false_iff_eq, Bool.not_eq_true', Bool.not_eq_false', Bool.and_eq_true, Bool.or_eq_true, Bool.and_eq_false_iff, Bool.or_eq_false_iff, Int.not_lt, Int.not_le, Int.toNat_natCast] at c4
          refine AW.seq ?_
          refine AW.region ?_
          refine AWL.q rfl rfl rfl (by decide) Qt.assign ?_
          refine AWL.nilE (by simp only [go_sem, Int.reduceToNat, Nat.reduceLT, reduceIte, Nat.reduceEqDiff, Nat.reduceAdd, Nat.reduceMul, Nat.reduceBEq, reduceCtorEq]; rfl) ?_
          try dsimp only [thenQ, blockQ]
          refine AW.ret ?_
          try dsimp only [thenQ, blockQ]
          refine endQ_ret (.cons (.tmp 4) .nil) ?_
          simp only [retX, slotL, reduceIte, Nat.reduceEqDiff]
          cases a
          cases b
          simp_all
        · have k4 := c4
          try simp only [decide_eq_true_eq, decide_eq_false_iff_not, bne_iff_ne, ne_eq, beq_iff_eq, beq_eq_false_iff_ne, bne_eq_false_iff_eq, Bool.not_eq_true', Bool.not_eq_false', Bool.and_eq_true, Bool.or_eq_true, Bool.and_eq_false_iff, Bool.or_eq_false_iff, Int.not_lt, Int.not_le, Int.toNat_natCast] at c4
          refine AW.skip ?_
          dsimp only [thenQ, blockQ]
          refine AW.seq ?_
          refine AW.region ?_
          refine AWL.q rfl rfl rfl (by decide) Qt.assign ?_
          refine AWL.nilE (by simp only [go_sem, Int.reduceToNat, Nat.reduceLT, reduceIte, Nat.reduceEqDiff, Nat.reduceAdd, Nat.reduceMul, Nat.reduceBEq, reduceCtorEq]; rfl) ?_
          try dsimp only [thenQ, blockQ]
          refine AW.ret ?_
          try dsimp only [thenQ, blockQ]
          refine endQ_ret (.cons (.tmp 4) .nil) ?_
          simp only [retX, slotL, reduceIte, Nat.reduceEqDiff]
          cases a
          cases b
          simp_all
set_option maxHeartbeats 8000000 in
set_option maxRecDepth 10000 in
theorem eqARingS_con (a b : List DARing) : Con Try.prog 70 [.h base [], .h (base + 1) []] [.rt base .ro (tr a), .rt (base + 1) .ro (tr b)] (fun y _ => y = .v (.bool (decide (a = b)))) := by
  refine Con.of_body Try.func70 rfl (by simp) ?_
  rw [Try.ntmps70]
  refine AW.len base [] rfl (by simp [Okp]) rfl (fun hl => ?_)
  refine AW.len (base + 1) [] rfl (by simp [Okp]) rfl (fun hl2 => ?_)
  refine AW.seq ?_
  refine AW.region ?_
  refine AWL.q rfl rfl rfl (by decide) Qt.assign ?_
  refine AWL.nilE (by simp only [go_sem, Int.reduceToNat, Nat.reduceLT, reduceIte, Nat.reduceEqDiff, Nat.reduceAdd, Nat.reduceMul, Nat.reduceBEq, reduceCtorEq]; rfl) ?_
  try dsimp only [thenQ, blockQ]
  refine AW.seq ?_
  refine AW.seq ?_
  refine AW.region ?_
  refine AWL.q rfl rfl rfl (by decide) Qt.move ?_
  refine AWL.q rfl rfl rfl (by decide) (Qt.lenH rfl rfl rfl sl59) ?_
  refine AWL.nrm (by simp only [go_sem, Int.reduceToNat, Nat.reduceLT, reduceIte, Nat.reduceEqDiff, Nat.reduceAdd, Nat.reduceMul, Nat.reduceBEq, reduceCtorEq]; rfl) ?_
  refine AWL.q rfl rfl rfl (by decide) Qt.move ?_
  refine AWL.q rfl rfl rfl (by decide) (Qt.lenH rfl rfl rfl sl59) ?_
  refine AWL.q rfl rfl rfl (by decide) (Qt.binOp rfl rfl rfl) ?_
  refine AWL.nilE (by simp only [go_sem, Int.reduceToNat, Nat.reduceLT, reduceIte, Nat.reduceEqDiff, Nat.reduceAdd, Nat.reduceMul, Nat.reduceBEq, reduceCtorEq]; rfl) ?_
  try dsimp only [thenQ, blockQ]
  refine AW.cond rfl (fun c1 => ?_) (fun c1 => ?_)
  · have k1 := c1
    try simp only [decide_eq_true_eq, decide_eq_false_iff_not, bne_iff_ne, ne_eq, beq_iff_eq, beq_eq_false_iff_ne, bne_eq_false_iff_eq, Bool.not_eq_true', Bool.not_eq_false', Bool.and_eq_true, Bool.or_eq_true, Bool.and_eq_false_iff, Bool.or_eq_false_iff, Int.not_lt, Int.not_le, Int.toNat_natCast] at c1
    refine AW.seq ?_
    refine AW.region ?_
    refine AWL.q rfl rfl rfl (by decide) Qt.assign ?_
    refine AWL.nilE (by simp only [go_sem, Int.reduceToNat, Nat.reduceLT, reduceIte, Nat.reduceEqDiff, Nat.reduceAdd, Nat.reduceMul, Nat.reduceBEq, reduceCtorEq]; rfl) ?_
    try dsimp only [thenQ, blockQ]
    refine AW.ret ?_
    try dsimp only [thenQ, blockQ]
    refine endQ_ret (.cons (.tmp 4) .nil) ?_
    simp only [retX, slotL, reduceIte, Nat.reduceEqDiff]
    rw [decide_eq_false (show a ≠ b from ne_of_len (by omega))]
  · have k1 := c1
    try simp only [decide_eq_true_eq, decide_eq_false_iff_not, bne_iff_ne, ne_eq, beq_iff_eq, beq_eq_false_iff_ne, bne_eq_false_iff_eq, Bool.not_eq_true', Bool.not_eq_false', Bool.and_eq_true, Bool.or_eq_true, Bool.and_eq_false_iff, Bool.or_eq_false_iff, Int.not_lt, Int.not_le, Int.toNat_natCast] at c1
    refine AW.skip ?_
    dsimp only [thenQ, blockQ]
    refine AW.seq ?_
    refine AW.seq ?_
    refine AW.region ?_
    refine AWL.q rfl rfl rfl (by decide) Qt.assign ?_
    refine AWL.nilE (by simp only [go_sem, Int.reduceToNat, Nat.reduceLT, reduceIte, Nat.reduceEqDiff, Nat.reduceAdd, Nat.reduceMul, Nat.reduceBEq, reduceCtorEq]; rfl) ?_
    try dsimp only [thenQ, blockQ]
    refine AW.block ?_
    refine AW.weak (L' := [.sl 5 (.v (iv (0 : Nat))), .sl 0 (.h base []), .sl 1 (.h (base + 1) []), .rt base .ro (tr a), .rt (base + 1) .ro (tr b)]) (Weak.sim ⟨rfl, rfl, rfl, ⟨_, rfl, T.sim_refl _⟩, ⟨_, rfl, T.sim_refl _⟩, trivial⟩ rfl rfl) ?_
    refine AW.loop (fun i : EqInv a b => [.sl 5 (.v (iv i.k)), .sl 0 (.h base []), .sl 1 (.h (base + 1) []), .rt base .ro (tr a), .rt (base + 1) .ro (tr b)]) (fun i => a.length - i.k) ⟨0, Nat.zero_le _, rfl⟩ ?_
    intro i
    have hle := i.le
    refine AW.seq ?_
    refine AW.seq ?_
    refine AW.region ?_
    refine AWL.q rfl rfl rfl (by decide) Qt.move ?_
    refine AWL.nrm (by simp only [go_sem, Int.reduceToNat, Nat.reduceLT, reduceIte, Nat.reduceEqDiff, Nat.reduceAdd, Nat.reduceMul, Nat.reduceBEq, reduceCtorEq]; rfl) ?_
    refine AWL.q rfl rfl rfl (by decide) Qt.move ?_
    refine AWL.q rfl rfl rfl (by decide) (Qt.lenH rfl rfl rfl sl59) ?_
    refine AWL.q rfl rfl rfl (by decide) (Qt.binOp rfl rfl rfl) ?_
    refine AWL.nilE (by simp only [go_sem, Int.reduceToNat, Nat.reduceLT, reduceIte, Nat.reduceEqDiff, Nat.reduceAdd, Nat.reduceMul, Nat.reduceBEq, reduceCtorEq]; rfl) ?_
    try dsimp only [thenQ, blockQ]
    refine AW.cond rfl (fun c2 => ?_) (fun c2 => ?_)
    · have k2 := c2
      try simp only [decide_eq_true_eq, decide_eq_false_iff_not, bne_iff_ne, ne_eq, beq_iff_eq, beq_eq_false_iff_ne, bne_eq_false_iff_eq, Bool.not_eq_true', Bool.not_eq_false', Bool.and_eq_true, Bool.or_eq_true, Bool.and_eq_false_iff, Bool.or_eq_false_iff, Int.not_lt, Int.not_le, Int.toNat_natCast] at c2
      refine AW.skip ?_
      dsimp only [thenQ, blockQ]
      refine AW.seq ?_
      refine AW.block ?_
      refine AW.seq ?_
      refine AW.draw [0, 1, 2, 3, 4, 5, 6, 7, 9] rfl (by decide +kernel) ?_
      refine AWA.take 0 rfl rfl rfl (by decide +kernel) (.on rfl rfl Qt.move) ?_
      refine AWA.nrm (by first | (simp only [go_sem, Int.reduceToNat, Nat.reduceLT, reduceIte, Nat.reduceEqDiff, Nat.reduceAdd, Nat.reduceMul, Nat.reduceBEq, reduceCtorEq]; rfl) | rfl) ?_
      refine AWA.take 1 rfl rfl rfl (by decide +kernel) (.on rfl rfl Qt.move) ?_
      refine AWA.take 2 rfl rfl rfl (by decide +kernel) (.on rfl rfl (Qt.indexAddr rfl rfl rfl rfl sl59 sz61 (by decide) (by omega))) ?_
      refine AWA.take 3 rfl rfl rfl (by decide +kernel) (.on rfl rfl (Qt.loadG rfl rfl rfl ag61 sz61 (by decide))) ?_
      refine AWA.nrm (by first | (simp only [go_sem, Int.reduceToNat, Nat.reduceLT, reduceIte, Nat.reduceEqDiff, Nat.reduceAdd, Nat.reduceMul, Nat.reduceBEq, reduceCtorEq]; rfl) | rfl) ?_
      refine AWA.take 4 rfl rfl rfl (by decide +kernel) (.on rfl rfl Qt.move) ?_
      refine AWA.take 5 rfl rfl rfl (by decide +kernel) (.on rfl rfl Qt.move) ?_
      refine AWA.take 6 rfl rfl rfl (by decide +kernel) (.on rfl rfl (Qt.indexAddr rfl rfl rfl rfl sl59 sz61 (by decide) (by omega))) ?_
      refine AWA.nrm (by first | (simp only [go_sem, Int.reduceToNat, Nat.reduceLT, reduceIte, Nat.reduceEqDiff, Nat.reduceAdd, Nat.reduceMul, Nat.reduceBEq, reduceCtorEq]; rfl) | rfl) ?_
      refine AWA.take 7 rfl rfl rfl (by decide +kernel) (.on rfl rfl (Qt.loadG rfl rfl rfl ag61 sz61 (by decide))) ?_
      refine AWA.one 8 [] [7, 3, 6, 2, 5, 4, 1, 0] (by decide +kernel) rfl rfl rfl (by decide +kernel) (by decide +kernel) (by decide +kernel) (Stp.callV rfl (by decide) Try.call72 rfl rfl (eqARing_con _ _)) ?_
      refine AWA.nrm (by first | (simp only [go_sem, Int.reduceToNat, Nat.reduceLT, reduceIte, Nat.reduceEqDiff, Nat.reduceAdd, Nat.reduceMul, Nat.reduceBEq, reduceCtorEq]; rfl) | rfl) ?_
      refine AWA.nrm (by first | (simp only [go_sem, Int.reduceToNat, Nat.reduceLT, reduceIte, Nat.reduceEqDiff, Nat.reduceAdd, Nat.reduceMul, Nat.reduceBEq, reduceCtorEq]; rfl) | rfl) ?_
      refine AWA.take 9 rfl rfl rfl (by decide +kernel) (.on rfl rfl (Qt.notB rfl)) ?_
      refine AWA.nilE (by decide +kernel) (by first | (simp only [go_sem, Int.reduceToNat, Nat.reduceLT, reduceIte, Nat.reduceEqDiff, Nat.reduceAdd, Nat.reduceMul, Nat.reduceBEq, reduceCtorEq]; rfl) | rfl) ?_
      try dsimp only [thenQ, blockQ]
      refine AW.cond rfl (fun c3 => ?_) (fun c3 => ?_)
      · have k3 := c3
        try simp only [decide_eq_true_eq, decide_eq_false_iff_not, bne_iff_ne, ne_eq, beq_iff_eq, beq_eq_false_iff_ne, bne_eq_false_iff_eq, Bool.not_eq_true', Bool.not_eq_false', Bool.and_eq_true, Bool.or_eq_true, Bool.and_eq_false_iff, Bool.or_eq_false_iff, Int.not_lt, Int.not_le, Int.toNat_natCast] at c3
        refine AW.seq ?_
        refine AW.region ?_
        refine AWL.q rfl rfl rfl (by decide) Qt.assign ?_
        refine AWL.nilE (by simp only [go_sem, Int.reduceToNat, Nat.reduceLT, reduceIte, Nat.reduceEqDiff, Nat.reduceAdd, Nat.reduceMul, Nat.reduceBEq, reduceCtorEq]; rfl) ?_
        try dsimp only [thenQ, blockQ]
        refine AW.ret ?_
        try dsimp only [thenQ, blockQ]
        refine endQ_ret (.cons (.tmp 4) .nil) ?_
        simp only [retX, slotL, reduceIte, Nat.reduceEqDiff]
        rw [decide_eq_false (show a ≠ b from i.stop En.dflt (by simpa using c3))]
      · have k3 := c3
        try simp only [decide_eq_true_eq, decide_eq_false_iff_not, bne_iff_ne, ne_eq, beq_iff_eq, beq_eq_false_iff_ne, bne_eq_false_iff_eq, Bool.not_eq_true', Bool.not_eq_false', Bool.and_eq_true, Bool.or_eq_true, Bool.and_eq_false_iff, Bool.or_eq_false_iff, Int.not_lt, Int.not_le, Int.toNat_natCast] at c3
        refine AW.skip ?_
        dsimp only [thenQ, blockQ]
        refine AW.region ?_
        refine AWL.q rfl rfl rfl (by decide) Qt.move ?_
        refine AWL.nrm (by simp only [go_sem, Int.reduceToNat, Nat.reduceLT, reduceIte, Nat.reduceEqDiff, Nat.reduceAdd, Nat.reduceMul, Nat.reduceBEq, reduceCtorEq]; rfl) ?_
        refine AWL.q rfl rfl rfl (by decide) (Qt.binOp rfl rfl (by first | exact pbAdd (by omega) | rfl)) ?_
        refine AWL.q rfl rfl rfl (by decide) Qt.assign ?_
        refine AWL.nilE (by simp only [go_sem, Int.reduceToNat, Nat.reduceLT, reduceIte, Nat.reduceEqDiff, Nat.reduceAdd, Nat.reduceMul, Nat.reduceBEq, reduceCtorEq]; rfl) ?_
        try dsimp only [thenQ, blockQ]
        refine ⟨⟨i.k + 1, by omega, i.next En.dflt (by omega) (by omega) (by simpa using c3)⟩, Weak.sim ⟨(by simp only [slotL, reduceIte, Nat.reduceEqDiff]; first | rfl | (rw [IntWalk.i64_in _ (by omega)]; rfl)), rfl, rfl, ⟨_, rfl, T.sim_refl _⟩, ⟨_, rfl, T.sim_refl _⟩, trivial⟩ rfl rfl, ?_⟩
        show a.length - (i.k + 1) < a.length - i.k
        omega
    · have k2 := c2
      try simp only [decide_eq_true_eq, decide_eq_false_iff_not, bne_iff_ne, ne_eq, beq_iff_eq, beq_eq_false_iff_ne, bne_eq_false_iff_eq, Bool.not_eq_true', Bool.not_eq_false', Bool.and_eq_true, Bool.or_eq_true, Bool.and_eq_false_iff, Bool.or_eq_false_iff, Int.not_lt, Int.not_le, Int.toNat_natCast] at c2
      refine AW.exit ?_
      dsimp only [thenQ, blockQ, reduceIte]
      refine AW.seq ?_
      refine AW.region ?_
      refine AWL.q rfl rfl rfl (by decide) Qt.assign ?_
      refine AWL.nilE (by simp only [go_sem, Int.reduceToNat, Nat.reduceLT, reduceIte, Nat.reduceEqDiff, Nat.reduceAdd, Nat.reduceMul, Nat.reduceBEq, reduceCtorEq]; rfl) ?_
      try dsimp only [thenQ, blockQ]
      refine AW.ret ?_
      try dsimp only [thenQ, blockQ]
      refine endQ_ret (.cons (.tmp 4) .nil) ?_
      simp only [retX, slotL, reduceIte, Nat.reduceEqDiff]
      rw [decide_eq_true (show a = b from i.full (by omega) (by omega))]
set_option maxHeartbeats 8000000 in
set_option maxRecDepth 10000 in
theorem eqAFile_con (a b : DAFile) : Con Try.prog 158 [.g [.v (.bool a.Used), .h base []], .g [.v (.bool b.Used), .h (base + 1) []]] [.rt base .ro (tr a.Data), .rt (base + 1) .ro (tr b.Data)] (fun y _ => y = .v (.bool (decide (a = b)))) := by
  refine Con.of_body Try.func158 rfl (by simp) ?_
  rw [Try.ntmps158]
  refine AW.seq ?_
  refine AW.region ?_
  refine AWL.step rfl rfl (Stp.boxB rfl (by decide) (by decide) rfl rfl rfl rfl) ?_
  refine AWL.nrm (by simp only [go_sem, Int.reduceToNat, Nat.reduceLT, reduceIte, Nat.reduceEqDiff, Nat.reduceAdd, Nat.reduceMul, Nat.reduceBEq, reduceCtorEq]; rfl) ?_
  refine AWL.step rfl rfl (Stp.boxB rfl (by decide) (by decide) rfl rfl rfl rfl) ?_
  refine AWL.nrm (by simp only [go_sem, Int.reduceToNat, Nat.reduceLT, reduceIte, Nat.reduceEqDiff, Nat.reduceAdd, Nat.reduceMul, Nat.reduceBEq, reduceCtorEq]; rfl) ?_
  refine AWL.q rfl rfl rfl (by decide) Qt.assign ?_
  refine AWL.nilE (by simp only [go_sem, Int.reduceToNat, Nat.reduceLT, reduceIte, Nat.reduceEqDiff, Nat.reduceAdd, Nat.reduceMul, Nat.reduceBEq, reduceCtorEq]; rfl) ?_
  try dsimp only [thenQ, blockQ]
  refine AW.seq ?_
  refine AW.seq ?_
  refine AW.region ?_
  refine AWL.q rfl rfl rfl (by decide) (Qt.fieldAddr rfl fl202_0 rfl rfl (by decide)) ?_
  refine AWL.q rfl rfl rfl (by decide) (Qt.load1 rfl rfl rfl ag4) ?_
  refine AWL.nrm (by simp only [go_sem, Int.reduceToNat, Nat.reduceLT, reduceIte, Nat.reduceEqDiff, Nat.reduceAdd, Nat.reduceMul, Nat.reduceBEq, reduceCtorEq]; rfl) ?_
  refine AWL.q rfl rfl rfl (by decide) (Qt.fieldAddr rfl fl202_0 rfl rfl (by decide)) ?_
  refine AWL.q rfl rfl rfl (by decide) (Qt.load1 rfl rfl rfl ag4) ?_
  refine AWL.q rfl rfl rfl (by decide) (Qt.neB rfl rfl Try.underlying4) ?_
  refine AWL.nilE (by simp only [go_sem, Int.reduceToNat, Nat.reduceLT, reduceIte, Nat.reduceEqDiff, Nat.reduceAdd, Nat.reduceMul, Nat.reduceBEq, reduceCtorEq]; rfl) ?_
  try dsimp only [thenQ, blockQ]
  refine AW.cond rfl (fun c1 => ?_) (fun c1 => ?_)
  · have k1 := c1
    try simp only [decide_eq_true_eq, decide_eq_false_iff_not, bne_iff_ne, ne_eq, beq_iff_eq, beq_eq_false_iff_ne, bne_eq_false_iff_eq, Bool.not_eq_true', Bool.not_eq_false', Bool.and_eq_true, Bool.or_eq_true, Bool.and_eq_false_iff, Bool.or_eq_false_iff, Int.not_lt, Int.not_le, Int.toNat_natCast] at c1
    refine AW.seq ?_
    refine AW.region ?_
    refine AWL.q rfl rfl rfl (by decide) Qt.assign ?_
    refine AWL.nilE (by simp only [go_sem, Int.reduceToNat, Nat.reduceLT, reduceIte, Nat.reduceEqDiff, Nat.reduceAdd, Nat.reduceMul, Nat.reduceBEq, reduceCtorEq]; rfl) ?_
    try dsimp only [thenQ, blockQ]
    refine AW.ret ?_
    try dsimp only [thenQ, blockQ]
    refine endQ_ret (.cons (.tmp 4) .nil) ?_
    simp only [retX, slotL, reduceIte, Nat.reduceEqDiff]
    cases a
    cases b
    simp_all
  · have k1 := c1
    try simp only [decide_eq_true_eq, decide_eq_false_iff_not, bne_iff_ne, ne_eq, beq_iff_eq, beq_eq_false_iff_ne, bne_eq_false_iff_eq, Bool.not_eq_true', Bool.not_eq_false', Bool.and_eq_true, Bool.or_eq_true, Bool.and_eq_false_iff, Bool.or_eq_false_iff, Int.not_lt, Int.not_le, Int.toNat_natCast] at c1
    refine AW.skip ?_
    dsimp only [thenQ, blockQ]
    refine AW.seq ?_
    refine AW.seq ?_
    refine AW.region ?_
    refine AWL.q rfl rfl rfl (by decide) (Qt.fieldAddr rfl fl202_1 rfl rfl (by decide)) ?_
    refine AWL.nrm (by simp only [go_sem, Int.reduceToNat, Nat.reduceLT, reduceIte, Nat.reduceEqDiff, Nat.reduceAdd, Nat.reduceMul, Nat.reduceBEq, reduceCtorEq]; rfl) ?_
    refine AWL.q rfl rfl rfl (by decide) (Qt.load1 rfl rfl rfl ag24) ?_
    refine AWL.q rfl rfl rfl (by decide) (Qt.fieldAddr rfl fl202_1 rfl rfl (by decide)) ?_
    refine AWL.q rfl rfl rfl (by decide) (Qt.load1 rfl rfl rfl ag24) ?_
    refine AWL.nrm (by simp only [go_sem, Int.reduceToNat, Nat.reduceLT, reduceIte, Nat.reduceEqDiff, Nat.reduceAdd, Nat.reduceMul, Nat.reduceBEq, reduceCtorEq]; rfl) ?_
    refine AWL.step rfl rfl (Stp.callV rfl (by decide) Try.call49 rfl rfl (eqIntS_con _ _)) ?_
    refine AWL.nrm (by simp only [go_sem, Int.reduceToNat, Nat.reduceLT, reduceIte, Nat.reduceEqDiff, Nat.reduceAdd, Nat.reduceMul, Nat.reduceBEq, reduceCtorEq]; rfl) ?_
    refine AWL.q rfl rfl rfl (by decide) (Qt.notB rfl) ?_
    refine AWL.nilE (by simp only [go_sem, Int.reduceToNat, Nat.reduceLT, reduceIte, Nat.reduceEqDiff, Nat.reduceAdd, Nat.reduceMul, Nat.reduceBEq, reduceCtorEq]; rfl) ?_
    try dsimp only [thenQ, blockQ]
    refine AW.cond rfl (fun c2 => ?_) (fun c2 => ?_)
    · have k2 := c2
      try simp only [decide_eq_true_eq, decide_eq_false_iff_not, bne_iff_ne, ne_eq, beq_iff_eq, beq_eq_false_iff_ne, bne_eq_false_iff_eq, Bool.not_eq_true', Bool.not_eq_false', Bool.and_eq_true, Bool.or_eq_true, Bool.and_eq_false_iff, Bool.or_eq_false_iff, Int.not_lt, Int.not_le, Int.toNat_natCast] at c2
      refine AW.seq ?_
      refine AW.region ?_
      refine AWL.q rfl rfl rfl (by decide) Qt.assign ?_
      refine AWL.nilE (by simp only [go_sem, Int.reduceToNat, Nat.reduceLT, reduceIte, Nat.reduceEqDiff, Nat.reduceAdd, Nat.reduceMul, Nat.reduceBEq, reduceCtorEq]; rfl) ?_
      try dsimp only [thenQ, blockQ]
      refine AW.ret ?_
      try dsimp only [thenQ, blockQ]
      refine endQ_ret (.cons (.tmp 4) .nil) ?_
      simp only [retX, slotL, reduceIte, Nat.reduceEqDiff]
      cases a
      cases b
      simp_all
    · have k2 := c2
      try simp only [decide_eq_true_eq, decide_eq_false_iff_not, bne_iff_ne, ne_eq, beq_iff_eq, beq_eq_false_iff_ne, bne_eq_false_iff_eq, Bool.not_eq_true', Bool.not_eq_false', Bool.and_eq_true, Bool.or_eq_true, Bool.and_eq_false_iff, Bool.or_eq_false_iff, Int.not_lt, Int.not_le, Int.toNat_natCast] at c2
      refine AW.skip ?_
      dsimp only [thenQ, blockQ]
      refine AW.seq ?_
      refine AW.region ?_
      refine AWL.q rfl rfl rfl (by decide) Qt.assign ?_
      refine AWL.nilE (by simp only [go_sem, Int.reduceToNat, Nat.reduceLT, reduceIte, Nat.reduceEqDiff, Nat.reduceAdd, Nat.reduceMul, Nat.reduceBEq, reduceCtorEq]; rfl) ?_
      try dsimp only [thenQ, blockQ]
      refine AW.ret ?_
      try dsimp only [thenQ, blockQ]
      refine endQ_ret (.cons (.tmp 4) .nil) ?_
      simp only [retX, slotL, reduceIte, Nat.reduceEqDiff]
      cases a
      cases b
      simp_all
set_option maxHeartbeats 8000000 in
set_option maxRecDepth 10000 in
theorem eqAFileS_con (a b : List DAFile) : Con Try.prog 71 [.h base [], .h (base + 1) []] [.rt base .ro (tr a), .rt (base + 1) .ro (tr b)] (fun y _ => y = .v (.bool (decide (a = b)))) := by
  refine Con.of_body Try.func71 rfl (by simp) ?_
  rw [Try.ntmps71]
  refine AW.len base [] rfl (by simp [Okp]) rfl (fun hl => ?_)
  refine AW.len (base + 1) [] rfl (by simp [Okp]) rfl (fun hl2 => ?_)
  refine AW.seq ?_
  refine AW.region ?_
  refine AWL.q rfl rfl rfl (by decide) Qt.assign ?_
  refine AWL.nilE (by simp only [go_sem, Int.reduceToNat, Nat.reduceLT, reduceIte, Nat.reduceEqDiff, Nat.reduceAdd, Nat.reduceMul, Nat.reduceBEq, reduceCtorEq]; rfl) ?_
  try dsimp only [thenQ, blockQ]
  refine AW.seq ?_
  refine AW.seq ?_
  refine AW.region ?_
  refine AWL.q rfl rfl rfl (by decide) Qt.move ?_
  refine AWL.q rfl rfl rfl (by decide) (Qt.lenH rfl rfl rfl sl60) ?_
  refine AWL.nrm (by simp only [go_sem, Int.reduceToNat, Nat.reduceLT, reduceIte, Nat.reduceEqDiff, Nat.reduceAdd, Nat.reduceMul, Nat.reduceBEq, reduceCtorEq]; rfl) ?_
  refine AWL.q rfl rfl rfl (by decide) Qt.move ?_
  refine AWL.q rfl rfl rfl (by decide) (Qt.lenH rfl rfl rfl sl60) ?_
  refine AWL.q rfl rfl rfl (by decide) (Qt.binOp rfl rfl rfl) ?_
  refine AWL.nilE (by simp only [go_sem, Int.reduceToNat, Nat.reduceLT, reduceIte, Nat.reduceEqDiff, Nat.reduceAdd, Nat.reduceMul, Nat.reduceBEq, reduceCtorEq]; rfl) ?_
  try dsimp only [thenQ, blockQ]
  refine AW.cond rfl (fun c1 => ?_) (fun c1 => ?_)
  · have k1 := c1
    try simp only [decide_eq_true_eq, decide_eq_false_iff_not, bne_iff_ne, ne_eq, beq_iff_eq, beq_eq_false_iff_ne, bne_eq_false_iff_eq, Bool.not_eq_true', Bool.not_eq_false', Bool.and_eq_true, Bool.or_eq_true, Bool.and_eq_false_iff, Bool.or_eq_false_iff, Int.not_lt, Int.not_le, Int.toNat_natCast] at c1
    refine AW.seq ?_
    refine AW.region ?_
    refine AWL.q rfl rfl rfl (by decide) Qt.assign ?_
    refine AWL.nilE (by simp only [go_sem, Int.reduceToNat, Nat.reduceLT, reduceIte, Nat.reduceEqDiff, Nat.reduceAdd, Nat.reduceMul, Nat.reduceBEq, reduceCtorEq]; rfl) ?_
    try dsimp only [thenQ, blockQ]
    refine AW.ret ?_
    try dsimp only [thenQ, blockQ]
    refine endQ_ret (.cons (.tmp 4) .nil) ?_
    simp only [retX, slotL, reduceIte, Nat.reduceEqDiff]
    rw [decide_eq_false (show a ≠ b from ne_of_len (by omega))]
  · have k1 := c1
    try simp only [decide_eq_true_eq, decide_eq_false_iff_not, bne_iff_ne, ne_eq, beq_iff_eq, beq_eq_false_iff_ne, bne_eq_false_iff_eq, Bool.not_eq_true', Bool.not_eq_false', Bool.and_eq_true, Bool.or_eq_true, Bool.and_eq_false_iff, Bool.or_eq_false_iff, Int.not_lt, Int.not_le, Int.toNat_natCast] at c1
    refine AW.skip ?_
    dsimp only [thenQ, blockQ]
    refine AW.seq ?_
    refine AW.seq ?_
    refine AW.region ?_
    refine AWL.q rfl rfl rfl (by decide) Qt.assign ?_
    refine AWL.nilE (by simp only [go_sem, Int.reduceToNat, Nat.reduceLT, reduceIte, Nat.reduceEqDiff, Nat.reduceAdd, Nat.reduceMul, Nat.reduceBEq, reduceCtorEq]; rfl) ?_
    try dsimp only [thenQ, blockQ]
    refine AW.block ?_
    refine AW.weak (L' := [.sl 5 (.v (iv (0 : Nat))), .sl 0 (.h base []), .sl 1 (.h (base + 1) []), .rt base .ro (tr a), .rt (base + 1) .ro (tr b)]) (Weak.sim ⟨rfl, rfl, rfl, ⟨_, rfl, T.sim_refl _⟩, ⟨_, rfl, T.sim_refl _⟩, trivial⟩ rfl rfl) ?_
    refine AW.loop (fun i : EqInv a b => [.sl 5 (.v (iv i.k)), .sl 0 (.h base []), .sl 1 (.h (base + 1) []), .rt base .ro (tr a), .rt (base + 1) .ro (tr b)]) (fun i => a.length - i.k) ⟨0, Nat.zero_le _, rfl⟩ ?_
    intro i
    have hle := i.le
    refine AW.seq ?_
    refine AW.seq ?_
    refine AW.region ?_
    refine AWL.q rfl rfl rfl (by decide) Qt.move ?_
    refine AWL.nrm (by simp only [go_sem, Int.reduceToNat, Nat.reduceLT, reduceIte, Nat.reduceEqDiff, Nat.reduceAdd, Nat.reduceMul, Nat.reduceBEq, reduceCtorEq]; rfl) ?_
    refine AWL.q rfl rfl rfl (by decide) Qt.move ?_
    refine AWL.q rfl rfl rfl (by decide) (Qt.lenH rfl rfl rfl sl60) ?_
    refine AWL.q rfl rfl rfl (by decide) (Qt.binOp rfl rfl rfl) ?_
    refine AWL.nilE (by simp only [go_sem, Int.reduceToNat, Nat.reduceLT, reduceIte, Nat.reduceEqDiff, Nat.reduceAdd, Nat.reduceMul, Nat.reduceBEq, reduceCtorEq]; rfl) ?_
    try dsimp only [thenQ, blockQ]
    refine AW.cond rfl (fun c2 => ?_) (fun c2 => ?_)
    · have k2 := c2
      try simp only [decide_eq_true_eq, decide_eq_false_iff_not, bne_iff_ne, ne_eq, beq_iff_eq, beq_eq_false_iff_ne, bne_eq_false_iff_eq, Bool.not_eq_true', Bool.not_eq_false', Bool.and_eq_true, Bool.or_eq_true, Bool.and_eq_false_iff, Bool.or_eq_false_iff, Int.not_lt, Int.not_le, Int.toNat_natCast] at c2
      refine AW.skip ?_
      dsimp only [thenQ, blockQ]
      refine AW.seq ?_
      refine AW.block ?_
      refine AW.seq ?_
      refine AW.draw [0, 1, 2, 3, 4, 5, 6, 7, 9] rfl (by decide +kernel) ?_
      refine AWA.take 0 rfl rfl rfl (by decide +kernel) (.on rfl rfl Qt.move) ?_
      refine AWA.nrm (by first | (simp only [go_sem, Int.reduceToNat, Nat.reduceLT, reduceIte, Nat.reduceEqDiff, Nat.reduceAdd, Nat.reduceMul, Nat.reduceBEq, reduceCtorEq]; rfl) | rfl) ?_
      refine AWA.take 1 rfl rfl rfl (by decide +kernel) (.on rfl rfl Qt.move) ?_
      refine AWA.take 2 rfl rfl rfl (by decide +kernel) (.on rfl rfl (Qt.indexAddr rfl rfl rfl rfl sl60 sz202 (by decide) (by omega))) ?_
      refine AWA.take 3 rfl rfl rfl (by decide +kernel) (.on rfl rfl (Qt.loadG rfl rfl rfl ag202 sz202 (by decide))) ?_
      refine AWA.nrm (by first | (simp only [go_sem, Int.reduceToNat, Nat.reduceLT, reduceIte, Nat.reduceEqDiff, Nat.reduceAdd, Nat.reduceMul, Nat.reduceBEq, reduceCtorEq]; rfl) | rfl) ?_
      refine AWA.take 4 rfl rfl rfl (by decide +kernel) (.on rfl rfl Qt.move) ?_
      refine AWA.take 5 rfl rfl rfl (by decide +kernel) (.on rfl rfl Qt.move) ?_
      refine AWA.take 6 rfl rfl rfl (by decide +kernel) (.on rfl rfl (Qt.indexAddr rfl rfl rfl rfl sl60 sz202 (by decide) (by omega))) ?_
      refine AWA.nrm (by first | (simp only [go_sem, Int.reduceToNat, Nat.reduceLT, reduceIte, Nat.reduceEqDiff, Nat.reduceAdd, Nat.reduceMul, Nat.reduceBEq, reduceCtorEq]; rfl) | rfl) ?_
      refine AWA.take 7 rfl rfl rfl (by decide +kernel) (.on rfl rfl (Qt.loadG rfl rfl rfl ag202 sz202 (by decide))) ?_
      refine AWA.one 8 [] [7, 3, 6, 2, 5, 4, 1, 0] (by decide +kernel) rfl rfl rfl (by decide +kernel) (by decide +kernel) (by decide +kernel) (Stp.callV rfl (by decide) Try.call158 rfl rfl (eqAFile_con _ _)) ?_
      refine AWA.nrm (by first | (simp only [go_sem, Int.reduceToNat, Nat.reduceLT, reduceIte, Nat.reduceEqDiff, Nat.reduceAdd, Nat.reduceMul, Nat.reduceBEq, reduceCtorEq]; rfl) | rfl) ?_
      refine AWA.nrm (by first | (simp only [go_sem, Int.reduceToNat, Nat.reduceLT, reduceIte, Nat.reduceEqDiff, Nat.reduceAdd, Nat.reduceMul, Nat.reduceBEq, reduceCtorEq]; rfl) | rfl) ?_
      refine AWA.take 9 rfl rfl rfl (by decide +kernel) (.on rfl rfl (Qt.notB rfl)) ?_
      refine AWA.nilE (by decide +kernel) (by first | (simp only [go_sem, Int.reduceToNat, Nat.reduceLT, reduceIte, Nat.reduceEqDiff, Nat.reduceAdd, Nat.reduceMul, Nat.reduceBEq, reduceCtorEq]; rfl) | rfl) ?_
      try dsimp only [thenQ, blockQ]
      refine AW.cond rfl (fun c3 => ?_) (fun c3 => ?_)
      · have k3 := c3
        try simp only [decide_eq_true_eq, decide_eq_false_iff_not, bne_iff_ne, ne_eq, beq_iff_eq, beq_eq_false_iff_ne, bne_eq_false_iff_eq, Bool.not_eq_true', Bool.not_eq_false', Bool.and_eq_true, Bool.or_eq_true, Bool.and_eq_false_iff, Bool.or_eq_false_iff, Int.not_lt, Int.not_le, Int.toNat_natCast] at c3
        refine AW.seq ?_
        refine AW.region ?_
        refine AWL.q rfl rfl rfl (by decide) Qt.assign ?_
        refine AWL.nilE (by simp only [go_sem, Int.reduceToNat, Nat.reduceLT, reduceIte, Nat.reduceEqDiff, Nat.reduceAdd, Nat.reduceMul, Nat.reduceBEq, reduceCtorEq]; rfl) ?_
        try dsimp only [thenQ, blockQ]
        refine AW.ret ?_
        try dsimp only [thenQ, blockQ]
        refine endQ_ret (.cons (.tmp 4) .nil) ?_
        simp only [retX, slotL, reduceIte, Nat.reduceEqDiff]
        rw [decide_eq_false (show a ≠ b from i.stop En.dflt (by simpa using c3))]
      · have k3 := c3
        try simp only [decide_eq_true_eq, decide_eq_false_iff_not, bne_iff_ne, ne_eq, beq_iff_eq, beq_eq_false_iff_ne, bne_eq_false_iff_eq, Bool.not_eq_true', Bool.not_eq_false', Bool.and_eq_true, Bool.or_eq_true, Bool.and_eq_false_iff, Bool.or_eq_false_iff, Int.not_lt, Int.not_le, Int.toNat_natCast] at c3
        refine AW.skip ?_
        dsimp only [thenQ, blockQ]
        refine AW.region ?_
        refine AWL.q rfl rfl rfl (by decide) Qt.move ?_
        refine AWL.nrm (by simp only [go_sem, Int.reduceToNat, Nat.reduceLT, reduceIte, Nat.reduceEqDiff, Nat.reduceAdd, Nat.reduceMul, Nat.reduceBEq, reduceCtorEq]; rfl) ?_
        refine AWL.q rfl rfl rfl (by decide) (Qt.binOp rfl rfl (by first | exact pbAdd (by omega) | rfl)) ?_
        refine AWL.q rfl rfl rfl (by decide) Qt.assign ?_
        refine AWL.nilE (by simp only [go_sem, Int.reduceToNat, Nat.reduceLT, reduceIte, Nat.reduceEqDiff, Nat.reduceAdd, Nat.reduceMul, Nat.reduceBEq, reduceCtorEq]; rfl) ?_
        try dsimp only [thenQ, blockQ]
        refine ⟨⟨i.k + 1, by omega, i.next En.dflt (by omega) (by omega) (by simpa using c3)⟩, Weak.sim ⟨(by simp only [slotL, reduceIte, Nat.reduceEqDiff]; first | rfl | (rw [IntWalk.i64_in _ (by omega)]; rfl)), rfl, rfl, ⟨_, rfl, T.sim_refl _⟩, ⟨_, rfl, T.sim_refl _⟩, trivial⟩ rfl rfl, ?_⟩
        show a.length - (i.k + 1) < a.length - i.k
        omega
    · have k2 := c2
      try simp only [decide_eq_true_eq, decide_eq_false_iff_not, bne_iff_ne, ne_eq, beq_iff_eq, beq_eq_false_iff_ne, bne_eq_false_iff_eq, Bool.not_eq_true', Bool.not_eq_false', Bool.and_eq_true, Bool.or_eq_true, Bool.and_eq_false_iff, Bool.or_eq_false_iff, Int.not_lt, Int.not_le, Int.toNat_natCast] at c2
      refine AW.exit ?_
      dsimp only [thenQ, blockQ, reduceIte]
      refine AW.seq ?_
      refine AW.region ?_
      refine AWL.q rfl rfl rfl (by decide) Qt.assign ?_
      refine AWL.nilE (by simp only [go_sem, Int.reduceToNat, Nat.reduceLT, reduceIte, Nat.reduceEqDiff, Nat.reduceAdd, Nat.reduceMul, Nat.reduceBEq, reduceCtorEq]; rfl) ?_
      try dsimp only [thenQ, blockQ]
      refine AW.ret ?_
      try dsimp only [thenQ, blockQ]
      refine endQ_ret (.cons (.tmp 4) .nil) ?_
      simp only [retX, slotL, reduceIte, Nat.reduceEqDiff]
      rw [decide_eq_true (show a = b from i.full (by omega) (by omega))]
set_option maxHeartbeats 8000000 in
set_option maxRecDepth 10000 in
theorem eqArrays_con (a b : DArrays) : Con Try.prog 17 [.g [.v (iv a.Next), .v (iv a.Tick), .h base [], .h (base + 1) [], .h (base + 2) [], .h (base + 3) [], .h (base + 4) [], .h (base + 5) [], .h (base + 6) [], .v (.bool a.Ready.Used), .h (base + 7) [], .v (iv a.Ready.Head), .v (iv a.Ready.Len), .h (base + 8) []], .g [.v (iv b.Next), .v (iv b.Tick), .h (base + 9) [], .h (base + 10) [], .h (base + 11) [], .h (base + 12) [], .h (base + 13) [], .h (base + 14) [], .h (base + 15) [], .v (.bool b.Ready.Used), .h (base + 16) [], .v (iv b.Ready.Head), .v (iv b.Ready.Len), .h (base + 17) []]] [.rt base .ro (tr a.Progs), .rt (base + 1) .ro (tr a.Slots), .rt (base + 2) .ro (tr a.Ram), .rt (base + 3) .ro (tr a.Map), .rt (base + 4) .ro (tr a.Opens), .rt (base + 5) .ro (tr a.Pipes), .rt (base + 6) .ro (tr a.Files), .rt (base + 7) .ro (tr a.Ready.Buf), .rt (base + 8) .ro (tr a.Out), .rt (base + 9) .ro (tr b.Progs), .rt (base + 10) .ro (tr b.Slots), .rt (base + 11) .ro (tr b.Ram), .rt (base + 12) .ro (tr b.Map), .rt (base + 13) .ro (tr b.Opens), .rt (base + 14) .ro (tr b.Pipes), .rt (base + 15) .ro (tr b.Files), .rt (base + 16) .ro (tr b.Ready.Buf), .rt (base + 17) .ro (tr b.Out)] (fun y _ => y = .v (.bool (decide (a = b)))) := by
  refine Con.of_body Try.func17 rfl (by simp) ?_
  rw [Try.ntmps17]
  refine AW.seq ?_
  refine AW.region ?_
  refine AWL.step rfl rfl (Stp.boxB rfl (by decide) (by decide) rfl rfl rfl rfl) ?_
  refine AWL.nrm (by simp only [go_sem, Int.reduceToNat, Nat.reduceLT, reduceIte, Nat.reduceEqDiff, Nat.reduceAdd, Nat.reduceMul, Nat.reduceBEq, reduceCtorEq]; rfl) ?_
  refine AWL.step rfl rfl (Stp.boxB rfl (by decide) (by decide) rfl rfl rfl rfl) ?_
  refine AWL.nrm (by simp only [go_sem, Int.reduceToNat, Nat.reduceLT, reduceIte, Nat.reduceEqDiff, Nat.reduceAdd, Nat.reduceMul, Nat.reduceBEq, reduceCtorEq]; rfl) ?_
  refine AWL.q rfl rfl rfl (by decide) Qt.assign ?_
  refine AWL.nilE (by simp only [go_sem, Int.reduceToNat, Nat.reduceLT, reduceIte, Nat.reduceEqDiff, Nat.reduceAdd, Nat.reduceMul, Nat.reduceBEq, reduceCtorEq]; rfl) ?_
  try dsimp only [thenQ, blockQ]
  refine AW.seq ?_
  refine AW.seq ?_
  refine AW.region ?_
  refine AWL.q rfl rfl rfl (by decide) (Qt.fieldAddr rfl fl63_0 rfl rfl (by decide)) ?_
  refine AWL.q rfl rfl rfl (by decide) (Qt.load1 rfl rfl rfl ag3) ?_
  refine AWL.nrm (by simp only [go_sem, Int.reduceToNat, Nat.reduceLT, reduceIte, Nat.reduceEqDiff, Nat.reduceAdd, Nat.reduceMul, Nat.reduceBEq, reduceCtorEq]; rfl) ?_
  refine AWL.q rfl rfl rfl (by decide) (Qt.fieldAddr rfl fl63_0 rfl rfl (by decide)) ?_
  refine AWL.q rfl rfl rfl (by decide) (Qt.load1 rfl rfl rfl ag3) ?_
  refine AWL.q rfl rfl rfl (by decide) (Qt.binOp rfl rfl rfl) ?_
  refine AWL.nilE (by simp only [go_sem, Int.reduceToNat, Nat.reduceLT, reduceIte, Nat.reduceEqDiff, Nat.reduceAdd, Nat.reduceMul, Nat.reduceBEq, reduceCtorEq]; rfl) ?_
  try dsimp only [thenQ, blockQ]
  refine AW.cond rfl (fun c1 => ?_) (fun c1 => ?_)
  · have k1 := c1
    try simp only [decide_eq_true_eq, decide_eq_false_iff_not, bne_iff_ne, ne_eq, beq_iff_eq, beq_eq_false_iff_ne, bne_eq_false_iff_eq, Bool.not_eq_true', Bool.not_eq_false', Bool.and_eq_true, Bool.or_eq_true, Bool.and_eq_false_iff, Bool.or_eq_false_iff, Int.not_lt, Int.not_le, Int.toNat_natCast] at c1
    refine AW.seq ?_
    refine AW.region ?_
    refine AWL.q rfl rfl rfl (by decide) Qt.assign ?_
    refine AWL.nilE (by simp only [go_sem, Int.reduceToNat, Nat.reduceLT, reduceIte, Nat.reduceEqDiff, Nat.reduceAdd, Nat.reduceMul, Nat.reduceBEq, reduceCtorEq]; rfl) ?_
    try dsimp only [thenQ, blockQ]
    refine AW.ret ?_
    try dsimp only [thenQ, blockQ]
    refine endQ_ret (.cons (.tmp 4) .nil) ?_
    simp only [retX, slotL, reduceIte, Nat.reduceEqDiff]
    cases a
    cases b
    simp_all
  · have k1 := c1
    try simp only [decide_eq_true_eq, decide_eq_false_iff_not, bne_iff_ne, ne_eq, beq_iff_eq, beq_eq_false_iff_ne, bne_eq_false_iff_eq, Bool.not_eq_true', Bool.not_eq_false', Bool.and_eq_true, Bool.or_eq_true, Bool.and_eq_false_iff, Bool.or_eq_false_iff, Int.not_lt, Int.not_le, Int.toNat_natCast] at c1
    refine AW.skip ?_
    dsimp only [thenQ, blockQ]
    refine AW.seq ?_
    refine AW.seq ?_
    refine AW.region ?_
    refine AWL.q rfl rfl rfl (by decide) (Qt.fieldAddr rfl fl63_1 rfl rfl (by decide)) ?_
    refine AWL.nrm (by simp only [go_sem, Int.reduceToNat, Nat.reduceLT, reduceIte, Nat.reduceEqDiff, Nat.reduceAdd, Nat.reduceMul, Nat.reduceBEq, reduceCtorEq]; rfl) ?_
    refine AWL.q rfl rfl rfl (by decide) (Qt.load1 rfl rfl rfl ag3) ?_
    refine AWL.q rfl rfl rfl (by decide) (Qt.fieldAddr rfl fl63_1 rfl rfl (by decide)) ?_
    refine AWL.q rfl rfl rfl (by decide) (Qt.load1 rfl rfl rfl ag3) ?_
    refine AWL.nrm (by simp only [go_sem, Int.reduceToNat, Nat.reduceLT, reduceIte, Nat.reduceEqDiff, Nat.reduceAdd, Nat.reduceMul, Nat.reduceBEq, reduceCtorEq]; rfl) ?_
    refine AWL.q rfl rfl rfl (by decide) (Qt.binOp rfl rfl rfl) ?_
    refine AWL.nilE (by simp only [go_sem, Int.reduceToNat, Nat.reduceLT, reduceIte, Nat.reduceEqDiff, Nat.reduceAdd, Nat.reduceMul, Nat.reduceBEq, reduceCtorEq]; rfl) ?_
    try dsimp only [thenQ, blockQ]
    refine AW.cond rfl (fun c2 => ?_) (fun c2 => ?_)
    · have k2 := c2
      try simp only [decide_eq_true_eq, decide_eq_false_iff_not, bne_iff_ne, ne_eq, beq_iff_eq, beq_eq_false_iff_ne, bne_eq_false_iff_eq, Bool.not_eq_true', Bool.not_eq_false', Bool.and_eq_true, Bool.or_eq_true, Bool.and_eq_false_iff, Bool.or_eq_false_iff, Int.not_lt, Int.not_le, Int.toNat_natCast] at c2
      refine AW.seq ?_
      refine AW.region ?_
      refine AWL.q rfl rfl rfl (by decide) Qt.assign ?_
      refine AWL.nilE (by simp only [go_sem, Int.reduceToNat, Nat.reduceLT, reduceIte, Nat.reduceEqDiff, Nat.reduceAdd, Nat.reduceMul, Nat.reduceBEq, reduceCtorEq]; rfl) ?_
      try dsimp only [thenQ, blockQ]
      refine AW.ret ?_
      try dsimp only [thenQ, blockQ]
      refine endQ_ret (.cons (.tmp 4) .nil) ?_
      simp only [retX, slotL, reduceIte, Nat.reduceEqDiff]
      cases a
      cases b
      simp_all
    · have k2 := c2
      try simp only [decide_eq_true_eq, decide_eq_false_iff_not, bne_iff_ne, ne_eq, beq_iff_eq, beq_eq_false_iff_ne, bne_eq_false_iff_eq, Bool.not_eq_true', Bool.not_eq_false', Bool.and_eq_true, Bool.or_eq_true, Bool.and_eq_false_iff, Bool.or_eq_false_iff, Int.not_lt, Int.not_le, Int.toNat_natCast] at c2
      refine AW.skip ?_
      dsimp only [thenQ, blockQ]
      refine AW.seq ?_
      refine AW.seq ?_
      refine AW.region ?_
      refine AWL.q rfl rfl rfl (by decide) (Qt.fieldAddr rfl fl63_2 rfl rfl (by decide)) ?_
      refine AWL.nrm (by simp only [go_sem, Int.reduceToNat, Nat.reduceLT, reduceIte, Nat.reduceEqDiff, Nat.reduceAdd, Nat.reduceMul, Nat.reduceBEq, reduceCtorEq]; rfl) ?_
      refine AWL.q rfl rfl rfl (by decide) (Qt.load1 rfl rfl rfl ag35) ?_
      refine AWL.q rfl rfl rfl (by decide) (Qt.fieldAddr rfl fl63_2 rfl rfl (by decide)) ?_
      refine AWL.q rfl rfl rfl (by decide) (Qt.load1 rfl rfl rfl ag35) ?_
      refine AWL.nrm (by simp only [go_sem, Int.reduceToNat, Nat.reduceLT, reduceIte, Nat.reduceEqDiff, Nat.reduceAdd, Nat.reduceMul, Nat.reduceBEq, reduceCtorEq]; rfl) ?_
      refine AWL.step rfl rfl (Stp.callV rfl (by decide) Try.call23 rfl rfl (eqInsSS_con _ _)) ?_
      refine AWL.nrm (by simp only [go_sem, Int.reduceToNat, Nat.reduceLT, reduceIte, Nat.reduceEqDiff, Nat.reduceAdd, Nat.reduceMul, Nat.reduceBEq, reduceCtorEq]; rfl) ?_
      refine AWL.q rfl rfl rfl (by decide) (Qt.notB rfl) ?_
      refine AWL.nilE (by simp only [go_sem, Int.reduceToNat, Nat.reduceLT, reduceIte, Nat.reduceEqDiff, Nat.reduceAdd, Nat.reduceMul, Nat.reduceBEq, reduceCtorEq]; rfl) ?_
      try dsimp only [thenQ, blockQ]
      refine AW.cond rfl (fun c3 => ?_) (fun c3 => ?_)
      · have k3 := c3
        try simp only [decide_eq_true_eq, decide_eq_false_iff_not, bne_iff_ne, ne_eq, beq_iff_eq, beq_eq_false_iff_ne, bne_eq_false_iff_eq, Bool.not_eq_true', Bool.not_eq_false', Bool.and_eq_true, Bool.or_eq_true, Bool.and_eq_false_iff, Bool.or_eq_false_iff, Int.not_lt, Int.not_le, Int.toNat_natCast] at c3
        refine AW.seq ?_
        refine AW.region ?_
        refine AWL.q rfl rfl rfl (by decide) Qt.assign ?_
        refine AWL.nilE (by simp only [go_sem, Int.reduceToNat, Nat.reduceLT, reduceIte, Nat.reduceEqDiff, Nat.reduceAdd, Nat.reduceMul, Nat.reduceBEq, reduceCtorEq]; rfl) ?_
        try dsimp only [thenQ, blockQ]
        refine AW.ret ?_
        try dsimp only [thenQ, blockQ]
        refine endQ_ret (.cons (.tmp 4) .nil) ?_
        simp only [retX, slotL, reduceIte, Nat.reduceEqDiff]
        cases a
        cases b
        simp_all
      · have k3 := c3
        try simp only [decide_eq_true_eq, decide_eq_false_iff_not, bne_iff_ne, ne_eq, beq_iff_eq, beq_eq_false_iff_ne, bne_eq_false_iff_eq, Bool.not_eq_true', Bool.not_eq_false', Bool.and_eq_true, Bool.or_eq_true, Bool.and_eq_false_iff, Bool.or_eq_false_iff, Int.not_lt, Int.not_le, Int.toNat_natCast] at c3
        refine AW.skip ?_
        dsimp only [thenQ, blockQ]
        refine AW.seq ?_
        refine AW.seq ?_
        refine AW.region ?_
        refine AWL.q rfl rfl rfl (by decide) (Qt.fieldAddr rfl fl63_3 rfl rfl (by decide)) ?_
        refine AWL.nrm (by simp only [go_sem, Int.reduceToNat, Nat.reduceLT, reduceIte, Nat.reduceEqDiff, Nat.reduceAdd, Nat.reduceMul, Nat.reduceBEq, reduceCtorEq]; rfl) ?_
        refine AWL.q rfl rfl rfl (by decide) (Qt.load1 rfl rfl rfl ag57) ?_
        refine AWL.q rfl rfl rfl (by decide) (Qt.fieldAddr rfl fl63_3 rfl rfl (by decide)) ?_
        refine AWL.q rfl rfl rfl (by decide) (Qt.load1 rfl rfl rfl ag57) ?_
        refine AWL.nrm (by simp only [go_sem, Int.reduceToNat, Nat.reduceLT, reduceIte, Nat.reduceEqDiff, Nat.reduceAdd, Nat.reduceMul, Nat.reduceBEq, reduceCtorEq]; rfl) ?_
        refine AWL.step rfl rfl (Stp.callV rfl (by decide) Try.call67 rfl rfl (eqASlotS_con _ _)) ?_
        refine AWL.nrm (by simp only [go_sem, Int.reduceToNat, Nat.reduceLT, reduceIte, Nat.reduceEqDiff, Nat.reduceAdd, Nat.reduceMul, Nat.reduceBEq, reduceCtorEq]; rfl) ?_
        refine AWL.q rfl rfl rfl (by decide) (Qt.notB rfl) ?_
        refine AWL.nilE (by simp only [go_sem, Int.reduceToNat, Nat.reduceLT, reduceIte, Nat.reduceEqDiff, Nat.reduceAdd, Nat.reduceMul, Nat.reduceBEq, reduceCtorEq]; rfl) ?_
        try dsimp only [thenQ, blockQ]
        refine AW.cond rfl (fun c4 => ?_) (fun c4 => ?_)
        · have k4 := c4
          try simp only [decide_eq_true_eq, decide_eq_false_iff_not, bne_iff_ne, ne_eq, beq_iff_eq, beq_eq_false_iff_ne, bne_eq_false_iff_eq, Bool.not_eq_true', Bool.not_eq_false', Bool.and_eq_true, Bool.or_eq_true, Bool.and_eq_false_iff, Bool.or_eq_false_iff, Int.not_lt, Int.not_le, Int.toNat_natCast] at c4
          refine AW.seq ?_
          refine AW.region ?_
          refine AWL.q rfl rfl rfl (by decide) Qt.assign ?_
          refine AWL.nilE (by simp only [go_sem, Int.reduceToNat, Nat.reduceLT, reduceIte, Nat.reduceEqDiff, Nat.reduceAdd, Nat.reduceMul, Nat.reduceBEq, reduceCtorEq]; rfl) ?_
          try dsimp only [thenQ, blockQ]
          refine AW.ret ?_
          try dsimp only [thenQ, blockQ]
          refine endQ_ret (.cons (.tmp 4) .nil) ?_
          simp only [retX, slotL, reduceIte, Nat.reduceEqDiff]
          cases a
          cases b
          simp_all
        · have k4 := c4
          try simp only [decide_eq_true_eq, decide_eq_false_iff_not, bne_iff_ne, ne_eq, beq_iff_eq, beq_eq_false_iff_ne, bne_eq_false_iff_eq, Bool.not_eq_true', Bool.not_eq_false', Bool.and_eq_true, Bool.or_eq_true, Bool.and_eq_false_iff, Bool.or_eq_false_iff, Int.not_lt, Int.not_le, Int.toNat_natCast] at c4
          refine AW.skip ?_
          dsimp only [thenQ, blockQ]
          refine AW.seq ?_
          refine AW.seq ?_
          refine AW.region ?_
          refine AWL.q rfl rfl rfl (by decide) (Qt.fieldAddr rfl fl63_4 rfl rfl (by decide)) ?_
          refine AWL.nrm (by simp only [go_sem, Int.reduceToNat, Nat.reduceLT, reduceIte, Nat.reduceEqDiff, Nat.reduceAdd, Nat.reduceMul, Nat.reduceBEq, reduceCtorEq]; rfl) ?_
          refine AWL.q rfl rfl rfl (by decide) (Qt.load1 rfl rfl rfl ag24) ?_
          refine AWL.q rfl rfl rfl (by decide) (Qt.fieldAddr rfl fl63_4 rfl rfl (by decide)) ?_
          refine AWL.q rfl rfl rfl (by decide) (Qt.load1 rfl rfl rfl ag24) ?_
          refine AWL.nrm (by simp only [go_sem, Int.reduceToNat, Nat.reduceLT, reduceIte, Nat.reduceEqDiff, Nat.reduceAdd, Nat.reduceMul, Nat.reduceBEq, reduceCtorEq]; rfl) ?_
          refine AWL.step rfl rfl (Stp.callV rfl (by decide) Try.call49 rfl rfl (eqIntS_con _ _)) ?_
          refine AWL.nrm (by simp only [go_sem, Int.reduceToNat, Nat.reduceLT, reduceIte, Nat.reduceEqDiff, Nat.reduceAdd, Nat.reduceMul, Nat.reduceBEq, reduceCtorEq]; rfl) ?_
          refine AWL.q rfl rfl rfl (by decide) (Qt.notB rfl) ?_
          refine AWL.nilE (by simp only [go_sem, Int.reduceToNat, Nat.reduceLT, reduceIte, Nat.reduceEqDiff, Nat.reduceAdd, Nat.reduceMul, Nat.reduceBEq, reduceCtorEq]; rfl) ?_
          try dsimp only [thenQ, blockQ]
          refine AW.cond rfl (fun c5 => ?_) (fun c5 => ?_)
          · have k5 := c5
            try simp only [decide_eq_true_eq, decide_eq_false_iff_not, bne_iff_ne, ne_eq, beq_iff_eq, beq_eq_false_iff_ne, bne_eq_false_iff_eq, Bool.not_eq_true', Bool.not_eq_false', Bool.and_eq_true, Bool.or_eq_true, Bool.and_eq_false_iff, Bool.or_eq_false_iff, Int.not_lt, Int.not_le, Int.toNat_natCast] at c5
            refine AW.seq ?_
            refine AW.region ?_
            refine AWL.q rfl rfl rfl (by decide) Qt.assign ?_
            refine AWL.nilE (by simp only [go_sem, Int.reduceToNat, Nat.reduceLT, reduceIte, Nat.reduceEqDiff, Nat.reduceAdd, Nat.reduceMul, Nat.reduceBEq, reduceCtorEq]; rfl) ?_
            try dsimp only [thenQ, blockQ]
            refine AW.ret ?_
            try dsimp only [thenQ, blockQ]
            refine endQ_ret (.cons (.tmp 4) .nil) ?_
            simp only [retX, slotL, reduceIte, Nat.reduceEqDiff]
            cases a
            cases b
            simp_all
          · have k5 := c5
            try simp only [decide_eq_true_eq, decide_eq_false_iff_not, bne_iff_ne, ne_eq, beq_iff_eq, beq_eq_false_iff_ne, bne_eq_false_iff_eq, Bool.not_eq_true', Bool.not_eq_false', Bool.and_eq_true, Bool.or_eq_true, Bool.and_eq_false_iff, Bool.or_eq_false_iff, Int.not_lt, Int.not_le, Int.toNat_natCast] at c5
            refine AW.skip ?_
            dsimp only [thenQ, blockQ]
            refine AW.seq ?_
            refine AW.seq ?_
            refine AW.region ?_
            refine AWL.q rfl rfl rfl (by decide) (Qt.fieldAddr rfl fl63_5 rfl rfl (by decide)) ?_
            refine AWL.nrm (by simp only [go_sem, Int.reduceToNat, Nat.reduceLT, reduceIte, Nat.reduceEqDiff, Nat.reduceAdd, Nat.reduceMul, Nat.reduceBEq, reduceCtorEq]; rfl) ?_
            refine AWL.q rfl rfl rfl (by decide) (Qt.load1 rfl rfl rfl ag47) ?_
            refine AWL.q rfl rfl rfl (by decide) (Qt.fieldAddr rfl fl63_5 rfl rfl (by decide)) ?_
            refine AWL.q rfl rfl rfl (by decide) (Qt.load1 rfl rfl rfl ag47) ?_
            refine AWL.nrm (by simp only [go_sem, Int.reduceToNat, Nat.reduceLT, reduceIte, Nat.reduceEqDiff, Nat.reduceAdd, Nat.reduceMul, Nat.reduceBEq, reduceCtorEq]; rfl) ?_
            refine AWL.step rfl rfl (Stp.callV rfl (by decide) Try.call68 rfl rfl (eqBoolS_con _ _)) ?_
            refine AWL.nrm (by simp only [go_sem, Int.reduceToNat, Nat.reduceLT, reduceIte, Nat.reduceEqDiff, Nat.reduceAdd, Nat.reduceMul, Nat.reduceBEq, reduceCtorEq]; rfl) ?_
            refine AWL.q rfl rfl rfl (by decide) (Qt.notB rfl) ?_
            refine AWL.nilE (by simp only [go_sem, Int.reduceToNat, Nat.reduceLT, reduceIte, Nat.reduceEqDiff, Nat.reduceAdd, Nat.reduceMul, Nat.reduceBEq, reduceCtorEq]; rfl) ?_
            try dsimp only [thenQ, blockQ]
            refine AW.cond rfl (fun c6 => ?_) (fun c6 => ?_)
            · have k6 := c6
              try simp only [decide_eq_true_eq, decide_eq_false_iff_not, bne_iff_ne, ne_eq, beq_iff_eq, beq_eq_false_iff_ne, bne_eq_false_iff_eq, Bool.not_eq_true', Bool.not_eq_false', Bool.and_eq_true, Bool.or_eq_true, Bool.and_eq_false_iff, Bool.or_eq_false_iff, Int.not_lt, Int.not_le, Int.toNat_natCast] at c6
              refine AW.seq ?_
              refine AW.region ?_
              refine AWL.q rfl rfl rfl (by decide) Qt.assign ?_
              refine AWL.nilE (by simp only [go_sem, Int.reduceToNat, Nat.reduceLT, reduceIte, Nat.reduceEqDiff, Nat.reduceAdd, Nat.reduceMul, Nat.reduceBEq, reduceCtorEq]; rfl) ?_
              try dsimp only [thenQ, blockQ]
              refine AW.ret ?_
              try dsimp only [thenQ, blockQ]
              refine endQ_ret (.cons (.tmp 4) .nil) ?_
              simp only [retX, slotL, reduceIte, Nat.reduceEqDiff]
              cases a
              cases b
              simp_all
            · have k6 := c6
              try simp only [decide_eq_true_eq, decide_eq_false_iff_not, bne_iff_ne, ne_eq, beq_iff_eq, beq_eq_false_iff_ne, bne_eq_false_iff_eq, Bool.not_eq_true', Bool.not_eq_false', Bool.and_eq_true, Bool.or_eq_true, Bool.and_eq_false_iff, Bool.or_eq_false_iff, Int.not_lt, Int.not_le, Int.toNat_natCast] at c6
              refine AW.skip ?_
              dsimp only [thenQ, blockQ]
              refine AW.seq ?_
              refine AW.seq ?_
              refine AW.region ?_
              refine AWL.q rfl rfl rfl (by decide) (Qt.fieldAddr rfl fl63_6 rfl rfl (by decide)) ?_
              refine AWL.nrm (by simp only [go_sem, Int.reduceToNat, Nat.reduceLT, reduceIte, Nat.reduceEqDiff, Nat.reduceAdd, Nat.reduceMul, Nat.reduceBEq, reduceCtorEq]; rfl) ?_
              refine AWL.q rfl rfl rfl (by decide) (Qt.load1 rfl rfl rfl ag58) ?_
              refine AWL.q rfl rfl rfl (by decide) (Qt.fieldAddr rfl fl63_6 rfl rfl (by decide)) ?_
              refine AWL.q rfl rfl rfl (by decide) (Qt.load1 rfl rfl rfl ag58) ?_
              refine AWL.nrm (by simp only [go_sem, Int.reduceToNat, Nat.reduceLT, reduceIte, Nat.reduceEqDiff, Nat.reduceAdd, Nat.reduceMul, Nat.reduceBEq, reduceCtorEq]; rfl) ?_
              refine AWL.step rfl rfl (Stp.callV rfl (by decide) Try.call69 rfl rfl (eqAOpenS_con _ _)) ?_
              refine AWL.nrm (by simp only [go_sem, Int.reduceToNat, Nat.reduceLT, reduceIte, Nat.reduceEqDiff, Nat.reduceAdd, Nat.reduceMul, Nat.reduceBEq, reduceCtorEq]; rfl) ?_
              refine AWL.q rfl rfl rfl (by decide) (Qt.notB rfl) ?_
              refine AWL.nilE (by simp only [go_sem, Int.reduceToNat, Nat.reduceLT, reduceIte, Nat.reduceEqDiff, Nat.reduceAdd, Nat.reduceMul, Nat.reduceBEq, reduceCtorEq]; rfl) ?_
              try dsimp only [thenQ, blockQ]
              refine AW.cond rfl (fun c7 => ?_) (fun c7 => ?_)
              · have k7 := c7
                try simp only [decide_eq_true_eq, decide_eq_false_iff_not, bne_iff_ne, ne_eq, beq_iff_eq, beq_eq_false_iff_ne, bne_eq_false_iff_eq, Bool.not_eq_true', Bool.not_eq_false', Bool.and_eq_true, Bool.or_eq_true, Bool.and_eq_false_iff, Bool.or_eq_false_iff, Int.not_lt, Int.not_le, Int.toNat_natCast] at c7
                refine AW.seq ?_
                refine AW.region ?_
                refine AWL.q rfl rfl rfl (by decide) Qt.assign ?_
                refine AWL.nilE (by simp only [go_sem, Int.reduceToNat, Nat.reduceLT, reduceIte, Nat.reduceEqDiff, Nat.reduceAdd, Nat.reduceMul, Nat.reduceBEq, reduceCtorEq]; rfl) ?_
                try dsimp only [thenQ, blockQ]
                refine AW.ret ?_
                try dsimp only [thenQ, blockQ]
                refine endQ_ret (.cons (.tmp 4) .nil) ?_
                simp only [retX, slotL, reduceIte, Nat.reduceEqDiff]
                cases a
                cases b
                simp_all
              · have k7 := c7
                try simp only [decide_eq_true_eq, decide_eq_false_iff_not, bne_iff_ne, ne_eq, beq_iff_eq, beq_eq_false_iff_ne, bne_eq_false_iff_eq, Bool.not_eq_true', Bool.not_eq_false', Bool.and_eq_true, Bool.or_eq_true, Bool.and_eq_false_iff, Bool.or_eq_false_iff, Int.not_lt, Int.not_le, Int.toNat_natCast] at c7
                refine AW.skip ?_
                dsimp only [thenQ, blockQ]
                refine AW.seq ?_
                refine AW.seq ?_
                refine AW.region ?_
                refine AWL.q rfl rfl rfl (by decide) (Qt.fieldAddr rfl fl63_7 rfl rfl (by decide)) ?_
                refine AWL.nrm (by simp only [go_sem, Int.reduceToNat, Nat.reduceLT, reduceIte, Nat.reduceEqDiff, Nat.reduceAdd, Nat.reduceMul, Nat.reduceBEq, reduceCtorEq]; rfl) ?_
                refine AWL.q rfl rfl rfl (by decide) (Qt.load1 rfl rfl rfl ag59) ?_
                refine AWL.q rfl rfl rfl (by decide) (Qt.fieldAddr rfl fl63_7 rfl rfl (by decide)) ?_
                refine AWL.q rfl rfl rfl (by decide) (Qt.load1 rfl rfl rfl ag59) ?_
                refine AWL.nrm (by simp only [go_sem, Int.reduceToNat, Nat.reduceLT, reduceIte, Nat.reduceEqDiff, Nat.reduceAdd, Nat.reduceMul, Nat.reduceBEq, reduceCtorEq]; rfl) ?_
                refine AWL.step rfl rfl (Stp.callV rfl (by decide) Try.call70 rfl rfl (eqARingS_con _ _)) ?_
                refine AWL.nrm (by simp only [go_sem, Int.reduceToNat, Nat.reduceLT, reduceIte, Nat.reduceEqDiff, Nat.reduceAdd, Nat.reduceMul, Nat.reduceBEq, reduceCtorEq]; rfl) ?_
                refine AWL.q rfl rfl rfl (by decide) (Qt.notB rfl) ?_
                refine AWL.nilE (by simp only [go_sem, Int.reduceToNat, Nat.reduceLT, reduceIte, Nat.reduceEqDiff, Nat.reduceAdd, Nat.reduceMul, Nat.reduceBEq, reduceCtorEq]; rfl) ?_
                try dsimp only [thenQ, blockQ]
                refine AW.cond rfl (fun c8 => ?_) (fun c8 => ?_)
                · have k8 := c8
                  try simp only [decide_eq_true_eq, decide_eq_false_iff_not, bne_iff_ne, ne_eq, beq_iff_eq, beq_eq_false_iff_ne, bne_eq_false_iff_eq, Bool.not_eq_true', Bool.not_eq_false', Bool.and_eq_true, Bool.or_eq_true, Bool.and_eq_false_iff, Bool.or_eq_false_iff, Int.not_lt, Int.not_le, Int.toNat_natCast] at c8
                  refine AW.seq ?_
                  refine AW.region ?_
                  refine AWL.q rfl rfl rfl (by decide) Qt.assign ?_
                  refine AWL.nilE (by simp only [go_sem, Int.reduceToNat, Nat.reduceLT, reduceIte, Nat.reduceEqDiff, Nat.reduceAdd, Nat.reduceMul, Nat.reduceBEq, reduceCtorEq]; rfl) ?_
                  try dsimp only [thenQ, blockQ]
                  refine AW.ret ?_
                  try dsimp only [thenQ, blockQ]
                  refine endQ_ret (.cons (.tmp 4) .nil) ?_
                  simp only [retX, slotL, reduceIte, Nat.reduceEqDiff]
                  cases a
                  cases b
                  simp_all
                · have k8 := c8
                  try simp only [decide_eq_true_eq, decide_eq_false_iff_not, bne_iff_ne, ne_eq, beq_iff_eq, beq_eq_false_iff_ne, bne_eq_false_iff_eq, Bool.not_eq_true', Bool.not_eq_false', Bool.and_eq_true, Bool.or_eq_true, Bool.and_eq_false_iff, Bool.or_eq_false_iff, Int.not_lt, Int.not_le, Int.toNat_natCast] at c8
                  refine AW.skip ?_
                  dsimp only [thenQ, blockQ]
                  refine AW.seq ?_
                  refine AW.seq ?_
                  refine AW.region ?_
                  refine AWL.q rfl rfl rfl (by decide) (Qt.fieldAddr rfl fl63_8 rfl rfl (by decide)) ?_
                  refine AWL.nrm (by simp only [go_sem, Int.reduceToNat, Nat.reduceLT, reduceIte, Nat.reduceEqDiff, Nat.reduceAdd, Nat.reduceMul, Nat.reduceBEq, reduceCtorEq]; rfl) ?_
                  refine AWL.q rfl rfl rfl (by decide) (Qt.load1 rfl rfl rfl ag60) ?_
                  refine AWL.q rfl rfl rfl (by decide) (Qt.fieldAddr rfl fl63_8 rfl rfl (by decide)) ?_
                  refine AWL.q rfl rfl rfl (by decide) (Qt.load1 rfl rfl rfl ag60) ?_
                  refine AWL.nrm (by simp only [go_sem, Int.reduceToNat, Nat.reduceLT, reduceIte, Nat.reduceEqDiff, Nat.reduceAdd, Nat.reduceMul, Nat.reduceBEq, reduceCtorEq]; rfl) ?_
                  refine AWL.step rfl rfl (Stp.callV rfl (by decide) Try.call71 rfl rfl (eqAFileS_con _ _)) ?_
                  refine AWL.nrm (by simp only [go_sem, Int.reduceToNat, Nat.reduceLT, reduceIte, Nat.reduceEqDiff, Nat.reduceAdd, Nat.reduceMul, Nat.reduceBEq, reduceCtorEq]; rfl) ?_
                  refine AWL.q rfl rfl rfl (by decide) (Qt.notB rfl) ?_
                  refine AWL.nilE (by simp only [go_sem, Int.reduceToNat, Nat.reduceLT, reduceIte, Nat.reduceEqDiff, Nat.reduceAdd, Nat.reduceMul, Nat.reduceBEq, reduceCtorEq]; rfl) ?_
                  try dsimp only [thenQ, blockQ]
                  refine AW.cond rfl (fun c9 => ?_) (fun c9 => ?_)
                  · have k9 := c9
                    try simp only [decide_eq_true_eq, decide_eq_false_iff_not, bne_iff_ne, ne_eq, beq_iff_eq, beq_eq_false_iff_ne, bne_eq_false_iff_eq, Bool.not_eq_true', Bool.not_eq_false', Bool.and_eq_true, Bool.or_eq_true, Bool.and_eq_false_iff, Bool.or_eq_false_iff, Int.not_lt, Int.not_le, Int.toNat_natCast] at c9
                    refine AW.seq ?_
                    refine AW.region ?_
                    refine AWL.q rfl rfl rfl (by decide) Qt.assign ?_
                    refine AWL.nilE (by simp only [go_sem, Int.reduceToNat, Nat.reduceLT, reduceIte, Nat.reduceEqDiff, Nat.reduceAdd, Nat.reduceMul, Nat.reduceBEq, reduceCtorEq]; rfl) ?_
                    try dsimp only [thenQ, blockQ]
                    refine AW.ret ?_
                    try dsimp only [thenQ, blockQ]
                    refine endQ_ret (.cons (.tmp 4) .nil) ?_
                    simp only [retX, slotL, reduceIte, Nat.reduceEqDiff]
                    cases a
                    cases b
                    simp_all
                  · have k9 := c9
                    try simp only [decide_eq_true_eq, decide_eq_false_iff_not, bne_iff_ne, ne_eq, beq_iff_eq, beq_eq_false_iff_ne, bne_eq_false_iff_eq, Bool.not_eq_true', Bool.not_eq_false', Bool.and_eq_true, Bool.or_eq_true, Bool.and_eq_false_iff, Bool.or_eq_false_iff, Int.not_lt, Int.not_le, Int.toNat_natCast] at c9
                    refine AW.skip ?_
                    dsimp only [thenQ, blockQ]
                    refine AW.seq ?_
                    refine AW.seq ?_
                    refine AW.region ?_
                    refine AWL.q rfl rfl rfl (by decide) (Qt.fieldAddr rfl fl63_9 rfl rfl (by decide)) ?_
                    refine AWL.nrm (by simp only [go_sem, Int.reduceToNat, Nat.reduceLT, reduceIte, Nat.reduceEqDiff, Nat.reduceAdd, Nat.reduceMul, Nat.reduceBEq, reduceCtorEq]; rfl) ?_
                    refine AWL.q rfl rfl rfl (by decide) (Qt.loadG rfl rfl rfl ag61 sz61 (by decide)) ?_
                    refine AWL.q rfl rfl rfl (by decide) (Qt.fieldAddr rfl fl63_9 rfl rfl (by decide)) ?_
                    refine AWL.q rfl rfl rfl (by decide) (Qt.loadG rfl rfl rfl ag61 sz61 (by decide)) ?_
                    refine AWL.nrm (by simp only [go_sem, Int.reduceToNat, Nat.reduceLT, reduceIte, Nat.reduceEqDiff, Nat.reduceAdd, Nat.reduceMul, Nat.reduceBEq, reduceCtorEq]; rfl) ?_
                    refine AWL.step rfl rfl (Stp.callV rfl (by decide) Try.call72 rfl rfl (eqARing_con _ _)) ?_
                    refine AWL.nrm (by simp only [go_sem, Int.reduceToNat, Nat.reduceLT, reduceIte, Nat.reduceEqDiff, Nat.reduceAdd, Nat.reduceMul, Nat.reduceBEq, reduceCtorEq]; rfl) ?_
                    refine AWL.q rfl rfl rfl (by decide) (Qt.notB rfl) ?_
                    refine AWL.nilE (by simp only [go_sem, Int.reduceToNat, Nat.reduceLT, reduceIte, Nat.reduceEqDiff, Nat.reduceAdd, Nat.reduceMul, Nat.reduceBEq, reduceCtorEq]; rfl) ?_
                    try dsimp only [thenQ, blockQ]
                    refine AW.cond rfl (fun c10 => ?_) (fun c10 => ?_)
                    · have k10 := c10
                      try simp only [decide_eq_true_eq, decide_eq_false_iff_not, bne_iff_ne, ne_eq, beq_iff_eq, beq_eq_false_iff_ne, bne_eq_false_iff_eq, Bool.not_eq_true', Bool.not_eq_false', Bool.and_eq_true, Bool.or_eq_true, Bool.and_eq_false_iff, Bool.or_eq_false_iff, Int.not_lt, Int.not_le, Int.toNat_natCast] at c10
                      refine AW.seq ?_
                      refine AW.region ?_
                      refine AWL.q rfl rfl rfl (by decide) Qt.assign ?_
                      refine AWL.nilE (by simp only [go_sem, Int.reduceToNat, Nat.reduceLT, reduceIte, Nat.reduceEqDiff, Nat.reduceAdd, Nat.reduceMul, Nat.reduceBEq, reduceCtorEq]; rfl) ?_
                      try dsimp only [thenQ, blockQ]
                      refine AW.ret ?_
                      try dsimp only [thenQ, blockQ]
                      refine endQ_ret (.cons (.tmp 4) .nil) ?_
                      simp only [retX, slotL, reduceIte, Nat.reduceEqDiff]
                      cases a
                      cases b
                      simp_all
                    · have k10 := c10
                      try simp only [decide_eq_true_eq, decide_eq_false_iff_not, bne_iff_ne, ne_eq, beq_iff_eq, beq_eq_false_iff_ne, bne_eq_false_iff_eq, Bool.not_eq_true', Bool.not_eq_false', Bool.and_eq_true, Bool.or_eq_true, Bool.and_eq_false_iff, Bool.or_eq_false_iff, Int.not_lt, Int.not_le, Int.toNat_natCast] at c10
                      refine AW.skip ?_
                      dsimp only [thenQ, blockQ]
                      refine AW.seq ?_
                      refine AW.seq ?_
                      refine AW.region ?_
                      refine AWL.q rfl rfl rfl (by decide) (Qt.fieldAddr rfl fl63_10 rfl rfl (by decide)) ?_
                      refine AWL.nrm (by simp only [go_sem, Int.reduceToNat, Nat.reduceLT, reduceIte, Nat.reduceEqDiff, Nat.reduceAdd, Nat.reduceMul, Nat.reduceBEq, reduceCtorEq]; rfl) ?_
                      refine AWL.q rfl rfl rfl (by decide) (Qt.load1 rfl rfl rfl ag24) ?_
                      refine AWL.q rfl rfl rfl (by decide) (Qt.fieldAddr rfl fl63_10 rfl rfl (by decide)) ?_
                      refine AWL.q rfl rfl rfl (by decide) (Qt.load1 rfl rfl rfl ag24) ?_
                      refine AWL.nrm (by simp only [go_sem, Int.reduceToNat, Nat.reduceLT, reduceIte, Nat.reduceEqDiff, Nat.reduceAdd, Nat.reduceMul, Nat.reduceBEq, reduceCtorEq]; rfl) ?_
                      refine AWL.step rfl rfl (Stp.callV rfl (by decide) Try.call49 rfl rfl (eqIntS_con _ _)) ?_
                      refine AWL.nrm (by simp only [go_sem, Int.reduceToNat, Nat.reduceLT, reduceIte, Nat.reduceEqDiff, Nat.reduceAdd, Nat.reduceMul, Nat.reduceBEq, reduceCtorEq]; rfl) ?_
                      refine AWL.q rfl rfl rfl (by decide) (Qt.notB rfl) ?_
                      refine AWL.nilE (by simp only [go_sem, Int.reduceToNat, Nat.reduceLT, reduceIte, Nat.reduceEqDiff, Nat.reduceAdd, Nat.reduceMul, Nat.reduceBEq, reduceCtorEq]; rfl) ?_
                      try dsimp only [thenQ, blockQ]
                      refine AW.cond rfl (fun c11 => ?_) (fun c11 => ?_)
                      · have k11 := c11
                        try simp only [decide_eq_true_eq, decide_eq_false_iff_not, bne_iff_ne, ne_eq, beq_iff_eq, beq_eq_false_iff_ne, bne_eq_false_iff_eq, Bool.not_eq_true', Bool.not_eq_false', Bool.and_eq_true, Bool.or_eq_true, Bool.and_eq_false_iff, Bool.or_eq_false_iff, Int.not_lt, Int.not_le, Int.toNat_natCast] at c11
                        refine AW.seq ?_
                        refine AW.region ?_
                        refine AWL.q rfl rfl rfl (by decide) Qt.assign ?_
                        refine AWL.nilE (by simp only [go_sem, Int.reduceToNat, Nat.reduceLT, reduceIte, Nat.reduceEqDiff, Nat.reduceAdd, Nat.reduceMul, Nat.reduceBEq, reduceCtorEq]; rfl) ?_
                        try dsimp only [thenQ, blockQ]
                        refine AW.ret ?_
                        try dsimp only [thenQ, blockQ]
                        refine endQ_ret (.cons (.tmp 4) .nil) ?_
                        simp only [retX, slotL, reduceIte, Nat.reduceEqDiff]
                        cases a
                        cases b
                        simp_all
                      · have k11 := c11
                        try simp only [decide_eq_true_eq, decide_eq_false_iff_not, bne_iff_ne, ne_eq, beq_iff_eq, beq_eq_false_iff_ne, bne_eq_false_iff_eq, Bool.not_eq_true', Bool.not_eq_false', Bool.and_eq_true, Bool.or_eq_true, Bool.and_eq_false_iff, Bool.or_eq_false_iff, Int.not_lt, Int.not_le, Int.toNat_natCast] at c11
                        refine AW.skip ?_
                        dsimp only [thenQ, blockQ]
                        refine AW.seq ?_
                        refine AW.region ?_
                        refine AWL.q rfl rfl rfl (by decide) Qt.assign ?_
                        refine AWL.nilE (by simp only [go_sem, Int.reduceToNat, Nat.reduceLT, reduceIte, Nat.reduceEqDiff, Nat.reduceAdd, Nat.reduceMul, Nat.reduceBEq, reduceCtorEq]; rfl) ?_
                        try dsimp only [thenQ, blockQ]
                        refine AW.ret ?_
                        try dsimp only [thenQ, blockQ]
                        refine endQ_ret (.cons (.tmp 4) .nil) ?_
                        simp only [retX, slotL, reduceIte, Nat.reduceEqDiff]
                        cases a
                        cases b
                        simp_all
end Go.Proofs.Ytimmbmphfgnelaa.VM
