/- Contracts of functions of the program. No conditions beyond those that each states. -/
import Derived.Test.YtfbefcmeghpalaaCMW
set_option linter.all false
namespace Go.Proofs.Ytfbefcmeghpalaa.VM
open Go Go.RowKit Go.Proofs
theorem szS_bd (n : Nat) {m : Int} (h : 0 < m ∧ m ≤ 1000) : 0 < szS n m ∧ szS n m ≤ 1000 := by
 unfold szS
 split <;> omega
set_option maxHeartbeats 8000000 in
set_option maxRecDepth 10000 in
theorem DrawBuddyTake_con (code : List UInt8) (hw : code.length ≤ 1048576) : Con Try.prog 6 [.h base []] [.rt base .ro (tr code)] (RetC false (fun m : List (List Int) => Drawn m) (fun m => .g [.h 0 []]) (fun m => [(0, .row, tr m)])) := by
 refine Con.of_body Try.func6 rfl (by simp) ?_
 rw [Try.ntmps6]
 refine AW.seq (AW.region ?_)
 refine sp (Stp.alloc rfl (by decide) (by decide)) ?_
 refine nl ?_
 refine AW.seq (AW.region ?_)
 refine qq Qt.move ?_
 refine nm ?_
 refine spK (StpK.callC true rfl (by decide) Try.call23 rfl rfl rfl rfl (l1New_con code hw) (fun _ => nodup_of rfl) (fun _ => rfl) (fun _ => rfl) (fun _ => rfl) (fun _ _ => rfl)) ?_
 rintro _ ⟨d1_1, hd1_1, rfl⟩
 try dsimp only at hd1_1
 refine nm ?_
 refine qq Qt.assign ?_
 refine nl ?_
 refine AW.seq (AW.region ?_)
 refine qq Qt.move ?_
 refine qq Qt.move ?_
 refine nm ?_
 refine cv Try.call25 rfl rfl (l1Size_con code _ hw) ?_
 refine nm ?_
 refine spK (StpK.callD rfl (by decide) Try.call24 rfl rfl rfl rfl rfl rfl rfl (cur_leaf _ _) (l15Some_con code _ _ _ (szS_bd _ (by decide))) (fun _ => nodup_of rfl) (fun _ => rfl) (fun _ => rfl)) ?_
 rintro _ ⟨d2_3, hd2_3, rfl⟩
 try dsimp only at hd2_3
 refine nm ?_
 refine ss ?_
 refine nl ?_
 refine AW.ret (endQ_ret (.cons (.cellG 2 26 rfl rfl rfl ag26 sz26 (by decide)) .nil) ?_)
 exact ⟨d2_3.2.2, hd2_3, fun _ => 9, rfl, nodup_of rfl, (fun r hr => by cases List.mem_singleton.1 hr; exact ⟨by simp, rootL_mem rfl, by show (9 : Nat) < 100000; decide⟩), fun h => by cases h⟩
end Go.Proofs.Ytfbefcmeghpalaa.VM
