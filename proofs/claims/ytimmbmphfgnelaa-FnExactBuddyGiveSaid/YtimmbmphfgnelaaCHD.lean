/- Contracts of functions of the program. No conditions beyond those that each states. -/
import Derived.Test.YtimmbmphfgnelaaCHC
set_option linter.all false
namespace Go.Proofs.Ytimmbmphfgnelaa.VM
open Go Go.RowKit Go.Proofs
set_option maxHeartbeats 8000000 in
set_option maxRecDepth 10000 in
theorem BuddyGiveS_con (a : DBuddy) (f : Int) (hw : Mk.wt a.Free ≤ 1048576) : Con Try.prog 34 [.g [.h base []], .v (iv f)] [.rt base .ro (tr a.Free)] (Ret (.t [.g [.h 0 []], .v (.bool (bG a.Free f).2)]) [(0, .row, tr (bG a.Free f).1)]) := by
 refine Con.of_body Try.func34 rfl (by simp) ?_
 rw [Try.ntmps34]
 refine AW.seq (AW.region ?_)
 refine sp (Stp.boxB rfl (by decide) (by decide) rfl rfl rfl rfl) ?_
 refine nm ?_
 refine sp (Stp.alloc rfl (by decide) (by decide)) ?_
 refine nm ?_
 refine qq Qt.assign ?_
 refine nl ?_
 refine AW.seq (AW.seq (AW.region ?_))
 refine qq (Qt.loadG rfl rfl rfl ag37 sz37 (by decide)) ?_
 refine cv Try.call99 rfl rfl (BuddyOkS_con _) ?_
 refine nm ?_
 refine qq (Qt.notB rfl) ?_
 refine nl ?_
 refine AW.cond rfl (fun c1 => ?_) (fun c1 => ?_)
 ·have k1 := c1
  try simp only [cnd] at c1
  refine AW.seq (AW.region ?_)
  refine qq (Qt.build rfl) ?_
  refine ss ?_
  refine nm ?_
  refine qq Qt.assign ?_
  refine nl ?_
  refine AW.weak (Weak.hoist 4 0 900 rfl (by decide) rfl rfl rfl) ?_
  refine AW.rep 900 (tr ([] : List (List Int))) rfl sim_nil ?_
  refine AW.ret (endQ_ret (.cons (.cellG 4 37 rfl rfl rfl ag37 sz37 (by decide)) (.cons (.tmp 5) .nil)) ?_)
  rw [show bG a.Free f = ([], false) from if_neg (by grind only)]
  refine ⟨fun _ => 900, rfl, nodup_of rfl, ?_⟩
  intro r hr
  cases List.mem_singleton.1 hr
  exact ⟨by simp, rootL_mem rfl⟩
 have k1 := c1
 try simp only [cnd] at c1
 have hok : okS a.Free = true := by grind only
 have hF := budF_of hok
 refine jd (AW.seq (AW.region ?_))
 refine qq (Qt.loadG rfl rfl rfl ag37 sz37 (by decide)) ?_
 refine sp (Stp.callR rfl (by decide) Try.call101 rfl rfl (l15Copy_con a hw) (nodup_of rfl) rfl rfl) ?_
 refine nm ?_
 refine qq Qt.move ?_
 refine sp (Stp.callH rfl (by decide) Try.call112 rfl (l15Give_con a f (gRow_of hF)) rfl rfl rfl (nodup_of rfl) rfl rfl) ?_
 refine nm ?_
 refine qq Qt.move ?_
 refine qq (Qt.extract rfl (of_decide_eq_true rfl)) ?_
 refine qq (Qt.extract rfl (of_decide_eq_true rfl)) ?_
 refine nm ?_
 refine sp (Stp.alloc rfl (by decide) (by decide)) ?_
 refine nm ?_
 refine ss ?_
 refine nm ?_
 refine qq Qt.assign ?_
 refine nl ?_
 refine AW.seq (AW.region ?_)
 refine qq (Qt.loadG rfl rfl rfl ag37 sz37 (by decide)) ?_
 refine qq Qt.move ?_
 refine nm ?_
 refine ss ?_
 refine nm ?_
 refine qq Qt.assign ?_
 refine nl ?_
 refine AW.ret (endQ_ret (.cons (.cellG 4 37 rfl rfl rfl ag37 sz37 (by decide)) (.cons (.tmp 5) .nil)) ?_)
 rw [show bG a.Free f = gS a.Free f from if_pos hok]
 refine ⟨fun _ => 14, rfl, nodup_of rfl, ?_⟩
 intro r hr
 cases List.mem_singleton.1 hr
 exact ⟨by simp, rootL_mem rfl⟩
end Go.Proofs.Ytimmbmphfgnelaa.VM
