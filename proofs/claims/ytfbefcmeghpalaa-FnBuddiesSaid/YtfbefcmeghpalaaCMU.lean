/- Contracts of functions of the program. No conditions beyond those that each states. -/
import Derived.Test.YtfbefcmeghpalaaCMF
set_option linter.all false
namespace Go.Proofs.Ytfbefcmeghpalaa.VM
open Go Go.RowKit Go.Proofs
def buddyAll : DBuddy := ⟨[[], [], [], [], [0]]⟩
set_option maxRecDepth 10000 in
theorem BuddyAllS_con : Con Try.prog 66 [] [] (Ret (.g [.h 0 []]) [(0, .row, tr buddyAll.Free)]) := by
 refine Con.of_body Try.func66 rfl (by simp) ?_
 rw [Try.ntmps66]
 refine AW.seq (AW.region ?_)
 refine sp (Stp.alloc rfl (by decide) (by decide)) ?_
 refine nl ?_
 refine AW.seq (AW.region ?_)
 refine sp (Stp.buildSlice rfl (by decide) (by decide) rfl (by decide) rfl rfl rfl (nodup_of rfl)) ?_
 refine nm ?_
 refine sp (Stp.buildSlice rfl (by decide) (by decide) rfl (by decide) rfl rfl rfl (nodup_of rfl)) ?_
 refine nm ?_
 refine sp (Stp.buildSlice rfl (by decide) (by decide) rfl (by decide) rfl rfl rfl (nodup_of rfl)) ?_
 refine nm ?_
 refine sp (Stp.buildSlice rfl (by decide) (by decide) rfl (by decide) rfl rfl rfl (nodup_of rfl)) ?_
 refine nm ?_
 refine sp (Stp.buildSlice rfl (by decide) (by decide) rfl (by decide) rfl rfl rfl (nodup_of rfl)) ?_
 refine nm ?_
 refine sp (Stp.buildSlice rfl (by decide) (by decide) rfl (by decide) rfl rfl rfl (nodup_of rfl)) ?_
 refine nm ?_
 refine qq (Qt.build rfl) ?_
 refine ss ?_
 refine nl ?_
 refine AW.rep 6 (tr buddyAll.Free) rfl (by refine ⟨_, rfl, fun k c hk hc => ?_⟩; match k, c, hk, hc with | 0, 0, _, _ => exact sim_nil | 1, 0, _, _ => exact sim_nil | 2, 0, _, _ => exact sim_nil | 3, 0, _, _ => exact sim_nil | 4, 0, _, _ => exact ⟨_, rfl, fun k c hk hc => by match k, c, hk, hc with | 0, 0, _, _ => rfl | k + 1, _, hk, _ => exact absurd hk (by omega) | _, c + 1, _, hc => exact absurd hc (by omega)⟩ | k + 5, _, hk, _ => exact absurd hk (by omega) | _, c + 1, _, hc => exact absurd hc (by omega)) ?_
 simp only [repR, reduceIte, Nat.reduceEqDiff]
 refine AW.ret (endQ_ret (.cons (.cellG 0 26 rfl rfl rfl ag26 sz26 (by decide)) .nil) ?_)
 refine ⟨fun _ => 6, rfl, nodup_of rfl, ?_⟩
 intro r hr
 cases List.mem_singleton.1 hr
 exact ⟨by simp, rootL_mem rfl⟩
set_option maxRecDepth 10000 in
theorem BuddyAllI_con : Con Try.prog 12 [] [] (Ret (.g [.h 0 []]) [(0, .row, tr buddyAll.Free)]) := by
 refine Con.of_body Try.func12 rfl (by simp) ?_
 rw [Try.ntmps12]
 refine AW.seq (AW.region ?_)
 refine sp (Stp.alloc rfl (by decide) (by decide)) ?_
 refine nl ?_
 refine AW.seq (AW.region ?_)
 refine sp (Stp.buildSlice rfl (by decide) (by decide) rfl (by decide) rfl rfl rfl (nodup_of rfl)) ?_
 refine nm ?_
 refine sp (Stp.buildSlice rfl (by decide) (by decide) rfl (by decide) rfl rfl rfl (nodup_of rfl)) ?_
 refine nm ?_
 refine qq (Qt.build rfl) ?_
 refine ss ?_
 refine nl ?_
 refine AW.rep 2 (tr buddyAll.Free) rfl (by refine ⟨_, rfl, fun k c hk hc => ?_⟩; match k, c, hk, hc with | 0, 0, _, _ => exact sim_nil | 1, 0, _, _ => exact sim_nil | 2, 0, _, _ => exact sim_nil | 3, 0, _, _ => exact sim_nil | 4, 0, _, _ => exact ⟨_, rfl, fun k c hk hc => by match k, c, hk, hc with | 0, 0, _, _ => rfl | k + 1, _, hk, _ => exact absurd hk (by omega) | _, c + 1, _, hc => exact absurd hc (by omega)⟩ | k + 5, _, hk, _ => exact absurd hk (by omega) | _, c + 1, _, hc => exact absurd hc (by omega)) ?_
 simp only [repR, reduceIte, Nat.reduceEqDiff]
 refine AW.ret (endQ_ret (.cons (.cellG 0 26 rfl rfl rfl ag26 sz26 (by decide)) .nil) ?_)
 refine ⟨fun _ => 2, rfl, nodup_of rfl, ?_⟩
 intro r hr
 cases List.mem_singleton.1 hr
 exact ⟨by simp, rootL_mem rfl⟩
end Go.Proofs.Ytfbefcmeghpalaa.VM
