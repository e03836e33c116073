/- Contracts of functions of the program. No conditions beyond those that each states. -/
import Derived.Test.YtjfojlaoiifppaaHb
set_option linter.all false
namespace Go.Proofs.Ytjfojlaoiifppaa.VM
open Go Go.RowKit Go.Proofs
def buddyAll : DBuddy := ⟨[[], [], [], [], [0]]⟩
set_option maxRecDepth 10000 in
theorem BuddyAllS_con : Con Try.prog 36 [] [] (Ret (.g [.h 0 []]) [(0, .row, tr buddyAll.Free)]) := by
  refine Con.of_body Try.func36 rfl (by simp) ?_
  rw [Try.ntmps36]
  refine AW.seq ?_
  refine AW.region ?_
  refine AWL.step rfl rfl (Stp.alloc rfl (by decide) (by decide)) ?_
  refine AWL.nilE (by simp only [go_sem, Int.reduceToNat, Nat.reduceLT, reduceIte, Nat.reduceEqDiff, Nat.reduceAdd, Nat.reduceMul, Nat.reduceBEq, reduceCtorEq]; rfl) ?_
  try dsimp only [thenQ, blockQ]
  refine AW.seq ?_
  refine AW.region ?_
  refine AWL.step rfl rfl (Stp.buildSlice rfl (by decide) (by decide) rfl (by decide) rfl rfl rfl (nodup_of rfl)) ?_
  refine AWL.nrm (by simp only [go_sem, Int.reduceToNat, Nat.reduceLT, reduceIte, Nat.reduceEqDiff, Nat.reduceAdd, Nat.reduceMul, Nat.reduceBEq, reduceCtorEq]; rfl) ?_
  refine AWL.step rfl rfl (Stp.buildSlice rfl (by decide) (by decide) rfl (by decide) rfl rfl rfl (nodup_of rfl)) ?_
  refine AWL.nrm (by simp only [go_sem, Int.reduceToNat, Nat.reduceLT, reduceIte, Nat.reduceEqDiff, Nat.reduceAdd, Nat.reduceMul, Nat.reduceBEq, reduceCtorEq]; rfl) ?_
  refine AWL.step rfl rfl (Stp.buildSlice rfl (by decide) (by decide) rfl (by decide) rfl rfl rfl (nodup_of rfl)) ?_
  refine AWL.nrm (by simp only [go_sem, Int.reduceToNat, Nat.reduceLT, reduceIte, Nat.reduceEqDiff, Nat.reduceAdd, Nat.reduceMul, Nat.reduceBEq, reduceCtorEq]; rfl) ?_
  refine AWL.step rfl rfl (Stp.buildSlice rfl (by decide) (by decide) rfl (by decide) rfl rfl rfl (nodup_of rfl)) ?_
  refine AWL.nrm (by simp only [go_sem, Int.reduceToNat, Nat.reduceLT, reduceIte, Nat.reduceEqDiff, Nat.reduceAdd, Nat.reduceMul, Nat.reduceBEq, reduceCtorEq]; rfl) ?_
  refine AWL.step rfl rfl (Stp.buildSlice rfl (by decide) (by decide) rfl (by decide) rfl rfl rfl (nodup_of rfl)) ?_
  refine AWL.nrm (by simp only [go_sem, Int.reduceToNat, Nat.reduceLT, reduceIte, Nat.reduceEqDiff, Nat.reduceAdd, Nat.reduceMul, Nat.reduceBEq, reduceCtorEq]; rfl) ?_
  refine AWL.step rfl rfl (Stp.buildSlice rfl (by decide) (by decide) rfl (by decide) rfl rfl rfl (nodup_of rfl)) ?_
  refine AWL.nrm (by simp only [go_sem, Int.reduceToNat, Nat.reduceLT, reduceIte, Nat.reduceEqDiff, Nat.reduceAdd, Nat.reduceMul, Nat.reduceBEq, reduceCtorEq]; rfl) ?_
  refine AWL.q rfl rfl rfl (by decide) (Qt.build rfl) ?_
  refine AWL.step rfl rfl (by first | exact Stp.storeA rfl rfl rfl rfl (by decide) rfl | exact Stp.store rfl rfl (by simp) rfl rfl rfl (by decide) rfl) ?_
  refine AWL.nilE (by simp only [go_sem, Int.reduceToNat, Nat.reduceLT, reduceIte, Nat.reduceEqDiff, Nat.reduceAdd, Nat.reduceMul, Nat.reduceBEq, reduceCtorEq]; rfl) ?_
  try dsimp only [thenQ, blockQ]
  refine AW.rep 6 (tr buddyAll.Free) rfl (by refine ⟨_, rfl, fun k c hk hc => ?_⟩; match k, c, hk, hc with | 0, 0, _, _ => exact sim_nil | 1, 0, _, _ => exact sim_nil | 2, 0, _, _ => exact sim_nil | 3, 0, _, _ => exact sim_nil | 4, 0, _, _ => exact ⟨_, rfl, fun k c hk hc => by match k, c, hk, hc with | 0, 0, _, _ => rfl | k + 1, _, hk, _ => exact absurd hk (by omega) | _, c + 1, _, hc => exact absurd hc (by omega)⟩ | k + 5, _, hk, _ => exact absurd hk (by omega) | _, c + 1, _, hc => exact absurd hc (by omega)) ?_
  simp only [repR, reduceIte, Nat.reduceEqDiff]
  refine AW.ret ?_
  try dsimp only [thenQ, blockQ]
  refine endQ_ret (.cons (.cellG 0 54 rfl rfl rfl ag54 sz54 (by decide)) .nil) ?_
  refine ⟨fun _ => 6, rfl, nodup_of rfl, ?_⟩
  intro r hr
  cases List.mem_singleton.1 hr
  exact ⟨by simp, rootL_mem rfl⟩
set_option maxRecDepth 10000 in
theorem BuddyAllI_con : Con Try.prog 37 [] [] (Ret (.g [.h 0 []]) [(0, .row, tr buddyAll.Free)]) := by
  refine Con.of_body Try.func37 rfl (by simp) ?_
  rw [Try.ntmps37]
  refine AW.seq ?_
  refine AW.region ?_
  refine AWL.step rfl rfl (Stp.alloc rfl (by decide) (by decide)) ?_
  refine AWL.nilE (by simp only [go_sem, Int.reduceToNat, Nat.reduceLT, reduceIte, Nat.reduceEqDiff, Nat.reduceAdd, Nat.reduceMul, Nat.reduceBEq, reduceCtorEq]; rfl) ?_
  try dsimp only [thenQ, blockQ]
  refine AW.seq ?_
  refine AW.region ?_
  refine AWL.step rfl rfl (Stp.buildSlice rfl (by decide) (by decide) rfl (by decide) rfl rfl rfl (nodup_of rfl)) ?_
  refine AWL.nrm (by simp only [go_sem, Int.reduceToNat, Nat.reduceLT, reduceIte, Nat.reduceEqDiff, Nat.reduceAdd, Nat.reduceMul, Nat.reduceBEq, reduceCtorEq]; rfl) ?_
  refine AWL.step rfl rfl (Stp.buildSlice rfl (by decide) (by decide) rfl (by decide) rfl rfl rfl (nodup_of rfl)) ?_
  refine AWL.nrm (by simp only [go_sem, Int.reduceToNat, Nat.reduceLT, reduceIte, Nat.reduceEqDiff, Nat.reduceAdd, Nat.reduceMul, Nat.reduceBEq, reduceCtorEq]; rfl) ?_
  refine AWL.q rfl rfl rfl (by decide) (Qt.build rfl) ?_
  refine AWL.step rfl rfl (by first | exact Stp.storeA rfl rfl rfl rfl (by decide) rfl | exact Stp.store rfl rfl (by simp) rfl rfl rfl (by decide) rfl) ?_
  refine AWL.nilE (by simp only [go_sem, Int.reduceToNat, Nat.reduceLT, reduceIte, Nat.reduceEqDiff, Nat.reduceAdd, Nat.reduceMul, Nat.reduceBEq, reduceCtorEq]; rfl) ?_
  try dsimp only [thenQ, blockQ]
  refine AW.rep 2 (tr buddyAll.Free) rfl (by refine ⟨_, rfl, fun k c hk hc => ?_⟩; match k, c, hk, hc with | 0, 0, _, _ => exact sim_nil | 1, 0, _, _ => exact sim_nil | 2, 0, _, _ => exact sim_nil | 3, 0, _, _ => exact sim_nil | 4, 0, _, _ => exact ⟨_, rfl, fun k c hk hc => by match k, c, hk, hc with | 0, 0, _, _ => rfl | k + 1, _, hk, _ => exact absurd hk (by omega) | _, c + 1, _, hc => exact absurd hc (by omega)⟩ | k + 5, _, hk, _ => exact absurd hk (by omega) | _, c + 1, _, hc => exact absurd hc (by omega)) ?_
  simp only [repR, reduceIte, Nat.reduceEqDiff]
  refine AW.ret ?_
  try dsimp only [thenQ, blockQ]
  refine endQ_ret (.cons (.cellG 0 54 rfl rfl rfl ag54 sz54 (by decide)) .nil) ?_
  refine ⟨fun _ => 2, rfl, nodup_of rfl, ?_⟩
  intro r hr
  cases List.mem_singleton.1 hr
  exact ⟨by simp, rootL_mem rfl⟩
end Go.Proofs.Ytjfojlaoiifppaa.VM
