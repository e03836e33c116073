/- Contracts of functions of the program. No conditions beyond those that each states. -/
import Derived.Test.YtfbefcmeghpalaaGreatCW6
import Derived.Test.YtfbefcmeghpalaaGreatVmD
set_option linter.all false
set_option maxHeartbeats 8000000
set_option maxRecDepth 10000
namespace Go.Proofs.YtfbefcmeghpalaaGreat.VM
open Go Go.RowKit Go.Proofs
theorem app_fl {α : Type} [En α] {l : List α} {f : Nat → Nat → T} : (appT (En.n α) 0 f l.length fun k c => flatT ((En.cs (l.getD k En.dflt)).getD c .j)).sim (flT l) := by
 refine ⟨_, by rw [flT, Nat.zero_add], fun k c hk hc => ?_⟩
 dsimp only
 rw [if_neg (Nat.not_lt_zero _), Nat.sub_zero]
 exact T.sim_refl _
theorem cloneP_con (l : List DProc) (hs : l.length ≤ 4194304) : Con Tryz.prog 93 [.h base []] [.rt base .ro (tr l)] (Ret (.h 0 []) [(0, .row, flT l)]) := by
 refine ob Tryz.func93 Tryz.ntmps93 ?_
 refine sr ?_
 refine qn ?_
 refine sr2 ?_
 refine qm ?_
 refine AWL.nilTest rfl rfl rfl (by decide) rfl rfl rfl sl25 ?_
 intro b1 hb1
 refine nc (fun c2 => ?_) fun c2 => ?_
 ·try simp only [cnd] at c2
  refine sr ?_
  refine qn ?_
  have hl0 : l = [] := List.eq_nil_of_length_eq_zero (hb1 c2)
  subst hl0
  refine AW.nilRow 2 900 10 (by omega) rfl rfl (by decide) ?_
  refine AW.rep 900 (flT ([] : List DProc)) rfl sim_nil ?_
  refine rt1 2 ?_
  refine ⟨fun _ => 900, rfl, nodup_of rfl, ?_⟩
  intro r hr
  cases List.mem_singleton.1 hr
  exact ⟨by simp, rootL_mem rfl⟩
 try simp only [cnd] at c2
 refine jd (sr ?_)
 refine sp sS ?_
 refine nm ?_
 refine qm ?_
 refine sp (by first | exact Stp.appendC rfl (by decide) (by decide) rfl rfl (by omega) | exact Stp.appendM rfl (by decide) (by decide) rfl rfl rfl (by omega)) ?_
 refine nm ?_
 refine qn ?_
 refine AW.rep 7 (flT l) rfl (app_fl (α := DProc)) ?_
 refine rt1 2 ?_
 refine ⟨fun _ => 7, rfl, nodup_of rfl, ?_⟩
 intro r hr
 cases List.mem_singleton.1 hr
 exact ⟨by simp, rootL_mem rfl⟩
theorem stateT_con (u : DUnix) (l : List DEff) (pid st un : Int) (hS : Shp u) (hl : l.length ≤ 1000) : Con Tryz.prog 181 [.p base [] 10 0 0, .v (iv pid), .v (iv st), .v (iv un)] [.rt base .row (T.s 10 1 fun _ c => [T.v (iv u.Next), T.v (iv u.Tick), tr u.Progs, tr u.Procs, tr u.Opens, tr u.Pipes, tr u.Files, tr u.Ready, tr u.Out, tr l].getD c T.j)] (RetW (.t []) [] [(base, (T.s 10 1 fun _ c => [T.v (iv (doT (u, l) (eK 3 pid st un)).1.Next), T.v (iv (doT (u, l) (eK 3 pid st un)).1.Tick), tr (doT (u, l) (eK 3 pid st un)).1.Progs, tr (doT (u, l) (eK 3 pid st un)).1.Procs, tr (doT (u, l) (eK 3 pid st un)).1.Opens, tr (doT (u, l) (eK 3 pid st un)).1.Pipes, tr (doT (u, l) (eK 3 pid st un)).1.Files, tr (doT (u, l) (eK 3 pid st un)).1.Ready, tr (doT (u, l) (eK 3 pid st un)).1.Out, tr (doT (u, l) (eK 3 pid st un)).2].getD c T.j))]) := by
 refine ob Tryz.func181 Tryz.ntmps181 ?_
 refine AW.region ?_
 refine qm ?_
 refine qm ?_
 refine mn ?_
 refine qm ?_
 refine qq (Qt.build rfl) ?_
 refine sp (Stp.callH rfl (by decide) Tryz.call92 rfl (doT_con u l 3 pid st un hS hl (.inl rfl)) rfl rfl rfl (nodup_of rfl) rfl rfl) ?_
 refine nl ?_
 refine ⟨.inr rfl, [], .nil, ?_⟩
 refine ⟨fun n => n, rfl, fun _ _ => rfl, List.nodup_nil, (by simp), ?_⟩
 intro p hp
 cases List.mem_singleton.1 hp
 exact rootL_mem rfl
theorem wakeT_con (u : DUnix) (l : List DEff) (pid : Int) (hS : Shp u) (hl : l.length ≤ 900) : Con Tryz.prog 94 [.p base [] 10 0 0, .v (iv pid)] [.rt base .row (T.s 10 1 fun _ c => [T.v (iv u.Next), T.v (iv u.Tick), tr u.Progs, tr u.Procs, tr u.Opens, tr u.Pipes, tr u.Files, tr u.Ready, tr u.Out, tr l].getD c T.j)] (RetW (.t []) [] [(base, (T.s 10 1 fun _ c => [T.v (iv (wakeT (u, l) pid).1.Next), T.v (iv (wakeT (u, l) pid).1.Tick), tr (wakeT (u, l) pid).1.Progs, tr (wakeT (u, l) pid).1.Procs, tr (wakeT (u, l) pid).1.Opens, tr (wakeT (u, l) pid).1.Pipes, tr (wakeT (u, l) pid).1.Files, tr (wakeT (u, l) pid).1.Ready, tr (wakeT (u, l) pid).1.Out, tr (wakeT (u, l) pid).2].getD c T.j))]) := by
 refine ob Tryz.func94 Tryz.ntmps94 ?_
 refine sr ?_
 refine qm ?_
 refine qm ?_
 refine sp (Stp.callH rfl (by decide) Tryz.call181 rfl (stateT_con u l pid 1 0 hS (by omega)) rfl rfl rfl (nodup_of rfl) rfl rfl) ?_
 refine nl ?_
 refine AW.region ?_
 refine mn ?_
 refine qm ?_
 refine qq (Qt.build rfl) ?_
 refine sp (Stp.callH rfl (by decide) Tryz.call92 rfl (doT_con (doT (u, l) (eK 3 pid 1 0)).1 (doT (u, l) (eK 3 pid 1 0)).2 21 pid 0 0 (hS.app _) (by simp [doT]; omega) (.inr (.inl rfl))) rfl rfl rfl (nodup_of rfl) rfl rfl) ?_
 refine nl ?_
 refine ⟨.inr rfl, [], .nil, ?_⟩
 refine ⟨fun n => n, rfl, fun _ _ => rfl, List.nodup_nil, (by simp), ?_⟩
 intro p hp
 cases List.mem_singleton.1 hp
 exact rootL_mem rfl
end Go.Proofs.YtfbefcmeghpalaaGreat.VM
