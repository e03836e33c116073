/- Contracts of functions of the program. No conditions beyond those that each states. -/
import Derived.Test.YtfbefcmeghpalaaGreatCW1
set_option linter.all false
set_option maxHeartbeats 8000000
set_option maxRecDepth 10000
namespace Go.Proofs.YtfbefcmeghpalaaGreat.VM
open Go Go.RowKit Go.Proofs
theorem applyProcT10_con (u : DUnix) (l : List DEff) (i : Nat) (e : DEff) (hi : i < u.Procs.length) (hk : e.Kind = 3) : Con Tryz.prog 168 [.p base [] 10 0 0, .v (iv i), .g [.v (iv e.Kind), .v (iv e.A), .v (iv e.B), .v (iv e.C), .h (base + 1) []]] [.rt base .row (T.s 10 1 fun _ c => [T.v (iv u.Next), T.v (iv u.Tick), tr u.Progs, tr u.Procs, tr u.Opens, tr u.Pipes, tr u.Files, tr u.Ready, tr u.Out, tr l].getD c T.j), .rt (base + 1) .ro (tr e.L)] (RetW (.v (.bool true)) [] [(base, (T.s 10 1 fun _ c => [T.v (iv (stateF u i e).Next), T.v (iv (stateF u i e).Tick), tr (stateF u i e).Progs, tr (stateF u i e).Procs, tr (stateF u i e).Opens, tr (stateF u i e).Pipes, tr (stateF u i e).Files, tr (stateF u i e).Ready, tr (stateF u i e).Out, tr l].getD c T.j))]) := by
 refine ob Tryz.func168 Tryz.ntmps168 ?_
 refine sr ?_
 refine bx ?_
 refine nm ?_
 refine qs' ?_
 refine qm ?_
 refine qq (Qt.nilCheck rfl) ?_
 refine nm ?_
 refine qq (fA fl31_3) ?_
 refine ql ag25 ?_
 refine mn ?_
 refine qq (ix sl25 sz72) ?_
 refine qn ?_
 refine sr2 ?_
 refine qq (fA fl49_0) ?_
 refine nm ?_
 refine ql ag3 ?_
 refine nl ?_
 refine AW.block (sr ?_)
 refine qb ?_
 refine qn ?_
 refine AW.cond rfl (fun c1 => (by exfalso; first | (cases c1; done) | (simp at c1; done) | (simp only [cnd] at c1; omega))) (fun c1 => ?_)
 try simp only [cnd] at c1
 refine sr ?_
 refine qb ?_
 refine nm ?_
 refine qn ?_
 refine AW.cond rfl (fun c2 => (by exfalso; first | (cases c2; done) | (simp at c2; done) | (simp only [cnd] at c2; omega))) (fun c2 => ?_)
 try simp only [cnd] at c2
 refine sr ?_
 refine qb ?_
 refine qn ?_
 refine AW.cond rfl (fun c3 => ?_) (fun c3 => (by exfalso; first | (cases c3; done) | (simp at c3; done) | (simp only [cnd] at c3; omega)))
 try simp only [cnd] at c3
 refine AW.draw [0, 1, 2, 3, 4, 5, 6, 7, 9, 10] rfl (by decide +kernel) ?_
 refine tk 0 rfl Qt.move ?_
 refine na ?_
 refine tk 1 rfl Qt.move ?_
 refine tk 2 rfl (fA fl49_2) ?_
 refine tk 3 rfl (Qt.load1 rfl rfl rfl ag3) ?_
 refine na ?_
 refine tk 4 rfl (fA fl49_3) ?_
 refine tk 5 rfl (Qt.load1 rfl rfl rfl ag3) ?_
 refine tk 6 rfl (Qt.nilCheck rfl) ?_
 refine na ?_
 refine tk 7 rfl (fA fl72_2) ?_
 refine a1 8 [1, 4, 5] [7, 3, 2, 0, 6] rfl rfl (by first | exact Stp.storeA rfl rfl rfl rfl (by decide) rfl | exact Stp.store rfl rfl (by simp) rfl rfl rfl (by decide) rfl) ?_
 refine na ?_
 refine na ?_
 refine ae rfl Qt.move ?_
 refine na ?_
 refine ae rfl (fA fl49_3) ?_
 refine na ?_
 refine ae rfl (Qt.load1 rfl rfl rfl ag3) ?_
 refine na ?_
 refine tk 9 rfl (Qt.nilCheck rfl) ?_
 refine tk 10 rfl (fA fl72_7) ?_
 refine a1 11 [] [10, 8, 7, 6, 5, 4, 3, 2, 1, 0, 9] rfl rfl (by first | exact Stp.storeA rfl rfl rfl rfl (by decide) rfl | exact Stp.store rfl rfl (by simp) rfl rfl rfl (by decide) rfl) ?_
 refine na ?_
 refine na ?_
 refine nz ?_
 refine sr ?_
 refine qn ?_
 refine AW.rep base (T.s 10 1 fun _ c => [T.v (iv (stateF u i e).Next), T.v (iv (stateF u i e).Tick), tr (stateF u i e).Progs, tr (stateF u i e).Procs, tr (stateF u i e).Opens, tr (stateF u i e).Pipes, tr (stateF u i e).Files, tr (stateF u i e).Ready, tr (stateF u i e).Out, tr l].getD c T.j) rfl (sc_sim (n := 10) (fun c hc => match c, hc with | 0, _ => T.sim_refl _ | 1, _ => T.sim_refl _ | 2, _ => T.sim_refl _ | 3, _ => (set_sim (α := DProc) (l := u.Procs) (i := i) (a := { u.Procs.getD i En.dflt with State := e.B, Until := e.C }) (fun k c hk => by simp only [upd_app, hk, false_and, if_false]; rfl) (fun c hc => match c, hc with | 0, _ => (by simp only [upd_app, eq_self, and_true, and_false, Nat.reduceEqDiff, if_true, if_false]; exact T.sim_refl _) | 1, _ => (by simp only [upd_app, eq_self, and_true, and_false, Nat.reduceEqDiff, if_true, if_false]; exact T.sim_refl _) | 2, _ => (by simp only [upd_app, eq_self, and_true, and_false, Nat.reduceEqDiff, if_true, if_false]; exact T.sim_refl _) | 3, _ => (by simp only [upd_app, eq_self, and_true, and_false, Nat.reduceEqDiff, if_true, if_false]; exact T.sim_refl _) | 4, _ => (by simp only [upd_app, eq_self, and_true, and_false, Nat.reduceEqDiff, if_true, if_false]; exact T.sim_refl _) | 5, _ => (by simp only [upd_app, eq_self, and_true, and_false, Nat.reduceEqDiff, if_true, if_false]; exact T.sim_refl _) | 6, _ => (by simp only [upd_app, eq_self, and_true, and_false, Nat.reduceEqDiff, if_true, if_false]; exact T.sim_refl _) | 7, _ => (by simp only [upd_app, eq_self, and_true, and_false, Nat.reduceEqDiff, if_true, if_false]; exact T.sim_refl _) | 8, _ => (by simp only [upd_app, eq_self, and_true, and_false, Nat.reduceEqDiff, if_true, if_false]; exact T.sim_refl _) | 9, _ => (by simp only [upd_app, eq_self, and_true, and_false, Nat.reduceEqDiff, if_true, if_false]; exact T.sim_refl _) | c + 10, hc => absurd hc (by simp only [En.n]; omega))) | 4, _ => T.sim_refl _ | 5, _ => T.sim_refl _ | 6, _ => T.sim_refl _ | 7, _ => T.sim_refl _ | 8, _ => T.sim_refl _ | 9, _ => T.sim_refl _ | c + 10, hc => absurd hc (by omega))) ?_
 refine rt1 6 ?_
 refine ⟨fun n => n, rfl, fun _ _ => rfl, List.nodup_nil, (by simp), ?_⟩
 intro p hp
 cases List.mem_singleton.1 hp
 exact rootL_mem rfl
theorem applyProcT9_con (u : DUnix) (i : Nat) (e : DEff) (hi : i < u.Procs.length) (hk : e.Kind = 3) : Con Tryz.prog 168 [.p base [] 9 0 0, .v (iv i), .g [.v (iv e.Kind), .v (iv e.A), .v (iv e.B), .v (iv e.C), .h (base + 1) []]] [.rt base .row (T.s 9 1 fun _ c => [T.v (iv u.Next), T.v (iv u.Tick), tr u.Progs, tr u.Procs, tr u.Opens, tr u.Pipes, tr u.Files, tr u.Ready, tr u.Out].getD c T.j), .rt (base + 1) .ro (tr e.L)] (RetW (.v (.bool true)) [] [(base, (T.s 9 1 fun _ c => [T.v (iv (stateF u i e).Next), T.v (iv (stateF u i e).Tick), tr (stateF u i e).Progs, tr (stateF u i e).Procs, tr (stateF u i e).Opens, tr (stateF u i e).Pipes, tr (stateF u i e).Files, tr (stateF u i e).Ready, tr (stateF u i e).Out].getD c T.j))]) := by
 refine ob Tryz.func168 Tryz.ntmps168 ?_
 refine sr ?_
 refine bx ?_
 refine nm ?_
 refine qs' ?_
 refine qm ?_
 refine qq (Qt.nilCheck rfl) ?_
 refine nm ?_
 refine qq (fA fl31_3) ?_
 refine ql ag25 ?_
 refine mn ?_
 refine qq (ix sl25 sz72) ?_
 refine qn ?_
 refine sr2 ?_
 refine qq (fA fl49_0) ?_
 refine nm ?_
 refine ql ag3 ?_
 refine nl ?_
 refine AW.block (sr ?_)
 refine qb ?_
 refine qn ?_
 refine AW.cond rfl (fun c1 => (by exfalso; first | (cases c1; done) | (simp at c1; done) | (simp only [cnd] at c1; omega))) (fun c1 => ?_)
 try simp only [cnd] at c1
 refine sr ?_
 refine qb ?_
 refine nm ?_
 refine qn ?_
 refine AW.cond rfl (fun c2 => (by exfalso; first | (cases c2; done) | (simp at c2; done) | (simp only [cnd] at c2; omega))) (fun c2 => ?_)
 try simp only [cnd] at c2
 refine sr ?_
 refine qb ?_
 refine qn ?_
 refine AW.cond rfl (fun c3 => ?_) (fun c3 => (by exfalso; first | (cases c3; done) | (simp at c3; done) | (simp only [cnd] at c3; omega)))
 try simp only [cnd] at c3
 refine AW.draw [0, 1, 2, 3, 4, 5, 6, 7, 9, 10] rfl (by decide +kernel) ?_
 refine tk 0 rfl Qt.move ?_
 refine na ?_
 refine tk 1 rfl Qt.move ?_
 refine tk 2 rfl (fA fl49_2) ?_
 refine tk 3 rfl (Qt.load1 rfl rfl rfl ag3) ?_
 refine na ?_
 refine tk 4 rfl (fA fl49_3) ?_
 refine tk 5 rfl (Qt.load1 rfl rfl rfl ag3) ?_
 refine tk 6 rfl (Qt.nilCheck rfl) ?_
 refine na ?_
 refine tk 7 rfl (fA fl72_2) ?_
 refine a1 8 [1, 4, 5] [7, 3, 2, 0, 6] rfl rfl (by first | exact Stp.storeA rfl rfl rfl rfl (by decide) rfl | exact Stp.store rfl rfl (by simp) rfl rfl rfl (by decide) rfl) ?_
 refine na ?_
 refine na ?_
 refine ae rfl Qt.move ?_
 refine na ?_
 refine ae rfl (fA fl49_3) ?_
 refine na ?_
 refine ae rfl (Qt.load1 rfl rfl rfl ag3) ?_
 refine na ?_
 refine tk 9 rfl (Qt.nilCheck rfl) ?_
 refine tk 10 rfl (fA fl72_7) ?_
 refine a1 11 [] [10, 8, 7, 6, 5, 4, 3, 2, 1, 0, 9] rfl rfl (by first | exact Stp.storeA rfl rfl rfl rfl (by decide) rfl | exact Stp.store rfl rfl (by simp) rfl rfl rfl (by decide) rfl) ?_
 refine na ?_
 refine na ?_
 refine nz ?_
 refine sr ?_
 refine qn ?_
 refine AW.rep base (T.s 9 1 fun _ c => [T.v (iv (stateF u i e).Next), T.v (iv (stateF u i e).Tick), tr (stateF u i e).Progs, tr (stateF u i e).Procs, tr (stateF u i e).Opens, tr (stateF u i e).Pipes, tr (stateF u i e).Files, tr (stateF u i e).Ready, tr (stateF u i e).Out].getD c T.j) rfl (sc_sim (n := 9) (fun c hc => match c, hc with | 0, _ => T.sim_refl _ | 1, _ => T.sim_refl _ | 2, _ => T.sim_refl _ | 3, _ => (set_sim (α := DProc) (l := u.Procs) (i := i) (a := { u.Procs.getD i En.dflt with State := e.B, Until := e.C }) (fun k c hk => by simp only [upd_app, hk, false_and, if_false]; rfl) (fun c hc => match c, hc with | 0, _ => (by simp only [upd_app, eq_self, and_true, and_false, Nat.reduceEqDiff, if_true, if_false]; exact T.sim_refl _) | 1, _ => (by simp only [upd_app, eq_self, and_true, and_false, Nat.reduceEqDiff, if_true, if_false]; exact T.sim_refl _) | 2, _ => (by simp only [upd_app, eq_self, and_true, and_false, Nat.reduceEqDiff, if_true, if_false]; exact T.sim_refl _) | 3, _ => (by simp only [upd_app, eq_self, and_true, and_false, Nat.reduceEqDiff, if_true, if_false]; exact T.sim_refl _) | 4, _ => (by simp only [upd_app, eq_self, and_true, and_false, Nat.reduceEqDiff, if_true, if_false]; exact T.sim_refl _) | 5, _ => (by simp only [upd_app, eq_self, and_true, and_false, Nat.reduceEqDiff, if_true, if_false]; exact T.sim_refl _) | 6, _ => (by simp only [upd_app, eq_self, and_true, and_false, Nat.reduceEqDiff, if_true, if_false]; exact T.sim_refl _) | 7, _ => (by simp only [upd_app, eq_self, and_true, and_false, Nat.reduceEqDiff, if_true, if_false]; exact T.sim_refl _) | 8, _ => (by simp only [upd_app, eq_self, and_true, and_false, Nat.reduceEqDiff, if_true, if_false]; exact T.sim_refl _) | 9, _ => (by simp only [upd_app, eq_self, and_true, and_false, Nat.reduceEqDiff, if_true, if_false]; exact T.sim_refl _) | c + 10, hc => absurd hc (by simp only [En.n]; omega))) | 4, _ => T.sim_refl _ | 5, _ => T.sim_refl _ | 6, _ => T.sim_refl _ | 7, _ => T.sim_refl _ | 8, _ => T.sim_refl _ | c + 9, hc => absurd hc (by omega))) ?_
 refine rt1 6 ?_
 refine ⟨fun n => n, rfl, fun _ _ => rfl, List.nodup_nil, (by simp), ?_⟩
 intro p hp
 cases List.mem_singleton.1 hp
 exact rootL_mem rfl
end Go.Proofs.YtfbefcmeghpalaaGreat.VM
