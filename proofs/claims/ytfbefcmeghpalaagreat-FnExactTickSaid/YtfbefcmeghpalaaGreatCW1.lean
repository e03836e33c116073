/- Contracts of functions of the program. No conditions beyond those that each states. -/
import Derived.Test.YtfbefcmeghpalaaGreatCW0
import Derived.Test.YtfbefcmeghpalaaGreatCUA
import Derived.Test.YtfbefcmeghpalaaGreatCUX
set_option linter.all false
set_option maxHeartbeats 8000000
set_option maxRecDepth 10000
namespace Go.Proofs.YtfbefcmeghpalaaGreat.VM
open Go Go.RowKit Go.Proofs
theorem ivE {a b : Int} (h : a = b) : iv a = iv b := by rw [h]
theorem applyRest10_con (u : DUnix) (l : List DEff) (e : DEff) (hS : Shp u) (hk : 21 ≤ e.Kind ∧ e.Kind ≤ 24) : Con Tryz.prog 166 [.p base [] 10 0 0, .g [.v (iv e.Kind), .v (iv e.A), .v (iv e.B), .v (iv e.C), .h (base + 1) []]] [.rt base .row (T.s 10 1 fun _ c => [T.v (iv u.Next), T.v (iv u.Tick), tr u.Progs, tr u.Procs, tr u.Opens, tr u.Pipes, tr u.Files, tr u.Ready, tr u.Out, tr l].getD c T.j), .rt (base + 1) .ro (tr e.L)] (RetW (.v (.bool (restF u e).2)) [] [(base, (T.s 10 1 fun _ c => [T.v (iv (restF u e).1.Next), T.v (iv (restF u e).1.Tick), tr (restF u e).1.Progs, tr (restF u e).1.Procs, tr (restF u e).1.Opens, tr (restF u e).1.Pipes, tr (restF u e).1.Files, tr (restF u e).1.Ready, tr (restF u e).1.Out, tr l].getD c T.j))]) := by
 refine ob Tryz.func166 Tryz.ntmps166 ?_
 have hS1 := hS.ready
 have hS2 := hS.out
 have hS3 := hS.tick
 have hrb := ixOf_bd (fun x : Int => e.A == x) u.Ready
 refine sr ?_
 refine bx ?_
 refine nm ?_
 refine qn ?_
 refine sr2 ?_
 refine qq (fA fl49_0) ?_
 refine ql ag3 ?_
 refine nl ?_
 refine AW.block (sr ?_)
 refine qb ?_
 refine nm ?_
 refine qn ?_
 refine cd (fun c1 => ?_) fun c1 => ?_
 ·try simp only [cnd] at c1
  refine sr2 ?_
  refine qm ?_
  refine qq (Qt.nilCheck rfl) ?_
  refine nm ?_
  refine qq (fA fl31_7) ?_
  refine ql ag29 ?_
  refine qh sl29 ?_
  refine nm ?_
  refine qb ?_
  refine nc (fun c2 => ?_) fun c2 => ?_
  ·try simp only [cnd] at c2
   refine sr ?_
   refine qr 4 ?_
   rw [show restF u e = (u, false) from by simp only [restF, rdyAt]; grind only]
   refine ⟨fun n => n, rfl, fun _ _ => rfl, List.nodup_nil, (by simp), ?_⟩
   intro p hp
   cases List.mem_singleton.1 hp
   exact rootL_mem rfl
  try simp only [cnd] at c2
  refine jd ?_
  refine AW.draw [0, 1, 2, 3, 4, 5, 6, 9, 10] rfl (by decide +kernel) ?_
  refine tk 0 rfl Qt.move ?_
  refine na ?_
  refine tk 1 rfl Qt.move ?_
  refine tk 2 rfl (Qt.nilCheck rfl) ?_
  refine tk 3 rfl (fA fl31_7) ?_
  refine na ?_
  refine tk 4 rfl (Qt.load1 rfl rfl rfl ag29) ?_
  refine tk 5 rfl (fA fl49_1) ?_
  refine tk 6 rfl (Qt.load1 rfl rfl rfl ag3) ?_
  refine na ?_
  refine a1 7 [0, 1, 2, 3, 4] [6, 5] rfl rfl sS ?_
  refine na ?_
  refine na ?_
  refine ae rfl Qt.move ?_
  refine na ?_
  refine ae rfl Qt.move ?_
  refine na ?_
  refine ae rfl (Qt.nilCheck rfl) ?_
  refine na ?_
  refine ae rfl (fA fl31_7) ?_
  refine na ?_
  refine ae rfl (Qt.load1 rfl rfl rfl ag29) ?_
  refine na ?_
  refine a1 8 [0] [7, 4, 6, 3, 5, 2, 1] rfl rfl (by first | exact Stp.appendC rfl (by decide) (by decide) rfl rfl (by omega) | exact Stp.appendM rfl (by decide) (by decide) rfl rfl rfl (by omega)) ?_
  refine na ?_
  refine na ?_
  refine ae rfl Qt.move ?_
  refine na ?_
  refine AWA.rep 24 (tr (u.Ready ++ [e.A])) rfl (app_one (α := Int) (a := e.A) (fun c hc => match c, hc with | 0, _ => rfl | c + 1, hc => absurd hc (by simp only [En.n]; omega))) ?_
  refine na ?_
  refine tk 9 rfl (Qt.nilCheck rfl) ?_
  refine tk 10 rfl (fA fl31_7) ?_
  refine a1 11 [] [10, 8, 7, 6, 5, 4, 3, 2, 1, 0, 9] rfl rfl (by first | exact Stp.storeA rfl rfl rfl rfl (by decide) rfl | exact Stp.store rfl rfl (by simp) rfl rfl rfl (by decide) rfl) ?_
  refine na ?_
  refine na ?_
  refine nz ?_
  refine sr ?_
  refine qn ?_
  refine AW.rep base (T.s 10 1 fun _ c => [T.v (iv ({ u with Ready := u.Ready ++ [e.A] }).Next), T.v (iv ({ u with Ready := u.Ready ++ [e.A] }).Tick), tr ({ u with Ready := u.Ready ++ [e.A] }).Progs, tr ({ u with Ready := u.Ready ++ [e.A] }).Procs, tr ({ u with Ready := u.Ready ++ [e.A] }).Opens, tr ({ u with Ready := u.Ready ++ [e.A] }).Pipes, tr ({ u with Ready := u.Ready ++ [e.A] }).Files, tr ({ u with Ready := u.Ready ++ [e.A] }).Ready, tr ({ u with Ready := u.Ready ++ [e.A] }).Out, tr l].getD c T.j) rfl (sc_sim (n := 10) (fun c hc => match c, hc with | 0, _ => T.sim_refl _ | 1, _ => T.sim_refl _ | 2, _ => T.sim_refl _ | 3, _ => T.sim_refl _ | 4, _ => T.sim_refl _ | 5, _ => T.sim_refl _ | 6, _ => T.sim_refl _ | 7, _ => T.sim_refl _ | 8, _ => T.sim_refl _ | 9, _ => T.sim_refl _ | c + 10, hc => absurd hc (by omega))) ?_
  refine rt1 4 ?_
  rw [show restF u e = ({ u with Ready := u.Ready ++ [e.A] }, true) from by simp only [restF, rdyAt]; grind only]
  refine ⟨fun n => n, rfl, fun _ _ => rfl, List.nodup_nil, (by simp), ?_⟩
  intro p hp
  cases List.mem_singleton.1 hp
  exact rootL_mem rfl
 try simp only [cnd] at c1
 refine sr ?_
 refine qb ?_
 refine qn ?_
 refine cd (fun c3 => ?_) fun c3 => ?_
 ·try simp only [cnd] at c3
  refine AW.seq ?_
  refine AW.draw [0, 1, 2, 3, 4, 5, 7] rfl (by decide +kernel) ?_
  refine tk 0 rfl Qt.move ?_
  refine na ?_
  refine tk 1 rfl (Qt.nilCheck rfl) ?_
  refine tk 2 rfl (fA fl31_7) ?_
  refine tk 3 rfl (Qt.load1 rfl rfl rfl ag29) ?_
  refine na ?_
  refine tk 4 rfl (fA fl49_1) ?_
  refine tk 5 rfl (Qt.load1 rfl rfl rfl ag3) ?_
  refine a1 6 [] [5, 3, 4, 2, 1, 0] rfl rfl (Stp.callV rfl (by decide) Tryz.call225 rfl rfl (indexI_con u.Ready e.A)) ?_
  refine na ?_
  refine na ?_
  refine tk 7 rfl Qt.assign ?_
  refine nz ?_
  refine sr2 ?_
  refine qm ?_
  refine qb ?_
  refine nc (fun c4 => ?_) fun c4 => ?_
  ·try simp only [cnd] at c4
   refine sr ?_
   refine qr 4 ?_
   rw [show restF u e = (u, false) from by simp only [restF, rdyAt]; grind only]
   refine ⟨fun n => n, rfl, fun _ _ => rfl, List.nodup_nil, (by simp), ?_⟩
   intro p hp
   cases List.mem_singleton.1 hp
   exact rootL_mem rfl
  try simp only [cnd] at c4
  refine jd (AW.region ?_)
  refine mn ?_
  refine qm ?_
  refine qq (Qt.nilCheck rfl) ?_
  refine qq (fA fl31_7) ?_
  refine nm ?_
  refine ql ag29 ?_
  refine qm ?_
  refine mn ?_
  refine ba ?_
  have hri : 0 ≤ rdyAt u e.A := by unfold rdyAt; omega
  refine nm ?_
  refine AWL.weak (Weak.slot (d := 43) (v' := iv ((rdyAt u e.A).toNat : Nat)) rfl (ivE (by unfold rdyAt; omega))) ?_
  refine AWL.weak (Weak.slot (d := 45) (v' := iv ((rdyAt u e.A).toNat + 1 : Nat)) rfl (ivE (by unfold rdyAt; omega))) ?_
  refine nm ?_
  refine sp (Stp.callH rfl (by decide) Tryz.call248 rfl (del_con u.Ready (rdyAt u e.A).toNat ((rdyAt u e.A).toNat + 1) (by omega) (by unfold rdyAt; omega)) rfl rfl rfl (nodup_of rfl) rfl rfl) ?_
  refine nm ?_
  refine qq (Qt.nilCheck rfl) ?_
  refine qq (fA fl31_7) ?_
  refine ss ?_
  refine ns ?_
  refine qn ?_
  refine AW.rep base (T.s 10 1 fun _ c => [T.v (iv ({ u with Ready := cutL u.Ready (rdyAt u e.A).toNat }).Next), T.v (iv ({ u with Ready := cutL u.Ready (rdyAt u e.A).toNat }).Tick), tr ({ u with Ready := cutL u.Ready (rdyAt u e.A).toNat }).Progs, tr ({ u with Ready := cutL u.Ready (rdyAt u e.A).toNat }).Procs, tr ({ u with Ready := cutL u.Ready (rdyAt u e.A).toNat }).Opens, tr ({ u with Ready := cutL u.Ready (rdyAt u e.A).toNat }).Pipes, tr ({ u with Ready := cutL u.Ready (rdyAt u e.A).toNat }).Files, tr ({ u with Ready := cutL u.Ready (rdyAt u e.A).toNat }).Ready, tr ({ u with Ready := cutL u.Ready (rdyAt u e.A).toNat }).Out, tr l].getD c T.j) rfl (sc_sim (n := 10) (fun c hc => match c, hc with | 0, _ => T.sim_refl _ | 1, _ => T.sim_refl _ | 2, _ => T.sim_refl _ | 3, _ => T.sim_refl _ | 4, _ => T.sim_refl _ | 5, _ => T.sim_refl _ | 6, _ => T.sim_refl _ | 7, _ => T.sim_refl _ | 8, _ => T.sim_refl _ | 9, _ => T.sim_refl _ | c + 10, hc => absurd hc (by omega))) ?_
  refine rt1 4 ?_
  rw [show restF u e = ({ u with Ready := cutL u.Ready (rdyAt u e.A).toNat }, true) from by simp only [restF, rdyAt]; grind only]
  refine ⟨fun n => n, rfl, fun _ _ => rfl, List.nodup_nil, (by simp), ?_⟩
  intro p hp
  cases List.mem_singleton.1 hp
  exact rootL_mem rfl
 try simp only [cnd] at c3
 refine sr ?_
 refine qb ?_
 refine nm ?_
 refine qn ?_
 refine cd (fun c5 => ?_) fun c5 => ?_
 ·try simp only [cnd] at c5
  refine sr2 ?_
  refine qm ?_
  refine qq (Qt.nilCheck rfl) ?_
  refine nm ?_
  refine qq (fA fl31_8) ?_
  refine ql ag29 ?_
  refine qh sl29 ?_
  refine nm ?_
  refine qb ?_
  refine nc (fun c6 => ?_) fun c6 => ?_
  ·try simp only [cnd] at c6
   refine sr ?_
   refine qr 4 ?_
   rw [show restF u e = (u, false) from by simp only [restF, rdyAt]; grind only]
   refine ⟨fun n => n, rfl, fun _ _ => rfl, List.nodup_nil, (by simp), ?_⟩
   intro p hp
   cases List.mem_singleton.1 hp
   exact rootL_mem rfl
  try simp only [cnd] at c6
  refine jd ?_
  refine AW.draw [0, 1, 2, 3, 4, 5, 6, 9, 10] rfl (by decide +kernel) ?_
  refine tk 0 rfl Qt.move ?_
  refine na ?_
  refine tk 1 rfl Qt.move ?_
  refine tk 2 rfl (Qt.nilCheck rfl) ?_
  refine tk 3 rfl (fA fl31_8) ?_
  refine na ?_
  refine tk 4 rfl (Qt.load1 rfl rfl rfl ag29) ?_
  refine tk 5 rfl (fA fl49_1) ?_
  refine tk 6 rfl (Qt.load1 rfl rfl rfl ag3) ?_
  refine na ?_
  refine a1 7 [0, 1, 2, 3, 4] [6, 5] rfl rfl sS ?_
  refine na ?_
  refine na ?_
  refine ae rfl Qt.move ?_
  refine na ?_
  refine ae rfl Qt.move ?_
  refine na ?_
  refine ae rfl (Qt.nilCheck rfl) ?_
  refine na ?_
  refine ae rfl (fA fl31_8) ?_
  refine na ?_
  refine ae rfl (Qt.load1 rfl rfl rfl ag29) ?_
  refine na ?_
  refine a1 8 [0] [7, 4, 6, 3, 5, 2, 1] rfl rfl (by first | exact Stp.appendC rfl (by decide) (by decide) rfl rfl (by omega) | exact Stp.appendM rfl (by decide) (by decide) rfl rfl rfl (by omega)) ?_
  refine na ?_
  refine na ?_
  refine ae rfl Qt.move ?_
  refine na ?_
  refine AWA.rep 65 (tr (u.Out ++ [e.A])) rfl (app_one (α := Int) (a := e.A) (fun c hc => match c, hc with | 0, _ => rfl | c + 1, hc => absurd hc (by simp only [En.n]; omega))) ?_
  refine na ?_
  refine tk 9 rfl (Qt.nilCheck rfl) ?_
  refine tk 10 rfl (fA fl31_8) ?_
  refine a1 11 [] [10, 8, 7, 6, 5, 4, 3, 2, 1, 0, 9] rfl rfl (by first | exact Stp.storeA rfl rfl rfl rfl (by decide) rfl | exact Stp.store rfl rfl (by simp) rfl rfl rfl (by decide) rfl) ?_
  refine na ?_
  refine na ?_
  refine nz ?_
  refine sr ?_
  refine qn ?_
  refine AW.rep base (T.s 10 1 fun _ c => [T.v (iv ({ u with Out := u.Out ++ [e.A] }).Next), T.v (iv ({ u with Out := u.Out ++ [e.A] }).Tick), tr ({ u with Out := u.Out ++ [e.A] }).Progs, tr ({ u with Out := u.Out ++ [e.A] }).Procs, tr ({ u with Out := u.Out ++ [e.A] }).Opens, tr ({ u with Out := u.Out ++ [e.A] }).Pipes, tr ({ u with Out := u.Out ++ [e.A] }).Files, tr ({ u with Out := u.Out ++ [e.A] }).Ready, tr ({ u with Out := u.Out ++ [e.A] }).Out, tr l].getD c T.j) rfl (sc_sim (n := 10) (fun c hc => match c, hc with | 0, _ => T.sim_refl _ | 1, _ => T.sim_refl _ | 2, _ => T.sim_refl _ | 3, _ => T.sim_refl _ | 4, _ => T.sim_refl _ | 5, _ => T.sim_refl _ | 6, _ => T.sim_refl _ | 7, _ => T.sim_refl _ | 8, _ => T.sim_refl _ | 9, _ => T.sim_refl _ | c + 10, hc => absurd hc (by omega))) ?_
  refine rt1 4 ?_
  rw [show restF u e = ({ u with Out := u.Out ++ [e.A] }, true) from by simp only [restF, rdyAt]; grind only]
  refine ⟨fun n => n, rfl, fun _ _ => rfl, List.nodup_nil, (by simp), ?_⟩
  intro p hp
  cases List.mem_singleton.1 hp
  exact rootL_mem rfl
 try simp only [cnd] at c5
 refine sr ?_
 refine qb ?_
 refine qn ?_
 refine cd (fun c7 => ?_) fun c7 => ?_
 ·try simp only [cnd] at c7
  refine sr2 ?_
  refine mn ?_
  refine qq (Qt.nilCheck rfl) ?_
  refine qq (fA fl31_1) ?_
  refine ql ag3 ?_
  refine nm ?_
  refine qb ?_
  refine nc (fun c8 => ?_) fun c8 => ?_
  ·try simp only [cnd] at c8
   refine sr ?_
   refine qr 4 ?_
   rw [show restF u e = (u, false) from by simp only [restF, rdyAt]; grind only]
   refine ⟨fun n => n, rfl, fun _ _ => rfl, List.nodup_nil, (by simp), ?_⟩
   intro p hp
   cases List.mem_singleton.1 hp
   exact rootL_mem rfl
  try simp only [cnd] at c8
  refine jd (AW.region ?_)
  refine mn ?_
  refine qq (Qt.nilCheck rfl) ?_
  refine qq (fA fl31_1) ?_
  refine ql ag3 ?_
  refine nm ?_
  refine ba ?_
  refine qq (Qt.nilCheck rfl) ?_
  refine qq (fA fl31_1) ?_
  refine nm ?_
  refine ss ?_
  refine ns ?_
  refine qn ?_
  refine AW.rep base (T.s 10 1 fun _ c => [T.v (iv ({ u with Tick := u.Tick + 1 }).Next), T.v (iv ({ u with Tick := u.Tick + 1 }).Tick), tr ({ u with Tick := u.Tick + 1 }).Progs, tr ({ u with Tick := u.Tick + 1 }).Procs, tr ({ u with Tick := u.Tick + 1 }).Opens, tr ({ u with Tick := u.Tick + 1 }).Pipes, tr ({ u with Tick := u.Tick + 1 }).Files, tr ({ u with Tick := u.Tick + 1 }).Ready, tr ({ u with Tick := u.Tick + 1 }).Out, tr l].getD c T.j) rfl (sc_sim (n := 10) (fun c hc => match c, hc with | 0, _ => T.sim_refl _ | 1, _ => T.sim_refl _ | 2, _ => T.sim_refl _ | 3, _ => T.sim_refl _ | 4, _ => T.sim_refl _ | 5, _ => T.sim_refl _ | 6, _ => T.sim_refl _ | 7, _ => T.sim_refl _ | 8, _ => T.sim_refl _ | 9, _ => T.sim_refl _ | c + 10, hc => absurd hc (by omega))) ?_
  refine rt1 4 ?_
  rw [show restF u e = ({ u with Tick := u.Tick + 1 }, true) from by simp only [restF, rdyAt]; grind only]
  refine ⟨fun n => n, rfl, fun _ _ => rfl, List.nodup_nil, (by simp), ?_⟩
  intro p hp
  cases List.mem_singleton.1 hp
  exact rootL_mem rfl
 try simp only [cnd] at c7
 refine jd (sr ?_)
 refine qr 4 ?_
 exfalso
 omega
theorem applyRest9_con (u : DUnix) (e : DEff) (hS : Shp u) (hk : 21 ≤ e.Kind ∧ e.Kind ≤ 24) : Con Tryz.prog 166 [.p base [] 9 0 0, .g [.v (iv e.Kind), .v (iv e.A), .v (iv e.B), .v (iv e.C), .h (base + 1) []]] [.rt base .row (T.s 9 1 fun _ c => [T.v (iv u.Next), T.v (iv u.Tick), tr u.Progs, tr u.Procs, tr u.Opens, tr u.Pipes, tr u.Files, tr u.Ready, tr u.Out].getD c T.j), .rt (base + 1) .ro (tr e.L)] (RetW (.v (.bool (restF u e).2)) [] [(base, (T.s 9 1 fun _ c => [T.v (iv (restF u e).1.Next), T.v (iv (restF u e).1.Tick), tr (restF u e).1.Progs, tr (restF u e).1.Procs, tr (restF u e).1.Opens, tr (restF u e).1.Pipes, tr (restF u e).1.Files, tr (restF u e).1.Ready, tr (restF u e).1.Out].getD c T.j))]) := by
 refine ob Tryz.func166 Tryz.ntmps166 ?_
 have hS1 := hS.ready
 have hS2 := hS.out
 have hS3 := hS.tick
 have hrb := ixOf_bd (fun x : Int => e.A == x) u.Ready
 refine sr ?_
 refine bx ?_
 refine nm ?_
 refine qn ?_
 refine sr2 ?_
 refine qq (fA fl49_0) ?_
 refine ql ag3 ?_
 refine nl ?_
 refine AW.block (sr ?_)
 refine qb ?_
 refine nm ?_
 refine qn ?_
 refine cd (fun c1 => ?_) fun c1 => ?_
 ·try simp only [cnd] at c1
  refine sr2 ?_
  refine qm ?_
  refine qq (Qt.nilCheck rfl) ?_
  refine nm ?_
  refine qq (fA fl31_7) ?_
  refine ql ag29 ?_
  refine qh sl29 ?_
  refine nm ?_
  refine qb ?_
  refine nc (fun c2 => ?_) fun c2 => ?_
  ·try simp only [cnd] at c2
   refine sr ?_
   refine qr 4 ?_
   rw [show restF u e = (u, false) from by simp only [restF, rdyAt]; grind only]
   refine ⟨fun n => n, rfl, fun _ _ => rfl, List.nodup_nil, (by simp), ?_⟩
   intro p hp
   cases List.mem_singleton.1 hp
   exact rootL_mem rfl
  try simp only [cnd] at c2
  refine jd ?_
  refine AW.draw [0, 1, 2, 3, 4, 5, 6, 9, 10] rfl (by decide +kernel) ?_
  refine tk 0 rfl Qt.move ?_
  refine na ?_
  refine tk 1 rfl Qt.move ?_
  refine tk 2 rfl (Qt.nilCheck rfl) ?_
  refine tk 3 rfl (fA fl31_7) ?_
  refine na ?_
  refine tk 4 rfl (Qt.load1 rfl rfl rfl ag29) ?_
  refine tk 5 rfl (fA fl49_1) ?_
  refine tk 6 rfl (Qt.load1 rfl rfl rfl ag3) ?_
  refine na ?_
  refine a1 7 [0, 1, 2, 3, 4] [6, 5] rfl rfl sS ?_
  refine na ?_
  refine na ?_
  refine ae rfl Qt.move ?_
  refine na ?_
  refine ae rfl Qt.move ?_
  refine na ?_
  refine ae rfl (Qt.nilCheck rfl) ?_
  refine na ?_
  refine ae rfl (fA fl31_7) ?_
  refine na ?_
  refine ae rfl (Qt.load1 rfl rfl rfl ag29) ?_
  refine na ?_
  refine a1 8 [0] [7, 4, 6, 3, 5, 2, 1] rfl rfl (by first | exact Stp.appendC rfl (by decide) (by decide) rfl rfl (by omega) | exact Stp.appendM rfl (by decide) (by decide) rfl rfl rfl (by omega)) ?_
  refine na ?_
  refine na ?_
  refine ae rfl Qt.move ?_
  refine na ?_
  refine AWA.rep 24 (tr (u.Ready ++ [e.A])) rfl (app_one (α := Int) (a := e.A) (fun c hc => match c, hc with | 0, _ => rfl | c + 1, hc => absurd hc (by simp only [En.n]; omega))) ?_
  refine na ?_
  refine tk 9 rfl (Qt.nilCheck rfl) ?_
  refine tk 10 rfl (fA fl31_7) ?_
  refine a1 11 [] [10, 8, 7, 6, 5, 4, 3, 2, 1, 0, 9] rfl rfl (by first | exact Stp.storeA rfl rfl rfl rfl (by decide) rfl | exact Stp.store rfl rfl (by simp) rfl rfl rfl (by decide) rfl) ?_
  refine na ?_
  refine na ?_
  refine nz ?_
  refine sr ?_
  refine qn ?_
  refine AW.rep base (T.s 9 1 fun _ c => [T.v (iv ({ u with Ready := u.Ready ++ [e.A] }).Next), T.v (iv ({ u with Ready := u.Ready ++ [e.A] }).Tick), tr ({ u with Ready := u.Ready ++ [e.A] }).Progs, tr ({ u with Ready := u.Ready ++ [e.A] }).Procs, tr ({ u with Ready := u.Ready ++ [e.A] }).Opens, tr ({ u with Ready := u.Ready ++ [e.A] }).Pipes, tr ({ u with Ready := u.Ready ++ [e.A] }).Files, tr ({ u with Ready := u.Ready ++ [e.A] }).Ready, tr ({ u with Ready := u.Ready ++ [e.A] }).Out].getD c T.j) rfl (sc_sim (n := 9) (fun c hc => match c, hc with | 0, _ => T.sim_refl _ | 1, _ => T.sim_refl _ | 2, _ => T.sim_refl _ | 3, _ => T.sim_refl _ | 4, _ => T.sim_refl _ | 5, _ => T.sim_refl _ | 6, _ => T.sim_refl _ | 7, _ => T.sim_refl _ | 8, _ => T.sim_refl _ | c + 9, hc => absurd hc (by omega))) ?_
  refine rt1 4 ?_
  rw [show restF u e = ({ u with Ready := u.Ready ++ [e.A] }, true) from by simp only [restF, rdyAt]; grind only]
  refine ⟨fun n => n, rfl, fun _ _ => rfl, List.nodup_nil, (by simp), ?_⟩
  intro p hp
  cases List.mem_singleton.1 hp
  exact rootL_mem rfl
 try simp only [cnd] at c1
 refine sr ?_
 refine qb ?_
 refine qn ?_
 refine cd (fun c3 => ?_) fun c3 => ?_
 ·try simp only [cnd] at c3
  refine AW.seq ?_
  refine AW.draw [0, 1, 2, 3, 4, 5, 7] rfl (by decide +kernel) ?_
  refine tk 0 rfl Qt.move ?_
  refine na ?_
  refine tk 1 rfl (Qt.nilCheck rfl) ?_
  refine tk 2 rfl (fA fl31_7) ?_
  refine tk 3 rfl (Qt.load1 rfl rfl rfl ag29) ?_
  refine na ?_
  refine tk 4 rfl (fA fl49_1) ?_
  refine tk 5 rfl (Qt.load1 rfl rfl rfl ag3) ?_
  refine a1 6 [] [5, 3, 4, 2, 1, 0] rfl rfl (Stp.callV rfl (by decide) Tryz.call225 rfl rfl (indexI_con u.Ready e.A)) ?_
  refine na ?_
  refine na ?_
  refine tk 7 rfl Qt.assign ?_
  refine nz ?_
  refine sr2 ?_
  refine qm ?_
  refine qb ?_
  refine nc (fun c4 => ?_) fun c4 => ?_
  ·try simp only [cnd] at c4
   refine sr ?_
   refine qr 4 ?_
   rw [show restF u e = (u, false) from by simp only [restF, rdyAt]; grind only]
   refine ⟨fun n => n, rfl, fun _ _ => rfl, List.nodup_nil, (by simp), ?_⟩
   intro p hp
   cases List.mem_singleton.1 hp
   exact rootL_mem rfl
  try simp only [cnd] at c4
  refine jd (AW.region ?_)
  refine mn ?_
  refine qm ?_
  refine qq (Qt.nilCheck rfl) ?_
  refine qq (fA fl31_7) ?_
  refine nm ?_
  refine ql ag29 ?_
  refine qm ?_
  refine mn ?_
  refine ba ?_
  have hri : 0 ≤ rdyAt u e.A := by unfold rdyAt; omega
  refine nm ?_
  refine AWL.weak (Weak.slot (d := 43) (v' := iv ((rdyAt u e.A).toNat : Nat)) rfl (ivE (by unfold rdyAt; omega))) ?_
  refine AWL.weak (Weak.slot (d := 45) (v' := iv ((rdyAt u e.A).toNat + 1 : Nat)) rfl (ivE (by unfold rdyAt; omega))) ?_
  refine nm ?_
  refine sp (Stp.callH rfl (by decide) Tryz.call248 rfl (del_con u.Ready (rdyAt u e.A).toNat ((rdyAt u e.A).toNat + 1) (by omega) (by unfold rdyAt; omega)) rfl rfl rfl (nodup_of rfl) rfl rfl) ?_
  refine nm ?_
  refine qq (Qt.nilCheck rfl) ?_
  refine qq (fA fl31_7) ?_
  refine ss ?_
  refine ns ?_
  refine qn ?_
  refine AW.rep base (T.s 9 1 fun _ c => [T.v (iv ({ u with Ready := cutL u.Ready (rdyAt u e.A).toNat }).Next), T.v (iv ({ u with Ready := cutL u.Ready (rdyAt u e.A).toNat }).Tick), tr ({ u with Ready := cutL u.Ready (rdyAt u e.A).toNat }).Progs, tr ({ u with Ready := cutL u.Ready (rdyAt u e.A).toNat }).Procs, tr ({ u with Ready := cutL u.Ready (rdyAt u e.A).toNat }).Opens, tr ({ u with Ready := cutL u.Ready (rdyAt u e.A).toNat }).Pipes, tr ({ u with Ready := cutL u.Ready (rdyAt u e.A).toNat }).Files, tr ({ u with Ready := cutL u.Ready (rdyAt u e.A).toNat }).Ready, tr ({ u with Ready := cutL u.Ready (rdyAt u e.A).toNat }).Out].getD c T.j) rfl (sc_sim (n := 9) (fun c hc => match c, hc with | 0, _ => T.sim_refl _ | 1, _ => T.sim_refl _ | 2, _ => T.sim_refl _ | 3, _ => T.sim_refl _ | 4, _ => T.sim_refl _ | 5, _ => T.sim_refl _ | 6, _ => T.sim_refl _ | 7, _ => T.sim_refl _ | 8, _ => T.sim_refl _ | c + 9, hc => absurd hc (by omega))) ?_
  refine rt1 4 ?_
  rw [show restF u e = ({ u with Ready := cutL u.Ready (rdyAt u e.A).toNat }, true) from by simp only [restF, rdyAt]; grind only]
  refine ⟨fun n => n, rfl, fun _ _ => rfl, List.nodup_nil, (by simp), ?_⟩
  intro p hp
  cases List.mem_singleton.1 hp
  exact rootL_mem rfl
 try simp only [cnd] at c3
 refine sr ?_
 refine qb ?_
 refine nm ?_
 refine qn ?_
 refine cd (fun c5 => ?_) fun c5 => ?_
 ·try simp only [cnd] at c5
  refine sr2 ?_
  refine qm ?_
  refine qq (Qt.nilCheck rfl) ?_
  refine nm ?_
  refine qq (fA fl31_8) ?_
  refine ql ag29 ?_
  refine qh sl29 ?_
  refine nm ?_
  refine qb ?_
  refine nc (fun c6 => ?_) fun c6 => ?_
  ·try simp only [cnd] at c6
   refine sr ?_
   refine qr 4 ?_
   rw [show restF u e = (u, false) from by simp only [restF, rdyAt]; grind only]
   refine ⟨fun n => n, rfl, fun _ _ => rfl, List.nodup_nil, (by simp), ?_⟩
   intro p hp
   cases List.mem_singleton.1 hp
   exact rootL_mem rfl
  try simp only [cnd] at c6
  refine jd ?_
  refine AW.draw [0, 1, 2, 3, 4, 5, 6, 9, 10] rfl (by decide +kernel) ?_
  refine tk 0 rfl Qt.move ?_
  refine na ?_
  refine tk 1 rfl Qt.move ?_
  refine tk 2 rfl (Qt.nilCheck rfl) ?_
  refine tk 3 rfl (fA fl31_8) ?_
  refine na ?_
  refine tk 4 rfl (Qt.load1 rfl rfl rfl ag29) ?_
  refine tk 5 rfl (fA fl49_1) ?_
  refine tk 6 rfl (Qt.load1 rfl rfl rfl ag3) ?_
  refine na ?_
  refine a1 7 [0, 1, 2, 3, 4] [6, 5] rfl rfl sS ?_
  refine na ?_
  refine na ?_
  refine ae rfl Qt.move ?_
  refine na ?_
  refine ae rfl Qt.move ?_
  refine na ?_
  refine ae rfl (Qt.nilCheck rfl) ?_
  refine na ?_
  refine ae rfl (fA fl31_8) ?_
  refine na ?_
  refine ae rfl (Qt.load1 rfl rfl rfl ag29) ?_
  refine na ?_
  refine a1 8 [0] [7, 4, 6, 3, 5, 2, 1] rfl rfl (by first | exact Stp.appendC rfl (by decide) (by decide) rfl rfl (by omega) | exact Stp.appendM rfl (by decide) (by decide) rfl rfl rfl (by omega)) ?_
  refine na ?_
  refine na ?_
  refine ae rfl Qt.move ?_
  refine na ?_
  refine AWA.rep 65 (tr (u.Out ++ [e.A])) rfl (app_one (α := Int) (a := e.A) (fun c hc => match c, hc with | 0, _ => rfl | c + 1, hc => absurd hc (by simp only [En.n]; omega))) ?_
  refine na ?_
  refine tk 9 rfl (Qt.nilCheck rfl) ?_
  refine tk 10 rfl (fA fl31_8) ?_
  refine a1 11 [] [10, 8, 7, 6, 5, 4, 3, 2, 1, 0, 9] rfl rfl (by first | exact Stp.storeA rfl rfl rfl rfl (by decide) rfl | exact Stp.store rfl rfl (by simp) rfl rfl rfl (by decide) rfl) ?_
  refine na ?_
  refine na ?_
  refine nz ?_
  refine sr ?_
  refine qn ?_
  refine AW.rep base (T.s 9 1 fun _ c => [T.v (iv ({ u with Out := u.Out ++ [e.A] }).Next), T.v (iv ({ u with Out := u.Out ++ [e.A] }).Tick), tr ({ u with Out := u.Out ++ [e.A] }).Progs, tr ({ u with Out := u.Out ++ [e.A] }).Procs, tr ({ u with Out := u.Out ++ [e.A] }).Opens, tr ({ u with Out := u.Out ++ [e.A] }).Pipes, tr ({ u with Out := u.Out ++ [e.A] }).Files, tr ({ u with Out := u.Out ++ [e.A] }).Ready, tr ({ u with Out := u.Out ++ [e.A] }).Out].getD c T.j) rfl (sc_sim (n := 9) (fun c hc => match c, hc with | 0, _ => T.sim_refl _ | 1, _ => T.sim_refl _ | 2, _ => T.sim_refl _ | 3, _ => T.sim_refl _ | 4, _ => T.sim_refl _ | 5, _ => T.sim_refl _ | 6, _ => T.sim_refl _ | 7, _ => T.sim_refl _ | 8, _ => T.sim_refl _ | c + 9, hc => absurd hc (by omega))) ?_
  refine rt1 4 ?_
  rw [show restF u e = ({ u with Out := u.Out ++ [e.A] }, true) from by simp only [restF, rdyAt]; grind only]
  refine ⟨fun n => n, rfl, fun _ _ => rfl, List.nodup_nil, (by simp), ?_⟩
  intro p hp
  cases List.mem_singleton.1 hp
  exact rootL_mem rfl
 try simp only [cnd] at c5
 refine sr ?_
 refine qb ?_
 refine qn ?_
 refine cd (fun c7 => ?_) fun c7 => ?_
 ·try simp only [cnd] at c7
  refine sr2 ?_
  refine mn ?_
  refine qq (Qt.nilCheck rfl) ?_
  refine qq (fA fl31_1) ?_
  refine ql ag3 ?_
  refine nm ?_
  refine qb ?_
  refine nc (fun c8 => ?_) fun c8 => ?_
  ·try simp only [cnd] at c8
   refine sr ?_
   refine qr 4 ?_
   rw [show restF u e = (u, false) from by simp only [restF, rdyAt]; grind only]
   refine ⟨fun n => n, rfl, fun _ _ => rfl, List.nodup_nil, (by simp), ?_⟩
   intro p hp
   cases List.mem_singleton.1 hp
   exact rootL_mem rfl
  try simp only [cnd] at c8
  refine jd (AW.region ?_)
  refine mn ?_
  refine qq (Qt.nilCheck rfl) ?_
  refine qq (fA fl31_1) ?_
  refine ql ag3 ?_
  refine nm ?_
  refine ba ?_
  refine qq (Qt.nilCheck rfl) ?_
  refine qq (fA fl31_1) ?_
  refine nm ?_
  refine ss ?_
  refine ns ?_
  refine qn ?_
  refine AW.rep base (T.s 9 1 fun _ c => [T.v (iv ({ u with Tick := u.Tick + 1 }).Next), T.v (iv ({ u with Tick := u.Tick + 1 }).Tick), tr ({ u with Tick := u.Tick + 1 }).Progs, tr ({ u with Tick := u.Tick + 1 }).Procs, tr ({ u with Tick := u.Tick + 1 }).Opens, tr ({ u with Tick := u.Tick + 1 }).Pipes, tr ({ u with Tick := u.Tick + 1 }).Files, tr ({ u with Tick := u.Tick + 1 }).Ready, tr ({ u with Tick := u.Tick + 1 }).Out].getD c T.j) rfl (sc_sim (n := 9) (fun c hc => match c, hc with | 0, _ => T.sim_refl _ | 1, _ => T.sim_refl _ | 2, _ => T.sim_refl _ | 3, _ => T.sim_refl _ | 4, _ => T.sim_refl _ | 5, _ => T.sim_refl _ | 6, _ => T.sim_refl _ | 7, _ => T.sim_refl _ | 8, _ => T.sim_refl _ | c + 9, hc => absurd hc (by omega))) ?_
  refine rt1 4 ?_
  rw [show restF u e = ({ u with Tick := u.Tick + 1 }, true) from by simp only [restF, rdyAt]; grind only]
  refine ⟨fun n => n, rfl, fun _ _ => rfl, List.nodup_nil, (by simp), ?_⟩
  intro p hp
  cases List.mem_singleton.1 hp
  exact rootL_mem rfl
 try simp only [cnd] at c7
 refine jd (sr ?_)
 refine qr 4 ?_
 exfalso
 omega
end Go.Proofs.YtfbefcmeghpalaaGreat.VM
