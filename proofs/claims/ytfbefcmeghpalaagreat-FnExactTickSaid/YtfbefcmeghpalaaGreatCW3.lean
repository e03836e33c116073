/- Contracts of functions of the program. No conditions beyond those that each states. -/
import Derived.Test.YtfbefcmeghpalaaGreatCW2
set_option linter.all false
set_option maxHeartbeats 8000000
set_option maxRecDepth 10000
namespace Go.Proofs.YtfbefcmeghpalaaGreat.VM
open Go Go.RowKit Go.Proofs
theorem applyToT10_con (u : DUnix) (l : List DEff) (e : DEff) (hS : Shp u) (hk : e.Kind = 3 ∨ e.Kind = 21 ∨ e.Kind = 22 ∨ e.Kind = 24) : Con Tryz.prog 74 [.p base [] 10 0 0, .g [.v (iv e.Kind), .v (iv e.A), .v (iv e.B), .v (iv e.C), .h (base + 1) []]] [.rt base .row (T.s 10 1 fun _ c => [T.v (iv u.Next), T.v (iv u.Tick), tr u.Progs, tr u.Procs, tr u.Opens, tr u.Pipes, tr u.Files, tr u.Ready, tr u.Out, tr l].getD c T.j), .rt (base + 1) .ro (tr e.L)] (RetW (.v (.bool (applyT u e).2)) [] [(base, (T.s 10 1 fun _ c => [T.v (iv (applyT u e).1.Next), T.v (iv (applyT u e).1.Tick), tr (applyT u e).1.Progs, tr (applyT u e).1.Procs, tr (applyT u e).1.Opens, tr (applyT u e).1.Pipes, tr (applyT u e).1.Files, tr (applyT u e).1.Ready, tr (applyT u e).1.Out, tr l].getD c T.j))]) := by
 refine ob Tryz.func74 Tryz.ntmps74 ?_
 have hpb := ixOf_bd (fun p : DProc => p.Pid == e.A) u.Procs
 have hpb2 : procAt u e.A < u.Procs.length := hpb.2
 refine sr ?_
 refine bx ?_
 refine nm ?_
 refine qn ?_
 refine sr2 ?_
 refine qq (fA fl49_0) ?_
 refine ql ag3 ?_
 refine nl ?_
 refine AW.block (sr ?_)
 refine qb ?_
 refine nm ?_
 refine qn ?_
 refine AW.cond rfl (fun c1 => (by exfalso; first | (cases c1; done) | (simp at c1; done) | (simp only [cnd] at c1; omega))) (fun c1 => ?_)
 try simp only [cnd] at c1
 refine sr2 ?_
 refine qb ?_
 refine qn ?_
 refine AW.cond rfl (fun c2 => (by exfalso; first | (cases c2; done) | (simp at c2; done) | (simp only [cnd] at c2; omega))) (fun c2 => ?_)
 try simp only [cnd] at c2
 refine sr ?_
 refine qb ?_
 refine nm ?_
 refine qn ?_
 refine AW.cond rfl (fun c3 => (by exfalso; first | (cases c3; done) | (simp at c3; done) | (simp only [cnd] at c3; omega))) (fun c3 => ?_)
 try simp only [cnd] at c3
 refine sr ?_
 refine qb ?_
 refine qn ?_
 refine AW.cond rfl (fun c4 => (by exfalso; first | (cases c4; done) | (simp at c4; done) | (simp only [cnd] at c4; omega))) (fun c4 => ?_)
 try simp only [cnd] at c4
 refine AW.region ?_
 refine qb ?_
 refine nm ?_
 refine qn ?_
 refine AW.cond rfl (fun c5 => (by exfalso; first | (cases c5; done) | (simp at c5; done) | (simp only [cnd] at c5; omega))) (fun c5 => ?_)
 try simp only [cnd] at c5
 refine sr2 ?_
 refine qb ?_
 refine qn ?_
 refine AW.cond rfl (fun c6 => (by exfalso; first | (cases c6; done) | (simp at c6; done) | (simp only [cnd] at c6; omega))) (fun c6 => ?_)
 try simp only [cnd] at c6
 refine sr ?_
 refine qb ?_
 refine nm ?_
 refine qn ?_
 refine AW.cond rfl (fun c7 => (by exfalso; first | (cases c7; done) | (simp at c7; done) | (simp only [cnd] at c7; omega))) (fun c7 => ?_)
 try simp only [cnd] at c7
 refine sr ?_
 refine qb ?_
 refine qn ?_
 refine AW.cond rfl (fun c8 => (by exfalso; first | (cases c8; done) | (simp at c8; done) | (simp only [cnd] at c8; omega))) (fun c8 => ?_)
 try simp only [cnd] at c8
 refine AW.region ?_
 refine qb ?_
 refine nm ?_
 refine qn ?_
 refine AW.cond rfl (fun c9 => (by exfalso; first | (cases c9; done) | (simp at c9; done) | (simp only [cnd] at c9; omega))) (fun c9 => ?_)
 try simp only [cnd] at c9
 refine sr2 ?_
 refine qb ?_
 refine qn ?_
 refine AW.cond rfl (fun c10 => (by exfalso; first | (cases c10; done) | (simp at c10; done) | (simp only [cnd] at c10; omega))) (fun c10 => ?_)
 try simp only [cnd] at c10
 refine sr ?_
 refine qb ?_
 refine nm ?_
 refine qn ?_
 refine AW.cond rfl (fun c11 => (by exfalso; first | (cases c11; done) | (simp at c11; done) | (simp only [cnd] at c11; omega))) (fun c11 => ?_)
 try simp only [cnd] at c11
 refine AW.region ?_
 refine qb ?_
 refine qn ?_
 refine AW.cond rfl (fun c12 => (by exfalso; first | (cases c12; done) | (simp at c12; done) | (simp only [cnd] at c12; omega))) (fun c12 => ?_)
 try simp only [cnd] at c12
 refine sr2 ?_
 refine qb ?_
 refine nm ?_
 refine qn ?_
 refine cd (fun c13 => ?_) fun c13 => ?_
 ·have k13 := c13
  try simp only [cnd] at c13
  refine jd ?_
  refine AW.condT rfl k13 ?_
  refine sr ?_
  refine qm ?_
  refine qG ag49 sz49 ?_
  refine nm ?_
  refine sp (Stp.callH rfl (by decide) Tryz.call166 rfl (applyRest10_con u l e hS (by omega)) rfl rfl rfl (nodup_of rfl) rfl rfl) ?_
  refine nm ?_
  refine qr 4 ?_
  rw [show applyT u e = restF u e from by simp only [applyT]; grind only]
  refine ⟨fun n => n, rfl, fun _ _ => rfl, List.nodup_nil, (by simp), ?_⟩
  intro p hp
  cases List.mem_singleton.1 hp
  exact rootL_mem rfl
 have k13 := c13
 try simp only [cnd] at c13
 refine sr ?_
 refine qb ?_
 refine qn ?_
 refine cd (fun c14 => ?_) fun c14 => ?_
 ·have k14 := c14
  try simp only [cnd] at c14
  refine jd ?_
  refine AW.condT rfl k14 ?_
  refine sr ?_
  refine mn ?_
  refine qG ag49 sz49 ?_
  refine sp (Stp.callH rfl (by decide) Tryz.call166 rfl (applyRest10_con u l e hS (by omega)) rfl rfl rfl (nodup_of rfl) rfl rfl) ?_
  refine nm ?_
  refine qr 4 ?_
  rw [show applyT u e = restF u e from by simp only [applyT]; grind only]
  refine ⟨fun n => n, rfl, fun _ _ => rfl, List.nodup_nil, (by simp), ?_⟩
  intro p hp
  cases List.mem_singleton.1 hp
  exact rootL_mem rfl
 have k14 := c14
 try simp only [cnd] at c14
 refine sr ?_
 refine qb ?_
 refine qn ?_
 refine AW.cond rfl (fun c15 => (by exfalso; first | (cases c15; done) | (simp at c15; done) | (simp only [cnd] at c15; omega))) (fun c15 => ?_)
 try simp only [cnd] at c15
 refine AW.region ?_
 refine qb ?_
 refine nm ?_
 refine qn ?_
 refine cd (fun c16 => ?_) fun c16 => ?_
 ·try simp only [cnd] at c16
  refine sr ?_
  refine qm ?_
  refine qG ag49 sz49 ?_
  refine nm ?_
  refine sp (Stp.callH rfl (by decide) Tryz.call166 rfl (applyRest10_con u l e hS (by omega)) rfl rfl rfl (nodup_of rfl) rfl rfl) ?_
  refine nm ?_
  refine qr 4 ?_
  rw [show applyT u e = restF u e from by simp only [applyT]; grind only]
  refine ⟨fun n => n, rfl, fun _ _ => rfl, List.nodup_nil, (by simp), ?_⟩
  intro p hp
  cases List.mem_singleton.1 hp
  exact rootL_mem rfl
 try simp only [cnd] at c16
 refine sr2 ?_
 refine qb ?_
 refine qn ?_
 refine AW.cond rfl (fun c17 => (by exfalso; first | (cases c17; done) | (simp at c17; done) | (simp only [cnd] at c17; omega))) (fun c17 => ?_)
 try simp only [cnd] at c17
 refine sr ?_
 refine qb ?_
 refine nm ?_
 refine qn ?_
 refine AW.cond rfl (fun c18 => (by exfalso; first | (cases c18; done) | (simp at c18; done) | (simp only [cnd] at c18; omega))) (fun c18 => ?_)
 try simp only [cnd] at c18
 refine sr ?_
 refine qb ?_
 refine qn ?_
 refine AW.cond rfl (fun c19 => ?_) (fun c19 => (by exfalso; first | (cases c19; done) | (simp at c19; done) | (simp only [cnd] at c19; omega)))
 have k19 := c19
 try simp only [cnd] at c19
 refine jd ?_
 refine AW.condT rfl k19 ?_
 refine AW.seq ?_
 refine AW.draw [0, 1, 2, 3, 4, 6] rfl (by decide +kernel) ?_
 refine tk 0 rfl Qt.move ?_
 refine na ?_
 refine tk 1 rfl (Qt.nilCheck rfl) ?_
 refine tk 2 rfl (Qt.loadG rfl rfl rfl ag31 sz31 (by decide)) ?_
 refine tk 3 rfl (fA fl49_1) ?_
 refine na ?_
 refine tk 4 rfl (Qt.load1 rfl rfl rfl ag3) ?_
 refine a1 5 [] [4, 2, 3, 1, 0] rfl rfl (Stp.callV rfl (by decide) Tryz.call167 rfl rfl (procAtI_con u _)) ?_
 refine na ?_
 refine na ?_
 refine tk 6 rfl Qt.assign ?_
 refine nz ?_
 refine sr ?_
 refine qm ?_
 refine qb ?_
 refine nm ?_
 refine qm ?_
 refine AWL.split 63 rfl (fun g20 => ?_) (fun g20 => ?_)
 ·have eg20 := g20
  try simp only [cnd] at eg20
  refine qg g20 Qt.move ?_
  refine qg g20 Qt.move ?_
  refine nm ?_
  refine AWL.weak (Weak.slot (d := 65) (v' := iv ((procAt u e.A).toNat : Nat)) rfl (ivE (by omega))) ?_
  refine nm ?_
  refine qg g20 (Qt.loadG rfl rfl rfl ag49 sz49 (by decide)) ?_
  refine AWL.step rfl g20 (Stp.callH rfl (by decide) Tryz.call168 rfl (applyProcT10_con u l (procAt u e.A).toNat e (by omega) (by omega)) rfl rfl rfl (nodup_of rfl) rfl rfl) ?_
  refine nm ?_
  refine qq (Qt.pickT rfl g20) ?_
  refine qr 4 ?_
  rw [show applyT u e = (stateF u (procAt u e.A).toNat e, true) from by simp only [applyT]; grind only]
  refine ⟨fun n => n, rfl, fun _ _ => rfl, List.nodup_nil, (by simp), ?_⟩
  intro p hp
  cases List.mem_singleton.1 hp
  exact rootL_mem rfl
 have eg20 := g20
 try simp only [cnd] at eg20
 refine og g20 ?_
 refine og g20 ?_
 refine og g20 ?_
 refine og g20 ?_
 refine qq (Qt.pickF rfl g20) ?_
 refine nm ?_
 refine qr 4 ?_
 rw [show applyT u e = (u, false) from by simp only [applyT]; grind only]
 refine ⟨fun n => n, rfl, fun _ _ => rfl, List.nodup_nil, (by simp), ?_⟩
 intro p hp
 cases List.mem_singleton.1 hp
 exact rootL_mem rfl
theorem applyToT9_con (u : DUnix) (e : DEff) (hS : Shp u) (hk : e.Kind = 3 ∨ e.Kind = 21 ∨ e.Kind = 22 ∨ e.Kind = 24) : Con Tryz.prog 74 [.p base [] 9 0 0, .g [.v (iv e.Kind), .v (iv e.A), .v (iv e.B), .v (iv e.C), .h (base + 1) []]] [.rt base .row (T.s 9 1 fun _ c => [T.v (iv u.Next), T.v (iv u.Tick), tr u.Progs, tr u.Procs, tr u.Opens, tr u.Pipes, tr u.Files, tr u.Ready, tr u.Out].getD c T.j), .rt (base + 1) .ro (tr e.L)] (RetW (.v (.bool (applyT u e).2)) [] [(base, (T.s 9 1 fun _ c => [T.v (iv (applyT u e).1.Next), T.v (iv (applyT u e).1.Tick), tr (applyT u e).1.Progs, tr (applyT u e).1.Procs, tr (applyT u e).1.Opens, tr (applyT u e).1.Pipes, tr (applyT u e).1.Files, tr (applyT u e).1.Ready, tr (applyT u e).1.Out].getD c T.j))]) := by
 refine ob Tryz.func74 Tryz.ntmps74 ?_
 have hpb := ixOf_bd (fun p : DProc => p.Pid == e.A) u.Procs
 have hpb2 : procAt u e.A < u.Procs.length := hpb.2
 refine sr ?_
 refine bx ?_
 refine nm ?_
 refine qn ?_
 refine sr2 ?_
 refine qq (fA fl49_0) ?_
 refine ql ag3 ?_
 refine nl ?_
 refine AW.block (sr ?_)
 refine qb ?_
 refine nm ?_
 refine qn ?_
 refine AW.cond rfl (fun c1 => (by exfalso; first | (cases c1; done) | (simp at c1; done) | (simp only [cnd] at c1; omega))) (fun c1 => ?_)
 try simp only [cnd] at c1
 refine sr2 ?_
 refine qb ?_
 refine qn ?_
 refine AW.cond rfl (fun c2 => (by exfalso; first | (cases c2; done) | (simp at c2; done) | (simp only [cnd] at c2; omega))) (fun c2 => ?_)
 try simp only [cnd] at c2
 refine sr ?_
 refine qb ?_
 refine nm ?_
 refine qn ?_
 refine AW.cond rfl (fun c3 => (by exfalso; first | (cases c3; done) | (simp at c3; done) | (simp only [cnd] at c3; omega))) (fun c3 => ?_)
 try simp only [cnd] at c3
 refine sr ?_
 refine qb ?_
 refine qn ?_
 refine AW.cond rfl (fun c4 => (by exfalso; first | (cases c4; done) | (simp at c4; done) | (simp only [cnd] at c4; omega))) (fun c4 => ?_)
 try simp only [cnd] at c4
 refine AW.region ?_
 refine qb ?_
 refine nm ?_
 refine qn ?_
 refine AW.cond rfl (fun c5 => (by exfalso; first | (cases c5; done) | (simp at c5; done) | (simp only [cnd] at c5; omega))) (fun c5 => ?_)
 try simp only [cnd] at c5
 refine sr2 ?_
 refine qb ?_
 refine qn ?_
 refine AW.cond rfl (fun c6 => (by exfalso; first | (cases c6; done) | (simp at c6; done) | (simp only [cnd] at c6; omega))) (fun c6 => ?_)
 try simp only [cnd] at c6
 refine sr ?_
 refine qb ?_
 refine nm ?_
 refine qn ?_
 refine AW.cond rfl (fun c7 => (by exfalso; first | (cases c7; done) | (simp at c7; done) | (simp only [cnd] at c7; omega))) (fun c7 => ?_)
 try simp only [cnd] at c7
 refine sr ?_
 refine qb ?_
 refine qn ?_
 refine AW.cond rfl (fun c8 => (by exfalso; first | (cases c8; done) | (simp at c8; done) | (simp only [cnd] at c8; omega))) (fun c8 => ?_)
 try simp only [cnd] at c8
 refine AW.region ?_
 refine qb ?_
 refine nm ?_
 refine qn ?_
 refine AW.cond rfl (fun c9 => (by exfalso; first | (cases c9; done) | (simp at c9; done) | (simp only [cnd] at c9; omega))) (fun c9 => ?_)
 try simp only [cnd] at c9
 refine sr2 ?_
 refine qb ?_
 refine qn ?_
 refine AW.cond rfl (fun c10 => (by exfalso; first | (cases c10; done) | (simp at c10; done) | (simp only [cnd] at c10; omega))) (fun c10 => ?_)
 try simp only [cnd] at c10
 refine sr ?_
 refine qb ?_
 refine nm ?_
 refine qn ?_
 refine AW.cond rfl (fun c11 => (by exfalso; first | (cases c11; done) | (simp at c11; done) | (simp only [cnd] at c11; omega))) (fun c11 => ?_)
 try simp only [cnd] at c11
 refine AW.region ?_
 refine qb ?_
 refine qn ?_
 refine AW.cond rfl (fun c12 => (by exfalso; first | (cases c12; done) | (simp at c12; done) | (simp only [cnd] at c12; omega))) (fun c12 => ?_)
 try simp only [cnd] at c12
 refine sr2 ?_
 refine qb ?_
 refine nm ?_
 refine qn ?_
 refine cd (fun c13 => ?_) fun c13 => ?_
 ·have k13 := c13
  try simp only [cnd] at c13
  refine jd ?_
  refine AW.condT rfl k13 ?_
  refine sr ?_
  refine qm ?_
  refine qG ag49 sz49 ?_
  refine nm ?_
  refine sp (Stp.callH rfl (by decide) Tryz.call166 rfl (applyRest9_con u e hS (by omega)) rfl rfl rfl (nodup_of rfl) rfl rfl) ?_
  refine nm ?_
  refine qr 4 ?_
  rw [show applyT u e = restF u e from by simp only [applyT]; grind only]
  refine ⟨fun n => n, rfl, fun _ _ => rfl, List.nodup_nil, (by simp), ?_⟩
  intro p hp
  cases List.mem_singleton.1 hp
  exact rootL_mem rfl
 have k13 := c13
 try simp only [cnd] at c13
 refine sr ?_
 refine qb ?_
 refine qn ?_
 refine cd (fun c14 => ?_) fun c14 => ?_
 ·have k14 := c14
  try simp only [cnd] at c14
  refine jd ?_
  refine AW.condT rfl k14 ?_
  refine sr ?_
  refine mn ?_
  refine qG ag49 sz49 ?_
  refine sp (Stp.callH rfl (by decide) Tryz.call166 rfl (applyRest9_con u e hS (by omega)) rfl rfl rfl (nodup_of rfl) rfl rfl) ?_
  refine nm ?_
  refine qr 4 ?_
  rw [show applyT u e = restF u e from by simp only [applyT]; grind only]
  refine ⟨fun n => n, rfl, fun _ _ => rfl, List.nodup_nil, (by simp), ?_⟩
  intro p hp
  cases List.mem_singleton.1 hp
  exact rootL_mem rfl
 have k14 := c14
 try simp only [cnd] at c14
 refine sr ?_
 refine qb ?_
 refine qn ?_
 refine AW.cond rfl (fun c15 => (by exfalso; first | (cases c15; done) | (simp at c15; done) | (simp only [cnd] at c15; omega))) (fun c15 => ?_)
 try simp only [cnd] at c15
 refine AW.region ?_
 refine qb ?_
 refine nm ?_
 refine qn ?_
 refine cd (fun c16 => ?_) fun c16 => ?_
 ·try simp only [cnd] at c16
  refine sr ?_
  refine qm ?_
  refine qG ag49 sz49 ?_
  refine nm ?_
  refine sp (Stp.callH rfl (by decide) Tryz.call166 rfl (applyRest9_con u e hS (by omega)) rfl rfl rfl (nodup_of rfl) rfl rfl) ?_
  refine nm ?_
  refine qr 4 ?_
  rw [show applyT u e = restF u e from by simp only [applyT]; grind only]
  refine ⟨fun n => n, rfl, fun _ _ => rfl, List.nodup_nil, (by simp), ?_⟩
  intro p hp
  cases List.mem_singleton.1 hp
  exact rootL_mem rfl
 try simp only [cnd] at c16
 refine sr2 ?_
 refine qb ?_
 refine qn ?_
 refine AW.cond rfl (fun c17 => (by exfalso; first | (cases c17; done) | (simp at c17; done) | (simp only [cnd] at c17; omega))) (fun c17 => ?_)
 try simp only [cnd] at c17
 refine sr ?_
 refine qb ?_
 refine nm ?_
 refine qn ?_
 refine AW.cond rfl (fun c18 => (by exfalso; first | (cases c18; done) | (simp at c18; done) | (simp only [cnd] at c18; omega))) (fun c18 => ?_)
 try simp only [cnd] at c18
 refine sr ?_
 refine qb ?_
 refine qn ?_
 refine AW.cond rfl (fun c19 => ?_) (fun c19 => (by exfalso; first | (cases c19; done) | (simp at c19; done) | (simp only [cnd] at c19; omega)))
 have k19 := c19
 try simp only [cnd] at c19
 refine jd ?_
 refine AW.condT rfl k19 ?_
 refine AW.seq ?_
 refine AW.draw [0, 1, 2, 3, 4, 6] rfl (by decide +kernel) ?_
 refine tk 0 rfl Qt.move ?_
 refine na ?_
 refine tk 1 rfl (Qt.nilCheck rfl) ?_
 refine tk 2 rfl (Qt.loadG rfl rfl rfl ag31 sz31 (by decide)) ?_
 refine tk 3 rfl (fA fl49_1) ?_
 refine na ?_
 refine tk 4 rfl (Qt.load1 rfl rfl rfl ag3) ?_
 refine a1 5 [] [4, 2, 3, 1, 0] rfl rfl (Stp.callV rfl (by decide) Tryz.call167 rfl rfl (procAtI_con u _)) ?_
 refine na ?_
 refine na ?_
 refine tk 6 rfl Qt.assign ?_
 refine nz ?_
 refine sr ?_
 refine qm ?_
 refine qb ?_
 refine nm ?_
 refine qm ?_
 refine AWL.split 63 rfl (fun g20 => ?_) (fun g20 => ?_)
 ·have eg20 := g20
  try simp only [cnd] at eg20
  refine qg g20 Qt.move ?_
  refine qg g20 Qt.move ?_
  refine nm ?_
  refine AWL.weak (Weak.slot (d := 65) (v' := iv ((procAt u e.A).toNat : Nat)) rfl (ivE (by omega))) ?_
  refine nm ?_
  refine qg g20 (Qt.loadG rfl rfl rfl ag49 sz49 (by decide)) ?_
  refine AWL.step rfl g20 (Stp.callH rfl (by decide) Tryz.call168 rfl (applyProcT9_con u (procAt u e.A).toNat e (by omega) (by omega)) rfl rfl rfl (nodup_of rfl) rfl rfl) ?_
  refine nm ?_
  refine qq (Qt.pickT rfl g20) ?_
  refine qr 4 ?_
  rw [show applyT u e = (stateF u (procAt u e.A).toNat e, true) from by simp only [applyT]; grind only]
  refine ⟨fun n => n, rfl, fun _ _ => rfl, List.nodup_nil, (by simp), ?_⟩
  intro p hp
  cases List.mem_singleton.1 hp
  exact rootL_mem rfl
 have eg20 := g20
 try simp only [cnd] at eg20
 refine og g20 ?_
 refine og g20 ?_
 refine og g20 ?_
 refine og g20 ?_
 refine qq (Qt.pickF rfl g20) ?_
 refine nm ?_
 refine qr 4 ?_
 rw [show applyT u e = (u, false) from by simp only [applyT]; grind only]
 refine ⟨fun n => n, rfl, fun _ _ => rfl, List.nodup_nil, (by simp), ?_⟩
 intro p hp
 cases List.mem_singleton.1 hp
 exact rootL_mem rfl
end Go.Proofs.YtfbefcmeghpalaaGreat.VM
