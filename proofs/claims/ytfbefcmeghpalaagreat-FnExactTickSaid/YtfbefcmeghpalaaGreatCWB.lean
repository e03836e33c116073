/- Contracts of functions of the program. No conditions beyond those that each states. -/
import Derived.Test.YtfbefcmeghpalaaGreatCWA
set_option linter.all false
set_option maxHeartbeats 8000000
set_option maxRecDepth 10000
namespace Go.Proofs.YtfbefcmeghpalaaGreat.VM
open Go Go.RowKit Go.Proofs
theorem l7ProcT_con (u : DUnix) (e : DEff) (hS : Shp u) (hk : e.Kind = 3) : Con Tryz.prog 146 [.g [.v (iv u.Next), .v (iv u.Tick), .h base [], .h (base + 1) [], .h (base + 2) [], .h (base + 3) [], .h (base + 4) [], .h (base + 5) [], .h (base + 6) []], .g [.v (iv e.Kind), .v (iv e.A), .v (iv e.B), .v (iv e.C), .h (base + 7) []]] [.rt base .row (tr u.Progs), .rt (base + 1) .row (tr u.Procs), .rt (base + 2) .row (tr u.Opens), .rt (base + 3) .row (tr u.Pipes), .rt (base + 4) .row (tr u.Files), .rt (base + 5) .row (tr u.Ready), .rt (base + 6) .row (tr u.Out), .rt (base + 7) .ro (tr e.L)] (RetW (.t [.g [.v (iv (applyT u e).1.Next), .v (iv (applyT u e).1.Tick), .h 0 [], .h 1 [], .h 2 [], .h 3 [], .h 4 [], .h 5 [], .h 6 []], .v (.bool (applyT u e).2)]) [(0, .row, tr (applyT u e).1.Progs), (1, .row, tr (applyT u e).1.Procs), (2, .row, tr (applyT u e).1.Opens), (3, .row, tr (applyT u e).1.Pipes), (4, .row, tr (applyT u e).1.Files), (5, .row, tr (applyT u e).1.Ready), (6, .row, tr (applyT u e).1.Out)] [(base, .j), ((base + 1), .j), ((base + 2), .j), ((base + 3), .j), ((base + 4), .j), ((base + 5), .j), ((base + 6), .j)]) := by
 refine ob Tryz.func146 Tryz.ntmps146 ?_
 have hpb := ixOf_bd (fun p : DProc => p.Pid == e.A) u.Procs
 have hpb2 : procAt u e.A < u.Procs.length := hpb.2
 refine AW.movR base 2000 rfl rfl (by decide) rfl ?_
 refine AW.movR (base + 1) 2001 rfl rfl (by decide) rfl ?_
 refine AW.movR (base + 2) 2002 rfl rfl (by decide) rfl ?_
 refine AW.movR (base + 3) 2003 rfl rfl (by decide) rfl ?_
 refine AW.movR (base + 4) 2004 rfl rfl (by decide) rfl ?_
 refine AW.movR (base + 5) 2005 rfl rfl (by decide) rfl ?_
 refine AW.movR (base + 6) 2006 rfl rfl (by decide) rfl ?_
 refine sr ?_
 refine bx ?_
 refine nm ?_
 refine bx ?_
 refine nm ?_
 refine sp sA ?_
 refine nm ?_
 refine qs' ?_
 refine qG ag31 sz31 ?_
 refine qq (fA fl49_1) ?_
 refine nm ?_
 refine ql ag3 ?_
 refine cv Tryz.call204 rfl rfl (l6Proc_con u _) ?_
 refine nm ?_
 refine qn ?_
 refine sr2 ?_
 refine qm ?_
 refine qb ?_
 refine nc (fun c1 => ?_) fun c1 => ?_
 ·try simp only [cnd] at c1
  refine sr ?_
  refine qG ag31 sz31 ?_
  refine nm ?_
  refine ss ?_
  refine nm ?_
  refine qn ?_
  refine AW.ret (endQ_ret (.cons (.cellG 4 31 rfl rfl rfl ag31 sz31 (by decide)) (.cons (.tmp 5) .nil)) ?_)
  rw [show applyT u e = (u, false) from by simp only [applyT]; grind only]
  refine ⟨fun n => if n = 0 then 2000 else if n = 1 then 2001 else if n = 2 then 2002 else if n = 3 then 2003 else if n = 4 then 2004 else if n = 5 then 2005 else if n = 6 then 2006 else n, rfl, (fun n hn => by simp only [base] at hn; dsimp only; repeat (rw [if_neg (by omega)])), nodup_of rfl, (fun r hr => by simp only [List.mem_cons, List.not_mem_nil, or_false] at hr; rcases hr with rfl | rfl | rfl | rfl | rfl | rfl | rfl <;> exact ⟨by simp, rootL_mem rfl, of_decide_eq_true rfl⟩), ?_⟩
  intro p hp
  simp only [List.mem_cons, List.not_mem_nil, or_false] at hp
  rcases hp with rfl | rfl | rfl | rfl | rfl | rfl | rfl <;> exact rootL_mem rfl
 try simp only [cnd] at c1
 refine jd (sr ?_)
 refine qq (fA fl31_3) ?_
 refine ql ag25 ?_
 refine nm ?_
 refine qm ?_
 refine qq (ix sl25 sz72) ?_
 refine qG ag72 sz72 ?_
 refine nm ?_
 refine sp sA ?_
 refine nm ?_
 refine ss ?_
 refine nl ?_
 refine sr2 ?_
 refine qq (fA fl49_0) ?_
 refine nm ?_
 refine ql ag3 ?_
 refine nl ?_
 refine AW.block (sr ?_)
 refine qb ?_
 refine qn ?_
 refine AW.cond rfl (fun c2 => (by exfalso; first | (cases c2; done) | (simp at c2; done) | (simp only [cnd] at c2; omega))) (fun c2 => ?_)
 try simp only [cnd] at c2
 refine sr ?_
 refine qb ?_
 refine nm ?_
 refine qn ?_
 refine AW.cond rfl (fun c3 => (by exfalso; first | (cases c3; done) | (simp at c3; done) | (simp only [cnd] at c3; omega))) (fun c3 => ?_)
 try simp only [cnd] at c3
 refine sr ?_
 refine qb ?_
 refine qn ?_
 refine AW.cond rfl (fun c4 => ?_) (fun c4 => (by exfalso; first | (cases c4; done) | (simp at c4; done) | (simp only [cnd] at c4; omega)))
 try simp only [cnd] at c4
 refine sr ?_
 refine qq (fA fl31_3) ?_
 refine nm ?_
 refine ql ag25 ?_
 refine qm ?_
 refine qq (fA fl49_2) ?_
 refine nm ?_
 refine ql ag3 ?_
 refine qq (ix sl25 sz72) ?_
 refine qq (fA fl72_2) ?_
 refine nm ?_
 refine ss ?_
 refine nl ?_
 refine AW.region ?_
 refine qq (fA fl31_3) ?_
 refine nm ?_
 refine ql ag25 ?_
 refine qm ?_
 refine qq (fA fl49_3) ?_
 refine nm ?_
 refine ql ag3 ?_
 refine qq (ix sl25 sz72) ?_
 refine qq (fA fl72_7) ?_
 refine nm ?_
 refine ss ?_
 refine ns ?_
 refine qG ag31 sz31 ?_
 refine nm ?_
 refine ss ?_
 refine nm ?_
 refine qn ?_
 refine AW.rep 2001 (tr (stateF u (procAt u e.A).toNat e).Procs) rfl (set_sim (α := DProc) (l := u.Procs) (i := (procAt u e.A).toNat) (a := { u.Procs.getD (procAt u e.A).toNat En.dflt with State := e.B, Until := e.C }) (fun k c hk => by simp only [upd_app, hk, false_and, if_false]; rfl) (fun c hc => match c, hc with | 0, _ => (by simp only [upd_app, eq_self, and_true, and_false, Nat.reduceEqDiff, if_true, if_false]; exact T.sim_refl _) | 1, _ => (by simp only [upd_app, eq_self, and_true, and_false, Nat.reduceEqDiff, if_true, if_false]; exact T.sim_refl _) | 2, _ => (by simp only [upd_app, eq_self, and_true, and_false, Nat.reduceEqDiff, if_true, if_false]; exact T.sim_refl _) | 3, _ => (by simp only [upd_app, eq_self, and_true, and_false, Nat.reduceEqDiff, if_true, if_false]; exact T.sim_refl _) | 4, _ => (by simp only [upd_app, eq_self, and_true, and_false, Nat.reduceEqDiff, if_true, if_false]; exact T.sim_refl _) | 5, _ => (by simp only [upd_app, eq_self, and_true, and_false, Nat.reduceEqDiff, if_true, if_false]; exact T.sim_refl _) | 6, _ => (by simp only [upd_app, eq_self, and_true, and_false, Nat.reduceEqDiff, if_true, if_false]; exact T.sim_refl _) | 7, _ => (by simp only [upd_app, eq_self, and_true, and_false, Nat.reduceEqDiff, if_true, if_false]; exact T.sim_refl _) | 8, _ => (by simp only [upd_app, eq_self, and_true, and_false, Nat.reduceEqDiff, if_true, if_false]; exact T.sim_refl _) | 9, _ => (by simp only [upd_app, eq_self, and_true, and_false, Nat.reduceEqDiff, if_true, if_false]; exact T.sim_refl _) | c + 10, hc => absurd hc (by simp only [En.n]; omega))) ?_
 refine AW.ret (endQ_ret (.cons (.cellG 4 31 rfl rfl rfl ag31 sz31 (by decide)) (.cons (.tmp 5) .nil)) ?_)
 rw [show applyT u e = (stateF u (procAt u e.A).toNat e, true) from by simp only [applyT]; grind only]
 refine ⟨fun n => if n = 0 then 2000 else if n = 1 then 2001 else if n = 2 then 2002 else if n = 3 then 2003 else if n = 4 then 2004 else if n = 5 then 2005 else if n = 6 then 2006 else n, rfl, (fun n hn => by simp only [base] at hn; dsimp only; repeat (rw [if_neg (by omega)])), nodup_of rfl, (fun r hr => by simp only [List.mem_cons, List.not_mem_nil, or_false] at hr; rcases hr with rfl | rfl | rfl | rfl | rfl | rfl | rfl <;> exact ⟨by simp, rootL_mem rfl, of_decide_eq_true rfl⟩), ?_⟩
 intro p hp
 simp only [List.mem_cons, List.not_mem_nil, or_false] at hp
 rcases hp with rfl | rfl | rfl | rfl | rfl | rfl | rfl <;> exact rootL_mem rfl
theorem l8E_con (ek ea eb ec : Int) : Con Tryz.prog 179 [.v (iv ek), .v (iv ea), .v (iv eb), .v (iv ec)] [] (Ret (.g [.v (iv ek), .v (iv ea), .v (iv eb), .v (iv ec), .h 0 []]) [(0, .row, tr (eK ek ea eb ec).L)]) := by
 refine ob Tryz.func179 Tryz.ntmps179 ?_
 refine sr ?_
 refine sp sA ?_
 refine ns ?_
 refine mn ?_
 refine qm ?_
 refine qm ?_
 refine mn ?_
 refine qq (Qt.build rfl) ?_
 refine ss ?_
 refine nl ?_
 refine AW.weak (Weak.hoist 8 4 900 rfl (by decide) rfl rfl rfl) ?_
 refine AW.rep 900 (tr (eK ek ea eb ec).L) rfl sim_nil ?_
 refine AW.ret (endQ_ret (.cons (.cellG 8 49 rfl rfl rfl ag49 sz49 (by decide)) .nil) ?_)
 refine ⟨fun _ => 900, rfl, nodup_of rfl, ?_⟩
 intro r hr
 cases List.mem_singleton.1 hr
 exact ⟨by simp, rootL_mem rfl⟩
theorem l7ApplyT_con (u : DUnix) (e : DEff) (hS : Shp u) (hk : e.Kind = 3 ∨ e.Kind = 21 ∨ e.Kind = 22 ∨ e.Kind = 24) : Con Tryz.prog 67 [.g [.v (iv u.Next), .v (iv u.Tick), .h base [], .h (base + 1) [], .h (base + 2) [], .h (base + 3) [], .h (base + 4) [], .h (base + 5) [], .h (base + 6) []], .g [.v (iv e.Kind), .v (iv e.A), .v (iv e.B), .v (iv e.C), .h (base + 7) []]] [.rt base .row (tr u.Progs), .rt (base + 1) .row (tr u.Procs), .rt (base + 2) .row (tr u.Opens), .rt (base + 3) .row (tr u.Pipes), .rt (base + 4) .row (tr u.Files), .rt (base + 5) .row (tr u.Ready), .rt (base + 6) .row (tr u.Out), .rt (base + 7) .ro (tr e.L)] (RetW (.t [.g [.v (iv (applyT u e).1.Next), .v (iv (applyT u e).1.Tick), .h 0 [], .h 1 [], .h 2 [], .h 3 [], .h 4 [], .h 5 [], .h 6 []], .v (.bool (applyT u e).2)]) [(0, .row, tr (applyT u e).1.Progs), (1, .row, tr (applyT u e).1.Procs), (2, .row, tr (applyT u e).1.Opens), (3, .row, tr (applyT u e).1.Pipes), (4, .row, tr (applyT u e).1.Files), (5, .row, tr (applyT u e).1.Ready), (6, .row, tr (applyT u e).1.Out)] [(base, .j), ((base + 1), .j), ((base + 2), .j), ((base + 3), .j), ((base + 4), .j), ((base + 5), .j), ((base + 6), .j)]) := by
 refine ob Tryz.func67 Tryz.ntmps67 ?_
 refine AW.movR base 2000 rfl rfl (by decide) rfl ?_
 refine AW.movR (base + 1) 2001 rfl rfl (by decide) rfl ?_
 refine AW.movR (base + 2) 2002 rfl rfl (by decide) rfl ?_
 refine AW.movR (base + 3) 2003 rfl rfl (by decide) rfl ?_
 refine AW.movR (base + 4) 2004 rfl rfl (by decide) rfl ?_
 refine AW.movR (base + 5) 2005 rfl rfl (by decide) rfl ?_
 refine AW.movR (base + 6) 2006 rfl rfl (by decide) rfl ?_
 refine sr ?_
 refine bx ?_
 refine nm ?_
 refine bx ?_
 refine nm ?_
 refine sp sA ?_
 refine nm ?_
 refine qn ?_
 refine AW.seq (AW.block (sr ?_))
 refine qq (fA fl49_0) ?_
 refine ql ag3 ?_
 refine nm ?_
 refine qb ?_
 refine qn ?_
 refine AW.cond rfl (fun c1 => (by exfalso; first | (cases c1; done) | (simp at c1; done) | (simp only [cnd] at c1; omega))) (fun c1 => ?_)
 try simp only [cnd] at c1
 refine sr ?_
 refine qq (fA fl49_0) ?_
 refine nm ?_
 refine ql ag3 ?_
 refine cv Tryz.call131 rfl rfl (l1In_con _ _ _) ?_
 refine nm ?_
 refine qm ?_
 apply AWL.cut 3
 ·intro Kg2
  refine AWL.splitF 19 rfl (fun g2 => ?_) (fun g2 => ?_)
  ·have eg2 := g2
   try simp only [cnd] at eg2
   refine qg (nF g2) (fA fl49_0) ?_
   refine qg (nF g2) (Qt.load1 rfl rfl rfl ag3) ?_
   refine nm ?_
   refine AWL.step rfl (nF g2) (Stp.callV rfl (by decide) Tryz.call131 rfl rfl (l1In_con _ _ _)) ?_
   refine nm ?_
   exact wj 22 [20, 21, 22] (ifF g2 _ undef) (by simp only [go_sem, reduceIte, Nat.reduceEqDiff, Nat.reduceBEq, reduceCtorEq]; rfl) Kg2
  ·refine og (nT g2) ?_
   refine og (nT g2) ?_
   refine og (nT g2) ?_
   exact wj 22 [20, 21, 22] (ifT g2 undef _) (by simp only [go_sem, reduceIte, Nat.reduceEqDiff, Nat.reduceBEq, reduceCtorEq]) Kg2
 refine qq (Qt.pickOr rfl rfl rfl) ?_
 refine qn ?_
 refine cd (fun c3 => ?_) fun c3 => ?_
 ·try simp only [cnd] at c3
  refine sr ?_
  refine qG ag31 sz31 ?_
  refine nm ?_
  refine qG ag49 sz49 ?_
  refine sp (Stp.callH rfl (by decide) Tryz.call146 rfl (l7ProcT_con u e hS (by omega)) rfl rfl rfl (nodup_of rfl) rfl rfl) ?_
  refine nm ?_
  refine qq (Qt.extract rfl (of_decide_eq_true rfl)) ?_
  refine qq (Qt.extract rfl (of_decide_eq_true rfl)) ?_
  refine ss ?_
  refine nm ?_
  refine qn ?_
  refine AW.ret (endQ_ret (.cons (.cellG 4 31 rfl rfl rfl ag31 sz31 (by decide)) (.cons (.tmp 5) .nil)) ?_)
  refine ⟨fun n => if n = 0 then 26 else if n = 1 then 1026 else if n = 2 then 2026 else if n = 3 then 3026 else if n = 4 then 4026 else if n = 5 then 5026 else if n = 6 then 6026 else n, rfl, (fun n hn => by simp only [base] at hn; dsimp only; repeat (rw [if_neg (by omega)])), nodup_of rfl, (fun r hr => by simp only [List.mem_cons, List.not_mem_nil, or_false] at hr; rcases hr with rfl | rfl | rfl | rfl | rfl | rfl | rfl <;> exact ⟨by simp, rootL_mem rfl, of_decide_eq_true rfl⟩), ?_⟩
  intro p hp
  simp only [List.mem_cons, List.not_mem_nil, or_false] at hp
  rcases hp with rfl | rfl | rfl | rfl | rfl | rfl | rfl <;> exact rootL_mem rfl
 try simp only [cnd] at c3
 refine sr ?_
 refine qq (fA fl49_0) ?_
 refine ql ag3 ?_
 refine nm ?_
 refine cv Tryz.call131 rfl rfl (l1In_con _ _ _) ?_
 refine nm ?_
 refine qn ?_
 refine AW.cond rfl (fun c4 => (by exfalso; first | (cases c4; done) | (simp at c4; done) | (simp only [cnd] at c4; omega))) (fun c4 => ?_)
 try simp only [cnd] at c4
 refine sr ?_
 refine qq (fA fl49_0) ?_
 refine ql ag3 ?_
 refine nm ?_
 refine cv Tryz.call131 rfl rfl (l1In_con _ _ _) ?_
 refine nm ?_
 refine qn ?_
 refine AW.cond rfl (fun c5 => (by exfalso; first | (cases c5; done) | (simp at c5; done) | (simp only [cnd] at c5; omega))) (fun c5 => ?_)
 try simp only [cnd] at c5
 refine sr ?_
 refine qq (fA fl49_0) ?_
 refine ql ag3 ?_
 refine nm ?_
 refine cv Tryz.call131 rfl rfl (l1In_con _ _ _) ?_
 refine nm ?_
 refine qn ?_
 refine AW.cond rfl (fun c6 => (by exfalso; first | (cases c6; done) | (simp at c6; done) | (simp only [cnd] at c6; omega))) (fun c6 => ?_)
 try simp only [cnd] at c6
 refine jd (sr ?_)
 refine qG ag31 sz31 ?_
 refine qG ag49 sz49 ?_
 refine nm ?_
 refine sp (Stp.callH rfl (by decide) Tryz.call150 rfl (l7Rest_con u e hS) rfl rfl rfl (nodup_of rfl) rfl rfl) ?_
 refine nm ?_
 refine qq (Qt.extract rfl (of_decide_eq_true rfl)) ?_
 refine qq (Qt.extract rfl (of_decide_eq_true rfl)) ?_
 refine ss ?_
 refine nm ?_
 refine qn ?_
 refine AW.ret (endQ_ret (.cons (.cellG 4 31 rfl rfl rfl ag31 sz31 (by decide)) (.cons (.tmp 5) .nil)) ?_)
 rw [show applyT u e = restF u e from by simp only [applyT]; grind only]
 refine ⟨fun n => if n = 0 then 58 else if n = 1 then 1058 else if n = 2 then 2058 else if n = 3 then 3058 else if n = 4 then 4058 else if n = 5 then 5058 else if n = 6 then 6058 else n, rfl, (fun n hn => by simp only [base] at hn; dsimp only; repeat (rw [if_neg (by omega)])), nodup_of rfl, (fun r hr => by simp only [List.mem_cons, List.not_mem_nil, or_false] at hr; rcases hr with rfl | rfl | rfl | rfl | rfl | rfl | rfl <;> exact ⟨by simp, rootL_mem rfl, of_decide_eq_true rfl⟩), ?_⟩
 intro p hp
 simp only [List.mem_cons, List.not_mem_nil, or_false] at hp
 rcases hp with rfl | rfl | rfl | rfl | rfl | rfl | rfl <;> exact rootL_mem rfl
end Go.Proofs.YtfbefcmeghpalaaGreat.VM
