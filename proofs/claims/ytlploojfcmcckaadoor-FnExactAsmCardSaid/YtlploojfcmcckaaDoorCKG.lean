/- Contracts of functions of the program. No conditions beyond those that each states. -/
import Derived.Test.YtlploojfcmcckaaDoorCKF
set_option linter.all false
set_option maxHeartbeats 8000000
set_option maxRecDepth 10000
namespace Go.Proofs.YtlploojfcmcckaaDoor.VM
open Go Go.RowKit Go.Proofs
instance : Fl DIns := ⟨fun a c hc => by
 match c, hc with
 | 0, _ => rfl
 | 1, _ => rfl
 | 2, _ => rfl
 | 3, _ => rfl
 | c + 4, h => exact absurd h (by simp only [En.n]; omega)⟩
theorem AsmS_con (s : ByteArray) (hs : s.size ≤ 1048576) : Con Tryd.prog 27 [.v (.string s)] [] (Ret (.t [.h 0 [], .v (iv (asmR s).2)]) [(0, .row, tr (asmR s).1)]) := by
 refine ob Tryd.func27 Tryd.ntmps27 ?_
 have hll := lines_len s
 refine sr ?_
 refine qa ?_
 refine qs' ?_
 refine sp sS ?_
 refine nm ?_
 refine qs' ?_
 refine qm ?_
 refine sp (Stp.callR rfl (by decide) Tryd.call48 rfl rfl (l4Lines_con s hs) (nodup_of rfl) rfl rfl) ?_
 refine nm ?_
 refine qn ?_
 refine sr2 ?_
 refine qn ?_
 refine AW.block ?_
 refine AW.weak (L' := [.sl 6 (.v (iv (0 : Nat))), .sl 5 (.h 11 []), .rt 11 .row (tr (linesS s)), .sl 4 (.h 9 []), .rt 9 .row (tr ([] : List DIns))]) (Weak.sim ⟨rfl, rfl, Rf rfl, rfl, ⟨_, rfl, sim_nil⟩, trivial⟩ rfl rfl) ?_
 refine AW.loop (fun i : AsmI (linesS s) => [.sl 6 (.v (iv i.k)), .sl 5 (.h 11 []), .rt 11 .row (tr (linesS s)), .sl 4 (.h 9 []), .rt 9 .row (tr i.out)]) (fun i => (linesS s).length - i.k) ⟨0, Nat.zero_le _, [], Nat.zero_le _, rfl⟩ ?_
 intro i
 have hle := i.le
 have hol := i.len
 refine sr2 ?_
 refine mn ?_
 refine qm ?_
 refine qh sl49 ?_
 refine qb ?_
 refine nc (fun c1 => ?_) fun c1 => ?_
 ·try simp only [cnd] at c1
  have hlt : i.k < (linesS s).length := by omega
  refine jd (AW.seq (AW.block (sr2 ?_)))
  refine mn ?_
  refine qm ?_
  refine qq (ix sl49 sz9) ?_
  refine ql ag9 ?_
  refine nm ?_
  refine qb ?_
  refine nc (fun c2 => ?_) fun c2 => ?_
  ·try simp only [cnd] at c2
   have he : ((linesS s).getD i.k En.dflt) = ⟨#[]⟩ := by rw [baD, decide_eq_true_eq] at c2; exact c2
   refine AW.exit ?_
   dsimp only [thenQ, blockQ, reduceIte]
   refine AW.region ?_
   refine qm ?_
   refine ba ?_
   refine nm ?_
   refine qn ?_
   refine ⟨⟨i.k + 1, by omega, i.out, i.len, i.skip hlt he⟩, Weak.sim ⟨rfl, rfl, Rf rfl, rfl, Rf rfl, trivial⟩ rfl rfl, ?_⟩
   show (linesS s).length - (i.k + 1) < (linesS s).length - i.k
   omega
  try simp only [cnd] at c2
  have hne : ¬ ((linesS s).getD i.k En.dflt) = ⟨#[]⟩ := by rw [baD, decide_eq_false_iff_not] at c2; exact c2
  refine jd (sr ?_)
  refine qm ?_
  refine mn ?_
  refine qq (ix sl49 sz9) ?_
  refine ql ag9 ?_
  refine sp (Stp.callR rfl (by decide) Tryd.call49 rfl rfl (l4Line_con _ (Nat.le_trans (lines_size s _) hs)) (nodup_of rfl) rfl rfl) ?_
  refine nm ?_
  refine qm ?_
  refine qq (Qt.extract rfl (of_decide_eq_true rfl)) ?_
  refine qq (Qt.extract rfl (of_decide_eq_true rfl)) ?_
  refine nm ?_
  refine sp sA ?_
  refine nm ?_
  refine ss ?_
  refine nm ?_
  refine qn ?_
  refine sr2 ?_
  refine qm ?_
  refine qq (Qt.notB rfl) ?_
  refine nm ?_
  refine qm ?_
  apply AWL.cut 3
  ·intro Kg3
   refine AWL.splitF 33 rfl (fun g3 => ?_) (fun g3 => ?_)
   ·refine qg (nF g3) Qt.move ?_
    refine qg (nF g3) (Qt.lenH rfl rfl rfl sl27) ?_
    refine nm ?_
    refine qg (nF g3) (Qt.binOp rfl rfl rfl) ?_
    exact wj 36 [34, 35, 36] (ifF g3 _ undef) (by simp only [go_sem, reduceIte, Nat.reduceEqDiff, Nat.reduceBEq, reduceCtorEq]; rfl) Kg3
   ·refine og (nT g3) ?_
    refine og (nT g3) ?_
    refine og (nT g3) ?_
    exact wj 36 [34, 35, 36] (ifT g3 undef _) (by simp only [go_sem, reduceIte, Nat.reduceEqDiff, Nat.reduceBEq, reduceCtorEq]) Kg3
  refine qq (Qt.pickOr rfl rfl rfl) ?_
  refine nc (fun c4 => ?_) fun c4 => ?_
  ·try simp only [cnd] at c4
   refine sr ?_
   refine sp sS ?_
   refine AWL.rep 38 (tr ([] : List DIns)) rfl sim_nil ?_
   refine nm ?_
   refine qm ?_
   refine ba ?_
   refine qa ?_
   refine nm ?_
   refine qn ?_
   refine AW.ret (endQ_ret (.cons (.tmp 2) (.cons (.tmp 3) .nil)) ?_)
   rw [show asmR s = ([], (i.k : Int) + 1) from i.bad hlt hne (by grind only)]
   refine ⟨fun _ => 38, rfl, nodup_of rfl, ?_⟩
   intro r hr
   cases List.mem_singleton.1 hr
   exact ⟨by simp, rootL_mem rfl⟩
  try simp only [cnd] at c4
  refine jd (AW.region ?_)
  refine qm ?_
  refine qG ag53 sz53 ?_
  refine nm ?_
  refine sp sS ?_
  refine nm ?_
  refine sp (by first | exact Stp.appendC rfl (by decide) (by decide) rfl rfl (by omega) | exact Stp.appendM rfl (by decide) (by decide) rfl rfl rfl (by omega)) ?_
  refine nm ?_
  refine AWL.rep 44 (tr (i.out ++ [(lineR ((linesS s).getD i.k En.dflt)).1])) rfl (app_one (α := DIns) (a := (lineR ((linesS s).getD i.k En.dflt)).1) (fun c hc => match c, hc with | 0, _ => rfl | 1, _ => rfl | 2, _ => rfl | 3, _ => rfl | c + 4, hc => absurd hc (by simp only [En.n]; omega))) ?_
  refine nm ?_
  refine qn ?_
  refine AW.region ?_
  refine qm ?_
  refine ba ?_
  refine nm ?_
  refine qn ?_
  refine ⟨⟨i.k + 1, by omega, i.out ++ [(lineR ((linesS s).getD i.k En.dflt)).1], by simp; omega, i.next hlt hne (by grind only) (by omega)⟩, Weak.trans (Weak.renR (a := 44) (b := 9) rfl (by decide) (by decide)) (Weak.sim ⟨rfl, rfl, Rf rfl, rfl, Rf rfl, trivial⟩ rfl rfl), ?_⟩
  show (linesS s).length - (i.k + 1) < (linesS s).length - i.k
  omega
 try simp only [cnd] at c1
 have hf := i.full (by omega)
 refine AW.exit ?_
 dsimp only [thenQ, blockQ, reduceIte]
 refine sr ?_
 refine qm ?_
 refine qa ?_
 refine nm ?_
 refine qn ?_
 refine AW.ret (endQ_ret (.cons (.tmp 2) (.cons (.tmp 3) .nil)) ?_)
 rw [show asmR s = (i.out, 0) from hf]
 refine ⟨fun _ => 9, rfl, nodup_of rfl, ?_⟩
 intro r hr
 cases List.mem_singleton.1 hr
 exact ⟨by simp, rootL_mem rfl⟩
theorem AsmI_con (s : ByteArray) (hs : s.size ≤ 1048576) : Con Tryd.prog 28 [.v (.string s)] [] (Ret (.t [.h 0 [], .v (iv (asmR s).2)]) [(0, .row, tr (asmR s).1)]) := by
 refine ob Tryd.func28 Tryd.ntmps28 ?_
 have hll := lines_len s
 refine sr ?_
 refine qa ?_
 refine qs' ?_
 refine sp sS ?_
 refine nm ?_
 refine qn ?_
 refine sr2 ?_
 refine qm ?_
 refine sp (Stp.callR rfl (by decide) Tryd.call50 rfl rfl (linesOf_con s hs) (nodup_of rfl) rfl rfl) ?_
 refine nm ?_
 refine qh sl49 ?_
 refine qm ?_
 refine nl ?_
 refine AW.block ?_
 refine AW.weak (L' := [.sl 13 (.v (iv (0 : Nat))), .sl 12 (.v (iv (linesS s).length)), .sl 11 (.h 11 []), .rt 11 .row (tr (linesS s)), .sl 4 (.h 9 []), .rt 9 .row (tr ([] : List DIns))]) (Weak.sim ⟨rfl, rfl, rfl, Rf rfl, rfl, ⟨_, rfl, sim_nil⟩, trivial⟩ rfl rfl) ?_
 refine AW.loop (fun i : AsmI (linesS s) => [.sl 13 (.v (iv i.k)), .sl 12 (.v (iv (linesS s).length)), .sl 11 (.h 11 []), .rt 11 .row (tr (linesS s)), .sl 4 (.h 9 []), .rt 9 .row (tr i.out)]) (fun i => (linesS s).length - i.k) ⟨0, Nat.zero_le _, [], Nat.zero_le _, rfl⟩ ?_
 intro i
 have hle := i.le
 have hol := i.len
 refine sr ?_
 refine qb ?_
 refine nl ?_
 refine AW.seq ?_
 refine cd (fun c1 => ?_) fun c1 => ?_
 ·try simp only [cnd] at c1
  have hlt : i.k < (linesS s).length := by omega
  refine jd (AW.seq (AW.block (sr ?_)))
  refine mn ?_
  refine qq (ix sl49 sz9) ?_
  refine ql ag9 ?_
  refine qa ?_
  refine nm ?_
  refine qn ?_
  refine sr2 ?_
  refine qm ?_
  refine qb ?_
  refine nc (fun c2 => ?_) fun c2 => ?_
  ·try simp only [cnd] at c2
   have he : ((linesS s).getD i.k En.dflt) = ⟨#[]⟩ := by rw [baD, decide_eq_true_eq] at c2; exact c2
   refine AW.exit ?_
   dsimp only [thenQ, blockQ, reduceIte]
   refine AW.region ?_
   refine ba ?_
   refine nm ?_
   refine qm ?_
   refine nl ?_
   refine ⟨⟨i.k + 1, by omega, i.out, i.len, i.skip hlt he⟩, Weak.sim ⟨rfl, rfl, rfl, Rf rfl, rfl, Rf rfl, trivial⟩ rfl rfl, ?_⟩
   show (linesS s).length - (i.k + 1) < (linesS s).length - i.k
   omega
  try simp only [cnd] at c2
  have hne : ¬ ((linesS s).getD i.k En.dflt) = ⟨#[]⟩ := by rw [baD, decide_eq_false_iff_not] at c2; exact c2
  refine jd (sr ?_)
  refine qm ?_
  refine sp (Stp.callR rfl (by decide) Tryd.call51 rfl rfl (readIns_con _ (Nat.le_trans (lines_size s _) hs)) (nodup_of rfl) rfl rfl) ?_
  refine nm ?_
  refine qm ?_
  refine qq (Qt.extract rfl (of_decide_eq_true rfl)) ?_
  refine qq (Qt.extract rfl (of_decide_eq_true rfl)) ?_
  refine nm ?_
  refine sp sA ?_
  refine nm ?_
  refine ss ?_
  refine nm ?_
  refine qn ?_
  refine sr2 ?_
  refine qm ?_
  refine qq (Qt.notB rfl) ?_
  refine nm ?_
  refine qm ?_
  apply AWL.cut 3
  ·intro Kg3
   refine AWL.splitF 27 rfl (fun g3 => ?_) (fun g3 => ?_)
   ·refine qg (nF g3) Qt.move ?_
    refine qg (nF g3) (Qt.lenH rfl rfl rfl sl27) ?_
    refine nm ?_
    refine qg (nF g3) (Qt.binOp rfl rfl rfl) ?_
    exact wj 30 [28, 29, 30] (ifF g3 _ undef) (by simp only [go_sem, reduceIte, Nat.reduceEqDiff, Nat.reduceBEq, reduceCtorEq]; rfl) Kg3
   ·refine og (nT g3) ?_
    refine og (nT g3) ?_
    refine og (nT g3) ?_
    exact wj 30 [28, 29, 30] (ifT g3 undef _) (by simp only [go_sem, reduceIte, Nat.reduceEqDiff, Nat.reduceBEq, reduceCtorEq]) Kg3
  refine qq (Qt.pickOr rfl rfl rfl) ?_
  refine nc (fun c4 => ?_) fun c4 => ?_
  ·try simp only [cnd] at c4
   refine sr ?_
   refine mn ?_
   refine ba ?_
   refine qa ?_
   refine qn ?_
   refine AW.nilRow 2 900 4 (by omega) rfl rfl (by decide) ?_
   refine AW.rep 900 (tr ([] : List DIns)) rfl sim_nil ?_
   refine AW.ret (endQ_ret (.cons (.tmp 2) (.cons (.tmp 3) .nil)) ?_)
   rw [show asmR s = ([], (i.k : Int) + 1) from i.bad hlt hne (by grind only)]
   refine ⟨fun _ => 900, rfl, nodup_of rfl, ?_⟩
   intro r hr
   cases List.mem_singleton.1 hr
   exact ⟨by simp, rootL_mem rfl⟩
  try simp only [cnd] at c4
  refine jd (AW.region ?_)
  refine mn ?_
  refine qG ag53 sz53 ?_
  refine sp sS ?_
  refine nm ?_
  refine sp (by first | exact Stp.appendC rfl (by decide) (by decide) rfl rfl (by omega) | exact Stp.appendM rfl (by decide) (by decide) rfl rfl rfl (by omega)) ?_
  refine nm ?_
  refine AWL.rep 37 (tr (i.out ++ [(lineR ((linesS s).getD i.k En.dflt)).1])) rfl (app_one (α := DIns) (a := (lineR ((linesS s).getD i.k En.dflt)).1) (fun c hc => match c, hc with | 0, _ => rfl | 1, _ => rfl | 2, _ => rfl | 3, _ => rfl | c + 4, hc => absurd hc (by simp only [En.n]; omega))) ?_
  refine nm ?_
  refine qn ?_
  refine AW.region ?_
  refine ba ?_
  refine qm ?_
  refine nl ?_
  refine ⟨⟨i.k + 1, by omega, i.out ++ [(lineR ((linesS s).getD i.k En.dflt)).1], by simp; omega, i.next hlt hne (by grind only) (by omega)⟩, Weak.trans (Weak.renR (a := 37) (b := 9) rfl (by decide) (by decide)) (Weak.sim ⟨rfl, rfl, rfl, Rf rfl, rfl, Rf rfl, trivial⟩ rfl rfl), ?_⟩
  show (linesS s).length - (i.k + 1) < (linesS s).length - i.k
  omega
 try simp only [cnd] at c1
 have hf := i.full (by omega)
 refine AW.exit ?_
 dsimp only [thenQ, blockQ, reduceIte]
 refine sr ?_
 refine mn ?_
 refine qa ?_
 refine qn ?_
 refine AW.ret (endQ_ret (.cons (.tmp 2) (.cons (.tmp 3) .nil)) ?_)
 rw [show asmR s = (i.out, 0) from hf]
 refine ⟨fun _ => 9, rfl, nodup_of rfl, ?_⟩
 intro r hr
 cases List.mem_singleton.1 hr
 exact ⟨by simp, rootL_mem rfl⟩
end Go.Proofs.YtlploojfcmcckaaDoor.VM
