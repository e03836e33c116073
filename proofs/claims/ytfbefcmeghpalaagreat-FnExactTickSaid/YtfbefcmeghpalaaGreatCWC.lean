/- Contracts of functions of the program. No conditions beyond those that each states. -/
import Derived.Test.YtfbefcmeghpalaaGreatCWB
set_option linter.all false
set_option maxHeartbeats 8000000
set_option maxRecDepth 10000
namespace Go.Proofs.YtfbefcmeghpalaaGreat.VM
open Go Go.RowKit Go.Proofs
theorem l8DoT_con (u : DUnix) (l : List DEff) (e : DEff) (hS : Shp u) (hl : l.length ≤ 1000) (hk : e.Kind = 3 ∨ e.Kind = 21 ∨ e.Kind = 22 ∨ e.Kind = 24) : Con Tryz.prog 178 [.g [.v (iv u.Next), .v (iv u.Tick), .h base [], .h (base + 1) [], .h (base + 2) [], .h (base + 3) [], .h (base + 4) [], .h (base + 5) [], .h (base + 6) [], .h (base + 7) []], .g [.v (iv e.Kind), .v (iv e.A), .v (iv e.B), .v (iv e.C), .h (base + 8) []]] [.rt base .row (tr u.Progs), .rt (base + 1) .row (tr u.Procs), .rt (base + 2) .row (tr u.Opens), .rt (base + 3) .row (tr u.Pipes), .rt (base + 4) .row (tr u.Files), .rt (base + 5) .row (tr u.Ready), .rt (base + 6) .row (tr u.Out), .rt (base + 7) .row (tr l), .rt (base + 8) .row (tr e.L)] (RetW (.g [.v (iv (doT (u, l) e).1.Next), .v (iv (doT (u, l) e).1.Tick), .h 0 [], .h 1 [], .h 2 [], .h 3 [], .h 4 [], .h 5 [], .h 6 [], .h 7 []]) [(0, .row, tr (doT (u, l) e).1.Progs), (1, .row, tr (doT (u, l) e).1.Procs), (2, .row, tr (doT (u, l) e).1.Opens), (3, .row, tr (doT (u, l) e).1.Pipes), (4, .row, tr (doT (u, l) e).1.Files), (5, .row, tr (doT (u, l) e).1.Ready), (6, .row, tr (doT (u, l) e).1.Out), (7, .row, tr (doT (u, l) e).2)] [(base, .j), ((base + 1), .j), ((base + 2), .j), ((base + 3), .j), ((base + 4), .j), ((base + 5), .j), ((base + 6), .j), ((base + 7), .j), ((base + 8), .j)]) := by
 refine ob Tryz.func178 Tryz.ntmps178 ?_
 refine AW.movR base 2000 rfl rfl (by decide) rfl ?_
 refine AW.movR (base + 1) 2001 rfl rfl (by decide) rfl ?_
 refine AW.movR (base + 2) 2002 rfl rfl (by decide) rfl ?_
 refine AW.movR (base + 3) 2003 rfl rfl (by decide) rfl ?_
 refine AW.movR (base + 4) 2004 rfl rfl (by decide) rfl ?_
 refine AW.movR (base + 5) 2005 rfl rfl (by decide) rfl ?_
 refine AW.movR (base + 6) 2006 rfl rfl (by decide) rfl ?_
 refine AW.movR (base + 7) 2007 rfl rfl (by decide) rfl ?_
 refine AW.movR (base + 8) 2008 rfl rfl (by decide) rfl ?_
 refine sr ?_
 refine bx ?_
 refine nm ?_
 refine bx ?_
 refine nm ?_
 refine sp sA ?_
 refine ns ?_
 refine qq (fA fl112_0) ?_
 refine nm ?_
 refine qG ag31 sz31 ?_
 refine qG ag49 sz49 ?_
 refine sp (Stp.callH rfl (by decide) Tryz.call67 rfl (l7ApplyT_con u e hS hk) rfl rfl rfl (nodup_of rfl) rfl rfl) ?_
 refine nm ?_
 refine qm ?_
 refine qq (Qt.extract rfl (of_decide_eq_true rfl)) ?_
 refine qq (Qt.extract rfl (of_decide_eq_true rfl)) ?_
 refine nm ?_
 refine sp sA ?_
 refine nm ?_
 refine ss ?_
 refine nm ?_
 refine qn ?_
 refine AW.seq ?_
 refine AW.draw [0, 1, 2, 3, 6] rfl (by decide +kernel) ?_
 refine tk 0 rfl (Qt.loadG rfl rfl rfl ag31 sz31 (by decide)) ?_
 refine tk 1 rfl (fA fl112_1) ?_
 refine na ?_
 refine tk 2 rfl (Qt.load1 rfl rfl rfl ag59) ?_
 refine tk 3 rfl (Qt.loadG rfl rfl rfl ag49 sz49 (by decide)) ?_
 refine a1 4 [0, 1, 2] [3] rfl rfl sS ?_
 refine na ?_
 refine na ?_
 refine ae rfl (Qt.loadG rfl rfl rfl ag31 sz31 (by decide)) ?_
 refine na ?_
 refine ae rfl (fA fl112_1) ?_
 refine na ?_
 refine ae rfl (Qt.load1 rfl rfl rfl ag59) ?_
 refine na ?_
 refine AWA.rep 18 (tr [e]) rfl (row1_sim (α := DEff) (fun c hc => match c, hc with | 0, _ => rfl | 1, _ => rfl | 2, _ => rfl | 3, _ => rfl | 4, _ => T.sim_refl _ | c + 5, hc => absurd hc (by simp only [En.n]; omega))) ?_
 refine na ?_
 refine a1 5 [0] [4, 2, 3, 1] rfl rfl (Stp.appendM rfl (by decide) (by decide) rfl rfl rfl (by simp only [List.length_cons, List.length_nil]; omega)) ?_
 refine na ?_
 refine na ?_
 refine ae rfl (Qt.loadG rfl rfl rfl ag31 sz31 (by decide)) ?_
 refine na ?_
 refine AWA.rep 19 (tr (l ++ [e])) rfl (app_sim (l := l) (l' := [e]) rfl (fun _ _ _ _ => rfl) (fun _ _ _ _ => rfl)) ?_
 refine na ?_
 refine tk 6 rfl (Qt.build rfl) ?_
 refine a1 7 [] [6, 5, 4, 3, 2, 1, 0] rfl rfl (by first | exact Stp.storeA rfl rfl rfl rfl (by decide) rfl | exact Stp.store rfl rfl (by simp) rfl rfl rfl (by decide) rfl) ?_
 refine na ?_
 refine na ?_
 refine nz ?_
 refine AW.ret (endQ_ret (.cons (.cellG 4 112 rfl rfl rfl ag112 sz112 (by decide)) .nil) ?_)
 refine ⟨fun n => if n = 0 then 11 else if n = 1 then 1011 else if n = 2 then 2011 else if n = 3 then 3011 else if n = 4 then 4011 else if n = 5 then 5011 else if n = 6 then 6011 else if n = 7 then 19 else n, rfl, (fun n hn => by simp only [base] at hn; dsimp only; repeat (rw [if_neg (by omega)])), nodup_of rfl, (fun r hr => by simp only [List.mem_cons, List.not_mem_nil, or_false] at hr; rcases hr with rfl | rfl | rfl | rfl | rfl | rfl | rfl | rfl <;> exact ⟨by simp, rootL_mem rfl, of_decide_eq_true rfl⟩), ?_⟩
 intro p hp
 simp only [List.mem_cons, List.not_mem_nil, or_false] at hp
 rcases hp with rfl | rfl | rfl | rfl | rfl | rfl | rfl | rfl | rfl <;> exact rootL_mem rfl
end Go.Proofs.YtfbefcmeghpalaaGreat.VM
