/- Contracts of functions of the program. No conditions beyond those that each states. -/
import Derived.Test.YtfbefcmeghpalaaGreatCWC
set_option linter.all false
set_option maxHeartbeats 8000000
set_option maxRecDepth 10000
namespace Go.Proofs.YtfbefcmeghpalaaGreat.VM
open Go Go.RowKit Go.Proofs
theorem l8WakeT_con (u : DUnix) (l : List DEff) (pid : Int) (hS : Shp u) (hl : l.length ≤ 900) : Con Tryz.prog 180 [.g [.v (iv u.Next), .v (iv u.Tick), .h base [], .h (base + 1) [], .h (base + 2) [], .h (base + 3) [], .h (base + 4) [], .h (base + 5) [], .h (base + 6) [], .h (base + 7) []], .v (iv pid)] [.rt base .row (tr u.Progs), .rt (base + 1) .row (tr u.Procs), .rt (base + 2) .row (tr u.Opens), .rt (base + 3) .row (tr u.Pipes), .rt (base + 4) .row (tr u.Files), .rt (base + 5) .row (tr u.Ready), .rt (base + 6) .row (tr u.Out), .rt (base + 7) .row (tr l)] (RetW (.g [.v (iv (wakeT (u, l) pid).1.Next), .v (iv (wakeT (u, l) pid).1.Tick), .h 0 [], .h 1 [], .h 2 [], .h 3 [], .h 4 [], .h 5 [], .h 6 [], .h 7 []]) [(0, .row, tr (wakeT (u, l) pid).1.Progs), (1, .row, tr (wakeT (u, l) pid).1.Procs), (2, .row, tr (wakeT (u, l) pid).1.Opens), (3, .row, tr (wakeT (u, l) pid).1.Pipes), (4, .row, tr (wakeT (u, l) pid).1.Files), (5, .row, tr (wakeT (u, l) pid).1.Ready), (6, .row, tr (wakeT (u, l) pid).1.Out), (7, .row, tr (wakeT (u, l) pid).2)] [(base, .j), ((base + 1), .j), ((base + 2), .j), ((base + 3), .j), ((base + 4), .j), ((base + 5), .j), ((base + 6), .j), ((base + 7), .j)]) := by
 refine ob Tryz.func180 Tryz.ntmps180 ?_
 refine AW.movR base 2000 rfl rfl (by decide) rfl ?_
 refine AW.movR (base + 1) 2001 rfl rfl (by decide) rfl ?_
 refine AW.movR (base + 2) 2002 rfl rfl (by decide) rfl ?_
 refine AW.movR (base + 3) 2003 rfl rfl (by decide) rfl ?_
 refine AW.movR (base + 4) 2004 rfl rfl (by decide) rfl ?_
 refine AW.movR (base + 5) 2005 rfl rfl (by decide) rfl ?_
 refine AW.movR (base + 6) 2006 rfl rfl (by decide) rfl ?_
 refine AW.movR (base + 7) 2007 rfl rfl (by decide) rfl ?_
 refine sr ?_
 refine bx ?_
 refine nm ?_
 refine sp sA ?_
 refine nl ?_
 refine AW.seq ?_
 refine AW.draw [0, 1] rfl (by decide +kernel) ?_
 refine tk 0 rfl (Qt.loadG rfl rfl rfl ag112 sz112 (by decide)) ?_
 refine na ?_
 refine tk 1 rfl Qt.move ?_
 refine a1 2 [0] [1] rfl rfl (Stp.callR rfl (by decide) Tryz.call179 rfl rfl (l8E_con _ _ _ _) (nodup_of rfl) rfl rfl) ?_
 refine na ?_
 refine na ?_
 refine ae rfl (Qt.loadG rfl rfl rfl ag112 sz112 (by decide)) ?_
 refine na ?_
 refine a1 3 [] [2, 0, 1] rfl rfl (Stp.callH rfl (by decide) Tryz.call178 rfl (l8DoT_con u l (eK 3 pid 1 0) hS (by omega) (.inl rfl)) rfl rfl rfl (nodup_of rfl) rfl rfl) ?_
 refine na ?_
 refine na ?_
 refine a1 4 [] [3, 2, 1, 0] rfl rfl (by first | exact Stp.storeA rfl rfl rfl rfl (by decide) rfl | exact Stp.store rfl rfl (by simp) rfl rfl rfl (by decide) rfl) ?_
 refine na ?_
 refine na ?_
 refine nz ?_
 refine AW.seq ?_
 refine AW.draw [0, 1] rfl (by decide +kernel) ?_
 refine tk 0 rfl (Qt.loadG rfl rfl rfl ag112 sz112 (by decide)) ?_
 refine tk 1 rfl Qt.move ?_
 refine a1 2 [0] [1] rfl rfl (Stp.callR rfl (by decide) Tryz.call179 rfl rfl (l8E_con _ _ _ _) (nodup_of rfl) rfl rfl) ?_
 refine na ?_
 refine na ?_
 refine ae rfl (Qt.loadG rfl rfl rfl ag112 sz112 (by decide)) ?_
 refine na ?_
 refine a1 3 [] [2, 0, 1] rfl rfl (Stp.callH rfl (by decide) Tryz.call178 rfl (l8DoT_con (doT (u, l) (eK 3 pid 1 0)).1 (doT (u, l) (eK 3 pid 1 0)).2 (eK 21 pid 0 0) (hS.app _) (by simp [doT]; omega) (.inr (.inl rfl))) rfl rfl rfl (nodup_of rfl) rfl rfl) ?_
 refine na ?_
 refine na ?_
 refine a1 4 [] [3, 2, 1, 0] rfl rfl (by first | exact Stp.storeA rfl rfl rfl rfl (by decide) rfl | exact Stp.store rfl rfl (by simp) rfl rfl rfl (by decide) rfl) ?_
 refine na ?_
 refine na ?_
 refine nz ?_
 refine AW.ret (endQ_ret (.cons (.cellG 4 112 rfl rfl rfl ag112 sz112 (by decide)) .nil) ?_)
 refine ⟨fun n => if n = 0 then 12 else if n = 1 then 1012 else if n = 2 then 2012 else if n = 3 then 3012 else if n = 4 then 4012 else if n = 5 then 5012 else if n = 6 then 6012 else if n = 7 then 7012 else n, rfl, (fun n hn => by simp only [base] at hn; dsimp only; repeat (rw [if_neg (by omega)])), nodup_of rfl, (fun r hr => by simp only [List.mem_cons, List.not_mem_nil, or_false] at hr; rcases hr with rfl | rfl | rfl | rfl | rfl | rfl | rfl | rfl <;> exact ⟨by simp, rootL_mem rfl, of_decide_eq_true rfl⟩), ?_⟩
 intro p hp
 simp only [List.mem_cons, List.not_mem_nil, or_false] at hp
 rcases hp with rfl | rfl | rfl | rfl | rfl | rfl | rfl | rfl <;> exact rootL_mem rfl
end Go.Proofs.YtfbefcmeghpalaaGreat.VM
