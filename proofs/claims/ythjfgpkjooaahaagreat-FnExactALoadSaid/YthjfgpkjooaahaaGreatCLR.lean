/- Contracts. No conditions. -/
import Derived.Test.YthjfgpkjooaahaaGreatCLK
import Derived.Test.YthjfgpkjooaahaaGreatCLP
import Derived.Test.YthjfgpkjooaahaaGreatCLO
set_option linter.all false
set_option maxHeartbeats 8000000
set_option maxRecDepth 10000
namespace Go.Proofs.YthjfgpkjooaahaaGreat.VM
open Go Go.RowKit Go.Proofs
theorem l6CopyProc_con (p : DProc) (hw : Mk.wt p ≤ 1048576) : Con Tryz.prog 143 [.g [.v (iv p.Pid), .v (iv p.Parent), .v (iv p.State), .v (iv p.Prog), .v (iv p.Cpu.Pc), .h base [], .h (base + 1) [], .h (base + 2) [], .v (iv p.Until), .v (iv p.Code)]] [.rt base .ro (tr p.Cpu.Regs), .rt (base + 1) .ro (tr p.Mem), .rt (base + 2) .ro (tr p.Fds)] (Ret (.g [.v (iv p.Pid), .v (iv p.Parent), .v (iv p.State), .v (iv p.Prog), .v (iv p.Cpu.Pc), .h 0 [], .h 1 [], .h 2 [], .v (iv p.Until), .v (iv p.Code)]) [(0, .row, tr p.Cpu.Regs), (1, .row, tr p.Mem), (2, .row, tr p.Fds)]) := by
 refine ob Tryz.func143 Tryz.ntmps143 ?_
 have hwp : Mk.wt p.Cpu.Regs + Mk.wt p.Mem + Mk.wt p.Fds ≤ 1048576 := hw
 have hw1 := wt_ints p.Cpu.Regs
 have hw2 := wt_ints p.Mem
 have hw3 := wt_ints p.Fds
 refine go [.R,.B,.N,.A,.Z,.R,.S,.N,.f,.f,.l,.N] (k := ?_)
 refine sp (by first | exact Stp.appendC rfl (by decide) (by decide) rfl rfl (by omega) | exact Stp.appendM rfl (by decide) (by decide) rfl rfl rfl (by omega)) ?_
 refine go [.N] (k := ?_)
 refine AWL.rep 7 (tr p.Cpu.Regs) rfl (app_nil (α := Int)) ?_
 refine go [.N,.f,.f,.s,.Z,.R,.S,.N,.f,.l] (k := ?_)
 refine sp (by first | exact Stp.appendC rfl (by decide) (by decide) rfl rfl (by omega) | exact Stp.appendM rfl (by decide) (by decide) rfl rfl rfl (by omega)) ?_
 refine go [.N] (k := ?_)
 refine AWL.rep 13 (tr p.Mem) rfl (app_nil (α := Int)) ?_
 refine go [.N,.f,.s,.Z,.R,.S,.N,.f,.l] (k := ?_)
 refine sp (by first | exact Stp.appendC rfl (by decide) (by decide) rfl rfl (by omega) | exact Stp.appendM rfl (by decide) (by decide) rfl rfl rfl (by omega)) ?_
 refine go [.N] (k := ?_)
 refine AWL.rep 18 (tr p.Fds) rfl (app_nil (α := Int)) ?_
 refine go [.N,.f,.s,.Z,.R,.G,.N,.s,.Z] (k := ?_)
 refine AW.ret (endQ_ret (.cons (.cellG 2 105 rfl rfl rfl ag105 sz105 (by decide)) .nil) ?_)
 refine ⟨fun i => if i = 0 then 7 else if i = 1 then 13 else 18, rfl, nodup_of rfl, ?_⟩
 intro r hr
 simp only [List.mem_cons, List.not_mem_nil, or_false] at hr
 rcases hr with rfl | rfl | rfl <;> exact ⟨by simp, rootL_mem rfl⟩
theorem pipe_next {u : DUnix} {i j : Nat} (h : i < u.Pipes.length) (hj : j = (u.Pipes.getD i En.dflt).Data.length) : pipesD u (i + 1) = (pipesD u i).set (u.Pipes.getD i En.dflt).Id.toNat (ringD true 4 (u.Pipes.getD i En.dflt).Data j) := by
 subst hj
 exact pipesD_next h
theorem ringD_len {b : Bool} {n : Nat} {d : List Int} {k : Nat} (h : k ≤ n) (hk : k ≤ d.length) : (ringD b n d k).Buf.length = n := by
 show (d.take k ++ List.replicate (n - k) 0).length = n
 rw [List.length_append, List.length_take, List.length_replicate]
 omega
theorem view_w {l : List Int} {lo len : Nat} (h : len = 4) (hl : lo + 4 ≤ l.length) : (T.s 1 len fun k c => (En.cs (l.getD (lo + k) En.dflt)).getD c .j).sim (tr ((l.drop lo).take 4)) := by
 subst h
 have e : ((l.drop lo).take 4).length = 4 := by rw [List.length_take, List.length_drop]; omega
 refine ⟨fun k c => (En.cs (((l.drop lo).take 4).getD k En.dflt)).getD c .j, by show tr _ = _; simp only [tr, e]; rfl, fun k c hk hc => ?_⟩
 show T.sim _ ((En.cs (((l.drop lo).take 4).getD k En.dflt)).getD c .j)
 rw [show ((l.drop lo).take 4).getD k En.dflt = l.getD (lo + k) En.dflt from by rw [List.getD_eq_getElem?_getD, List.getElem?_take_of_lt hk, List.getElem?_drop, ← List.getD_eq_getElem?_getD]]
 exact tsr
theorem l14Take_con (u : DUnix) (hL : LoadF u) (i j : Nat) (hi : i < u.Procs.length) (hj : 4 * j < (atP u i).Mem.length) : Con Tryz.prog 144 [.g [.v (iv (midD u i j).Next), .v (iv (midD u i j).Tick), .h base [], .h (base + 1) [], .h (base + 2) [], .h (base + 3) [], .h (base + 4) [], .h (base + 5) [], .h (base + 6) [], .v (.bool (midD u i j).Ready.Used), .h (base + 7) [], .v (iv (midD u i j).Ready.Head), .v (iv (midD u i j).Ready.Len), .h (base + 8) []], .v (iv (i : Nat)), .h (base + 9) []] [.rt base .row (tr (midD u i j).Progs), .rt (base + 1) .row (tr (midD u i j).Slots), .rt (base + 2) .row (tr (midD u i j).Ram), .rt (base + 3) .row (tr (midD u i j).Map), .rt (base + 4) .row (tr (midD u i j).Opens), .rt (base + 5) .row (tr (midD u i j).Pipes), .rt (base + 6) .row (tr (midD u i j).Files), .rt (base + 7) .row (tr (midD u i j).Ready.Buf), .rt (base + 8) .row (tr (midD u i j).Out), .rt (base + 9) .ro (tr (((atP u i).Mem.drop (4 * j)).take 4))] (RetW (.t [.g [.v (iv (midD u i (j + 1)).Next), .v (iv (midD u i (j + 1)).Tick), .h 0 [], .h 1 [], .h 2 [], .h 3 [], .h 4 [], .h 5 [], .h 6 [], .v (.bool (midD u i (j + 1)).Ready.Used), .h 7 [], .v (iv (midD u i (j + 1)).Ready.Head), .v (iv (midD u i (j + 1)).Ready.Len), .h 8 []], .v (.bool true)]) [(0, .row, tr (midD u i (j + 1)).Progs), (1, .row, tr (midD u i (j + 1)).Slots), (2, .row, tr (midD u i (j + 1)).Ram), (3, .row, tr (midD u i (j + 1)).Map), (4, .row, tr (midD u i (j + 1)).Opens), (5, .row, tr (midD u i (j + 1)).Pipes), (6, .row, tr (midD u i (j + 1)).Files), (7, .row, tr (midD u i (j + 1)).Ready.Buf), (8, .row, tr (midD u i (j + 1)).Out)] [(base, .j), ((base + 1), .j), ((base + 2), .j), ((base + 3), .j), ((base + 4), .j), ((base + 5), .j), ((base + 6), .j), ((base + 7), .j), ((base + 8), .j)]) := by
 have h6 := hL.procs
 have hp := pages_lt hL hi hj
 have hS : (midD u i j).Slots.length = 6 := (List.length_set ..).trans (slotsD_len (by omega))
 have hpt : ((midD u i j).Slots.getD i En.dflt).Pt = ptA (pagesU u.Procs i) j := congrArg DASlot.Pt (getD_set (x := slotD (atP u i) (pagesU u.Procs i) j) (by rw [slotsD_len (by omega)]; omega))
 have h := l13Take_con (midD u i j) i (pagesU u.Procs i + j) (pagesU u.Procs i) j (memsD u i ++ (atP u i).Mem.take (4 * j)) (((atP u i).Mem.drop (4 * j)).take 4) rfl rfl (ws_len hL hi (by omega)) (w_len hp.2.2) hp.1 (by omega) hpt hp.2.1 rfl (by rw [hpt]; exact pagesN_ptA hp.2.1 hp.1)
 rwa [mid_next (by omega)] at h
end Go.Proofs.YthjfgpkjooaahaaGreat.VM

