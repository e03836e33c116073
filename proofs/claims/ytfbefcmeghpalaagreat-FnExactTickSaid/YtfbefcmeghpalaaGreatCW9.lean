/- Contracts of functions of the program. No conditions beyond those that each states. -/
import Derived.Test.YtfbefcmeghpalaaGreatVmD
import Derived.Test.YtfbefcmeghpalaaGreatCW4
import Derived.Test.YtfbefcmeghpalaaGreatCU6
set_option linter.all false
set_option maxHeartbeats 8000000
set_option maxRecDepth 10000
namespace Go.Proofs.YtfbefcmeghpalaaGreat.VM
open Go Go.RowKit Go.Proofs
theorem cutL_get {α : Type} (l : List α) (i k : Nat) (d : α) : (cutL l i).getD k d = if k < i then l.getD k d else l.getD (k + 1) d := by
 simp only [cutL, List.getD_eq_getElem?_getD, List.getElem?_append, List.length_take, List.getElem?_take, List.getElem?_drop]
 by_cases h : k < i
 ·simp only [if_pos h]
  by_cases h2 : k < min i l.length
  ·rw [if_pos h2]
  ·rw [if_neg h2, List.getElem?_eq_none (by omega), List.getElem?_eq_none (by omega)]
 ·simp only [if_neg h]
  rw [if_neg (by omega)]
  by_cases h2 : i ≤ l.length
  ·rw [show i + 1 + (k - min i l.length) = k + 1 by omega]
  ·rw [List.getElem?_eq_none (by omega), List.getElem?_eq_none (by omega)]
theorem cutI_sim {l : List Int} {i : Nat} (h : i < l.length) {f : Nat → Nat → T} : (appT 1 (0 + (i - 0)) (fun k c => if k < 0 then f k c else flatT ([T.v (iv (l.getD (0 + (k - 0)) En.dflt))].getD c T.j)) (l.length - (i + 1)) fun k c => flatT ([T.v (iv (l.getD (i + 1 + k) En.dflt))].getD c T.j)).sim (tr (cutL l i)) := by
 refine ⟨fun k c => (En.cs ((cutL l i).getD k En.dflt)).getD c .j, ?_, fun k c hk hc => ?_⟩
 ·rw [show 0 + (i - 0) + (l.length - (i + 1)) = (cutL l i).length by rw [cutL_len h]; omega]
  rfl
 ·obtain rfl : c = 0 := by omega
  dsimp only
  rw [cutL_get]
  by_cases hk1 : k < i
  ·rw [if_pos (by omega), if_neg (by omega), if_pos hk1, show 0 + (k - 0) = k by omega]; rfl
  ·rw [if_neg (by omega), if_neg hk1, show i + 1 + (k - (0 + (i - 0))) = k + 1 by omega]; rfl
theorem l7Rest_con (u : DUnix) (e : DEff) (hS : Shp u) : Con Tryz.prog 150 [.g [.v (iv u.Next), .v (iv u.Tick), .h base [], .h (base + 1) [], .h (base + 2) [], .h (base + 3) [], .h (base + 4) [], .h (base + 5) [], .h (base + 6) []], .g [.v (iv e.Kind), .v (iv e.A), .v (iv e.B), .v (iv e.C), .h (base + 7) []]] [.rt base .row (tr u.Progs), .rt (base + 1) .row (tr u.Procs), .rt (base + 2) .row (tr u.Opens), .rt (base + 3) .row (tr u.Pipes), .rt (base + 4) .row (tr u.Files), .rt (base + 5) .row (tr u.Ready), .rt (base + 6) .row (tr u.Out), .rt (base + 7) .ro (tr e.L)] (RetW (.t [.g [.v (iv (restF u e).1.Next), .v (iv (restF u e).1.Tick), .h 0 [], .h 1 [], .h 2 [], .h 3 [], .h 4 [], .h 5 [], .h 6 []], .v (.bool (restF u e).2)]) [(0, .row, tr (restF u e).1.Progs), (1, .row, tr (restF u e).1.Procs), (2, .row, tr (restF u e).1.Opens), (3, .row, tr (restF u e).1.Pipes), (4, .row, tr (restF u e).1.Files), (5, .row, tr (restF u e).1.Ready), (6, .row, tr (restF u e).1.Out)] [(base, .j), ((base + 1), .j), ((base + 2), .j), ((base + 3), .j), ((base + 4), .j), ((base + 5), .j), ((base + 6), .j)]) := by
 refine ob Tryz.func150 Tryz.ntmps150 ?_
 have hS1 := hS.ready
 have hS2 := hS.out
 have hS3 := hS.tick
 refine AW.movR base 2000 rfl rfl (by decide) rfl ?_
 refine AW.movR (base + 1) 2001 rfl rfl (by decide) rfl ?_
 refine AW.movR (base + 2) 2002 rfl rfl (by decide) rfl ?_
 refine AW.movR (base + 3) 2003 rfl rfl (by decide) rfl ?_
 refine AW.movR (base + 4) 2004 rfl rfl (by decide) rfl ?_
 refine AW.movR (base + 5) 2005 rfl rfl (by decide) rfl ?_
 refine AW.movR (base + 6) 2006 rfl rfl (by decide) rfl ?_
 refine sr ?_
 refine bx ?_
 refine nm ?_
 refine bx ?_
 refine nm ?_
 refine sp sA ?_
 refine nm ?_
 refine qn ?_
 refine sr2 ?_
 refine qq (fA fl49_0) ?_
 refine ql ag3 ?_
 refine nl ?_
 refine AW.block (sr ?_)
 refine qb ?_
 refine nm ?_
 refine qn ?_
 refine cd (fun c1 => ?_) fun c1 => ?_
 ·try simp only [cnd] at c1
  refine sr2 ?_
  refine qq (fA fl31_7) ?_
  refine ql ag29 ?_
  refine nm ?_
  refine qh sl29 ?_
  refine qb ?_
  refine nc (fun c2 => ?_) fun c2 => ?_
  ·try simp only [cnd] at c2
   refine sr ?_
   refine qG ag31 sz31 ?_
   refine nm ?_
   refine ss ?_
   refine nm ?_
   refine qn ?_
   refine AW.ret (endQ_ret (.cons (.cellG 4 31 rfl rfl rfl ag31 sz31 (by decide)) (.cons (.tmp 5) .nil)) ?_)
   rw [show restF u e = (u, false) from by simp only [restF]; grind only]
   refine ⟨fun n => if n = 0 then 2000 else if n = 1 then 2001 else if n = 2 then 2002 else if n = 3 then 2003 else if n = 4 then 2004 else if n = 5 then 2005 else if n = 6 then 2006 else n, rfl, (fun n hn => by simp only [base] at hn; dsimp only; repeat (rw [if_neg (by omega)])), nodup_of rfl, (fun r hr => by simp only [List.mem_cons, List.not_mem_nil, or_false] at hr; rcases hr with rfl | rfl | rfl | rfl | rfl | rfl | rfl <;> exact ⟨by simp, rootL_mem rfl, of_decide_eq_true rfl⟩), ?_⟩
   intro p hp
   simp only [List.mem_cons, List.not_mem_nil, or_false] at hp
   rcases hp with rfl | rfl | rfl | rfl | rfl | rfl | rfl <;> exact rootL_mem rfl
  try simp only [cnd] at c2
  refine jd (AW.region ?_)
  refine qq (fA fl31_7) ?_
  refine ql ag29 ?_
  refine nm ?_
  refine qq (fA fl49_1) ?_
  refine ql ag3 ?_
  refine sp sS ?_
  refine nm ?_
  refine sp (by first | exact Stp.appendC rfl (by decide) (by decide) rfl rfl (by omega) | exact Stp.appendM rfl (by decide) (by decide) rfl rfl rfl (by omega)) ?_
  refine nm ?_
  refine AWL.rep 23 (tr (u.Ready ++ [e.A])) rfl (app_one (α := Int) (a := e.A) (fun c hc => match c, hc with | 0, _ => rfl | c + 1, hc => absurd hc (by simp only [En.n]; omega))) ?_
  refine nm ?_
  refine qq (fA fl31_7) ?_
  refine ss ?_
  refine ns ?_
  refine qG ag31 sz31 ?_
  refine nm ?_
  refine ss ?_
  refine nm ?_
  refine qn ?_
  refine AW.ret (endQ_ret (.cons (.cellG 4 31 rfl rfl rfl ag31 sz31 (by decide)) (.cons (.tmp 5) .nil)) ?_)
  rw [show restF u e = ({ u with Ready := u.Ready ++ [e.A] }, true) from by simp only [restF]; grind only]
  refine ⟨fun n => if n = 0 then 2000 else if n = 1 then 2001 else if n = 2 then 2002 else if n = 3 then 2003 else if n = 4 then 2004 else if n = 5 then 23 else if n = 6 then 2006 else n, rfl, (fun n hn => by simp only [base] at hn; dsimp only; repeat (rw [if_neg (by omega)])), nodup_of rfl, (fun r hr => by simp only [List.mem_cons, List.not_mem_nil, or_false] at hr; rcases hr with rfl | rfl | rfl | rfl | rfl | rfl | rfl <;> exact ⟨by simp, rootL_mem rfl, of_decide_eq_true rfl⟩), ?_⟩
  intro p hp
  simp only [List.mem_cons, List.not_mem_nil, or_false] at hp
  rcases hp with rfl | rfl | rfl | rfl | rfl | rfl | rfl <;> exact rootL_mem rfl
 try simp only [cnd] at c1
 refine sr ?_
 refine qb ?_
 refine qn ?_
 refine cd (fun c3 => ?_) fun c3 => ?_
 ·try simp only [cnd] at c3
  refine sr2 ?_
  refine qn ?_
  refine AW.block ?_
  refine AW.weak (L' := (.sl 6 (.v (iv (0 : Nat))) :: .sl 2 (.p 2 [] 9 0 0) :: .rt 2 .box (T.s 9 1 fun _ c => [T.v (iv u.Next), T.v (iv u.Tick), T.j, T.j, T.j, T.j, T.j, T.j, T.j].getD c T.j) :: .al 2 2 (.h 2000 []) :: .al 2 3 (.h 2001 []) :: .al 2 4 (.h 2002 []) :: .al 2 5 (.h 2003 []) :: .al 2 6 (.h 2004 []) :: .al 2 7 (.h 2005 []) :: .al 2 8 (.h 2006 []) :: .rt 2000 .row (tr u.Progs) :: .rt 2001 .row (tr u.Procs) :: .rt 2002 .row (tr u.Opens) :: .rt 2003 .row (tr u.Pipes) :: .rt 2004 .row (tr u.Files) :: .rt 2005 .row (tr u.Ready) :: .rt 2006 .row (tr u.Out) :: .sl 3 (.p 3 [] 5 0 0) :: .rt 3 .box (T.s 5 1 fun _ c => [T.v (iv e.Kind), T.v (iv e.A), T.v (iv e.B), T.v (iv e.C), T.j].getD c T.j) :: .al 3 4 (.h (base + 7) []) :: .rt (base + 7) .ro (tr e.L) :: .sl 4 (.p 4 [] 9 0 0) :: .rt 4 .box (T.s 9 1 fun _ c => [T.v (iv 0), T.v (iv 0), T.s 1 0 fun _ _ => T.j, T.s 10 0 fun _ _ => T.j, T.s 5 0 fun _ _ => T.j, T.s 2 0 fun _ _ => T.j, T.s 2 0 fun _ _ => T.j, T.s 1 0 fun _ _ => T.j, T.s 1 0 fun _ _ => T.j].getD c T.j) :: .rt base .row .j :: .rt (base + 1) .row .j :: .rt (base + 2) .row .j :: .rt (base + 3) .row .j :: .rt (base + 4) .row .j :: .rt (base + 5) .row .j :: .rt (base + 6) .row .j :: [])) (Weak.sim ⟨rfl, rfl, ⟨_, rfl, (sc_sim (n := 9) (fun c hc => match c, hc with | 0, _ => T.sim_refl _ | 1, _ => T.sim_refl _ | 2, _ => T.sim_refl _ | 3, _ => T.sim_refl _ | 4, _ => T.sim_refl _ | 5, _ => T.sim_refl _ | 6, _ => T.sim_refl _ | 7, _ => T.sim_refl _ | 8, _ => T.sim_refl _ | c + 9, hc => absurd hc (by omega)))⟩, ⟨rfl, rfl⟩, ⟨rfl, rfl⟩, ⟨rfl, rfl⟩, ⟨rfl, rfl⟩, ⟨rfl, rfl⟩, ⟨rfl, rfl⟩, ⟨rfl, rfl⟩, Rf rfl, Rf rfl, Rf rfl, Rf rfl, Rf rfl, Rf rfl, Rf rfl, rfl, ⟨_, rfl, (sc_sim (n := 5) (fun c hc => match c, hc with | 0, _ => T.sim_refl _ | 1, _ => T.sim_refl _ | 2, _ => T.sim_refl _ | 3, _ => T.sim_refl _ | 4, _ => T.sim_refl _ | c + 5, hc => absurd hc (by omega)))⟩, ⟨rfl, rfl⟩, Rf rfl, rfl, ⟨_, rfl, (sc_sim (n := 9) (fun c hc => match c, hc with | 0, _ => T.sim_refl _ | 1, _ => T.sim_refl _ | 2, _ => T.sim_refl _ | 3, _ => T.sim_refl _ | 4, _ => T.sim_refl _ | 5, _ => T.sim_refl _ | 6, _ => T.sim_refl _ | 7, _ => T.sim_refl _ | 8, _ => T.sim_refl _ | c + 9, hc => absurd hc (by omega)))⟩, Rf rfl, Rf rfl, Rf rfl, Rf rfl, Rf rfl, Rf rfl, Rf rfl, trivial⟩ rfl rfl) ?_
  refine AW.loop (fun i : IxInv (fun x : Int => e.A == x) u.Ready => (.sl 6 (.v (iv i.k)) :: .sl 2 (.p 2 [] 9 0 0) :: .rt 2 .box (T.s 9 1 fun _ c => [T.v (iv u.Next), T.v (iv u.Tick), T.j, T.j, T.j, T.j, T.j, T.j, T.j].getD c T.j) :: .al 2 2 (.h 2000 []) :: .al 2 3 (.h 2001 []) :: .al 2 4 (.h 2002 []) :: .al 2 5 (.h 2003 []) :: .al 2 6 (.h 2004 []) :: .al 2 7 (.h 2005 []) :: .al 2 8 (.h 2006 []) :: .rt 2000 .row (tr u.Progs) :: .rt 2001 .row (tr u.Procs) :: .rt 2002 .row (tr u.Opens) :: .rt 2003 .row (tr u.Pipes) :: .rt 2004 .row (tr u.Files) :: .rt 2005 .row (tr u.Ready) :: .rt 2006 .row (tr u.Out) :: .sl 3 (.p 3 [] 5 0 0) :: .rt 3 .box (T.s 5 1 fun _ c => [T.v (iv e.Kind), T.v (iv e.A), T.v (iv e.B), T.v (iv e.C), T.j].getD c T.j) :: .al 3 4 (.h (base + 7) []) :: .rt (base + 7) .ro (tr e.L) :: .sl 4 (.p 4 [] 9 0 0) :: .rt 4 .box (T.s 9 1 fun _ c => [T.v (iv 0), T.v (iv 0), T.s 1 0 fun _ _ => T.j, T.s 10 0 fun _ _ => T.j, T.s 5 0 fun _ _ => T.j, T.s 2 0 fun _ _ => T.j, T.s 2 0 fun _ _ => T.j, T.s 1 0 fun _ _ => T.j, T.s 1 0 fun _ _ => T.j].getD c T.j) :: .rt base .row .j :: .rt (base + 1) .row .j :: .rt (base + 2) .row .j :: .rt (base + 3) .row .j :: .rt (base + 4) .row .j :: .rt (base + 5) .row .j :: .rt (base + 6) .row .j :: [])) (fun i => u.Ready.length - i.k) ⟨0, Nat.zero_le _, rfl⟩ ?_
  intro i
  have hle := i.le
  refine sr2 ?_
  refine mn ?_
  refine qq (fA fl31_7) ?_
  refine ql ag29 ?_
  refine qh sl29 ?_
  refine nm ?_
  refine qb ?_
  refine nc (fun c4 => ?_) fun c4 => ?_
  ·try simp only [cnd] at c4
   refine jd (AW.seq (AW.block (AW.seq ?_)))
   refine AW.draw [0, 1, 2, 3, 4, 5, 6, 7] rfl (by decide +kernel) ?_
   refine tk 0 rfl (fA fl31_7) ?_
   refine tk 1 rfl (Qt.load1 rfl rfl rfl ag29) ?_
   refine na ?_
   refine tk 2 rfl Qt.move ?_
   refine tk 3 rfl (ix sl29 sz3) ?_
   refine tk 4 rfl (Qt.load1 rfl rfl rfl ag3) ?_
   refine na ?_
   refine tk 5 rfl (fA fl49_1) ?_
   refine tk 6 rfl (Qt.load1 rfl rfl rfl ag3) ?_
   refine tk 7 rfl (Qt.binOp rfl rfl rfl) ?_
   refine na ?_
   refine nz ?_
   refine cd (fun c5 => ?_) fun c5 => ?_
   ·try simp only [cnd] at c5
    refine sr ?_
    refine sp sS ?_
    refine nm ?_
    refine qq (fA fl31_7) ?_
    refine ql ag29 ?_
    refine mn ?_
    refine qq (Qt.sliceH rfl rfl rfl sl29 sz3 (by decide) slB_no (slB_so rfl rfl) (by first | omega | (simp only [Int.toNat_natCast]; omega)) (by first | omega | (simp only [Int.toNat_natCast]; omega))) ?_
    refine sp (by first | exact Stp.appendC rfl (by decide) (by decide) rfl rfl (by omega) | exact Stp.appendM rfl (by decide) (by decide) rfl rfl rfl (by omega)) ?_
    refine nm ?_
    refine qs' ?_
    refine qm ?_
    refine qq (fA fl31_7) ?_
    refine nm ?_
    refine ql ag29 ?_
    refine qm ?_
    refine ba ?_
    refine nm ?_
    refine qq (Qt.sliceH rfl rfl rfl sl29 sz3 (by decide) (slB_so rfl rfl) slB_no (by first | omega | (simp only [Int.toNat_natCast]; omega)) (by first | omega | (simp only [Int.toNat_natCast]; omega))) ?_
    refine sp (by first | exact Stp.appendC rfl (by decide) (by decide) rfl rfl (by omega) | exact Stp.appendM rfl (by decide) (by decide) rfl rfl rfl (by omega)) ?_
    refine nm ?_
    refine AWL.rep 54 (tr (cutL u.Ready i.k)) rfl (cutI_sim (by omega)) ?_
    refine nm ?_
    refine qq (fA fl31_7) ?_
    refine ss ?_
    refine ns ?_
    refine qG ag31 sz31 ?_
    refine nm ?_
    refine ss ?_
    refine nm ?_
    refine qn ?_
    refine AW.ret (endQ_ret (.cons (.cellG 4 31 rfl rfl rfl ag31 sz31 (by decide)) (.cons (.tmp 5) .nil)) ?_)
    have hrd : rdyAt u e.A = (i.k : Nat) := ixOf_hit i En.dflt (by omega) (by rw [beq_iff_eq]; exact (c5).symm)
    rw [show restF u e = ({ u with Ready := cutL u.Ready i.k }, true) from by simp only [restF, hrd, Int.toNat_natCast]; grind only]
    refine ⟨fun n => if n = 0 then 2000 else if n = 1 then 2001 else if n = 2 then 2002 else if n = 3 then 2003 else if n = 4 then 2004 else if n = 5 then 54 else if n = 6 then 2006 else n, rfl, (fun n hn => by simp only [base] at hn; dsimp only; repeat (rw [if_neg (by omega)])), nodup_of rfl, (fun r hr => by simp only [List.mem_cons, List.not_mem_nil, or_false] at hr; rcases hr with rfl | rfl | rfl | rfl | rfl | rfl | rfl <;> exact ⟨by simp, rootL_mem rfl, of_decide_eq_true rfl⟩), ?_⟩
    intro p hp
    simp only [List.mem_cons, List.not_mem_nil, or_false] at hp
    rcases hp with rfl | rfl | rfl | rfl | rfl | rfl | rfl <;> exact rootL_mem rfl
   try simp only [cnd] at c5
   refine jd (AW.region ?_)
   refine qm ?_
   refine ba ?_
   refine nm ?_
   refine qn ?_
   refine ⟨⟨i.k + 1, by omega, i.next En.dflt (by omega) (beq_eq_false_iff_ne.2 fun h => c5 h.symm)⟩, Weak.sim ⟨st1, rfl, Rf rfl, ⟨rfl, rfl⟩, ⟨rfl, rfl⟩, ⟨rfl, rfl⟩, ⟨rfl, rfl⟩, ⟨rfl, rfl⟩, ⟨rfl, rfl⟩, ⟨rfl, rfl⟩, Rf rfl, Rf rfl, Rf rfl, Rf rfl, Rf rfl, Rf rfl, Rf rfl, rfl, Rf rfl, ⟨rfl, rfl⟩, Rf rfl, rfl, Rf rfl, Rf rfl, Rf rfl, Rf rfl, Rf rfl, Rf rfl, Rf rfl, Rf rfl, trivial⟩ rfl rfl, ?_⟩
   show u.Ready.length - (i.k + 1) < u.Ready.length - i.k
   omega
  try simp only [cnd] at c4
  refine AW.exit ?_
  dsimp only [thenQ, blockQ, reduceIte]
  refine sr ?_
  refine qG ag31 sz31 ?_
  refine ss ?_
  refine nm ?_
  refine qn ?_
  refine AW.ret (endQ_ret (.cons (.cellG 4 31 rfl rfl rfl ag31 sz31 (by decide)) (.cons (.tmp 5) .nil)) ?_)
  have hrd : rdyAt u e.A = -1 := ixOf_none i (by omega)
  rw [show restF u e = (u, false) from by simp only [restF, hrd]; grind only]
  refine ⟨fun n => if n = 0 then 2000 else if n = 1 then 2001 else if n = 2 then 2002 else if n = 3 then 2003 else if n = 4 then 2004 else if n = 5 then 2005 else if n = 6 then 2006 else n, rfl, (fun n hn => by simp only [base] at hn; dsimp only; repeat (rw [if_neg (by omega)])), nodup_of rfl, (fun r hr => by simp only [List.mem_cons, List.not_mem_nil, or_false] at hr; rcases hr with rfl | rfl | rfl | rfl | rfl | rfl | rfl <;> exact ⟨by simp, rootL_mem rfl, of_decide_eq_true rfl⟩), ?_⟩
  intro p hp
  simp only [List.mem_cons, List.not_mem_nil, or_false] at hp
  rcases hp with rfl | rfl | rfl | rfl | rfl | rfl | rfl <;> exact rootL_mem rfl
 try simp only [cnd] at c3
 refine sr ?_
 refine qb ?_
 refine qn ?_
 refine cd (fun c6 => ?_) fun c6 => ?_
 ·try simp only [cnd] at c6
  refine sr2 ?_
  refine qq (fA fl31_8) ?_
  refine nm ?_
  refine ql ag29 ?_
  refine qh sl29 ?_
  refine qb ?_
  refine nc (fun c7 => ?_) fun c7 => ?_
  ·try simp only [cnd] at c7
   refine sr ?_
   refine qG ag31 sz31 ?_
   refine nm ?_
   refine ss ?_
   refine nm ?_
   refine qn ?_
   refine AW.ret (endQ_ret (.cons (.cellG 4 31 rfl rfl rfl ag31 sz31 (by decide)) (.cons (.tmp 5) .nil)) ?_)
   rw [show restF u e = (u, false) from by simp only [restF]; grind only]
   refine ⟨fun n => if n = 0 then 2000 else if n = 1 then 2001 else if n = 2 then 2002 else if n = 3 then 2003 else if n = 4 then 2004 else if n = 5 then 2005 else if n = 6 then 2006 else n, rfl, (fun n hn => by simp only [base] at hn; dsimp only; repeat (rw [if_neg (by omega)])), nodup_of rfl, (fun r hr => by simp only [List.mem_cons, List.not_mem_nil, or_false] at hr; rcases hr with rfl | rfl | rfl | rfl | rfl | rfl | rfl <;> exact ⟨by simp, rootL_mem rfl, of_decide_eq_true rfl⟩), ?_⟩
   intro p hp
   simp only [List.mem_cons, List.not_mem_nil, or_false] at hp
   rcases hp with rfl | rfl | rfl | rfl | rfl | rfl | rfl <;> exact rootL_mem rfl
  try simp only [cnd] at c7
  refine jd (AW.region ?_)
  refine qq (fA fl31_8) ?_
  refine ql ag29 ?_
  refine nm ?_
  refine qq (fA fl49_1) ?_
  refine ql ag3 ?_
  refine sp sS ?_
  refine nm ?_
  refine sp (by first | exact Stp.appendC rfl (by decide) (by decide) rfl rfl (by omega) | exact Stp.appendM rfl (by decide) (by decide) rfl rfl rfl (by omega)) ?_
  refine nm ?_
  refine AWL.rep 70 (tr (u.Out ++ [e.A])) rfl (app_one (α := Int) (a := e.A) (fun c hc => match c, hc with | 0, _ => rfl | c + 1, hc => absurd hc (by simp only [En.n]; omega))) ?_
  refine nm ?_
  refine qq (fA fl31_8) ?_
  refine ss ?_
  refine ns ?_
  refine qG ag31 sz31 ?_
  refine nm ?_
  refine ss ?_
  refine nm ?_
  refine qn ?_
  refine AW.ret (endQ_ret (.cons (.cellG 4 31 rfl rfl rfl ag31 sz31 (by decide)) (.cons (.tmp 5) .nil)) ?_)
  rw [show restF u e = ({ u with Out := u.Out ++ [e.A] }, true) from by simp only [restF]; grind only]
  refine ⟨fun n => if n = 0 then 2000 else if n = 1 then 2001 else if n = 2 then 2002 else if n = 3 then 2003 else if n = 4 then 2004 else if n = 5 then 2005 else if n = 6 then 70 else n, rfl, (fun n hn => by simp only [base] at hn; dsimp only; repeat (rw [if_neg (by omega)])), nodup_of rfl, (fun r hr => by simp only [List.mem_cons, List.not_mem_nil, or_false] at hr; rcases hr with rfl | rfl | rfl | rfl | rfl | rfl | rfl <;> exact ⟨by simp, rootL_mem rfl, of_decide_eq_true rfl⟩), ?_⟩
  intro p hp
  simp only [List.mem_cons, List.not_mem_nil, or_false] at hp
  rcases hp with rfl | rfl | rfl | rfl | rfl | rfl | rfl <;> exact rootL_mem rfl
 try simp only [cnd] at c6
 refine sr ?_
 refine qb ?_
 refine qn ?_
 refine cd (fun c8 => ?_) fun c8 => ?_
 ·try simp only [cnd] at c8
  refine sr2 ?_
  refine qq (fA fl31_1) ?_
  refine nm ?_
  refine ql ag3 ?_
  refine qb ?_
  refine nc (fun c9 => ?_) fun c9 => ?_
  ·try simp only [cnd] at c9
   refine sr ?_
   refine qG ag31 sz31 ?_
   refine nm ?_
   refine ss ?_
   refine nm ?_
   refine qn ?_
   refine AW.ret (endQ_ret (.cons (.cellG 4 31 rfl rfl rfl ag31 sz31 (by decide)) (.cons (.tmp 5) .nil)) ?_)
   rw [show restF u e = (u, false) from by simp only [restF]; grind only]
   refine ⟨fun n => if n = 0 then 2000 else if n = 1 then 2001 else if n = 2 then 2002 else if n = 3 then 2003 else if n = 4 then 2004 else if n = 5 then 2005 else if n = 6 then 2006 else n, rfl, (fun n hn => by simp only [base] at hn; dsimp only; repeat (rw [if_neg (by omega)])), nodup_of rfl, (fun r hr => by simp only [List.mem_cons, List.not_mem_nil, or_false] at hr; rcases hr with rfl | rfl | rfl | rfl | rfl | rfl | rfl <;> exact ⟨by simp, rootL_mem rfl, of_decide_eq_true rfl⟩), ?_⟩
   intro p hp
   simp only [List.mem_cons, List.not_mem_nil, or_false] at hp
   rcases hp with rfl | rfl | rfl | rfl | rfl | rfl | rfl <;> exact rootL_mem rfl
  try simp only [cnd] at c9
  refine jd (AW.region ?_)
  refine qq (fA fl31_1) ?_
  refine ql ag3 ?_
  refine nm ?_
  refine ba ?_
  refine qq (fA fl31_1) ?_
  refine ss ?_
  refine ns ?_
  refine qG ag31 sz31 ?_
  refine nm ?_
  refine ss ?_
  refine nm ?_
  refine qn ?_
  refine AW.ret (endQ_ret (.cons (.cellG 4 31 rfl rfl rfl ag31 sz31 (by decide)) (.cons (.tmp 5) .nil)) ?_)
  rw [show restF u e = ({ u with Tick := u.Tick + 1 }, true) from by simp only [restF]; grind only]
  refine ⟨fun n => if n = 0 then 2000 else if n = 1 then 2001 else if n = 2 then 2002 else if n = 3 then 2003 else if n = 4 then 2004 else if n = 5 then 2005 else if n = 6 then 2006 else n, rfl, (fun n hn => by simp only [base] at hn; dsimp only; repeat (rw [if_neg (by omega)])), nodup_of rfl, (fun r hr => by simp only [List.mem_cons, List.not_mem_nil, or_false] at hr; rcases hr with rfl | rfl | rfl | rfl | rfl | rfl | rfl <;> exact ⟨by simp, rootL_mem rfl, of_decide_eq_true rfl⟩), ?_⟩
  intro p hp
  simp only [List.mem_cons, List.not_mem_nil, or_false] at hp
  rcases hp with rfl | rfl | rfl | rfl | rfl | rfl | rfl <;> exact rootL_mem rfl
 try simp only [cnd] at c8
 refine sr ?_
 refine qG ag31 sz31 ?_
 refine ss ?_
 refine nm ?_
 refine qn ?_
 refine AW.ret (endQ_ret (.cons (.cellG 4 31 rfl rfl rfl ag31 sz31 (by decide)) (.cons (.tmp 5) .nil)) ?_)
 rw [show restF u e = (u, false) from by simp only [restF]; grind only]
 refine ⟨fun n => if n = 0 then 2000 else if n = 1 then 2001 else if n = 2 then 2002 else if n = 3 then 2003 else if n = 4 then 2004 else if n = 5 then 2005 else if n = 6 then 2006 else n, rfl, (fun n hn => by simp only [base] at hn; dsimp only; repeat (rw [if_neg (by omega)])), nodup_of rfl, (fun r hr => by simp only [List.mem_cons, List.not_mem_nil, or_false] at hr; rcases hr with rfl | rfl | rfl | rfl | rfl | rfl | rfl <;> exact ⟨by simp, rootL_mem rfl, of_decide_eq_true rfl⟩), ?_⟩
 intro p hp
 simp only [List.mem_cons, List.not_mem_nil, or_false] at hp
 rcases hp with rfl | rfl | rfl | rfl | rfl | rfl | rfl <;> exact rootL_mem rfl
end Go.Proofs.YtfbefcmeghpalaaGreat.VM
