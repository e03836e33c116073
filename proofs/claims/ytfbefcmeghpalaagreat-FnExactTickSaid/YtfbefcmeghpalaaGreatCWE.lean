/- Contracts of functions of the program. No conditions beyond those that each states. -/
import Derived.Test.YtfbefcmeghpalaaGreatCWD
import Derived.Test.YtfbefcmeghpalaaGreatCW7
set_option linter.all false
set_option maxHeartbeats 8000000
set_option maxRecDepth 10000
namespace Go.Proofs.YtfbefcmeghpalaaGreat.VM
open Go Go.RowKit Go.Proofs
def tickW (u : DUnix) : DUnix × List DEff := if 1000000 ≤ u.Tick then (u, []) else tickE u
structure WkInv (u : DUnix) where
 k : Nat
 le : k ≤ (dueL (tickS u).1.Tick (tickS u).1.Procs).length
def WkInv.s {u : DUnix} (i : WkInv u) : DUnix × List DEff := wakeL (tickS u) ((dueL (tickS u).1.Tick (tickS u).1.Procs).take i.k)
theorem WkInv.shp {u : DUnix} (i : WkInv u) (h : Shp u) : Shp i.s.1 := h.tickS.wakeL _
theorem WkInv.len {u : DUnix} (i : WkInv u) (h : Shp u) : i.s.2.length ≤ 100 := by
 have h1 := tickS_len u
 have h2 := wakeL_len ((dueL (tickS u).1.Tick (tickS u).1.Procs).take i.k) (tickS u)
 have h3 := dueL_len (tickS u).1.Tick (tickS u).1.Procs
 have h4 := h.tickS.procs
 have h5 : ((dueL (tickS u).1.Tick (tickS u).1.Procs).take i.k).length ≤ (dueL (tickS u).1.Tick (tickS u).1.Procs).length := by rw [List.length_take]; omega
 show (wakeL _ _).2.length ≤ 100
 omega
theorem WkInv.nx {u : DUnix} (i : WkInv u) (hk : i.k < (dueL (tickS u).1.Tick (tickS u).1.Procs).length) : wakeT i.s ((dueL (tickS u).1.Tick (tickS u).1.Procs).getD i.k En.dflt) = (⟨i.k + 1, hk⟩ : WkInv u).s := by
 show _ = wakeL _ _
 rw [take_snocW En.dflt hk, wakeL_snoc]
 rfl
theorem WkInv.full {u : DUnix} (i : WkInv u) (hk : ¬ i.k < (dueL (tickS u).1.Tick (tickS u).1.Procs).length) : i.s = tickE u := by
 show wakeL _ _ = wakeL _ _
 rw [List.take_of_length_le (by omega)]
theorem l8Tick_con (u : DUnix) (hS : Shp u) : Con Tryz.prog 91 [.g [.v (iv u.Next), .v (iv u.Tick), .h base [], .h (base + 1) [], .h (base + 2) [], .h (base + 3) [], .h (base + 4) [], .h (base + 5) [], .h (base + 6) []]] [.rt base .row (tr u.Progs), .rt (base + 1) .row (tr u.Procs), .rt (base + 2) .row (tr u.Opens), .rt (base + 3) .row (tr u.Pipes), .rt (base + 4) .row (tr u.Files), .rt (base + 5) .row (tr u.Ready), .rt (base + 6) .row (tr u.Out)] (RetW (.g [.v (iv (tickW u).1.Next), .v (iv (tickW u).1.Tick), .h 0 [], .h 1 [], .h 2 [], .h 3 [], .h 4 [], .h 5 [], .h 6 [], .h 7 []]) [(0, .row, tr (tickW u).1.Progs), (1, .row, tr (tickW u).1.Procs), (2, .row, tr (tickW u).1.Opens), (3, .row, tr (tickW u).1.Pipes), (4, .row, tr (tickW u).1.Files), (5, .row, tr (tickW u).1.Ready), (6, .row, tr (tickW u).1.Out), (7, .row, tr (tickW u).2)] [(base, .j), ((base + 1), .j), ((base + 2), .j), ((base + 3), .j), ((base + 4), .j), ((base + 5), .j), ((base + 6), .j)]) := by
 refine ob Tryz.func91 Tryz.ntmps91 ?_
 refine AW.movR base 2000 rfl rfl (by decide) rfl ?_
 refine AW.movR (base + 1) 2001 rfl rfl (by decide) rfl ?_
 refine AW.movR (base + 2) 2002 rfl rfl (by decide) rfl ?_
 refine AW.movR (base + 3) 2003 rfl rfl (by decide) rfl ?_
 refine AW.movR (base + 4) 2004 rfl rfl (by decide) rfl ?_
 refine AW.movR (base + 5) 2005 rfl rfl (by decide) rfl ?_
 refine AW.movR (base + 6) 2006 rfl rfl (by decide) rfl ?_
 refine sr ?_
 refine bx ?_
 refine nm ?_
 refine sp sA ?_
 refine ns ?_
 refine qG ag31 sz31 ?_
 refine nm ?_
 refine sp sS ?_
 refine nm ?_
 refine AWL.rep 9 (tr ([] : List DEff)) rfl sim_nil ?_
 refine nm ?_
 refine qq (Qt.build rfl) ?_
 refine sp sA ?_
 refine nm ?_
 refine ss ?_
 refine nl ?_
 refine sr2 ?_
 refine qq (fA fl31_1) ?_
 refine nm ?_
 refine ql ag3 ?_
 refine qb ?_
 refine nc (fun c1 => ?_) fun c1 => ?_
 ·try simp only [cnd] at c1
  refine sr ?_
  refine qG ag112 sz112 ?_
  refine nm ?_
  refine ss ?_
  refine nl ?_
  refine AW.ret (endQ_ret (.cons (.cellG 2 112 rfl rfl rfl ag112 sz112 (by decide)) .nil) ?_)
  rw [show tickW u = (u, []) from if_pos (by omega)]
  refine ⟨fun n => if n = 0 then 2000 else if n = 1 then 2001 else if n = 2 then 2002 else if n = 3 then 2003 else if n = 4 then 2004 else if n = 5 then 2005 else if n = 6 then 2006 else if n = 7 then 9 else n, rfl, (fun n hn => by simp only [base] at hn; dsimp only; repeat (rw [if_neg (by omega)])), nodup_of rfl, (fun r hr => by simp only [List.mem_cons, List.not_mem_nil, or_false] at hr; rcases hr with rfl | rfl | rfl | rfl | rfl | rfl | rfl | rfl <;> exact ⟨by simp, rootL_mem rfl, of_decide_eq_true rfl⟩), ?_⟩
  intro p hp
  simp only [List.mem_cons, List.not_mem_nil, or_false] at hp
  rcases hp with rfl | rfl | rfl | rfl | rfl | rfl | rfl <;> exact rootL_mem rfl
 try simp only [cnd] at c1
 have hS0 : Shp (doT (u, []) (eK 24 0 0 0)).1 := hS.app _
 refine jd (AW.seq ?_)
 refine AW.draw [0] rfl (by decide +kernel) ?_
 refine tk 0 rfl (Qt.loadG rfl rfl rfl ag112 sz112 (by decide)) ?_
 refine na ?_
 refine a1 1 [0] [] rfl rfl (Stp.callR rfl (by decide) Tryz.call179 rfl rfl (l8E_con _ _ _ _) (nodup_of rfl) rfl rfl) ?_
 refine na ?_
 refine na ?_
 refine ae rfl (Qt.loadG rfl rfl rfl ag112 sz112 (by decide)) ?_
 refine na ?_
 refine a1 2 [] [1, 0] rfl rfl (Stp.callH rfl (by decide) Tryz.call178 rfl (l8DoT_con u [] (eK 24 0 0 0) hS (by simp) (.inr (.inr (.inr rfl)))) rfl rfl rfl (nodup_of rfl) rfl rfl) ?_
 refine na ?_
 refine na ?_
 refine a1 3 [] [2, 1, 0] rfl rfl (by first | exact Stp.storeA rfl rfl rfl rfl (by decide) rfl | exact Stp.store rfl rfl (by simp) rfl rfl rfl (by decide) rfl) ?_
 refine na ?_
 refine na ?_
 refine nz ?_
 refine AW.seq ?_
 refine AW.cut (.sl 3 (.p 3 [] 10 0 0) :: .rt 3 .box (T.s 10 1 fun _ c => [T.v (iv (tickS u).1.Next), T.v (iv (tickS u).1.Tick), T.j, T.j, T.j, T.j, T.j, T.j, T.j, T.j].getD c T.j) :: .al 3 2 (.h 8000 []) :: .al 3 3 (.h 8001 []) :: .al 3 4 (.h 8002 []) :: .al 3 5 (.h 8003 []) :: .al 3 6 (.h 8004 []) :: .al 3 7 (.h 8005 []) :: .al 3 8 (.h 8006 []) :: .al 3 9 (.h 8007 []) :: .rt 8000 .row (tr (tickS u).1.Progs) :: .rt 8001 .row (tr (tickS u).1.Procs) :: .rt 8002 .row (tr (tickS u).1.Opens) :: .rt 8003 .row (tr (tickS u).1.Pipes) :: .rt 8004 .row (tr (tickS u).1.Files) :: .rt 8005 .row (tr (tickS u).1.Ready) :: .rt 8006 .row (tr (tickS u).1.Out) :: .rt 8007 .row (tr (tickS u).2) :: .sl 2 (.p 2 [] 10 0 0) :: .rt 2 .box (T.s 10 1 fun _ c => [T.v (iv 0), T.v (iv 0), T.s 1 0 fun _ _ => T.j, T.s 10 0 fun _ _ => T.j, T.s 5 0 fun _ _ => T.j, T.s 2 0 fun _ _ => T.j, T.s 2 0 fun _ _ => T.j, T.s 1 0 fun _ _ => T.j, T.s 1 0 fun _ _ => T.j, T.s 5 0 fun _ _ => T.j].getD c T.j) :: .rt base .row .j :: .rt (base + 1) .row .j :: .rt (base + 2) .row .j :: .rt (base + 3) .row .j :: .rt (base + 4) .row .j :: .rt (base + 5) .row .j :: .rt (base + 6) .row .j :: []) ?_ ?_
 ·refine sr ?_
  refine qq (fA fl112_0) ?_
  refine qq (fA fl31_7) ?_
  refine ql ag29 ?_
  refine nm ?_
  refine qh sl29 ?_
  refine qb ?_
  refine nc (fun c2 => ?_) fun c2 => ?_
  ·try simp only [cnd] at c2
   refine sr ?_
   refine qq (fA fl112_0) ?_
   refine nm ?_
   refine qq (fA fl31_7) ?_
   refine ql ag29 ?_
   refine qq (ix sl29 sz3) ?_
   refine nm ?_
   refine ql ag3 ?_
   refine qn ?_
   refine AW.seq ?_
   refine AW.draw [0, 1] rfl (by decide +kernel) ?_
   refine tk 0 rfl (Qt.loadG rfl rfl rfl ag112 sz112 (by decide)) ?_
   refine na ?_
   refine tk 1 rfl Qt.move ?_
   refine a1 2 [0] [1] rfl rfl (Stp.callR rfl (by decide) Tryz.call179 rfl rfl (l8E_con _ _ _ _) (nodup_of rfl) rfl rfl) ?_
   refine na ?_
   refine na ?_
   refine ae rfl (Qt.loadG rfl rfl rfl ag112 sz112 (by decide)) ?_
   refine na ?_
   refine a1 3 [] [2, 0, 1] rfl rfl (Stp.callH rfl (by decide) Tryz.call178 rfl (l8DoT_con (doT (u, []) (eK 24 0 0 0)).1 (doT (u, []) (eK 24 0 0 0)).2 (eK 22 ((doT (u, []) (eK 24 0 0 0)).1.Ready.getD 0 En.dflt) 0 0) hS0 (by simp [doT]) (.inr (.inr (.inl rfl)))) rfl rfl rfl (nodup_of rfl) rfl rfl) ?_
   refine na ?_
   refine na ?_
   refine a1 4 [] [3, 2, 1, 0] rfl rfl (by first | exact Stp.storeA rfl rfl rfl rfl (by decide) rfl | exact Stp.store rfl rfl (by simp) rfl rfl rfl (by decide) rfl) ?_
   refine na ?_
   refine na ?_
   refine nz ?_
   refine AW.draw [0, 1] rfl (by decide +kernel) ?_
   refine tk 0 rfl (Qt.loadG rfl rfl rfl ag112 sz112 (by decide)) ?_
   refine tk 1 rfl Qt.move ?_
   refine a1 2 [0] [1] rfl rfl (Stp.callR rfl (by decide) Tryz.call179 rfl rfl (l8E_con _ _ _ _) (nodup_of rfl) rfl rfl) ?_
   refine na ?_
   refine na ?_
   refine ae rfl (Qt.loadG rfl rfl rfl ag112 sz112 (by decide)) ?_
   refine na ?_
   refine a1 3 [] [2, 0, 1] rfl rfl (Stp.callH rfl (by decide) Tryz.call178 rfl (l8DoT_con (doT (doT (u, []) (eK 24 0 0 0)) (eK 22 ((doT (u, []) (eK 24 0 0 0)).1.Ready.getD 0 En.dflt) 0 0)).1 (doT (doT (u, []) (eK 24 0 0 0)) (eK 22 ((doT (u, []) (eK 24 0 0 0)).1.Ready.getD 0 En.dflt) 0 0)).2 (eK 21 ((doT (u, []) (eK 24 0 0 0)).1.Ready.getD 0 En.dflt) 0 0) (hS0.app _) (by simp [doT]) (.inr (.inl rfl))) rfl rfl rfl (nodup_of rfl) rfl rfl) ?_
   refine na ?_
   refine na ?_
   refine a1 4 [] [3, 2, 1, 0] rfl rfl (by first | exact Stp.storeA rfl rfl rfl rfl (by decide) rfl | exact Stp.store rfl rfl (by simp) rfl rfl rfl (by decide) rfl) ?_
   refine na ?_
   refine na ?_
   refine nz ?_
   have hx24 : (doT (u, []) (eK 24 0 0 0)).1.Ready.length = (applyT u (eK 24 0 0 0)).1.Ready.length := rfl
   have hts : tickS u = (doT (doT (doT (u, []) (eK 24 0 0 0)) (eK 22 ((doT (u, []) (eK 24 0 0 0)).1.Ready.getD 0 En.dflt) 0 0)) (eK 21 ((doT (u, []) (eK 24 0 0 0)).1.Ready.getD 0 En.dflt) 0 0)) := if_pos (by show (2 : Int) ≤ ((applyT u (eK 24 0 0 0)).1.Ready.length : Int); omega)
   refine Weak.trans (L1 := (.sl 3 (.p 3 [] 10 0 0) :: .rt 3 .box (T.s 10 1 fun _ c => [T.v (iv (tickS u).1.Next), T.v (iv (tickS u).1.Tick), T.j, T.j, T.j, T.j, T.j, T.j, T.j, T.j].getD c T.j) :: .al 3 2 (.h 35 []) :: .al 3 3 (.h 1035 []) :: .al 3 4 (.h 2035 []) :: .al 3 5 (.h 3035 []) :: .al 3 6 (.h 4035 []) :: .al 3 7 (.h 5035 []) :: .al 3 8 (.h 6035 []) :: .al 3 9 (.h 7035 []) :: .rt 35 .row (tr (tickS u).1.Progs) :: .rt 1035 .row (tr (tickS u).1.Procs) :: .rt 2035 .row (tr (tickS u).1.Opens) :: .rt 3035 .row (tr (tickS u).1.Pipes) :: .rt 4035 .row (tr (tickS u).1.Files) :: .rt 5035 .row (tr (tickS u).1.Ready) :: .rt 6035 .row (tr (tickS u).1.Out) :: .rt 7035 .row (tr (tickS u).2) :: .sl 2 (.p 2 [] 10 0 0) :: .rt 2 .box (T.s 10 1 fun _ c => [T.v (iv 0), T.v (iv 0), T.s 1 0 fun _ _ => T.j, T.s 10 0 fun _ _ => T.j, T.s 5 0 fun _ _ => T.j, T.s 2 0 fun _ _ => T.j, T.s 2 0 fun _ _ => T.j, T.s 1 0 fun _ _ => T.j, T.s 1 0 fun _ _ => T.j, T.s 5 0 fun _ _ => T.j].getD c T.j) :: .rt base .row .j :: .rt (base + 1) .row .j :: .rt (base + 2) .row .j :: .rt (base + 3) .row .j :: .rt (base + 4) .row .j :: .rt (base + 5) .row .j :: .rt (base + 6) .row .j :: [])) (Weak.sim ⟨rfl, ⟨_, rfl, (by rw [hts]; exact (sc_sim (n := 10) (fun c hc => match c, hc with | 0, _ => T.sim_refl _ | 1, _ => T.sim_refl _ | 2, _ => T.sim_refl _ | 3, _ => T.sim_refl _ | 4, _ => T.sim_refl _ | 5, _ => T.sim_refl _ | 6, _ => T.sim_refl _ | 7, _ => T.sim_refl _ | 8, _ => T.sim_refl _ | 9, _ => T.sim_refl _ | c + 10, hc => absurd hc (by omega))))⟩, ⟨rfl, rfl⟩, ⟨rfl, rfl⟩, ⟨rfl, rfl⟩, ⟨rfl, rfl⟩, ⟨rfl, rfl⟩, ⟨rfl, rfl⟩, ⟨rfl, rfl⟩, ⟨rfl, rfl⟩, ⟨_, rfl, (by rw [hts]; exact T.sim_refl _)⟩, ⟨_, rfl, (by rw [hts]; exact T.sim_refl _)⟩, ⟨_, rfl, (by rw [hts]; exact T.sim_refl _)⟩, ⟨_, rfl, (by rw [hts]; exact T.sim_refl _)⟩, ⟨_, rfl, (by rw [hts]; exact T.sim_refl _)⟩, ⟨_, rfl, (by rw [hts]; exact T.sim_refl _)⟩, ⟨_, rfl, (by rw [hts]; exact T.sim_refl _)⟩, ⟨_, rfl, (by rw [hts]; exact T.sim_refl _)⟩, rfl, ⟨_, rfl, (sc_sim (n := 10) (fun c hc => match c, hc with | 0, _ => T.sim_refl _ | 1, _ => T.sim_refl _ | 2, _ => T.sim_refl _ | 3, _ => T.sim_refl _ | 4, _ => T.sim_refl _ | 5, _ => T.sim_refl _ | 6, _ => T.sim_refl _ | 7, _ => T.sim_refl _ | 8, _ => T.sim_refl _ | 9, _ => T.sim_refl _ | c + 10, hc => absurd hc (by omega)))⟩, Rf rfl, Rf rfl, Rf rfl, Rf rfl, Rf rfl, Rf rfl, Rf rfl, trivial⟩ rfl rfl) (Weak.trans (Weak.renR (a := 35) (b := 8000) rfl (by decide) (by decide)) (Weak.trans (Weak.renR (a := 1035) (b := 8001) rfl (by decide) (by decide)) (Weak.trans (Weak.renR (a := 2035) (b := 8002) rfl (by decide) (by decide)) (Weak.trans (Weak.renR (a := 3035) (b := 8003) rfl (by decide) (by decide)) (Weak.trans (Weak.renR (a := 4035) (b := 8004) rfl (by decide) (by decide)) (Weak.trans (Weak.renR (a := 5035) (b := 8005) rfl (by decide) (by decide)) (Weak.trans (Weak.renR (a := 6035) (b := 8006) rfl (by decide) (by decide)) (Weak.renR (a := 7035) (b := 8007) rfl (by decide) (by decide)))))))))
  try simp only [cnd] at c2
  refine jd ?_
  have hx24 : (doT (u, []) (eK 24 0 0 0)).1.Ready.length = (applyT u (eK 24 0 0 0)).1.Ready.length := rfl
  have hts : tickS u = (doT (u, []) (eK 24 0 0 0)) := if_neg (by show ¬ (2 : Int) ≤ ((applyT u (eK 24 0 0 0)).1.Ready.length : Int); omega)
  refine Weak.trans (L1 := (.sl 3 (.p 3 [] 10 0 0) :: .rt 3 .box (T.s 10 1 fun _ c => [T.v (iv (tickS u).1.Next), T.v (iv (tickS u).1.Tick), T.j, T.j, T.j, T.j, T.j, T.j, T.j, T.j].getD c T.j) :: .al 3 2 (.h 17 []) :: .al 3 3 (.h 1017 []) :: .al 3 4 (.h 2017 []) :: .al 3 5 (.h 3017 []) :: .al 3 6 (.h 4017 []) :: .al 3 7 (.h 5017 []) :: .al 3 8 (.h 6017 []) :: .al 3 9 (.h 7017 []) :: .rt 17 .row (tr (tickS u).1.Progs) :: .rt 1017 .row (tr (tickS u).1.Procs) :: .rt 2017 .row (tr (tickS u).1.Opens) :: .rt 3017 .row (tr (tickS u).1.Pipes) :: .rt 4017 .row (tr (tickS u).1.Files) :: .rt 5017 .row (tr (tickS u).1.Ready) :: .rt 6017 .row (tr (tickS u).1.Out) :: .rt 7017 .row (tr (tickS u).2) :: .sl 2 (.p 2 [] 10 0 0) :: .rt 2 .box (T.s 10 1 fun _ c => [T.v (iv 0), T.v (iv 0), T.s 1 0 fun _ _ => T.j, T.s 10 0 fun _ _ => T.j, T.s 5 0 fun _ _ => T.j, T.s 2 0 fun _ _ => T.j, T.s 2 0 fun _ _ => T.j, T.s 1 0 fun _ _ => T.j, T.s 1 0 fun _ _ => T.j, T.s 5 0 fun _ _ => T.j].getD c T.j) :: .rt base .row .j :: .rt (base + 1) .row .j :: .rt (base + 2) .row .j :: .rt (base + 3) .row .j :: .rt (base + 4) .row .j :: .rt (base + 5) .row .j :: .rt (base + 6) .row .j :: [])) (Weak.sim ⟨rfl, ⟨_, rfl, (by rw [hts]; exact (sc_sim (n := 10) (fun c hc => match c, hc with | 0, _ => T.sim_refl _ | 1, _ => T.sim_refl _ | 2, _ => T.sim_refl _ | 3, _ => T.sim_refl _ | 4, _ => T.sim_refl _ | 5, _ => T.sim_refl _ | 6, _ => T.sim_refl _ | 7, _ => T.sim_refl _ | 8, _ => T.sim_refl _ | 9, _ => T.sim_refl _ | c + 10, hc => absurd hc (by omega))))⟩, ⟨rfl, rfl⟩, ⟨rfl, rfl⟩, ⟨rfl, rfl⟩, ⟨rfl, rfl⟩, ⟨rfl, rfl⟩, ⟨rfl, rfl⟩, ⟨rfl, rfl⟩, ⟨rfl, rfl⟩, ⟨_, rfl, (by rw [hts]; exact T.sim_refl _)⟩, ⟨_, rfl, (by rw [hts]; exact T.sim_refl _)⟩, ⟨_, rfl, (by rw [hts]; exact T.sim_refl _)⟩, ⟨_, rfl, (by rw [hts]; exact T.sim_refl _)⟩, ⟨_, rfl, (by rw [hts]; exact T.sim_refl _)⟩, ⟨_, rfl, (by rw [hts]; exact T.sim_refl _)⟩, ⟨_, rfl, (by rw [hts]; exact T.sim_refl _)⟩, ⟨_, rfl, (by rw [hts]; exact T.sim_refl _)⟩, rfl, ⟨_, rfl, (sc_sim (n := 10) (fun c hc => match c, hc with | 0, _ => T.sim_refl _ | 1, _ => T.sim_refl _ | 2, _ => T.sim_refl _ | 3, _ => T.sim_refl _ | 4, _ => T.sim_refl _ | 5, _ => T.sim_refl _ | 6, _ => T.sim_refl _ | 7, _ => T.sim_refl _ | 8, _ => T.sim_refl _ | 9, _ => T.sim_refl _ | c + 10, hc => absurd hc (by omega)))⟩, Rf rfl, Rf rfl, Rf rfl, Rf rfl, Rf rfl, Rf rfl, Rf rfl, trivial⟩ rfl rfl) (Weak.trans (Weak.renR (a := 17) (b := 8000) rfl (by decide) (by decide)) (Weak.trans (Weak.renR (a := 1017) (b := 8001) rfl (by decide) (by decide)) (Weak.trans (Weak.renR (a := 2017) (b := 8002) rfl (by decide) (by decide)) (Weak.trans (Weak.renR (a := 3017) (b := 8003) rfl (by decide) (by decide)) (Weak.trans (Weak.renR (a := 4017) (b := 8004) rfl (by decide) (by decide)) (Weak.trans (Weak.renR (a := 5017) (b := 8005) rfl (by decide) (by decide)) (Weak.trans (Weak.renR (a := 6017) (b := 8006) rfl (by decide) (by decide)) (Weak.renR (a := 7017) (b := 8007) rfl (by decide) (by decide)))))))))
 ·refine sr ?_
  refine sp sS ?_
  refine nm ?_
  refine qn ?_
  refine sr2 ?_
  refine qn ?_
  refine AW.block ?_
  refine AW.renR 36 75 rfl (by decide) (by decide) ?_
  refine AW.loopW (fun i : TkInv u => (.sl 6 (.v (iv i.k)) :: .sl 5 (.h 75 []) :: .rt 75 .row (tr (dueL (tickS u).1.Tick ((tickS u).1.Procs.take i.k))) :: .sl 3 (.p 3 [] 10 0 0) :: .rt 3 .box (T.s 10 1 fun _ c => [T.v (iv (tickS u).1.Next), T.v (iv (tickS u).1.Tick), T.j, T.j, T.j, T.j, T.j, T.j, T.j, T.j].getD c T.j) :: .al 3 2 (.h 8000 []) :: .al 3 3 (.h 8001 []) :: .al 3 4 (.h 8002 []) :: .al 3 5 (.h 8003 []) :: .al 3 6 (.h 8004 []) :: .al 3 7 (.h 8005 []) :: .al 3 8 (.h 8006 []) :: .al 3 9 (.h 8007 []) :: .rt 8000 .row (tr (tickS u).1.Progs) :: .rt 8001 .row (tr (tickS u).1.Procs) :: .rt 8002 .row (tr (tickS u).1.Opens) :: .rt 8003 .row (tr (tickS u).1.Pipes) :: .rt 8004 .row (tr (tickS u).1.Files) :: .rt 8005 .row (tr (tickS u).1.Ready) :: .rt 8006 .row (tr (tickS u).1.Out) :: .rt 8007 .row (tr (tickS u).2) :: .sl 2 (.p 2 [] 10 0 0) :: .rt 2 .box (T.s 10 1 fun _ c => [T.v (iv 0), T.v (iv 0), T.s 1 0 fun _ _ => T.j, T.s 10 0 fun _ _ => T.j, T.s 5 0 fun _ _ => T.j, T.s 2 0 fun _ _ => T.j, T.s 2 0 fun _ _ => T.j, T.s 1 0 fun _ _ => T.j, T.s 1 0 fun _ _ => T.j, T.s 5 0 fun _ _ => T.j].getD c T.j) :: .rt base .row .j :: .rt (base + 1) .row .j :: .rt (base + 2) .row .j :: .rt (base + 3) .row .j :: .rt (base + 4) .row .j :: .rt (base + 5) .row .j :: .rt (base + 6) .row .j :: [])) (fun i => (tickS u).1.Procs.length - i.k) ⟨0, Nat.zero_le _⟩ (Weak.sim ⟨rfl, rfl, ⟨_, rfl, sim_nil⟩, rfl, Rf rfl, ⟨rfl, rfl⟩, ⟨rfl, rfl⟩, ⟨rfl, rfl⟩, ⟨rfl, rfl⟩, ⟨rfl, rfl⟩, ⟨rfl, rfl⟩, ⟨rfl, rfl⟩, ⟨rfl, rfl⟩, Rf rfl, Rf rfl, Rf rfl, Rf rfl, Rf rfl, Rf rfl, Rf rfl, Rf rfl, rfl, Rf rfl, Rf rfl, Rf rfl, Rf rfl, Rf rfl, Rf rfl, Rf rfl, Rf rfl, trivial⟩ rfl rfl) ?_
  intro i
  have hle := i.le
  have hpl := hS.tickS.procs
  have hdl := dueL_len (tickS u).1.Tick ((tickS u).1.Procs.take i.k)
  rw [List.length_take] at hdl
  refine sr2 ?_
  refine mn ?_
  refine qq (fA fl112_0) ?_
  refine qq (fA fl31_3) ?_
  refine ql ag25 ?_
  refine nm ?_
  refine qh sl25 ?_
  refine qb ?_
  refine nc (fun c3 => ?_) fun c3 => ?_
  ·try simp only [cnd] at c3
   refine jd (AW.seq (AW.block (AW.seq ?_)))
   refine AW.draw [0, 1, 2, 3, 4, 5, 6, 7, 8, 9, 10, 11, 12, 13, 14, 15, 16, 17, 18, 19, 20] rfl (by decide +kernel) ?_
   refine tk 0 rfl (fA fl112_0) ?_
   refine na ?_
   refine tk 1 rfl (fA fl31_3) ?_
   refine tk 2 rfl (Qt.load1 rfl rfl rfl ag25) ?_
   refine tk 3 rfl Qt.move ?_
   refine na ?_
   refine tk 4 rfl (ix sl25 sz72) ?_
   refine tk 5 rfl (fA fl72_2) ?_
   refine tk 6 rfl (Qt.load1 rfl rfl rfl ag3) ?_
   refine na ?_
   refine tk 7 rfl (Qt.binOp rfl rfl rfl) ?_
   refine tk 8 rfl Qt.move ?_
   refine AWA.split 53 rfl (fun g4 => ?_) (fun g4 => ?_)
   ·refine tg 9 rfl g4 (fA fl112_0) ?_
    refine na ?_
    refine tg 10 rfl g4 (fA fl31_3) ?_
    refine tg 11 rfl g4 (Qt.load1 rfl rfl rfl ag25) ?_
    refine tg 12 rfl g4 Qt.move ?_
    refine na ?_
    refine tg 13 rfl g4 (ix sl25 sz72) ?_
    refine tg 14 rfl g4 (fA fl72_7) ?_
    refine tg 15 rfl g4 (Qt.load1 rfl rfl rfl ag3) ?_
    refine na ?_
    refine tg 16 rfl g4 (fA fl112_0) ?_
    refine tg 17 rfl g4 (fA fl31_1) ?_
    refine tg 18 rfl g4 (Qt.load1 rfl rfl rfl ag3) ?_
    refine na ?_
    refine tg 19 rfl g4 (Qt.binOp rfl rfl rfl) ?_
    refine tk 20 rfl (Qt.pickT rfl g4) ?_
    refine nz ?_
    refine cd (fun c5 => ?_) fun c5 => ?_
    ·have k5 := c5
     try simp only [cnd] at c5
     have hdue : dueP (tickS u).1.Tick ((tickS u).1.Procs.getD i.k En.dflt) = true := by
      have hk := k5
      unfold dueP
      first | grind only | simp_all
     refine AW.region ?_
     refine mn ?_
     refine qq (fA fl112_0) ?_
     refine qq (fA fl31_3) ?_
     refine ql ag25 ?_
     refine nm ?_
     refine qm ?_
     refine qq (ix sl25 sz72) ?_
     refine qq (fA fl72_0) ?_
     refine nm ?_
     refine ql ag3 ?_
     refine sp sS ?_
     refine nm ?_
     refine sp (by first | exact Stp.appendC rfl (by decide) (by decide) rfl rfl (by omega) | exact Stp.appendM rfl (by decide) (by decide) rfl rfl rfl (by omega)) ?_
     refine nm ?_
     refine AWL.rep 75 (tr (dueL (tickS u).1.Tick ((tickS u).1.Procs.take (i.k + 1)))) rfl (by rw [due_yes (by omega) hdue]; exact (app_one (α := Int) (a := ((tickS u).1.Procs.getD i.k En.dflt).Pid) (fun c hc => match c, hc with | 0, _ => rfl | c + 1, hc => absurd hc (by simp only [En.n]; omega)))) ?_
     refine nm ?_
     refine qn ?_
     refine AW.region ?_
     refine qm ?_
     refine ba ?_
     refine nm ?_
     refine qn ?_
     refine ⟨⟨i.k + 1, by omega⟩, Weak.sim ⟨st1, rfl, Rf rfl, rfl, Rf rfl, ⟨rfl, rfl⟩, ⟨rfl, rfl⟩, ⟨rfl, rfl⟩, ⟨rfl, rfl⟩, ⟨rfl, rfl⟩, ⟨rfl, rfl⟩, ⟨rfl, rfl⟩, ⟨rfl, rfl⟩, Rf rfl, Rf rfl, Rf rfl, Rf rfl, Rf rfl, Rf rfl, Rf rfl, Rf rfl, rfl, Rf rfl, Rf rfl, Rf rfl, Rf rfl, Rf rfl, Rf rfl, Rf rfl, Rf rfl, trivial⟩ rfl rfl, ?_⟩
     show (tickS u).1.Procs.length - (i.k + 1) < (tickS u).1.Procs.length - i.k
     omega
    have k5 := c5
    try simp only [cnd] at c5
    have hdue : dueP (tickS u).1.Tick ((tickS u).1.Procs.getD i.k En.dflt) = false := by
     have hk := k5
     unfold dueP
     first | grind only | simp_all
    refine jd (AW.region ?_)
    refine qm ?_
    refine ba ?_
    refine nm ?_
    refine qn ?_
    refine ⟨⟨i.k + 1, by omega⟩, Weak.sim ⟨st1, rfl, ⟨_, rfl, (by rw [due_no (by omega) hdue]; exact T.sim_refl _)⟩, rfl, Rf rfl, ⟨rfl, rfl⟩, ⟨rfl, rfl⟩, ⟨rfl, rfl⟩, ⟨rfl, rfl⟩, ⟨rfl, rfl⟩, ⟨rfl, rfl⟩, ⟨rfl, rfl⟩, ⟨rfl, rfl⟩, Rf rfl, Rf rfl, Rf rfl, Rf rfl, Rf rfl, Rf rfl, Rf rfl, Rf rfl, rfl, Rf rfl, Rf rfl, Rf rfl, Rf rfl, Rf rfl, Rf rfl, Rf rfl, Rf rfl, trivial⟩ rfl rfl, ?_⟩
    show (tickS u).1.Procs.length - (i.k + 1) < (tickS u).1.Procs.length - i.k
    omega
   refine tf 9 g4 ?_
   refine tf 10 g4 ?_
   refine na ?_
   refine tf 11 g4 ?_
   refine tf 12 g4 ?_
   refine tf 13 g4 ?_
   refine na ?_
   refine tf 14 g4 ?_
   refine tf 15 g4 ?_
   refine tf 16 g4 ?_
   refine na ?_
   refine tf 17 g4 ?_
   refine tf 18 g4 ?_
   refine tf 19 g4 ?_
   refine na ?_
   refine tk 20 rfl (Qt.pickF rfl g4) ?_
   refine nz ?_
   refine cd (fun c6 => ?_) fun c6 => ?_
   ·have k6 := c6
    try simp only [cnd] at c6
    have hdue : dueP (tickS u).1.Tick ((tickS u).1.Procs.getD i.k En.dflt) = true := by
     have hk := k6
     unfold dueP
     first | grind only | simp_all
    refine AW.region ?_
    refine qm ?_
    refine qq (fA fl112_0) ?_
    refine nm ?_
    refine qq (fA fl31_3) ?_
    refine ql ag25 ?_
    refine mn ?_
    refine qq (ix sl25 sz72) ?_
    refine qq (fA fl72_0) ?_
    refine ql ag3 ?_
    refine nm ?_
    refine sp sS ?_
    refine nm ?_
    refine sp (by first | exact Stp.appendC rfl (by decide) (by decide) rfl rfl (by omega) | exact Stp.appendM rfl (by decide) (by decide) rfl rfl rfl (by omega)) ?_
    refine nm ?_
    refine AWL.rep 75 (tr (dueL (tickS u).1.Tick ((tickS u).1.Procs.take (i.k + 1)))) rfl (by rw [due_yes (by omega) hdue]; exact (app_one (α := Int) (a := ((tickS u).1.Procs.getD i.k En.dflt).Pid) (fun c hc => match c, hc with | 0, _ => rfl | c + 1, hc => absurd hc (by simp only [En.n]; omega)))) ?_
    refine nm ?_
    refine qn ?_
    refine AW.region ?_
    refine qm ?_
    refine ba ?_
    refine nm ?_
    refine qn ?_
    refine ⟨⟨i.k + 1, by omega⟩, Weak.sim ⟨st1, rfl, Rf rfl, rfl, Rf rfl, ⟨rfl, rfl⟩, ⟨rfl, rfl⟩, ⟨rfl, rfl⟩, ⟨rfl, rfl⟩, ⟨rfl, rfl⟩, ⟨rfl, rfl⟩, ⟨rfl, rfl⟩, ⟨rfl, rfl⟩, Rf rfl, Rf rfl, Rf rfl, Rf rfl, Rf rfl, Rf rfl, Rf rfl, Rf rfl, rfl, Rf rfl, Rf rfl, Rf rfl, Rf rfl, Rf rfl, Rf rfl, Rf rfl, Rf rfl, trivial⟩ rfl rfl, ?_⟩
    show (tickS u).1.Procs.length - (i.k + 1) < (tickS u).1.Procs.length - i.k
    omega
   have k6 := c6
   try simp only [cnd] at c6
   have hdue : dueP (tickS u).1.Tick ((tickS u).1.Procs.getD i.k En.dflt) = false := by
    have hk := k6
    unfold dueP
    first | grind only | simp_all
   refine jd (AW.region ?_)
   refine qm ?_
   refine ba ?_
   refine nm ?_
   refine qn ?_
   refine ⟨⟨i.k + 1, by omega⟩, Weak.sim ⟨st1, rfl, ⟨_, rfl, (by rw [due_no (by omega) hdue]; exact T.sim_refl _)⟩, rfl, Rf rfl, ⟨rfl, rfl⟩, ⟨rfl, rfl⟩, ⟨rfl, rfl⟩, ⟨rfl, rfl⟩, ⟨rfl, rfl⟩, ⟨rfl, rfl⟩, ⟨rfl, rfl⟩, ⟨rfl, rfl⟩, Rf rfl, Rf rfl, Rf rfl, Rf rfl, Rf rfl, Rf rfl, Rf rfl, Rf rfl, rfl, Rf rfl, Rf rfl, Rf rfl, Rf rfl, Rf rfl, Rf rfl, Rf rfl, Rf rfl, trivial⟩ rfl rfl, ?_⟩
   show (tickS u).1.Procs.length - (i.k + 1) < (tickS u).1.Procs.length - i.k
   omega
  try simp only [cnd] at c3
  refine AW.rep 75 (tr (dueL (tickS u).1.Tick (tickS u).1.Procs)) rfl (by rw [List.take_of_length_le (by omega)]; exact T.sim_refl _) ?_
  refine AW.exit ?_
  dsimp only [thenQ, blockQ, reduceIte]
  refine sr2 ?_
  refine qn ?_
  refine AW.block ?_
  refine AW.loopW (fun i : WkInv u => (.sl 7 (.v (iv i.k)) :: .sl 5 (.h 75 []) :: .rt 75 .row (tr (dueL (tickS u).1.Tick (tickS u).1.Procs)) :: .sl 3 (.p 3 [] 10 0 0) :: .rt 3 .box (T.s 10 1 fun _ c => [T.v (iv i.s.1.Next), T.v (iv i.s.1.Tick), T.j, T.j, T.j, T.j, T.j, T.j, T.j, T.j].getD c T.j) :: .al 3 2 (.h 8000 []) :: .al 3 3 (.h 8001 []) :: .al 3 4 (.h 8002 []) :: .al 3 5 (.h 8003 []) :: .al 3 6 (.h 8004 []) :: .al 3 7 (.h 8005 []) :: .al 3 8 (.h 8006 []) :: .al 3 9 (.h 8007 []) :: .rt 8000 .row (tr i.s.1.Progs) :: .rt 8001 .row (tr i.s.1.Procs) :: .rt 8002 .row (tr i.s.1.Opens) :: .rt 8003 .row (tr i.s.1.Pipes) :: .rt 8004 .row (tr i.s.1.Files) :: .rt 8005 .row (tr i.s.1.Ready) :: .rt 8006 .row (tr i.s.1.Out) :: .rt 8007 .row (tr i.s.2) :: .sl 2 (.p 2 [] 10 0 0) :: .rt 2 .box (T.s 10 1 fun _ c => [T.v (iv 0), T.v (iv 0), T.s 1 0 fun _ _ => T.j, T.s 10 0 fun _ _ => T.j, T.s 5 0 fun _ _ => T.j, T.s 2 0 fun _ _ => T.j, T.s 2 0 fun _ _ => T.j, T.s 1 0 fun _ _ => T.j, T.s 1 0 fun _ _ => T.j, T.s 5 0 fun _ _ => T.j].getD c T.j) :: .rt base .row .j :: .rt (base + 1) .row .j :: .rt (base + 2) .row .j :: .rt (base + 3) .row .j :: .rt (base + 4) .row .j :: .rt (base + 5) .row .j :: .rt (base + 6) .row .j :: [])) (fun i => (dueL (tickS u).1.Tick (tickS u).1.Procs).length - i.k) ⟨0, Nat.zero_le _⟩ (Weak.sim ⟨rfl, rfl, Rf rfl, rfl, Rf rfl, ⟨rfl, rfl⟩, ⟨rfl, rfl⟩, ⟨rfl, rfl⟩, ⟨rfl, rfl⟩, ⟨rfl, rfl⟩, ⟨rfl, rfl⟩, ⟨rfl, rfl⟩, ⟨rfl, rfl⟩, Rf rfl, Rf rfl, Rf rfl, Rf rfl, Rf rfl, Rf rfl, Rf rfl, Rf rfl, rfl, Rf rfl, Rf rfl, Rf rfl, Rf rfl, Rf rfl, Rf rfl, Rf rfl, Rf rfl, trivial⟩ rfl rfl) ?_
  intro i
  have hle := i.le
  have hpl := hS.tickS.procs
  have hdl := dueL_len (tickS u).1.Tick (tickS u).1.Procs
  refine sr2 ?_
  refine mn ?_
  refine qm ?_
  refine qh sl29 ?_
  refine qb ?_
  refine nc (fun c7 => ?_) fun c7 => ?_
  ·try simp only [cnd] at c7
   refine jd (AW.seq (AW.block ?_))
   refine AW.draw [0, 1, 2, 3, 4] rfl (by decide +kernel) ?_
   refine tk 0 rfl (Qt.loadG rfl rfl rfl ag112 sz112 (by decide)) ?_
   refine na ?_
   refine tk 1 rfl Qt.move ?_
   refine tk 2 rfl Qt.move ?_
   refine tk 3 rfl (ix sl29 sz3) ?_
   refine na ?_
   refine tk 4 rfl (Qt.load1 rfl rfl rfl ag3) ?_
   refine a1 5 [] [4, 0, 3, 2, 1] rfl rfl (Stp.callH rfl (by decide) Tryz.call180 rfl (l8WakeT_con i.s.1 i.s.2 _ (i.shp hS) (by have := i.len hS; omega)) rfl rfl rfl (nodup_of rfl) rfl rfl) ?_
   refine na ?_
   refine na ?_
   refine a1 6 [] [5, 4, 3, 2, 1, 0] rfl rfl (by first | exact Stp.storeA rfl rfl rfl rfl (by decide) rfl | exact Stp.store rfl rfl (by simp) rfl rfl rfl (by decide) rfl) ?_
   refine na ?_
   refine na ?_
   refine nz ?_
   refine AW.region ?_
   refine qm ?_
   refine ba ?_
   refine qn ?_
   refine ⟨⟨i.k + 1, by omega⟩, Weak.trans (L1 := (.sl 7 (.v (iv (i.k + 1 : Nat))) :: .sl 5 (.h 75 []) :: .rt 75 .row (tr (dueL (tickS u).1.Tick (tickS u).1.Procs)) :: .sl 3 (.p 3 [] 10 0 0) :: .rt 3 .box (T.s 10 1 fun _ c => [T.v (iv (⟨i.k + 1, by omega⟩ : WkInv u).s.1.Next), T.v (iv (⟨i.k + 1, by omega⟩ : WkInv u).s.1.Tick), T.j, T.j, T.j, T.j, T.j, T.j, T.j, T.j].getD c T.j) :: .al 3 2 (.h 87 []) :: .al 3 3 (.h 1087 []) :: .al 3 4 (.h 2087 []) :: .al 3 5 (.h 3087 []) :: .al 3 6 (.h 4087 []) :: .al 3 7 (.h 5087 []) :: .al 3 8 (.h 6087 []) :: .al 3 9 (.h 7087 []) :: .rt 87 .row (tr (⟨i.k + 1, by omega⟩ : WkInv u).s.1.Progs) :: .rt 1087 .row (tr (⟨i.k + 1, by omega⟩ : WkInv u).s.1.Procs) :: .rt 2087 .row (tr (⟨i.k + 1, by omega⟩ : WkInv u).s.1.Opens) :: .rt 3087 .row (tr (⟨i.k + 1, by omega⟩ : WkInv u).s.1.Pipes) :: .rt 4087 .row (tr (⟨i.k + 1, by omega⟩ : WkInv u).s.1.Files) :: .rt 5087 .row (tr (⟨i.k + 1, by omega⟩ : WkInv u).s.1.Ready) :: .rt 6087 .row (tr (⟨i.k + 1, by omega⟩ : WkInv u).s.1.Out) :: .rt 7087 .row (tr (⟨i.k + 1, by omega⟩ : WkInv u).s.2) :: .sl 2 (.p 2 [] 10 0 0) :: .rt 2 .box (T.s 10 1 fun _ c => [T.v (iv 0), T.v (iv 0), T.s 1 0 fun _ _ => T.j, T.s 10 0 fun _ _ => T.j, T.s 5 0 fun _ _ => T.j, T.s 2 0 fun _ _ => T.j, T.s 2 0 fun _ _ => T.j, T.s 1 0 fun _ _ => T.j, T.s 1 0 fun _ _ => T.j, T.s 5 0 fun _ _ => T.j].getD c T.j) :: .rt base .row .j :: .rt (base + 1) .row .j :: .rt (base + 2) .row .j :: .rt (base + 3) .row .j :: .rt (base + 4) .row .j :: .rt (base + 5) .row .j :: .rt (base + 6) .row .j :: [])) (Weak.sim ⟨st1, rfl, Rf rfl, rfl, ⟨_, rfl, (by rw [← i.nx (by omega)]; exact (sc_sim (n := 10) (fun c hc => match c, hc with | 0, _ => T.sim_refl _ | 1, _ => T.sim_refl _ | 2, _ => T.sim_refl _ | 3, _ => T.sim_refl _ | 4, _ => T.sim_refl _ | 5, _ => T.sim_refl _ | 6, _ => T.sim_refl _ | 7, _ => T.sim_refl _ | 8, _ => T.sim_refl _ | 9, _ => T.sim_refl _ | c + 10, hc => absurd hc (by omega))))⟩, ⟨rfl, rfl⟩, ⟨rfl, rfl⟩, ⟨rfl, rfl⟩, ⟨rfl, rfl⟩, ⟨rfl, rfl⟩, ⟨rfl, rfl⟩, ⟨rfl, rfl⟩, ⟨rfl, rfl⟩, ⟨_, rfl, (by rw [← i.nx (by omega)]; exact T.sim_refl _)⟩, ⟨_, rfl, (by rw [← i.nx (by omega)]; exact T.sim_refl _)⟩, ⟨_, rfl, (by rw [← i.nx (by omega)]; exact T.sim_refl _)⟩, ⟨_, rfl, (by rw [← i.nx (by omega)]; exact T.sim_refl _)⟩, ⟨_, rfl, (by rw [← i.nx (by omega)]; exact T.sim_refl _)⟩, ⟨_, rfl, (by rw [← i.nx (by omega)]; exact T.sim_refl _)⟩, ⟨_, rfl, (by rw [← i.nx (by omega)]; exact T.sim_refl _)⟩, ⟨_, rfl, (by rw [← i.nx (by omega)]; exact T.sim_refl _)⟩, rfl, ⟨_, rfl, (sc_sim (n := 10) (fun c hc => match c, hc with | 0, _ => T.sim_refl _ | 1, _ => T.sim_refl _ | 2, _ => T.sim_refl _ | 3, _ => T.sim_refl _ | 4, _ => T.sim_refl _ | 5, _ => T.sim_refl _ | 6, _ => T.sim_refl _ | 7, _ => T.sim_refl _ | 8, _ => T.sim_refl _ | 9, _ => T.sim_refl _ | c + 10, hc => absurd hc (by omega)))⟩, Rf rfl, Rf rfl, Rf rfl, Rf rfl, Rf rfl, Rf rfl, Rf rfl, trivial⟩ rfl rfl) (Weak.trans (Weak.renR (a := 87) (b := 8000) rfl (by decide) (by decide)) (Weak.trans (Weak.renR (a := 1087) (b := 8001) rfl (by decide) (by decide)) (Weak.trans (Weak.renR (a := 2087) (b := 8002) rfl (by decide) (by decide)) (Weak.trans (Weak.renR (a := 3087) (b := 8003) rfl (by decide) (by decide)) (Weak.trans (Weak.renR (a := 4087) (b := 8004) rfl (by decide) (by decide)) (Weak.trans (Weak.renR (a := 5087) (b := 8005) rfl (by decide) (by decide)) (Weak.trans (Weak.renR (a := 6087) (b := 8006) rfl (by decide) (by decide)) (Weak.renR (a := 7087) (b := 8007) rfl (by decide) (by decide))))))))), ?_⟩
   show (dueL (tickS u).1.Tick (tickS u).1.Procs).length - (i.k + 1) < (dueL (tickS u).1.Tick (tickS u).1.Procs).length - i.k
   omega
  try simp only [cnd] at c7
  refine AW.exit ?_
  dsimp only [thenQ, blockQ, reduceIte]
  refine sr ?_
  refine qG ag112 sz112 ?_
  refine nm ?_
  refine ss ?_
  refine nl ?_
  refine AW.ret (endQ_ret (.cons (.cellG 2 112 rfl rfl rfl ag112 sz112 (by decide)) .nil) ?_)
  rw [show tickW u = i.s from by rw [i.full (by omega)]; exact if_neg (by omega)]
  refine ⟨fun n => if n = 0 then 8000 else if n = 1 then 8001 else if n = 2 then 8002 else if n = 3 then 8003 else if n = 4 then 8004 else if n = 5 then 8005 else if n = 6 then 8006 else if n = 7 then 8007 else n, rfl, (fun n hn => by simp only [base] at hn; dsimp only; repeat (rw [if_neg (by omega)])), nodup_of rfl, (fun r hr => by simp only [List.mem_cons, List.not_mem_nil, or_false] at hr; rcases hr with rfl | rfl | rfl | rfl | rfl | rfl | rfl | rfl <;> exact ⟨by simp, rootL_mem rfl, of_decide_eq_true rfl⟩), ?_⟩
  intro p hp
  simp only [List.mem_cons, List.not_mem_nil, or_false] at hp
  rcases hp with rfl | rfl | rfl | rfl | rfl | rfl | rfl <;> exact rootL_mem rfl
end Go.Proofs.YtfbefcmeghpalaaGreat.VM
