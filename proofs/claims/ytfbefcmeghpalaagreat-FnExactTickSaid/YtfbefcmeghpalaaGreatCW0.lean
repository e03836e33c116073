/- Contracts of functions of the program. No conditions beyond those that each states. -/
import Derived.Test.YtfbefcmeghpalaaGreatCU5
import Derived.Test.YtfbefcmeghpalaaGreatVmD
set_option linter.all false
set_option maxHeartbeats 8000000
set_option maxRecDepth 10000
namespace Go.Proofs.YtfbefcmeghpalaaGreat.VM
/-! the small changes of a Unix, as plain functions -/
def cutL {α : Type} (l : List α) (i : Nat) : List α := l.take i ++ l.drop (i + 1)
theorem cutL_len {α : Type} {l : List α} {i : Nat} (h : i < l.length) : (cutL l i).length = l.length - 1 := by
 simp [cutL]; omega
def rdyAt (u : DUnix) (a : Int) : Int := ixOf (fun x : Int => a == x) u.Ready
/-- the effects on what there is once -/
def restF (u : DUnix) (e : DEff) : DUnix × Bool :=
 if e.Kind = 21 then (if (6 : Int) ≤ u.Ready.length then (u, false) else ({ u with Ready := u.Ready ++ [e.A] }, true))
 else if e.Kind = 22 then (if rdyAt u e.A < 0 then (u, false) else ({ u with Ready := cutL u.Ready (rdyAt u e.A).toNat }, true))
 else if e.Kind = 23 then (if (60 : Int) ≤ u.Out.length then (u, false) else ({ u with Out := u.Out ++ [e.A] }, true))
 else if e.Kind = 24 then (if 1000000 ≤ u.Tick then (u, false) else ({ u with Tick := u.Tick + 1 }, true))
 else (u, false)
def setProc (u : DUnix) (i : Nat) (p : DProc) : DUnix := { u with Procs := u.Procs.set i p }
/-- a process gets a state -/
def stateF (u : DUnix) (i : Nat) (e : DEff) : DUnix := setProc u i { u.Procs.getD i En.dflt with State := e.B, Until := e.C }
/-- the effects of a tick -/
def applyT (u : DUnix) (e : DEff) : DUnix × Bool :=
 if e.Kind = 3 then (if procAt u e.A < 0 then (u, false) else (stateF u (procAt u e.A).toNat e, true)) else restF u e
/-- what bounds all that is counted -/
structure Shp (u : DUnix) : Prop where
 tick : 0 ≤ u.Tick ∧ u.Tick ≤ 1000000
 next : 1 ≤ u.Next ∧ u.Next ≤ 100000
 procs : u.Procs.length ≤ 6
 ready : u.Ready.length ≤ 6
 out : u.Out.length ≤ 60
theorem Shp.rest {u : DUnix} (h : Shp u) (e : DEff) : Shp (restF u e).1 := by
 have h1 := h.tick; have h2 := h.next; have h3 := h.procs; have h4 := h.ready; have h5 := h.out
 unfold restF
 repeat' split
 all_goals first | exact h | skip
 ·exact ⟨h1, h2, h3, by simp; omega, h5⟩
 ·rename_i hk
  have hb := (ixOf_bd (fun x : Int => e.A == x) u.Ready)
  refine ⟨h1, h2, h3, ?_, h5⟩
  show (cutL u.Ready (rdyAt u e.A).toNat).length ≤ 6
  rw [cutL_len (by unfold rdyAt; unfold rdyAt at hk; omega)]
  omega
 ·exact ⟨h1, h2, h3, h4, by simp; omega⟩
 ·exact ⟨⟨by show 0 ≤ u.Tick + 1; omega, by show u.Tick + 1 ≤ 1000000; omega⟩, h2, h3, h4, h5⟩
theorem Shp.state {u : DUnix} (h : Shp u) (i : Nat) (e : DEff) : Shp (stateF u i e) := ⟨h.tick, h.next, by show (u.Procs.set i _).length ≤ 6; rw [List.length_set]; exact h.procs, h.ready, h.out⟩
theorem Shp.app {u : DUnix} (h : Shp u) (e : DEff) : Shp (applyT u e).1 := by
 unfold applyT
 split
 ·split
  ·exact h
  ·exact h.state _ _
 ·exact h.rest e
def eK (k a b c : Int) : DEff := ⟨k, a, b, c, []⟩
/-- a Unix, and the effects that made it -/
def doT (s : DUnix × List DEff) (e : DEff) : DUnix × List DEff := ((applyT s.1 e).1, s.2 ++ [e])
def wakeT (s : DUnix × List DEff) (pid : Int) : DUnix × List DEff := doT (doT s (eK 3 pid 1 0)) (eK 21 pid 0 0)
theorem sc_sim {n : Nat} {f : Nat → Nat → T} {l : List T} (h : ∀ c, c < n → (f 0 c).sim (l.getD c .j)) : (T.s n 1 f).sim (T.s n 1 fun _ c => l.getD c .j) := by
 refine ⟨_, rfl, fun k c hk hc => ?_⟩
 obtain rfl : k = 0 := by omega
 exact h c hc
theorem applyT_tick {u : DUnix} {e : DEff} (h : e.Kind = 3 ∨ e.Kind = 21 ∨ e.Kind = 22) : (applyT u e).1.Tick = u.Tick := by
 unfold applyT restF
 rcases h with h | h | h <;> simp [h] <;> split <;> rfl
theorem Shp.doT {s : DUnix × List DEff} (h : Shp s.1) (e : DEff) : Shp (doT s e).1 := h.app e
theorem Shp.wake {s : DUnix × List DEff} (h : Shp s.1) (pid : Int) : Shp (wakeT s pid).1 := (h.doT _).doT _
theorem wakeT_tick (s : DUnix × List DEff) (pid : Int) : (wakeT s pid).1.Tick = s.1.Tick := by
 show (applyT (applyT s.1 _).1 _).1.Tick = _
 rw [applyT_tick (.inr (.inl rfl)), applyT_tick (.inl rfl)]
theorem wakeT_len (s : DUnix × List DEff) (pid : Int) : (wakeT s pid).2.length = s.2.length + 2 := by
 simp [wakeT, doT]
/-- a tick, ahead of the waking -/
def tickS (u : DUnix) : DUnix × List DEff :=
 if (2 : Int) ≤ (doT (u, []) (eK 24 0 0 0)).1.Ready.length then
  doT (doT (doT (u, []) (eK 24 0 0 0)) (eK 22 ((doT (u, []) (eK 24 0 0 0)).1.Ready.getD 0 En.dflt) 0 0)) (eK 21 ((doT (u, []) (eK 24 0 0 0)).1.Ready.getD 0 En.dflt) 0 0)
 else doT (u, []) (eK 24 0 0 0)
def dueP (t : Int) (p : DProc) : Bool := p.State == 2 && decide (p.Until ≤ t)
def wakeL (s : DUnix × List DEff) (l : List Int) : DUnix × List DEff := l.foldl wakeT s
def dueL (t : Int) (l : List DProc) : List Int := (l.filter (dueP t)).map (·.Pid)
/-- what a tick does -/
def tickE (u : DUnix) : DUnix × List DEff := wakeL (tickS u) (dueL (tickS u).1.Tick (tickS u).1.Procs)
theorem Shp.wakeL {s : DUnix × List DEff} (h : Shp s.1) : ∀ l : List Int, Shp (wakeL s l).1 := by
 intro l
 induction l generalizing s with
 | nil => exact h
 | cons p l ih => exact ih (h.wake p)
theorem wakeL_tick : ∀ (l : List Int) (s : DUnix × List DEff), (wakeL s l).1.Tick = s.1.Tick
 | [], _ => rfl
 | p :: l, s => (wakeL_tick l (wakeT s p)).trans (wakeT_tick s p)
theorem wakeL_len : ∀ (l : List Int) (s : DUnix × List DEff), (wakeL s l).2.length = s.2.length + 2 * l.length
 | [], _ => rfl
 | p :: l, s => by
  have h1 : (wakeL s (p :: l)).2.length = (wakeL (wakeT s p) l).2.length := rfl
  rw [h1, wakeL_len l (wakeT s p), wakeT_len, List.length_cons]
  omega
theorem wakeL_snoc (s : DUnix × List DEff) (l : List Int) (p : Int) : wakeL s (l ++ [p]) = wakeT (wakeL s l) p := by simp [wakeL]
theorem dueL_len (t : Int) (l : List DProc) : (dueL t l).length ≤ l.length := by
 rw [dueL, List.length_map]; exact List.length_filter_le ..
theorem take_snocW {α : Type} {l : List α} {k : Nat} (d : α) (h : k < l.length) : l.take (k + 1) = l.take k ++ [l.getD k d] := by
 rw [List.take_add_one, List.getElem?_eq_getElem h]
 simp [List.getD_eq_getElem?_getD, h]
theorem due_snoc (t : Int) (a : List DProc) (b : DProc) : dueL t (a ++ [b]) = dueL t a ++ (if dueP t b = true then [b.Pid] else []) := by
 rw [dueL, List.filter_append, List.map_append]
 congr 1
 rw [List.filter_cons]
 split <;> simp
theorem due_yes {t : Int} {l : List DProc} {k : Nat} (hk : k < l.length) (h : dueP t (l.getD k En.dflt) = true) : dueL t (l.take (k + 1)) = dueL t (l.take k) ++ [(l.getD k En.dflt).Pid] := by
 rw [take_snocW En.dflt hk, due_snoc, if_pos h]
theorem due_no {t : Int} {l : List DProc} {k : Nat} (hk : k < l.length) (h : dueP t (l.getD k En.dflt) = false) : dueL t (l.take (k + 1)) = dueL t (l.take k) := by
 rw [take_snocW En.dflt hk, due_snoc, if_neg (fun e => by rw [h] at e; cases e), List.append_nil]
theorem Shp.tickS {u : DUnix} (h : Shp u) : Shp (tickS u).1 := by
 have h0 : Shp ((u, ([] : List DEff))).1 := h
 unfold VM.tickS
 split
 ·exact ((h0.doT _).doT _).doT _
 ·exact h0.doT _
theorem tickS_len (u : DUnix) : (tickS u).2.length ≤ 3 := by
 unfold tickS
 split <;> simp [doT]
/-- how far the waking has come -/
structure TkInv (u : DUnix) where
 k : Nat
 le : k ≤ (tickS u).1.Procs.length
def TkInv.s {u : DUnix} (i : TkInv u) : DUnix × List DEff := wakeL (tickS u) (dueL (tickS u).1.Tick ((tickS u).1.Procs.take i.k))
theorem TkInv.shp {u : DUnix} (i : TkInv u) (h : Shp u) : Shp i.s.1 := h.tickS.wakeL _
theorem TkInv.tick {u : DUnix} (i : TkInv u) : i.s.1.Tick = (tickS u).1.Tick := wakeL_tick _ _
theorem TkInv.len {u : DUnix} (i : TkInv u) (h : Shp u) : i.s.2.length ≤ 100 := by
 have h1 := tickS_len u
 have h2 := wakeL_len (dueL (VM.tickS u).1.Tick ((VM.tickS u).1.Procs.take i.k)) (VM.tickS u)
 have h3 := dueL_len (VM.tickS u).1.Tick ((VM.tickS u).1.Procs.take i.k)
 have h4 := h.tickS.procs
 have h5 : ((VM.tickS u).1.Procs.take i.k).length ≤ (VM.tickS u).1.Procs.length := by rw [List.length_take]; omega
 show (wakeL _ _).2.length ≤ 100
 omega
theorem TkInv.yes {u : DUnix} (i : TkInv u) (hk : i.k < (VM.tickS u).1.Procs.length) (h : dueP (VM.tickS u).1.Tick ((VM.tickS u).1.Procs.getD i.k En.dflt) = true) : wakeT i.s ((VM.tickS u).1.Procs.getD i.k En.dflt).Pid = (⟨i.k + 1, hk⟩ : TkInv u).s := by
 show _ = wakeL _ _
 rw [due_yes hk h, wakeL_snoc]
 rfl
theorem TkInv.no {u : DUnix} (i : TkInv u) (hk : i.k < (VM.tickS u).1.Procs.length) (h : dueP (VM.tickS u).1.Tick ((VM.tickS u).1.Procs.getD i.k En.dflt) = false) : i.s = (⟨i.k + 1, hk⟩ : TkInv u).s := by
 show _ = wakeL _ _
 rw [due_no hk h]
 rfl
theorem TkInv.full {u : DUnix} (i : TkInv u) (hk : ¬ i.k < (VM.tickS u).1.Procs.length) : i.s = tickE u := by
 show wakeL _ _ = wakeL _ _
 rw [List.take_of_length_le (by omega)]
/-- rows, without what lies behind them -/
def flT {α : Type} [En α] (l : List α) : T := .s (En.n α) l.length fun k c => flatT ((En.cs (l.getD k En.dflt)).getD c .j)
end Go.Proofs.YtfbefcmeghpalaaGreat.VM
