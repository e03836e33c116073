/- Contracts of functions of the program. No conditions beyond those that each states. -/
import Derived.Test.YtimmbmphfgnelaaGreatCZ5
set_option linter.all false
namespace Go.Proofs.YtimmbmphfgnelaaGreat.VM
/-! what Sound, Stuck and Held say, as plain functions -/
def kidsN (u : DUnix) (p : DProc) : Nat → Nat := cumN (fun c : DProc => if c.Parent = p.Pid then 1 else 0) En.dflt u.Procs
def deadN (u : DUnix) (p : DProc) : Nat → Nat := cumN (fun c : DProc => if c.Parent = p.Pid ∧ c.State = 6 then 1 else 0) En.dflt u.Procs
def waitsP (u : DUnix) (p : DProc) : Bool := decide (0 < kidsN u p u.Procs.length) && decide (deadN u p u.Procs.length = 0)
def openX (u : DUnix) (id : Int) : DOpen := u.Opens.getD (openAt u id).toNat En.dflt
def pipeX (u : DUnix) (id : Int) : DPipe := u.Pipes.getD (pipeAt u id).toNat En.dflt
def isOther (other target : Int) (o : DOpen) : Bool := o.Kind == other && o.Target == target
def endless (u : DUnix) (p : DProc) (kind other data : Int) : Bool :=
 decide (0 ≤ openAt u p.Until) && hasI p.Fds p.Until && (openX u p.Until).Kind == kind && decide (0 ≤ pipeAt u (openX u p.Until).Target) && ((pipeX u (openX u p.Until).Target).Data.length : Int) == data && u.Opens.any (isOther other (openX u p.Until).Target)
def soundP (u : DUnix) (p : DProc) : Bool := if p.State = 3 then waitsP u p else if p.State = 4 then endless u p 3 4 0 else if p.State = 5 then endless u p 4 3 4 else true
def soundU (u : DUnix) : Bool := unixOk u && u.Procs.all (soundP u)
def idleP (p : DProc) : Bool := p.State == 1 || p.State == 2
def stuckU (u : DUnix) : Bool := unixOk u && !(u.Procs.length == 0) && !(u.Procs.any idleP)
def heldU (u : DUnix) : Int := if unixOk u = true then (pagesN u.Procs u.Procs.length : Nat) else 0
theorem cumN_zero {α : Type} {c : α → Nat} {d : α} {l : List α} : ∀ k, (∀ i, i < k → c (l.getD i d) = 0) → cumN c d l k = 0
 | 0, _ => rfl
 | k + 1, h => by rw [cumN, cumN_zero k fun i hi => h i (by omega), h k (by omega)]
theorem unixOk_procs {u : DUnix} (h : unixOk u = true) : procsOk u = true := by
 simp only [unixOk, Bool.and_eq_true] at h
 exact h.1.1.1.1.2
theorem unixOk_opens {u : DUnix} (h : unixOk u = true) : opensOk u = true := by
 simp only [unixOk, Bool.and_eq_true] at h
 exact h.1.1.1.2
theorem ixOf_sat {α : Type} {p : α → Bool} {l : List α} (d : α) (h : 0 ≤ ixOf p l) : p (l.getD (ixOf p l).toNat d) = true := by
 unfold ixOf at h ⊢
 cases hf : l.findIdx? p with
 | none => rw [hf] at h; simp at h
 | some i =>
  rw [hf] at h
  obtain ⟨h1, h2, _⟩ := List.findIdx?_eq_some_iff_getElem.1 hf
  simp only [Int.toNat_natCast, List.getD_eq_getElem?_getD, List.getElem?_eq_getElem h1, Option.getD_some]
  exact h2
theorem ixOf_lt {α : Type} {p : α → Bool} {l : List α} (h : 0 ≤ ixOf p l) : (ixOf p l).toNat < l.length := by
 have := (ixOf_bd p l).2
 omega
theorem pid_inj {u : DUnix} (h : procsOk u = true) {i j : Nat} (hi : i < u.Procs.length) (hj : j < u.Procs.length) (he : pidOf u i = pidOf u j) : i = j := by
 have hr := rises_pair (key := pidOf u) (n := u.Procs.length) fun i hi => (procsOk_at h hi).1
 rcases Nat.lt_trichotomy i j with hlt | heq | hgt
 ·have := hr j hj i hlt; omega
 ·exact heq
 ·have := hr i hi j hgt; omega
/-- a zombie has no children -/
theorem zombie_kids {u : DUnix} (h : procsOk u = true) {i : Nat} (hi : i < u.Procs.length) (hz : (u.Procs.getD i En.dflt).State = 6) : deadN u (u.Procs.getD i En.dflt) u.Procs.length = 0 := by
 refine cumN_zero _ fun j hj => ?_
 rw [if_neg]
 rintro ⟨hp, -⟩
 have hj' := (procsOk_at h hj).2
 have hi' := (procsOk_at h hi).2
 simp only [procOk, procS, parentOk, Bool.and_eq_true, decide_eq_true_eq, Bool.or_eq_true, beq_iff_eq, Bool.not_eq_true', beq_eq_false_iff_ne] at hj' hi'
 have h1 : 1 ≤ (u.Procs.getD i En.dflt).Pid := hi'.1.1
 have hpar : (u.Procs.getD j En.dflt).Parent = 0 ∨ (0 ≤ procAt u (u.Procs.getD j En.dflt).Parent ∧ (u.Procs.getD j En.dflt).Parent ≠ (u.Procs.getD j En.dflt).Pid) ∧ (u.Procs.getD (procAt u (u.Procs.getD j En.dflt).Parent).toNat En.dflt).State ≠ 6 := by
  have := hj'.2
  grind
 rcases hpar with h0 | ⟨⟨h0, -⟩, h2⟩
 ·omega
 ·have hs := ixOf_sat (d := En.dflt) h0
  have hl := ixOf_lt h0
  have : (procAt u (u.Procs.getD j En.dflt).Parent).toNat = i := pid_inj h hl hi (by simp only [pidOf]; rw [← hp]; exact beq_iff_eq.1 hs)
  rw [this] at h2
  exact h2 hz
theorem mem_of_ok {u : DUnix} (h : unixOk u = true) : memN u.Procs u.Procs.length = 4 * pagesN u.Procs u.Procs.length :=
 mem_pages (l := u.Procs) (fun i hi => by have := procOk_parts (procsOk_at (unixOk_procs h) hi).2; omega) _ (Nat.le_refl _)
theorem kidsN_le (u : DUnix) (p : DProc) : ∀ k, kidsN u p k ≤ k
 | 0 => Nat.le_refl _
 | k + 1 => by have := kidsN_le u p k; simp only [kidsN, cumN] at this ⊢; split <;> omega
theorem deadN_le (u : DUnix) (p : DProc) : ∀ k, deadN u p k ≤ k
 | 0 => Nat.le_refl _
 | k + 1 => by have := deadN_le u p k; simp only [deadN, cumN] at this ⊢; split <;> omega
theorem kidsN_succ (u : DUnix) (p : DProc) (k : Nat) : kidsN u p (k + 1) = kidsN u p k + (if (u.Procs.getD k En.dflt).Parent = p.Pid then 1 else 0) := rfl
theorem deadN_succ (u : DUnix) (p : DProc) (k : Nat) : deadN u p (k + 1) = deadN u p k + (if (u.Procs.getD k En.dflt).Parent = p.Pid ∧ (u.Procs.getD k En.dflt).State = 6 then 1 else 0) := rfl
/-- what the reference asks -/
def endS (u : DUnix) (p : DProc) (mine other data : Int) : Bool :=
 hasI p.Fds (openX u p.Until).Id && (openX u p.Until).Kind == mine && ((pipeX u (openX u p.Until).Target).Data.length : Int) == data && decide (0 < endsN u (openX u p.Until).Target other u.Opens.length)
def soundS (u : DUnix) (p : DProc) : Bool := if p.State = 3 then waitsP u p else if p.State = 6 then decide (deadN u p u.Procs.length = 0) else if p.State = 4 then endS u p 3 4 0 else if p.State = 5 then endS u p 4 3 4 else true
theorem ends_other (u : DUnix) (target other : Int) : decide (0 < endsN u target other u.Opens.length) = u.Opens.any (isOther other target) := by
 have h := cumN_pos (c := fun o : DOpen => if o.Kind = other ∧ o.Target = target then 1 else 0) (d := En.dflt) (l := u.Opens) _ (Nat.le_refl _)
 rw [Bool.eq_iff_iff, decide_eq_true_eq]
 refine h.trans ?_
 rw [List.any_eq_true]
 constructor
 ·rintro ⟨i, hi, hp⟩
  have hg : u.Opens.getD i En.dflt = u.Opens[i] := by simp [hi]
  rw [hg] at hp
  refine ⟨_, List.getElem_mem hi, ?_⟩
  split at hp
  ·rename_i hh; simp [isOther, hh.1, hh.2]
  ·omega
 ·rintro ⟨x, hx, hp⟩
  obtain ⟨i, hi, rfl⟩ := List.mem_iff_getElem.1 hx
  have hg : u.Opens.getD i En.dflt = u.Opens[i] := by simp [hi]
  refine ⟨i, hi, ?_⟩
  rw [hg]
  simp only [isOther, Bool.and_eq_true, beq_iff_eq] at hp
  rw [if_pos hp]; exact Nat.zero_lt_one
theorem until_parts {u : DUnix} {p : DProc} (h : procOk u p = true) (hs : p.State = 4 ∨ p.State = 5) : hasI p.Fds p.Until = true ∧ 0 ≤ openAt u p.Until := by
 have : untilOk u p = true := by
  simp only [procOk, procS, Bool.and_eq_true] at h
  exact h.2.1.1.2
 have h2 : p.State ≠ 2 := by omega
 simp only [untilOk, if_neg h2, if_pos hs, Bool.and_eq_true, decide_eq_true_eq] at this
 exact this
theorem opensOk_at {u : DUnix} (h : opensOk u = true) {i : Nat} (hi : i < u.Opens.length) : openOk u (u.Opens.getD i En.dflt) = true := by
 have := allIx_iff.1 h i hi
 simp only [Bool.and_eq_true] at this
 exact this.2
theorem openX_ok {u : DUnix} (h : unixOk u = true) {id : Int} (hid : 0 ≤ openAt u id) : openOk u (openX u id) = true ∧ (openX u id).Id = id := by
 refine ⟨opensOk_at (unixOk_opens h) (ixOf_lt hid), ?_⟩
 exact beq_iff_eq.1 (ixOf_sat (d := En.dflt) hid)
theorem open_pipe {u : DUnix} {o : DOpen} (h : openOk u o = true) (hk : o.Kind = 3 ∨ o.Kind = 4) : 0 ≤ pipeAt u o.Target := by
 simp only [openOk, Bool.and_eq_true] at h
 have h2 := h.2
 rw [if_neg (by omega), if_neg (by omega), if_pos hk] at h2
 simp only [Bool.and_eq_true, decide_eq_true_eq] at h2
 exact h2.1
theorem openX_pipe {u : DUnix} {p : DProc} (h : unixOk u = true) (h0 : 0 ≤ openAt u p.Until) (hk : (u.Opens.getD (openAt u p.Until).toNat En.dflt).Kind = 3 ∨ (u.Opens.getD (openAt u p.Until).toNat En.dflt).Kind = 4) : 0 ≤ pipeAt u (u.Opens.getD (openAt u p.Until).toNat En.dflt).Target := open_pipe (openX_ok h h0).1 hk
theorem waits_dead {u : DUnix} {p : DProc} {k : Nat} (hk : k < u.Procs.length) (h : deadN u p (k + 1) ≠ 0) : waitsP u p = false := by
 have : deadN u p (k + 1) ≤ deadN u p u.Procs.length := cumN_mono (by omega)
 simp only [waitsP, Bool.and_eq_false_iff, decide_eq_false_iff_not]
 exact .inr (by omega)
theorem waits_end {u : DUnix} {p : DProc} {k : Nat} (h : deadN u p k = 0) (hk : k = u.Procs.length) : waitsP u p = decide (0 < kidsN u p k) := by
 subst hk
 simp only [waitsP, h, decide_true, Bool.and_true]
theorem end_same {u : DUnix} {p : DProc} (h : unixOk u = true) (hp : procOk u p = true) (hs : p.State = 4 ∨ p.State = 5) {mine other data : Int} (hm : mine = 3 ∨ mine = 4) : endS u p mine other data = endless u p mine other data := by
 obtain ⟨h1, h2⟩ := until_parts hp hs
 obtain ⟨h3, h4⟩ := openX_ok h h2
 simp only [endS, endless, h4, h1, ends_other, decide_eq_true h2, Bool.true_and]
 cases hk : (openX u p.Until).Kind == mine with
 | false => rfl
 | true =>
  have hk' : (openX u p.Until).Kind = mine := beq_iff_eq.1 hk
  have := open_pipe h3 (by rw [hk']; exact hm)
  simp only [decide_eq_true this, Bool.true_and]
theorem sound_same {u : DUnix} (h : unixOk u = true) : u.Procs.all (soundS u) = u.Procs.all (soundP u) := by
 rw [Bool.eq_iff_iff, List.all_eq_true, List.all_eq_true]
 have key : ∀ p ∈ u.Procs, soundS u p = soundP u p := fun p hp => by
  obtain ⟨i, hi, rfl⟩ := List.mem_iff_getElem.1 hp
  have hg : u.Procs.getD i En.dflt = u.Procs[i] := by simp [hi]
  have hok := (procsOk_at (unixOk_procs h) hi).2
  have hz := zombie_kids (unixOk_procs h) hi
  rw [hg] at hok hz
  simp only [soundS, soundP]
  split
  ·rfl
  split
  ·rename_i h3 h6
   rw [if_neg (by omega), if_neg (by omega)]
   exact decide_eq_true (hz h6)
  split
  ·rename_i h4; exact end_same h hok (.inl h4) (.inl rfl)
  split
  ·rename_i h5; exact end_same h hok (.inr h5) (.inr rfl)
  rfl
 constructor
 ·intro hh p hp; rw [← key p hp]; exact hh p hp
 ·intro hh p hp; rw [key p hp]; exact hh p hp
end Go.Proofs.YtimmbmphfgnelaaGreat.VM
