/- Contracts. No conditions. -/
import Derived.Test.YthjfgpkjooaahaaGreatCU4
import Derived.Test.YthjfgpkjooaahaaGreatVmD
set_option linter.all false
set_option maxHeartbeats 8000000
set_option maxRecDepth 10000
namespace Go.Proofs.YthjfgpkjooaahaaGreat.VM
/-! the small Unix, as plain functions -/
def allIx (P : Nat → Bool) : Nat → Bool
 | 0 => true
 | n + 1 => allIx P n && P n
theorem allIx_iff {P : Nat → Bool} : ∀ {n : Nat}, allIx P n = true ↔ ∀ i, i < n → P i = true
 | 0 => by simp [allIx]
 | n + 1 => by
  rw [allIx, Bool.and_eq_true, allIx_iff]
  constructor
  ·rintro ⟨h1, h2⟩ i hi
   rcases Nat.lt_or_ge i n with h | h
   ·exact h1 i h
   ·rw [show i = n by omega]; exact h2
  ·exact fun h => ⟨fun i hi => h i (by omega), h n (by omega)⟩
structure AIx (P : Nat → Bool) (n : Nat) where
 k : Nat
 le : k ≤ n
 h : ∀ i, i < k → P i = true
theorem AIx.next {P : Nat → Bool} {n : Nat} (i : AIx P n) (hp : P i.k = true) : ∀ j, j < i.k + 1 → P j = true := fun j hj => by
 rcases Nat.lt_or_ge j i.k with h | h
 ·exact i.h j h
 ·rw [show j = i.k by omega]; exact hp
theorem AIx.stop {P : Nat → Bool} {n : Nat} (i : AIx P n) (hk : i.k < n) (hp : P i.k = false) : allIx P n = false := by
 cases h : allIx P n with
 | false => rfl
 | true => rw [allIx_iff.1 h i.k hk] at hp; cases hp
theorem AIx.full {P : Nat → Bool} {n : Nat} (i : AIx P n) (hk : ¬ i.k < n) : allIx P n = true := allIx_iff.2 fun j hj => i.h j (by have := i.le; omega)

def procAt (u : DUnix) (pid : Int) : Int := ixOf (fun p : DProc => p.Pid == pid) u.Procs
def openAt (u : DUnix) (id : Int) : Int := ixOf (fun o : DOpen => o.Id == id) u.Opens
def pipeAt (u : DUnix) (id : Int) : Int := ixOf (fun p : DPipe => p.Id == id) u.Pipes
def fileAt (u : DUnix) (name : Int) : Int := ixOf (fun f : DFile => f.Name == name) u.Files
def hasI (l : List Int) (x : Int) : Bool := l.any fun y => y == x
theorem hasI_iff {l : List Int} {x : Int} : hasI l x = true ↔ x ∈ l := by
 simp [hasI]
theorem hasI_all (l : List Int) (x : Int) : hasI l x = !(l.all fun y => !(y == x)) := by
 rw [Bool.eq_iff_iff]; simp [hasI]
def cpuOk (c : DCpu) : Bool := decide (0 ≤ c.Pc) && decide (c.Pc ≤ 40) && (c.Regs.length == 4 && c.Regs.all word)
def untilOk (u : DUnix) (p : DProc) : Bool :=
 if p.State = 2 then decide (u.Tick < p.Until)
 else if p.State = 4 ∨ p.State = 5 then hasI p.Fds p.Until && decide (0 ≤ openAt u p.Until)
 else decide (p.Until = 0)
def fdOk (u : DUnix) (f : Int) : Bool := f == -1 || decide (0 ≤ openAt u f)
def parentOk (u : DUnix) (p : DProc) : Bool := p.Parent == 0 || (decide (0 ≤ procAt u p.Parent) && !(p.Parent == p.Pid) && !((u.Procs.getD (procAt u p.Parent).toNat En.dflt).State == 6))
def endOk (p : DProc) : Bool := if p.State = 6 then decide ((p.Mem.length : Int) = 0 ∧ p.Parent ≠ 0) && p.Fds.all (fun x => x == -1) else decide ((0 : Int) < p.Mem.length ∧ p.Code = 0)
def procS (u : DUnix) (p : DProc) : Bool := decide (1 ≤ p.State ∧ p.State ≤ 6) && decide (0 ≤ p.Prog ∧ p.Prog < u.Progs.length) && cpuOk p.Cpu && word p.Code && parentOk u p && decide ((p.Mem.length : Int) ≤ 12 ∧ ((p.Mem.length % 4 : Nat) : Int) = 0) && p.Mem.all word && decide ((p.Fds.length : Int) = 4) && untilOk u p && p.Fds.all (fdOk u) && endOk p
def procOk (u : DUnix) (p : DProc) : Bool := decide (1 ≤ p.Pid ∧ p.Pid < u.Next) && procS u p
/-- how many of a list's first ones are one number -/
def fdCnt (id : Int) (l : List Int) : Nat → Nat := cumN (fun f : Int => if f = id then 1 else 0) 0 l
def refsN (u : DUnix) (id : Int) : Nat → Nat := cumN (fun p : DProc => fdCnt id p.Fds p.Fds.length) En.dflt u.Procs
def refsOf (u : DUnix) (id : Int) : Nat := refsN u id u.Procs.length
def openOk (u : DUnix) (o : DOpen) : Bool :=
 decide (0 ≤ o.Id ∧ o.Id ≤ 7) && decide (refsOf u o.Id ≠ 0 ∧ o.Refs = refsOf u o.Id) &&
 (if o.Kind = 1 then decide (o.Target = 0 ∧ o.Off = 0)
 else if o.Kind = 2 then decide (0 ≤ fileAt u o.Target) && decide (0 ≤ o.Off ∧ o.Off ≤ ((u.Files.getD (fileAt u o.Target).toNat En.dflt).Data.length : Int))
 else if o.Kind = 3 ∨ o.Kind = 4 then decide (0 ≤ pipeAt u o.Target) && decide (o.Off = 0)
 else false)
def isEnd (pipe : Int) (o : DOpen) : Bool := (o.Kind == 3 || o.Kind == 4) && o.Target == pipe
def memN (l : List DProc) : Nat → Nat := cumN (fun p : DProc => p.Mem.length) En.dflt l
def pagesU (l : List DProc) : Nat → Nat := cumN (fun p : DProc => p.Mem.length / 4) En.dflt l
def rises (key : Nat → Int) (i : Nat) : Bool := decide (i = 0 ∨ key (i - 1) < key i)
def pidOf (u : DUnix) (i : Nat) : Int := (u.Procs.getD i En.dflt).Pid
def procsOk (u : DUnix) : Bool := allIx (fun i => rises (pidOf u) i && procOk u (u.Procs.getD i En.dflt)) u.Procs.length
def opensOk (u : DUnix) : Bool := allIx (fun i => rises (fun i => (u.Opens.getD i En.dflt).Id) i && openOk u (u.Opens.getD i En.dflt)) u.Opens.length
def pipeOk (u : DUnix) (p : DPipe) : Bool := decide (0 ≤ p.Id ∧ p.Id ≤ 2) && decide ((p.Data.length : Int) ≤ 4) && p.Data.all word && u.Opens.any (isEnd p.Id)
def pipesOk (u : DUnix) : Bool := allIx (fun i => rises (fun i => (u.Pipes.getD i En.dflt).Id) i && pipeOk u (u.Pipes.getD i En.dflt)) u.Pipes.length && decide ((u.Pipes.length : Int) ≤ 3)
def fileOk (f : DFile) : Bool := decide (0 ≤ f.Name ∧ f.Name ≤ 5) && decide ((f.Data.length : Int) ≤ 8) && f.Data.all word
def filesOk (l : List DFile) : Bool := allIx (fun i => rises (fun i => (l.getD i En.dflt).Name) i && fileOk (l.getD i En.dflt)) l.length && decide ((l.length : Int) ≤ 6)
def wantOf : List DProc → List Int
 | [] => []
 | p :: l => if p.State = 1 then p.Pid :: wantOf l else wantOf l
def readyOk (u : DUnix) : Bool := decide (((wantOf u.Procs).length : Int) = u.Ready.length) && (wantOf u.Procs).all fun x => hasI u.Ready x
def progsOk (l : List (List DIns)) : Bool := (decide ((1 : Int) ≤ l.length) && decide ((l.length : Int) ≤ 4)) && l.all progOk
def headOk (u : DUnix) : Bool := decide (1 ≤ u.Next ∧ u.Next ≤ 100000) && decide (0 ≤ u.Tick ∧ u.Tick ≤ 1000000) && progsOk u.Progs && decide ((u.Out.length : Int) ≤ 60) && u.Out.all word && decide ((u.Procs.length : Int) ≤ 6)
def thingsOk (u : DUnix) : Bool := decide ((u.Opens.length : Int) ≤ 8) && opensOk u && pipesOk u && filesOk u.Files
def openU (u : DUnix) (i : Nat) : Bool := rises (fun i => (u.Opens.getD i En.dflt).Id) i && openOk u (u.Opens.getD i En.dflt)
def pipeU (u : DUnix) (i : Nat) : Bool := rises (fun i => (u.Pipes.getD i En.dflt).Id) i && pipeOk u (u.Pipes.getD i En.dflt)
def fileU (l : List DFile) (i : Nat) : Bool := rises (fun i => (l.getD i En.dflt).Name) i && fileOk (l.getD i En.dflt)
def procU (u : DUnix) (i : Nat) : Bool := rises (pidOf u) i && procOk u (u.Procs.getD i En.dflt)
def readyP (u : DUnix) (i : Nat) : Bool := !((u.Procs.getD i En.dflt).State == 1) || hasI u.Ready (u.Procs.getD i En.dflt).Pid
theorem opensOk_eq (u : DUnix) : opensOk u = allIx (openU u) u.Opens.length := rfl
theorem pipesOk_eq (u : DUnix) : pipesOk u = (allIx (pipeU u) u.Pipes.length && decide ((u.Pipes.length : Int) ≤ 3)) := rfl
theorem filesOk_eq (l : List DFile) : filesOk l = (allIx (fileU l) l.length && decide ((l.length : Int) ≤ 6)) := rfl
theorem procsOk_eq (u : DUnix) : procsOk u = allIx (procU u) u.Procs.length := rfl
def fdZ (u : DUnix) (p : DProc) (f : Int) : Bool := f == -1 || (decide (0 ≤ openAt u f) && !(p.State == 6))
theorem fdZ_all (u : DUnix) (p : DProc) : p.Fds.all (fdZ u p) = (p.Fds.all (fdOk u) && (!(p.State == 6) || p.Fds.all (fun x => x == -1))) := by
 by_cases h : p.State = 6
 ·rw [Bool.eq_iff_iff]
  simp only [fdZ, fdOk, h, beq_self_eq_true, Bool.not_true, Bool.and_false, Bool.or_false, Bool.false_or, List.all_eq_true, Bool.and_eq_true, Bool.or_eq_true]
  exact ⟨fun hh => ⟨fun x hx => .inl (hh x hx), hh⟩, fun hh => hh.2⟩
 ·have h' : (p.State == 6) = false := by simpa using h
  have e : fdZ u p = fdOk u := funext fun f => by simp only [fdZ, fdOk, h', Bool.not_false, Bool.and_true]
  rw [e, h']
  simp
def unixOk (u : DUnix) : Bool := headOk u && decide ((u.Opens.length : Int) ≤ 8) && decide ((pagesU u.Procs u.Procs.length : Int) ≤ 16) && procsOk u && opensOk u && pipesOk u && filesOk u.Files && readyOk u

def fdsN (u : DUnix) : Nat → Nat := cumN (fun p : DProc => p.Fds.length) En.dflt u.Procs
/-- sizes that a count cannot pass -/
structure unixB (u : DUnix) : Prop where
 mem : memN u.Procs u.Procs.length ≤ 4194304
 fds : fdsN u u.Procs.length ≤ 4194304
 procs : u.Procs.length ≤ 1048576
 opens : u.Opens.length ≤ 1048576
 ready : u.Ready.length ≤ 1048576
theorem cumU_le {α : Type} {c c' : α → Nat} {d : α} {l : List α} (h : ∀ x, c x ≤ c' x) : ∀ k, cumN c d l k ≤ cumN c' d l k
 | 0 => Nat.le_refl _
 | k + 1 => by simp only [cumN]; have := cumU_le (d := d) (l := l) h k; have := h (l.getD k d); omega
theorem unixB_of {u : DUnix} (hw : Mk.wt u ≤ 1048576) : unixB u := by
 have e : Mk.wt u = Mk.wt u.Progs + Mk.wt u.Procs + Mk.wt u.Opens + Mk.wt u.Pipes + Mk.wt u.Files + Mk.wt u.Ready + Mk.wt u.Out := rfl
 have h1 := wt_list u.Procs
 have h2 := wt_list u.Opens
 have h6 := wt_list u.Ready
 have h3 : memN u.Procs u.Procs.length ≤ cumN Mk.wt En.dflt u.Procs u.Procs.length := cumU_le (fun x => by
  have : Mk.wt x = Mk.wt x.Cpu.Regs + Mk.wt x.Mem + Mk.wt x.Fds := rfl
  have := wt_list x.Mem
  omega) _
 have h4 : fdsN u u.Procs.length ≤ cumN Mk.wt En.dflt u.Procs u.Procs.length := cumU_le (fun x => by
  have : Mk.wt x = Mk.wt x.Cpu.Regs + Mk.wt x.Mem + Mk.wt x.Fds := rfl
  have := wt_list x.Fds
  omega) _
 rw [cumN_wt] at h3 h4
 exact ⟨by omega, by omega, by omega, by omega, by omega⟩
theorem pagesU_le (l : List DProc) (k : Nat) : pagesU l k ≤ memN l k := cumU_le (c := fun p : DProc => p.Mem.length / 4) (c' := fun p : DProc => p.Mem.length) (fun p => by omega) k
theorem pagesU_bd {u : DUnix} (hb : unixB u) : pagesU u.Procs u.Procs.length ≤ 4194304 := Nat.le_trans (pagesU_le _ _) hb.mem
def endsN (u : DUnix) (pipe kind : Int) : Nat → Nat := cumN (fun o : DOpen => if o.Kind = kind ∧ o.Target = pipe then 1 else 0) En.dflt u.Opens
theorem endsN_succ (u : DUnix) (pipe kind : Int) (k : Nat) : endsN u pipe kind (k + 1) = endsN u pipe kind k + (if (u.Opens.getD k En.dflt).Kind = kind ∧ (u.Opens.getD k En.dflt).Target = pipe then 1 else 0) := rfl
theorem endsN_le (u : DUnix) (pipe kind : Int) : ∀ k, endsN u pipe kind k ≤ k
 | 0 => Nat.le_refl _
 | k + 1 => by have := endsN_le u pipe kind k; rw [endsN_succ]; split <;> omega
theorem fdCnt_succ (id : Int) (l : List Int) (k : Nat) : fdCnt id l (k + 1) = fdCnt id l k + (if l.getD k 0 = id then 1 else 0) := rfl
theorem cumN_pos {α : Type} {c : α → Nat} {d : α} {l : List α} : ∀ k, k ≤ l.length → (0 < cumN c d l k ↔ ∃ i, i < k ∧ 0 < c (l.getD i d))
 | 0, _ => by simp [cumN]
 | k + 1, hk => by
  rw [cumN]
  have ih := cumN_pos (c := c) (d := d) (l := l) k (by omega)
  constructor
  ·intro h
   rcases Nat.eq_zero_or_pos (cumN c d l k) with h0 | h0
   ·exact ⟨k, by omega, by omega⟩
   ·obtain ⟨i, h1, h2⟩ := ih.1 h0; exact ⟨i, by omega, h2⟩
  ·rintro ⟨i, h1, h2⟩
   rcases Nat.lt_or_ge i k with h | h
   ·have := ih.2 ⟨i, h, h2⟩; omega
   ·rw [show i = k by omega] at h2; omega
theorem ends_any (u : DUnix) (pipe : Int) : decide (endsN u pipe 3 u.Opens.length + endsN u pipe 4 u.Opens.length = 0) = !(u.Opens.any (isEnd pipe)) := by
 rw [Bool.eq_iff_iff]
 have h3 := cumN_pos (c := fun o : DOpen => if o.Kind = 3 ∧ o.Target = pipe then 1 else 0) (d := En.dflt) (l := u.Opens) _ (Nat.le_refl _)
 have h4 := cumN_pos (c := fun o : DOpen => if o.Kind = 4 ∧ o.Target = pipe then 1 else 0) (d := En.dflt) (l := u.Opens) _ (Nat.le_refl _)
 simp only [decide_eq_true_eq, Bool.not_eq_true', List.any_eq_false]
 constructor
 ·intro h x hx hE
  obtain ⟨i, hi, rfl⟩ := List.mem_iff_getElem.1 hx
  have hg : u.Opens.getD i En.dflt = u.Opens[i] := by simp [hi]
  simp only [isEnd, Bool.and_eq_true, Bool.or_eq_true, beq_iff_eq] at hE
  rcases hE with ⟨hk | hk, ht⟩
  ·have : 0 < endsN u pipe 3 u.Opens.length := h3.2 ⟨i, hi, by rw [hg]; simp [hk, ht]⟩
   omega
  ·have : 0 < endsN u pipe 4 u.Opens.length := h4.2 ⟨i, hi, by rw [hg]; simp [hk, ht]⟩
   omega
 ·intro h
  have g : ∀ kd : Int, (kd = 3 ∨ kd = 4) → ¬ ∃ i, i < u.Opens.length ∧ 0 < (fun o : DOpen => if o.Kind = kd ∧ o.Target = pipe then 1 else 0) (u.Opens.getD i En.dflt) := fun kd hkd ⟨i, hi, hp⟩ => by
   have hg : u.Opens.getD i En.dflt = u.Opens[i] := by simp [hi]
   rw [hg] at hp
   refine h _ (List.getElem_mem hi) ?_
   simp only at hp
   split at hp
   ·rename_i hh; rcases hkd with rfl | rfl <;> simp [isEnd, hh.1, hh.2]
   ·omega
  have e3 : ¬ 0 < endsN u pipe 3 u.Opens.length := fun hh => g 3 (.inl rfl) (h3.1 hh)
  have e4 : ¬ 0 < endsN u pipe 4 u.Opens.length := fun hh => g 4 (.inr rfl) (h4.1 hh)
  omega
theorem fdCnt_le (id : Int) (l : List Int) : ∀ k, fdCnt id l k ≤ k
 | 0 => Nat.le_refl _
 | k + 1 => by have := fdCnt_le id l k; simp only [fdCnt, cumN] at this ⊢; split <;> omega
theorem refsN_le (u : DUnix) (id : Int) (k : Nat) : refsN u id k ≤ fdsN u k :=
 cumU_le (c := fun p : DProc => fdCnt id p.Fds p.Fds.length) (c' := fun p : DProc => p.Fds.length) (fun p => fdCnt_le id p.Fds p.Fds.length) k
theorem refsOf_bd {u : DUnix} (hb : unixB u) (id : Int) : refsOf u id ≤ 4194304 := Nat.le_trans (refsN_le u id _) hb.fds
theorem mem_pages {l : List DProc} (h : ∀ i, i < l.length → (l.getD i En.dflt).Mem.length % 4 = 0) : ∀ k, k ≤ l.length → memN l k = 4 * pagesU l k
 | 0, _ => rfl
 | k + 1, hk => by
  have ih := mem_pages h k (by omega)
  have := h k (by omega)
  simp only [memN, pagesU, cumN] at ih ⊢
  omega
theorem procsOk_at {u : DUnix} (h : procsOk u = true) {i : Nat} (hi : i < u.Procs.length) : rises (pidOf u) i = true ∧ procOk u (u.Procs.getD i En.dflt) = true := by
 have := allIx_iff.1 h i hi
 simpa only [Bool.and_eq_true] using this
theorem procOk_parts {u : DUnix} {p : DProc} (h : procOk u p = true) : p.Mem.length ≤ 12 ∧ p.Mem.length % 4 = 0 ∧ p.Fds.length = 4 := by
 simp only [procOk, procS, Bool.and_eq_true, decide_eq_true_eq] at h
 omega
theorem rises_pair {key : Nat → Int} {n : Nat} (h : ∀ i, i < n → rises key i = true) : ∀ j, j < n → ∀ i, i < j → key i < key j
 | 0, _, i, hi => by omega
 | j + 1, hj, i, hi => by
  have h1 := h (j + 1) hj
  simp only [rises, decide_eq_true_eq, Nat.add_one_ne_zero, false_or, Nat.add_sub_cancel] at h1
  rcases Nat.lt_or_ge i j with hlt | hge
  ·exact Int.lt_trans (rises_pair h j (by omega) i hlt) h1
  ·rw [show i = j by omega]; exact h1
theorem pids_pair {u : DUnix} (h : procsOk u = true) : (u.Procs.map (·.Pid)).Pairwise (· < ·) := by
 rw [List.pairwise_iff_getElem]
 intro i j hi hj hij
 have := rises_pair (key := pidOf u) (n := u.Procs.length) (fun i hi => (procsOk_at h hi).1) j (by simpa using hj) i hij
 simp only [List.length_map] at hi hj
 simp only [pidOf, List.getD_eq_getElem?_getD, List.getElem?_eq_getElem hi, List.getElem?_eq_getElem hj, Option.getD_some] at this
 simpa using this
theorem want_sub : ∀ l : List DProc, (wantOf l).Sublist (l.map (·.Pid))
 | [] => List.Sublist.refl _
 | p :: l => by
  rw [wantOf, List.map_cons]
  split
  ·exact (want_sub l).cons_cons _
  ·exact (want_sub l).cons _
theorem perm_of : ∀ {a b : List Int}, a.Nodup → a.length = b.length → (∀ x ∈ a, x ∈ b) → a.Perm b
 | [], b, _, hl, _ => by
  have : b = [] := List.eq_nil_of_length_eq_zero hl.symm
  rw [this]
 | x :: a, b, hn, hl, hs => by
  have hx : x ∈ b := hs x (List.mem_cons_self ..)
  have hp := List.perm_cons_erase hx
  refine (List.Perm.cons x (perm_of (List.nodup_cons.1 hn).2 ?_ fun y hy => ?_)).trans hp.symm
  ·have := hp.length_eq
   simp only [List.length_cons] at this hl
   omega
  ·have hne : y ≠ x := fun e => (List.nodup_cons.1 hn).1 (e ▸ hy)
   exact (List.mem_erase_of_ne hne).2 (hs y (List.mem_cons_of_mem _ hy))
theorem sorted_eq : ∀ {a b : List Int}, a.Perm b → a.Pairwise (· ≤ ·) → b.Pairwise (· ≤ ·) → a = b
 | [], b, h, _, _ => h.nil_eq
 | x :: a, [], h, _, _ => by have := h.length_eq; simp at this
 | x :: a, y :: b, h, h1, h2 => by
  obtain ⟨g1, g2⟩ := List.pairwise_cons.1 h1
  obtain ⟨k1, k2⟩ := List.pairwise_cons.1 h2
  have hxy : x = y := by
   have e1 : x ∈ y :: b := h.subset (List.mem_cons_self ..)
   have e2 : y ∈ x :: a := h.symm.subset (List.mem_cons_self ..)
   rcases List.mem_cons.1 e1 with e | e
   ·exact e
   ·rcases List.mem_cons.1 e2 with e' | e'
    ·exact e'.symm
    ·exact Int.le_antisymm (g1 y e') (k1 x e)
  subst hxy
  rw [sorted_eq ((List.perm_cons _).1 h) g2 k2]
def srt (l : List Int) : List Int := l.mergeSort fun x y => decide (x ≤ y)
theorem srt_len (l : List Int) : (srt l).length = l.length := List.length_mergeSort _
theorem srt_pair (l : List Int) : (srt l).Pairwise (· ≤ ·) := by
 have := List.pairwise_mergeSort (le := fun x y : Int => decide (x ≤ y)) (fun a b c h1 h2 => by simp at *; omega) (fun a b => by simp; omega) l
 exact this.imp fun h => by simpa using h
theorem ready_eq {u : DUnix} (h : procsOk u = true) : (srt u.Ready == wantOf u.Procs) = readyOk u := by
 have hw : (wantOf u.Procs).Pairwise (· < ·) := (pids_pair h).sublist (want_sub _)
 have hp : (srt u.Ready).Perm u.Ready := List.mergeSort_perm _ _
 rw [Bool.eq_iff_iff, beq_iff_eq]
 simp only [readyOk, Bool.and_eq_true, decide_eq_true_eq, List.all_eq_true, hasI_iff]
 constructor
 ·intro e
  rw [← e]
  exact ⟨by rw [srt_len], fun x hx => hp.subset hx⟩
 ·rintro ⟨h1, h2⟩
  have hn : (wantOf u.Procs).Nodup := hw.imp fun h => Int.ne_of_lt h
  have := perm_of hn (by omega) h2
  exact sorted_eq (hp.trans this.symm) (srt_pair _) (hw.imp fun h => Int.le_of_lt h)
theorem want_take {l : List DProc} : ∀ {k : Nat}, k < l.length → wantOf (l.take (k + 1)) = if (l.getD k En.dflt).State = 1 then wantOf (l.take k) ++ [(l.getD k En.dflt).Pid] else wantOf (l.take k) := by
 induction l with
 | nil => intro k hk; simp at hk
 | cons p l ih =>
  intro k hk
  cases k with
  | zero => simp only [List.take_succ_cons, List.take_zero, wantOf, List.getD_cons_zero]; split <;> rfl
  | succ k =>
   have := ih (k := k) (by simpa using hk)
   simp only [List.take_succ_cons, List.getD_cons_succ, wantOf] at this ⊢
   rw [this]
   split <;> split <;> rfl
def readyN (l : List DProc) : Nat → Nat := cumN (fun p : DProc => if p.State = 1 then 1 else 0) En.dflt l
theorem want_len {l : List DProc} : ∀ {k : Nat}, k ≤ l.length → (wantOf (l.take k)).length = readyN l k
 | 0, _ => by simp [wantOf, readyN, cumN]
 | k + 1, hk => by
  have ih := want_len (l := l) (k := k) (by omega)
  rw [want_take (by omega)]
  simp only [readyN, cumN] at ih ⊢
  split <;> simp [ih]
theorem want_mem {l : List DProc} {x : Int} : x ∈ wantOf l ↔ ∃ i, i < l.length ∧ (l.getD i En.dflt).State = 1 ∧ (l.getD i En.dflt).Pid = x := by
 induction l with
 | nil => simp [wantOf]
 | cons p l ih =>
  have hex : (∃ i, i < (p :: l).length ∧ ((p :: l).getD i En.dflt).State = 1 ∧ ((p :: l).getD i En.dflt).Pid = x) ↔ (p.State = 1 ∧ p.Pid = x) ∨ ∃ i, i < l.length ∧ (l.getD i En.dflt).State = 1 ∧ (l.getD i En.dflt).Pid = x := by
   constructor
   ·rintro ⟨i, h1, h2⟩
    cases i with
    | zero => exact .inl h2
    | succ i => exact .inr ⟨i, by simpa using h1, h2⟩
   ·rintro (h | ⟨i, h1, h2⟩)
    ·exact ⟨0, by simp, h⟩
    ·exact ⟨i + 1, by simpa using h1, h2⟩
  rw [hex, ← ih, wantOf]
  split
  ·rename_i h; simp [h, eq_comm]
  ·rename_i h; simp [h]
theorem ready_all (u : DUnix) : ((wantOf u.Procs).all fun x => hasI u.Ready x) = allIx (readyP u) u.Procs.length := by
 rw [Bool.eq_iff_iff, allIx_iff]
 simp only [List.all_eq_true, readyP, Bool.or_eq_true, Bool.not_eq_true', beq_eq_false_iff_ne]
 constructor
 ·intro h i hi
  by_cases hs : (u.Procs.getD i En.dflt).State = 1
  ·exact .inr (h _ (want_mem.2 ⟨i, hi, hs, rfl⟩))
  ·exact .inl hs
 ·intro h x hx
  obtain ⟨i, hi, hs, rfl⟩ := want_mem.1 hx
  rcases h i hi with h' | h'
  ·exact absurd hs h'
  ·exact h'
theorem readyOk_eq (u : DUnix) : readyOk u = (decide ((readyN u.Procs u.Procs.length : Int) = u.Ready.length) && allIx (readyP u) u.Procs.length) := by
 have := want_len (l := u.Procs) (k := u.Procs.length) (Nat.le_refl _)
 rw [List.take_length] at this
 rw [readyOk, ready_all, this]
theorem readyN_le (l : List DProc) : ∀ k, readyN l k ≤ k
 | 0 => Nat.le_refl _
 | k + 1 => by have := readyN_le l k; simp only [readyN, cumN] at this ⊢; split <;> omega
theorem readyN_succ (l : List DProc) (k : Nat) : readyN l (k + 1) = readyN l k + (if (l.getD k En.dflt).State = 1 then 1 else 0) := rfl
theorem ends_zero (u : DUnix) (pipe : Int) : (((endsN u pipe 3 u.Opens.length : Nat) : Int) + ((endsN u pipe 4 u.Opens.length : Nat) : Int) == 0) = !(u.Opens.any (isEnd pipe)) := by
 rw [← ends_any, Bool.eq_iff_iff]
 simp
 omega
end Go.Proofs.YthjfgpkjooaahaaGreat.VM
