/- Contracts. No conditions. -/
import Derived.Test.YtldefnpobjabpaaGreatCUN
import Derived.Test.YtldefnpobjabpaaGreatCUH
import Derived.Test.YtldefnpobjabpaaGreatVmD
set_option linter.all false
set_option maxHeartbeats 8000000
set_option maxRecDepth 10000
namespace Go.Proofs.YtldefnpobjabpaaGreat.VM
/-! what ShowUnix says -/
def strU : ByteArray := ⟨#[117]⟩
def varsS (l : List Int) : ByteArray := catN varS En.dflt l l.length
def wordsS (l : List Int) : ByteArray := varS l.length ++ catN (fun n => varS (zig n)) En.dflt l l.length
def plusS (m : Int) (l : List Int) : ByteArray := varS l.length ++ catN (fun n => varS (n + m)) En.dflt l l.length
def progB (l : List DIns) : ByteArray := showK l l.length
def procB (p : DProc) : ByteArray := ((((((((varS p.Pid ++ varS p.Parent) ++ varS p.State) ++ varS p.Prog) ++ varS p.Cpu.Pc) ++ wordsS p.Cpu.Regs) ++ wordsS p.Mem) ++ plusS 1 p.Fds) ++ varS p.Until) ++ wordsS [p.Code]
def openB (o : DOpen) : ByteArray := (((varS o.Id ++ varS o.Kind) ++ varS o.Target) ++ varS o.Off) ++ varS o.Refs
def pipeB (p : DPipe) : ByteArray := varS p.Id ++ wordsS p.Data
def fileB (f : DFile) : ByteArray := varS f.Name ++ wordsS f.Data
def wzA (u : DUnix) (k : Nat) : ByteArray := (((strU ++ varS u.Next) ++ varS u.Tick) ++ varS u.Progs.length) ++ catN progB En.dflt u.Progs k
def wzP (u : DUnix) (k : Nat) : ByteArray := (wzA u u.Progs.length ++ varS u.Procs.length) ++ catN procB En.dflt u.Procs k
def wzO (u : DUnix) (k : Nat) : ByteArray := (wzP u u.Procs.length ++ varS u.Opens.length) ++ catN openB En.dflt u.Opens k
def wzI (u : DUnix) (k : Nat) : ByteArray := (wzO u u.Opens.length ++ varS u.Pipes.length) ++ catN pipeB En.dflt u.Pipes k
def wzF (u : DUnix) (k : Nat) : ByteArray := (wzI u u.Pipes.length ++ varS u.Files.length) ++ catN fileB En.dflt u.Files k
def wzR (u : DUnix) (k : Nat) : ByteArray := (wzF u u.Files.length ++ varS u.Ready.length) ++ catN varS En.dflt u.Ready k
def showOf (u : DUnix) : ByteArray := wzR u u.Ready.length ++ wordsS u.Out
def showU (u : DUnix) : ByteArray := if unixOk u = true then showOf u else ByteArray.empty
theorem wzA_succ (u : DUnix) (k : Nat) : wzA u (k + 1) = wzA u k ++ progB (u.Progs.getD k En.dflt) := by simp only [wzA, catN_succ, ByteArray.append_assoc]
theorem wzP_succ (u : DUnix) (k : Nat) : wzP u (k + 1) = wzP u k ++ procB (u.Procs.getD k En.dflt) := by simp only [wzP, catN_succ, ByteArray.append_assoc]
theorem wzO_succ (u : DUnix) (k : Nat) : wzO u (k + 1) = wzO u k ++ openB (u.Opens.getD k En.dflt) := by simp only [wzO, catN_succ, ByteArray.append_assoc]
theorem wzI_succ (u : DUnix) (k : Nat) : wzI u (k + 1) = wzI u k ++ pipeB (u.Pipes.getD k En.dflt) := by simp only [wzI, catN_succ, ByteArray.append_assoc]
theorem wzF_succ (u : DUnix) (k : Nat) : wzF u (k + 1) = wzF u k ++ fileB (u.Files.getD k En.dflt) := by simp only [wzF, catN_succ, ByteArray.append_assoc]
theorem wzR_succ (u : DUnix) (k : Nat) : wzR u (k + 1) = wzR u k ++ varS (u.Ready.getD k En.dflt) := by simp only [wzR, catN_succ, ByteArray.append_assoc]
theorem wzA_zero (u : DUnix) : wzA u 0 = ((strU ++ varS u.Next) ++ varS u.Tick) ++ varS u.Progs.length := by simp [wzA, catN]
theorem wzP_zero (u : DUnix) : wzP u 0 = wzA u u.Progs.length ++ varS u.Procs.length := by simp [wzP, catN]
theorem wzO_zero (u : DUnix) : wzO u 0 = wzP u u.Procs.length ++ varS u.Opens.length := by simp [wzO, catN]
theorem wzI_zero (u : DUnix) : wzI u 0 = wzO u u.Opens.length ++ varS u.Pipes.length := by simp [wzI, catN]
theorem wzF_zero (u : DUnix) : wzF u 0 = wzI u u.Pipes.length ++ varS u.Files.length := by simp [wzF, catN]
theorem wzR_zero (u : DUnix) : wzR u 0 = wzF u u.Files.length ++ varS u.Ready.length := by simp [wzR, catN]
theorem plus0 (l : List Int) : plusS 0 l = varS l.length ++ catN varS En.dflt l l.length := by
 rw [plusS, show (fun n : Int => varS (n + 0)) = varS from funext fun n => by rw [Int.add_zero]]
theorem wzR_plus (u : DUnix) : wzF u u.Files.length ++ plusS 0 u.Ready = wzR u u.Ready.length := by rw [plus0, wzR, ByteArray.append_assoc]
theorem wordsS_size (l : List Int) : (wordsS l).size ≤ 7 + 7 * l.length := by
 have := catN_size (f := fun n => varS (zig n)) (d := En.dflt) (l := l) (m := 7) (fun n => varS_size _) l.length
 have := varS_size l.length
 rw [wordsS, ByteArray.size_append]; omega
theorem plusS_size (m : Int) (l : List Int) : (plusS m l).size ≤ 7 + 7 * l.length := by
 have := catN_size (f := fun n => varS (n + m)) (d := En.dflt) (l := l) (m := 7) (fun n => varS_size _) l.length
 have := varS_size l.length
 rw [plusS, ByteArray.size_append]; omega
/-- what is known of a process that is shown -/
structure ProcF (p : DProc) : Prop where
 regs : p.Cpu.Regs.length = 4
 regsW : ∀ i, i < p.Cpu.Regs.length → -1000000 ≤ p.Cpu.Regs.getD i En.dflt ∧ p.Cpu.Regs.getD i En.dflt ≤ 1000000
 mem : p.Mem.length ≤ 12
 memW : ∀ i, i < p.Mem.length → -1000000 ≤ p.Mem.getD i En.dflt ∧ p.Mem.getD i En.dflt ≤ 1000000
 fds : p.Fds.length = 4
 fdsW : ∀ i, i < p.Fds.length → -1 ≤ p.Fds.getD i En.dflt ∧ p.Fds.getD i En.dflt ≤ 7
 code : -1000000 ≤ p.Code ∧ p.Code ≤ 1000000
structure ShowF (u : DUnix) : Prop where
 progs : u.Progs.length ≤ 4
 prog : ∀ i, i < u.Progs.length → progOk (u.Progs.getD i En.dflt) = true
 procs : u.Procs.length ≤ 6
 proc : ∀ i, i < u.Procs.length → ProcF (u.Procs.getD i En.dflt)
 opens : u.Opens.length ≤ 8
 pipes : u.Pipes.length ≤ 3
 pipe : ∀ i, i < u.Pipes.length → (u.Pipes.getD i En.dflt).Data.length ≤ 4 ∧ ∀ k, k < (u.Pipes.getD i En.dflt).Data.length → -1000000 ≤ (u.Pipes.getD i En.dflt).Data.getD k En.dflt ∧ (u.Pipes.getD i En.dflt).Data.getD k En.dflt ≤ 1000000
 files : u.Files.length ≤ 6
 file : ∀ i, i < u.Files.length → (u.Files.getD i En.dflt).Data.length ≤ 8 ∧ ∀ k, k < (u.Files.getD i En.dflt).Data.length → -1000000 ≤ (u.Files.getD i En.dflt).Data.getD k En.dflt ∧ (u.Files.getD i En.dflt).Data.getD k En.dflt ≤ 1000000
 ready : u.Ready.length ≤ 6
 readyW : ∀ i, i < u.Ready.length → 1 ≤ u.Ready.getD i En.dflt ∧ u.Ready.getD i En.dflt ≤ 100000
 out : u.Out.length ≤ 60
 outW : ∀ i, i < u.Out.length → -1000000 ≤ u.Out.getD i En.dflt ∧ u.Out.getD i En.dflt ≤ 1000000
theorem all_get {α : Type} {P : α → Bool} {l : List α} (d : α) (h : l.all P = true) {i : Nat} (hi : i < l.length) : P (l.getD i d) = true := by
 have := List.all_eq_true.1 h l[i] (List.getElem_mem hi)
 simpa [List.getD_eq_getElem?_getD, hi] using this
theorem all_words {l : List Int} (h : l.all word = true) : ∀ i, i < l.length → -1000000 ≤ l.getD i En.dflt ∧ l.getD i En.dflt ≤ 1000000 := fun i hi => by
 have := all_get En.dflt h hi
 simpa [word] using this
theorem procF_of {u : DUnix} (ho : opensOk u = true) {p : DProc} (h : procOk u p = true) : ProcF p := by
 simp only [procOk, procS, cpuOk, Bool.and_eq_true, decide_eq_true_eq, beq_iff_eq] at h
 obtain ⟨_, ⟨⟨⟨⟨⟨⟨⟨⟨⟨_, _⟩, _, h1, h2⟩, h3⟩, _⟩, h4⟩, h5⟩, h6⟩, _⟩, h7⟩, _⟩ := h
 refine ⟨h1, all_words h2, by omega, all_words h5, by omega, fun i hi => ?_, by simpa [word] using h3⟩
 have := all_get En.dflt h7 hi
 simp only [fdOk, Bool.or_eq_true, beq_iff_eq, decide_eq_true_eq] at this
 rcases this with h | h
 ·omega
 ·have hs := ixOf_sat (d := En.dflt) h
  have hl := ixOf_lt h
  have hk := allIx_iff.1 ho _ hl
  simp only [Bool.and_eq_true, openOk, decide_eq_true_eq] at hk
  have e := beq_iff_eq.1 hs
  have := hk.2.1.1
  unfold openAt at *
  omega
theorem showF_of {u : DUnix} (h : unixOk u = true) : ShowF u := by
 simp only [unixOk, headOk, progsOk, Bool.and_eq_true, decide_eq_true_eq] at h
 obtain ⟨⟨⟨⟨⟨⟨⟨hH, g5⟩, _⟩, hP⟩, hO⟩, hI⟩, hF⟩, hR⟩ := h
 obtain ⟨⟨⟨⟨⟨_, _⟩, ⟨⟨_, g1⟩, g2⟩⟩, g3⟩, g4⟩, g6⟩ := hH
 have hI' := hI
 have hF' := hF
 simp only [pipesOk, Bool.and_eq_true, decide_eq_true_eq] at hI'
 simp only [filesOk, Bool.and_eq_true, decide_eq_true_eq] at hF'
 have hperm : (srt u.Ready).Perm u.Ready := List.mergeSort_perm _ _
 have hsr : srt u.Ready = wantOf u.Procs := by rw [← beq_iff_eq, ready_eq hP]; exact hR
 have hrl : u.Ready.length = (wantOf u.Procs).length := by rw [← hsr, srt_len]
 have hwl : (wantOf u.Procs).length ≤ u.Procs.length := by
  have := (want_sub u.Procs).length_le
  simpa using this
 refine ⟨by omega, fun i hi => all_get En.dflt g2 hi, by omega, fun i hi => procF_of hO (procsOk_at hP hi).2, by omega, by omega, fun i hi => ?_, by omega, fun i hi => ?_, by omega, fun i hi => ?_, by omega, all_words g4⟩
 ·have := allIx_iff.1 hI'.1 i hi
  simp only [Bool.and_eq_true, pipeOk, decide_eq_true_eq] at this
  obtain ⟨_, ⟨⟨_, h2⟩, h3⟩, _⟩ := this
  exact ⟨by omega, all_words h3⟩
 ·have := allIx_iff.1 hF'.1 i hi
  simp only [Bool.and_eq_true, fileOk, decide_eq_true_eq] at this
  obtain ⟨_, ⟨_, h2⟩, h3⟩ := this
  exact ⟨by omega, all_words h3⟩
 ·have hm : u.Ready.getD i En.dflt ∈ u.Ready := by
   rw [List.getD_eq_getElem?_getD, List.getElem?_eq_getElem hi]; exact List.getElem_mem hi
  have hm2 : u.Ready.getD i En.dflt ∈ wantOf u.Procs := by rw [← hsr]; exact hperm.mem_iff.2 hm
  obtain ⟨k, hk, _, he⟩ := want_mem.1 hm2
  have := (procsOk_at hP hk).2
  simp only [procOk, Bool.and_eq_true, decide_eq_true_eq] at this
  omega
theorem progB_size {l : List DIns} (h : progOk l = true) : (progB l).size ≤ 1127 := by
 have h1 := showK_size l (k := l.length) (Nat.le_refl _)
 have h2 := (progFacts h).1
 rw [progB]; omega
theorem procB_size {p : DProc} (h : ProcF p) : (procB p).size ≤ 217 := by
 have h1 := varS_size p.Pid
 have h2 := varS_size p.Parent
 have h3 := varS_size p.State
 have h4 := varS_size p.Prog
 have h5 := varS_size p.Cpu.Pc
 have h6 := wordsS_size p.Cpu.Regs
 have h7 := wordsS_size p.Mem
 have h8 := plusS_size 1 p.Fds
 have h9 := varS_size p.Until
 have h10 := wordsS_size [p.Code]
 have h11 := h.regs
 have h12 := h.mem
 have h13 := h.fds
 simp only [List.length_cons, List.length_nil] at h10
 simp only [procB, ByteArray.size_append]
 omega
theorem openB_size (o : DOpen) : (openB o).size ≤ 35 := by
 have h1 := varS_size o.Id
 have h2 := varS_size o.Kind
 have h3 := varS_size o.Target
 have h4 := varS_size o.Off
 have h5 := varS_size o.Refs
 simp only [openB, ByteArray.size_append]
 omega
theorem pipeB_size {p : DPipe} (h : p.Data.length ≤ 4) : (pipeB p).size ≤ 42 := by
 have h1 := varS_size p.Id
 have h2 := wordsS_size p.Data
 simp only [pipeB, ByteArray.size_append]
 omega
theorem fileB_size {p : DFile} (h : p.Data.length ≤ 8) : (fileB p).size ≤ 70 := by
 have h1 := varS_size p.Name
 have h2 := wordsS_size p.Data
 simp only [fileB, ByteArray.size_append]
 omega
theorem wzA_size {u : DUnix} (h : ShowF u) {k : Nat} (hk : k ≤ u.Progs.length) : (wzA u k).size ≤ 5000 := by
 have h1 := catN_sizeP (fun i hi => progB_size (h.prog i hi)) k hk
 have h2 := varS_size u.Next
 have h3 := varS_size u.Tick
 have h4 := varS_size u.Progs.length
 have h5 := h.progs
 have h6 : strU.size = 1 := rfl
 simp only [wzA, ByteArray.size_append]
 omega
theorem wzP_size {u : DUnix} (h : ShowF u) {k : Nat} (hk : k ≤ u.Procs.length) : (wzP u k).size ≤ 7000 := by
 have h0 := wzA_size h (Nat.le_refl _)
 have h1 := catN_sizeP (fun i hi => procB_size (h.proc i hi)) k hk
 have h2 := varS_size u.Procs.length
 have h5 := h.procs
 simp only [wzP, ByteArray.size_append]
 omega
theorem wzO_size {u : DUnix} (h : ShowF u) {k : Nat} (hk : k ≤ u.Opens.length) : (wzO u k).size ≤ 7500 := by
 have h0 := wzP_size h (Nat.le_refl _)
 have h1 := catN_sizeP (f := openB) (d := En.dflt) (l := u.Opens) (fun i hi => openB_size _) k hk
 have h2 := varS_size u.Opens.length
 have h5 := h.opens
 simp only [wzO, ByteArray.size_append]
 omega
theorem wzI_size {u : DUnix} (h : ShowF u) {k : Nat} (hk : k ≤ u.Pipes.length) : (wzI u k).size ≤ 8000 := by
 have h0 := wzO_size h (Nat.le_refl _)
 have h1 := catN_sizeP (fun i hi => pipeB_size (h.pipe i hi).1) k hk
 have h2 := varS_size u.Pipes.length
 have h5 := h.pipes
 simp only [wzI, ByteArray.size_append]
 omega
theorem wzF_size {u : DUnix} (h : ShowF u) {k : Nat} (hk : k ≤ u.Files.length) : (wzF u k).size ≤ 9000 := by
 have h0 := wzI_size h (Nat.le_refl _)
 have h1 := catN_sizeP (fun i hi => fileB_size (h.file i hi).1) k hk
 have h2 := varS_size u.Files.length
 have h5 := h.files
 simp only [wzF, ByteArray.size_append]
 omega
theorem wzR_size {u : DUnix} (h : ShowF u) {k : Nat} (hk : k ≤ u.Ready.length) : (wzR u k).size ≤ 9100 := by
 have h0 := wzF_size h (Nat.le_refl _)
 have h1 := catN_size (f := varS) (d := En.dflt) (l := u.Ready) (m := 7) varS_size k
 have h2 := varS_size u.Ready.length
 have h5 := h.ready
 simp only [wzR, ByteArray.size_append]
 omega
end Go.Proofs.YtldefnpobjabpaaGreat.VM
