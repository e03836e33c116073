/- Contracts. No conditions. -/
import Derived.Test.YtldefnpobjabpaaGreatCQ10
set_option linter.all false
set_option maxHeartbeats 8000000
set_option maxRecDepth 10000
namespace Go.Proofs.YtldefnpobjabpaaGreat.VM
open Go Go.RowKit Go.Proofs
structure ShpA (a : DArrays) : Prop where
 slots : a.Slots.length = 6
 ram : a.Ram.length = 64
 opens : a.Opens.length = 8
 pipes : a.Pipes.length = 3
 files : a.Files.length = 6
 ready : ringOk a.Ready 6 = true
 slot : ∀ k, k < a.Slots.length → (a.Slots.getD k En.dflt).Regs.length = 4 ∧ (a.Slots.getD k En.dflt).Pt.length = 3 ∧ (a.Slots.getD k En.dflt).Fds.length = 4
 pipe : ∀ k, k < a.Pipes.length → ringOk (a.Pipes.getD k En.dflt) 4 = true
theorem all_getD {α : Type} [En α] {l : List α} {p : α → Bool} (h : l.all p = true) {k : Nat} (hk : k < l.length) : p (l.getD k En.dflt) = true := by
 rw [List.getD_eq_getElem?_getD, List.getElem?_eq_getElem hk]
 exact List.all_eq_true.1 h _ (List.getElem_mem _)
theorem shpA {a : DArrays} (h : shapeA a = true) : ShpA a := by
 unfold shapeA at h
 rw [Bool.and_eq_true, Bool.and_eq_true, Bool.and_eq_true, Bool.and_eq_true] at h
 obtain ⟨h1, h2, _, h3, _⟩ := h
 simp only [headA, Bool.and_eq_true, beq_iff_eq] at h1
 refine ⟨by omega, by omega, by omega, by omega, by omega, h1.2, fun k hk => ?_, fun k hk => ?_⟩
 ·have := all_getD h2 hk
  simp only [slotOk, Bool.and_eq_true, beq_iff_eq] at this
  omega
 ·have := all_getD h3 hk
  simp only [pipeBad] at this
  cases hr : ringOk (a.Pipes.getD k En.dflt) 4 with
  | true => rfl
  | false => rw [hr] at this; simp at this
def procsK (a : DArrays) : Nat → List DProc
 | 0 => []
 | k + 1 => if (a.Slots.getD k En.dflt).Used = true then procsK a k ++ [procP a (a.Slots.getD k En.dflt)] else procsK a k
def openP (k : Nat) (o : DAOpen) : DOpen := { Id := k, Kind := o.Kind, Target := o.Target, Off := o.Off, Refs := o.Refs }
def opensK (a : DArrays) : Nat → List DOpen
 | 0 => []
 | k + 1 => if (a.Opens.getD k En.dflt).Used = true then opensK a k ++ [openP k (a.Opens.getD k En.dflt)] else opensK a k
def pipeP (k : Nat) (r : DARing) : DPipe := { Id := k, Data := dataL r }
def pipesK (a : DArrays) : Nat → List DPipe
 | 0 => []
 | k + 1 => if (a.Pipes.getD k En.dflt).Used = true then pipesK a k ++ [pipeP k (a.Pipes.getD k En.dflt)] else pipesK a k
def fileP (k : Nat) (f : DAFile) : DFile := { Name := k, Data := f.Data }
def filesK (a : DArrays) : Nat → List DFile
 | 0 => []
 | k + 1 => if (a.Files.getD k En.dflt).Used = true then filesK a k ++ [fileP k (a.Files.getD k En.dflt)] else filesK a k
def absU (a : DArrays) : DUnix := { Next := a.Next, Tick := a.Tick, Progs := a.Progs, Procs := sortK DProc.Pid (procsK a a.Slots.length), Opens := opensK a a.Opens.length, Pipes := pipesK a a.Pipes.length, Files := filesK a a.Files.length, Ready := dataL a.Ready, Out := a.Out }
def zeroU : DUnix := { Next := 0, Tick := 0, Progs := [], Procs := [], Opens := [], Pipes := [], Files := [], Ready := [], Out := [] }
def absA (a : DArrays) : DUnix := if shapeA a = true then absU a else zeroU
theorem absA_t {a : DArrays} (h : shapeA a = true) : absA a = absU a := if_pos h
theorem absA_f {a : DArrays} (h : shapeA a = false) : absA a = zeroU := if_neg (by rw [h]; simp)
theorem tw_bd (l : List Int) : ∀ k, k < (l.takeWhile isFr).length → 0 ≤ (l.takeWhile isFr).getD k En.dflt ∧ (l.takeWhile isFr).getD k En.dflt ≤ 15 := fun k hk => by
 have := all_getD (p := isFr) (List.all_takeWhile (p := isFr) (l := l)) hk
 simpa [isFr] using this
theorem tw_le (l : List Int) : (l.takeWhile isFr).length ≤ l.length := List.IsPrefix.length_le (List.takeWhile_prefix isFr)
section
variable {a : DArrays}
theorem procsK_le : ∀ k, (procsK a k).length ≤ k
 | 0 => Nat.le_refl _
 | k + 1 => by have := procsK_le k; rw [procsK]; split <;> simp <;> omega
theorem opensK_le : ∀ k, (opensK a k).length ≤ k
 | 0 => Nat.le_refl _
 | k + 1 => by have := opensK_le k; rw [opensK]; split <;> simp <;> omega
theorem pipesK_le : ∀ k, (pipesK a k).length ≤ k
 | 0 => Nat.le_refl _
 | k + 1 => by have := pipesK_le k; rw [pipesK]; split <;> simp <;> omega
theorem filesK_le : ∀ k, (filesK a k).length ≤ k
 | 0 => Nat.le_refl _
 | k + 1 => by have := filesK_le k; rw [filesK]; split <;> simp <;> omega
theorem procsK_t {k : Nat} (h : (a.Slots.getD k En.dflt).Used = true) : procsK a (k + 1) = procsK a k ++ [procP a (a.Slots.getD k En.dflt)] := if_pos h
theorem procsK_f {k : Nat} (h : (a.Slots.getD k En.dflt).Used = false) : procsK a (k + 1) = procsK a k := if_neg (by rw [h]; simp)
theorem opensK_t {k : Nat} (h : (a.Opens.getD k En.dflt).Used = true) : opensK a (k + 1) = opensK a k ++ [openP k (a.Opens.getD k En.dflt)] := if_pos h
theorem opensK_f {k : Nat} (h : (a.Opens.getD k En.dflt).Used = false) : opensK a (k + 1) = opensK a k := if_neg (by rw [h]; simp)
theorem pipesK_t {k : Nat} (h : (a.Pipes.getD k En.dflt).Used = true) : pipesK a (k + 1) = pipesK a k ++ [pipeP k (a.Pipes.getD k En.dflt)] := if_pos h
theorem pipesK_f {k : Nat} (h : (a.Pipes.getD k En.dflt).Used = false) : pipesK a (k + 1) = pipesK a k := if_neg (by rw [h]; simp)
theorem filesK_t {k : Nat} (h : (a.Files.getD k En.dflt).Used = true) : filesK a (k + 1) = filesK a k ++ [fileP k (a.Files.getD k En.dflt)] := if_pos h
theorem filesK_f {k : Nat} (h : (a.Files.getD k En.dflt).Used = false) : filesK a (k + 1) = filesK a k := if_neg (by rw [h]; simp)
end

end Go.Proofs.YtldefnpobjabpaaGreat.VM
