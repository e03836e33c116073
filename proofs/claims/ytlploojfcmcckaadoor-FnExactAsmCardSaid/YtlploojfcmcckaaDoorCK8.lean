/- Contracts of functions of the program. No conditions beyond those that each states. -/
import Derived.Test.YtlploojfcmcckaaDoorCK5
import Derived.Test.YtlploojfcmcckaaDoorCKB
import Derived.Test.YtlploojfcmcckaaDoorVmD
import Derived.Lib.IndexBytes
import Derived.Lib.CountLaws
import Derived.Lib.CutLaws
import Derived.Lib.IndexLaws
import Derived.Lib.SplitLaws
set_option linter.all false
set_option maxHeartbeats 8000000
set_option maxRecDepth 10000
namespace Go.Proofs.YtlploojfcmcckaaDoor.VM
open Go Go.RowKit Go.Proofs
/-- a list of bytes cut at each c -/
def addH (b : UInt8) : List (List UInt8) → List (List UInt8)
 | [] => [[b]]
 | x :: xs => (b :: x) :: xs
def cutL (c : UInt8) : List UInt8 → List (List UInt8)
 | [] => [[]]
 | b :: r => if b = c then [] :: cutL c r else addH b (cutL c r)
theorem cutL_none {c : UInt8} : ∀ {l : List UInt8}, c ∉ l → cutL c l = [l]
 | [], _ => rfl
 | b :: r, h => by
  rw [cutL, if_neg (fun e => h (by rw [e]; exact List.mem_cons_self ..)), cutL_none fun h' => h (List.mem_cons_of_mem _ h')]
  rfl
theorem cutL_hit {c : UInt8} {r : List UInt8} : ∀ {l : List UInt8}, c ∉ l → cutL c (l ++ c :: r) = l :: cutL c r
 | [], _ => by rw [List.nil_append, cutL, if_pos rfl]
 | b :: l, h => by
  rw [List.cons_append, cutL, if_neg (fun e => h (by rw [e]; exact List.mem_cons_self ..)), cutL_hit fun h' => h (List.mem_cons_of_mem _ h')]
  rfl
theorem cutL_len (c : UInt8) : ∀ l : List UInt8, 1 ≤ (cutL c l).length ∧ (cutL c l).length ≤ l.length + 1
 | [] => by simp [cutL]
 | b :: r => by
  obtain ⟨h1, h2⟩ := cutL_len c r
  rw [cutL]
  split
  ·simp; omega
  ·match h : cutL c r, h1 with
   | x :: xs, _ => rw [h] at h2; simp [addH] at h2 ⊢; omega
theorem list_size (s : ByteArray) : s.data.toList.length = s.size := by rw [Array.length_toList]; rfl
theorem ext_list (s : ByteArray) (a b : Nat) : (s.extract a b).data.toList = (s.data.toList.drop a).take (b - a) := by
 rw [ByteArray.data_extract, Array.toList_extract]
def cutB (c : UInt8) (s : ByteArray) : List ByteArray := (cutL c s.data.toList).map fun l => ⟨l.toArray⟩
theorem cutB_len (c : UInt8) (s : ByteArray) : 1 ≤ (cutB c s).length ∧ (cutB c s).length ≤ s.size + 1 := by
 have h := cutL_len c s.data.toList
 rw [list_size] at h
 rw [cutB, List.length_map]
 exact h
theorem cut_split (c : UInt8) : ∀ (k : Nat) (s : ByteArray), s.size ≤ k → Lib.splitB ⟨#[c]⟩ 0 (Lib.countB s ⟨#[c]⟩) s = cutB c s
 | k, s, hk => by
  have h1 : (⟨#[c]⟩ : ByteArray).size = 1 := rfl
  have hone := Lib.one s ⟨#[c]⟩ h1
  have hc : (((⟨#[c]⟩ : ByteArray)[0].toNat : Nat) : Int).toNat.toUInt8 = c := by
   show c.toNat.toUInt8 = c
   simp
  rw [hc] at hone
  rcases Lib.indexB_cases s ⟨#[c]⟩ with h | ⟨i, h, hi⟩
  ·rw [Lib.splitB_miss _ _ _ _ h]
   rw [h] at hone
   have hn : c ∉ s.data.toList := fun hm => by
    obtain ⟨j, hj, e⟩ := List.getElem_of_mem hm
    exact Lib.indexByte_none hone.symm j (by rw [List.getElem?_eq_getElem hj, e])
   rw [cutB, cutL_none hn]
   rfl
  ·rw [h] at hone
   obtain ⟨g1, g2⟩ := Lib.indexByte_some hone.symm
   have hlt : i < s.data.toList.length := (List.getElem?_eq_some_iff.1 g1).1
   have hget : s.data.toList[i] = c := (List.getElem?_eq_some_iff.1 g1).2
   have hn : c ∉ s.data.toList.take i := fun hm => by
    obtain ⟨j, hj, e⟩ := List.getElem_of_mem hm
    have hj' : j < i := by simp at hj; omega
    rw [List.getElem_take] at e
    exact g2 j hj' (by rw [List.getElem?_eq_getElem (by omega), e])
   have hsz : s.size = s.data.toList.length := by rw [Array.length_toList]; rfl
   have hx : (s.extract (i + 1) s.size).data.toList = s.data.toList.drop (i + 1) := by
    rw [ext_list, List.take_of_length_le (by rw [List.length_drop, list_size]; omega)]
   have hxs : (s.extract (i + 1) s.size).size = s.size - (i + 1) := by
    rw [ByteArray.size_extract]; omega
   rw [Lib.countB_hit s ⟨#[c]⟩ i (Nat.le_refl _) h, Nat.add_comm 1, Lib.splitB_hit _ _ _ _ i h, h1]
   match k, hk with
   | 0, hk => omega
   | k + 1, hk =>
   rw [cut_split c k (s.extract (i + 1) s.size) (by omega)]
   have hl : s.data.toList = s.data.toList.take i ++ c :: s.data.toList.drop (i + 1) := by
    rw [← hget, ← List.drop_eq_getElem_cons hlt, List.take_append_drop]
   have h2 : cutB c s = (⟨(s.data.toList.take i).toArray⟩ : ByteArray) :: cutB c (s.extract (i + 1) s.size) := by
    unfold cutB
    rw [hx]
    conv => lhs; rw [hl]
    rw [cutL_hit hn]
    rfl
   rw [h2]
   congr 1
   apply ByteArray.ext
   apply Array.ext'
   rw [ByteArray.data_extract, Array.toList_extract]
   simp [List.extract]
/-- the lines of a text -/
def linesS (s : ByteArray) : List ByteArray := if (cutB 10 s).getD ((cutB 10 s).length - 1) En.dflt = ⟨#[]⟩ then (cutB 10 s).take ((cutB 10 s).length - 1) else cutB 10 s
/-- cutting a text step by step -/
structure CutI (c : UInt8) (s : ByteArray) where
 k : Nat
 le : k ≤ s.size
 f : Nat
 fle : f ≤ k
 out : List ByteArray
 no : c ∉ (s.data.toList.drop f).take (k - f)
 eq : out ++ (cutL c (s.data.toList.drop f)).map (fun l => (⟨l.toArray⟩ : ByteArray)) = cutB c s
theorem CutI.len {c : UInt8} {s : ByteArray} (i : CutI c s) : i.out.length ≤ s.size := by
 have h1 := congrArg List.length i.eq
 have h2 := (cutB_len c s).2
 have h3 := (cutL_len c (s.data.toList.drop i.f)).1
 rw [List.length_append, List.length_map] at h1
 omega
theorem chr_drop {s : ByteArray} {k f : Nat} (hk : k < s.size) (hf : f ≤ k) : (s.data.toList.drop f).take (k + 1 - f) = (s.data.toList.drop f).take (k - f) ++ [chr s k] := by
 rw [show k + 1 - f = (k - f) + 1 by omega, List.take_add_one]
 congr 1
 rw [List.getElem?_drop, show f + (k - f) = k by omega, List.getElem?_eq_getElem (by rw [list_size]; exact hk), chr, List.getD_eq_getElem?_getD, List.getElem?_eq_getElem (by rw [list_size]; exact hk)]
 simp
theorem CutI.noN {c : UInt8} {s : ByteArray} (i : CutI c s) (hk : i.k < s.size) (h : ¬ chr s i.k = c) : c ∉ (s.data.toList.drop i.f).take (i.k + 1 - i.f) := by
 rw [chr_drop hk i.fle]
 intro hm
 rcases List.mem_append.1 hm with hm | hm
 ·exact i.no hm
 ·exact h (List.mem_singleton.1 hm).symm
theorem CutI.eqN {c : UInt8} {s : ByteArray} (i : CutI c s) (hk : i.k < s.size) (h : chr s i.k = c) : (i.out ++ [s.extract i.f i.k]) ++ (cutL c (s.data.toList.drop (i.k + 1))).map (fun l => (⟨l.toArray⟩ : ByteArray)) = cutB c s := by
 rw [← i.eq]
 have hl : s.data.toList.drop i.f = (s.data.toList.drop i.f).take (i.k - i.f) ++ c :: s.data.toList.drop (i.k + 1) := by
  conv => lhs; rw [← List.take_append_drop (i.k + 1 - i.f) (s.data.toList.drop i.f), chr_drop hk i.fle, h, List.drop_drop, show i.f + (i.k + 1 - i.f) = i.k + 1 by have := i.fle; omega]
  simp
 conv => rhs; rw [hl]
 rw [cutL_hit i.no, List.map_cons, List.append_assoc, List.singleton_append]
 congr 2
 apply ByteArray.ext
 apply Array.ext'
 rw [ext_list]
theorem CutI.full {c : UInt8} {s : ByteArray} (i : CutI c s) (hk : i.k = s.size) : i.out ++ [s.extract i.f s.size] = cutB c s := by
 have h := i.no
 rw [List.take_of_length_le (by rw [List.length_drop, list_size]; omega)] at h
 rw [← i.eq, cutL_none h]
 congr 2
 apply ByteArray.ext
 apply Array.ext'
 rw [ext_list, List.take_of_length_le (by rw [List.length_drop, list_size]; omega)]
theorem CutI.lines1 {s : ByteArray} (i : CutI 10 s) (hk : i.k = s.size) (h : i.f < s.size) : linesS s = i.out ++ [s.extract i.f s.size] := by
 unfold linesS
 rw [← i.full hk, if_neg]
 rw [List.length_append, List.length_singleton, Nat.add_sub_cancel]
 intro e
 have h1 : s.extract i.f s.size = ⟨#[]⟩ := by simpa using e
 have h2 := congrArg ByteArray.size h1
 rw [ByteArray.size_extract] at h2
 have : (⟨#[]⟩ : ByteArray).size = 0 := rfl
 omega
theorem CutI.lines0 {s : ByteArray} (i : CutI 10 s) (hk : i.k = s.size) (h : ¬ i.f < s.size) : linesS s = i.out := by
 unfold linesS
 have he : s.extract i.f s.size = ⟨#[]⟩ := by
  apply ByteArray.ext
  apply Array.ext'
  rw [ext_list, List.drop_of_length_le (by rw [list_size]; omega), List.take_nil]
 rw [← i.full hk, if_pos]
 ·simp
 ·simpa using he
theorem lines_len (s : ByteArray) : (linesS s).length ≤ s.size + 1 := by
 have h := (cutB_len 10 s).2
 unfold linesS
 split
 ·rw [List.length_take]; omega
 ·exact h
theorem cut_mem (c : UInt8) : ∀ (l : List UInt8), ∀ x ∈ cutL c l, x.length ≤ l.length
 | [], x, h => by simp [cutL] at h; subst h; simp
 | b :: r, x, h => by
  rw [cutL] at h
  split at h
  ·rcases List.mem_cons.1 h with rfl | h
   ·simp
   ·have := cut_mem c r x h; simp; omega
  ·match hc : cutL c r, cutL_len c r with
   | y :: ys, _ =>
    rw [hc, addH] at h
    rcases List.mem_cons.1 h with rfl | h
    ·have := cut_mem c r y (by rw [hc]; exact List.mem_cons_self ..); simp; omega
    ·have := cut_mem c r x (by rw [hc]; exact List.mem_cons_of_mem _ h); simp; omega
   | [], h' => simp at h'
theorem cutB_size (c : UInt8) (s : ByteArray) (k : Nat) : ((cutB c s).getD k En.dflt).size ≤ s.size := by
 rw [List.getD_eq_getElem?_getD]
 cases h : (cutB c s)[k]? with
 | none => exact Nat.zero_le _
 | some x =>
  have hm := List.mem_of_getElem? h
  obtain ⟨y, hy, rfl⟩ := List.mem_map.1 hm
  have := cut_mem c _ y hy
  rw [list_size] at this
  show y.toArray.size ≤ _
  rw [List.size_toArray]
  exact this
theorem lines_size (s : ByteArray) (k : Nat) : ((linesS s).getD k En.dflt).size ≤ s.size := by
 unfold linesS
 split
 ·rw [List.getD_eq_getElem?_getD, List.getElem?_take]
  split
  ·have := cutB_size 10 s k
   rwa [List.getD_eq_getElem?_getD] at this
  ·exact Nat.zero_le _
 ·exact cutB_size 10 s k
/-- a register's number; -1 where there is none -/
def regN (s : ByteArray) : Int := if (s.size : Int) = 2 ∧ ((chr s 0).toNat : Int) = 114 ∧ 48 ≤ ((chr s 1).toNat : Int) ∧ ((chr s 1).toNat : Int) ≤ 51 then ((chr s 1).toNat : Int) - 48 else -1
/-- the k-th thing behind the word -/
def argV (f : ByteArray) (ws : List ByteArray) (k : Nat) : Int × Bool :=
 if ((chr f k).toNat : Int) = 114 then (if regN (ws.getD (k + 1) En.dflt) < 0 then (0, false) else (regN (ws.getD (k + 1) En.dflt), true)) else rdS (ws.getD (k + 1) En.dflt)
def argN (f : ByteArray) (ws : List ByteArray) (m k : Nat) : Int := if k < m then (argV f ws k).1 else 0
def nsK (f : ByteArray) (ws : List ByteArray) (m : Nat) : List Int := [argN f ws m 0, argN f ws m 1, argN f ws m 2]
theorem nsK_zero (f : ByteArray) (ws : List ByteArray) : nsK f ws 0 = [0, 0, 0] := by simp [nsK, argN]
theorem nsK_set (f : ByteArray) (ws : List ByteArray) {m : Nat} (h : m < 3) : (nsK f ws m).set m (argV f ws m).1 = nsK f ws (m + 1) := by
 match m, h with
 | 0, _ => simp [nsK, argN]
 | 1, _ => simp [nsK, argN]
 | 2, _ => simp [nsK, argN]
/-- are the first m read -/
def argsOk (f : ByteArray) (ws : List ByteArray) (m : Nat) : Bool := (List.range m).all fun k => (argV f ws k).2
theorem argsOk_next {f : ByteArray} {ws : List ByteArray} {m : Nat} (h : argsOk f ws m = true) (h2 : (argV f ws m).2 = true) : argsOk f ws (m + 1) = true := by
 unfold argsOk at *
 rw [List.range_succ, List.all_append, h]
 simpa using h2
theorem argsOk_stop {f : ByteArray} {ws : List ByteArray} {m n : Nat} (h2 : (argV f ws m).2 = false) (hm : m < n) : argsOk f ws n = false := by
 unfold argsOk
 rw [Bool.eq_false_iff]
 intro h
 have := List.all_eq_true.1 h m (List.mem_range.2 hm)
 rw [h2] at this
 cases this
def insOf (op : Int) (f : ByteArray) (ws : List ByteArray) : DIns := ⟨op, argN f ws f.size 0, argN f ws f.size 1, argN f ws f.size 2⟩
/-- the instruction of a line -/
def lineR (s : ByteArray) : DIns × Bool :=
 let ws := cutB 32 s
 let g := formOf (ws.getD 0 En.dflt)
 if g.1 = 0 ∨ ¬ (ws.length : Int) = (g.2.size : Int) + 1 ∨ argsOk g.2 ws g.2.size = false then (⟨0, 0, 0, 0⟩, false) else (insOf g.1 g.2 ws, insOk (insOf g.1 g.2 ws))
theorem lineR_bad {s : ByteArray} (h : (formOf ((cutB 32 s).getD 0 En.dflt)).1 = 0 ∨ ¬ ((cutB 32 s).length : Int) = ((formOf ((cutB 32 s).getD 0 En.dflt)).2.size : Int) + 1 ∨ argsOk (formOf ((cutB 32 s).getD 0 En.dflt)).2 (cutB 32 s) (formOf ((cutB 32 s).getD 0 En.dflt)).2.size = false) : lineR s = (⟨0, 0, 0, 0⟩, false) := by
 unfold lineR
 exact if_pos h
theorem lineR_good {s : ByteArray} (h1 : ¬ (formOf ((cutB 32 s).getD 0 En.dflt)).1 = 0) (h2 : ((cutB 32 s).length : Int) = ((formOf ((cutB 32 s).getD 0 En.dflt)).2.size : Int) + 1) (h3 : argsOk (formOf ((cutB 32 s).getD 0 En.dflt)).2 (cutB 32 s) (formOf ((cutB 32 s).getD 0 En.dflt)).2.size = true) :
  lineR s = (insOf (formOf ((cutB 32 s).getD 0 En.dflt)).1 (formOf ((cutB 32 s).getD 0 En.dflt)).2 (cutB 32 s), insOk (insOf (formOf ((cutB 32 s).getD 0 En.dflt)).1 (formOf ((cutB 32 s).getD 0 En.dflt)).2 (cutB 32 s))) := by
 unfold lineR
 refine if_neg ?_
 rintro (h | h | h)
 ·exact h1 h
 ·exact h h2
 ·rw [h3] at h; cases h
theorem formOf_idx (w : ByteArray) : formOf w = if Lib.idxOfS names w < 1 then (0, ⟨#[]⟩) else (Lib.idxOfS names w, forms.getD (Lib.idxOfS names w).toNat En.dflt) := by
 unfold formOf Lib.idxOfS
 by_cases h0 : w = ⟨#[]⟩
 ·subst h0; rfl
 ·by_cases h1 : w = (⟨#[115, 101, 116]⟩ : ByteArray)
  ·subst h1; rfl
  ·by_cases h2 : w = (⟨#[97, 100, 100]⟩ : ByteArray)
   ·subst h2; rfl
   ·by_cases h3 : w = (⟨#[115, 117, 98]⟩ : ByteArray)
    ·subst h3; rfl
    ·by_cases h4 : w = (⟨#[108, 111, 97, 100]⟩ : ByteArray)
     ·subst h4; rfl
     ·by_cases h5 : w = (⟨#[115, 116, 111, 114, 101]⟩ : ByteArray)
      ·subst h5; rfl
      ·by_cases h6 : w = (⟨#[106, 117, 109, 112]⟩ : ByteArray)
       ·subst h6; rfl
       ·by_cases h7 : w = (⟨#[122, 101, 114, 111]⟩ : ByteArray)
        ·subst h7; rfl
        ·by_cases h8 : w = (⟨#[115, 121, 115]⟩ : ByteArray)
         ·subst h8; rfl
         ·rw [if_neg h1, if_neg h2, if_neg h3, if_neg h4, if_neg h5, if_neg h6, if_neg h7, if_neg h8]
          simp only [names, Lib.idxFromS]
          rw [if_neg (Ne.symm h0), if_neg (Ne.symm h1), if_neg (Ne.symm h2), if_neg (Ne.symm h3), if_neg (Ne.symm h4), if_neg (Ne.symm h5), if_neg (Ne.symm h6), if_neg (Ne.symm h7), if_neg (Ne.symm h8), if_pos (by omega)]
/-- the assembler, from the k-th line on, behind what stands -/
def asmGo : List ByteArray → Nat → List DIns → List DIns × Int
 | [], _, out => (out, 0)
 | l :: r, k, out => if l = ⟨#[]⟩ then asmGo r (k + 1) out else if (lineR l).2 = false ∨ 40 ≤ out.length then ([], (k : Int) + 1) else asmGo r (k + 1) (out ++ [(lineR l).1])
def asmR (s : ByteArray) : List DIns × Int := asmGo (linesS s) 0 []
structure AsmI (l : List ByteArray) where
 k : Nat
 le : k ≤ l.length
 out : List DIns
 len : out.length ≤ 40
 eq : asmGo (l.drop k) k out = asmGo l 0 []
theorem drop_at {l : List ByteArray} {k : Nat} (hk : k < l.length) : l.drop k = l.getD k En.dflt :: l.drop (k + 1) := by
 rw [List.drop_eq_getElem_cons hk, List.getD_eq_getElem?_getD, List.getElem?_eq_getElem hk]
 rfl
theorem AsmI.skip {l : List ByteArray} (i : AsmI l) (hk : i.k < l.length) (h : l.getD i.k En.dflt = ⟨#[]⟩) : asmGo (l.drop (i.k + 1)) (i.k + 1) i.out = asmGo l 0 [] := by
 rw [← i.eq, drop_at hk, asmGo, if_pos h]
theorem AsmI.bad {l : List ByteArray} (i : AsmI l) (hk : i.k < l.length) (h : ¬ l.getD i.k En.dflt = ⟨#[]⟩) (hb : (lineR (l.getD i.k En.dflt)).2 = false ∨ 40 ≤ i.out.length) : asmGo l 0 [] = ([], (i.k : Int) + 1) := by
 rw [← i.eq, drop_at hk, asmGo, if_neg h, if_pos hb]
theorem AsmI.next {l : List ByteArray} (i : AsmI l) (hk : i.k < l.length) (h : ¬ l.getD i.k En.dflt = ⟨#[]⟩) (h1 : (lineR (l.getD i.k En.dflt)).2 = true) (h2 : ¬ 40 ≤ i.out.length) : asmGo (l.drop (i.k + 1)) (i.k + 1) (i.out ++ [(lineR (l.getD i.k En.dflt)).1]) = asmGo l 0 [] := by
 rw [← i.eq, drop_at hk, asmGo, if_neg h, if_neg fun h => h.elim (fun h => by rw [h1] at h; cases h) h2]
theorem AsmI.full {l : List ByteArray} (i : AsmI l) (hk : i.k = l.length) : asmGo l 0 [] = (i.out, 0) := by
 rw [← i.eq, hk, List.drop_length, asmGo]
theorem asmGo_len : ∀ (l : List ByteArray) (k : Nat) (out : List DIns), out.length ≤ 40 → (asmGo l k out).1.length ≤ 40
 | [], _, _, h => h
 | l :: r, k, out, h => by
  rw [asmGo]
  split
  ·exact asmGo_len r _ _ h
  ·split
   ·simp
   ·rename_i hn
    refine asmGo_len r _ _ ?_
    simp only [not_or] at hn
    simp
    omega
end Go.Proofs.YtlploojfcmcckaaDoor.VM
