/- Chapter 3: instructions. No conditions. -/
import Derived.Test.YtfplmlcokgbbmabNum
import Derived.BigGuardPart
namespace Go.Proofs.Ytfplmlcokgbbmab
open Go.RowKit
structure Ins where
  op : Int
  a : Int
  b : Int
  c : Int
deriving DecidableEq
def Ins.enc (i : Ins) : List Value := [iv i.op, iv i.a, iv i.b, iv i.c]
instance : Flat Ins := flatOf 4 (by omega) (fun i => Ty.fit i.op ∧ Ty.fit i.a ∧ Ty.fit i.b ∧ Ty.fit i.c) Ins.enc (fun _ => rfl) (fun _ c h => by simp [Ins.enc] at h; rcases h with rfl | rfl | rfl | rfl <;> rfl)
def regB (n : Int) : Bool := inB n 0 3
def placeB (n : Int) : Bool := inB n 0 40
def wordB (n : Int) : Bool := inB n (-1000000) 1000000
def zB (n : Int) : Bool := n == 0
def insOk (i : Ins) : Bool :=
  if i.op = 1 then regB i.a && wordB i.b && zB i.c
  else if i.op = 2 ∨ i.op = 3 then regB i.a && regB i.b && regB i.c
  else if i.op = 4 ∨ i.op = 5 then regB i.a && regB i.b && zB i.c
  else if i.op = 6 then placeB i.a && zB i.b && zB i.c
  else if i.op = 7 then regB i.a && placeB i.b && zB i.c
  else if i.op = 8 then inB i.a 1 20 && zB i.b && zB i.c
  else false
theorem isReg_any (n : Int) (w : World) : Calls Try.prog 53 #[iv n] w fun e w' => e = .returned (.bool (regB n)) ∧ w = w' := by
  go_enter Try.func53, Try.ntmps53
  go_wp2_with (go_at_call 56; refine (in_any _ _ _ _).mono ?_; rintro e w' ⟨rfl, rfl⟩)
  go_ret
  exact ⟨rfl, rfl⟩
theorem isWord_any (n : Int) (w : World) : Calls Try.prog 54 #[iv n] w fun e w' => e = .returned (.bool (wordB n)) ∧ w = w' := by
  go_enter Try.func54, Try.ntmps54
  go_wp2_with (go_at_call 56; refine (in_any _ _ _ _).mono ?_; rintro e w' ⟨rfl, rfl⟩)
  go_ret
  exact ⟨rfl, rfl⟩
theorem isPlace_any (n : Int) (w : World) : Calls Try.prog 55 #[iv n] w fun e w' => e = .returned (.bool (placeB n)) ∧ w = w' := by
  go_enter Try.func55, Try.ntmps55
  go_wp2_with (go_at_call 56; refine (in_any _ _ _ _).mono ?_; rintro e w' ⟨rfl, rfl⟩)
  go_ret
  exact ⟨rfl, rfl⟩
theorem l3Reg_any (n : Int) (w : World) : Calls Try.prog 51 #[iv n] w fun e w' => e = .returned (.bool (regB n)) ∧ w = w' := by
  go_enter Try.func51, Try.ntmps51
  go_wp2
  all_goals go_ret
  all_goals (refine ⟨?_, rfl⟩; unfold regB inB; simp_all; try omega)
theorem insOk_no {op a b c : Int} (h : ¬ (1 ≤ op ∧ op ≤ 8)) : insOk ⟨op, a, b, c⟩ = false := by
  unfold insOk; simp only
  rw [if_neg (by omega), if_neg (by omega), if_neg (by omega), if_neg (by omega), if_neg (by omega), if_neg (by omega)]
theorem wordB_eq (n : Int) : inB n (-1000000) 1000000 = wordB n := rfl
theorem placeB_eq (n : Int) : inB n 0 40 = placeB n := rfl
set_option maxRecDepth 100000 in
set_option maxHeartbeats 1000000 in
theorem implInsOk_1 (a b c : Int) (w : World) : Calls Try.prog 30 #[.agg #[iv 1, iv a, iv b, iv c]] w fun e w' => e = .returned (.bool (insOk ⟨1, a, b, c⟩)) ∧ Below w.heap.size w w' := by
  have hI : insOk ⟨1, a, b, c⟩ = (regB a && wordB b && zB c) := rfl
  have HI := Lib.hid hI; clear hI
  go_enter Try.func30, Try.ntmps30
  go_wp2_with (first | (go_at_call 53; refine (isReg_any _ _).mono ?_; rintro e w' ⟨rfl, rfl⟩) | (go_at_call 54; refine (isWord_any _ _).mono ?_; rintro e w' ⟨rfl, rfl⟩) | (go_at_call 55; refine (isPlace_any _ _).mono ?_; rintro e w' ⟨rfl, rfl⟩) | (go_at_call 56; refine (in_any _ _ _ _).mono ?_; rintro e w' ⟨rfl, rfl⟩))
  all_goals go_ret
  all_goals (refine ⟨ret_bool ?_, (Below.refl _ _).alloc (Nat.le_refl _) _⟩; first | exact HI.out.symm | (rw [HI.out]; simp_all; done) | (rw [HI.out]; simp_all [zB]; done) | (rw [HI.out]; simp_all [zB]; intros; omega))
set_option maxRecDepth 100000 in
set_option maxHeartbeats 1000000 in
theorem implInsOk_2 (a b c : Int) (w : World) : Calls Try.prog 30 #[.agg #[iv 2, iv a, iv b, iv c]] w fun e w' => e = .returned (.bool (insOk ⟨2, a, b, c⟩)) ∧ Below w.heap.size w w' := by
  have hI : insOk ⟨2, a, b, c⟩ = (regB a && regB b && regB c) := rfl
  have HI := Lib.hid hI; clear hI
  go_enter Try.func30, Try.ntmps30
  go_wp2_with (first | (go_at_call 53; refine (isReg_any _ _).mono ?_; rintro e w' ⟨rfl, rfl⟩) | (go_at_call 54; refine (isWord_any _ _).mono ?_; rintro e w' ⟨rfl, rfl⟩) | (go_at_call 55; refine (isPlace_any _ _).mono ?_; rintro e w' ⟨rfl, rfl⟩) | (go_at_call 56; refine (in_any _ _ _ _).mono ?_; rintro e w' ⟨rfl, rfl⟩))
  all_goals go_ret
  all_goals (refine ⟨ret_bool ?_, (Below.refl _ _).alloc (Nat.le_refl _) _⟩; first | exact HI.out.symm | (rw [HI.out]; simp_all; done) | (rw [HI.out]; simp_all [zB]; done) | (rw [HI.out]; simp_all [zB]; intros; omega))
set_option maxRecDepth 100000 in
set_option maxHeartbeats 1000000 in
theorem implInsOk_3 (a b c : Int) (w : World) : Calls Try.prog 30 #[.agg #[iv 3, iv a, iv b, iv c]] w fun e w' => e = .returned (.bool (insOk ⟨3, a, b, c⟩)) ∧ Below w.heap.size w w' := by
  have hI : insOk ⟨3, a, b, c⟩ = (regB a && regB b && regB c) := rfl
  have HI := Lib.hid hI; clear hI
  go_enter Try.func30, Try.ntmps30
  go_wp2_with (first | (go_at_call 53; refine (isReg_any _ _).mono ?_; rintro e w' ⟨rfl, rfl⟩) | (go_at_call 54; refine (isWord_any _ _).mono ?_; rintro e w' ⟨rfl, rfl⟩) | (go_at_call 55; refine (isPlace_any _ _).mono ?_; rintro e w' ⟨rfl, rfl⟩) | (go_at_call 56; refine (in_any _ _ _ _).mono ?_; rintro e w' ⟨rfl, rfl⟩))
  all_goals go_ret
  all_goals (refine ⟨ret_bool ?_, (Below.refl _ _).alloc (Nat.le_refl _) _⟩; first | exact HI.out.symm | (rw [HI.out]; simp_all; done) | (rw [HI.out]; simp_all [zB]; done) | (rw [HI.out]; simp_all [zB]; intros; omega))
set_option maxRecDepth 100000 in
set_option maxHeartbeats 1000000 in
theorem implInsOk_4 (a b c : Int) (w : World) : Calls Try.prog 30 #[.agg #[iv 4, iv a, iv b, iv c]] w fun e w' => e = .returned (.bool (insOk ⟨4, a, b, c⟩)) ∧ Below w.heap.size w w' := by
  have hI : insOk ⟨4, a, b, c⟩ = (regB a && regB b && zB c) := rfl
  have HI := Lib.hid hI; clear hI
  go_enter Try.func30, Try.ntmps30
  go_wp2_with (first | (go_at_call 53; refine (isReg_any _ _).mono ?_; rintro e w' ⟨rfl, rfl⟩) | (go_at_call 54; refine (isWord_any _ _).mono ?_; rintro e w' ⟨rfl, rfl⟩) | (go_at_call 55; refine (isPlace_any _ _).mono ?_; rintro e w' ⟨rfl, rfl⟩) | (go_at_call 56; refine (in_any _ _ _ _).mono ?_; rintro e w' ⟨rfl, rfl⟩))
  all_goals go_ret
  all_goals (refine ⟨ret_bool ?_, (Below.refl _ _).alloc (Nat.le_refl _) _⟩; first | exact HI.out.symm | (rw [HI.out]; simp_all; done) | (rw [HI.out]; simp_all [zB]; done) | (rw [HI.out]; simp_all [zB]; intros; omega))
set_option maxRecDepth 100000 in
set_option maxHeartbeats 1000000 in
theorem implInsOk_5 (a b c : Int) (w : World) : Calls Try.prog 30 #[.agg #[iv 5, iv a, iv b, iv c]] w fun e w' => e = .returned (.bool (insOk ⟨5, a, b, c⟩)) ∧ Below w.heap.size w w' := by
  have hI : insOk ⟨5, a, b, c⟩ = (regB a && regB b && zB c) := rfl
  have HI := Lib.hid hI; clear hI
  go_enter Try.func30, Try.ntmps30
  go_wp2_with (first | (go_at_call 53; refine (isReg_any _ _).mono ?_; rintro e w' ⟨rfl, rfl⟩) | (go_at_call 54; refine (isWord_any _ _).mono ?_; rintro e w' ⟨rfl, rfl⟩) | (go_at_call 55; refine (isPlace_any _ _).mono ?_; rintro e w' ⟨rfl, rfl⟩) | (go_at_call 56; refine (in_any _ _ _ _).mono ?_; rintro e w' ⟨rfl, rfl⟩))
  all_goals go_ret
  all_goals (refine ⟨ret_bool ?_, (Below.refl _ _).alloc (Nat.le_refl _) _⟩; first | exact HI.out.symm | (rw [HI.out]; simp_all; done) | (rw [HI.out]; simp_all [zB]; done) | (rw [HI.out]; simp_all [zB]; intros; omega))
set_option maxRecDepth 100000 in
set_option maxHeartbeats 1000000 in
theorem implInsOk_6 (a b c : Int) (w : World) : Calls Try.prog 30 #[.agg #[iv 6, iv a, iv b, iv c]] w fun e w' => e = .returned (.bool (insOk ⟨6, a, b, c⟩)) ∧ Below w.heap.size w w' := by
  have hI : insOk ⟨6, a, b, c⟩ = (placeB a && zB b && zB c) := rfl
  have HI := Lib.hid hI; clear hI
  go_enter Try.func30, Try.ntmps30
  go_wp2_with (first | (go_at_call 53; refine (isReg_any _ _).mono ?_; rintro e w' ⟨rfl, rfl⟩) | (go_at_call 54; refine (isWord_any _ _).mono ?_; rintro e w' ⟨rfl, rfl⟩) | (go_at_call 55; refine (isPlace_any _ _).mono ?_; rintro e w' ⟨rfl, rfl⟩) | (go_at_call 56; refine (in_any _ _ _ _).mono ?_; rintro e w' ⟨rfl, rfl⟩))
  all_goals go_ret
  all_goals (refine ⟨ret_bool ?_, (Below.refl _ _).alloc (Nat.le_refl _) _⟩; first | exact HI.out.symm | (rw [HI.out]; simp_all; done) | (rw [HI.out]; simp_all [zB]; done) | (rw [HI.out]; simp_all [zB]; intros; omega))
set_option maxRecDepth 100000 in
set_option maxHeartbeats 1000000 in
theorem implInsOk_7 (a b c : Int) (w : World) : Calls Try.prog 30 #[.agg #[iv 7, iv a, iv b, iv c]] w fun e w' => e = .returned (.bool (insOk ⟨7, a, b, c⟩)) ∧ Below w.heap.size w w' := by
  have hI : insOk ⟨7, a, b, c⟩ = (regB a && placeB b && zB c) := rfl
  have HI := Lib.hid hI; clear hI
  go_enter Try.func30, Try.ntmps30
  go_wp2_with (first | (go_at_call 53; refine (isReg_any _ _).mono ?_; rintro e w' ⟨rfl, rfl⟩) | (go_at_call 54; refine (isWord_any _ _).mono ?_; rintro e w' ⟨rfl, rfl⟩) | (go_at_call 55; refine (isPlace_any _ _).mono ?_; rintro e w' ⟨rfl, rfl⟩) | (go_at_call 56; refine (in_any _ _ _ _).mono ?_; rintro e w' ⟨rfl, rfl⟩))
  all_goals go_ret
  all_goals (refine ⟨ret_bool ?_, (Below.refl _ _).alloc (Nat.le_refl _) _⟩; first | exact HI.out.symm | (rw [HI.out]; simp_all; done) | (rw [HI.out]; simp_all [zB]; done) | (rw [HI.out]; simp_all [zB]; intros; omega))
set_option maxRecDepth 100000 in
set_option maxHeartbeats 1000000 in
theorem implInsOk_8 (a b c : Int) (w : World) : Calls Try.prog 30 #[.agg #[iv 8, iv a, iv b, iv c]] w fun e w' => e = .returned (.bool (insOk ⟨8, a, b, c⟩)) ∧ Below w.heap.size w w' := by
  have hI : insOk ⟨8, a, b, c⟩ = (inB a 1 20 && zB b && zB c) := rfl
  have HI := Lib.hid hI; clear hI
  go_enter Try.func30, Try.ntmps30
  go_wp2_with (first | (go_at_call 53; refine (isReg_any _ _).mono ?_; rintro e w' ⟨rfl, rfl⟩) | (go_at_call 54; refine (isWord_any _ _).mono ?_; rintro e w' ⟨rfl, rfl⟩) | (go_at_call 55; refine (isPlace_any _ _).mono ?_; rintro e w' ⟨rfl, rfl⟩) | (go_at_call 56; refine (in_any _ _ _ _).mono ?_; rintro e w' ⟨rfl, rfl⟩))
  all_goals go_ret
  all_goals (refine ⟨ret_bool ?_, (Below.refl _ _).alloc (Nat.le_refl _) _⟩; first | exact HI.out.symm | (rw [HI.out]; simp_all; done) | (rw [HI.out]; simp_all [zB]; done) | (rw [HI.out]; simp_all [zB]; intros; omega))
set_option maxRecDepth 100000 in
set_option maxHeartbeats 1000000 in
theorem implInsOk_o (op a b c : Int) (h : ¬ (1 ≤ op ∧ op ≤ 8)) (w : World) : Calls Try.prog 30 #[.agg #[iv op, iv a, iv b, iv c]] w fun e w' => e = .returned (.bool (insOk ⟨op, a, b, c⟩)) ∧ Below w.heap.size w w' := by
  have HI := Lib.hid (insOk_no (a := a) (b := b) (c := c) h)
  go_enter Try.func30, Try.ntmps30
  go_wp2_with (first | (go_at_call 53; refine (isReg_any _ _).mono ?_; rintro e w' ⟨rfl, rfl⟩) | (go_at_call 54; refine (isWord_any _ _).mono ?_; rintro e w' ⟨rfl, rfl⟩) | (go_at_call 55; refine (isPlace_any _ _).mono ?_; rintro e w' ⟨rfl, rfl⟩) | (go_at_call 56; refine (in_any _ _ _ _).mono ?_; rintro e w' ⟨rfl, rfl⟩))
  all_goals go_ret
  all_goals (refine ⟨ret_bool ?_, (Below.refl _ _).alloc (Nat.le_refl _) _⟩; first | exact HI.out.symm | (rw [HI.out]; simp_all; done) | (rw [HI.out]; simp_all [zB]; done) | (rw [HI.out]; simp_all [zB]; intros; omega))
theorem implInsOk_any (i : Ins) (w : World) : Calls Try.prog 30 #[.agg i.enc.toArray] w fun e w' => e = .returned (.bool (insOk i)) ∧ Below w.heap.size w w' := by
  obtain ⟨op, a, b, c⟩ := i
  show Calls Try.prog 30 #[.agg #[iv op, iv a, iv b, iv c]] w _
  by_cases h : 1 ≤ op ∧ op ≤ 8
  · obtain rfl | rfl | rfl | rfl | rfl | rfl | rfl | rfl : op = 1 ∨ op = 2 ∨ op = 3 ∨ op = 4 ∨ op = 5 ∨ op = 6 ∨ op = 7 ∨ op = 8 := by omega
    · exact implInsOk_1 a b c w
    · exact implInsOk_2 a b c w
    · exact implInsOk_3 a b c w
    · exact implInsOk_4 a b c w
    · exact implInsOk_5 a b c w
    · exact implInsOk_6 a b c w
    · exact implInsOk_7 a b c w
    · exact implInsOk_8 a b c w
  · exact implInsOk_o op a b c h w
set_option maxRecDepth 100000 in
set_option maxHeartbeats 1000000 in
theorem specInsOk_1 (a b c : Int) (w : World) : Calls Try.prog 28 #[.agg #[iv 1, iv a, iv b, iv c]] w fun e w' => e = .returned (.bool (insOk ⟨1, a, b, c⟩)) ∧ Below w.heap.size w w' := by
  have hI : insOk ⟨1, a, b, c⟩ = (regB a && wordB b && zB c) := rfl
  have HI := Lib.hid hI; clear hI
  have hw := wordB_eq b
  have hp := placeB_eq a
  have hp2 := placeB_eq b
  go_enter Try.func28, Try.ntmps28
  go_wp2_with (first | (go_at_call 51; refine (l3Reg_any _ _).mono ?_; rintro e w' ⟨rfl, rfl⟩) | (go_at_call 52; refine (l1In_any _ _ _ _).mono ?_; rintro e w' ⟨rfl, rfl⟩))
  all_goals go_ret
  all_goals (refine ⟨ret_bool ?_, by repeat (first | exact Below.refl _ _ | refine Below.alloc ?_ (by simp <;> omega) _ | refine Below.setCell ?_ (by simp <;> omega) _)⟩; first | exact HI.out.symm | (rw [HI.out]; simp_all; done) | (rw [HI.out]; simp_all [zB]; done) | (rw [HI.out]; simp_all [zB]; intros; omega))
set_option maxRecDepth 100000 in
set_option maxHeartbeats 1000000 in
theorem specInsOk_2 (a b c : Int) (w : World) : Calls Try.prog 28 #[.agg #[iv 2, iv a, iv b, iv c]] w fun e w' => e = .returned (.bool (insOk ⟨2, a, b, c⟩)) ∧ Below w.heap.size w w' := by
  have hI : insOk ⟨2, a, b, c⟩ = (regB a && regB b && regB c) := rfl
  have HI := Lib.hid hI; clear hI
  have hw := wordB_eq b
  have hp := placeB_eq a
  have hp2 := placeB_eq b
  go_enter Try.func28, Try.ntmps28
  go_wp2_with (first | (go_at_call 51; refine (l3Reg_any _ _).mono ?_; rintro e w' ⟨rfl, rfl⟩) | (go_at_call 52; refine (l1In_any _ _ _ _).mono ?_; rintro e w' ⟨rfl, rfl⟩))
  all_goals go_ret
  all_goals (refine ⟨ret_bool ?_, by repeat (first | exact Below.refl _ _ | refine Below.alloc ?_ (by simp <;> omega) _ | refine Below.setCell ?_ (by simp <;> omega) _)⟩; first | exact HI.out.symm | (rw [HI.out]; simp_all; done) | (rw [HI.out]; simp_all [zB]; done) | (rw [HI.out]; simp_all [zB]; intros; omega))
set_option maxRecDepth 100000 in
set_option maxHeartbeats 1000000 in
theorem specInsOk_3 (a b c : Int) (w : World) : Calls Try.prog 28 #[.agg #[iv 3, iv a, iv b, iv c]] w fun e w' => e = .returned (.bool (insOk ⟨3, a, b, c⟩)) ∧ Below w.heap.size w w' := by
  have hI : insOk ⟨3, a, b, c⟩ = (regB a && regB b && regB c) := rfl
  have HI := Lib.hid hI; clear hI
  have hw := wordB_eq b
  have hp := placeB_eq a
  have hp2 := placeB_eq b
  go_enter Try.func28, Try.ntmps28
  go_wp2_with (first | (go_at_call 51; refine (l3Reg_any _ _).mono ?_; rintro e w' ⟨rfl, rfl⟩) | (go_at_call 52; refine (l1In_any _ _ _ _).mono ?_; rintro e w' ⟨rfl, rfl⟩))
  all_goals go_ret
  all_goals (refine ⟨ret_bool ?_, by repeat (first | exact Below.refl _ _ | refine Below.alloc ?_ (by simp <;> omega) _ | refine Below.setCell ?_ (by simp <;> omega) _)⟩; first | exact HI.out.symm | (rw [HI.out]; simp_all; done) | (rw [HI.out]; simp_all [zB]; done) | (rw [HI.out]; simp_all [zB]; intros; omega))
set_option maxRecDepth 100000 in
set_option maxHeartbeats 1000000 in
theorem specInsOk_4 (a b c : Int) (w : World) : Calls Try.prog 28 #[.agg #[iv 4, iv a, iv b, iv c]] w fun e w' => e = .returned (.bool (insOk ⟨4, a, b, c⟩)) ∧ Below w.heap.size w w' := by
  have hI : insOk ⟨4, a, b, c⟩ = (regB a && regB b && zB c) := rfl
  have HI := Lib.hid hI; clear hI
  have hw := wordB_eq b
  have hp := placeB_eq a
  have hp2 := placeB_eq b
  go_enter Try.func28, Try.ntmps28
  go_wp2_with (first | (go_at_call 51; refine (l3Reg_any _ _).mono ?_; rintro e w' ⟨rfl, rfl⟩) | (go_at_call 52; refine (l1In_any _ _ _ _).mono ?_; rintro e w' ⟨rfl, rfl⟩))
  all_goals go_ret
  all_goals (refine ⟨ret_bool ?_, by repeat (first | exact Below.refl _ _ | refine Below.alloc ?_ (by simp <;> omega) _ | refine Below.setCell ?_ (by simp <;> omega) _)⟩; first | exact HI.out.symm | (rw [HI.out]; simp_all; done) | (rw [HI.out]; simp_all [zB]; done) | (rw [HI.out]; simp_all [zB]; intros; omega))
set_option maxRecDepth 100000 in
set_option maxHeartbeats 1000000 in
theorem specInsOk_5 (a b c : Int) (w : World) : Calls Try.prog 28 #[.agg #[iv 5, iv a, iv b, iv c]] w fun e w' => e = .returned (.bool (insOk ⟨5, a, b, c⟩)) ∧ Below w.heap.size w w' := by
  have hI : insOk ⟨5, a, b, c⟩ = (regB a && regB b && zB c) := rfl
  have HI := Lib.hid hI; clear hI
  have hw := wordB_eq b
  have hp := placeB_eq a
  have hp2 := placeB_eq b
  go_enter Try.func28, Try.ntmps28
  go_wp2_with (first | (go_at_call 51; refine (l3Reg_any _ _).mono ?_; rintro e w' ⟨rfl, rfl⟩) | (go_at_call 52; refine (l1In_any _ _ _ _).mono ?_; rintro e w' ⟨rfl, rfl⟩))
  all_goals go_ret
  all_goals (refine ⟨ret_bool ?_, by repeat (first | exact Below.refl _ _ | refine Below.alloc ?_ (by simp <;> omega) _ | refine Below.setCell ?_ (by simp <;> omega) _)⟩; first | exact HI.out.symm | (rw [HI.out]; simp_all; done) | (rw [HI.out]; simp_all [zB]; done) | (rw [HI.out]; simp_all [zB]; intros; omega))
set_option maxRecDepth 100000 in
set_option maxHeartbeats 1000000 in
theorem specInsOk_6 (a b c : Int) (w : World) : Calls Try.prog 28 #[.agg #[iv 6, iv a, iv b, iv c]] w fun e w' => e = .returned (.bool (insOk ⟨6, a, b, c⟩)) ∧ Below w.heap.size w w' := by
  have hI : insOk ⟨6, a, b, c⟩ = (placeB a && zB b && zB c) := rfl
  have HI := Lib.hid hI; clear hI
  have hw := wordB_eq b
  have hp := placeB_eq a
  have hp2 := placeB_eq b
  go_enter Try.func28, Try.ntmps28
  go_wp2_with (first | (go_at_call 51; refine (l3Reg_any _ _).mono ?_; rintro e w' ⟨rfl, rfl⟩) | (go_at_call 52; refine (l1In_any _ _ _ _).mono ?_; rintro e w' ⟨rfl, rfl⟩))
  all_goals go_ret
  all_goals (refine ⟨ret_bool ?_, by repeat (first | exact Below.refl _ _ | refine Below.alloc ?_ (by simp <;> omega) _ | refine Below.setCell ?_ (by simp <;> omega) _)⟩; first | exact HI.out.symm | (rw [HI.out]; simp_all; done) | (rw [HI.out]; simp_all [zB]; done) | (rw [HI.out]; simp_all [zB]; intros; omega))
set_option maxRecDepth 100000 in
set_option maxHeartbeats 1000000 in
theorem specInsOk_7 (a b c : Int) (w : World) : Calls Try.prog 28 #[.agg #[iv 7, iv a, iv b, iv c]] w fun e w' => e = .returned (.bool (insOk ⟨7, a, b, c⟩)) ∧ Below w.heap.size w w' := by
  have hI : insOk ⟨7, a, b, c⟩ = (regB a && placeB b && zB c) := rfl
  have HI := Lib.hid hI; clear hI
  have hw := wordB_eq b
  have hp := placeB_eq a
  have hp2 := placeB_eq b
  go_enter Try.func28, Try.ntmps28
  go_wp2_with (first | (go_at_call 51; refine (l3Reg_any _ _).mono ?_; rintro e w' ⟨rfl, rfl⟩) | (go_at_call 52; refine (l1In_any _ _ _ _).mono ?_; rintro e w' ⟨rfl, rfl⟩))
  all_goals go_ret
  all_goals (refine ⟨ret_bool ?_, by repeat (first | exact Below.refl _ _ | refine Below.alloc ?_ (by simp <;> omega) _ | refine Below.setCell ?_ (by simp <;> omega) _)⟩; first | exact HI.out.symm | (rw [HI.out]; simp_all; done) | (rw [HI.out]; simp_all [zB]; done) | (rw [HI.out]; simp_all [zB]; intros; omega))
set_option maxRecDepth 100000 in
set_option maxHeartbeats 1000000 in
theorem specInsOk_8 (a b c : Int) (w : World) : Calls Try.prog 28 #[.agg #[iv 8, iv a, iv b, iv c]] w fun e w' => e = .returned (.bool (insOk ⟨8, a, b, c⟩)) ∧ Below w.heap.size w w' := by
  have hI : insOk ⟨8, a, b, c⟩ = (inB a 1 20 && zB b && zB c) := rfl
  have HI := Lib.hid hI; clear hI
  have hw := wordB_eq b
  have hp := placeB_eq a
  have hp2 := placeB_eq b
  go_enter Try.func28, Try.ntmps28
  go_wp2_with (first | (go_at_call 51; refine (l3Reg_any _ _).mono ?_; rintro e w' ⟨rfl, rfl⟩) | (go_at_call 52; refine (l1In_any _ _ _ _).mono ?_; rintro e w' ⟨rfl, rfl⟩))
  all_goals go_ret
  all_goals (refine ⟨ret_bool ?_, by repeat (first | exact Below.refl _ _ | refine Below.alloc ?_ (by simp <;> omega) _ | refine Below.setCell ?_ (by simp <;> omega) _)⟩; first | exact HI.out.symm | (rw [HI.out]; simp_all; done) | (rw [HI.out]; simp_all [zB]; done) | (rw [HI.out]; simp_all [zB]; intros; omega))
set_option maxRecDepth 100000 in
set_option maxHeartbeats 1000000 in
theorem specInsOk_o (op a b c : Int) (h : ¬ (1 ≤ op ∧ op ≤ 8)) (w : World) : Calls Try.prog 28 #[.agg #[iv op, iv a, iv b, iv c]] w fun e w' => e = .returned (.bool (insOk ⟨op, a, b, c⟩)) ∧ Below w.heap.size w w' := by
  have HI := Lib.hid (insOk_no (a := a) (b := b) (c := c) h)
  have hw := wordB_eq b
  have hp := placeB_eq a
  have hp2 := placeB_eq b
  go_enter Try.func28, Try.ntmps28
  go_wp2_with (first | (go_at_call 51; refine (l3Reg_any _ _).mono ?_; rintro e w' ⟨rfl, rfl⟩) | (go_at_call 52; refine (l1In_any _ _ _ _).mono ?_; rintro e w' ⟨rfl, rfl⟩))
  all_goals go_ret
  all_goals (refine ⟨ret_bool ?_, by repeat (first | exact Below.refl _ _ | refine Below.alloc ?_ (by simp <;> omega) _ | refine Below.setCell ?_ (by simp <;> omega) _)⟩; first | exact HI.out.symm | (rw [HI.out]; simp_all; done) | (rw [HI.out]; simp_all [zB]; done) | (rw [HI.out]; simp_all [zB]; intros; omega))
theorem specInsOk_any (i : Ins) (w : World) : Calls Try.prog 28 #[.agg i.enc.toArray] w fun e w' => e = .returned (.bool (insOk i)) ∧ Below w.heap.size w w' := by
  obtain ⟨op, a, b, c⟩ := i
  show Calls Try.prog 28 #[.agg #[iv op, iv a, iv b, iv c]] w _
  by_cases h : 1 ≤ op ∧ op ≤ 8
  · obtain rfl | rfl | rfl | rfl | rfl | rfl | rfl | rfl : op = 1 ∨ op = 2 ∨ op = 3 ∨ op = 4 ∨ op = 5 ∨ op = 6 ∨ op = 7 ∨ op = 8 := by omega
    · exact specInsOk_1 a b c w
    · exact specInsOk_2 a b c w
    · exact specInsOk_3 a b c w
    · exact specInsOk_4 a b c w
    · exact specInsOk_5 a b c w
    · exact specInsOk_6 a b c w
    · exact specInsOk_7 a b c w
    · exact specInsOk_8 a b c w
  · exact specInsOk_o op a b c h w
theorem toIns_any (i : Ins) (w : World) : Calls Try.prog 29 #[.agg i.enc.toArray] w fun e w' => e = .returned (.agg i.enc.toArray) ∧ Below w.heap.size w w' := by
  obtain ⟨op, a, b, c⟩ := i
  show Calls Try.prog 29 #[.agg #[iv op, iv a, iv b, iv c]] w fun e w' => e = .returned (.agg #[iv op, iv a, iv b, iv c]) ∧ Below w.heap.size w w'
  go_enter Try.func29, Try.ntmps29
  go_wp2
  exact bodyPost_ret (v := .agg #[iv op, iv a, iv b, iv c]) (by simp [results, Try.results29, go_sem]) rfl ⟨rfl, by repeat (first | exact Below.refl _ _ | refine Below.alloc ?_ (by simp <;> omega) _ | refine Below.setCell ?_ (by simp <;> omega) _)⟩
end Go.Proofs.Ytfplmlcokgbbmab
