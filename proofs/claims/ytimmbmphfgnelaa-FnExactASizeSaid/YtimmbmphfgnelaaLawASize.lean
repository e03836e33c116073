/- The statement FnExactASizeSaid: for every input the law returns true, and each argument reads behind the call as it read before. No conditions. -/
import Derived.Test.YtimmbmphfgnelaaASw
import Derived.Test.YtimmbmphfgnelaaRows
import Derived.ProofKit
import Derived.OpenShut
import Derived.ShutString
import Derived.Deep.Slices
set_option linter.all false
namespace Go.Proofs.Ytimmbmphfgnelaa.fnExactASize
open Go.ChangeShapes Go.WideShapes Go.ChangeAt Go.RowKit
open Go.ChangeMaps (open_string shut_string)
open Go.Proofs.Ytimmbmphfgnelaa.VM
theorem ownKnob0 : ownKnob Try.prog.godebug = none := by kernel_rfl
theorem laidOut0 : laidOutB Try.prog = true := by kernel_rfl
theorem rds_Ins220 : Rds Try.prog 220 DIns := fun {H enc w base spare held fuel cs x} h => by
  obtain ⟨hl, n, hf⟩ := rds_parts Try.underlying220 h
  obtain ⟨a0, r0, f0⟩ := rds_part (o := 0) (k := 1) (rds_int Try.underlying3) (hf 0 _ rfl) (by kernel_rfl)
  obtain ⟨a1, r1, f1⟩ := rds_part (o := 1) (k := 1) (rds_int Try.underlying3) (hf 1 _ rfl) (by kernel_rfl)
  obtain ⟨a2, r2, f2⟩ := rds_part (o := 2) (k := 1) (rds_int Try.underlying3) (hf 2 _ rfl) (by kernel_rfl)
  obtain ⟨a3, r3, f3⟩ := rds_part (o := 3) (k := 1) (rds_int Try.underlying3) (hf 3 _ rfl) (by kernel_rfl)
  exact ⟨⟨a0, a1, a2, a3⟩, (RdC.cons_part 0 1 r0 (RdC.cons_part 1 1 r1 (RdC.cons_part 2 1 r2 (RdC.cons_part 3 1 r3 (RdC.end_part (n := 4) (hl.trans (by kernel_rfl))))))), f0, f1, f2, f3⟩
theorem rds_ASlot193 : Rds Try.prog 193 DASlot := fun {H enc w base spare held fuel cs x} h => by
  obtain ⟨hl, n, hf⟩ := rds_parts Try.underlying193 h
  obtain ⟨a0, r0, f0⟩ := rds_part (o := 0) (k := 1) (rds_bool Try.underlying4) (hf 0 _ rfl) (by kernel_rfl)
  obtain ⟨a1, r1, f1⟩ := rds_part (o := 1) (k := 1) (rds_int Try.underlying3) (hf 1 _ rfl) (by kernel_rfl)
  obtain ⟨a2, r2, f2⟩ := rds_part (o := 2) (k := 1) (rds_int Try.underlying3) (hf 2 _ rfl) (by kernel_rfl)
  obtain ⟨a3, r3, f3⟩ := rds_part (o := 3) (k := 1) (rds_int Try.underlying3) (hf 3 _ rfl) (by kernel_rfl)
  obtain ⟨a4, r4, f4⟩ := rds_part (o := 4) (k := 1) (rds_int Try.underlying3) (hf 4 _ rfl) (by kernel_rfl)
  obtain ⟨a5, r5, f5⟩ := rds_part (o := 5) (k := 1) (rds_int Try.underlying3) (hf 5 _ rfl) (by kernel_rfl)
  obtain ⟨a6, r6, f6⟩ := rds_part (o := 6) (k := 1) (rds_int Try.underlying3) (hf 6 _ rfl) (by kernel_rfl)
  obtain ⟨a7, r7, f7⟩ := rds_part (o := 7) (k := 1) (rds_int Try.underlying3) (hf 7 _ rfl) (by kernel_rfl)
  obtain ⟨a8, r8, f8⟩ := rds_part (o := 8) (k := 1) (rds_slice Try.underlying24 (by kernel_rfl) (rds_int Try.underlying3)) (hf 8 _ rfl) (by kernel_rfl)
  obtain ⟨a9, r9, f9⟩ := rds_part (o := 9) (k := 1) (rds_slice Try.underlying24 (by kernel_rfl) (rds_int Try.underlying3)) (hf 9 _ rfl) (by kernel_rfl)
  obtain ⟨a10, r10, f10⟩ := rds_part (o := 10) (k := 1) (rds_slice Try.underlying24 (by kernel_rfl) (rds_int Try.underlying3)) (hf 10 _ rfl) (by kernel_rfl)
  exact ⟨⟨a0, a1, a2, a3, a4, a5, a6, a7, a8, a9, a10⟩, (RdC.cons_part 0 1 r0 (RdC.cons_part 1 1 r1 (RdC.cons_part 2 1 r2 (RdC.cons_part 3 1 r3 (RdC.cons_part 4 1 r4 (RdC.cons_part 5 1 r5 (RdC.cons_part 6 1 r6 (RdC.cons_part 7 1 r7 (RdC.cons_part 8 1 r8 (RdC.cons_part 9 1 r9 (RdC.cons_part 10 1 r10 (RdC.end_part (n := 11) (hl.trans (by kernel_rfl)))))))))))))), f0, f1, f2, f3, f4, f5, f6, f7, f8, f9, f10⟩
theorem rds_AOpen205 : Rds Try.prog 205 DAOpen := fun {H enc w base spare held fuel cs x} h => by
  obtain ⟨hl, n, hf⟩ := rds_parts Try.underlying205 h
  obtain ⟨a0, r0, f0⟩ := rds_part (o := 0) (k := 1) (rds_bool Try.underlying4) (hf 0 _ rfl) (by kernel_rfl)
  obtain ⟨a1, r1, f1⟩ := rds_part (o := 1) (k := 1) (rds_int Try.underlying3) (hf 1 _ rfl) (by kernel_rfl)
  obtain ⟨a2, r2, f2⟩ := rds_part (o := 2) (k := 1) (rds_int Try.underlying3) (hf 2 _ rfl) (by kernel_rfl)
  obtain ⟨a3, r3, f3⟩ := rds_part (o := 3) (k := 1) (rds_int Try.underlying3) (hf 3 _ rfl) (by kernel_rfl)
  obtain ⟨a4, r4, f4⟩ := rds_part (o := 4) (k := 1) (rds_int Try.underlying3) (hf 4 _ rfl) (by kernel_rfl)
  exact ⟨⟨a0, a1, a2, a3, a4⟩, (RdC.cons_part 0 1 r0 (RdC.cons_part 1 1 r1 (RdC.cons_part 2 1 r2 (RdC.cons_part 3 1 r3 (RdC.cons_part 4 1 r4 (RdC.end_part (n := 5) (hl.trans (by kernel_rfl)))))))), f0, f1, f2, f3, f4⟩
theorem rds_ARing52 : Rds Try.prog 52 DARing := fun {H enc w base spare held fuel cs x} h => by
  obtain ⟨hl, n, hf⟩ := rds_parts Try.underlying52 h
  obtain ⟨a0, r0, f0⟩ := rds_part (o := 0) (k := 1) (rds_bool Try.underlying4) (hf 0 _ rfl) (by kernel_rfl)
  obtain ⟨a1, r1, f1⟩ := rds_part (o := 1) (k := 1) (rds_slice Try.underlying24 (by kernel_rfl) (rds_int Try.underlying3)) (hf 1 _ rfl) (by kernel_rfl)
  obtain ⟨a2, r2, f2⟩ := rds_part (o := 2) (k := 1) (rds_int Try.underlying3) (hf 2 _ rfl) (by kernel_rfl)
  obtain ⟨a3, r3, f3⟩ := rds_part (o := 3) (k := 1) (rds_int Try.underlying3) (hf 3 _ rfl) (by kernel_rfl)
  exact ⟨⟨a0, a1, a2, a3⟩, (RdC.cons_part 0 1 r0 (RdC.cons_part 1 1 r1 (RdC.cons_part 2 1 r2 (RdC.cons_part 3 1 r3 (RdC.end_part (n := 4) (hl.trans (by kernel_rfl))))))), f0, f1, f2, f3⟩
theorem rds_AFile196 : Rds Try.prog 196 DAFile := fun {H enc w base spare held fuel cs x} h => by
  obtain ⟨hl, n, hf⟩ := rds_parts Try.underlying196 h
  obtain ⟨a0, r0, f0⟩ := rds_part (o := 0) (k := 1) (rds_bool Try.underlying4) (hf 0 _ rfl) (by kernel_rfl)
  obtain ⟨a1, r1, f1⟩ := rds_part (o := 1) (k := 1) (rds_slice Try.underlying24 (by kernel_rfl) (rds_int Try.underlying3)) (hf 1 _ rfl) (by kernel_rfl)
  exact ⟨⟨a0, a1⟩, (RdC.cons_part 0 1 r0 (RdC.cons_part 1 1 r1 (RdC.end_part (n := 2) (hl.trans (by kernel_rfl))))), f0, f1⟩
theorem rds_Arrays54 : Rds Try.prog 54 DArrays := fun {H enc w base spare held fuel cs x} h => by
  obtain ⟨hl, n, hf⟩ := rds_parts Try.underlying54 h
  obtain ⟨a0, r0, f0⟩ := rds_part (o := 0) (k := 1) (rds_int Try.underlying3) (hf 0 _ rfl) (by kernel_rfl)
  obtain ⟨a1, r1, f1⟩ := rds_part (o := 1) (k := 1) (rds_int Try.underlying3) (hf 1 _ rfl) (by kernel_rfl)
  obtain ⟨a2, r2, f2⟩ := rds_part (o := 2) (k := 1) (rds_slice Try.underlying22 (by kernel_rfl) (rds_slice Try.underlying134 (by kernel_rfl) rds_Ins220)) (hf 2 _ rfl) (by kernel_rfl)
  obtain ⟨a3, r3, f3⟩ := rds_part (o := 3) (k := 1) (rds_slice Try.underlying46 (by kernel_rfl) rds_ASlot193) (hf 3 _ rfl) (by kernel_rfl)
  obtain ⟨a4, r4, f4⟩ := rds_part (o := 4) (k := 1) (rds_slice Try.underlying24 (by kernel_rfl) (rds_int Try.underlying3)) (hf 4 _ rfl) (by kernel_rfl)
  obtain ⟨a5, r5, f5⟩ := rds_part (o := 5) (k := 1) (rds_slice Try.underlying47 (by kernel_rfl) (rds_bool Try.underlying4)) (hf 5 _ rfl) (by kernel_rfl)
  obtain ⟨a6, r6, f6⟩ := rds_part (o := 6) (k := 1) (rds_slice Try.underlying48 (by kernel_rfl) rds_AOpen205) (hf 6 _ rfl) (by kernel_rfl)
  obtain ⟨a7, r7, f7⟩ := rds_part (o := 7) (k := 1) (rds_slice Try.underlying49 (by kernel_rfl) rds_ARing52) (hf 7 _ rfl) (by kernel_rfl)
  obtain ⟨a8, r8, f8⟩ := rds_part (o := 8) (k := 1) (rds_slice Try.underlying50 (by kernel_rfl) rds_AFile196) (hf 8 _ rfl) (by kernel_rfl)
  obtain ⟨a9, r9, f9⟩ := rds_part (o := 9) (k := 4) rds_ARing52 (hf 9 _ rfl) (by kernel_rfl)
  obtain ⟨a10, r10, f10⟩ := rds_part (o := 13) (k := 1) (rds_slice Try.underlying24 (by kernel_rfl) (rds_int Try.underlying3)) (hf 10 _ rfl) (by kernel_rfl)
  exact ⟨⟨a0, a1, a2, a3, a4, a5, a6, a7, a8, a9, a10⟩, (RdC.cons_part 0 1 r0 (RdC.cons_part 1 1 r1 (RdC.cons_part 2 1 r2 (RdC.cons_part 3 1 r3 (RdC.cons_part 4 1 r4 (RdC.cons_part 5 1 r5 (RdC.cons_part 6 1 r6 (RdC.cons_part 7 1 r7 (RdC.cons_part 8 1 r8 (RdC.cons_part 9 4 r9 (RdC.cons_part 13 1 r10 (RdC.end_part (n := 14) (hl.trans (by kernel_rfl)))))))))))))), f0, f1, f2, f3, f4, f5, f6, f7, f8, f9, f10⟩

set_option maxRecDepth 100000 in
theorem lifted (os : Os) (started : os.Started) (H : Type) (enc : TypeId × Value → H) :
    ReturnsInHanded {} Try.checked os 4 .any (Rows.fnExactASizeSpec.pre6 enc Try.prog Try.f4 Rows.fnExactASizeRow.domain false) (Rows.fnExactASizeSpec.post enc Try.prog Try.f4 false true false false) := by
  refine returnsInHanded_of_change (C := Try.checked) ownKnob0 started (by kernel_rfl) Try.func4
    (ChangeSpec.witness6 (enc := enc) (C := Try.checked) false ⟨#[], #[.agg #[.int .i64 0, .int .i64 0, .slice none 0 0, .slice none 0 0, .slice none 0 0, .slice none 0 0, .slice none 0 0, .slice none 0 0, .slice none 0 0, .bool false, .slice none 0 0, .int .i64 0, .int .i64 0, .slice none 0 0]], []⟩ 12 (by kernel_rfl) (by kernel_rfl) (by kernel_rfl) (by kernel_rfl)) ?_
  intro W base args ds gs before hval0 hW _ _
  have hval : ∀ (j : Nat) t v, Try.f4.params[j]? = some t → args[j]? = some v → Value.okWide Try.prog W .any base t v := hval0
  have hW' := hW
  obtain ⟨p, q, hA0, hV, _, _, _⟩ := hW'
  have hA : DataW.TrodAll enc Try.prog W 0 (fun _ => true) true Try.f4.params.toList args.toList ds p := hA0
  clear hA0 hval0
  rw [Try.params4] at hA hval
  obtain ⟨v0, d0, rfl, rfl, h0⟩ := trodAll_one hA
  obtain ⟨rfl, _⟩ := trodVars_none hV
  obtain ⟨cs0, rfl, _⟩ : ∃ cs, v0 = .agg cs ∧ cs.size = Try.prog.cellsOf 54 := by
    have h := hval 0 54 v0 rfl rfl
    unfold Value.okWide at h
    rw [Try.underlying54] at h
    obtain ⟨cs, h1, h2, _⟩ := h
    exact ⟨cs, h1, h2⟩
  obtain ⟨n0, hn0⟩ := h0
  obtain ⟨a0, r0', f0⟩ := rds_Arrays54 hn0
  exact law_fin laidOut0 (by kernel_rfl) rfl rfl Try.underlying4 hW rfl rfl rfl (law_of_con (bs := [(true, En.cs a0)]) (FnExactASize_con a0) rfl ⟨⟨cs0.toList, r0', by simp⟩, trivial⟩)

theorem proved : Rows.FnExactASizeSaid :=
  OpenClaim.holds_of_wide 4 Try.f4 rfl rfl rfl rfl rfl rfl rfl ⟨rfl, rfl, rfl, rfl, rfl⟩ rfl rfl rfl rfl rfl (by kernel_rfl) Try.func4 (by kernel_rfl)
    (of_decide_eq_true (by kernel_rfl)) (by unfold Func.isWrapper; rw [if_neg (of_decide_eq_false (by kernel_rfl))]; exact ⟨rfl, rfl⟩)
    (fun os started H enc _ => lifted os started H enc)
#print axioms proved
end Go.Proofs.Ytimmbmphfgnelaa.fnExactASize
