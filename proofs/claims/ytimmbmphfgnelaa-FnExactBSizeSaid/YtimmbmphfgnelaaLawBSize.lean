/- The statement FnExactBSizeSaid: for every input the law returns true, and each argument reads behind the call as it read before. No conditions. -/
import Derived.Test.YtimmbmphfgnelaaBSw
import Derived.Test.YtimmbmphfgnelaaRows
import Derived.ProofKit
import Derived.OpenShut
import Derived.ShutString
import Derived.Deep.Slices
set_option linter.all false
namespace Go.Proofs.Ytimmbmphfgnelaa.fnExactBSize
open Go.ChangeShapes Go.WideShapes Go.ChangeAt Go.RowKit
open Go.ChangeMaps (open_string shut_string)
open Go.Proofs.Ytimmbmphfgnelaa.VM
theorem ownKnob0 : ownKnob Try.prog.godebug = none := by kernel_rfl
theorem laidOut0 : laidOutB Try.prog = true := by kernel_rfl
theorem rds_Ins220 : Rds Try.prog 220 DIns := fun {H enc w base spare held fuel cs x} h => by
  obtain ⟨hl, n, hf⟩ := rds_parts Try.underlying220 h
  obtain ⟨a0, r0, f0⟩ := rds_part (o := 0) (k := 1) (rds_int Try.underlying3) (hf 0 _ rfl) (by kernel_rfl)
  obtain ⟨a1, r1, f1⟩ := rds_part (o := 1) (k := 1) (rds_int Try.underlying3) (hf 1 _ rfl) (by kernel_rfl)
  obtain ⟨a2, r2, f2⟩ := rds_part (o := 2) (k := 1) (rds_int Try.underlying3) (hf 2 _ rfl) (by kernel_rfl)
  obtain ⟨a3, r3, f3⟩ := rds_part (o := 3) (k := 1) (rds_int Try.underlying3) (hf 3 _ rfl) (by kernel_rfl)
  exact ⟨⟨a0, a1, a2, a3⟩, (RdC.cons_part 0 1 r0 (RdC.cons_part 1 1 r1 (RdC.cons_part 2 1 r2 (RdC.cons_part 3 1 r3 (RdC.end_part (n := 4) (hl.trans (by kernel_rfl))))))), f0, f1, f2, f3⟩
theorem rds_Cpu168 : Rds Try.prog 168 DCpu := fun {H enc w base spare held fuel cs x} h => by
  obtain ⟨hl, n, hf⟩ := rds_parts Try.underlying168 h
  obtain ⟨a0, r0, f0⟩ := rds_part (o := 0) (k := 1) (rds_int Try.underlying3) (hf 0 _ rfl) (by kernel_rfl)
  obtain ⟨a1, r1, f1⟩ := rds_part (o := 1) (k := 1) (rds_slice Try.underlying24 (by kernel_rfl) (rds_int Try.underlying3)) (hf 1 _ rfl) (by kernel_rfl)
  exact ⟨⟨a0, a1⟩, (RdC.cons_part 0 1 r0 (RdC.cons_part 1 1 r1 (RdC.end_part (n := 2) (hl.trans (by kernel_rfl))))), f0, f1⟩
theorem rds_BProc170 : Rds Try.prog 170 DBProc := fun {H enc w base spare held fuel cs x} h => by
  obtain ⟨hl, n, hf⟩ := rds_parts Try.underlying170 h
  obtain ⟨a0, r0, f0⟩ := rds_part (o := 0) (k := 1) (rds_int Try.underlying3) (hf 0 _ rfl) (by kernel_rfl)
  obtain ⟨a1, r1, f1⟩ := rds_part (o := 1) (k := 1) (rds_int Try.underlying3) (hf 1 _ rfl) (by kernel_rfl)
  obtain ⟨a2, r2, f2⟩ := rds_part (o := 2) (k := 1) (rds_int Try.underlying3) (hf 2 _ rfl) (by kernel_rfl)
  obtain ⟨a3, r3, f3⟩ := rds_part (o := 3) (k := 1) (rds_int Try.underlying3) (hf 3 _ rfl) (by kernel_rfl)
  obtain ⟨a4, r4, f4⟩ := rds_part (o := 4) (k := 2) rds_Cpu168 (hf 4 _ rfl) (by kernel_rfl)
  obtain ⟨a5, r5, f5⟩ := rds_part (o := 6) (k := 1) (rds_slice Try.underlying24 (by kernel_rfl) (rds_int Try.underlying3)) (hf 5 _ rfl) (by kernel_rfl)
  obtain ⟨a6, r6, f6⟩ := rds_part (o := 7) (k := 1) (rds_slice Try.underlying24 (by kernel_rfl) (rds_int Try.underlying3)) (hf 6 _ rfl) (by kernel_rfl)
  obtain ⟨a7, r7, f7⟩ := rds_part (o := 8) (k := 1) (rds_int Try.underlying3) (hf 7 _ rfl) (by kernel_rfl)
  obtain ⟨a8, r8, f8⟩ := rds_part (o := 9) (k := 1) (rds_int Try.underlying3) (hf 8 _ rfl) (by kernel_rfl)
  exact ⟨⟨a0, a1, a2, a3, a4, a5, a6, a7, a8⟩, (RdC.cons_part 0 1 r0 (RdC.cons_part 1 1 r1 (RdC.cons_part 2 1 r2 (RdC.cons_part 3 1 r3 (RdC.cons_part 4 2 r4 (RdC.cons_part 6 1 r5 (RdC.cons_part 7 1 r6 (RdC.cons_part 8 1 r7 (RdC.cons_part 9 1 r8 (RdC.end_part (n := 10) (hl.trans (by kernel_rfl)))))))))))), f0, f1, f2, f3, f4, f5, f6, f7, f8⟩
theorem rds_Buddy27 : Rds Try.prog 27 DBuddy := fun {H enc w base spare held fuel cs x} h => by
  obtain ⟨hl, n, hf⟩ := rds_parts Try.underlying27 h
  obtain ⟨a0, r0, f0⟩ := rds_part (o := 0) (k := 1) (rds_slice Try.underlying25 (by kernel_rfl) (rds_slice Try.underlying24 (by kernel_rfl) (rds_int Try.underlying3))) (hf 0 _ rfl) (by kernel_rfl)
  exact ⟨⟨a0⟩, (RdC.cons_part 0 1 r0 (RdC.end_part (n := 1) (hl.trans (by kernel_rfl)))), f0⟩
theorem rds_Open178 : Rds Try.prog 178 DOpen := fun {H enc w base spare held fuel cs x} h => by
  obtain ⟨hl, n, hf⟩ := rds_parts Try.underlying178 h
  obtain ⟨a0, r0, f0⟩ := rds_part (o := 0) (k := 1) (rds_int Try.underlying3) (hf 0 _ rfl) (by kernel_rfl)
  obtain ⟨a1, r1, f1⟩ := rds_part (o := 1) (k := 1) (rds_int Try.underlying3) (hf 1 _ rfl) (by kernel_rfl)
  obtain ⟨a2, r2, f2⟩ := rds_part (o := 2) (k := 1) (rds_int Try.underlying3) (hf 2 _ rfl) (by kernel_rfl)
  obtain ⟨a3, r3, f3⟩ := rds_part (o := 3) (k := 1) (rds_int Try.underlying3) (hf 3 _ rfl) (by kernel_rfl)
  obtain ⟨a4, r4, f4⟩ := rds_part (o := 4) (k := 1) (rds_int Try.underlying3) (hf 4 _ rfl) (by kernel_rfl)
  exact ⟨⟨a0, a1, a2, a3, a4⟩, (RdC.cons_part 0 1 r0 (RdC.cons_part 1 1 r1 (RdC.cons_part 2 1 r2 (RdC.cons_part 3 1 r3 (RdC.cons_part 4 1 r4 (RdC.end_part (n := 5) (hl.trans (by kernel_rfl)))))))), f0, f1, f2, f3, f4⟩
theorem rds_BPipe172 : Rds Try.prog 172 DBPipe := fun {H enc w base spare held fuel cs x} h => by
  obtain ⟨hl, n, hf⟩ := rds_parts Try.underlying172 h
  obtain ⟨a0, r0, f0⟩ := rds_part (o := 0) (k := 1) (rds_int Try.underlying3) (hf 0 _ rfl) (by kernel_rfl)
  obtain ⟨a1, r1, f1⟩ := rds_part (o := 1) (k := 1) (rds_slice Try.underlying25 (by kernel_rfl) (rds_slice Try.underlying24 (by kernel_rfl) (rds_int Try.underlying3))) (hf 1 _ rfl) (by kernel_rfl)
  exact ⟨⟨a0, a1⟩, (RdC.cons_part 0 1 r0 (RdC.cons_part 1 1 r1 (RdC.end_part (n := 2) (hl.trans (by kernel_rfl))))), f0, f1⟩
theorem rds_File175 : Rds Try.prog 175 DFile := fun {H enc w base spare held fuel cs x} h => by
  obtain ⟨hl, n, hf⟩ := rds_parts Try.underlying175 h
  obtain ⟨a0, r0, f0⟩ := rds_part (o := 0) (k := 1) (rds_int Try.underlying3) (hf 0 _ rfl) (by kernel_rfl)
  obtain ⟨a1, r1, f1⟩ := rds_part (o := 1) (k := 1) (rds_slice Try.underlying24 (by kernel_rfl) (rds_int Try.underlying3)) (hf 1 _ rfl) (by kernel_rfl)
  exact ⟨⟨a0, a1⟩, (RdC.cons_part 0 1 r0 (RdC.cons_part 1 1 r1 (RdC.end_part (n := 2) (hl.trans (by kernel_rfl))))), f0, f1⟩
theorem rds_Nodes32 : Rds Try.prog 32 DNodes := fun {H enc w base spare held fuel cs x} h => by
  obtain ⟨hl, n, hf⟩ := rds_parts Try.underlying32 h
  obtain ⟨a0, r0, f0⟩ := rds_part (o := 0) (k := 1) (rds_int Try.underlying3) (hf 0 _ rfl) (by kernel_rfl)
  obtain ⟨a1, r1, f1⟩ := rds_part (o := 1) (k := 1) (rds_int Try.underlying3) (hf 1 _ rfl) (by kernel_rfl)
  obtain ⟨a2, r2, f2⟩ := rds_part (o := 2) (k := 1) (rds_slice Try.underlying22 (by kernel_rfl) (rds_slice Try.underlying134 (by kernel_rfl) rds_Ins220)) (hf 2 _ rfl) (by kernel_rfl)
  obtain ⟨a3, r3, f3⟩ := rds_part (o := 3) (k := 1) (rds_slice Try.underlying23 (by kernel_rfl) rds_BProc170) (hf 3 _ rfl) (by kernel_rfl)
  obtain ⟨a4, r4, f4⟩ := rds_part (o := 4) (k := 1) (rds_slice Try.underlying24 (by kernel_rfl) (rds_int Try.underlying3)) (hf 4 _ rfl) (by kernel_rfl)
  obtain ⟨a5, r5, f5⟩ := rds_part (o := 5) (k := 1) rds_Buddy27 (hf 5 _ rfl) (by kernel_rfl)
  obtain ⟨a6, r6, f6⟩ := rds_part (o := 6) (k := 1) (rds_slice Try.underlying28 (by kernel_rfl) rds_Open178) (hf 6 _ rfl) (by kernel_rfl)
  obtain ⟨a7, r7, f7⟩ := rds_part (o := 7) (k := 1) (rds_slice Try.underlying29 (by kernel_rfl) rds_BPipe172) (hf 7 _ rfl) (by kernel_rfl)
  obtain ⟨a8, r8, f8⟩ := rds_part (o := 8) (k := 1) (rds_slice Try.underlying30 (by kernel_rfl) rds_File175) (hf 8 _ rfl) (by kernel_rfl)
  obtain ⟨a9, r9, f9⟩ := rds_part (o := 9) (k := 1) (rds_slice Try.underlying24 (by kernel_rfl) (rds_int Try.underlying3)) (hf 9 _ rfl) (by kernel_rfl)
  obtain ⟨a10, r10, f10⟩ := rds_part (o := 10) (k := 1) (rds_slice Try.underlying24 (by kernel_rfl) (rds_int Try.underlying3)) (hf 10 _ rfl) (by kernel_rfl)
  exact ⟨⟨a0, a1, a2, a3, a4, a5, a6, a7, a8, a9, a10⟩, (RdC.cons_part 0 1 r0 (RdC.cons_part 1 1 r1 (RdC.cons_part 2 1 r2 (RdC.cons_part 3 1 r3 (RdC.cons_part 4 1 r4 (RdC.cons_part 5 1 r5 (RdC.cons_part 6 1 r6 (RdC.cons_part 7 1 r7 (RdC.cons_part 8 1 r8 (RdC.cons_part 9 1 r9 (RdC.cons_part 10 1 r10 (RdC.end_part (n := 11) (hl.trans (by kernel_rfl)))))))))))))), f0, f1, f2, f3, f4, f5, f6, f7, f8, f9, f10⟩

set_option maxRecDepth 100000 in
theorem lifted (os : Os) (started : os.Started) (H : Type) (enc : TypeId × Value → H) :
    ReturnsInHanded {} Try.checked os 3 .any (Rows.fnExactBSizeSpec.pre6 enc Try.prog Try.f3 Rows.fnExactBSizeRow.domain false) (Rows.fnExactBSizeSpec.post enc Try.prog Try.f3 false true false false) := by
  refine returnsInHanded_of_change (C := Try.checked) ownKnob0 started (by kernel_rfl) Try.func3
    (ChangeSpec.witness6 (enc := enc) (C := Try.checked) false ⟨#[], #[.agg #[.int .i64 0, .int .i64 0, .slice none 0 0, .slice none 0 0, .slice none 0 0, .slice none 0 0, .slice none 0 0, .slice none 0 0, .slice none 0 0, .slice none 0 0, .slice none 0 0]], []⟩ 12 (by kernel_rfl) (by kernel_rfl) (by kernel_rfl) (by kernel_rfl)) ?_
  intro W base args ds gs before hval0 hW _ _
  have hval : ∀ (j : Nat) t v, Try.f3.params[j]? = some t → args[j]? = some v → Value.okWide Try.prog W .any base t v := hval0
  have hW' := hW
  obtain ⟨p, q, hA0, hV, _, _, _⟩ := hW'
  have hA : DataW.TrodAll enc Try.prog W 0 (fun _ => true) true Try.f3.params.toList args.toList ds p := hA0
  clear hA0 hval0
  rw [Try.params3] at hA hval
  obtain ⟨v0, d0, rfl, rfl, h0⟩ := trodAll_one hA
  obtain ⟨rfl, _⟩ := trodVars_none hV
  obtain ⟨cs0, rfl, _⟩ : ∃ cs, v0 = .agg cs ∧ cs.size = Try.prog.cellsOf 32 := by
    have h := hval 0 32 v0 rfl rfl
    unfold Value.okWide at h
    rw [Try.underlying32] at h
    obtain ⟨cs, h1, h2, _⟩ := h
    exact ⟨cs, h1, h2⟩
  obtain ⟨n0, hn0⟩ := h0
  obtain ⟨a0, r0', f0⟩ := rds_Nodes32 hn0
  exact law_fin laidOut0 (by kernel_rfl) rfl rfl Try.underlying4 hW rfl rfl rfl (law_of_con (bs := [(true, En.cs a0)]) (FnExactBSize_con a0) rfl ⟨⟨cs0.toList, r0', by simp⟩, trivial⟩)

theorem proved : Rows.FnExactBSizeSaid :=
  OpenClaim.holds_of_wide 3 Try.f3 rfl rfl rfl rfl rfl rfl rfl ⟨rfl, rfl, rfl, rfl, rfl⟩ rfl rfl rfl rfl rfl (by kernel_rfl) Try.func3 (by kernel_rfl)
    (of_decide_eq_true (by kernel_rfl)) (by unfold Func.isWrapper; rw [if_neg (of_decide_eq_false (by kernel_rfl))]; exact ⟨rfl, rfl⟩)
    (fun os started H enc _ => lifted os started H enc)
#print axioms proved
end Go.Proofs.Ytimmbmphfgnelaa.fnExactBSize
