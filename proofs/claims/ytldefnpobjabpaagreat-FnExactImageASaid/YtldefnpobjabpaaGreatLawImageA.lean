/- The statement FnExactImageASaid: for every input the law returns true, and each argument reads behind the call as it read before. No conditions. -/
import Derived.Test.YtldefnpobjabpaaGreatCR9
import Derived.Test.YtldefnpobjabpaaGreatRows
import Derived.ProofKit
import Derived.OpenShut
import Derived.ShutString
import Derived.Deep.Slices
set_option linter.all false
namespace Go.Proofs.YtldefnpobjabpaaGreat.fnExactImageA
open Go.ChangeShapes Go.WideShapes Go.ChangeAt Go.RowKit
open Go.ChangeMaps (open_string shut_string)
open Go.Proofs.YtldefnpobjabpaaGreat.VM
theorem ownKnob0 : ownKnob Tryz.prog.godebug = none := by kernel_rfl
theorem laidOut0 : laidOutB Tryz.prog = true := by kernel_rfl
theorem i3 : Rds Tryz.prog 3 Int := rds_int Tryz.underlying3
theorem rds_Ins219 : Rds Tryz.prog 219 DIns := fun {H enc w base spare held fuel cs x} h => by
  obtain ⟨hl, n, hf⟩ := rds_parts Tryz.underlying219 h
  obtain ⟨a0, r0, f0⟩ := rds_part (o := 0) (k := 1) i3 (hf 0 _ rfl) (by kernel_rfl)
  obtain ⟨a1, r1, f1⟩ := rds_part (o := 1) (k := 1) i3 (hf 1 _ rfl) (by kernel_rfl)
  obtain ⟨a2, r2, f2⟩ := rds_part (o := 2) (k := 1) i3 (hf 2 _ rfl) (by kernel_rfl)
  obtain ⟨a3, r3, f3⟩ := rds_part (o := 3) (k := 1) i3 (hf 3 _ rfl) (by kernel_rfl)
  exact ⟨⟨a0, a1, a2, a3⟩, (RdC.cons_part 0 1 r0 (RdC.cons_part 1 1 r1 (RdC.cons_part 2 1 r2 (RdC.cons_part 3 1 r3 (RdC.end_part (n := 4) (hl.trans (by kernel_rfl))))))), f0, f1, f2, f3⟩
theorem rds_ASlot147 : Rds Tryz.prog 147 DASlot := fun {H enc w base spare held fuel cs x} h => by
  obtain ⟨hl, n, hf⟩ := rds_parts Tryz.underlying147 h
  obtain ⟨a0, r0, f0⟩ := rds_part (o := 0) (k := 1) (rds_bool Tryz.underlying4) (hf 0 _ rfl) (by kernel_rfl)
  obtain ⟨a1, r1, f1⟩ := rds_part (o := 1) (k := 1) i3 (hf 1 _ rfl) (by kernel_rfl)
  obtain ⟨a2, r2, f2⟩ := rds_part (o := 2) (k := 1) i3 (hf 2 _ rfl) (by kernel_rfl)
  obtain ⟨a3, r3, f3⟩ := rds_part (o := 3) (k := 1) i3 (hf 3 _ rfl) (by kernel_rfl)
  obtain ⟨a4, r4, f4⟩ := rds_part (o := 4) (k := 1) i3 (hf 4 _ rfl) (by kernel_rfl)
  obtain ⟨a5, r5, f5⟩ := rds_part (o := 5) (k := 1) i3 (hf 5 _ rfl) (by kernel_rfl)
  obtain ⟨a6, r6, f6⟩ := rds_part (o := 6) (k := 1) i3 (hf 6 _ rfl) (by kernel_rfl)
  obtain ⟨a7, r7, f7⟩ := rds_part (o := 7) (k := 1) i3 (hf 7 _ rfl) (by kernel_rfl)
  obtain ⟨a8, r8, f8⟩ := rds_part (o := 8) (k := 1) (rds_slice Tryz.underlying24 (by kernel_rfl) i3) (hf 8 _ rfl) (by kernel_rfl)
  obtain ⟨a9, r9, f9⟩ := rds_part (o := 9) (k := 1) (rds_slice Tryz.underlying24 (by kernel_rfl) i3) (hf 9 _ rfl) (by kernel_rfl)
  obtain ⟨a10, r10, f10⟩ := rds_part (o := 10) (k := 1) (rds_slice Tryz.underlying24 (by kernel_rfl) i3) (hf 10 _ rfl) (by kernel_rfl)
  exact ⟨⟨a0, a1, a2, a3, a4, a5, a6, a7, a8, a9, a10⟩, (RdC.cons_part 0 1 r0 (RdC.cons_part 1 1 r1 (RdC.cons_part 2 1 r2 (RdC.cons_part 3 1 r3 (RdC.cons_part 4 1 r4 (RdC.cons_part 5 1 r5 (RdC.cons_part 6 1 r6 (RdC.cons_part 7 1 r7 (RdC.cons_part 8 1 r8 (RdC.cons_part 9 1 r9 (RdC.cons_part 10 1 r10 (RdC.end_part (n := 11) (hl.trans (by kernel_rfl)))))))))))))), f0, f1, f2, f3, f4, f5, f6, f7, f8, f9, f10⟩
theorem rds_AOpen159 : Rds Tryz.prog 159 DAOpen := fun {H enc w base spare held fuel cs x} h => by
  obtain ⟨hl, n, hf⟩ := rds_parts Tryz.underlying159 h
  obtain ⟨a0, r0, f0⟩ := rds_part (o := 0) (k := 1) (rds_bool Tryz.underlying4) (hf 0 _ rfl) (by kernel_rfl)
  obtain ⟨a1, r1, f1⟩ := rds_part (o := 1) (k := 1) i3 (hf 1 _ rfl) (by kernel_rfl)
  obtain ⟨a2, r2, f2⟩ := rds_part (o := 2) (k := 1) i3 (hf 2 _ rfl) (by kernel_rfl)
  obtain ⟨a3, r3, f3⟩ := rds_part (o := 3) (k := 1) i3 (hf 3 _ rfl) (by kernel_rfl)
  obtain ⟨a4, r4, f4⟩ := rds_part (o := 4) (k := 1) i3 (hf 4 _ rfl) (by kernel_rfl)
  exact ⟨⟨a0, a1, a2, a3, a4⟩, (RdC.cons_part 0 1 r0 (RdC.cons_part 1 1 r1 (RdC.cons_part 2 1 r2 (RdC.cons_part 3 1 r3 (RdC.cons_part 4 1 r4 (RdC.end_part (n := 5) (hl.trans (by kernel_rfl)))))))), f0, f1, f2, f3, f4⟩
theorem rds_ARing30 : Rds Tryz.prog 30 DARing := fun {H enc w base spare held fuel cs x} h => by
  obtain ⟨hl, n, hf⟩ := rds_parts Tryz.underlying30 h
  obtain ⟨a0, r0, f0⟩ := rds_part (o := 0) (k := 1) (rds_bool Tryz.underlying4) (hf 0 _ rfl) (by kernel_rfl)
  obtain ⟨a1, r1, f1⟩ := rds_part (o := 1) (k := 1) (rds_slice Tryz.underlying24 (by kernel_rfl) i3) (hf 1 _ rfl) (by kernel_rfl)
  obtain ⟨a2, r2, f2⟩ := rds_part (o := 2) (k := 1) i3 (hf 2 _ rfl) (by kernel_rfl)
  obtain ⟨a3, r3, f3⟩ := rds_part (o := 3) (k := 1) i3 (hf 3 _ rfl) (by kernel_rfl)
  exact ⟨⟨a0, a1, a2, a3⟩, (RdC.cons_part 0 1 r0 (RdC.cons_part 1 1 r1 (RdC.cons_part 2 1 r2 (RdC.cons_part 3 1 r3 (RdC.end_part (n := 4) (hl.trans (by kernel_rfl))))))), f0, f1, f2, f3⟩
theorem rds_AFile149 : Rds Tryz.prog 149 DAFile := fun {H enc w base spare held fuel cs x} h => by
  obtain ⟨hl, n, hf⟩ := rds_parts Tryz.underlying149 h
  obtain ⟨a0, r0, f0⟩ := rds_part (o := 0) (k := 1) (rds_bool Tryz.underlying4) (hf 0 _ rfl) (by kernel_rfl)
  obtain ⟨a1, r1, f1⟩ := rds_part (o := 1) (k := 1) (rds_slice Tryz.underlying24 (by kernel_rfl) i3) (hf 1 _ rfl) (by kernel_rfl)
  exact ⟨⟨a0, a1⟩, (RdC.cons_part 0 1 r0 (RdC.cons_part 1 1 r1 (RdC.end_part (n := 2) (hl.trans (by kernel_rfl))))), f0, f1⟩
theorem rds_Arrays32 : Rds Tryz.prog 32 DArrays := fun {H enc w base spare held fuel cs x} h => by
  obtain ⟨hl, n, hf⟩ := rds_parts Tryz.underlying32 h
  obtain ⟨a0, r0, f0⟩ := rds_part (o := 0) (k := 1) i3 (hf 0 _ rfl) (by kernel_rfl)
  obtain ⟨a1, r1, f1⟩ := rds_part (o := 1) (k := 1) i3 (hf 1 _ rfl) (by kernel_rfl)
  obtain ⟨a2, r2, f2⟩ := rds_part (o := 2) (k := 1) (rds_slice Tryz.underlying22 (by kernel_rfl) (rds_slice Tryz.underlying145 (by kernel_rfl) rds_Ins219)) (hf 2 _ rfl) (by kernel_rfl)
  obtain ⟨a3, r3, f3⟩ := rds_part (o := 3) (k := 1) (rds_slice Tryz.underlying23 (by kernel_rfl) rds_ASlot147) (hf 3 _ rfl) (by kernel_rfl)
  obtain ⟨a4, r4, f4⟩ := rds_part (o := 4) (k := 1) (rds_slice Tryz.underlying24 (by kernel_rfl) i3) (hf 4 _ rfl) (by kernel_rfl)
  obtain ⟨a5, r5, f5⟩ := rds_part (o := 5) (k := 1) (rds_slice Tryz.underlying25 (by kernel_rfl) (rds_bool Tryz.underlying4)) (hf 5 _ rfl) (by kernel_rfl)
  obtain ⟨a6, r6, f6⟩ := rds_part (o := 6) (k := 1) (rds_slice Tryz.underlying26 (by kernel_rfl) rds_AOpen159) (hf 6 _ rfl) (by kernel_rfl)
  obtain ⟨a7, r7, f7⟩ := rds_part (o := 7) (k := 1) (rds_slice Tryz.underlying27 (by kernel_rfl) rds_ARing30) (hf 7 _ rfl) (by kernel_rfl)
  obtain ⟨a8, r8, f8⟩ := rds_part (o := 8) (k := 1) (rds_slice Tryz.underlying28 (by kernel_rfl) rds_AFile149) (hf 8 _ rfl) (by kernel_rfl)
  obtain ⟨a9, r9, f9⟩ := rds_part (o := 9) (k := 4) rds_ARing30 (hf 9 _ rfl) (by kernel_rfl)
  obtain ⟨a10, r10, f10⟩ := rds_part (o := 13) (k := 1) (rds_slice Tryz.underlying24 (by kernel_rfl) i3) (hf 10 _ rfl) (by kernel_rfl)
  exact ⟨⟨a0, a1, a2, a3, a4, a5, a6, a7, a8, a9, a10⟩, (RdC.cons_part 0 1 r0 (RdC.cons_part 1 1 r1 (RdC.cons_part 2 1 r2 (RdC.cons_part 3 1 r3 (RdC.cons_part 4 1 r4 (RdC.cons_part 5 1 r5 (RdC.cons_part 6 1 r6 (RdC.cons_part 7 1 r7 (RdC.cons_part 8 1 r8 (RdC.cons_part 9 4 r9 (RdC.cons_part 13 1 r10 (RdC.end_part (n := 14) (hl.trans (by kernel_rfl)))))))))))))), f0, f1, f2, f3, f4, f5, f6, f7, f8, f9, f10⟩

set_option maxRecDepth 100000 in
theorem lifted (os : Os) (started : os.Started) (H : Type) (enc : TypeId × Value → H) :
    ReturnsInHanded {} Tryz.checked os 5 .any (Rows.fnExactImageASpec.pre6 enc Tryz.prog Tryz.f5 Rows.fnExactImageARow.domain false) (Rows.fnExactImageASpec.post enc Tryz.prog Tryz.f5 false true false false) := by
  refine returnsInHanded_of_change (C := Tryz.checked) ownKnob0 started (by kernel_rfl) Tryz.func5
    (ChangeSpec.witness6 (enc := enc) (C := Tryz.checked) false ⟨#[], #[.agg #[.int .i64 0, .int .i64 0, .slice none 0 0, .slice none 0 0, .slice none 0 0, .slice none 0 0, .slice none 0 0, .slice none 0 0, .slice none 0 0, .bool false, .slice none 0 0, .int .i64 0, .int .i64 0, .slice none 0 0]], []⟩ 12 (by kernel_rfl) (by kernel_rfl) (by kernel_rfl) (by kernel_rfl)) ?_
  intro W base args ds gs before hval0 hW _ _
  have hval : ∀ (j : Nat) t v, Tryz.f5.params[j]? = some t → args[j]? = some v → Value.okWide Tryz.prog W .any base t v := hval0
  have hW' := hW
  obtain ⟨p, q, hA0, hV, _, _, _⟩ := hW'
  have hA : DataW.TrodAll enc Tryz.prog W 0 (fun _ => true) true Tryz.f5.params.toList args.toList ds p := hA0
  clear hA0 hval0
  rw [Tryz.params5] at hA hval
  obtain ⟨v0, d0, rfl, rfl, h0⟩ := trodAll_one hA
  obtain ⟨rfl, _⟩ := trodVars_none hV
  obtain ⟨cs0, rfl, _⟩ : ∃ cs, v0 = .agg cs ∧ cs.size = Tryz.prog.cellsOf 32 := by
    have h := hval 0 32 v0 rfl rfl
    unfold Value.okWide at h
    rw [Tryz.underlying32] at h
    obtain ⟨cs, h1, h2, _⟩ := h
    exact ⟨cs, h1, h2⟩
  obtain ⟨n0, hn0⟩ := h0
  obtain ⟨a0, r0', f0⟩ := rds_Arrays32 hn0
  exact law_fin laidOut0 (by kernel_rfl) rfl rfl Tryz.underlying4 hW rfl rfl rfl (law_of_con (bs := [(true, En.cs a0)]) (FnExactImageA_con a0) rfl ⟨⟨cs0.toList, r0', by simp⟩, trivial⟩)

theorem an {a b : Bool} (h : a = true) (g : b = true := by as_aux_lemma => kernel_rfl) : (a && b) = true := by rw [h, g]; rfl
set_option maxHeartbeats 20000000 in
set_option maxRecDepth 100000 in
theorem closed : joinedFacts Tryz.pinned.checked.prog 5 Tryz.f5 Rows.fnExactImageASpec Rows.fnExactImageARow = true := (an (an (an (an (an (an (an (an (an (an (an (an (an (an (an (an (an (an (an (an (an (an (an (an (an (an (an (an (an (an (by as_aux_lemma => kernel_rfl)))))))))))))))))))))))))))))))
theorem proved : Rows.FnExactImageASaid :=
  OpenClaim.holds_of_wide 5 Tryz.f5 rfl rfl rfl rfl rfl rfl rfl ⟨rfl, rfl, rfl, rfl, rfl⟩ rfl rfl rfl rfl rfl (by kernel_rfl) Tryz.func5 closed
    (of_decide_eq_true (by kernel_rfl)) (by unfold Func.isWrapper; rw [if_neg (of_decide_eq_false (by kernel_rfl))]; exact ⟨rfl, rfl⟩)
    (fun os started H enc _ => lifted os started H enc)
#print axioms proved
end Go.Proofs.YtldefnpobjabpaaGreat.fnExactImageA
