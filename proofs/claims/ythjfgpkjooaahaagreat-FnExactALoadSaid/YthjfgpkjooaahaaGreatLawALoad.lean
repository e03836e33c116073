/- The statement FnExactALoadSaid: for every input the law returns true, and each argument reads behind the call as it read before. No conditions. -/
import Derived.Test.YthjfgpkjooaahaaGreatCLZ
import Derived.Test.YthjfgpkjooaahaaGreatRows
import Derived.ProofKit
import Derived.OpenShut
import Derived.ShutString
import Derived.Deep.Slices
set_option linter.all false
namespace Go.Proofs.YthjfgpkjooaahaaGreat.fnExactALoad
open Go.ChangeShapes Go.WideShapes Go.ChangeAt Go.RowKit
open Go.ChangeMaps (open_string shut_string)
open Go.Proofs.YthjfgpkjooaahaaGreat.VM
theorem ownKnob0 : ownKnob Tryz.prog.godebug = none := by kernel_rfl
theorem laidOut0 : laidOutB Tryz.prog = true := by kernel_rfl
theorem i3 : Rds Tryz.prog 3 Int := rds_int Tryz.underlying3
theorem rds_Ins292 : Rds Tryz.prog 292 DIns := fun {H enc w base spare held fuel cs x} h => by
  obtain ⟨hl, n, hf⟩ := rds_parts Tryz.underlying292 h
  obtain ⟨a0, r0, f0⟩ := rds_part (o := 0) (k := 1) i3 (hf 0 _ rfl) (by kernel_rfl)
  obtain ⟨a1, r1, f1⟩ := rds_part (o := 1) (k := 1) i3 (hf 1 _ rfl) (by kernel_rfl)
  obtain ⟨a2, r2, f2⟩ := rds_part (o := 2) (k := 1) i3 (hf 2 _ rfl) (by kernel_rfl)
  obtain ⟨a3, r3, f3⟩ := rds_part (o := 3) (k := 1) i3 (hf 3 _ rfl) (by kernel_rfl)
  exact ⟨⟨a0, a1, a2, a3⟩, (RdC.cons_part 0 1 r0 (RdC.cons_part 1 1 r1 (RdC.cons_part 2 1 r2 (RdC.cons_part 3 1 r3 (RdC.end_part (n := 4) (hl.trans (by kernel_rfl))))))), f0, f1, f2, f3⟩
theorem rds_Cpu190 : Rds Tryz.prog 190 DCpu := fun {H enc w base spare held fuel cs x} h => by
  obtain ⟨hl, n, hf⟩ := rds_parts Tryz.underlying190 h
  obtain ⟨a0, r0, f0⟩ := rds_part (o := 0) (k := 1) i3 (hf 0 _ rfl) (by kernel_rfl)
  obtain ⟨a1, r1, f1⟩ := rds_part (o := 1) (k := 1) (rds_slice Tryz.underlying27 (by kernel_rfl) i3) (hf 1 _ rfl) (by kernel_rfl)
  exact ⟨⟨a0, a1⟩, (RdC.cons_part 0 1 r0 (RdC.cons_part 1 1 r1 (RdC.end_part (n := 2) (hl.trans (by kernel_rfl))))), f0, f1⟩
theorem rds_Proc192 : Rds Tryz.prog 192 DProc := fun {H enc w base spare held fuel cs x} h => by
  obtain ⟨hl, n, hf⟩ := rds_parts Tryz.underlying192 h
  obtain ⟨a0, r0, f0⟩ := rds_part (o := 0) (k := 1) i3 (hf 0 _ rfl) (by kernel_rfl)
  obtain ⟨a1, r1, f1⟩ := rds_part (o := 1) (k := 1) i3 (hf 1 _ rfl) (by kernel_rfl)
  obtain ⟨a2, r2, f2⟩ := rds_part (o := 2) (k := 1) i3 (hf 2 _ rfl) (by kernel_rfl)
  obtain ⟨a3, r3, f3⟩ := rds_part (o := 3) (k := 1) i3 (hf 3 _ rfl) (by kernel_rfl)
  obtain ⟨a4, r4, f4⟩ := rds_part (o := 4) (k := 2) rds_Cpu190 (hf 4 _ rfl) (by kernel_rfl)
  obtain ⟨a5, r5, f5⟩ := rds_part (o := 6) (k := 1) (rds_slice Tryz.underlying27 (by kernel_rfl) i3) (hf 5 _ rfl) (by kernel_rfl)
  obtain ⟨a6, r6, f6⟩ := rds_part (o := 7) (k := 1) (rds_slice Tryz.underlying27 (by kernel_rfl) i3) (hf 6 _ rfl) (by kernel_rfl)
  obtain ⟨a7, r7, f7⟩ := rds_part (o := 8) (k := 1) i3 (hf 7 _ rfl) (by kernel_rfl)
  obtain ⟨a8, r8, f8⟩ := rds_part (o := 9) (k := 1) i3 (hf 8 _ rfl) (by kernel_rfl)
  exact ⟨⟨a0, a1, a2, a3, a4, a5, a6, a7, a8⟩, (RdC.cons_part 0 1 r0 (RdC.cons_part 1 1 r1 (RdC.cons_part 2 1 r2 (RdC.cons_part 3 1 r3 (RdC.cons_part 4 2 r4 (RdC.cons_part 6 1 r5 (RdC.cons_part 7 1 r6 (RdC.cons_part 8 1 r7 (RdC.cons_part 9 1 r8 (RdC.end_part (n := 10) (hl.trans (by kernel_rfl)))))))))))), f0, f1, f2, f3, f4, f5, f6, f7, f8⟩
theorem rds_Open210 : Rds Tryz.prog 210 DOpen := fun {H enc w base spare held fuel cs x} h => by
  obtain ⟨hl, n, hf⟩ := rds_parts Tryz.underlying210 h
  obtain ⟨a0, r0, f0⟩ := rds_part (o := 0) (k := 1) i3 (hf 0 _ rfl) (by kernel_rfl)
  obtain ⟨a1, r1, f1⟩ := rds_part (o := 1) (k := 1) i3 (hf 1 _ rfl) (by kernel_rfl)
  obtain ⟨a2, r2, f2⟩ := rds_part (o := 2) (k := 1) i3 (hf 2 _ rfl) (by kernel_rfl)
  obtain ⟨a3, r3, f3⟩ := rds_part (o := 3) (k := 1) i3 (hf 3 _ rfl) (by kernel_rfl)
  obtain ⟨a4, r4, f4⟩ := rds_part (o := 4) (k := 1) i3 (hf 4 _ rfl) (by kernel_rfl)
  exact ⟨⟨a0, a1, a2, a3, a4⟩, (RdC.cons_part 0 1 r0 (RdC.cons_part 1 1 r1 (RdC.cons_part 2 1 r2 (RdC.cons_part 3 1 r3 (RdC.cons_part 4 1 r4 (RdC.end_part (n := 5) (hl.trans (by kernel_rfl)))))))), f0, f1, f2, f3, f4⟩
theorem rds_Pipe194 : Rds Tryz.prog 194 DPipe := fun {H enc w base spare held fuel cs x} h => by
  obtain ⟨hl, n, hf⟩ := rds_parts Tryz.underlying194 h
  obtain ⟨a0, r0, f0⟩ := rds_part (o := 0) (k := 1) i3 (hf 0 _ rfl) (by kernel_rfl)
  obtain ⟨a1, r1, f1⟩ := rds_part (o := 1) (k := 1) (rds_slice Tryz.underlying27 (by kernel_rfl) i3) (hf 1 _ rfl) (by kernel_rfl)
  exact ⟨⟨a0, a1⟩, (RdC.cons_part 0 1 r0 (RdC.cons_part 1 1 r1 (RdC.end_part (n := 2) (hl.trans (by kernel_rfl))))), f0, f1⟩
theorem rds_File196 : Rds Tryz.prog 196 DFile := fun {H enc w base spare held fuel cs x} h => by
  obtain ⟨hl, n, hf⟩ := rds_parts Tryz.underlying196 h
  obtain ⟨a0, r0, f0⟩ := rds_part (o := 0) (k := 1) i3 (hf 0 _ rfl) (by kernel_rfl)
  obtain ⟨a1, r1, f1⟩ := rds_part (o := 1) (k := 1) (rds_slice Tryz.underlying27 (by kernel_rfl) i3) (hf 1 _ rfl) (by kernel_rfl)
  exact ⟨⟨a0, a1⟩, (RdC.cons_part 0 1 r0 (RdC.cons_part 1 1 r1 (RdC.end_part (n := 2) (hl.trans (by kernel_rfl))))), f0, f1⟩
theorem rds_Unix29 : Rds Tryz.prog 29 DUnix := fun {H enc w base spare held fuel cs x} h => by
  obtain ⟨hl, n, hf⟩ := rds_parts Tryz.underlying29 h
  obtain ⟨a0, r0, f0⟩ := rds_part (o := 0) (k := 1) i3 (hf 0 _ rfl) (by kernel_rfl)
  obtain ⟨a1, r1, f1⟩ := rds_part (o := 1) (k := 1) i3 (hf 1 _ rfl) (by kernel_rfl)
  obtain ⟨a2, r2, f2⟩ := rds_part (o := 2) (k := 1) (rds_slice Tryz.underlying22 (by kernel_rfl) (rds_slice Tryz.underlying188 (by kernel_rfl) rds_Ins292)) (hf 2 _ rfl) (by kernel_rfl)
  obtain ⟨a3, r3, f3⟩ := rds_part (o := 3) (k := 1) (rds_slice Tryz.underlying23 (by kernel_rfl) rds_Proc192) (hf 3 _ rfl) (by kernel_rfl)
  obtain ⟨a4, r4, f4⟩ := rds_part (o := 4) (k := 1) (rds_slice Tryz.underlying24 (by kernel_rfl) rds_Open210) (hf 4 _ rfl) (by kernel_rfl)
  obtain ⟨a5, r5, f5⟩ := rds_part (o := 5) (k := 1) (rds_slice Tryz.underlying25 (by kernel_rfl) rds_Pipe194) (hf 5 _ rfl) (by kernel_rfl)
  obtain ⟨a6, r6, f6⟩ := rds_part (o := 6) (k := 1) (rds_slice Tryz.underlying26 (by kernel_rfl) rds_File196) (hf 6 _ rfl) (by kernel_rfl)
  obtain ⟨a7, r7, f7⟩ := rds_part (o := 7) (k := 1) (rds_slice Tryz.underlying27 (by kernel_rfl) i3) (hf 7 _ rfl) (by kernel_rfl)
  obtain ⟨a8, r8, f8⟩ := rds_part (o := 8) (k := 1) (rds_slice Tryz.underlying27 (by kernel_rfl) i3) (hf 8 _ rfl) (by kernel_rfl)
  exact ⟨⟨a0, a1, a2, a3, a4, a5, a6, a7, a8⟩, (RdC.cons_part 0 1 r0 (RdC.cons_part 1 1 r1 (RdC.cons_part 2 1 r2 (RdC.cons_part 3 1 r3 (RdC.cons_part 4 1 r4 (RdC.cons_part 5 1 r5 (RdC.cons_part 6 1 r6 (RdC.cons_part 7 1 r7 (RdC.cons_part 8 1 r8 (RdC.end_part (n := 9) (hl.trans (by kernel_rfl)))))))))))), f0, f1, f2, f3, f4, f5, f6, f7, f8⟩

set_option maxRecDepth 100000 in
theorem lifted (os : Os) (started : os.Started) (H : Type) (enc : TypeId × Value → H) :
    ReturnsInHanded {} Tryz.checked os 3 .any (Rows.fnExactALoadSpec.pre6 enc Tryz.prog Tryz.f3 Rows.fnExactALoadRow.domain false) (Rows.fnExactALoadSpec.post enc Tryz.prog Tryz.f3 false true false false) := by
  refine returnsInHanded_of_change (C := Tryz.checked) ownKnob0 started (by kernel_rfl) Tryz.func3
    (ChangeSpec.witness6 (enc := enc) (C := Tryz.checked) false ⟨#[], #[.agg #[.int .i64 0, .int .i64 0, .slice none 0 0, .slice none 0 0, .slice none 0 0, .slice none 0 0, .slice none 0 0, .slice none 0 0, .slice none 0 0]], []⟩ 12 (by kernel_rfl) (by kernel_rfl) (by kernel_rfl) (by kernel_rfl)) ?_
  intro W base args ds gs before hval0 hW _ _
  have hval : ∀ (j : Nat) t v, Tryz.f3.params[j]? = some t → args[j]? = some v → Value.okWide Tryz.prog W .any base t v := hval0
  have hW' := hW
  obtain ⟨p, q, hA0, hV, _, _, _⟩ := hW'
  have hA : DataW.TrodAll enc Tryz.prog W 0 (fun _ => true) true Tryz.f3.params.toList args.toList ds p := hA0
  clear hA0 hval0
  rw [Tryz.params3] at hA hval
  obtain ⟨v0, d0, rfl, rfl, h0⟩ := trodAll_one hA
  obtain ⟨rfl, _⟩ := trodVars_none hV
  obtain ⟨cs0, rfl, _⟩ : ∃ cs, v0 = .agg cs ∧ cs.size = Tryz.prog.cellsOf 29 := by
    have h := hval 0 29 v0 rfl rfl
    unfold Value.okWide at h
    rw [Tryz.underlying29] at h
    obtain ⟨cs, h1, h2, _⟩ := h
    exact ⟨cs, h1, h2⟩
  obtain ⟨n0, hn0⟩ := h0
  obtain ⟨a0, r0', f0⟩ := rds_Unix29 hn0
  exact law_fin laidOut0 (by kernel_rfl) rfl rfl Tryz.underlying4 hW rfl rfl rfl (law_of_con (bs := [(true, En.cs a0)]) (FnExactALoad_con a0) rfl ⟨⟨cs0.toList, r0', by simp⟩, trivial⟩)

theorem an {a b : Bool} (h : a = true) (g : b = true := by as_aux_lemma => kernel_rfl) : (a && b) = true := by rw [h, g]; rfl
set_option maxHeartbeats 20000000 in
set_option maxRecDepth 100000 in
theorem closed : joinedFacts Tryz.pinned.checked.prog 3 Tryz.f3 Rows.fnExactALoadSpec Rows.fnExactALoadRow = true := (an (an (an (an (an (an (an (an (an (an (an (an (an (an (an (an (an (an (an (an (an (an (an (an (an (an (an (an (an (an (by as_aux_lemma => kernel_rfl)))))))))))))))))))))))))))))))
theorem proved : Rows.FnExactALoadSaid :=
  OpenClaim.holds_of_wide 3 Tryz.f3 rfl rfl rfl rfl rfl rfl rfl ⟨rfl, rfl, rfl, rfl, rfl⟩ rfl rfl rfl rfl rfl (by kernel_rfl) Tryz.func3 closed
    (of_decide_eq_true (by kernel_rfl)) (by unfold Func.isWrapper; rw [if_neg (of_decide_eq_false (by kernel_rfl))]; exact ⟨rfl, rfl⟩)
    (fun os started H enc _ => lifted os started H enc)
#print axioms proved
end Go.Proofs.YthjfgpkjooaahaaGreat.fnExactALoad
