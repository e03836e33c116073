/- The statement FnExactInsOkSaid: for every input the law returns true, and each argument reads behind the call as it read before. No conditions. -/
import Derived.Test.YtfplmlcokgbbmabInsLaw
import Derived.Test.YtfplmlcokgbbmabReadsIns
import Derived.Test.YtfplmlcokgbbmabRow
import Derived.Test.YtfplmlcokgbbmabFacts
namespace Go.Proofs.Ytfplmlcokgbbmab.fnExactInsOk
open Go.ChangeShapes Go.WideShapes Go.ChangeAt Go.RowKit
open Go.ChangeMaps (open_string shut_string)

set_option maxRecDepth 100000 in
theorem lifted (os : Os) (started : os.Started) (H : Type) (enc : TypeId × Value → H) :
    ReturnsInHanded {} Try.checked os 8 .any (Rows.fnExactInsOkSpec.pre6 enc Try.prog Try.f8 Rows.fnExactInsOkRow.domain false) (Rows.fnExactInsOkSpec.post enc Try.prog Try.f8 false true false false) := by
  refine returnsInHanded_of_change (C := Try.checked) Try.ownKnob0 started (by kernel_rfl) Try.func8
    (ChangeSpec.witness6 (enc := enc) (C := Try.checked) false ⟨#[], #[.agg #[.int .i64 0, .int .i64 0, .int .i64 0, .int .i64 0]], []⟩ 12 (by kernel_rfl) (by kernel_rfl) (by kernel_rfl) (by kernel_rfl)) ?_
  intro W base args ds gs before hval0 hW _ _
  have hval : ∀ (j : Nat) t v, Try.f8.params[j]? = some t → args[j]? = some v → Value.okWide Try.prog W .any base t v := hval0
  have hW' := hW
  obtain ⟨p, q, hA0, hV, _, _, _⟩ := hW'
  have hA : DataW.TrodAll enc Try.prog W 0 (fun _ => true) true Try.f8.params.toList args.toList ds p := hA0
  clear hA0 hval0
  rw [Try.params8] at hA hval
  obtain ⟨v0, d0, rfl, rfl, h0⟩ := trodAll_one hA
  obtain ⟨rfl, _⟩ := trodVars_none hV
  obtain ⟨cs0, rfl, _⟩ : ∃ cs, v0 = .agg cs ∧ cs.size = Try.prog.cellsOf 49 := by
    have h := hval 0 49 v0 rfl rfl
    unfold Value.okWide at h
    rw [Try.underlying49] at h
    obtain ⟨cs, h1, h2, _⟩ := h
    exact ⟨cs, h1, h2⟩
  obtain ⟨n0, hn0⟩ := h0
  obtain ⟨a0, r0', f0⟩ := reads_Ins hn0
  exact law_fin Try.laidOut0 (by kernel_rfl) rfl rfl Try.underlying4 hW rfl rfl rfl (walk_FnExactInsOk W a0 cs0 r0' f0)

theorem proved : Rows.FnExactInsOkSaid :=
  OpenClaim.holds_of_wide 8 Try.f8 rfl rfl rfl rfl rfl rfl rfl ⟨rfl, rfl, rfl, rfl, rfl⟩ rfl rfl rfl rfl rfl (by kernel_rfl) Try.func8 (by kernel_rfl)
    (of_decide_eq_true (by kernel_rfl)) (by unfold Func.isWrapper; rw [if_neg (of_decide_eq_false (by kernel_rfl))]; exact ⟨rfl, rfl⟩)
    (fun os started H enc _ => lifted os started H enc)
#print axioms proved
end Go.Proofs.Ytfplmlcokgbbmab.fnExactInsOk
