/- The statement FnExactBOkSaid: for every input the law returns true, and each argument reads behind the call as it read before. No conditions. -/
import Derived.Test.YtekcnnngjoonbaaGreatWU
import Derived.Test.YtekcnnngjoonbaaGreatRows
import Derived.ProofKit
import Derived.OpenShut
import Derived.ShutString
import Derived.Deep.Slices
set_option linter.all false
namespace Go.Proofs.YtekcnnngjoonbaaGreat.fnExactBOk
open Go.ChangeShapes Go.WideShapes Go.ChangeAt Go.RowKit
open Go.ChangeMaps (open_string shut_string)
open Go.Proofs.YtekcnnngjoonbaaGreat.VM
theorem xX : ownKnob Tryz.prog.godebug = none := by kernel_rfl
theorem xl : laidOutB Tryz.prog = true := by kernel_rfl
theorem i3 : wc Tryz.prog 3 Int := y4 Tryz.underlying3
theorem ux : wc Tryz.prog 188 dE := fun {H enc w aa spare held fuel cs x} h => by
  obtain ⟨hl, n, hf⟩ := fN Tryz.underlying188 h
  obtain ⟨a0, r0, f0⟩ := bD (o := 0) (k := 1) i3 (hf 0 _ rfl) (by kernel_rfl)
  obtain ⟨a1, r1, f1⟩ := bD (o := 1) (k := 1) i3 (hf 1 _ rfl) (by kernel_rfl)
  obtain ⟨a2, r2, f2⟩ := bD (o := 2) (k := 1) i3 (hf 2 _ rfl) (by kernel_rfl)
  obtain ⟨a3, r3, f3⟩ := bD (o := 3) (k := 1) i3 (hf 3 _ rfl) (by kernel_rfl)
  exact ⟨⟨a0, a1, a2, a3⟩, (fv.bm 0 1 r0 (fv.bm 1 1 r1 (fv.bm 2 1 r2 (fv.bm 3 1 r3 (fv.gB (n := 4) (hl.trans (by kernel_rfl))))))), f0, f1, f2, f3⟩
theorem uX : wc Tryz.prog 127 oM := fun {H enc w aa spare held fuel cs x} h => by
  obtain ⟨hl, n, hf⟩ := fN Tryz.underlying127 h
  obtain ⟨a0, r0, f0⟩ := bD (o := 0) (k := 1) i3 (hf 0 _ rfl) (by kernel_rfl)
  obtain ⟨a1, r1, f1⟩ := bD (o := 1) (k := 1) (cJ Tryz.underlying24 (by kernel_rfl) i3) (hf 1 _ rfl) (by kernel_rfl)
  exact ⟨⟨a0, a1⟩, (fv.bm 0 1 r0 (fv.bm 1 1 r1 (fv.gB (n := 2) (hl.trans (by kernel_rfl))))), f0, f1⟩
theorem qY : wc Tryz.prog 129 dD := fun {H enc w aa spare held fuel cs x} h => by
  obtain ⟨hl, n, hf⟩ := fN Tryz.underlying129 h
  obtain ⟨a0, r0, f0⟩ := bD (o := 0) (k := 1) i3 (hf 0 _ rfl) (by kernel_rfl)
  obtain ⟨a1, r1, f1⟩ := bD (o := 1) (k := 1) i3 (hf 1 _ rfl) (by kernel_rfl)
  obtain ⟨a2, r2, f2⟩ := bD (o := 2) (k := 1) i3 (hf 2 _ rfl) (by kernel_rfl)
  obtain ⟨a3, r3, f3⟩ := bD (o := 3) (k := 1) i3 (hf 3 _ rfl) (by kernel_rfl)
  obtain ⟨a4, r4, f4⟩ := bD (o := 4) (k := 2) uX (hf 4 _ rfl) (by kernel_rfl)
  obtain ⟨a5, r5, f5⟩ := bD (o := 6) (k := 1) (cJ Tryz.underlying24 (by kernel_rfl) i3) (hf 5 _ rfl) (by kernel_rfl)
  obtain ⟨a6, r6, f6⟩ := bD (o := 7) (k := 1) (cJ Tryz.underlying24 (by kernel_rfl) i3) (hf 6 _ rfl) (by kernel_rfl)
  obtain ⟨a7, r7, f7⟩ := bD (o := 8) (k := 1) i3 (hf 7 _ rfl) (by kernel_rfl)
  obtain ⟨a8, r8, f8⟩ := bD (o := 9) (k := 1) i3 (hf 8 _ rfl) (by kernel_rfl)
  exact ⟨⟨a0, a1, a2, a3, a4, a5, a6, a7, a8⟩, (fv.bm 0 1 r0 (fv.bm 1 1 r1 (fv.bm 2 1 r2 (fv.bm 3 1 r3 (fv.bm 4 2 r4 (fv.bm 6 1 r5 (fv.bm 7 1 r6 (fv.bm 8 1 r7 (fv.bm 9 1 r8 (fv.gB (n := 10) (hl.trans (by kernel_rfl)))))))))))), f0, f1, f2, f3, f4, f5, f6, f7, f8⟩
theorem tJ : wc Tryz.prog 27 gN := fun {H enc w aa spare held fuel cs x} h => by
  obtain ⟨hl, n, hf⟩ := fN Tryz.underlying27 h
  obtain ⟨a0, r0, f0⟩ := bD (o := 0) (k := 1) (cJ Tryz.underlying25 (by kernel_rfl) (cJ Tryz.underlying24 (by kernel_rfl) i3)) (hf 0 _ rfl) (by kernel_rfl)
  exact ⟨⟨a0⟩, (fv.bm 0 1 r0 (fv.gB (n := 1) (hl.trans (by kernel_rfl)))), f0⟩
theorem sv : wc Tryz.prog 146 aw := fun {H enc w aa spare held fuel cs x} h => by
  obtain ⟨hl, n, hf⟩ := fN Tryz.underlying146 h
  obtain ⟨a0, r0, f0⟩ := bD (o := 0) (k := 1) i3 (hf 0 _ rfl) (by kernel_rfl)
  obtain ⟨a1, r1, f1⟩ := bD (o := 1) (k := 1) i3 (hf 1 _ rfl) (by kernel_rfl)
  obtain ⟨a2, r2, f2⟩ := bD (o := 2) (k := 1) i3 (hf 2 _ rfl) (by kernel_rfl)
  obtain ⟨a3, r3, f3⟩ := bD (o := 3) (k := 1) i3 (hf 3 _ rfl) (by kernel_rfl)
  obtain ⟨a4, r4, f4⟩ := bD (o := 4) (k := 1) i3 (hf 4 _ rfl) (by kernel_rfl)
  exact ⟨⟨a0, a1, a2, a3, a4⟩, (fv.bm 0 1 r0 (fv.bm 1 1 r1 (fv.bm 2 1 r2 (fv.bm 3 1 r3 (fv.bm 4 1 r4 (fv.gB (n := 5) (hl.trans (by kernel_rfl)))))))), f0, f1, f2, f3, f4⟩
theorem qp : wc Tryz.prog 132 dp := fun {H enc w aa spare held fuel cs x} h => by
  obtain ⟨hl, n, hf⟩ := fN Tryz.underlying132 h
  obtain ⟨a0, r0, f0⟩ := bD (o := 0) (k := 1) i3 (hf 0 _ rfl) (by kernel_rfl)
  obtain ⟨a1, r1, f1⟩ := bD (o := 1) (k := 1) (cJ Tryz.underlying25 (by kernel_rfl) (cJ Tryz.underlying24 (by kernel_rfl) i3)) (hf 1 _ rfl) (by kernel_rfl)
  exact ⟨⟨a0, a1⟩, (fv.bm 0 1 r0 (fv.bm 1 1 r1 (fv.gB (n := 2) (hl.trans (by kernel_rfl))))), f0, f1⟩
theorem sx : wc Tryz.prog 134 cm := fun {H enc w aa spare held fuel cs x} h => by
  obtain ⟨hl, n, hf⟩ := fN Tryz.underlying134 h
  obtain ⟨a0, r0, f0⟩ := bD (o := 0) (k := 1) i3 (hf 0 _ rfl) (by kernel_rfl)
  obtain ⟨a1, r1, f1⟩ := bD (o := 1) (k := 1) (cJ Tryz.underlying24 (by kernel_rfl) i3) (hf 1 _ rfl) (by kernel_rfl)
  exact ⟨⟨a0, a1⟩, (fv.bm 0 1 r0 (fv.bm 1 1 r1 (fv.gB (n := 2) (hl.trans (by kernel_rfl))))), f0, f1⟩
theorem sc : wc Tryz.prog 32 bH := fun {H enc w aa spare held fuel cs x} h => by
  obtain ⟨hl, n, hf⟩ := fN Tryz.underlying32 h
  obtain ⟨a0, r0, f0⟩ := bD (o := 0) (k := 1) i3 (hf 0 _ rfl) (by kernel_rfl)
  obtain ⟨a1, r1, f1⟩ := bD (o := 1) (k := 1) i3 (hf 1 _ rfl) (by kernel_rfl)
  obtain ⟨a2, r2, f2⟩ := bD (o := 2) (k := 1) (cJ Tryz.underlying22 (by kernel_rfl) (cJ Tryz.underlying125 (by kernel_rfl) ux)) (hf 2 _ rfl) (by kernel_rfl)
  obtain ⟨a3, r3, f3⟩ := bD (o := 3) (k := 1) (cJ Tryz.underlying23 (by kernel_rfl) qY) (hf 3 _ rfl) (by kernel_rfl)
  obtain ⟨a4, r4, f4⟩ := bD (o := 4) (k := 1) (cJ Tryz.underlying24 (by kernel_rfl) i3) (hf 4 _ rfl) (by kernel_rfl)
  obtain ⟨a5, r5, f5⟩ := bD (o := 5) (k := 1) tJ (hf 5 _ rfl) (by kernel_rfl)
  obtain ⟨a6, r6, f6⟩ := bD (o := 6) (k := 1) (cJ Tryz.underlying28 (by kernel_rfl) sv) (hf 6 _ rfl) (by kernel_rfl)
  obtain ⟨a7, r7, f7⟩ := bD (o := 7) (k := 1) (cJ Tryz.underlying29 (by kernel_rfl) qp) (hf 7 _ rfl) (by kernel_rfl)
  obtain ⟨a8, r8, f8⟩ := bD (o := 8) (k := 1) (cJ Tryz.underlying30 (by kernel_rfl) sx) (hf 8 _ rfl) (by kernel_rfl)
  obtain ⟨a9, r9, f9⟩ := bD (o := 9) (k := 1) (cJ Tryz.underlying24 (by kernel_rfl) i3) (hf 9 _ rfl) (by kernel_rfl)
  obtain ⟨a10, r10, f10⟩ := bD (o := 10) (k := 1) (cJ Tryz.underlying24 (by kernel_rfl) i3) (hf 10 _ rfl) (by kernel_rfl)
  exact ⟨⟨a0, a1, a2, a3, a4, a5, a6, a7, a8, a9, a10⟩, (fv.bm 0 1 r0 (fv.bm 1 1 r1 (fv.bm 2 1 r2 (fv.bm 3 1 r3 (fv.bm 4 1 r4 (fv.bm 5 1 r5 (fv.bm 6 1 r6 (fv.bm 7 1 r7 (fv.bm 8 1 r8 (fv.bm 9 1 r9 (fv.bm 10 1 r10 (fv.gB (n := 11) (hl.trans (by kernel_rfl)))))))))))))), f0, f1, f2, f3, f4, f5, f6, f7, f8, f9, f10⟩

set_option maxRecDepth 100000 in
theorem Af (os : Os) (started : os.Started) (H : Type) (enc : TypeId × Value → H) :
    ReturnsInHanded {} Tryz.checked os 4 .any (Rows.fnExactBOkSpec.pre6 enc Tryz.prog Tryz.f4 Rows.fnExactBOkRow.domain false) (Rows.fnExactBOkSpec.post enc Tryz.prog Tryz.f4 false true false false) := by
  refine returnsInHanded_of_change (C := Tryz.checked) xX started (by kernel_rfl) Tryz.func4
    (ChangeSpec.witness6 (enc := enc) (C := Tryz.checked) false ⟨#[], #[.agg #[.int .i64 0, .int .i64 0, .slice none 0 0, .slice none 0 0, .slice none 0 0, .slice none 0 0, .slice none 0 0, .slice none 0 0, .slice none 0 0, .slice none 0 0, .slice none 0 0]], []⟩ 12 (by kernel_rfl) (by kernel_rfl) (by kernel_rfl) (by kernel_rfl)) ?_
  intro W aa args ds gs before hval0 hW _ _
  have hval : ∀ (j : Nat) t v, Tryz.f4.params[j]? = some t → args[j]? = some v → Value.okWide Tryz.prog W .any aa t v := hval0
  have hW' := hW
  obtain ⟨p, q, hA0, hV, _, _, _⟩ := hW'
  have hA : DataW.TrodAll enc Tryz.prog W 0 (fun _ => true) true Tryz.f4.params.toList args.toList ds p := hA0
  clear hA0 hval0
  rw [Tryz.params4] at hA hval
  obtain ⟨v0, d0, rfl, rfl, h0⟩ := trodAll_one hA
  obtain ⟨rfl, _⟩ := trodVars_none hV
  obtain ⟨cs0, rfl, _⟩ : ∃ cs, v0 = .agg cs ∧ cs.size = Tryz.prog.cellsOf 32 := by
    have h := hval 0 32 v0 rfl rfl
    unfold Value.okWide at h
    rw [Tryz.underlying32] at h
    obtain ⟨cs, h1, h2, _⟩ := h
    exact ⟨cs, h1, h2⟩
  obtain ⟨n0, hn0⟩ := h0
  obtain ⟨a0, r0', f0⟩ := sc hn0
  exact yS xl (by kernel_rfl) rfl rfl Tryz.underlying4 hW rfl rfl rfl (uP (bs := [(true, En.cs a0)]) (oj a0) rfl ⟨⟨cs0.toList, r0', by simp⟩, trivial⟩)

theorem an {a b : Bool} (h : a = true) (g : b = true := by as_aux_lemma => kernel_rfl) : (a && b) = true := by rw [h, g]; rfl
set_option maxHeartbeats 20000000 in
set_option maxRecDepth 100000 in
theorem Ah : joinedFacts Tryz.pinned.checked.prog 4 Tryz.f4 Rows.fnExactBOkSpec Rows.fnExactBOkRow = true := (an (an (an (an (an (an (an (an (an (an (an (an (an (an (an (an (an (an (an (an (an (an (an (an (an (an (an (an (an (an (by as_aux_lemma => kernel_rfl)))))))))))))))))))))))))))))))
theorem proved : Rows.FnExactBOkSaid :=
  OpenClaim.holds_of_wide 4 Tryz.f4 rfl rfl rfl rfl rfl rfl rfl ⟨rfl, rfl, rfl, rfl, rfl⟩ rfl rfl rfl rfl rfl (by kernel_rfl) Tryz.func4 Ah
    (of_decide_eq_true (by kernel_rfl)) (by unfold Func.isWrapper; rw [if_neg (of_decide_eq_false (by kernel_rfl))]; exact ⟨rfl, rfl⟩)
    (fun os started H enc _ => Af os started H enc)
#print axioms proved
end Go.Proofs.YtekcnnngjoonbaaGreat.fnExactBOk
