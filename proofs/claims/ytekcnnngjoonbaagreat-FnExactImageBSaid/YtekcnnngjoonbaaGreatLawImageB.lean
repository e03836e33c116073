/- The statement FnExactImageBSaid: for every input the law returns true, and each argument reads behind the call as it read before. No conditions. -/
import Derived.Test.YtekcnnngjoonbaaGreatWS
import Derived.Test.YtekcnnngjoonbaaGreatRows
import Derived.ProofKit
import Derived.OpenShut
import Derived.ShutString
import Derived.Deep.Slices
set_option linter.all false
namespace Go.Proofs.YtekcnnngjoonbaaGreat.fnExactImageB
open Go.ChangeShapes Go.WideShapes Go.ChangeAt Go.RowKit
open Go.ChangeMaps (open_string shut_string)
open Go.Proofs.YtekcnnngjoonbaaGreat.VM
theorem zV : ownKnob Tryz.prog.godebug = none := by kernel_rfl
theorem Aa : laidOutB Tryz.prog = true := by kernel_rfl
theorem i3 : xL Tryz.prog 3 Int := Bo Tryz.underlying3
theorem vS : xL Tryz.prog 188 cU := fun {H enc w aa spare held fuel cs x} h => by
  obtain ⟨hl, n, hf⟩ := fI Tryz.underlying188 h
  obtain ⟨a0, r0, f0⟩ := bz (o := 0) (k := 1) i3 (hf 0 _ rfl) (by kernel_rfl)
  obtain ⟨a1, r1, f1⟩ := bz (o := 1) (k := 1) i3 (hf 1 _ rfl) (by kernel_rfl)
  obtain ⟨a2, r2, f2⟩ := bz (o := 2) (k := 1) i3 (hf 2 _ rfl) (by kernel_rfl)
  obtain ⟨a3, r3, f3⟩ := bz (o := 3) (k := 1) i3 (hf 3 _ rfl) (by kernel_rfl)
  exact ⟨⟨a0, a1, a2, a3⟩, (fp.bl 0 1 r0 (fp.bl 1 1 r1 (fp.bl 2 1 r2 (fp.bl 3 1 r3 (fp.gn (n := 4) (hl.trans (by kernel_rfl))))))), f0, f1, f2, f3⟩
theorem we : xL Tryz.prog 127 oj := fun {H enc w aa spare held fuel cs x} h => by
  obtain ⟨hl, n, hf⟩ := fI Tryz.underlying127 h
  obtain ⟨a0, r0, f0⟩ := bz (o := 0) (k := 1) i3 (hf 0 _ rfl) (by kernel_rfl)
  obtain ⟨a1, r1, f1⟩ := bz (o := 1) (k := 1) (cP Tryz.underlying24 (by kernel_rfl) i3) (hf 1 _ rfl) (by kernel_rfl)
  exact ⟨⟨a0, a1⟩, (fp.bl 0 1 r0 (fp.bl 1 1 r1 (fp.gn (n := 2) (hl.trans (by kernel_rfl))))), f0, f1⟩
theorem rZ : xL Tryz.prog 129 dy := fun {H enc w aa spare held fuel cs x} h => by
  obtain ⟨hl, n, hf⟩ := fI Tryz.underlying129 h
  obtain ⟨a0, r0, f0⟩ := bz (o := 0) (k := 1) i3 (hf 0 _ rfl) (by kernel_rfl)
  obtain ⟨a1, r1, f1⟩ := bz (o := 1) (k := 1) i3 (hf 1 _ rfl) (by kernel_rfl)
  obtain ⟨a2, r2, f2⟩ := bz (o := 2) (k := 1) i3 (hf 2 _ rfl) (by kernel_rfl)
  obtain ⟨a3, r3, f3⟩ := bz (o := 3) (k := 1) i3 (hf 3 _ rfl) (by kernel_rfl)
  obtain ⟨a4, r4, f4⟩ := bz (o := 4) (k := 2) we (hf 4 _ rfl) (by kernel_rfl)
  obtain ⟨a5, r5, f5⟩ := bz (o := 6) (k := 1) (cP Tryz.underlying24 (by kernel_rfl) i3) (hf 5 _ rfl) (by kernel_rfl)
  obtain ⟨a6, r6, f6⟩ := bz (o := 7) (k := 1) (cP Tryz.underlying24 (by kernel_rfl) i3) (hf 6 _ rfl) (by kernel_rfl)
  obtain ⟨a7, r7, f7⟩ := bz (o := 8) (k := 1) i3 (hf 7 _ rfl) (by kernel_rfl)
  obtain ⟨a8, r8, f8⟩ := bz (o := 9) (k := 1) i3 (hf 8 _ rfl) (by kernel_rfl)
  exact ⟨⟨a0, a1, a2, a3, a4, a5, a6, a7, a8⟩, (fp.bl 0 1 r0 (fp.bl 1 1 r1 (fp.bl 2 1 r2 (fp.bl 3 1 r3 (fp.bl 4 2 r4 (fp.bl 6 1 r5 (fp.bl 7 1 r6 (fp.bl 8 1 r7 (fp.bl 9 1 r8 (fp.gn (n := 10) (hl.trans (by kernel_rfl)))))))))))), f0, f1, f2, f3, f4, f5, f6, f7, f8⟩
theorem uQ : xL Tryz.prog 27 gC := fun {H enc w aa spare held fuel cs x} h => by
  obtain ⟨hl, n, hf⟩ := fI Tryz.underlying27 h
  obtain ⟨a0, r0, f0⟩ := bz (o := 0) (k := 1) (cP Tryz.underlying25 (by kernel_rfl) (cP Tryz.underlying24 (by kernel_rfl) i3)) (hf 0 _ rfl) (by kernel_rfl)
  exact ⟨⟨a0⟩, (fp.bl 0 1 r0 (fp.gn (n := 1) (hl.trans (by kernel_rfl)))), f0⟩
theorem uV : xL Tryz.prog 146 az := fun {H enc w aa spare held fuel cs x} h => by
  obtain ⟨hl, n, hf⟩ := fI Tryz.underlying146 h
  obtain ⟨a0, r0, f0⟩ := bz (o := 0) (k := 1) i3 (hf 0 _ rfl) (by kernel_rfl)
  obtain ⟨a1, r1, f1⟩ := bz (o := 1) (k := 1) i3 (hf 1 _ rfl) (by kernel_rfl)
  obtain ⟨a2, r2, f2⟩ := bz (o := 2) (k := 1) i3 (hf 2 _ rfl) (by kernel_rfl)
  obtain ⟨a3, r3, f3⟩ := bz (o := 3) (k := 1) i3 (hf 3 _ rfl) (by kernel_rfl)
  obtain ⟨a4, r4, f4⟩ := bz (o := 4) (k := 1) i3 (hf 4 _ rfl) (by kernel_rfl)
  exact ⟨⟨a0, a1, a2, a3, a4⟩, (fp.bl 0 1 r0 (fp.bl 1 1 r1 (fp.bl 2 1 r2 (fp.bl 3 1 r3 (fp.bl 4 1 r4 (fp.gn (n := 5) (hl.trans (by kernel_rfl)))))))), f0, f1, f2, f3, f4⟩
theorem rc : xL Tryz.prog 132 dd := fun {H enc w aa spare held fuel cs x} h => by
  obtain ⟨hl, n, hf⟩ := fI Tryz.underlying132 h
  obtain ⟨a0, r0, f0⟩ := bz (o := 0) (k := 1) i3 (hf 0 _ rfl) (by kernel_rfl)
  obtain ⟨a1, r1, f1⟩ := bz (o := 1) (k := 1) (cP Tryz.underlying25 (by kernel_rfl) (cP Tryz.underlying24 (by kernel_rfl) i3)) (hf 1 _ rfl) (by kernel_rfl)
  exact ⟨⟨a0, a1⟩, (fp.bl 0 1 r0 (fp.bl 1 1 r1 (fp.gn (n := 2) (hl.trans (by kernel_rfl))))), f0, f1⟩
theorem uE : xL Tryz.prog 134 ca := fun {H enc w aa spare held fuel cs x} h => by
  obtain ⟨hl, n, hf⟩ := fI Tryz.underlying134 h
  obtain ⟨a0, r0, f0⟩ := bz (o := 0) (k := 1) i3 (hf 0 _ rfl) (by kernel_rfl)
  obtain ⟨a1, r1, f1⟩ := bz (o := 1) (k := 1) (cP Tryz.underlying24 (by kernel_rfl) i3) (hf 1 _ rfl) (by kernel_rfl)
  exact ⟨⟨a0, a1⟩, (fp.bl 0 1 r0 (fp.bl 1 1 r1 (fp.gn (n := 2) (hl.trans (by kernel_rfl))))), f0, f1⟩
theorem sX : xL Tryz.prog 32 bC := fun {H enc w aa spare held fuel cs x} h => by
  obtain ⟨hl, n, hf⟩ := fI Tryz.underlying32 h
  obtain ⟨a0, r0, f0⟩ := bz (o := 0) (k := 1) i3 (hf 0 _ rfl) (by kernel_rfl)
  obtain ⟨a1, r1, f1⟩ := bz (o := 1) (k := 1) i3 (hf 1 _ rfl) (by kernel_rfl)
  obtain ⟨a2, r2, f2⟩ := bz (o := 2) (k := 1) (cP Tryz.underlying22 (by kernel_rfl) (cP Tryz.underlying125 (by kernel_rfl) vS)) (hf 2 _ rfl) (by kernel_rfl)
  obtain ⟨a3, r3, f3⟩ := bz (o := 3) (k := 1) (cP Tryz.underlying23 (by kernel_rfl) rZ) (hf 3 _ rfl) (by kernel_rfl)
  obtain ⟨a4, r4, f4⟩ := bz (o := 4) (k := 1) (cP Tryz.underlying24 (by kernel_rfl) i3) (hf 4 _ rfl) (by kernel_rfl)
  obtain ⟨a5, r5, f5⟩ := bz (o := 5) (k := 1) uQ (hf 5 _ rfl) (by kernel_rfl)
  obtain ⟨a6, r6, f6⟩ := bz (o := 6) (k := 1) (cP Tryz.underlying28 (by kernel_rfl) uV) (hf 6 _ rfl) (by kernel_rfl)
  obtain ⟨a7, r7, f7⟩ := bz (o := 7) (k := 1) (cP Tryz.underlying29 (by kernel_rfl) rc) (hf 7 _ rfl) (by kernel_rfl)
  obtain ⟨a8, r8, f8⟩ := bz (o := 8) (k := 1) (cP Tryz.underlying30 (by kernel_rfl) uE) (hf 8 _ rfl) (by kernel_rfl)
  obtain ⟨a9, r9, f9⟩ := bz (o := 9) (k := 1) (cP Tryz.underlying24 (by kernel_rfl) i3) (hf 9 _ rfl) (by kernel_rfl)
  obtain ⟨a10, r10, f10⟩ := bz (o := 10) (k := 1) (cP Tryz.underlying24 (by kernel_rfl) i3) (hf 10 _ rfl) (by kernel_rfl)
  exact ⟨⟨a0, a1, a2, a3, a4, a5, a6, a7, a8, a9, a10⟩, (fp.bl 0 1 r0 (fp.bl 1 1 r1 (fp.bl 2 1 r2 (fp.bl 3 1 r3 (fp.bl 4 1 r4 (fp.bl 5 1 r5 (fp.bl 6 1 r6 (fp.bl 7 1 r7 (fp.bl 8 1 r8 (fp.bl 9 1 r9 (fp.bl 10 1 r10 (fp.gn (n := 11) (hl.trans (by kernel_rfl)))))))))))))), f0, f1, f2, f3, f4, f5, f6, f7, f8, f9, f10⟩

set_option maxRecDepth 100000 in
theorem CG (os : Os) (started : os.Started) (H : Type) (enc : TypeId × Value → H) :
    ReturnsInHanded {} Tryz.checked os 5 .any (Rows.fnExactImageBSpec.pre6 enc Tryz.prog Tryz.f5 Rows.fnExactImageBRow.domain false) (Rows.fnExactImageBSpec.post enc Tryz.prog Tryz.f5 false true false false) := by
  refine returnsInHanded_of_change (C := Tryz.checked) zV started (by kernel_rfl) Tryz.func5
    (ChangeSpec.witness6 (enc := enc) (C := Tryz.checked) false ⟨#[], #[.agg #[.int .i64 0, .int .i64 0, .slice none 0 0, .slice none 0 0, .slice none 0 0, .slice none 0 0, .slice none 0 0, .slice none 0 0, .slice none 0 0, .slice none 0 0, .slice none 0 0]], []⟩ 12 (by kernel_rfl) (by kernel_rfl) (by kernel_rfl) (by kernel_rfl)) ?_
  intro W aa args ds gs before hval0 hW _ _
  have hval : ∀ (j : Nat) t v, Tryz.f5.params[j]? = some t → args[j]? = some v → Value.okWide Tryz.prog W .any aa t v := hval0
  have hW' := hW
  obtain ⟨p, q, hA0, hV, _, _, _⟩ := hW'
  have hA : DataW.TrodAll enc Tryz.prog W 0 (fun _ => true) true Tryz.f5.params.toList args.toList ds p := hA0
  clear hA0 hval0
  rw [Tryz.params5] at hA hval
  obtain ⟨v0, d0, rfl, rfl, h0⟩ := trodAll_one hA
  obtain ⟨rfl, _⟩ := trodVars_none hV
  obtain ⟨cs0, rfl, _⟩ : ∃ cs, v0 = .agg cs ∧ cs.size = Tryz.prog.cellsOf 32 := by
    have h := hval 0 32 v0 rfl rfl
    unfold Value.okWide at h
    rw [Tryz.underlying32] at h
    obtain ⟨cs, h1, h2, _⟩ := h
    exact ⟨cs, h1, h2⟩
  obtain ⟨n0, hn0⟩ := h0
  obtain ⟨a0, r0', f0⟩ := sX hn0
  exact AI Aa (by kernel_rfl) rfl rfl Tryz.underlying4 hW rfl rfl rfl (wx (bs := [(true, En.cs a0)]) (my a0) rfl ⟨⟨cs0.toList, r0', by simp⟩, trivial⟩)

theorem an {a b : Bool} (h : a = true) (g : b = true := by as_aux_lemma => kernel_rfl) : (a && b) = true := by rw [h, g]; rfl
set_option maxHeartbeats 20000000 in
set_option maxRecDepth 100000 in
theorem CH : joinedFacts Tryz.pinned.checked.prog 5 Tryz.f5 Rows.fnExactImageBSpec Rows.fnExactImageBRow = true := (an (an (an (an (an (an (an (an (an (an (an (an (an (an (an (an (an (an (an (an (an (an (an (an (an (an (an (an (an (an (by as_aux_lemma => kernel_rfl)))))))))))))))))))))))))))))))
theorem proved : Rows.FnExactImageBSaid :=
  OpenClaim.holds_of_wide 5 Tryz.f5 rfl rfl rfl rfl rfl rfl rfl ⟨rfl, rfl, rfl, rfl, rfl⟩ rfl rfl rfl rfl rfl (by kernel_rfl) Tryz.func5 CH
    (of_decide_eq_true (by kernel_rfl)) (by unfold Func.isWrapper; rw [if_neg (of_decide_eq_false (by kernel_rfl))]; exact ⟨rfl, rfl⟩)
    (fun os started H enc _ => CG os started H enc)
#print axioms proved
end Go.Proofs.YtekcnnngjoonbaaGreat.fnExactImageB
