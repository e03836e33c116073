/- The statement FnExactExecSaid: for every input the law returns true, and each argument reads behind the call as it read before. No conditions. -/
import Derived.Test.YtjfojlaoiifppaaExW
import Derived.Test.YtjfojlaoiifppaaRows
import Derived.ProofKit
import Derived.OpenShut
import Derived.ShutString
import Derived.Deep.Slices
set_option linter.all false
namespace Go.Proofs.Ytjfojlaoiifppaa.fnExactExec
open Go.ChangeShapes Go.WideShapes Go.ChangeAt Go.RowKit
open Go.ChangeMaps (open_string shut_string)
open Go.Proofs.Ytjfojlaoiifppaa.VM
theorem ownKnob0 : ownKnob Try.prog.godebug = none := by kernel_rfl
theorem laidOut0 : laidOutB Try.prog = true := by kernel_rfl
theorem rds_Ins87 : Rds Try.prog 87 DIns := fun {H enc w base spare held fuel cs x} h => by
  obtain ⟨hl, n, hf⟩ := rds_parts Try.underlying87 h
  obtain ⟨a0, r0, f0⟩ := rds_part (o := 0) (k := 1) (rds_int Try.underlying3) (hf 0 _ rfl) (by kernel_rfl)
  obtain ⟨a1, r1, f1⟩ := rds_part (o := 1) (k := 1) (rds_int Try.underlying3) (hf 1 _ rfl) (by kernel_rfl)
  obtain ⟨a2, r2, f2⟩ := rds_part (o := 2) (k := 1) (rds_int Try.underlying3) (hf 2 _ rfl) (by kernel_rfl)
  obtain ⟨a3, r3, f3⟩ := rds_part (o := 3) (k := 1) (rds_int Try.underlying3) (hf 3 _ rfl) (by kernel_rfl)
  exact ⟨⟨a0, a1, a2, a3⟩, (RdC.cons_part 0 1 r0 (RdC.cons_part 1 1 r1 (RdC.cons_part 2 1 r2 (RdC.cons_part 3 1 r3 (RdC.end_part (n := 4) (hl.trans (by kernel_rfl))))))), f0, f1, f2, f3⟩
theorem rds_Cpu24 : Rds Try.prog 24 DCpu := fun {H enc w base spare held fuel cs x} h => by
  obtain ⟨hl, n, hf⟩ := rds_parts Try.underlying24 h
  obtain ⟨a0, r0, f0⟩ := rds_part (o := 0) (k := 1) (rds_int Try.underlying3) (hf 0 _ rfl) (by kernel_rfl)
  obtain ⟨a1, r1, f1⟩ := rds_part (o := 1) (k := 1) (rds_slice Try.underlying22 (by kernel_rfl) (rds_int Try.underlying3)) (hf 1 _ rfl) (by kernel_rfl)
  exact ⟨⟨a0, a1⟩, (RdC.cons_part 0 1 r0 (RdC.cons_part 1 1 r1 (RdC.end_part (n := 2) (hl.trans (by kernel_rfl))))), f0, f1⟩

set_option maxRecDepth 100000 in
theorem lifted (os : Os) (started : os.Started) (H : Type) (enc : TypeId × Value → H) :
    ReturnsInHanded {} Try.checked os 12 .any (Rows.fnExactExecSpec.pre6 enc Try.prog Try.f12 Rows.fnExactExecRow.domain false) (Rows.fnExactExecSpec.post enc Try.prog Try.f12 false true false false) := by
  refine returnsInHanded_of_change (C := Try.checked) ownKnob0 started (by kernel_rfl) Try.func12
    (ChangeSpec.witness6 (enc := enc) (C := Try.checked) false ⟨#[], #[.slice none 0 0, .agg #[.int .i64 0, .slice none 0 0], .slice none 0 0], []⟩ 12 (by kernel_rfl) (by kernel_rfl) (by kernel_rfl) (by kernel_rfl)) ?_
  intro W base args ds gs before hval0 hW _ _
  have hval : ∀ (j : Nat) t v, Try.f12.params[j]? = some t → args[j]? = some v → Value.okWide Try.prog W .any base t v := hval0
  have hW' := hW
  obtain ⟨p, q, hA0, hV, _, _, _⟩ := hW'
  have hA : DataW.TrodAll enc Try.prog W 0 (fun _ => true) true Try.f12.params.toList args.toList ds p := hA0
  clear hA0 hval0
  rw [Try.params12] at hA hval
  obtain ⟨v0, vs0, d0, ds0, p0, q0, hargs, rfl, _, h0, r0⟩ := trodAll_cons hA
  obtain ⟨v1, vs1, d1, ds1, p1, q1, rfl, rfl, _, h1, r1⟩ := trodAll_cons r0
  obtain ⟨v2, vs2, d2, ds2, p2, q2, rfl, rfl, _, h2, r2⟩ := trodAll_cons r1
  obtain ⟨rfl, rfl, _⟩ := trodAll_nil r2
  obtain rfl : args = #[v0, v1, v2] := by cases args; simp_all
  obtain ⟨rfl, _⟩ := trodVars_none hV
  obtain ⟨p0', len0, cap0, rfl⟩ := okWide_slice Try.underlying38 (hval 0 38 v0 rfl rfl)
  obtain ⟨n0, hn0⟩ := h0
  obtain ⟨a0, r0', f0⟩ := (rds_slice Try.underlying38 (by kernel_rfl) rds_Ins87) hn0
  obtain ⟨cs1, rfl, _⟩ : ∃ cs, v1 = .agg cs ∧ cs.size = Try.prog.cellsOf 24 := by
    have h := hval 1 24 v1 rfl rfl
    unfold Value.okWide at h
    rw [Try.underlying24] at h
    obtain ⟨cs, h1, h2, _⟩ := h
    exact ⟨cs, h1, h2⟩
  obtain ⟨n1, hn1⟩ := h1
  obtain ⟨a1, r1', f1⟩ := rds_Cpu24 hn1
  obtain ⟨p2', len2, cap2, rfl⟩ := okWide_slice Try.underlying22 (hval 2 22 v2 rfl rfl)
  obtain ⟨n2, hn2⟩ := h2
  obtain ⟨a2, r2', f2⟩ := (rds_slice Try.underlying22 (by kernel_rfl) (rds_int Try.underlying3)) hn2
  exact law_fin laidOut0 (by kernel_rfl) rfl rfl Try.underlying4 hW rfl rfl rfl (law_of_con (bs := [(false, En.cs a0), (true, En.cs a1), (false, En.cs a2)]) (FnExactExec_con a0 a1 a2) rfl ⟨⟨_, r0', rfl, rfl⟩, ⟨cs1.toList, r1', by simp⟩, ⟨_, r2', rfl, rfl⟩, trivial⟩)

theorem proved : Rows.FnExactExecSaid :=
  OpenClaim.holds_of_wide 12 Try.f12 rfl rfl rfl rfl rfl rfl rfl ⟨rfl, rfl, rfl, rfl, rfl⟩ rfl rfl rfl rfl rfl (by kernel_rfl) Try.func12 (by kernel_rfl)
    (of_decide_eq_true (by kernel_rfl)) (by unfold Func.isWrapper; rw [if_neg (of_decide_eq_false (by kernel_rfl))]; exact ⟨rfl, rfl⟩)
    (fun os started H enc _ => lifted os started H enc)
#print axioms proved
end Go.Proofs.Ytjfojlaoiifppaa.fnExactExec
