/- The laws' struct Ins is readable. No conditions. -/
import Derived.Test.YtfplmlcokgbbmabRow
import Derived.Test.YtfplmlcokgbbmabIns
namespace Go.Proofs.Ytfplmlcokgbbmab
open Go.RowKit
theorem Try.cellsInt : Try.prog.cellsOf 3 = 1 := by kernel_rfl
theorem Try.cellsLIns : Try.prog.cellsOf 49 = 4 := by kernel_rfl
theorem reads_Ins : Reads Try.prog 49 Ins := fun {H enc w base spare held fuel cs x} h => by
  obtain ⟨hl, n, hf⟩ := reads_parts Try.underlying49 h
  rw [Try.cellsLIns] at hl
  obtain ⟨a0, r0, f0⟩ := reads_part (reads_int Try.underlying3) (hf 0 _ rfl) Try.cellsInt
  obtain ⟨a1, r1, f1⟩ := reads_part (reads_int Try.underlying3) (hf 1 _ rfl) Try.cellsInt
  obtain ⟨a2, r2, f2⟩ := reads_part (reads_int Try.underlying3) (hf 2 _ rfl) Try.cellsInt
  obtain ⟨a3, r3, f3⟩ := reads_part (reads_int Try.underlying3) (hf 3 _ rfl) Try.cellsInt
  match cs, hl, r0, r1, r2, r3 with
  | [c0, c1, c2, c3], _, r0, r1, r2, r3 =>
    refine ⟨⟨a0, a1, a2, a3⟩, ?_, f0, f1, f2, f3⟩
    obtain rfl : c0 = iv a0 := (List.cons.inj r0).1
    obtain rfl : c1 = iv a1 := (List.cons.inj r1).1
    obtain rfl : c2 = iv a2 := (List.cons.inj r2).1
    obtain rfl : c3 = iv a3 := (List.cons.inj r3).1
    rfl
end Go.Proofs.Ytfplmlcokgbbmab
