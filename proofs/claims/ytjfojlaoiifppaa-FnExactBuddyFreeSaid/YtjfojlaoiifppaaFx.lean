/- Contracts of functions of the program. No conditions beyond those that each states. -/
import Derived.Test.YtjfojlaoiifppaaVmE
import Derived.Test.YtjfojlaoiifppaaProg
set_option linter.all false
namespace Go.Proofs.Ytjfojlaoiifppaa.VM
open Go Go.RowKit Go.Proofs
theorem sz3 : Sz Try.prog 3 1 := Try.sizeOf3
theorem ag3 : Ag Try.prog 3 false := Try.isAgg3
instance : TyI Try.prog 3 [.v (.int .i64 0)] := TyI.mk' (i := Try.t3) (by kernel_rfl) (by decide) (by decide) rfl (by decide) ⟨⟨rfl, rfl⟩, trivial⟩
theorem sz4 : Sz Try.prog 4 1 := Try.sizeOf4
theorem ag4 : Ag Try.prog 4 false := Try.isAgg4
instance : TyI Try.prog 4 [.v (.bool false)] := TyI.mk' (i := Try.t4) (by kernel_rfl) (by decide) (by decide) rfl (by decide) ⟨⟨rfl, rfl⟩, trivial⟩
theorem sl22 : Sl Try.prog 22 3 := Try.underlying22
instance : SlI Try.prog 22 3 := ⟨Try.underlying22⟩
theorem sz22 : Sz Try.prog 22 1 := Try.sizeOf22
theorem ag22 : Ag Try.prog 22 false := Try.isAgg22
instance : TyI Try.prog 22 [.s 1 0 fun _ _ => .j] := TyI.mk' (i := Try.t22) (by kernel_rfl) (by decide) (by decide) rfl (by decide) ⟨⟨by decide, rfl, rfl⟩, trivial⟩
theorem sz24 : Sz Try.prog 24 2 := Try.sizeOf24
theorem ag24 : Ag Try.prog 24 true := Try.isAgg24
instance : TyI Try.prog 24 [.v (.int .i64 0), .s 1 0 fun _ _ => .j] := TyI.mk' (i := Try.t24) (by kernel_rfl) (by decide) (by decide) rfl (by decide) ⟨⟨rfl, rfl⟩, ⟨by decide, rfl, rfl⟩, trivial⟩
theorem fl24_0 : Fld Try.prog 24 0 0 := Fld.mk' 0 _ Try.underlying24 rfl sz3
theorem fl24_1 : Fld Try.prog 24 1 1 := Fld.mk' 1 _ Try.underlying24 rfl sz22
instance : BdI Try.prog 24 [(0, 1), (1, 1)] := ⟨⟨_, Try.underlying24, fun w => by simp [Try.sizeOf22, Try.sizeOf3]⟩⟩
theorem sz27 : Sz Try.prog 27 2 := Try.sizeOf27
theorem ag27 : Ag Try.prog 27 true := Try.isAgg27
instance : TyI Try.prog 27 [.v (.int .i64 0), .s 1 0 fun _ _ => .j] := TyI.mk' (i := Try.t27) (by kernel_rfl) (by decide) (by decide) rfl (by decide) ⟨⟨rfl, rfl⟩, ⟨by decide, rfl, rfl⟩, trivial⟩
theorem fl27_0 : Fld Try.prog 27 0 0 := Fld.mk' 0 _ Try.underlying27 rfl sz3
theorem fl27_1 : Fld Try.prog 27 1 1 := Fld.mk' 1 _ Try.underlying27 rfl sz22
instance : BdI Try.prog 27 [(0, 1), (1, 1)] := ⟨⟨_, Try.underlying27, fun w => by simp [Try.sizeOf22, Try.sizeOf3]⟩⟩
theorem sl31 : Sl Try.prog 31 4 := Try.underlying31
instance : SlI Try.prog 31 4 := ⟨Try.underlying31⟩
theorem sz31 : Sz Try.prog 31 1 := Try.sizeOf31
theorem ag31 : Ag Try.prog 31 false := Try.isAgg31
instance : TyI Try.prog 31 [.s 1 0 fun _ _ => .j] := TyI.mk' (i := Try.t31) (by kernel_rfl) (by decide) (by decide) rfl (by decide) ⟨⟨by decide, rfl, rfl⟩, trivial⟩
theorem sz87 : Sz Try.prog 87 4 := Try.sizeOf87
theorem ag87 : Ag Try.prog 87 true := Try.isAgg87
instance : TyI Try.prog 87 [.v (.int .i64 0), .v (.int .i64 0), .v (.int .i64 0), .v (.int .i64 0)] := TyI.mk' (i := Try.t87) (by kernel_rfl) (by decide) (by decide) rfl (by decide) ⟨⟨rfl, rfl⟩, ⟨rfl, rfl⟩, ⟨rfl, rfl⟩, ⟨rfl, rfl⟩, trivial⟩
theorem fl87_0 : Fld Try.prog 87 0 0 := Fld.mk' 0 _ Try.underlying87 rfl sz3
theorem fl87_1 : Fld Try.prog 87 1 1 := Fld.mk' 1 _ Try.underlying87 rfl sz3
theorem fl87_2 : Fld Try.prog 87 2 2 := Fld.mk' 2 _ Try.underlying87 rfl sz3
theorem fl87_3 : Fld Try.prog 87 3 3 := Fld.mk' 3 _ Try.underlying87 rfl sz3
instance : BdI Try.prog 87 [(0, 1), (1, 1), (2, 1), (3, 1)] := ⟨⟨_, Try.underlying87, fun w => by simp [Try.sizeOf3]⟩⟩
theorem sl38 : Sl Try.prog 38 87 := Try.underlying38
instance : SlI Try.prog 38 87 := ⟨Try.underlying38⟩
theorem sz38 : Sz Try.prog 38 1 := Try.sizeOf38
theorem ag38 : Ag Try.prog 38 false := Try.isAgg38
instance : TyI Try.prog 38 [.s 4 0 fun _ _ => .j] := TyI.mk' (i := Try.t38) (by kernel_rfl) (by decide) (by decide) rfl (by decide) ⟨⟨by decide, rfl, rfl⟩, trivial⟩
theorem sz74 : Sz Try.prog 74 4 := Try.sizeOf74
theorem ag74 : Ag Try.prog 74 true := Try.isAgg74
instance : TyI Try.prog 74 [.v (.int .i64 0), .v (.int .i64 0), .v (.int .i64 0), .v (.int .i64 0)] := TyI.mk' (i := Try.t74) (by kernel_rfl) (by decide) (by decide) rfl (by decide) ⟨⟨rfl, rfl⟩, ⟨rfl, rfl⟩, ⟨rfl, rfl⟩, ⟨rfl, rfl⟩, trivial⟩
theorem fl74_0 : Fld Try.prog 74 0 0 := Fld.mk' 0 _ Try.underlying74 rfl sz3
theorem fl74_1 : Fld Try.prog 74 1 1 := Fld.mk' 1 _ Try.underlying74 rfl sz3
theorem fl74_2 : Fld Try.prog 74 2 2 := Fld.mk' 2 _ Try.underlying74 rfl sz3
theorem fl74_3 : Fld Try.prog 74 3 3 := Fld.mk' 3 _ Try.underlying74 rfl sz3
instance : BdI Try.prog 74 [(0, 1), (1, 1), (2, 1), (3, 1)] := ⟨⟨_, Try.underlying74, fun w => by simp [Try.sizeOf3]⟩⟩
theorem sl41 : Sl Try.prog 41 74 := Try.underlying41
instance : SlI Try.prog 41 74 := ⟨Try.underlying41⟩
theorem sz41 : Sz Try.prog 41 1 := Try.sizeOf41
theorem ag41 : Ag Try.prog 41 false := Try.isAgg41
instance : TyI Try.prog 41 [.s 4 0 fun _ _ => .j] := TyI.mk' (i := Try.t41) (by kernel_rfl) (by decide) (by decide) rfl (by decide) ⟨⟨by decide, rfl, rfl⟩, trivial⟩
theorem sz5 : Sz Try.prog 5 1 := Try.sizeOf5
theorem ag5 : Ag Try.prog 5 false := Try.isAgg5
instance : TyI Try.prog 5 [.v (.int .u8 0)] := TyI.mk' (i := Try.t5) (by kernel_rfl) (by decide) (by decide) rfl (by decide) ⟨⟨rfl, rfl⟩, trivial⟩
theorem sl45 : Sl Try.prog 45 5 := Try.underlying45
instance : SlI Try.prog 45 5 := ⟨Try.underlying45⟩
theorem sz45 : Sz Try.prog 45 1 := Try.sizeOf45
theorem ag45 : Ag Try.prog 45 false := Try.isAgg45
instance : TyI Try.prog 45 [.s 1 0 fun _ _ => .j] := TyI.mk' (i := Try.t45) (by kernel_rfl) (by decide) (by decide) rfl (by decide) ⟨⟨by decide, rfl, rfl⟩, trivial⟩
theorem sl52 : Sl Try.prog 52 22 := Try.underlying52
instance : SlI Try.prog 52 22 := ⟨Try.underlying52⟩
theorem sz52 : Sz Try.prog 52 1 := Try.sizeOf52
theorem ag52 : Ag Try.prog 52 false := Try.isAgg52
instance : TyI Try.prog 52 [.s 1 0 fun _ _ => .j] := TyI.mk' (i := Try.t52) (by kernel_rfl) (by decide) (by decide) rfl (by decide) ⟨⟨by decide, rfl, rfl⟩, trivial⟩
theorem sz54 : Sz Try.prog 54 1 := Try.sizeOf54
theorem ag54 : Ag Try.prog 54 true := Try.isAgg54
instance : TyI Try.prog 54 [.s 1 0 fun _ _ => .j] := TyI.mk' (i := Try.t54) (by kernel_rfl) (by decide) (by decide) rfl (by decide) ⟨⟨by decide, rfl, rfl⟩, trivial⟩
theorem fl54_0 : Fld Try.prog 54 0 0 := Fld.mk' 0 _ Try.underlying54 rfl sz52
instance : BdI Try.prog 54 [(0, 1)] := ⟨⟨_, Try.underlying54, fun w => by simp [Try.sizeOf52]⟩⟩
theorem sz59 : Sz Try.prog 59 1 := Try.sizeOf59
theorem ag59 : Ag Try.prog 59 true := Try.isAgg59
instance : TyI Try.prog 59 [.s 1 0 fun _ _ => .j] := TyI.mk' (i := Try.t59) (by kernel_rfl) (by decide) (by decide) rfl (by decide) ⟨⟨by decide, rfl, rfl⟩, trivial⟩
theorem fl59_0 : Fld Try.prog 59 0 0 := Fld.mk' 0 _ Try.underlying59 rfl sz52
instance : BdI Try.prog 59 [(0, 1)] := ⟨⟨_, Try.underlying59, fun w => by simp [Try.sizeOf52]⟩⟩
theorem sz69 : Sz Try.prog 69 4 := Try.sizeOf69
theorem ag69 : Ag Try.prog 69 true := Try.isAgg69
instance : TyI Try.prog 69 [.v (.int .i64 0), .v (.int .i64 0), .v (.int .i64 0), .v (.int .i64 0)] := TyI.mk' (i := Try.t69) (by kernel_rfl) (by decide) (by decide) rfl (by decide) ⟨⟨rfl, rfl⟩, ⟨rfl, rfl⟩, ⟨rfl, rfl⟩, ⟨rfl, rfl⟩, trivial⟩
theorem fl69_0 : Fld Try.prog 69 0 0 := Fld.mk' 0 _ Try.underlying69 rfl sz3
theorem fl69_1 : Fld Try.prog 69 1 1 := Fld.mk' 1 _ Try.underlying69 rfl sz3
theorem fl69_2 : Fld Try.prog 69 2 2 := Fld.mk' 2 _ Try.underlying69 rfl sz3
theorem fl69_3 : Fld Try.prog 69 3 3 := Fld.mk' 3 _ Try.underlying69 rfl sz3
instance : BdI Try.prog 69 [(0, 1), (1, 1), (2, 1), (3, 1)] := ⟨⟨_, Try.underlying69, fun w => by simp [Try.sizeOf3]⟩⟩
theorem sz9 : Sz Try.prog 9 1 := Try.sizeOf9
theorem ag9 : Ag Try.prog 9 false := Try.isAgg9
instance : TyI Try.prog 9 [.v (.string ⟨#[]⟩)] := TyI.mk' (i := Try.t9) (by kernel_rfl) (by decide) (by decide) rfl (by decide) ⟨⟨rfl, rfl⟩, trivial⟩
theorem eq74 (x0 x1 x2 x3 y0 y1 y2 y3 : Int) (x y : Operand) (w : World) : (do eqGuard .eql 74 x y (.agg [iv x0, iv x1, iv x2, iv x3].toArray) (.agg [iv y0, iv y1, iv y2, iv y3].toArray); binOp .eql 74 (.agg [iv x0, iv x1, iv x2, iv x3].toArray) (.agg [iv y0, iv y1, iv y2, iv y3].toArray)).run Try.prog w = .ok (.bool (decide (x0 = y0 ∧ x1 = y1 ∧ x2 = y2 ∧ x3 = y3))) w := by
  have hg : ∀ w, (eqGuard .eql 74 x y (.agg [iv x0, iv x1, iv x2, iv x3].toArray) (.agg [iv y0, iv y1, iv y2, iv y3].toArray)).run Try.prog w = .ok () w := by
    intro w
    have : Try.prog.eqGuardType Try.prog.depth 74 = false := by kernel_rfl
    simp [eqGuard, this]
  have u3 := Try.underlying3
  have a3 := Try.isAgg3
  have z3 := Try.sizeOf3
  have hS : Try.prog.underlying 74 = some (.struct (Try.prog.fieldsOf 74)) := by kernel_rfl
  have hp : Try.prog.stoodInHeld 74 = false := by kernel_rfl
  simp only [Sem.run_bind, hg, Result.andThen]
  rw [run_eql_struct, show (10000 : Nat) = 9999 + 1 from rfl, run_equalIn_agg w 9999 74 _ _ hS hp]
  simp only [Program.fieldsOf, Try.underlying74]
  go_simp
  by_cases h0 : x0 = y0 <;> by_cases h1 : x1 = y1 <;> by_cases h2 : x2 = y2 <;> by_cases h3 : x3 = y3 <;> simp [h0, h1, h2, h3]
end Go.Proofs.Ytjfojlaoiifppaa.VM
