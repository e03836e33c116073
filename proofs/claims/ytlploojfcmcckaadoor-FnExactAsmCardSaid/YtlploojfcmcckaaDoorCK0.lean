/- Contracts of functions of the program. No conditions beyond those that each states. -/
import Derived.Test.YtlploojfcmcckaaDoorVmD
import Derived.Test.YtlploojfcmcckaaDoorProg
set_option linter.all false
set_option maxHeartbeats 8000000
set_option maxRecDepth 10000
namespace Go.Proofs.YtlploojfcmcckaaDoor.VM
open Go Go.RowKit Go.Proofs
theorem sz3 : Sz Tryd.prog 3 1 := Tryd.sizeOf3
theorem ag3 : Ag Tryd.prog 3 false := Tryd.isAgg3
instance : TyI Tryd.prog 3 [.v (.int .i64 0)] := TyI.mk' (i := Tryd.t3) (by kernel_rfl) (by decide) (by decide) rfl (by decide) ⟨⟨rfl, rfl⟩, trivial⟩
instance : TyI Tryd.prog 5 [.v (.int .u8 0)] := TyI.mk' (i := Tryd.t5) (by kernel_rfl) (by decide) (by decide) rfl (by decide) ⟨⟨rfl, rfl⟩, trivial⟩
theorem sz9 : Sz Tryd.prog 9 1 := Tryd.sizeOf9
theorem ag9 : Ag Tryd.prog 9 false := Tryd.isAgg9
instance : TyI Tryd.prog 9 [.v (.string ⟨#[]⟩)] := TyI.mk' (i := Tryd.t9) (by kernel_rfl) (by decide) (by decide) rfl (by decide) ⟨⟨rfl, rfl⟩, trivial⟩
theorem sz53 : Sz Tryd.prog 53 4 := Tryd.sizeOf53
theorem ag53 : Ag Tryd.prog 53 true := Tryd.isAgg53
instance : TyI Tryd.prog 53 [.v (.int .i64 0), .v (.int .i64 0), .v (.int .i64 0), .v (.int .i64 0)] := TyI.mk' (i := Tryd.t53) (by kernel_rfl) (by decide) (by decide) rfl (by decide) ⟨⟨rfl, rfl⟩, ⟨rfl, rfl⟩, ⟨rfl, rfl⟩, ⟨rfl, rfl⟩, trivial⟩
theorem fl53_0 : Fld Tryd.prog 53 0 0 := Fld.mk' 0 _ Tryd.underlying53 rfl sz3
theorem fl53_1 : Fld Tryd.prog 53 1 1 := Fld.mk' 1 _ Tryd.underlying53 rfl sz3
theorem fl53_2 : Fld Tryd.prog 53 2 2 := Fld.mk' 2 _ Tryd.underlying53 rfl sz3
theorem fl53_3 : Fld Tryd.prog 53 3 3 := Fld.mk' 3 _ Tryd.underlying53 rfl sz3
instance : BdI Tryd.prog 53 [(0, 1), (1, 1), (2, 1), (3, 1)] := ⟨⟨_, Tryd.underlying53, fun w => by simp [Tryd.sizeOf3]⟩⟩
theorem sl27 : Sl Tryd.prog 27 53 := Tryd.underlying27
instance : SlI Tryd.prog 27 53 := ⟨Tryd.underlying27⟩
instance : SlI Tryd.prog 34 5 := ⟨Tryd.underlying34⟩
theorem sl49 : Sl Tryd.prog 49 9 := Tryd.underlying49
instance : SlI Tryd.prog 49 9 := ⟨Tryd.underlying49⟩
theorem sz49 : Sz Tryd.prog 49 1 := Tryd.sizeOf49
theorem sl54 : Sl Tryd.prog 54 3 := Tryd.underlying54
instance : SlI Tryd.prog 54 3 := ⟨Tryd.underlying54⟩
theorem eq53 (x0 : Int) (x1 : Int) (x2 : Int) (x3 : Int) (y0 : Int) (y1 : Int) (y2 : Int) (y3 : Int) (x y : Operand) (w : World) : (do eqGuard .eql 53 x y (.agg [iv x0, iv x1, iv x2, iv x3].toArray) (.agg [iv y0, iv y1, iv y2, iv y3].toArray); binOp .eql 53 (.agg [iv x0, iv x1, iv x2, iv x3].toArray) (.agg [iv y0, iv y1, iv y2, iv y3].toArray)).run Tryd.prog w = .ok (.bool (decide (x0 = y0 ∧ x1 = y1 ∧ x2 = y2 ∧ x3 = y3))) w := by
 have hg : ∀ w, (eqGuard .eql 53 x y (.agg [iv x0, iv x1, iv x2, iv x3].toArray) (.agg [iv y0, iv y1, iv y2, iv y3].toArray)).run Tryd.prog w = .ok () w := by
  intro w
  have : Tryd.prog.eqGuardType Tryd.prog.depth 53 = false := by kernel_rfl
  simp [eqGuard, this]
 have u3 := Tryd.underlying3
 have a3 := Tryd.isAgg3
 have z3 := Tryd.sizeOf3
 have hS : Tryd.prog.underlying 53 = some (.struct (Tryd.prog.fieldsOf 53)) := by kernel_rfl
 have hp : Tryd.prog.stoodInHeld 53 = false := by kernel_rfl
 simp only [Sem.run_bind, hg, Result.andThen]
 rw [run_eql_struct, show (10000 : Nat) = 9999 + 1 from rfl, run_equalIn_agg w 9999 53 _ _ hS hp]
 simp only [Program.fieldsOf, Tryd.underlying53]
 go_simp
 by_cases h0 : x0 = y0 <;> by_cases h1 : x1 = y1 <;> by_cases h2 : x2 = y2 <;> by_cases h3 : x3 = y3 <;> simp [h0, h1, h2, h3]
end Go.Proofs.YtlploojfcmcckaaDoor.VM
