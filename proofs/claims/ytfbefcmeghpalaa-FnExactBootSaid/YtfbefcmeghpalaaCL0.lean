/- Contracts of functions of the program. No conditions beyond those that each states. -/
import Derived.Test.YtfbefcmeghpalaaVmE
import Derived.Test.YtfbefcmeghpalaaProg
set_option linter.all false
namespace Go.Proofs.Ytfbefcmeghpalaa.VM
open Go Go.RowKit Go.Proofs
theorem sz3 : Sz Try.prog 3 1 := Try.sizeOf3
theorem ag3 : Ag Try.prog 3 false := Try.isAgg3
instance : TyI Try.prog 3 [.v (.int .i64 0)] := TyI.mk' (i := Try.t3) (by kernel_rfl) (by decide) (by decide) rfl (by decide) ⟨⟨rfl, rfl⟩, trivial⟩
instance : TyI Try.prog 4 [.v (.bool false)] := TyI.mk' (i := Try.t4) (by kernel_rfl) (by decide) (by decide) rfl (by decide) ⟨⟨rfl, rfl⟩, trivial⟩
instance : TyI Try.prog 5 [.v (.int .u8 0)] := TyI.mk' (i := Try.t5) (by kernel_rfl) (by decide) (by decide) rfl (by decide) ⟨⟨rfl, rfl⟩, trivial⟩
instance : TyI Try.prog 9 [.v (.string ⟨#[]⟩)] := TyI.mk' (i := Try.t9) (by kernel_rfl) (by decide) (by decide) rfl (by decide) ⟨⟨rfl, rfl⟩, trivial⟩
instance : SlI Try.prog 22 5 := ⟨Try.underlying22⟩
instance : TyI Try.prog 22 [.s 1 0 fun _ _ => .j] := TyI.mk' (i := Try.t22) (by kernel_rfl) (by decide) (by decide) rfl (by decide) ⟨⟨by decide, rfl, rfl⟩, trivial⟩
theorem sl35 : Sl Try.prog 35 3 := Try.underlying35
instance : SlI Try.prog 35 3 := ⟨Try.underlying35⟩
theorem sz35 : Sz Try.prog 35 1 := Try.sizeOf35
theorem ag35 : Ag Try.prog 35 false := Try.isAgg35
instance : TyI Try.prog 35 [.s 1 0 fun _ _ => .j] := TyI.mk' (i := Try.t35) (by kernel_rfl) (by decide) (by decide) rfl (by decide) ⟨⟨by decide, rfl, rfl⟩, trivial⟩
instance : SlI Try.prog 24 35 := ⟨Try.underlying24⟩
instance : TyI Try.prog 24 [.s 1 0 fun _ _ => .j] := TyI.mk' (i := Try.t24) (by kernel_rfl) (by decide) (by decide) rfl (by decide) ⟨⟨by decide, rfl, rfl⟩, trivial⟩
theorem sz107 : Sz Try.prog 107 4 := Try.sizeOf107
theorem ag107 : Ag Try.prog 107 true := Try.isAgg107
instance : TyI Try.prog 107 [.v (.int .i64 0), .v (.int .i64 0), .v (.int .i64 0), .v (.int .i64 0)] := TyI.mk' (i := Try.t107) (by kernel_rfl) (by decide) (by decide) rfl (by decide) ⟨⟨rfl, rfl⟩, ⟨rfl, rfl⟩, ⟨rfl, rfl⟩, ⟨rfl, rfl⟩, trivial⟩
theorem fl107_0 : Fld Try.prog 107 0 0 := Fld.mk' 0 _ Try.underlying107 rfl sz3
theorem fl107_1 : Fld Try.prog 107 1 1 := Fld.mk' 1 _ Try.underlying107 rfl sz3
theorem fl107_2 : Fld Try.prog 107 2 2 := Fld.mk' 2 _ Try.underlying107 rfl sz3
theorem fl107_3 : Fld Try.prog 107 3 3 := Fld.mk' 3 _ Try.underlying107 rfl sz3
instance : BdI Try.prog 107 [(0, 1), (1, 1), (2, 1), (3, 1)] := ⟨⟨_, Try.underlying107, fun w => by simp [Try.sizeOf3]⟩⟩
theorem sl73 : Sl Try.prog 73 107 := Try.underlying73
instance : SlI Try.prog 73 107 := ⟨Try.underlying73⟩
theorem sz73 : Sz Try.prog 73 1 := Try.sizeOf73
theorem ag73 : Ag Try.prog 73 false := Try.isAgg73
instance : TyI Try.prog 73 [.s 4 0 fun _ _ => .j] := TyI.mk' (i := Try.t73) (by kernel_rfl) (by decide) (by decide) rfl (by decide) ⟨⟨by decide, rfl, rfl⟩, trivial⟩
theorem sl39 : Sl Try.prog 39 73 := Try.underlying39
instance : SlI Try.prog 39 73 := ⟨Try.underlying39⟩
theorem sz39 : Sz Try.prog 39 1 := Try.sizeOf39
theorem ag39 : Ag Try.prog 39 false := Try.isAgg39
instance : TyI Try.prog 39 [.s 1 0 fun _ _ => .j] := TyI.mk' (i := Try.t39) (by kernel_rfl) (by decide) (by decide) rfl (by decide) ⟨⟨by decide, rfl, rfl⟩, trivial⟩
theorem sz76 : Sz Try.prog 76 2 := Try.sizeOf76
theorem ag76 : Ag Try.prog 76 true := Try.isAgg76
instance : TyI Try.prog 76 [.v (.int .i64 0), .s 1 0 fun _ _ => .j] := TyI.mk' (i := Try.t76) (by kernel_rfl) (by decide) (by decide) rfl (by decide) ⟨⟨rfl, rfl⟩, ⟨by decide, rfl, rfl⟩, trivial⟩
theorem fl76_0 : Fld Try.prog 76 0 0 := Fld.mk' 0 _ Try.underlying76 rfl sz3
theorem fl76_1 : Fld Try.prog 76 1 1 := Fld.mk' 1 _ Try.underlying76 rfl sz35
instance : BdI Try.prog 76 [(0, 1), (1, 1)] := ⟨⟨_, Try.underlying76, fun w => by simp [Try.sizeOf3, Try.sizeOf35]⟩⟩
theorem sz78 : Sz Try.prog 78 10 := Try.sizeOf78
theorem ag78 : Ag Try.prog 78 true := Try.isAgg78
instance : TyI Try.prog 78 [.v (.int .i64 0), .v (.int .i64 0), .v (.int .i64 0), .v (.int .i64 0), .v (.int .i64 0), .s 1 0 fun _ _ => .j, .s 1 0 fun _ _ => .j, .s 1 0 fun _ _ => .j, .v (.int .i64 0), .v (.int .i64 0)] := TyI.mk' (i := Try.t78) (by kernel_rfl) (by decide) (by decide) rfl (by decide) ⟨⟨rfl, rfl⟩, ⟨rfl, rfl⟩, ⟨rfl, rfl⟩, ⟨rfl, rfl⟩, ⟨rfl, rfl⟩, ⟨by decide, rfl, rfl⟩, ⟨by decide, rfl, rfl⟩, ⟨by decide, rfl, rfl⟩, ⟨rfl, rfl⟩, ⟨rfl, rfl⟩, trivial⟩
theorem fl78_0 : Fld Try.prog 78 0 0 := Fld.mk' 0 _ Try.underlying78 rfl sz3
theorem fl78_1 : Fld Try.prog 78 1 1 := Fld.mk' 1 _ Try.underlying78 rfl sz3
theorem fl78_2 : Fld Try.prog 78 2 2 := Fld.mk' 2 _ Try.underlying78 rfl sz3
theorem fl78_3 : Fld Try.prog 78 3 3 := Fld.mk' 3 _ Try.underlying78 rfl sz3
theorem fl78_4 : Fld Try.prog 78 4 4 := Fld.mk' 4 _ Try.underlying78 rfl sz76
theorem fl78_5 : Fld Try.prog 78 5 6 := Fld.mk' 5 _ Try.underlying78 rfl sz35
theorem fl78_6 : Fld Try.prog 78 6 7 := Fld.mk' 6 _ Try.underlying78 rfl sz35
theorem fl78_7 : Fld Try.prog 78 7 8 := Fld.mk' 7 _ Try.underlying78 rfl sz3
theorem fl78_8 : Fld Try.prog 78 8 9 := Fld.mk' 8 _ Try.underlying78 rfl sz3
instance : BdI Try.prog 78 [(0, 1), (1, 1), (2, 1), (3, 1), (4, 2), (6, 1), (7, 1), (8, 1), (9, 1)] := ⟨⟨_, Try.underlying78, fun w => by simp [Try.sizeOf3, Try.sizeOf35, Try.sizeOf76]⟩⟩
theorem sl40 : Sl Try.prog 40 78 := Try.underlying40
instance : SlI Try.prog 40 78 := ⟨Try.underlying40⟩
theorem sz40 : Sz Try.prog 40 1 := Try.sizeOf40
theorem ag40 : Ag Try.prog 40 false := Try.isAgg40
instance : TyI Try.prog 40 [.s 10 0 fun _ _ => .j] := TyI.mk' (i := Try.t40) (by kernel_rfl) (by decide) (by decide) rfl (by decide) ⟨⟨by decide, rfl, rfl⟩, trivial⟩
theorem sz72 : Sz Try.prog 72 5 := Try.sizeOf72
theorem ag72 : Ag Try.prog 72 true := Try.isAgg72
instance : TyI Try.prog 72 [.v (.int .i64 0), .v (.int .i64 0), .v (.int .i64 0), .v (.int .i64 0), .v (.int .i64 0)] := TyI.mk' (i := Try.t72) (by kernel_rfl) (by decide) (by decide) rfl (by decide) ⟨⟨rfl, rfl⟩, ⟨rfl, rfl⟩, ⟨rfl, rfl⟩, ⟨rfl, rfl⟩, ⟨rfl, rfl⟩, trivial⟩
theorem fl72_0 : Fld Try.prog 72 0 0 := Fld.mk' 0 _ Try.underlying72 rfl sz3
theorem fl72_1 : Fld Try.prog 72 1 1 := Fld.mk' 1 _ Try.underlying72 rfl sz3
theorem fl72_2 : Fld Try.prog 72 2 2 := Fld.mk' 2 _ Try.underlying72 rfl sz3
theorem fl72_3 : Fld Try.prog 72 3 3 := Fld.mk' 3 _ Try.underlying72 rfl sz3
theorem fl72_4 : Fld Try.prog 72 4 4 := Fld.mk' 4 _ Try.underlying72 rfl sz3
instance : BdI Try.prog 72 [(0, 1), (1, 1), (2, 1), (3, 1), (4, 1)] := ⟨⟨_, Try.underlying72, fun w => by simp [Try.sizeOf3]⟩⟩
theorem sl41 : Sl Try.prog 41 72 := Try.underlying41
instance : SlI Try.prog 41 72 := ⟨Try.underlying41⟩
theorem sz41 : Sz Try.prog 41 1 := Try.sizeOf41
theorem ag41 : Ag Try.prog 41 false := Try.isAgg41
instance : TyI Try.prog 41 [.s 5 0 fun _ _ => .j] := TyI.mk' (i := Try.t41) (by kernel_rfl) (by decide) (by decide) rfl (by decide) ⟨⟨by decide, rfl, rfl⟩, trivial⟩
theorem sz119 : Sz Try.prog 119 2 := Try.sizeOf119
theorem ag119 : Ag Try.prog 119 true := Try.isAgg119
instance : TyI Try.prog 119 [.v (.int .i64 0), .s 1 0 fun _ _ => .j] := TyI.mk' (i := Try.t119) (by kernel_rfl) (by decide) (by decide) rfl (by decide) ⟨⟨rfl, rfl⟩, ⟨by decide, rfl, rfl⟩, trivial⟩
theorem fl119_0 : Fld Try.prog 119 0 0 := Fld.mk' 0 _ Try.underlying119 rfl sz3
theorem fl119_1 : Fld Try.prog 119 1 1 := Fld.mk' 1 _ Try.underlying119 rfl sz35
instance : BdI Try.prog 119 [(0, 1), (1, 1)] := ⟨⟨_, Try.underlying119, fun w => by simp [Try.sizeOf3, Try.sizeOf35]⟩⟩
theorem sl42 : Sl Try.prog 42 119 := Try.underlying42
instance : SlI Try.prog 42 119 := ⟨Try.underlying42⟩
theorem sz42 : Sz Try.prog 42 1 := Try.sizeOf42
theorem ag42 : Ag Try.prog 42 false := Try.isAgg42
instance : TyI Try.prog 42 [.s 2 0 fun _ _ => .j] := TyI.mk' (i := Try.t42) (by kernel_rfl) (by decide) (by decide) rfl (by decide) ⟨⟨by decide, rfl, rfl⟩, trivial⟩
theorem sz122 : Sz Try.prog 122 2 := Try.sizeOf122
theorem ag122 : Ag Try.prog 122 true := Try.isAgg122
instance : TyI Try.prog 122 [.v (.int .i64 0), .s 1 0 fun _ _ => .j] := TyI.mk' (i := Try.t122) (by kernel_rfl) (by decide) (by decide) rfl (by decide) ⟨⟨rfl, rfl⟩, ⟨by decide, rfl, rfl⟩, trivial⟩
theorem fl122_0 : Fld Try.prog 122 0 0 := Fld.mk' 0 _ Try.underlying122 rfl sz3
theorem fl122_1 : Fld Try.prog 122 1 1 := Fld.mk' 1 _ Try.underlying122 rfl sz35
instance : BdI Try.prog 122 [(0, 1), (1, 1)] := ⟨⟨_, Try.underlying122, fun w => by simp [Try.sizeOf3, Try.sizeOf35]⟩⟩
theorem sl43 : Sl Try.prog 43 122 := Try.underlying43
instance : SlI Try.prog 43 122 := ⟨Try.underlying43⟩
theorem sz43 : Sz Try.prog 43 1 := Try.sizeOf43
theorem ag43 : Ag Try.prog 43 false := Try.isAgg43
instance : TyI Try.prog 43 [.s 2 0 fun _ _ => .j] := TyI.mk' (i := Try.t43) (by kernel_rfl) (by decide) (by decide) rfl (by decide) ⟨⟨by decide, rfl, rfl⟩, trivial⟩
theorem sz45 : Sz Try.prog 45 9 := Try.sizeOf45
theorem ag45 : Ag Try.prog 45 true := Try.isAgg45
instance : TyI Try.prog 45 [.v (.int .i64 0), .v (.int .i64 0), .s 1 0 fun _ _ => .j, .s 10 0 fun _ _ => .j, .s 5 0 fun _ _ => .j, .s 2 0 fun _ _ => .j, .s 2 0 fun _ _ => .j, .s 1 0 fun _ _ => .j, .s 1 0 fun _ _ => .j] := TyI.mk' (i := Try.t45) (by kernel_rfl) (by decide) (by decide) rfl (by decide) ⟨⟨rfl, rfl⟩, ⟨rfl, rfl⟩, ⟨by decide, rfl, rfl⟩, ⟨by decide, rfl, rfl⟩, ⟨by decide, rfl, rfl⟩, ⟨by decide, rfl, rfl⟩, ⟨by decide, rfl, rfl⟩, ⟨by decide, rfl, rfl⟩, ⟨by decide, rfl, rfl⟩, trivial⟩
theorem fl45_0 : Fld Try.prog 45 0 0 := Fld.mk' 0 _ Try.underlying45 rfl sz3
theorem fl45_1 : Fld Try.prog 45 1 1 := Fld.mk' 1 _ Try.underlying45 rfl sz3
theorem fl45_2 : Fld Try.prog 45 2 2 := Fld.mk' 2 _ Try.underlying45 rfl sz39
theorem fl45_3 : Fld Try.prog 45 3 3 := Fld.mk' 3 _ Try.underlying45 rfl sz40
theorem fl45_4 : Fld Try.prog 45 4 4 := Fld.mk' 4 _ Try.underlying45 rfl sz41
theorem fl45_5 : Fld Try.prog 45 5 5 := Fld.mk' 5 _ Try.underlying45 rfl sz42
theorem fl45_6 : Fld Try.prog 45 6 6 := Fld.mk' 6 _ Try.underlying45 rfl sz43
theorem fl45_7 : Fld Try.prog 45 7 7 := Fld.mk' 7 _ Try.underlying45 rfl sz35
theorem fl45_8 : Fld Try.prog 45 8 8 := Fld.mk' 8 _ Try.underlying45 rfl sz35
instance : BdI Try.prog 45 [(0, 1), (1, 1), (2, 1), (3, 1), (4, 1), (5, 1), (6, 1), (7, 1), (8, 1)] := ⟨⟨_, Try.underlying45, fun w => by simp [Try.sizeOf3, Try.sizeOf35, Try.sizeOf39, Try.sizeOf40, Try.sizeOf41, Try.sizeOf42, Try.sizeOf43]⟩⟩
instance : TyI Try.prog 105 [.v (.int .u64 0)] := TyI.mk' (i := Try.t105) (by kernel_rfl) (by decide) (by decide) rfl (by decide) ⟨⟨rfl, rfl⟩, trivial⟩
instance : TyI Try.prog 135 [.v (.int .u64 0)] := TyI.mk' (i := Try.t135) (by kernel_rfl) (by decide) (by decide) rfl (by decide) ⟨⟨rfl, rfl⟩, trivial⟩
instance : TyI Try.prog 132 [.v (.int .u32 0)] := TyI.mk' (i := Try.t132) (by kernel_rfl) (by decide) (by decide) rfl (by decide) ⟨⟨rfl, rfl⟩, trivial⟩
theorem sz109 : Sz Try.prog 109 4 := Try.sizeOf109
theorem ag109 : Ag Try.prog 109 true := Try.isAgg109
instance : TyI Try.prog 109 [.v (.int .i64 0), .v (.int .i64 0), .v (.int .i64 0), .v (.int .i64 0)] := TyI.mk' (i := Try.t109) (by kernel_rfl) (by decide) (by decide) rfl (by decide) ⟨⟨rfl, rfl⟩, ⟨rfl, rfl⟩, ⟨rfl, rfl⟩, ⟨rfl, rfl⟩, trivial⟩
theorem fl109_0 : Fld Try.prog 109 0 0 := Fld.mk' 0 _ Try.underlying109 rfl sz3
theorem fl109_1 : Fld Try.prog 109 1 1 := Fld.mk' 1 _ Try.underlying109 rfl sz3
theorem fl109_2 : Fld Try.prog 109 2 2 := Fld.mk' 2 _ Try.underlying109 rfl sz3
theorem fl109_3 : Fld Try.prog 109 3 3 := Fld.mk' 3 _ Try.underlying109 rfl sz3
instance : BdI Try.prog 109 [(0, 1), (1, 1), (2, 1), (3, 1)] := ⟨⟨_, Try.underlying109, fun w => by simp [Try.sizeOf3]⟩⟩
theorem sl69 : Sl Try.prog 69 109 := Try.underlying69
instance : SlI Try.prog 69 109 := ⟨Try.underlying69⟩
theorem sz69 : Sz Try.prog 69 1 := Try.sizeOf69
theorem ag69 : Ag Try.prog 69 false := Try.isAgg69
instance : TyI Try.prog 69 [.s 4 0 fun _ _ => .j] := TyI.mk' (i := Try.t69) (by kernel_rfl) (by decide) (by decide) rfl (by decide) ⟨⟨by decide, rfl, rfl⟩, trivial⟩
theorem sl37 : Sl Try.prog 37 69 := Try.underlying37
instance : SlI Try.prog 37 69 := ⟨Try.underlying37⟩
instance : TyI Try.prog 37 [.s 1 0 fun _ _ => .j] := TyI.mk' (i := Try.t37) (by kernel_rfl) (by decide) (by decide) rfl (by decide) ⟨⟨by decide, rfl, rfl⟩, trivial⟩
instance : TyI Try.prog 26 [.s 1 0 fun _ _ => .j] := TyI.mk' (i := Try.t26) (by kernel_rfl) (by decide) (by decide) rfl (by decide) ⟨⟨by decide, rfl, rfl⟩, trivial⟩
instance : BdI Try.prog 26 [(0, 1)] := ⟨⟨_, Try.underlying26, fun w => by simp [Try.sizeOf24]⟩⟩
theorem eq107 (x0 : Int) (x1 : Int) (x2 : Int) (x3 : Int) (y0 : Int) (y1 : Int) (y2 : Int) (y3 : Int) (x y : Operand) (w : World) : (do eqGuard .eql 107 x y (.agg [iv x0, iv x1, iv x2, iv x3].toArray) (.agg [iv y0, iv y1, iv y2, iv y3].toArray); binOp .eql 107 (.agg [iv x0, iv x1, iv x2, iv x3].toArray) (.agg [iv y0, iv y1, iv y2, iv y3].toArray)).run Try.prog w = .ok (.bool (decide (x0 = y0 ∧ x1 = y1 ∧ x2 = y2 ∧ x3 = y3))) w := by
 have hg : ∀ w, (eqGuard .eql 107 x y (.agg [iv x0, iv x1, iv x2, iv x3].toArray) (.agg [iv y0, iv y1, iv y2, iv y3].toArray)).run Try.prog w = .ok () w := by
  intro w
  have : Try.prog.eqGuardType Try.prog.depth 107 = false := by kernel_rfl
  simp [eqGuard, this]
 have u3 := Try.underlying3
 have a3 := Try.isAgg3
 have z3 := Try.sizeOf3
 have hS : Try.prog.underlying 107 = some (.struct (Try.prog.fieldsOf 107)) := by kernel_rfl
 have hp : Try.prog.stoodInHeld 107 = false := by kernel_rfl
 simp only [Sem.run_bind, hg, Result.andThen]
 rw [run_eql_struct, show (10000 : Nat) = 9999 + 1 from rfl, run_equalIn_agg w 9999 107 _ _ hS hp]
 simp only [Program.fieldsOf, Try.underlying107]
 go_simp
 by_cases h0 : x0 = y0 <;> by_cases h1 : x1 = y1 <;> by_cases h2 : x2 = y2 <;> by_cases h3 : x3 = y3 <;> simp [h0, h1, h2, h3]
end Go.Proofs.Ytfbefcmeghpalaa.VM
