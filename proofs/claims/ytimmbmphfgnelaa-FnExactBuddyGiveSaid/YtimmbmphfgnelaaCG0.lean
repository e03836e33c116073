/- Contracts of functions of the program. No conditions beyond those that each states. -/
import Derived.Test.YtimmbmphfgnelaaVmD
import Derived.Test.YtimmbmphfgnelaaProg
set_option linter.all false
namespace Go.Proofs.Ytimmbmphfgnelaa.VM
open Go Go.RowKit Go.Proofs
theorem sz3 : Sz Try.prog 3 1 := Try.sizeOf3
theorem ag3 : Ag Try.prog 3 false := Try.isAgg3
instance : TyI Try.prog 3 [.v (.int .i64 0)] := TyI.mk' (i := Try.t3) (by kernel_rfl) (by decide) (by decide) rfl (by decide) ⟨⟨rfl, rfl⟩, trivial⟩
theorem sz4 : Sz Try.prog 4 1 := Try.sizeOf4
theorem ag4 : Ag Try.prog 4 false := Try.isAgg4
instance : TyI Try.prog 4 [.v (.bool false)] := TyI.mk' (i := Try.t4) (by kernel_rfl) (by decide) (by decide) rfl (by decide) ⟨⟨rfl, rfl⟩, trivial⟩
instance : TyI Try.prog 220 [.v (.int .i64 0), .v (.int .i64 0), .v (.int .i64 0), .v (.int .i64 0)] := TyI.mk' (i := Try.t220) (by kernel_rfl) (by decide) (by decide) rfl (by decide) ⟨⟨rfl, rfl⟩, ⟨rfl, rfl⟩, ⟨rfl, rfl⟩, ⟨rfl, rfl⟩, trivial⟩
instance : BdI Try.prog 220 [(0, 1), (1, 1), (2, 1), (3, 1)] := ⟨⟨_, Try.underlying220, fun w => by simp [Try.sizeOf3]⟩⟩
instance : SlI Try.prog 134 220 := ⟨Try.underlying134⟩
instance : TyI Try.prog 134 [.s 4 0 fun _ _ => .j] := TyI.mk' (i := Try.t134) (by kernel_rfl) (by decide) (by decide) rfl (by decide) ⟨⟨by decide, rfl, rfl⟩, trivial⟩
instance : SlI Try.prog 22 134 := ⟨Try.underlying22⟩
instance : TyI Try.prog 22 [.s 1 0 fun _ _ => .j] := TyI.mk' (i := Try.t22) (by kernel_rfl) (by decide) (by decide) rfl (by decide) ⟨⟨by decide, rfl, rfl⟩, trivial⟩
theorem sl24 : Sl Try.prog 24 3 := Try.underlying24
instance : SlI Try.prog 24 3 := ⟨Try.underlying24⟩
theorem sz24 : Sz Try.prog 24 1 := Try.sizeOf24
theorem ag24 : Ag Try.prog 24 false := Try.isAgg24
instance : TyI Try.prog 24 [.s 1 0 fun _ _ => .j] := TyI.mk' (i := Try.t24) (by kernel_rfl) (by decide) (by decide) rfl (by decide) ⟨⟨by decide, rfl, rfl⟩, trivial⟩
instance : TyI Try.prog 168 [.v (.int .i64 0), .s 1 0 fun _ _ => .j] := TyI.mk' (i := Try.t168) (by kernel_rfl) (by decide) (by decide) rfl (by decide) ⟨⟨rfl, rfl⟩, ⟨by decide, rfl, rfl⟩, trivial⟩
instance : BdI Try.prog 168 [(0, 1), (1, 1)] := ⟨⟨_, Try.underlying168, fun w => by simp [Try.sizeOf24, Try.sizeOf3]⟩⟩
instance : TyI Try.prog 170 [.v (.int .i64 0), .v (.int .i64 0), .v (.int .i64 0), .v (.int .i64 0), .v (.int .i64 0), .s 1 0 fun _ _ => .j, .s 1 0 fun _ _ => .j, .s 1 0 fun _ _ => .j, .v (.int .i64 0), .v (.int .i64 0)] := TyI.mk' (i := Try.t170) (by kernel_rfl) (by decide) (by decide) rfl (by decide) ⟨⟨rfl, rfl⟩, ⟨rfl, rfl⟩, ⟨rfl, rfl⟩, ⟨rfl, rfl⟩, ⟨rfl, rfl⟩, ⟨by decide, rfl, rfl⟩, ⟨by decide, rfl, rfl⟩, ⟨by decide, rfl, rfl⟩, ⟨rfl, rfl⟩, ⟨rfl, rfl⟩, trivial⟩
instance : BdI Try.prog 170 [(0, 1), (1, 1), (2, 1), (3, 1), (4, 2), (6, 1), (7, 1), (8, 1), (9, 1)] := ⟨⟨_, Try.underlying170, fun w => by simp [Try.sizeOf168, Try.sizeOf24, Try.sizeOf3]⟩⟩
instance : SlI Try.prog 23 170 := ⟨Try.underlying23⟩
instance : TyI Try.prog 23 [.s 10 0 fun _ _ => .j] := TyI.mk' (i := Try.t23) (by kernel_rfl) (by decide) (by decide) rfl (by decide) ⟨⟨by decide, rfl, rfl⟩, trivial⟩
theorem sl25 : Sl Try.prog 25 24 := Try.underlying25
instance : SlI Try.prog 25 24 := ⟨Try.underlying25⟩
theorem sz25 : Sz Try.prog 25 1 := Try.sizeOf25
theorem ag25 : Ag Try.prog 25 false := Try.isAgg25
instance : TyI Try.prog 25 [.s 1 0 fun _ _ => .j] := TyI.mk' (i := Try.t25) (by kernel_rfl) (by decide) (by decide) rfl (by decide) ⟨⟨by decide, rfl, rfl⟩, trivial⟩
theorem sz27 : Sz Try.prog 27 1 := Try.sizeOf27
theorem ag27 : Ag Try.prog 27 true := Try.isAgg27
instance : TyI Try.prog 27 [.s 1 0 fun _ _ => .j] := TyI.mk' (i := Try.t27) (by kernel_rfl) (by decide) (by decide) rfl (by decide) ⟨⟨by decide, rfl, rfl⟩, trivial⟩
theorem fl27_0 : Fld Try.prog 27 0 0 := Fld.mk' 0 _ Try.underlying27 rfl sz25
instance : BdI Try.prog 27 [(0, 1)] := ⟨⟨_, Try.underlying27, fun w => by simp [Try.sizeOf25]⟩⟩
instance : TyI Try.prog 178 [.v (.int .i64 0), .v (.int .i64 0), .v (.int .i64 0), .v (.int .i64 0), .v (.int .i64 0)] := TyI.mk' (i := Try.t178) (by kernel_rfl) (by decide) (by decide) rfl (by decide) ⟨⟨rfl, rfl⟩, ⟨rfl, rfl⟩, ⟨rfl, rfl⟩, ⟨rfl, rfl⟩, ⟨rfl, rfl⟩, trivial⟩
instance : BdI Try.prog 178 [(0, 1), (1, 1), (2, 1), (3, 1), (4, 1)] := ⟨⟨_, Try.underlying178, fun w => by simp [Try.sizeOf3]⟩⟩
instance : SlI Try.prog 28 178 := ⟨Try.underlying28⟩
instance : TyI Try.prog 28 [.s 5 0 fun _ _ => .j] := TyI.mk' (i := Try.t28) (by kernel_rfl) (by decide) (by decide) rfl (by decide) ⟨⟨by decide, rfl, rfl⟩, trivial⟩
instance : TyI Try.prog 172 [.v (.int .i64 0), .s 1 0 fun _ _ => .j] := TyI.mk' (i := Try.t172) (by kernel_rfl) (by decide) (by decide) rfl (by decide) ⟨⟨rfl, rfl⟩, ⟨by decide, rfl, rfl⟩, trivial⟩
instance : BdI Try.prog 172 [(0, 1), (1, 1)] := ⟨⟨_, Try.underlying172, fun w => by simp [Try.sizeOf25, Try.sizeOf3]⟩⟩
instance : SlI Try.prog 29 172 := ⟨Try.underlying29⟩
instance : TyI Try.prog 29 [.s 2 0 fun _ _ => .j] := TyI.mk' (i := Try.t29) (by kernel_rfl) (by decide) (by decide) rfl (by decide) ⟨⟨by decide, rfl, rfl⟩, trivial⟩
instance : TyI Try.prog 175 [.v (.int .i64 0), .s 1 0 fun _ _ => .j] := TyI.mk' (i := Try.t175) (by kernel_rfl) (by decide) (by decide) rfl (by decide) ⟨⟨rfl, rfl⟩, ⟨by decide, rfl, rfl⟩, trivial⟩
instance : BdI Try.prog 175 [(0, 1), (1, 1)] := ⟨⟨_, Try.underlying175, fun w => by simp [Try.sizeOf24, Try.sizeOf3]⟩⟩
instance : SlI Try.prog 30 175 := ⟨Try.underlying30⟩
instance : TyI Try.prog 30 [.s 2 0 fun _ _ => .j] := TyI.mk' (i := Try.t30) (by kernel_rfl) (by decide) (by decide) rfl (by decide) ⟨⟨by decide, rfl, rfl⟩, trivial⟩
instance : TyI Try.prog 32 [.v (.int .i64 0), .v (.int .i64 0), .s 1 0 fun _ _ => .j, .s 10 0 fun _ _ => .j, .s 1 0 fun _ _ => .j, .s 1 0 fun _ _ => .j, .s 5 0 fun _ _ => .j, .s 2 0 fun _ _ => .j, .s 2 0 fun _ _ => .j, .s 1 0 fun _ _ => .j, .s 1 0 fun _ _ => .j] := TyI.mk' (i := Try.t32) (by kernel_rfl) (by decide) (by decide) rfl (by decide) ⟨⟨rfl, rfl⟩, ⟨rfl, rfl⟩, ⟨by decide, rfl, rfl⟩, ⟨by decide, rfl, rfl⟩, ⟨by decide, rfl, rfl⟩, ⟨by decide, rfl, rfl⟩, ⟨by decide, rfl, rfl⟩, ⟨by decide, rfl, rfl⟩, ⟨by decide, rfl, rfl⟩, ⟨by decide, rfl, rfl⟩, ⟨by decide, rfl, rfl⟩, trivial⟩
instance : BdI Try.prog 32 [(0, 1), (1, 1), (2, 1), (3, 1), (4, 1), (5, 1), (6, 1), (7, 1), (8, 1), (9, 1), (10, 1)] := ⟨⟨_, Try.underlying32, fun w => by simp [Try.sizeOf22, Try.sizeOf23, Try.sizeOf24, Try.sizeOf27, Try.sizeOf28, Try.sizeOf29, Try.sizeOf3, Try.sizeOf30]⟩⟩
instance : TyI Try.prog 218 [.v (.int .i64 0), .v (.int .i64 0), .v (.int .i64 0), .v (.int .i64 0)] := TyI.mk' (i := Try.t218) (by kernel_rfl) (by decide) (by decide) rfl (by decide) ⟨⟨rfl, rfl⟩, ⟨rfl, rfl⟩, ⟨rfl, rfl⟩, ⟨rfl, rfl⟩, trivial⟩
instance : BdI Try.prog 218 [(0, 1), (1, 1), (2, 1), (3, 1)] := ⟨⟨_, Try.underlying218, fun w => by simp [Try.sizeOf3]⟩⟩
instance : SlI Try.prog 138 218 := ⟨Try.underlying138⟩
instance : TyI Try.prog 138 [.s 4 0 fun _ _ => .j] := TyI.mk' (i := Try.t138) (by kernel_rfl) (by decide) (by decide) rfl (by decide) ⟨⟨by decide, rfl, rfl⟩, trivial⟩
instance : SlI Try.prog 35 138 := ⟨Try.underlying35⟩
instance : TyI Try.prog 35 [.s 1 0 fun _ _ => .j] := TyI.mk' (i := Try.t35) (by kernel_rfl) (by decide) (by decide) rfl (by decide) ⟨⟨by decide, rfl, rfl⟩, trivial⟩
instance : TyI Try.prog 97 [.v (.int .i64 0), .s 1 0 fun _ _ => .j] := TyI.mk' (i := Try.t97) (by kernel_rfl) (by decide) (by decide) rfl (by decide) ⟨⟨rfl, rfl⟩, ⟨by decide, rfl, rfl⟩, trivial⟩
instance : BdI Try.prog 97 [(0, 1), (1, 1)] := ⟨⟨_, Try.underlying97, fun w => by simp [Try.sizeOf24, Try.sizeOf3]⟩⟩
instance : TyI Try.prog 99 [.v (.int .i64 0), .v (.int .i64 0), .v (.int .i64 0), .v (.int .i64 0), .v (.int .i64 0), .s 1 0 fun _ _ => .j, .s 1 0 fun _ _ => .j, .s 1 0 fun _ _ => .j, .v (.int .i64 0), .v (.int .i64 0)] := TyI.mk' (i := Try.t99) (by kernel_rfl) (by decide) (by decide) rfl (by decide) ⟨⟨rfl, rfl⟩, ⟨rfl, rfl⟩, ⟨rfl, rfl⟩, ⟨rfl, rfl⟩, ⟨rfl, rfl⟩, ⟨by decide, rfl, rfl⟩, ⟨by decide, rfl, rfl⟩, ⟨by decide, rfl, rfl⟩, ⟨rfl, rfl⟩, ⟨rfl, rfl⟩, trivial⟩
instance : BdI Try.prog 99 [(0, 1), (1, 1), (2, 1), (3, 1), (4, 2), (6, 1), (7, 1), (8, 1), (9, 1)] := ⟨⟨_, Try.underlying99, fun w => by simp [Try.sizeOf24, Try.sizeOf3, Try.sizeOf97]⟩⟩
instance : SlI Try.prog 36 99 := ⟨Try.underlying36⟩
instance : TyI Try.prog 36 [.s 10 0 fun _ _ => .j] := TyI.mk' (i := Try.t36) (by kernel_rfl) (by decide) (by decide) rfl (by decide) ⟨⟨by decide, rfl, rfl⟩, trivial⟩
theorem sz37 : Sz Try.prog 37 1 := Try.sizeOf37
theorem ag37 : Ag Try.prog 37 true := Try.isAgg37
instance : TyI Try.prog 37 [.s 1 0 fun _ _ => .j] := TyI.mk' (i := Try.t37) (by kernel_rfl) (by decide) (by decide) rfl (by decide) ⟨⟨by decide, rfl, rfl⟩, trivial⟩
theorem fl37_0 : Fld Try.prog 37 0 0 := Fld.mk' 0 _ Try.underlying37 rfl sz25
instance : BdI Try.prog 37 [(0, 1)] := ⟨⟨_, Try.underlying37, fun w => by simp [Try.sizeOf25]⟩⟩
instance : TyI Try.prog 137 [.v (.int .i64 0), .v (.int .i64 0), .v (.int .i64 0), .v (.int .i64 0), .v (.int .i64 0)] := TyI.mk' (i := Try.t137) (by kernel_rfl) (by decide) (by decide) rfl (by decide) ⟨⟨rfl, rfl⟩, ⟨rfl, rfl⟩, ⟨rfl, rfl⟩, ⟨rfl, rfl⟩, ⟨rfl, rfl⟩, trivial⟩
instance : BdI Try.prog 137 [(0, 1), (1, 1), (2, 1), (3, 1), (4, 1)] := ⟨⟨_, Try.underlying137, fun w => by simp [Try.sizeOf3]⟩⟩
instance : SlI Try.prog 38 137 := ⟨Try.underlying38⟩
instance : TyI Try.prog 38 [.s 5 0 fun _ _ => .j] := TyI.mk' (i := Try.t38) (by kernel_rfl) (by decide) (by decide) rfl (by decide) ⟨⟨by decide, rfl, rfl⟩, trivial⟩
instance : TyI Try.prog 101 [.v (.int .i64 0), .s 1 0 fun _ _ => .j] := TyI.mk' (i := Try.t101) (by kernel_rfl) (by decide) (by decide) rfl (by decide) ⟨⟨rfl, rfl⟩, ⟨by decide, rfl, rfl⟩, trivial⟩
instance : BdI Try.prog 101 [(0, 1), (1, 1)] := ⟨⟨_, Try.underlying101, fun w => by simp [Try.sizeOf25, Try.sizeOf3]⟩⟩
instance : SlI Try.prog 39 101 := ⟨Try.underlying39⟩
instance : TyI Try.prog 39 [.s 2 0 fun _ _ => .j] := TyI.mk' (i := Try.t39) (by kernel_rfl) (by decide) (by decide) rfl (by decide) ⟨⟨by decide, rfl, rfl⟩, trivial⟩
instance : TyI Try.prog 180 [.v (.int .i64 0), .s 1 0 fun _ _ => .j] := TyI.mk' (i := Try.t180) (by kernel_rfl) (by decide) (by decide) rfl (by decide) ⟨⟨rfl, rfl⟩, ⟨by decide, rfl, rfl⟩, trivial⟩
instance : BdI Try.prog 180 [(0, 1), (1, 1)] := ⟨⟨_, Try.underlying180, fun w => by simp [Try.sizeOf24, Try.sizeOf3]⟩⟩
instance : SlI Try.prog 40 180 := ⟨Try.underlying40⟩
instance : TyI Try.prog 40 [.s 2 0 fun _ _ => .j] := TyI.mk' (i := Try.t40) (by kernel_rfl) (by decide) (by decide) rfl (by decide) ⟨⟨by decide, rfl, rfl⟩, trivial⟩
instance : TyI Try.prog 42 [.v (.int .i64 0), .v (.int .i64 0), .s 1 0 fun _ _ => .j, .s 10 0 fun _ _ => .j, .s 1 0 fun _ _ => .j, .s 1 0 fun _ _ => .j, .s 5 0 fun _ _ => .j, .s 2 0 fun _ _ => .j, .s 2 0 fun _ _ => .j, .s 1 0 fun _ _ => .j, .s 1 0 fun _ _ => .j] := TyI.mk' (i := Try.t42) (by kernel_rfl) (by decide) (by decide) rfl (by decide) ⟨⟨rfl, rfl⟩, ⟨rfl, rfl⟩, ⟨by decide, rfl, rfl⟩, ⟨by decide, rfl, rfl⟩, ⟨by decide, rfl, rfl⟩, ⟨by decide, rfl, rfl⟩, ⟨by decide, rfl, rfl⟩, ⟨by decide, rfl, rfl⟩, ⟨by decide, rfl, rfl⟩, ⟨by decide, rfl, rfl⟩, ⟨by decide, rfl, rfl⟩, trivial⟩
instance : BdI Try.prog 42 [(0, 1), (1, 1), (2, 1), (3, 1), (4, 1), (5, 1), (6, 1), (7, 1), (8, 1), (9, 1), (10, 1)] := ⟨⟨_, Try.underlying42, fun w => by simp [Try.sizeOf24, Try.sizeOf3, Try.sizeOf35, Try.sizeOf36, Try.sizeOf37, Try.sizeOf38, Try.sizeOf39, Try.sizeOf40]⟩⟩
instance : TyI Try.prog 193 [.v (.bool false), .v (.int .i64 0), .v (.int .i64 0), .v (.int .i64 0), .v (.int .i64 0), .v (.int .i64 0), .v (.int .i64 0), .v (.int .i64 0), .s 1 0 fun _ _ => .j, .s 1 0 fun _ _ => .j, .s 1 0 fun _ _ => .j] := TyI.mk' (i := Try.t193) (by kernel_rfl) (by decide) (by decide) rfl (by decide) ⟨⟨rfl, rfl⟩, ⟨rfl, rfl⟩, ⟨rfl, rfl⟩, ⟨rfl, rfl⟩, ⟨rfl, rfl⟩, ⟨rfl, rfl⟩, ⟨rfl, rfl⟩, ⟨rfl, rfl⟩, ⟨by decide, rfl, rfl⟩, ⟨by decide, rfl, rfl⟩, ⟨by decide, rfl, rfl⟩, trivial⟩
instance : BdI Try.prog 193 [(0, 1), (1, 1), (2, 1), (3, 1), (4, 1), (5, 1), (6, 1), (7, 1), (8, 1), (9, 1), (10, 1)] := ⟨⟨_, Try.underlying193, fun w => by simp [Try.sizeOf24, Try.sizeOf3, Try.sizeOf4]⟩⟩
instance : SlI Try.prog 46 193 := ⟨Try.underlying46⟩
instance : TyI Try.prog 46 [.s 11 0 fun _ _ => .j] := TyI.mk' (i := Try.t46) (by kernel_rfl) (by decide) (by decide) rfl (by decide) ⟨⟨by decide, rfl, rfl⟩, trivial⟩
theorem sl47 : Sl Try.prog 47 4 := Try.underlying47
instance : SlI Try.prog 47 4 := ⟨Try.underlying47⟩
instance : TyI Try.prog 47 [.s 1 0 fun _ _ => .j] := TyI.mk' (i := Try.t47) (by kernel_rfl) (by decide) (by decide) rfl (by decide) ⟨⟨by decide, rfl, rfl⟩, trivial⟩
instance : TyI Try.prog 205 [.v (.bool false), .v (.int .i64 0), .v (.int .i64 0), .v (.int .i64 0), .v (.int .i64 0)] := TyI.mk' (i := Try.t205) (by kernel_rfl) (by decide) (by decide) rfl (by decide) ⟨⟨rfl, rfl⟩, ⟨rfl, rfl⟩, ⟨rfl, rfl⟩, ⟨rfl, rfl⟩, ⟨rfl, rfl⟩, trivial⟩
instance : BdI Try.prog 205 [(0, 1), (1, 1), (2, 1), (3, 1), (4, 1)] := ⟨⟨_, Try.underlying205, fun w => by simp [Try.sizeOf3, Try.sizeOf4]⟩⟩
instance : SlI Try.prog 48 205 := ⟨Try.underlying48⟩
instance : TyI Try.prog 48 [.s 5 0 fun _ _ => .j] := TyI.mk' (i := Try.t48) (by kernel_rfl) (by decide) (by decide) rfl (by decide) ⟨⟨by decide, rfl, rfl⟩, trivial⟩
instance : TyI Try.prog 52 [.v (.bool false), .s 1 0 fun _ _ => .j, .v (.int .i64 0), .v (.int .i64 0)] := TyI.mk' (i := Try.t52) (by kernel_rfl) (by decide) (by decide) rfl (by decide) ⟨⟨rfl, rfl⟩, ⟨by decide, rfl, rfl⟩, ⟨rfl, rfl⟩, ⟨rfl, rfl⟩, trivial⟩
instance : BdI Try.prog 52 [(0, 1), (1, 1), (2, 1), (3, 1)] := ⟨⟨_, Try.underlying52, fun w => by simp [Try.sizeOf24, Try.sizeOf3, Try.sizeOf4]⟩⟩
instance : SlI Try.prog 49 52 := ⟨Try.underlying49⟩
instance : TyI Try.prog 49 [.s 4 0 fun _ _ => .j] := TyI.mk' (i := Try.t49) (by kernel_rfl) (by decide) (by decide) rfl (by decide) ⟨⟨by decide, rfl, rfl⟩, trivial⟩
instance : TyI Try.prog 196 [.v (.bool false), .s 1 0 fun _ _ => .j] := TyI.mk' (i := Try.t196) (by kernel_rfl) (by decide) (by decide) rfl (by decide) ⟨⟨rfl, rfl⟩, ⟨by decide, rfl, rfl⟩, trivial⟩
instance : BdI Try.prog 196 [(0, 1), (1, 1)] := ⟨⟨_, Try.underlying196, fun w => by simp [Try.sizeOf24, Try.sizeOf4]⟩⟩
instance : SlI Try.prog 50 196 := ⟨Try.underlying50⟩
instance : TyI Try.prog 50 [.s 2 0 fun _ _ => .j] := TyI.mk' (i := Try.t50) (by kernel_rfl) (by decide) (by decide) rfl (by decide) ⟨⟨by decide, rfl, rfl⟩, trivial⟩
instance : TyI Try.prog 54 [.v (.int .i64 0), .v (.int .i64 0), .s 1 0 fun _ _ => .j, .s 11 0 fun _ _ => .j, .s 1 0 fun _ _ => .j, .s 1 0 fun _ _ => .j, .s 5 0 fun _ _ => .j, .s 4 0 fun _ _ => .j, .s 2 0 fun _ _ => .j, .v (.bool false), .s 1 0 fun _ _ => .j, .v (.int .i64 0), .v (.int .i64 0), .s 1 0 fun _ _ => .j] := TyI.mk' (i := Try.t54) (by kernel_rfl) (by decide) (by decide) rfl (by decide) ⟨⟨rfl, rfl⟩, ⟨rfl, rfl⟩, ⟨by decide, rfl, rfl⟩, ⟨by decide, rfl, rfl⟩, ⟨by decide, rfl, rfl⟩, ⟨by decide, rfl, rfl⟩, ⟨by decide, rfl, rfl⟩, ⟨by decide, rfl, rfl⟩, ⟨by decide, rfl, rfl⟩, ⟨rfl, rfl⟩, ⟨by decide, rfl, rfl⟩, ⟨rfl, rfl⟩, ⟨rfl, rfl⟩, ⟨by decide, rfl, rfl⟩, trivial⟩
instance : BdI Try.prog 54 [(0, 1), (1, 1), (2, 1), (3, 1), (4, 1), (5, 1), (6, 1), (7, 1), (8, 1), (9, 4), (13, 1)] := ⟨⟨_, Try.underlying54, fun w => by simp [Try.sizeOf22, Try.sizeOf24, Try.sizeOf3, Try.sizeOf46, Try.sizeOf47, Try.sizeOf48, Try.sizeOf49, Try.sizeOf50, Try.sizeOf52]⟩⟩
instance : TyI Try.prog 120 [.v (.bool false), .v (.int .i64 0), .v (.int .i64 0), .v (.int .i64 0), .v (.int .i64 0), .v (.int .i64 0), .v (.int .i64 0), .v (.int .i64 0), .s 1 0 fun _ _ => .j, .s 1 0 fun _ _ => .j, .s 1 0 fun _ _ => .j] := TyI.mk' (i := Try.t120) (by kernel_rfl) (by decide) (by decide) rfl (by decide) ⟨⟨rfl, rfl⟩, ⟨rfl, rfl⟩, ⟨rfl, rfl⟩, ⟨rfl, rfl⟩, ⟨rfl, rfl⟩, ⟨rfl, rfl⟩, ⟨rfl, rfl⟩, ⟨rfl, rfl⟩, ⟨by decide, rfl, rfl⟩, ⟨by decide, rfl, rfl⟩, ⟨by decide, rfl, rfl⟩, trivial⟩
instance : BdI Try.prog 120 [(0, 1), (1, 1), (2, 1), (3, 1), (4, 1), (5, 1), (6, 1), (7, 1), (8, 1), (9, 1), (10, 1)] := ⟨⟨_, Try.underlying120, fun w => by simp [Try.sizeOf24, Try.sizeOf3, Try.sizeOf4]⟩⟩
instance : SlI Try.prog 57 120 := ⟨Try.underlying57⟩
instance : TyI Try.prog 57 [.s 11 0 fun _ _ => .j] := TyI.mk' (i := Try.t57) (by kernel_rfl) (by decide) (by decide) rfl (by decide) ⟨⟨by decide, rfl, rfl⟩, trivial⟩
instance : TyI Try.prog 201 [.v (.bool false), .v (.int .i64 0), .v (.int .i64 0), .v (.int .i64 0), .v (.int .i64 0)] := TyI.mk' (i := Try.t201) (by kernel_rfl) (by decide) (by decide) rfl (by decide) ⟨⟨rfl, rfl⟩, ⟨rfl, rfl⟩, ⟨rfl, rfl⟩, ⟨rfl, rfl⟩, ⟨rfl, rfl⟩, trivial⟩
instance : BdI Try.prog 201 [(0, 1), (1, 1), (2, 1), (3, 1), (4, 1)] := ⟨⟨_, Try.underlying201, fun w => by simp [Try.sizeOf3, Try.sizeOf4]⟩⟩
instance : SlI Try.prog 58 201 := ⟨Try.underlying58⟩
instance : TyI Try.prog 58 [.s 5 0 fun _ _ => .j] := TyI.mk' (i := Try.t58) (by kernel_rfl) (by decide) (by decide) rfl (by decide) ⟨⟨by decide, rfl, rfl⟩, trivial⟩
instance : TyI Try.prog 61 [.v (.bool false), .s 1 0 fun _ _ => .j, .v (.int .i64 0), .v (.int .i64 0)] := TyI.mk' (i := Try.t61) (by kernel_rfl) (by decide) (by decide) rfl (by decide) ⟨⟨rfl, rfl⟩, ⟨by decide, rfl, rfl⟩, ⟨rfl, rfl⟩, ⟨rfl, rfl⟩, trivial⟩
instance : BdI Try.prog 61 [(0, 1), (1, 1), (2, 1), (3, 1)] := ⟨⟨_, Try.underlying61, fun w => by simp [Try.sizeOf24, Try.sizeOf3, Try.sizeOf4]⟩⟩
instance : SlI Try.prog 59 61 := ⟨Try.underlying59⟩
instance : TyI Try.prog 59 [.s 4 0 fun _ _ => .j] := TyI.mk' (i := Try.t59) (by kernel_rfl) (by decide) (by decide) rfl (by decide) ⟨⟨by decide, rfl, rfl⟩, trivial⟩
instance : TyI Try.prog 202 [.v (.bool false), .s 1 0 fun _ _ => .j] := TyI.mk' (i := Try.t202) (by kernel_rfl) (by decide) (by decide) rfl (by decide) ⟨⟨rfl, rfl⟩, ⟨by decide, rfl, rfl⟩, trivial⟩
instance : BdI Try.prog 202 [(0, 1), (1, 1)] := ⟨⟨_, Try.underlying202, fun w => by simp [Try.sizeOf24, Try.sizeOf4]⟩⟩
instance : SlI Try.prog 60 202 := ⟨Try.underlying60⟩
instance : TyI Try.prog 60 [.s 2 0 fun _ _ => .j] := TyI.mk' (i := Try.t60) (by kernel_rfl) (by decide) (by decide) rfl (by decide) ⟨⟨by decide, rfl, rfl⟩, trivial⟩
instance : TyI Try.prog 63 [.v (.int .i64 0), .v (.int .i64 0), .s 1 0 fun _ _ => .j, .s 11 0 fun _ _ => .j, .s 1 0 fun _ _ => .j, .s 1 0 fun _ _ => .j, .s 5 0 fun _ _ => .j, .s 4 0 fun _ _ => .j, .s 2 0 fun _ _ => .j, .v (.bool false), .s 1 0 fun _ _ => .j, .v (.int .i64 0), .v (.int .i64 0), .s 1 0 fun _ _ => .j] := TyI.mk' (i := Try.t63) (by kernel_rfl) (by decide) (by decide) rfl (by decide) ⟨⟨rfl, rfl⟩, ⟨rfl, rfl⟩, ⟨by decide, rfl, rfl⟩, ⟨by decide, rfl, rfl⟩, ⟨by decide, rfl, rfl⟩, ⟨by decide, rfl, rfl⟩, ⟨by decide, rfl, rfl⟩, ⟨by decide, rfl, rfl⟩, ⟨by decide, rfl, rfl⟩, ⟨rfl, rfl⟩, ⟨by decide, rfl, rfl⟩, ⟨rfl, rfl⟩, ⟨rfl, rfl⟩, ⟨by decide, rfl, rfl⟩, trivial⟩
instance : BdI Try.prog 63 [(0, 1), (1, 1), (2, 1), (3, 1), (4, 1), (5, 1), (6, 1), (7, 1), (8, 1), (9, 4), (13, 1)] := ⟨⟨_, Try.underlying63, fun w => by simp [Try.sizeOf24, Try.sizeOf3, Try.sizeOf35, Try.sizeOf47, Try.sizeOf57, Try.sizeOf58, Try.sizeOf59, Try.sizeOf60, Try.sizeOf61]⟩⟩
instance : TyI Try.prog 141 [.v (.int .i64 0), .v (.int .i64 0), .v (.int .i64 0), .v (.int .i64 0), .v (.int .i64 0), .s 1 0 fun _ _ => .j, .s 1 0 fun _ _ => .j, .s 1 0 fun _ _ => .j, .v (.int .i64 0), .v (.int .i64 0)] := TyI.mk' (i := Try.t141) (by kernel_rfl) (by decide) (by decide) rfl (by decide) ⟨⟨rfl, rfl⟩, ⟨rfl, rfl⟩, ⟨rfl, rfl⟩, ⟨rfl, rfl⟩, ⟨rfl, rfl⟩, ⟨by decide, rfl, rfl⟩, ⟨by decide, rfl, rfl⟩, ⟨by decide, rfl, rfl⟩, ⟨rfl, rfl⟩, ⟨rfl, rfl⟩, trivial⟩
instance : BdI Try.prog 141 [(0, 1), (1, 1), (2, 1), (3, 1), (4, 2), (6, 1), (7, 1), (8, 1), (9, 1)] := ⟨⟨_, Try.underlying141, fun w => by simp [Try.sizeOf24, Try.sizeOf3, Try.sizeOf97]⟩⟩
instance : SlI Try.prog 68 141 := ⟨Try.underlying68⟩
instance : TyI Try.prog 68 [.s 10 0 fun _ _ => .j] := TyI.mk' (i := Try.t68) (by kernel_rfl) (by decide) (by decide) rfl (by decide) ⟨⟨by decide, rfl, rfl⟩, trivial⟩
instance : TyI Try.prog 229 [.v (.int .i64 0), .s 1 0 fun _ _ => .j] := TyI.mk' (i := Try.t229) (by kernel_rfl) (by decide) (by decide) rfl (by decide) ⟨⟨rfl, rfl⟩, ⟨by decide, rfl, rfl⟩, trivial⟩
instance : BdI Try.prog 229 [(0, 1), (1, 1)] := ⟨⟨_, Try.underlying229, fun w => by simp [Try.sizeOf24, Try.sizeOf3]⟩⟩
instance : SlI Try.prog 69 229 := ⟨Try.underlying69⟩
instance : TyI Try.prog 69 [.s 2 0 fun _ _ => .j] := TyI.mk' (i := Try.t69) (by kernel_rfl) (by decide) (by decide) rfl (by decide) ⟨⟨by decide, rfl, rfl⟩, trivial⟩
instance : TyI Try.prog 71 [.v (.int .i64 0), .v (.int .i64 0), .s 1 0 fun _ _ => .j, .s 10 0 fun _ _ => .j, .s 5 0 fun _ _ => .j, .s 2 0 fun _ _ => .j, .s 2 0 fun _ _ => .j, .s 1 0 fun _ _ => .j, .s 1 0 fun _ _ => .j] := TyI.mk' (i := Try.t71) (by kernel_rfl) (by decide) (by decide) rfl (by decide) ⟨⟨rfl, rfl⟩, ⟨rfl, rfl⟩, ⟨by decide, rfl, rfl⟩, ⟨by decide, rfl, rfl⟩, ⟨by decide, rfl, rfl⟩, ⟨by decide, rfl, rfl⟩, ⟨by decide, rfl, rfl⟩, ⟨by decide, rfl, rfl⟩, ⟨by decide, rfl, rfl⟩, trivial⟩
instance : BdI Try.prog 71 [(0, 1), (1, 1), (2, 1), (3, 1), (4, 1), (5, 1), (6, 1), (7, 1), (8, 1)] := ⟨⟨_, Try.underlying71, fun w => by simp [Try.sizeOf24, Try.sizeOf3, Try.sizeOf35, Try.sizeOf38, Try.sizeOf40, Try.sizeOf68, Try.sizeOf69]⟩⟩
end Go.Proofs.Ytimmbmphfgnelaa.VM
