/- Contracts of functions of the program. No conditions beyond those that each states. -/
import Derived.Test.YtbchjcapphclgaaVmE
import Derived.Test.YtbchjcapphclgaaProg
set_option linter.all false
namespace Go.Proofs.Ytbchjcapphclgaa.VM
open Go Go.RowKit Go.Proofs
theorem sz3 : Sz Try.prog 3 1 := Try.sizeOf3
theorem ag3 : Ag Try.prog 3 false := Try.isAgg3
instance : TyI Try.prog 3 [.v (.int .i64 0)] := TyI.mk' (i := Try.t3) (by kernel_rfl) (by decide) (by decide) rfl (by decide) ⟨⟨rfl, rfl⟩, trivial⟩
instance : TyI Try.prog 4 [.v (.bool false)] := TyI.mk' (i := Try.t4) (by kernel_rfl) (by decide) (by decide) rfl (by decide) ⟨⟨rfl, rfl⟩, trivial⟩
theorem sz5 : Sz Try.prog 5 1 := Try.sizeOf5
theorem ag5 : Ag Try.prog 5 false := Try.isAgg5
instance : TyI Try.prog 5 [.v (.int .u8 0)] := TyI.mk' (i := Try.t5) (by kernel_rfl) (by decide) (by decide) rfl (by decide) ⟨⟨rfl, rfl⟩, trivial⟩
theorem sl22 : Sl Try.prog 22 5 := Try.underlying22
instance : SlI Try.prog 22 5 := ⟨Try.underlying22⟩
theorem sz22 : Sz Try.prog 22 1 := Try.sizeOf22
theorem ag22 : Ag Try.prog 22 false := Try.isAgg22
instance : TyI Try.prog 22 [.s 1 0 fun _ _ => .j] := TyI.mk' (i := Try.t22) (by kernel_rfl) (by decide) (by decide) rfl (by decide) ⟨⟨by decide, rfl, rfl⟩, trivial⟩
instance : SlI Try.prog 24 4 := ⟨Try.underlying24⟩
instance : TyI Try.prog 24 [.s 1 0 fun _ _ => .j] := TyI.mk' (i := Try.t24) (by kernel_rfl) (by decide) (by decide) rfl (by decide) ⟨⟨by decide, rfl, rfl⟩, trivial⟩
theorem sz45 : Sz Try.prog 45 4 := Try.sizeOf45
theorem ag45 : Ag Try.prog 45 true := Try.isAgg45
instance : TyI Try.prog 45 [.v (.int .i64 0), .v (.int .i64 0), .v (.int .i64 0), .v (.int .i64 0)] := TyI.mk' (i := Try.t45) (by kernel_rfl) (by decide) (by decide) rfl (by decide) ⟨⟨rfl, rfl⟩, ⟨rfl, rfl⟩, ⟨rfl, rfl⟩, ⟨rfl, rfl⟩, trivial⟩
theorem fl45_0 : Fld Try.prog 45 0 0 := Fld.mk' 0 _ Try.underlying45 rfl sz3
theorem fl45_1 : Fld Try.prog 45 1 1 := Fld.mk' 1 _ Try.underlying45 rfl sz3
theorem fl45_2 : Fld Try.prog 45 2 2 := Fld.mk' 2 _ Try.underlying45 rfl sz3
theorem fl45_3 : Fld Try.prog 45 3 3 := Fld.mk' 3 _ Try.underlying45 rfl sz3
instance : BdI Try.prog 45 [(0, 1), (1, 1), (2, 1), (3, 1)] := ⟨⟨_, Try.underlying45, fun w => by simp [Try.sizeOf3]⟩⟩
theorem sl33 : Sl Try.prog 33 45 := Try.underlying33
instance : SlI Try.prog 33 45 := ⟨Try.underlying33⟩
instance : TyI Try.prog 33 [.s 4 0 fun _ _ => .j] := TyI.mk' (i := Try.t33) (by kernel_rfl) (by decide) (by decide) rfl (by decide) ⟨⟨by decide, rfl, rfl⟩, trivial⟩
theorem sl34 : Sl Try.prog 34 3 := Try.underlying34
instance : SlI Try.prog 34 3 := ⟨Try.underlying34⟩
theorem sz34 : Sz Try.prog 34 1 := Try.sizeOf34
theorem ag34 : Ag Try.prog 34 false := Try.isAgg34
instance : TyI Try.prog 34 [.s 1 0 fun _ _ => .j] := TyI.mk' (i := Try.t34) (by kernel_rfl) (by decide) (by decide) rfl (by decide) ⟨⟨by decide, rfl, rfl⟩, trivial⟩
theorem sz36 : Sz Try.prog 36 2 := Try.sizeOf36
theorem ag36 : Ag Try.prog 36 true := Try.isAgg36
instance : TyI Try.prog 36 [.v (.int .i64 0), .s 1 0 fun _ _ => .j] := TyI.mk' (i := Try.t36) (by kernel_rfl) (by decide) (by decide) rfl (by decide) ⟨⟨rfl, rfl⟩, ⟨by decide, rfl, rfl⟩, trivial⟩
theorem fl36_0 : Fld Try.prog 36 0 0 := Fld.mk' 0 _ Try.underlying36 rfl sz3
theorem fl36_1 : Fld Try.prog 36 1 1 := Fld.mk' 1 _ Try.underlying36 rfl sz34
instance : BdI Try.prog 36 [(0, 1), (1, 1)] := ⟨⟨_, Try.underlying36, fun w => by simp [Try.sizeOf3, Try.sizeOf34]⟩⟩
theorem sz40 : Sz Try.prog 40 4 := Try.sizeOf40
theorem ag40 : Ag Try.prog 40 true := Try.isAgg40
instance : TyI Try.prog 40 [.v (.int .i64 0), .v (.int .i64 0), .v (.int .i64 0), .v (.int .i64 0)] := TyI.mk' (i := Try.t40) (by kernel_rfl) (by decide) (by decide) rfl (by decide) ⟨⟨rfl, rfl⟩, ⟨rfl, rfl⟩, ⟨rfl, rfl⟩, ⟨rfl, rfl⟩, trivial⟩
theorem fl40_0 : Fld Try.prog 40 0 0 := Fld.mk' 0 _ Try.underlying40 rfl sz3
theorem fl40_1 : Fld Try.prog 40 1 1 := Fld.mk' 1 _ Try.underlying40 rfl sz3
theorem fl40_2 : Fld Try.prog 40 2 2 := Fld.mk' 2 _ Try.underlying40 rfl sz3
theorem fl40_3 : Fld Try.prog 40 3 3 := Fld.mk' 3 _ Try.underlying40 rfl sz3
instance : BdI Try.prog 40 [(0, 1), (1, 1), (2, 1), (3, 1)] := ⟨⟨_, Try.underlying40, fun w => by simp [Try.sizeOf3]⟩⟩
instance : TyI Try.prog 47 [.v (.pointer none)] := TyI.mk' (i := Try.t47) (by kernel_rfl) (by decide) (by decide) rfl (by decide) ⟨⟨rfl, rfl⟩, trivial⟩
instance : TyI Try.prog 63 [.s 1 0 fun _ _ => .j, .v (.int .i64 0), .v (.int .i64 0)] := TyI.mk' (i := Try.t63) (by kernel_rfl) (by decide) (by decide) rfl (by decide) ⟨⟨by decide, rfl, rfl⟩, ⟨rfl, rfl⟩, ⟨rfl, rfl⟩, trivial⟩
theorem fl63_0 : Fld Try.prog 63 0 0 := Fld.mk' 0 _ Try.underlying63 rfl sz22
theorem fl63_1 : Fld Try.prog 63 1 1 := Fld.mk' 1 _ Try.underlying63 rfl sz3
theorem fl63_2 : Fld Try.prog 63 2 2 := Fld.mk' 2 _ Try.underlying63 rfl sz3
instance : BdI Try.prog 63 [(0, 1), (1, 1), (2, 1)] := ⟨⟨_, Try.underlying63, fun w => by simp [Try.sizeOf22, Try.sizeOf3]⟩⟩
instance : TyI Try.prog 73 [.v (.int .u64 0)] := TyI.mk' (i := Try.t73) (by kernel_rfl) (by decide) (by decide) rfl (by decide) ⟨⟨rfl, rfl⟩, trivial⟩
end Go.Proofs.Ytbchjcapphclgaa.VM
