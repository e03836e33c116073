/- Contracts of functions of the program. No conditions beyond those that each states. -/
import Derived.Test.YtfbefcmeghpalaaVmE
import Derived.Test.YtfbefcmeghpalaaProg
set_option linter.all false
namespace Go.Proofs.Ytfbefcmeghpalaa.VM
open Go Go.RowKit Go.Proofs
theorem sz3 : Sz Try.prog 3 1 := Try.sizeOf3
theorem ag3 : Ag Try.prog 3 false := Try.isAgg3
instance : TyI Try.prog 3 [.v (.int .i64 0)] := TyI.mk' (i := Try.t3) (by kernel_rfl) (by decide) (by decide) rfl (by decide) ⟨⟨rfl, rfl⟩, trivial⟩
theorem sz4 : Sz Try.prog 4 1 := Try.sizeOf4
theorem ag4 : Ag Try.prog 4 false := Try.isAgg4
instance : TyI Try.prog 4 [.v (.bool false)] := TyI.mk' (i := Try.t4) (by kernel_rfl) (by decide) (by decide) rfl (by decide) ⟨⟨rfl, rfl⟩, trivial⟩
theorem sz5 : Sz Try.prog 5 1 := Try.sizeOf5
theorem ag5 : Ag Try.prog 5 false := Try.isAgg5
instance : TyI Try.prog 5 [.v (.int .u8 0)] := TyI.mk' (i := Try.t5) (by kernel_rfl) (by decide) (by decide) rfl (by decide) ⟨⟨rfl, rfl⟩, trivial⟩
theorem sl22 : Sl Try.prog 22 5 := Try.underlying22
instance : SlI Try.prog 22 5 := ⟨Try.underlying22⟩
theorem sz22 : Sz Try.prog 22 1 := Try.sizeOf22
theorem ag22 : Ag Try.prog 22 false := Try.isAgg22
instance : TyI Try.prog 22 [.s 1 0 fun _ _ => .j] := TyI.mk' (i := Try.t22) (by kernel_rfl) (by decide) (by decide) rfl (by decide) ⟨⟨by decide, rfl, rfl⟩, trivial⟩
theorem sl35 : Sl Try.prog 35 3 := Try.underlying35
instance : SlI Try.prog 35 3 := ⟨Try.underlying35⟩
theorem sz35 : Sz Try.prog 35 1 := Try.sizeOf35
theorem ag35 : Ag Try.prog 35 false := Try.isAgg35
instance : TyI Try.prog 35 [.s 1 0 fun _ _ => .j] := TyI.mk' (i := Try.t35) (by kernel_rfl) (by decide) (by decide) rfl (by decide) ⟨⟨by decide, rfl, rfl⟩, trivial⟩
theorem sl24 : Sl Try.prog 24 35 := Try.underlying24
instance : SlI Try.prog 24 35 := ⟨Try.underlying24⟩
theorem sz24 : Sz Try.prog 24 1 := Try.sizeOf24
theorem ag24 : Ag Try.prog 24 false := Try.isAgg24
instance : TyI Try.prog 24 [.s 1 0 fun _ _ => .j] := TyI.mk' (i := Try.t24) (by kernel_rfl) (by decide) (by decide) rfl (by decide) ⟨⟨by decide, rfl, rfl⟩, trivial⟩
theorem sz26 : Sz Try.prog 26 1 := Try.sizeOf26
theorem ag26 : Ag Try.prog 26 true := Try.isAgg26
instance : TyI Try.prog 26 [.s 1 0 fun _ _ => .j] := TyI.mk' (i := Try.t26) (by kernel_rfl) (by decide) (by decide) rfl (by decide) ⟨⟨by decide, rfl, rfl⟩, trivial⟩
theorem fl26_0 : Fld Try.prog 26 0 0 := Fld.mk' 0 _ Try.underlying26 rfl sz24
instance : BdI Try.prog 26 [(0, 1)] := ⟨⟨_, Try.underlying26, fun w => by simp [Try.sizeOf24]⟩⟩
instance : TyI Try.prog 97 [.s 1 0 fun _ _ => .j, .v (.int .i64 0), .v (.int .i64 0)] := TyI.mk' (i := Try.t97) (by kernel_rfl) (by decide) (by decide) rfl (by decide) ⟨⟨by decide, rfl, rfl⟩, ⟨rfl, rfl⟩, ⟨rfl, rfl⟩, trivial⟩
theorem fl97_0 : Fld Try.prog 97 0 0 := Fld.mk' 0 _ Try.underlying97 rfl sz22
theorem fl97_1 : Fld Try.prog 97 1 1 := Fld.mk' 1 _ Try.underlying97 rfl sz3
theorem fl97_2 : Fld Try.prog 97 2 2 := Fld.mk' 2 _ Try.underlying97 rfl sz3
instance : BdI Try.prog 97 [(0, 1), (1, 1), (2, 1)] := ⟨⟨_, Try.underlying97, fun w => by simp [Try.sizeOf22, Try.sizeOf3]⟩⟩
theorem sl62 : Sl Try.prog 62 4 := Try.underlying62
instance : SlI Try.prog 62 4 := ⟨Try.underlying62⟩
instance : TyI Try.prog 62 [.s 1 0 fun _ _ => .j] := TyI.mk' (i := Try.t62) (by kernel_rfl) (by decide) (by decide) rfl (by decide) ⟨⟨by decide, rfl, rfl⟩, trivial⟩
end Go.Proofs.Ytfbefcmeghpalaa.VM
