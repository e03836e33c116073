/- Contracts of functions of the program. No conditions beyond those that each states. -/
import Derived.Test.YtlploojfcmcckaaDoorVmD
import Derived.Test.YtlploojfcmcckaaDoorProg
set_option linter.all false
set_option maxHeartbeats 8000000
set_option maxRecDepth 10000
namespace Go.Proofs.YtlploojfcmcckaaDoor.VM
open Go Go.RowKit Go.Proofs
theorem sz3 : Sz Tryd.prog 3 1 := Tryd.sizeOf3
theorem ag3 : Ag Tryd.prog 3 false := Tryd.isAgg3
instance : TyI Tryd.prog 3 [.v (.int .i64 0)] := TyI.mk' (i := Tryd.t3) (by kernel_rfl) (by decide) (by decide) rfl (by decide) ⟨⟨rfl, rfl⟩, trivial⟩
theorem sz5 : Sz Tryd.prog 5 1 := Tryd.sizeOf5
theorem ag5 : Ag Tryd.prog 5 false := Tryd.isAgg5
instance : TyI Tryd.prog 5 [.v (.int .u8 0)] := TyI.mk' (i := Tryd.t5) (by kernel_rfl) (by decide) (by decide) rfl (by decide) ⟨⟨rfl, rfl⟩, trivial⟩
theorem sl34 : Sl Tryd.prog 34 5 := Tryd.underlying34
instance : SlI Tryd.prog 34 5 := ⟨Tryd.underlying34⟩
theorem sz34 : Sz Tryd.prog 34 1 := Tryd.sizeOf34
theorem ag34 : Ag Tryd.prog 34 false := Tryd.isAgg34
theorem sl54 : Sl Tryd.prog 54 3 := Tryd.underlying54
instance : SlI Tryd.prog 54 3 := ⟨Tryd.underlying54⟩
instance : TyI Tryd.prog 79 [.s 1 0 fun _ _ => .j, .v (.int .i64 0), .v (.int .i64 0)] := TyI.mk' (i := Tryd.t79) (by kernel_rfl) (by decide) (by decide) rfl (by decide) ⟨⟨by decide, rfl, rfl⟩, ⟨rfl, rfl⟩, ⟨rfl, rfl⟩, trivial⟩
theorem fl79_0 : Fld Tryd.prog 79 0 0 := Fld.mk' 0 _ Tryd.underlying79 rfl sz34
theorem fl79_1 : Fld Tryd.prog 79 1 1 := Fld.mk' 1 _ Tryd.underlying79 rfl sz3
theorem fl79_2 : Fld Tryd.prog 79 2 2 := Fld.mk' 2 _ Tryd.underlying79 rfl sz3
instance : BdI Tryd.prog 79 [(0, 1), (1, 1), (2, 1)] := ⟨⟨_, Tryd.underlying79, fun w => by simp [Tryd.sizeOf3, Tryd.sizeOf34]⟩⟩
end Go.Proofs.YtlploojfcmcckaaDoor.VM
