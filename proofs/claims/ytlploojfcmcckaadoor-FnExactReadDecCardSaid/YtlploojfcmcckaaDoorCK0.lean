/- Contracts of functions of the program. No conditions beyond those that each states. -/
import Derived.Test.YtlploojfcmcckaaDoorVmD
import Derived.Test.YtlploojfcmcckaaDoorProg
set_option linter.all false
namespace Go.Proofs.YtlploojfcmcckaaDoor.VM
open Go Go.RowKit Go.Proofs
instance : TyI Tryd.prog 3 [.v (.int .i64 0)] := TyI.mk' (i := Tryd.t3) (by kernel_rfl) (by decide) (by decide) rfl (by decide) ⟨⟨rfl, rfl⟩, trivial⟩
instance : TyI Tryd.prog 4 [.v (.bool false)] := TyI.mk' (i := Tryd.t4) (by kernel_rfl) (by decide) (by decide) rfl (by decide) ⟨⟨rfl, rfl⟩, trivial⟩
instance : TyI Tryd.prog 5 [.v (.int .u8 0)] := TyI.mk' (i := Tryd.t5) (by kernel_rfl) (by decide) (by decide) rfl (by decide) ⟨⟨rfl, rfl⟩, trivial⟩
instance : TyI Tryd.prog 9 [.v (.string ⟨#[]⟩)] := TyI.mk' (i := Tryd.t9) (by kernel_rfl) (by decide) (by decide) rfl (by decide) ⟨⟨rfl, rfl⟩, trivial⟩
instance : SlI Tryd.prog 34 5 := ⟨Tryd.underlying34⟩
instance : TyI Tryd.prog 34 [.s 1 0 fun _ _ => .j] := TyI.mk' (i := Tryd.t34) (by kernel_rfl) (by decide) (by decide) rfl (by decide) ⟨⟨by decide, rfl, rfl⟩, trivial⟩
end Go.Proofs.YtlploojfcmcckaaDoor.VM
