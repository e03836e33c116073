/- Contracts of functions of the program. No conditions beyond those that each states. -/
import Derived.Test.YtimmbmphfgnelaaGreatCZ0
set_option linter.all false
namespace Go.Proofs.YtimmbmphfgnelaaGreat.VM
open Go Go.RowKit Go.Proofs
instance : TyI Tryz.prog 5 [.v (.int .u8 0)] := TyI.mk' (i := Tryz.t5) (by kernel_rfl) (by decide) (by decide) rfl (by decide) ⟨⟨rfl, rfl⟩, trivial⟩
instance : SlI Tryz.prog 237 5 := ⟨Tryz.underlying237⟩
instance : TyI Tryz.prog 237 [.s 1 0 fun _ _ => .j] := TyI.mk' (i := Tryz.t237) (by kernel_rfl) (by decide) (by decide) rfl (by decide) ⟨⟨by decide, rfl, rfl⟩, trivial⟩
instance : SlI Tryz.prog 122 9 := ⟨Tryz.underlying122⟩
instance : TyI Tryz.prog 122 [.s 1 0 fun _ _ => .j] := TyI.mk' (i := Tryz.t122) (by kernel_rfl) (by decide) (by decide) rfl (by decide) ⟨⟨by decide, rfl, rfl⟩, trivial⟩
end Go.Proofs.YtimmbmphfgnelaaGreat.VM
