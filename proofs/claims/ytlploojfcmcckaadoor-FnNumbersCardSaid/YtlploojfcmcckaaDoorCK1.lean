/- Contracts of functions of the program. No conditions beyond those that each states. -/
import Derived.Test.YtlploojfcmcckaaDoorCK0
set_option linter.all false
set_option maxHeartbeats 8000000
set_option maxRecDepth 10000
namespace Go.Proofs.YtlploojfcmcckaaDoor.VM
open Go Go.RowKit Go.Proofs
structure DIns where
 Op : Int
 A : Int
 B : Int
 C : Int
deriving DecidableEq
instance : En DIns := ⟨4, by omega, fun a => [.v (iv a.Op), .v (iv a.A), .v (iv a.B), .v (iv a.C)], fun _ => rfl, fun a => En.fit a.Op ∧ En.fit a.A ∧ En.fit a.B ∧ En.fit a.C, ⟨0, 0, 0, 0⟩⟩
@[go_sem] theorem cs_Ins (a : DIns) : En.cs a = [.v (iv a.Op), .v (iv a.A), .v (iv a.B), .v (iv a.C)] := rfl
end Go.Proofs.YtlploojfcmcckaaDoor.VM
