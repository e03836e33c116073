/- Contracts of functions of the program. No conditions beyond those that each states. -/
import Derived.Test.YtfbefcmeghpalaaCM0
set_option linter.all false
namespace Go.Proofs.Ytfbefcmeghpalaa.VM
open Go Go.RowKit Go.Proofs
structure DBuddy where
 Free : List (List Int)
deriving DecidableEq
instance : En DBuddy := ⟨1, by omega, fun a => [tr a.Free], fun _ => rfl, fun a => En.fit a.Free, ⟨[]⟩⟩
@[go_sem] theorem cs_Buddy (a : DBuddy) : En.cs a = [tr a.Free] := rfl
instance : Mk DBuddy := { wt := fun a => Mk.wt a.Free, cnt := fun a => (Mk.cnt a.Free), mark := fun a k => ⟨Mk.mark a.Free (k)⟩, cnt_mk := fun a k => by simp [Mk.cnt_mk] }
end Go.Proofs.Ytfbefcmeghpalaa.VM
