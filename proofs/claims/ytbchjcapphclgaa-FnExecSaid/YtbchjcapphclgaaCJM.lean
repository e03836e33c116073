/- Contracts of functions of the program. No conditions beyond those that each states. -/
import Derived.Test.YtbchjcapphclgaaCJL
set_option linter.all false
namespace Go.Proofs.Ytbchjcapphclgaa.VM
open Go Go.RowKit Go.Proofs
structure DCpu where
 Pc : Int
 Regs : List Int
deriving DecidableEq
instance : En DCpu := ⟨2, by omega, fun a => [.v (iv a.Pc), tr a.Regs], fun _ => rfl, fun a => En.fit a.Pc ∧ En.fit a.Regs, ⟨0, []⟩⟩
@[go_sem] theorem cs_Cpu (a : DCpu) : En.cs a = [.v (iv a.Pc), tr a.Regs] := rfl
instance : Mk DCpu := { wt := fun a => Mk.wt a.Regs, cnt := fun a => 1 + (Mk.cnt a.Regs), mark := fun a k => ⟨k, Mk.mark a.Regs (k + 1)⟩, cnt_mk := fun a k => by simp [Mk.cnt_mk] }
structure DDid where
 Kind : Int
 Addr : Int
 Val : Int
 Sys : Int
deriving DecidableEq
instance : En DDid := ⟨4, by omega, fun a => [.v (iv a.Kind), .v (iv a.Addr), .v (iv a.Val), .v (iv a.Sys)], fun _ => rfl, fun a => En.fit a.Kind ∧ En.fit a.Addr ∧ En.fit a.Val ∧ En.fit a.Sys, ⟨0, 0, 0, 0⟩⟩
@[go_sem] theorem cs_Did (a : DDid) : En.cs a = [.v (iv a.Kind), .v (iv a.Addr), .v (iv a.Val), .v (iv a.Sys)] := rfl
instance : Mk DDid := { wt := fun _ => 0, cnt := fun a => 1 + 1 + 1 + 1, mark := fun _ k => ⟨k, k + 1, k + 1 + 1, k + 1 + 1 + 1⟩, cnt_mk := fun a k => by simp [Mk.cnt_mk] }
end Go.Proofs.Ytbchjcapphclgaa.VM
