/- Contracts. No conditions. -/
import Derived.Test.YtekcnnngjoonbaaGreatCJCO
set_option linter.all false
set_option maxHeartbeats 8000000
set_option maxRecDepth 10000
namespace Go.Proofs.YtekcnnngjoonbaaGreat.VM
open Go Go.RowKit Go.Proofs
structure CFile where
 f0 : Int
 f1a : Option Addr
 f1l : Nat
 f1c : Nat
instance : En CFile := ⟨2, by omega, fun a => [.v (iv a.f0), .v (.slice a.f1a a.f1l a.f1c)], fun _ => rfl, fun _ => True, ⟨0, none, 0, 0⟩⟩
@[go_sem] theorem cs_CFile (a : CFile) : En.cs a = [.v (iv a.f0), .v (.slice a.f1a a.f1l a.f1c)] := rfl
theorem cmpFile_con (a b : CFile) : Con Tryz.prog 52 [.g [.v (iv a.f0), .c], .g [.v (iv b.f0), .c]] [] (fun y _ => y = .v (iv (cmpI (CFile.f0 a) (CFile.f0 b)))) := by
 refine ob Tryz.func52 Tryz.ntmps52 ?_
 refine sr ?_
 refine bx ?_
 refine nm ?_
 refine bx ?_
 refine nm ?_
 refine qs' ?_
 refine qq (fA fl96_0) ?_
 refine ql ag3 ?_
 refine nm ?_
 refine qq (fA fl96_0) ?_
 refine ql ag3 ?_
 refine cv Tryz.call48 rfl rfl (compare_con _ _) ?_
 refine nm ?_
 refine qr 4 ?_
 rfl
end Go.Proofs.YtekcnnngjoonbaaGreat.VM
