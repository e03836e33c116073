/- Contracts of functions of the program. No conditions beyond those that each states. -/
import Derived.Test.YtlploojfcmcckaaDoorCKD
set_option linter.all false
set_option maxHeartbeats 8000000
set_option maxRecDepth 10000
namespace Go.Proofs.YtlploojfcmcckaaDoor.VM
open Go Go.RowKit Go.Proofs
def word (x : Int) : Bool := decide (-1000000 ≤ x) && decide (x ≤ 1000000)
theorem isWord_con (x : Int) : Con Tryd.prog 73 [.v (iv x)] [] (fun y _ => y = .v (.bool (word x))) := by
 refine ob Tryd.func73 Tryd.ntmps73 ?_
 refine sr ?_
 refine qs' ?_
 refine qm ?_
 refine cv Tryd.call40 rfl rfl (in_con _ _ _) ?_
 refine nm ?_
 refine qr 2 ?_
 rfl
theorem isPlace_con (x : Int) : Con Tryd.prog 74 [.v (iv x)] [] (fun y _ => y = .v (.bool (decide (0 ≤ x) && decide (x ≤ 40)))) := by
 refine ob Tryd.func74 Tryd.ntmps74 ?_
 refine sr ?_
 refine qs' ?_
 refine qm ?_
 refine cv Tryd.call40 rfl rfl (in_con _ _ _) ?_
 refine nm ?_
 refine qr 2 ?_
 rfl
end Go.Proofs.YtlploojfcmcckaaDoor.VM
