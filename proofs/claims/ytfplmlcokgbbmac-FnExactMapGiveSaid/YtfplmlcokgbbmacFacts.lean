/- Two closed facts of the program. No conditions. -/
import Derived.Test.YtfplmlcokgbbmacRows
import Derived.ProofKit
namespace Go.Proofs.Ytfplmlcokgbbmac
theorem Try.ownKnob0 : ownKnob Try.prog.godebug = none := by kernel_rfl
theorem Try.laidOut0 : laidOutB Try.prog = true := by kernel_rfl
end Go.Proofs.Ytfplmlcokgbbmac
