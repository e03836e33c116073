/- Contracts of functions of the program. No conditions beyond those that each states. -/
import Derived.Test.YtbchjcapphclgaaCJA
set_option linter.all false
namespace Go.Proofs.Ytbchjcapphclgaa.VM
open Go Go.RowKit Go.Proofs
end Go.Proofs.Ytbchjcapphclgaa.VM
