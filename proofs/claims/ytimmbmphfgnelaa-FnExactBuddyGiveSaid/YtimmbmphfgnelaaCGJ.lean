/- Contracts of functions of the program. No conditions beyond those that each states. -/
import Derived.Test.YtimmbmphfgnelaaCGI
set_option linter.all false
namespace Go.Proofs.Ytimmbmphfgnelaa.VM
open Go Go.RowKit Go.Proofs
end Go.Proofs.Ytimmbmphfgnelaa.VM
