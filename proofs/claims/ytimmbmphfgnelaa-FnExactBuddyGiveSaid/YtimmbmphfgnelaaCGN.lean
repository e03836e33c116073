/- Contracts of functions of the program. No conditions beyond those that each states. -/
import Derived.Test.YtimmbmphfgnelaaCGM
import Derived.Test.YtimmbmphfgnelaaCGL
import Derived.Test.YtimmbmphfgnelaaCGK
import Derived.Test.YtimmbmphfgnelaaCGE
set_option linter.all false
namespace Go.Proofs.Ytimmbmphfgnelaa.VM
open Go Go.RowKit Go.Proofs
end Go.Proofs.Ytimmbmphfgnelaa.VM
