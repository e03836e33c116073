/- Contracts. No conditions. -/
import Derived.Test.YtekcnnngjoonbaaGreatCJDO
import Derived.Test.YtekcnnngjoonbaaGreatCJEP
set_option linter.all false
set_option maxHeartbeats 8000000
set_option maxRecDepth 10000
namespace Go.Proofs.YtekcnnngjoonbaaGreat.VM
open Go Go.RowKit Go.Proofs
theorem sortAllOpen_con (l : List DOpen) (hl : l.length ≤ 100000000) : Con Tryz.prog 46 [.h base [], .f 47 []] [.rt base .row (tr l)] (RetW (.t []) [] [(base, tr (sortK DOpen.Id l))]) :=
 sortPNOpen_con l hl
end Go.Proofs.YtekcnnngjoonbaaGreat.VM
