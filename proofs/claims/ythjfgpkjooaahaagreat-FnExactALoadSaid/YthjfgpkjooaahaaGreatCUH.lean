/- Contracts. No conditions. -/
import Derived.Test.YthjfgpkjooaahaaGreatCU5
set_option linter.all false
set_option maxHeartbeats 8000000
set_option maxRecDepth 10000
namespace Go.Proofs.YthjfgpkjooaahaaGreat.VM
/-! what Sound, Stuck and Held say, as plain functions -/
theorem unixOk_procs {u : DUnix} (h : unixOk u = true) : procsOk u = true := by
 simp only [unixOk, Bool.and_eq_true] at h
 exact h.1.1.1.1.2
end Go.Proofs.YthjfgpkjooaahaaGreat.VM
