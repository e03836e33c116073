/- Contracts of functions of the program. No conditions beyond those that each states. -/
import Derived.Test.YtimmbmphfgnelaaCGH
import Derived.Test.YtimmbmphfgnelaaCGC
set_option linter.all false
namespace Go.Proofs.Ytimmbmphfgnelaa.VM
open Go Go.RowKit Go.Proofs
theorem set_row {S : List (List Int)} {i : Nat} {y : List Int} {t : T} (ht : t.sim (tr y)) : (T.s 1 S.length (upd (fun k c => (En.cs (S.getD k En.dflt)).getD c .j) i 0 t)).sim (tr (S.set i y)) :=
 set_sim (fun k c hk => by simp only [upd_app, hk, false_and, if_false]) fun c hc => by
  have hc' : c < 1 := hc
  obtain rfl : c = 0 := by omega
  simp only [upd_app, and_self, if_true]
  exact ht
end Go.Proofs.Ytimmbmphfgnelaa.VM
