/- Contracts. No conditions. -/
import Derived.Test.YtekcnnngjoonbaaGreatCJDK
import Derived.Test.YtekcnnngjoonbaaGreatCJEP
set_option linter.all false
set_option maxHeartbeats 8000000
set_option maxRecDepth 10000
namespace Go.Proofs.YtekcnnngjoonbaaGreat.VM
open Go Go.RowKit Go.Proofs
def ofPipe (p : DPipe) (r1 : Value) : CPipe := ⟨p.Id, (slOf r1).1, (slOf r1).2.1, (slOf r1).2.2⟩
theorem sortAllPipe_con (l : List DPipe) (hl : l.length ≤ 100000000) : Con Tryz.prog 49 [.h base [], .f 50 []] [.rt base .row (tr l)] (RetW (.t []) [] [(base, tr (sortK DPipe.Id l))]) :=
 con_sort DPipe.Id CPipe.f0 rfl rfl l (fun V h1 h2 h3 => by
  have hg : ∀ k, k < l.length → ((List.range l.length).map fun k => ofPipe (l.getD k En.dflt) (V k 1)).getD k En.dflt = ofPipe (l.getD k En.dflt) (V k 1) := fun k hk => by
   rw [List.getD_eq_getElem?_getD, List.getElem?_map, List.getElem?_range hk]
   rfl
  refine ⟨(List.range l.length).map fun k => ofPipe (l.getD k En.dflt) (V k 1), by simp, fun k c hk hc => ?_, fun k hk => by rw [hg k hk]; rfl⟩
  rw [hg k hk]
  match c, hc with
  | 0, hc => rw [h2 k 0 _ hk hc rfl]; rfl
  | 1, hc => obtain ⟨a, cap, e⟩ := h3 k 1 _ _ _ hk hc rfl; rw [e]; simp only [ofPipe, e]; rfl
  | c + 2, hc => exact absurd hc (by show ¬ c + 2 < 2; omega)) fun lp hlp => sortPNPipe_con lp (by omega)
end Go.Proofs.YtekcnnngjoonbaaGreat.VM
