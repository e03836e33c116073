/- Contracts. No conditions. -/
import Derived.Test.YtekcnnngjoonbaaGreatCJDF
import Derived.Test.YtekcnnngjoonbaaGreatCJEP
set_option linter.all false
set_option maxHeartbeats 8000000
set_option maxRecDepth 10000
namespace Go.Proofs.YtekcnnngjoonbaaGreat.VM
open Go Go.RowKit Go.Proofs
def ofFile (p : DFile) (r1 : Value) : CFile := ⟨p.Name, (slOf r1).1, (slOf r1).2.1, (slOf r1).2.2⟩
theorem sortAllFile_con (l : List DFile) (hl : l.length ≤ 100000000) : Con Tryz.prog 51 [.h base [], .f 52 []] [.rt base .row (tr l)] (RetW (.t []) [] [(base, tr (sortK DFile.Name l))]) :=
 con_sort DFile.Name CFile.f0 rfl rfl l (fun V h1 h2 h3 => by
  have hg : ∀ k, k < l.length → ((List.range l.length).map fun k => ofFile (l.getD k En.dflt) (V k 1)).getD k En.dflt = ofFile (l.getD k En.dflt) (V k 1) := fun k hk => by
   rw [List.getD_eq_getElem?_getD, List.getElem?_map, List.getElem?_range hk]
   rfl
  refine ⟨(List.range l.length).map fun k => ofFile (l.getD k En.dflt) (V k 1), by simp, fun k c hk hc => ?_, fun k hk => by rw [hg k hk]; rfl⟩
  rw [hg k hk]
  match c, hc with
  | 0, hc => rw [h2 k 0 _ hk hc rfl]; rfl
  | 1, hc => obtain ⟨a, cap, e⟩ := h3 k 1 _ _ _ hk hc rfl; rw [e]; simp only [ofFile, e]; rfl
  | c + 2, hc => exact absurd hc (by show ¬ c + 2 < 2; omega)) fun lp hlp => sortPNFile_con lp (by omega)
end Go.Proofs.YtekcnnngjoonbaaGreat.VM
