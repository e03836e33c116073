/- Contracts. No conditions. -/
import Derived.Test.YtekcnnngjoonbaaGreatCJDP
set_option linter.all false
set_option maxHeartbeats 8000000
set_option maxRecDepth 10000
namespace Go.Proofs.YtekcnnngjoonbaaGreat.VM
open Go Go.RowKit Go.Proofs
def slOf : Value → Option Addr × Nat × Nat
 | .slice a l c => (a, l, c)
 | _ => (none, 0, 0)
def ofProc (p : DProc) (r5 r6 r7 : Value) : CProc := ⟨p.Pid, p.Parent, p.State, p.Prog, p.Cpu.Pc, (slOf r5).1, (slOf r5).2.1, (slOf r5).2.2, (slOf r6).1, (slOf r6).2.1, (slOf r6).2.2, (slOf r7).1, (slOf r7).2.1, (slOf r7).2.2, p.Until, p.Code⟩
theorem sortAllProc_con (l : List DProc) (hl : l.length ≤ 100000000) : Con Tryz.prog 44 [.h base [], .f 45 []] [.rt base .row (tr l)] (RetW (.t []) [] [(base, tr (sortK DProc.Pid l))]) :=
 con_sort DProc.Pid CProc.f0 rfl rfl l (fun V h1 h2 h3 => by
  have hg : ∀ k, k < l.length → ((List.range l.length).map fun k => ofProc (l.getD k En.dflt) (V k 5) (V k 6) (V k 7)).getD k En.dflt = ofProc (l.getD k En.dflt) (V k 5) (V k 6) (V k 7) := fun k hk => by
   rw [List.getD_eq_getElem?_getD, List.getElem?_map, List.getElem?_range hk]
   rfl
  refine ⟨(List.range l.length).map fun k => ofProc (l.getD k En.dflt) (V k 5) (V k 6) (V k 7), by simp, fun k c hk hc => ?_, fun k hk => by rw [hg k hk]; rfl⟩
  rw [hg k hk]
  match c, hc with
  | 0, hc => rw [h2 k 0 _ hk hc rfl]; rfl
  | 1, hc => rw [h2 k 1 _ hk hc rfl]; rfl
  | 2, hc => rw [h2 k 2 _ hk hc rfl]; rfl
  | 3, hc => rw [h2 k 3 _ hk hc rfl]; rfl
  | 4, hc => rw [h2 k 4 _ hk hc rfl]; rfl
  | 5, hc => obtain ⟨a, cap, e⟩ := h3 k 5 _ _ _ hk hc rfl; rw [e]; simp only [ofProc, e]; rfl
  | 6, hc => obtain ⟨a, cap, e⟩ := h3 k 6 _ _ _ hk hc rfl; rw [e]; simp only [ofProc, e]; rfl
  | 7, hc => obtain ⟨a, cap, e⟩ := h3 k 7 _ _ _ hk hc rfl; rw [e]; simp only [ofProc, e]; rfl
  | 8, hc => rw [h2 k 8 _ hk hc rfl]; rfl
  | 9, hc => rw [h2 k 9 _ hk hc rfl]; rfl
  | c + 10, hc => exact absurd hc (by show ¬ c + 10 < 10; omega)) fun lp hlp => sortPNProc_con lp (by omega)
end Go.Proofs.YtekcnnngjoonbaaGreat.VM
