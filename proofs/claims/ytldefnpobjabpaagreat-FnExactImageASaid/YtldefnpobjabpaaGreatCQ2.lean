/- Contracts. No conditions. -/
import Derived.Test.YtldefnpobjabpaaGreatCQ1
import Derived.Test.YtldefnpobjabpaaGreatCQV1
set_option linter.all false
set_option maxHeartbeats 8000000
set_option maxRecDepth 10000
namespace Go.Proofs.YtldefnpobjabpaaGreat.VM
open Go Go.RowKit Go.Proofs
theorem stable_con (l : List PC) (hl : l.length < 20) : Con Tryz.prog 137 [.h base [], .v (iv l.length), .f 50 []] [.rt base .row (tr l)] (RetW (.t []) [] [(base, tr (sortK PC.pid l))]) := by
 refine ob Tryz.func137 Tryz.ntmps137 ?_
 refine go [.R,.a,.Z,.R,.m,.a,.N,.a,.Z] (k := ?_)
 refine AW.seq (AW.block ?_)
 refine AW.loopW (fun q : Unit => [.sl 6 (.v (iv 20)), .sl 7 (.v (iv 0)), .sl 0 (.h base []), .sl 1 (.v (iv l.length)), .sl 2 (.f 50 []), .sl 8 (.v (iv 20)), .rt base .row (tr l)]) (fun q => 0) () (ws) ?_
 intro q
 refine go [.R2,.m,.m,.N,.b,.Z] (k := ?_)
 refine AW.cond rfl (fun c1 => (by exfalso; simp only [cnd] at c1; omega)) (fun c1 => ?_)
 try simp only [cnd] at c1
 refine AW.exit ?_
 dsimp only [thenQ, blockQ, reduceIte]
 refine go [.R,.m,.m,.N,.m,.m] (k := ?_)
 refine sp (Stp.callH rfl (by decide) Tryz.call196 rfl (insSort_con l (by omega)) rfl rfl rfl (nodup_of rfl) rfl rfl) ?_
 refine go [.Z] (k := ?_)
 refine AW.block ?_
 refine AW.loopW (fun i : Unit => [.sl 6 (.v (iv 20)), .sl 1 (.v (iv l.length)), .sl 0 (.h base []), .rt base .row (tr (sortK PC.pid l))]) (fun i => 0) () (ws) ?_
 intro i
 refine go [.R2,.m,.N,.m,.b,.Z] (k := ?_)
 refine AW.cond rfl (fun c2 => (by exfalso; simp only [cnd] at c2; omega)) (fun c2 => ?_)
 try simp only [cnd] at c2
 refine AW.exit ?_
 dsimp only [thenQ, blockQ, reduceIte]
 refine ⟨.inr rfl, [], .nil, ?_⟩
 refine ⟨fun n => n, rfl, fun _ _ => rfl, List.nodup_nil, (by simp), ?_⟩
 intro p hp
 cases List.mem_singleton.1 hp
 exact rootL_mem rfl
theorem sortPC_con (l : List PC) (hl : l.length < 20) : Con Tryz.prog 49 [.h base [], .f 50 []] [.rt base .row (tr l)] (RetW (.t []) [] [(base, tr (sortK PC.pid l))]) := by
 refine ob Tryz.func49 Tryz.ntmps49 ?_
 refine go [.R1,.m,.m,.h,.N,.m] (k := ?_)
 refine sp (Stp.callH rfl (by decide) Tryz.call137 rfl (stable_con l hl) rfl rfl rfl (nodup_of rfl) rfl rfl) ?_
 refine go [.Z] (k := ?_)
 refine ⟨.inr rfl, [], .nil, ?_⟩
 refine ⟨fun n => n, rfl, fun _ _ => rfl, List.nodup_nil, (by simp), ?_⟩
 intro p hp
 cases List.mem_singleton.1 hp
 exact rootL_mem rfl
def slOf : Value → Option Addr × Nat × Nat
 | .slice a l c => (a, l, c)
 | _ => (none, 0, 0)
def pcOf (p : DProc) (r m f : Value) : PC := ⟨p.Pid, p.Parent, p.State, p.Prog, p.Cpu.Pc, (slOf r).1, (slOf r).2.1, (slOf r).2.2, (slOf m).1, (slOf m).2.1, (slOf m).2.2, (slOf f).1, (slOf f).2.1, (slOf f).2.2, p.Until, p.Code⟩
theorem sortProcs_con (l : List DProc) (hl : l.length < 20) : Con Tryz.prog 49 [.h base [], .f 50 []] [.rt base .row (tr l)] (RetW (.t []) [] [(base, tr (sortK DProc.Pid l))]) :=
 con_sort DProc.Pid PC.pid rfl rfl l (fun V h1 h2 h3 => by
  have hg : ∀ k, k < l.length → ((List.range l.length).map fun k => pcOf (l.getD k En.dflt) (V k 5) (V k 6) (V k 7)).getD k En.dflt = pcOf (l.getD k En.dflt) (V k 5) (V k 6) (V k 7) := fun k hk => by
   rw [List.getD_eq_getElem?_getD, List.getElem?_map, List.getElem?_range hk]
   rfl
  refine ⟨(List.range l.length).map fun k => pcOf (l.getD k En.dflt) (V k 5) (V k 6) (V k 7), by simp, fun k c hk hc => ?_, fun k hk => by rw [hg k hk]; rfl⟩
  rw [hg k hk]
  match c, hc with
  | 0, hc => rw [h2 k 0 _ hk hc rfl]; rfl
  | 1, hc => rw [h2 k 1 _ hk hc rfl]; rfl
  | 2, hc => rw [h2 k 2 _ hk hc rfl]; rfl
  | 3, hc => rw [h2 k 3 _ hk hc rfl]; rfl
  | 4, hc => rw [h2 k 4 _ hk hc rfl]; rfl
  | 5, hc => obtain ⟨a, cap, e⟩ := h3 k 5 _ _ _ hk hc rfl; rw [e]; simp only [pcOf, e]; rfl
  | 6, hc => obtain ⟨a, cap, e⟩ := h3 k 6 _ _ _ hk hc rfl; rw [e]; simp only [pcOf, e]; rfl
  | 7, hc => obtain ⟨a, cap, e⟩ := h3 k 7 _ _ _ hk hc rfl; rw [e]; simp only [pcOf, e]; rfl
  | 8, hc => rw [h2 k 8 _ hk hc rfl]; rfl
  | 9, hc => rw [h2 k 9 _ hk hc rfl]; rfl
  | c + 10, hc => exact absurd hc (by show ¬ c + 10 < 10; omega)) fun lp hlp => sortPC_con lp (by omega)
end Go.Proofs.YtldefnpobjabpaaGreat.VM

