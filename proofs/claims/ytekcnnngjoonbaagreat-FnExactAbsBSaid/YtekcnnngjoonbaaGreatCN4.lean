/- Contracts. No conditions. -/
import Derived.Test.YtekcnnngjoonbaaGreatCN3
set_option linter.all false
set_option maxHeartbeats 8000000
set_option maxRecDepth 10000
namespace Go.Proofs.YtekcnnngjoonbaaGreat.VM
open Go Go.RowKit Go.Proofs
theorem app_ints {l m : List Int} {n : Nat} {g : Nat → Nat → T} (hn : n = m.length) (hg : ∀ k, k < m.length → g k 0 = .v (iv (m.getD k En.dflt))) : (appT 1 l.length (fun k c => [T.v (iv (l.getD k En.dflt))].getD c .j) n g).sim (tr (l ++ m)) := by
 subst hn
 show T.sim _ (.s 1 (l ++ m).length fun k c => [T.v (iv ((l ++ m).getD k En.dflt))].getD c .j)
 rw [List.length_append]
 refine T.sim_of fun k c hk hc => ?_
 obtain rfl : c = 0 := by omega
 show (if k < l.length then _ else _) = T.v (iv ((l ++ m).getD k En.dflt))
 by_cases h : k < l.length
 ·rw [if_pos h, List.getD_eq_getElem?_getD (l := l ++ m), List.getElem?_append_left h, ← List.getD_eq_getElem?_getD]
  rfl
 ·rw [if_neg h, hg _ (by omega), List.getD_eq_getElem?_getD (l := l ++ m), List.getElem?_append_right (by omega), ← List.getD_eq_getElem?_getD]
theorem app_frW {l ram : List Int} {f : Int} (hr : ram.length = 64) (h0 : 0 ≤ f) (h1 : f ≤ 15) : (appT 1 l.length (fun k c => [T.v (iv (l.getD k En.dflt))].getD c .j) (((f + 1) * 4).toNat - (f * 4).toNat) fun k c => flatT ([T.v (iv (ram.getD ((f * 4).toNat + k) En.dflt))].getD c .j)).sim (tr (l ++ frW ram f)) := by
 have e : (frW ram f).length = 4 := by unfold frW; rw [List.length_take, List.length_drop]; omega
 refine app_ints (by rw [e]; omega) fun k hk => ?_
 rw [e] at hk
 show T.v (iv (ram.getD ((f * 4).toNat + k) En.dflt)) = _
 unfold frW
 rw [List.getD_eq_getElem?_getD (l := List.take _ _), List.getElem?_take_of_lt hk, List.getElem?_drop, ← List.getD_eq_getElem?_getD]
theorem memOf_con (ram fs : List Int) (hr : ram.length = 64) (hf : ∀ k, k < fs.length → 0 ≤ fs.getD k En.dflt ∧ fs.getD k En.dflt ≤ 15) (hl : fs.length ≤ 1048576) : Con Tryz.prog 41 [.h base [], .h (base + 1) []] [.rt base .ro (tr ram), .rt (base + 1) .ro (tr fs)] (Ret (.h 0 []) [(0, .row, tr (memK ram fs fs.length))]) := by
 refine ob Tryz.func41 Tryz.ntmps41 ?_
 refine sr ?_
 refine qs' ?_
 refine qn ?_
 refine sr2 ?_
 refine mn ?_
 refine qh sl24 ?_
 refine qm ?_
 refine nl ?_
 refine AW.block ?_
 refine AW.nilRow 5 18 1 (by omega) rfl rfl (by decide) ?_
 refine AW.loopW (fun i : KInv fs.length => [.sl 10 (.v (iv i.k)), .sl 9 (.v (iv fs.length)), .sl 8 (.h (base + 1) []), .sl 5 (.h 18 []), .rt 18 .row (tr (memK ram fs i.k)), .sl 0 (.h base []), .rt base .ro (tr ram), .rt (base + 1) .ro (tr fs)]) (fun i => fs.length - i.k) ⟨0, Nat.zero_le _⟩ (Weak.sim ⟨rfl, rfl, rfl, rfl, ⟨_, rfl, sim_nil⟩, rfl, Rf rfl, Rf rfl, trivial⟩ rfl rfl) ?_
 intro i
 have hle := i.le
 have hml := memK_len ram fs i.k i.le
 refine sr ?_
 refine qb ?_
 refine nl ?_
 refine AW.seq ?_
 refine cd (fun c1 => ?_) fun c1 => ?_
 ·try simp only [cnd] at c1
  have hfi := hf i.k (by omega)
  have hfw := frW_len ram (fs.getD i.k En.dflt)
  refine jd (AW.seq (AW.block (sr ?_)))
  refine qq (ix sl24 sz3) ?_
  refine nm ?_
  refine ql ag3 ?_
  refine qn ?_
  refine AW.region ?_
  refine mn ?_
  refine qm ?_
  refine qm ?_
  refine sp (Stp.callA rfl (by decide) Tryz.call117 rfl rfl rfl rfl (by omega) (frameWords_con ram _ hr hfi.1 hfi.2)) ?_
  refine nm ?_
  refine sp (by first | exact Stp.appendC rfl (by decide) (by decide) rfl rfl (by omega) | exact Stp.appendM rfl (by decide) (by decide) rfl rfl rfl (by omega)) ?_
  refine nm ?_
  refine qn ?_
  refine AW.region ?_
  refine ba ?_
  refine qm ?_
  refine nl ?_
  refine ⟨⟨i.k + 1, by omega⟩, Weak.sim ⟨st1, rfl, rfl, rfl, ⟨_, rfl, (by rw [memK_next (by omega)]; exact app_frW hr hfi.1 hfi.2)⟩, rfl, Rf rfl, Rf rfl, trivial⟩ rfl rfl, ?_⟩
  show fs.length - (i.k + 1) < fs.length - i.k
  omega
 try simp only [cnd] at c1
 refine AW.exit ?_
 dsimp only [thenQ, blockQ, reduceIte]
 refine sr ?_
 refine mn ?_
 refine qr 4 ?_
 rw [show memK ram fs fs.length = memK ram fs i.k from congrArg (memK ram fs) (by omega)]
 refine ⟨fun _ => 18, rfl, nodup_of rfl, ?_⟩
 intro r hr
 cases List.mem_singleton.1 hr
 exact ⟨by simp, rootL_mem rfl⟩
end Go.Proofs.YtekcnnngjoonbaaGreat.VM
