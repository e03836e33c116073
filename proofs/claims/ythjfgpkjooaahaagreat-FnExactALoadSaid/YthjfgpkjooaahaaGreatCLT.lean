/- Contracts. No conditions. -/
import Derived.Test.YthjfgpkjooaahaaGreatCLB
import Derived.Test.YthjfgpkjooaahaaGreatCLM
import Derived.Test.YthjfgpkjooaahaaGreatCLG
import Derived.Test.YthjfgpkjooaahaaGreatVmD
set_option linter.all false
set_option maxHeartbeats 8000000
set_option maxRecDepth 10000
namespace Go.Proofs.YthjfgpkjooaahaaGreat.VM
open Go Go.RowKit Go.Proofs
theorem scA_sim {n : Nat} {f : Nat → Nat → T} {l : List T} (h : ∀ c, c < n → (f 0 c).sim (l.getD c .j)) : (T.s n 1 f).sim (T.s n 1 fun _ c => l.getD c .j) := by
 refine ⟨_, rfl, fun k c hk hc => ?_⟩
 obtain rfl : k = 0 := by omega
 exact h c hc
theorem MapTakeA_con (l : List Bool) (t : Nat) (h : l = mapA t) (ht : t < 16) : Con Tryz.prog 166 [.h base []] [.rt base .ro (tr l)] (Ret (.t [.h 0 [], .v (iv (t : Nat))]) [(0, .row, tr (mapA (t + 1)))]) := by
 have hc := MapTakeI_con l
 rwa [show mapTake l = (mapA (t + 1), (t : Int)) from by rw [h, mapTake, if_pos (mapA_len (by omega)), takeL_mapA ht, mapA_ix ht]] at hc
theorem ram_get {ws : List Int} {k : Nat} : (ramA ws).getD k 0 = if k < ws.length then ws.getD k 0 else 0 := by
 unfold ramA
 rw [List.getD_eq_getElem?_getD, List.getElem?_append]
 split
 ·rw [List.getD_eq_getElem?_getD]
 ·rw [List.getElem?_replicate]; split <;> rfl
theorem copy_sim {r ws w : List Int} {t lo m : Nat} (hr : r = ramA ws) (hl : ws.length = 4 * t) (hw : w.length = 4) (hlo : lo = 4 * t) (hm : m = 4) (ht : t < 16) : (copyT 1 r.length lo m (fun k c => (En.cs (r.getD k En.dflt)).getD c .j) (fun k c => (En.cs (w.getD k En.dflt)).getD c .j)).sim (tr (ramA (ws ++ w))) := by
 subst hr hlo hm
 refine ⟨fun k c => (En.cs ((ramA (ws ++ w)).getD k En.dflt)).getD c .j, by show tr _ = _; simp only [tr, ramA_len (ws := ws) (by omega), ramA_len (ws := ws ++ w) (by rw [List.length_append]; omega)]; rfl, fun k c hk hc => ?_⟩
 obtain rfl : c = 0 := by omega
 show T.sim (if 4 * t ≤ k ∧ k < 4 * t + 4 then flatT (T.v (iv (w.getD (k - 4 * t) 0))) else T.v (iv ((ramA ws).getD k 0))) (T.v (iv ((ramA (ws ++ w)).getD k 0)))
 rw [ram_get, ram_get, List.length_append]
 by_cases h : 4 * t ≤ k ∧ k < 4 * t + 4
 ·rw [if_pos h, if_pos (by omega)]
  show T.sim (T.v (iv (w.getD (k - 4 * t) 0))) _
  rw [show (ws ++ w).getD k 0 = w.getD (k - 4 * t) 0 from by rw [List.getD_eq_getElem?_getD, List.getElem?_append_right (by omega), hl, List.getD_eq_getElem?_getD]]
  exact tsr
 ·rw [if_neg h]
  by_cases h2 : k < 4 * t
  ·rw [if_pos (by omega), if_pos (by omega), show (ws ++ w).getD k 0 = ws.getD k 0 from by rw [List.getD_eq_getElem?_getD, List.getElem?_append_left (by omega), List.getD_eq_getElem?_getD]]
   exact tsr
  ·rw [if_neg (by omega), if_neg (by omega)]
   exact tsr
theorem takePage_con (a : DArrays) (t : Nat) (ws w : List Int) (hm : a.Map = mapA t) (hr : a.Ram = ramA ws) (hl : ws.length = 4 * t) (hw : w.length = 4) (ht : t < 16) : Con Tryz.prog 48 [.p base [] 14 0 0, .h (base + 1) []] [.rt base .row (T.s 14 1 fun _ c => [T.v (iv a.Next), T.v (iv a.Tick), tr a.Progs, tr a.Slots, tr a.Ram, tr a.Map, tr a.Opens, tr a.Pipes, tr a.Files, T.v (.bool a.Ready.Used), tr a.Ready.Buf, T.v (iv a.Ready.Head), T.v (iv a.Ready.Len), tr a.Out].getD c T.j), .rt (base + 1) .ro (tr w)] (RetW (.v (iv (t : Nat))) [] [(base, (T.s 14 1 fun _ c => [T.v (iv ({ a with Map := mapA (t + 1), Ram := ramA (ws ++ w) } : DArrays).Next), T.v (iv ({ a with Map := mapA (t + 1), Ram := ramA (ws ++ w) } : DArrays).Tick), tr ({ a with Map := mapA (t + 1), Ram := ramA (ws ++ w) } : DArrays).Progs, tr ({ a with Map := mapA (t + 1), Ram := ramA (ws ++ w) } : DArrays).Slots, tr ({ a with Map := mapA (t + 1), Ram := ramA (ws ++ w) } : DArrays).Ram, tr ({ a with Map := mapA (t + 1), Ram := ramA (ws ++ w) } : DArrays).Map, tr ({ a with Map := mapA (t + 1), Ram := ramA (ws ++ w) } : DArrays).Opens, tr ({ a with Map := mapA (t + 1), Ram := ramA (ws ++ w) } : DArrays).Pipes, tr ({ a with Map := mapA (t + 1), Ram := ramA (ws ++ w) } : DArrays).Files, T.v (.bool ({ a with Map := mapA (t + 1), Ram := ramA (ws ++ w) } : DArrays).Ready.Used), tr ({ a with Map := mapA (t + 1), Ram := ramA (ws ++ w) } : DArrays).Ready.Buf, T.v (iv ({ a with Map := mapA (t + 1), Ram := ramA (ws ++ w) } : DArrays).Ready.Head), T.v (iv ({ a with Map := mapA (t + 1), Ram := ramA (ws ++ w) } : DArrays).Ready.Len), tr ({ a with Map := mapA (t + 1), Ram := ramA (ws ++ w) } : DArrays).Out].getD c T.j))]) := by
 refine ob Tryz.func48 Tryz.ntmps48 ?_
 have hrl : a.Ram.length = 64 := by rw [hr, ramA_len]; omega
 refine go [.R,.a,.Z,.R,.m,.p,.N,.f,.l] (k := ?_)
 refine sp (Stp.callR rfl (by decide) Tryz.call166 rfl rfl (MapTakeA_con a.Map t hm ht) (nodup_of rfl) rfl rfl) ?_
 refine go [.N,.m,.e,.e,.N,.a,.a,.Z,.R,.m,.N,.m,.p,.f,.N,.s,.Z,.R2,.m,.N,.b,.Z] (k := ?_)
 refine AW.cond rfl (fun c1 => ?_) (fun c1 => (by exfalso; first | (cases c1; done) | (simp at c1; done) | (simp only [cnd] at c1; omega)))
 try simp only [cnd] at c1
 refine go [.R1,.m,.p,.N,.f,.l,.m,.N] (k := ?_)
 refine sp (Stp.callAQ rfl (by decide) Tryz.call167 rfl rfl rfl rfl (by refine ⟨rfl, ?_, ?_, trivial⟩ <;> decide) rfl (by omega) (frameWords_con a.Ram (t : Nat) (by rw [hr, ramA_len]; omega) (by omega) (by omega))) ?_
 refine go [.N,.m] (k := ?_)
 refine sp (Stp.copy rfl (by decide) rfl rfl (by decide) rfl (fun _ _ _ _ _ h => by cases h <;> rfl) rfl (by first | omega | simp) (by first | omega | simp)) ?_
 refine go [.Z,.R,.m,.N,.a,.Z] (k := ?_)
 refine AW.rep base (T.s 14 1 fun _ c => [T.v (iv ({ a with Map := mapA (t + 1), Ram := ramA (ws ++ w) } : DArrays).Next), T.v (iv ({ a with Map := mapA (t + 1), Ram := ramA (ws ++ w) } : DArrays).Tick), tr ({ a with Map := mapA (t + 1), Ram := ramA (ws ++ w) } : DArrays).Progs, tr ({ a with Map := mapA (t + 1), Ram := ramA (ws ++ w) } : DArrays).Slots, tr ({ a with Map := mapA (t + 1), Ram := ramA (ws ++ w) } : DArrays).Ram, tr ({ a with Map := mapA (t + 1), Ram := ramA (ws ++ w) } : DArrays).Map, tr ({ a with Map := mapA (t + 1), Ram := ramA (ws ++ w) } : DArrays).Opens, tr ({ a with Map := mapA (t + 1), Ram := ramA (ws ++ w) } : DArrays).Pipes, tr ({ a with Map := mapA (t + 1), Ram := ramA (ws ++ w) } : DArrays).Files, T.v (.bool ({ a with Map := mapA (t + 1), Ram := ramA (ws ++ w) } : DArrays).Ready.Used), tr ({ a with Map := mapA (t + 1), Ram := ramA (ws ++ w) } : DArrays).Ready.Buf, T.v (iv ({ a with Map := mapA (t + 1), Ram := ramA (ws ++ w) } : DArrays).Ready.Head), T.v (iv ({ a with Map := mapA (t + 1), Ram := ramA (ws ++ w) } : DArrays).Ready.Len), tr ({ a with Map := mapA (t + 1), Ram := ramA (ws ++ w) } : DArrays).Out].getD c T.j) rfl (scA_sim (n := 14) (fun c hc => match c, hc with | 0, _ => tsr | 1, _ => tsr | 2, _ => tsr | 3, _ => tsr | 4, _ => (copy_sim hr hl hw (by omega) (by omega) ht) | 5, _ => tsr | 6, _ => tsr | 7, _ => tsr | 8, _ => tsr | 9, _ => tsr | 10, _ => tsr | 11, _ => tsr | 12, _ => tsr | 13, _ => tsr | c + 14, hc => absurd hc (by omega))) ?_
 refine rt1 4 ?_
 refine ⟨fun n => n, rfl, fun _ _ => rfl, List.nodup_nil, (by simp), ?_⟩
 intro p hp
 cases List.mem_singleton.1 hp
 exact rootL_mem rfl
end Go.Proofs.YthjfgpkjooaahaaGreat.VM

