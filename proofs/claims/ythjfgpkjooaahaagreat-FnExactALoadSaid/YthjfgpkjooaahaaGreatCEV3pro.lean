/- Contracts. No conditions. -/
import Derived.Test.YthjfgpkjooaahaaGreatCEV3i
set_option linter.all false
set_option maxHeartbeats 8000000
set_option maxRecDepth 10000
namespace Go.Proofs.YthjfgpkjooaahaaGreat.VM
open Go Go.RowKit Go.Proofs
theorem markProcS_con (a : List DProc) (k : Int) (hk : 0 ≤ k) (hk2 : k + (Mk.cnt a : Nat) ≤ 4611686018427387904) : Con Tryz.prog 63 [.h base [], .v (iv k)] [.rt base .row (tr a)] (RetW (.v (iv (k + (Mk.cnt a : Nat)))) [] [(base, tr (mkL a (k)))]) := by
 refine ob Tryz.func63 Tryz.ntmps63 ?_
 refine AW.len base [] rfl (by simp [Okp]) rfl (fun hl => ?_)
 refine go [.R,.a,.Z,.R2,.a,.Z] (k := ?_)
 refine AW.block ?_
 refine AW.weak (L' := [.sl 5 (.v (iv (0 : Nat))), .sl 1 (.v (iv (k + (cumN Mk.cnt En.dflt a 0 : Nat)))), .sl 0 (.h base []), .rt base .row (T.s 10 a.length (oldF (mkF a k) (fun j => a.getD j En.dflt) 0))]) (Weak.sim ⟨rfl, (by simp only [slotL, reduceIte, Nat.reduceEqDiff]; show X.v (iv k) = _; simp [cumN]), rfl, ⟨_, rfl, oldF_zero⟩, trivial⟩ rfl rfl) ?_
 refine AW.loop (fun i : KInv a.length => [.sl 5 (.v (iv i.k)), .sl 1 (.v (iv (k + (cumN Mk.cnt En.dflt a i.k : Nat)))), .sl 0 (.h base []), .rt base .row (T.s 10 a.length (oldF (mkF a k) (fun j => a.getD j En.dflt) i.k))]) (fun i => a.length - i.k) ⟨0, Nat.zero_le _⟩ ?_
 intro i
 have hle := i.le
 refine go [.R2,.m,.N,.m,.h,.b,.Z] (k := ?_)
 refine cd (fun c1 => ?_) fun c1 => ?_
 ·try simp only [cnd] at c1
  have hc1 := cumN_mono (c := Mk.cnt) (d := En.dflt) (l := a) (show i.k + 1 ≤ a.length by omega)
  simp only [cumN, cnt_Proc] at hc1
  simp only [cnt_list] at hk2
  refine AW.rep base (T.s 10 a.length (mixF (oldF (mkF a k) (fun j => a.getD j En.dflt) i.k) (newF (mkF a k) i.k) i.k 0)) rfl mix_zero ?_
  refine jd (AW.seq (AW.block (sr ?_)))
  refine go [.m,.N,.m,.m,.i,.N,.f,.s] (k := ?_)
  refine AWL.rep base (T.s 10 a.length (mixF (oldF (mkF a k) (fun j => a.getD j En.dflt) i.k) (newF (mkF a k) i.k) i.k 1)) rfl (mix_step (m := 0) (tsr)) ?_
  refine go [.Z,.R,.m,.N,.b,.a,.Z,.R,.m,.N,.m,.m,.i,.N,.f,.s] (k := ?_)
  refine AWL.rep base (T.s 10 a.length (mixF (oldF (mkF a k) (fun j => a.getD j En.dflt) i.k) (newF (mkF a k) i.k) i.k 2)) rfl (mix_step (m := 1) (tsr)) ?_
  refine go [.Z,.R,.m,.N,.b,.a,.Z,.R,.m,.N,.m,.m,.i,.N,.f,.s] (k := ?_)
  refine AWL.rep base (T.s 10 a.length (mixF (oldF (mkF a k) (fun j => a.getD j En.dflt) i.k) (newF (mkF a k) i.k) i.k 3)) rfl (mix_step (m := 2) (tsr)) ?_
  refine go [.Z,.R,.m,.N,.b,.a,.Z,.R,.m,.N,.m,.m,.i,.N,.f,.s] (k := ?_)
  refine AWL.rep base (T.s 10 a.length (mixF (oldF (mkF a k) (fun j => a.getD j En.dflt) i.k) (newF (mkF a k) i.k) i.k 4)) rfl (mix_step (m := 3) (tsr)) ?_
  refine go [.Z,.R,.m,.N,.b,.a,.Z,.R,.m,.N,.m,.m,.i,.N,.f,.f,.s] (k := ?_)
  refine AWL.rep base (T.s 10 a.length (mixF (oldF (mkF a k) (fun j => a.getD j En.dflt) i.k) (newF (mkF a k) i.k) i.k 5)) rfl (mix_step (m := 4) (tsr)) ?_
  refine go [.Z,.R,.m,.N,.b,.a,.Z,.R,.m,.N,.m,.i,.f,.N,.f,.l,.m,.N] (k := ?_)
  refine sp (Stp.callH rfl (by decide) Tryz.call67 rfl (markIntS_con (a.getD i.k En.dflt).Cpu.Regs (k + (cumN Mk.cnt En.dflt a i.k : Nat) + 1 + 1 + 1 + 1 + 1) (by omega) (by omega)) (by simp only [go_sem, reduceIte, Nat.reduceEqDiff, Nat.reduceBEq, reduceCtorEq, tr, List.map_cons, List.map_nil]; rfl) rfl rfl (nodup_of rfl) rfl rfl) ?_
  refine go [.N] (k := ?_)
  refine AWL.rep base (T.s 10 a.length (mixF (oldF (mkF a k) (fun j => a.getD j En.dflt) i.k) (newF (mkF a k) i.k) i.k 6)) rfl (mix_step (m := 5) (tsr)) ?_
  refine go [.N,.a,.Z,.R,.m,.m,.N,.i,.f,.l,.N,.m] (k := ?_)
  refine sp (Stp.callH rfl (by decide) Tryz.call67 rfl (markIntS_con (a.getD i.k En.dflt).Mem (k + (cumN Mk.cnt En.dflt a i.k : Nat) + 1 + 1 + 1 + 1 + 1 + (Mk.cnt (a.getD i.k En.dflt).Cpu.Regs : Nat)) (by omega) (by omega)) (by simp only [go_sem, reduceIte, Nat.reduceEqDiff, Nat.reduceBEq, reduceCtorEq, tr, List.map_cons, List.map_nil]; rfl) rfl rfl (nodup_of rfl) rfl rfl) ?_
  refine go [.N] (k := ?_)
  refine AWL.rep base (T.s 10 a.length (mixF (oldF (mkF a k) (fun j => a.getD j En.dflt) i.k) (newF (mkF a k) i.k) i.k 7)) rfl (mix_step (m := 6) (tsr)) ?_
  refine go [.N,.a,.Z,.R,.m,.m,.N,.i,.f,.l,.N,.m] (k := ?_)
  refine sp (Stp.callH rfl (by decide) Tryz.call67 rfl (markIntS_con (a.getD i.k En.dflt).Fds (k + (cumN Mk.cnt En.dflt a i.k : Nat) + 1 + 1 + 1 + 1 + 1 + (Mk.cnt (a.getD i.k En.dflt).Cpu.Regs : Nat) + (Mk.cnt (a.getD i.k En.dflt).Mem : Nat)) (by omega) (by omega)) (by simp only [go_sem, reduceIte, Nat.reduceEqDiff, Nat.reduceBEq, reduceCtorEq, tr, List.map_cons, List.map_nil]; rfl) rfl rfl (nodup_of rfl) rfl rfl) ?_
  refine go [.N] (k := ?_)
  refine AWL.rep base (T.s 10 a.length (mixF (oldF (mkF a k) (fun j => a.getD j En.dflt) i.k) (newF (mkF a k) i.k) i.k 8)) rfl (mix_step (m := 7) (tsr)) ?_
  refine go [.N,.a,.Z,.R,.m,.m,.N,.m,.i,.f,.N,.s] (k := ?_)
  refine AWL.rep base (T.s 10 a.length (mixF (oldF (mkF a k) (fun j => a.getD j En.dflt) i.k) (newF (mkF a k) i.k) i.k 9)) rfl (mix_step (m := 8) (tsr)) ?_
  refine go [.Z,.R,.m,.N,.b,.a,.Z,.R,.m,.N,.m,.m,.i,.N,.f,.s] (k := ?_)
  refine AWL.rep base (T.s 10 a.length (mixF (oldF (mkF a k) (fun j => a.getD j En.dflt) i.k) (newF (mkF a k) i.k) i.k 10)) rfl (mix_step (m := 9) (tsr)) ?_
  refine go [.Z,.R1,.m,.N,.b,.a,.Z,.R1,.m,.N,.b,.a,.Z] (k := ?_)
  refine ⟨⟨i.k + 1, by omega⟩, Weak.sim ⟨st1, (by simp only [slotL, reduceIte, Nat.reduceEqDiff]; congr 2; simp only [cumN, cnt_Proc]; omega), rfl, ⟨_, rfl, mix_next (α := DProc)⟩, trivial⟩ rfl rfl, ?_⟩
  show a.length - (i.k + 1) < a.length - i.k
  omega
 try simp only [cnd] at c1
 refine AW.exit ?_
 dsimp only [thenQ, blockQ, reduceIte]
 refine go [.R,.m,.N,.a,.Z] (k := ?_)
 refine AW.weak (L' := [.rt base .row (tr (mkL a k)), .sl 4 (.v (iv (k + (Mk.cnt a : Nat))))]) (Weak.sim ⟨⟨_, rfl, oldF_full a k (by omega)⟩, (by simp only [slotL, reduceIte, Nat.reduceEqDiff]; rw [cnt_list, show cumN Mk.cnt En.dflt a i.k = cumN Mk.cnt En.dflt a a.length by rw [show i.k = a.length by omega]]), trivial⟩ rfl rfl) ?_
 refine rt1 4 ?_
 refine ⟨fun n => n, rfl, fun _ _ => rfl, List.nodup_nil, (by simp), ?_⟩
 intro p hp
 cases List.mem_singleton.1 hp
 exact rootL_mem rfl
end Go.Proofs.YthjfgpkjooaahaaGreat.VM
