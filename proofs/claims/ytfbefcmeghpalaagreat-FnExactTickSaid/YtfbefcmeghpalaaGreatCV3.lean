/- Contracts of functions of the program. No conditions beyond those that each states. -/
import Derived.Test.YtfbefcmeghpalaaGreatCV1
import Derived.Test.YtfbefcmeghpalaaGreatCV3i
import Derived.Test.YtfbefcmeghpalaaGreatCV3pro
set_option linter.all false
set_option maxHeartbeats 8000000
set_option maxRecDepth 10000
namespace Go.Proofs.YtfbefcmeghpalaaGreat.VM
open Go Go.RowKit Go.Proofs
theorem markInsS_con (a : List DIns) (k : Int) (hk : 0 ≤ k) (hk2 : k + (Mk.cnt a : Nat) ≤ 4611686018427387904) : Con Tryz.prog 116 [.h base [], .v (iv k)] [.rt base .row (tr a)] (RetW (.v (iv (k + (Mk.cnt a : Nat)))) [] [(base, tr (mkL a (k)))]) := by
 refine ob Tryz.func116 Tryz.ntmps116 ?_
 refine AW.len base [] rfl (by simp [Okp]) rfl (fun hl => ?_)
 refine sr ?_
 refine qn ?_
 refine sr2 ?_
 refine qn ?_
 refine AW.block ?_
 refine AW.weak (L' := [.sl 5 (.v (iv (0 : Nat))), .sl 1 (.v (iv (k + (cumN Mk.cnt En.dflt a 0 : Nat)))), .sl 0 (.h base []), .rt base .row (trMix 0 a.length (mkF a k) fun j => a.getD j En.dflt)]) (Weak.sim ⟨rfl, (by simp only [slotL, reduceIte, Nat.reduceEqDiff]; show X.v (iv k) = _; simp [cumN]), rfl, ⟨_, rfl, trMix_tr⟩, trivial⟩ rfl rfl) ?_
 refine AW.loop (fun i : KInv a.length => [.sl 5 (.v (iv i.k)), .sl 1 (.v (iv (k + (cumN Mk.cnt En.dflt a i.k : Nat)))), .sl 0 (.h base []), .rt base .row (trMix i.k a.length (mkF a k) fun j => a.getD j En.dflt)]) (fun i => a.length - i.k) ⟨0, Nat.zero_le _⟩ ?_
 intro i
 have hle := i.le
 refine sr2 ?_
 refine mn ?_
 refine qm ?_
 refine qh sl65 ?_
 refine qb ?_
 refine nc (fun c1 => ?_) fun c1 => ?_
 ·try simp only [cnd] at c1
  have hc1 := cumN_mono (c := Mk.cnt) (d := En.dflt) (l := a) (show i.k + 1 ≤ a.length by omega)
  simp only [cumN, cnt_Ins] at hc1
  simp only [cnt_list] at hk2
  refine jd (AW.seq (AW.block (sr ?_)))
  refine mn ?_
  refine qm ?_
  refine qm ?_
  refine qq (ix sl65 sz187) ?_
  refine nm ?_
  refine qq (fA fl187_0) ?_
  refine ss ?_
  refine ns ?_
  refine mn ?_
  refine ba ?_
  refine qs' ?_
  refine mn ?_
  refine qm ?_
  refine qm ?_
  refine qq (ix sl65 sz187) ?_
  refine nm ?_
  refine qq (fA fl187_1) ?_
  refine ss ?_
  refine ns ?_
  refine mn ?_
  refine ba ?_
  refine qs' ?_
  refine mn ?_
  refine qm ?_
  refine qm ?_
  refine qq (ix sl65 sz187) ?_
  refine nm ?_
  refine qq (fA fl187_2) ?_
  refine ss ?_
  refine ns ?_
  refine mn ?_
  refine ba ?_
  refine qs' ?_
  refine mn ?_
  refine qm ?_
  refine qm ?_
  refine qq (ix sl65 sz187) ?_
  refine nm ?_
  refine qq (fA fl187_3) ?_
  refine ss ?_
  refine nl ?_
  refine AW.region ?_
  refine mn ?_
  refine ba ?_
  refine qn ?_
  refine AW.region ?_
  refine mn ?_
  refine ba ?_
  refine qn ?_
  refine ⟨⟨i.k + 1, by omega⟩, Weak.sim ⟨st1, (by simp only [slotL, reduceIte, Nat.reduceEqDiff]; congr 2; simp only [cumN, cnt_Ins]; omega), rfl, ⟨_, rfl, trMix_next (fun i c hi => by simp only [upd_app, hi, false_and, if_false]; rfl) (fun c hc => match c, hc with | 0, _ => (by simp only [upd_app, eq_self, and_true, and_false, Nat.reduceEqDiff, if_true, if_false]; exact T.sim_refl _) | 1, _ => (by simp only [upd_app, eq_self, and_true, and_false, Nat.reduceEqDiff, if_true, if_false]; exact T.sim_refl _) | 2, _ => (by simp only [upd_app, eq_self, and_true, and_false, Nat.reduceEqDiff, if_true, if_false]; exact T.sim_refl _) | 3, _ => (by simp only [upd_app, eq_self, and_true, and_false, Nat.reduceEqDiff, if_true, if_false]; exact T.sim_refl _) | c + 4, hc => absurd hc (by simp only [En.n]; omega))⟩, trivial⟩ rfl rfl, ?_⟩
  show a.length - (i.k + 1) < a.length - i.k
  omega
 try simp only [cnd] at c1
 refine AW.exit ?_
 dsimp only [thenQ, blockQ, reduceIte]
 refine sr ?_
 refine mn ?_
 refine qn ?_
 refine AW.weak (L' := [.rt base .row (tr (mkL a k)), .sl 4 (.v (iv (k + (Mk.cnt a : Nat))))]) (Weak.sim ⟨⟨_, rfl, trMix_mk a k (by omega)⟩, (by simp only [slotL, reduceIte, Nat.reduceEqDiff]; rw [cnt_list, show cumN Mk.cnt En.dflt a i.k = cumN Mk.cnt En.dflt a a.length by rw [show i.k = a.length by omega]]), trivial⟩ rfl rfl) ?_
 refine rt1 4 ?_
 refine ⟨fun n => n, rfl, fun _ _ => rfl, List.nodup_nil, (by simp), ?_⟩
 intro p hp
 cases List.mem_singleton.1 hp
 exact rootL_mem rfl
theorem markInsSS_con (a : List (List DIns)) (k : Int) (hk : 0 ≤ k) (hk2 : k + (Mk.cnt a : Nat) ≤ 4611686018427387904) : Con Tryz.prog 51 [.h base [], .v (iv k)] [.rt base .row (tr a)] (RetW (.v (iv (k + (Mk.cnt a : Nat)))) [] [(base, tr (mkL a (k)))]) := by
 refine ob Tryz.func51 Tryz.ntmps51 ?_
 refine AW.len base [] rfl (by simp [Okp]) rfl (fun hl => ?_)
 refine sr ?_
 refine qn ?_
 refine sr2 ?_
 refine qn ?_
 refine AW.block ?_
 refine AW.weak (L' := [.sl 5 (.v (iv (0 : Nat))), .sl 1 (.v (iv (k + (cumN Mk.cnt En.dflt a 0 : Nat)))), .sl 0 (.h base []), .rt base .row (trMix 0 a.length (mkF a k) fun j => a.getD j En.dflt)]) (Weak.sim ⟨rfl, (by simp only [slotL, reduceIte, Nat.reduceEqDiff]; show X.v (iv k) = _; simp [cumN]), rfl, ⟨_, rfl, trMix_tr⟩, trivial⟩ rfl rfl) ?_
 refine AW.loop (fun i : KInv a.length => [.sl 5 (.v (iv i.k)), .sl 1 (.v (iv (k + (cumN Mk.cnt En.dflt a i.k : Nat)))), .sl 0 (.h base []), .rt base .row (trMix i.k a.length (mkF a k) fun j => a.getD j En.dflt)]) (fun i => a.length - i.k) ⟨0, Nat.zero_le _⟩ ?_
 intro i
 have hle := i.le
 refine sr2 ?_
 refine mn ?_
 refine qm ?_
 refine qh sl24 ?_
 refine qb ?_
 refine nc (fun c1 => ?_) fun c1 => ?_
 ·try simp only [cnd] at c1
  have hc1 := cumN_mono (c := Mk.cnt) (d := En.dflt) (l := a) (show i.k + 1 ≤ a.length by omega)
  simp only [cumN] at hc1
  simp only [cnt_list] at hk2
  refine jd (AW.seq (AW.block (AW.region ?_)))
  refine mn ?_
  refine qm ?_
  refine qq (ix sl24 sz65) ?_
  refine ql ag65 ?_
  refine nm ?_
  refine qm ?_
  refine sp (Stp.callH rfl (by decide) Tryz.call116 rfl (markInsS_con (a.getD i.k En.dflt) (k + (cumN Mk.cnt En.dflt a i.k : Nat)) (by omega) (by omega)) (by simp only [go_sem, reduceIte, Nat.reduceEqDiff, Nat.reduceBEq, reduceCtorEq, tr, List.map_cons, List.map_nil]; rfl) rfl rfl (nodup_of rfl) rfl rfl) ?_
  refine nm ?_
  refine qn ?_
  refine AW.region ?_
  refine qm ?_
  refine ba ?_
  refine nm ?_
  refine qn ?_
  refine ⟨⟨i.k + 1, by omega⟩, Weak.sim ⟨st1, (by simp only [slotL, reduceIte, Nat.reduceEqDiff]; congr 2; simp only [cumN]; omega), rfl, ⟨_, rfl, trMix_next (fun i c hi => by simp only [upd_app, hi, false_and, if_false]; rfl) (fun c hc => match c, hc with | 0, _ => (by simp only [upd_app, eq_self, and_true, and_false, Nat.reduceEqDiff, if_true, if_false]; exact T.sim_refl _) | c + 1, hc => absurd hc (by simp only [En.n]; omega))⟩, trivial⟩ rfl rfl, ?_⟩
  show a.length - (i.k + 1) < a.length - i.k
  omega
 try simp only [cnd] at c1
 refine AW.exit ?_
 dsimp only [thenQ, blockQ, reduceIte]
 refine sr ?_
 refine qm ?_
 refine qn ?_
 refine AW.weak (L' := [.rt base .row (tr (mkL a k)), .sl 4 (.v (iv (k + (Mk.cnt a : Nat))))]) (Weak.sim ⟨⟨_, rfl, trMix_mk a k (by omega)⟩, (by simp only [slotL, reduceIte, Nat.reduceEqDiff]; rw [cnt_list, show cumN Mk.cnt En.dflt a i.k = cumN Mk.cnt En.dflt a a.length by rw [show i.k = a.length by omega]]), trivial⟩ rfl rfl) ?_
 refine rt1 4 ?_
 refine ⟨fun n => n, rfl, fun _ _ => rfl, List.nodup_nil, (by simp), ?_⟩
 intro p hp
 cases List.mem_singleton.1 hp
 exact rootL_mem rfl
theorem markOpenS_con (a : List DOpen) (k : Int) (hk : 0 ≤ k) (hk2 : k + (Mk.cnt a : Nat) ≤ 4611686018427387904) : Con Tryz.prog 80 [.h base [], .v (iv k)] [.rt base .row (tr a)] (RetW (.v (iv (k + (Mk.cnt a : Nat)))) [] [(base, tr (mkL a (k)))]) := by
 refine ob Tryz.func80 Tryz.ntmps80 ?_
 refine AW.len base [] rfl (by simp [Okp]) rfl (fun hl => ?_)
 refine sr ?_
 refine qn ?_
 refine sr2 ?_
 refine qn ?_
 refine AW.block ?_
 refine AW.weak (L' := [.sl 5 (.v (iv (0 : Nat))), .sl 1 (.v (iv (k + (cumN Mk.cnt En.dflt a 0 : Nat)))), .sl 0 (.h base []), .rt base .row (trMix 0 a.length (mkF a k) fun j => a.getD j En.dflt)]) (Weak.sim ⟨rfl, (by simp only [slotL, reduceIte, Nat.reduceEqDiff]; show X.v (iv k) = _; simp [cumN]), rfl, ⟨_, rfl, trMix_tr⟩, trivial⟩ rfl rfl) ?_
 refine AW.loop (fun i : KInv a.length => [.sl 5 (.v (iv i.k)), .sl 1 (.v (iv (k + (cumN Mk.cnt En.dflt a i.k : Nat)))), .sl 0 (.h base []), .rt base .row (trMix i.k a.length (mkF a k) fun j => a.getD j En.dflt)]) (fun i => a.length - i.k) ⟨0, Nat.zero_le _⟩ ?_
 intro i
 have hle := i.le
 refine sr2 ?_
 refine mn ?_
 refine qm ?_
 refine qh sl26 ?_
 refine qb ?_
 refine nc (fun c1 => ?_) fun c1 => ?_
 ·try simp only [cnd] at c1
  have hc1 := cumN_mono (c := Mk.cnt) (d := En.dflt) (l := a) (show i.k + 1 ≤ a.length by omega)
  simp only [cumN, cnt_Open] at hc1
  simp only [cnt_list] at hk2
  refine jd (AW.seq (AW.block (sr ?_)))
  refine mn ?_
  refine qm ?_
  refine qm ?_
  refine qq (ix sl26 sz130) ?_
  refine nm ?_
  refine qq (fA fl130_0) ?_
  refine ss ?_
  refine ns ?_
  refine mn ?_
  refine ba ?_
  refine qs' ?_
  refine mn ?_
  refine qm ?_
  refine qm ?_
  refine qq (ix sl26 sz130) ?_
  refine nm ?_
  refine qq (fA fl130_1) ?_
  refine ss ?_
  refine ns ?_
  refine mn ?_
  refine ba ?_
  refine qs' ?_
  refine mn ?_
  refine qm ?_
  refine qm ?_
  refine qq (ix sl26 sz130) ?_
  refine nm ?_
  refine qq (fA fl130_2) ?_
  refine ss ?_
  refine ns ?_
  refine mn ?_
  refine ba ?_
  refine qs' ?_
  refine mn ?_
  refine qm ?_
  refine qm ?_
  refine qq (ix sl26 sz130) ?_
  refine nm ?_
  refine qq (fA fl130_3) ?_
  refine ss ?_
  refine ns ?_
  refine mn ?_
  refine ba ?_
  refine qs' ?_
  refine mn ?_
  refine qm ?_
  refine qm ?_
  refine qq (ix sl26 sz130) ?_
  refine nm ?_
  refine qq (fA fl130_4) ?_
  refine ss ?_
  refine nl ?_
  refine AW.region ?_
  refine mn ?_
  refine ba ?_
  refine qn ?_
  refine AW.region ?_
  refine mn ?_
  refine ba ?_
  refine qn ?_
  refine ⟨⟨i.k + 1, by omega⟩, Weak.sim ⟨st1, (by simp only [slotL, reduceIte, Nat.reduceEqDiff]; congr 2; simp only [cumN, cnt_Open]; omega), rfl, ⟨_, rfl, trMix_next (fun i c hi => by simp only [upd_app, hi, false_and, if_false]; rfl) (fun c hc => match c, hc with | 0, _ => (by simp only [upd_app, eq_self, and_true, and_false, Nat.reduceEqDiff, if_true, if_false]; exact T.sim_refl _) | 1, _ => (by simp only [upd_app, eq_self, and_true, and_false, Nat.reduceEqDiff, if_true, if_false]; exact T.sim_refl _) | 2, _ => (by simp only [upd_app, eq_self, and_true, and_false, Nat.reduceEqDiff, if_true, if_false]; exact T.sim_refl _) | 3, _ => (by simp only [upd_app, eq_self, and_true, and_false, Nat.reduceEqDiff, if_true, if_false]; exact T.sim_refl _) | 4, _ => (by simp only [upd_app, eq_self, and_true, and_false, Nat.reduceEqDiff, if_true, if_false]; exact T.sim_refl _) | c + 5, hc => absurd hc (by simp only [En.n]; omega))⟩, trivial⟩ rfl rfl, ?_⟩
  show a.length - (i.k + 1) < a.length - i.k
  omega
 try simp only [cnd] at c1
 refine AW.exit ?_
 dsimp only [thenQ, blockQ, reduceIte]
 refine sr ?_
 refine mn ?_
 refine qn ?_
 refine AW.weak (L' := [.rt base .row (tr (mkL a k)), .sl 4 (.v (iv (k + (Mk.cnt a : Nat))))]) (Weak.sim ⟨⟨_, rfl, trMix_mk a k (by omega)⟩, (by simp only [slotL, reduceIte, Nat.reduceEqDiff]; rw [cnt_list, show cumN Mk.cnt En.dflt a i.k = cumN Mk.cnt En.dflt a a.length by rw [show i.k = a.length by omega]]), trivial⟩ rfl rfl) ?_
 refine rt1 4 ?_
 refine ⟨fun n => n, rfl, fun _ _ => rfl, List.nodup_nil, (by simp), ?_⟩
 intro p hp
 cases List.mem_singleton.1 hp
 exact rootL_mem rfl
theorem markPipeS_con (a : List DPipe) (k : Int) (hk : 0 ≤ k) (hk2 : k + (Mk.cnt a : Nat) ≤ 4611686018427387904) : Con Tryz.prog 81 [.h base [], .v (iv k)] [.rt base .row (tr a)] (RetW (.v (iv (k + (Mk.cnt a : Nat)))) [] [(base, tr (mkL a (k)))]) := by
 refine ob Tryz.func81 Tryz.ntmps81 ?_
 refine AW.len base [] rfl (by simp [Okp]) rfl (fun hl => ?_)
 refine sr ?_
 refine qn ?_
 refine sr2 ?_
 refine qn ?_
 refine AW.block ?_
 refine AW.weak (L' := [.sl 5 (.v (iv (0 : Nat))), .sl 1 (.v (iv (k + (cumN Mk.cnt En.dflt a 0 : Nat)))), .sl 0 (.h base []), .rt base .row (T.s 2 a.length (oldF (mkF a k) (fun j => a.getD j En.dflt) 0))]) (Weak.sim ⟨rfl, (by simp only [slotL, reduceIte, Nat.reduceEqDiff]; show X.v (iv k) = _; simp [cumN]), rfl, ⟨_, rfl, oldF_zero⟩, trivial⟩ rfl rfl) ?_
 refine AW.loop (fun i : KInv a.length => [.sl 5 (.v (iv i.k)), .sl 1 (.v (iv (k + (cumN Mk.cnt En.dflt a i.k : Nat)))), .sl 0 (.h base []), .rt base .row (T.s 2 a.length (oldF (mkF a k) (fun j => a.getD j En.dflt) i.k))]) (fun i => a.length - i.k) ⟨0, Nat.zero_le _⟩ ?_
 intro i
 have hle := i.le
 refine sr2 ?_
 refine mn ?_
 refine qm ?_
 refine qh sl27 ?_
 refine qb ?_
 refine nc (fun c1 => ?_) fun c1 => ?_
 ·try simp only [cnd] at c1
  have hc1 := cumN_mono (c := Mk.cnt) (d := En.dflt) (l := a) (show i.k + 1 ≤ a.length by omega)
  simp only [cumN, cnt_Pipe] at hc1
  simp only [cnt_list] at hk2
  refine AW.rep base (T.s 2 a.length (mixF (oldF (mkF a k) (fun j => a.getD j En.dflt) i.k) (newF (mkF a k) i.k) i.k 0)) rfl mix_zero ?_
  refine jd (AW.seq (AW.block (sr ?_)))
  refine mn ?_
  refine qm ?_
  refine qm ?_
  refine qq (ix sl27 sz153) ?_
  refine nm ?_
  refine qq (fA fl153_0) ?_
  refine ss ?_
  refine AWL.rep base (T.s 2 a.length (mixF (oldF (mkF a k) (fun j => a.getD j En.dflt) i.k) (newF (mkF a k) i.k) i.k 1)) rfl (mix_step (m := 0) (T.sim_refl _)) ?_
  refine ns ?_
  refine mn ?_
  refine ba ?_
  refine qn ?_
  refine AW.region ?_
  refine mn ?_
  refine qm ?_
  refine qq (ix sl27 sz153) ?_
  refine qq (fA fl153_1) ?_
  refine nm ?_
  refine ql ag29 ?_
  refine qm ?_
  refine sp (Stp.callH rfl (by decide) Tryz.call52 rfl (markIntS_con (a.getD i.k En.dflt).Data (k + (cumN Mk.cnt En.dflt a i.k : Nat) + 1) (by omega) (by omega)) (by simp only [go_sem, reduceIte, Nat.reduceEqDiff, Nat.reduceBEq, reduceCtorEq, tr, List.map_cons, List.map_nil]; rfl) rfl rfl (nodup_of rfl) rfl rfl) ?_
  refine nm ?_
  refine AWL.rep base (T.s 2 a.length (mixF (oldF (mkF a k) (fun j => a.getD j En.dflt) i.k) (newF (mkF a k) i.k) i.k 2)) rfl (mix_step (m := 1) (T.sim_refl _)) ?_
  refine nm ?_
  refine qn ?_
  refine AW.region ?_
  refine qm ?_
  refine ba ?_
  refine nm ?_
  refine qn ?_
  refine ⟨⟨i.k + 1, by omega⟩, Weak.sim ⟨st1, (by simp only [slotL, reduceIte, Nat.reduceEqDiff]; congr 2; simp only [cumN, cnt_Pipe]; omega), rfl, ⟨_, rfl, mix_next (α := DPipe)⟩, trivial⟩ rfl rfl, ?_⟩
  show a.length - (i.k + 1) < a.length - i.k
  omega
 try simp only [cnd] at c1
 refine AW.exit ?_
 dsimp only [thenQ, blockQ, reduceIte]
 refine sr ?_
 refine qm ?_
 refine qn ?_
 refine AW.weak (L' := [.rt base .row (tr (mkL a k)), .sl 4 (.v (iv (k + (Mk.cnt a : Nat))))]) (Weak.sim ⟨⟨_, rfl, oldF_full a k (by omega)⟩, (by simp only [slotL, reduceIte, Nat.reduceEqDiff]; rw [cnt_list, show cumN Mk.cnt En.dflt a i.k = cumN Mk.cnt En.dflt a a.length by rw [show i.k = a.length by omega]]), trivial⟩ rfl rfl) ?_
 refine rt1 4 ?_
 refine ⟨fun n => n, rfl, fun _ _ => rfl, List.nodup_nil, (by simp), ?_⟩
 intro p hp
 cases List.mem_singleton.1 hp
 exact rootL_mem rfl
theorem markFileS_con (a : List DFile) (k : Int) (hk : 0 ≤ k) (hk2 : k + (Mk.cnt a : Nat) ≤ 4611686018427387904) : Con Tryz.prog 82 [.h base [], .v (iv k)] [.rt base .row (tr a)] (RetW (.v (iv (k + (Mk.cnt a : Nat)))) [] [(base, tr (mkL a (k)))]) := by
 refine ob Tryz.func82 Tryz.ntmps82 ?_
 refine AW.len base [] rfl (by simp [Okp]) rfl (fun hl => ?_)
 refine sr ?_
 refine qn ?_
 refine sr2 ?_
 refine qn ?_
 refine AW.block ?_
 refine AW.weak (L' := [.sl 5 (.v (iv (0 : Nat))), .sl 1 (.v (iv (k + (cumN Mk.cnt En.dflt a 0 : Nat)))), .sl 0 (.h base []), .rt base .row (T.s 2 a.length (oldF (mkF a k) (fun j => a.getD j En.dflt) 0))]) (Weak.sim ⟨rfl, (by simp only [slotL, reduceIte, Nat.reduceEqDiff]; show X.v (iv k) = _; simp [cumN]), rfl, ⟨_, rfl, oldF_zero⟩, trivial⟩ rfl rfl) ?_
 refine AW.loop (fun i : KInv a.length => [.sl 5 (.v (iv i.k)), .sl 1 (.v (iv (k + (cumN Mk.cnt En.dflt a i.k : Nat)))), .sl 0 (.h base []), .rt base .row (T.s 2 a.length (oldF (mkF a k) (fun j => a.getD j En.dflt) i.k))]) (fun i => a.length - i.k) ⟨0, Nat.zero_le _⟩ ?_
 intro i
 have hle := i.le
 refine sr2 ?_
 refine mn ?_
 refine qm ?_
 refine qh sl28 ?_
 refine qb ?_
 refine nc (fun c1 => ?_) fun c1 => ?_
 ·try simp only [cnd] at c1
  have hc1 := cumN_mono (c := Mk.cnt) (d := En.dflt) (l := a) (show i.k + 1 ≤ a.length by omega)
  simp only [cumN, cnt_File] at hc1
  simp only [cnt_list] at hk2
  refine AW.rep base (T.s 2 a.length (mixF (oldF (mkF a k) (fun j => a.getD j En.dflt) i.k) (newF (mkF a k) i.k) i.k 0)) rfl mix_zero ?_
  refine jd (AW.seq (AW.block (sr ?_)))
  refine mn ?_
  refine qm ?_
  refine qm ?_
  refine qq (ix sl28 sz155) ?_
  refine nm ?_
  refine qq (fA fl155_0) ?_
  refine ss ?_
  refine AWL.rep base (T.s 2 a.length (mixF (oldF (mkF a k) (fun j => a.getD j En.dflt) i.k) (newF (mkF a k) i.k) i.k 1)) rfl (mix_step (m := 0) (T.sim_refl _)) ?_
  refine ns ?_
  refine mn ?_
  refine ba ?_
  refine qn ?_
  refine AW.region ?_
  refine mn ?_
  refine qm ?_
  refine qq (ix sl28 sz155) ?_
  refine qq (fA fl155_1) ?_
  refine nm ?_
  refine ql ag29 ?_
  refine qm ?_
  refine sp (Stp.callH rfl (by decide) Tryz.call52 rfl (markIntS_con (a.getD i.k En.dflt).Data (k + (cumN Mk.cnt En.dflt a i.k : Nat) + 1) (by omega) (by omega)) (by simp only [go_sem, reduceIte, Nat.reduceEqDiff, Nat.reduceBEq, reduceCtorEq, tr, List.map_cons, List.map_nil]; rfl) rfl rfl (nodup_of rfl) rfl rfl) ?_
  refine nm ?_
  refine AWL.rep base (T.s 2 a.length (mixF (oldF (mkF a k) (fun j => a.getD j En.dflt) i.k) (newF (mkF a k) i.k) i.k 2)) rfl (mix_step (m := 1) (T.sim_refl _)) ?_
  refine nm ?_
  refine qn ?_
  refine AW.region ?_
  refine qm ?_
  refine ba ?_
  refine nm ?_
  refine qn ?_
  refine ⟨⟨i.k + 1, by omega⟩, Weak.sim ⟨st1, (by simp only [slotL, reduceIte, Nat.reduceEqDiff]; congr 2; simp only [cumN, cnt_File]; omega), rfl, ⟨_, rfl, mix_next (α := DFile)⟩, trivial⟩ rfl rfl, ?_⟩
  show a.length - (i.k + 1) < a.length - i.k
  omega
 try simp only [cnd] at c1
 refine AW.exit ?_
 dsimp only [thenQ, blockQ, reduceIte]
 refine sr ?_
 refine qm ?_
 refine qn ?_
 refine AW.weak (L' := [.rt base .row (tr (mkL a k)), .sl 4 (.v (iv (k + (Mk.cnt a : Nat))))]) (Weak.sim ⟨⟨_, rfl, oldF_full a k (by omega)⟩, (by simp only [slotL, reduceIte, Nat.reduceEqDiff]; rw [cnt_list, show cumN Mk.cnt En.dflt a i.k = cumN Mk.cnt En.dflt a a.length by rw [show i.k = a.length by omega]]), trivial⟩ rfl rfl) ?_
 refine rt1 4 ?_
 refine ⟨fun n => n, rfl, fun _ _ => rfl, List.nodup_nil, (by simp), ?_⟩
 intro p hp
 cases List.mem_singleton.1 hp
 exact rootL_mem rfl
theorem markUnix_con (a : DUnix) (k : Int) (hk : 0 ≤ k) (hk2 : k + (Mk.cnt a.Progs : Nat) + (Mk.cnt a.Procs : Nat) + (Mk.cnt a.Opens : Nat) + (Mk.cnt a.Pipes : Nat) + (Mk.cnt a.Files : Nat) + (Mk.cnt a.Ready : Nat) + (Mk.cnt a.Out : Nat) ≤ 4611686018427387904) : Con Tryz.prog 26 [.g [.v (iv a.Next), .v (iv a.Tick), .h base [], .h (base + 1) [], .h (base + 2) [], .h (base + 3) [], .h (base + 4) [], .h (base + 5) [], .h (base + 6) []], .v (iv k)] [.rt base .row (tr a.Progs), .rt (base + 1) .row (tr a.Procs), .rt (base + 2) .row (tr a.Opens), .rt (base + 3) .row (tr a.Pipes), .rt (base + 4) .row (tr a.Files), .rt (base + 5) .row (tr a.Ready), .rt (base + 6) .row (tr a.Out)] (RetW (.v (iv (k + (Mk.cnt a.Progs : Nat) + (Mk.cnt a.Procs : Nat) + (Mk.cnt a.Opens : Nat) + (Mk.cnt a.Pipes : Nat) + (Mk.cnt a.Files : Nat) + (Mk.cnt a.Ready : Nat) + (Mk.cnt a.Out : Nat)))) [] [(base, tr (mkL a.Progs (k))), (base + 1, tr (mkL a.Procs (k + (Mk.cnt a.Progs : Nat)))), (base + 2, tr (mkL a.Opens (k + (Mk.cnt a.Progs : Nat) + (Mk.cnt a.Procs : Nat)))), (base + 3, tr (mkL a.Pipes (k + (Mk.cnt a.Progs : Nat) + (Mk.cnt a.Procs : Nat) + (Mk.cnt a.Opens : Nat)))), (base + 4, tr (mkL a.Files (k + (Mk.cnt a.Progs : Nat) + (Mk.cnt a.Procs : Nat) + (Mk.cnt a.Opens : Nat) + (Mk.cnt a.Pipes : Nat)))), (base + 5, tr (mkL a.Ready (k + (Mk.cnt a.Progs : Nat) + (Mk.cnt a.Procs : Nat) + (Mk.cnt a.Opens : Nat) + (Mk.cnt a.Pipes : Nat) + (Mk.cnt a.Files : Nat)))), (base + 6, tr (mkL a.Out (k + (Mk.cnt a.Progs : Nat) + (Mk.cnt a.Procs : Nat) + (Mk.cnt a.Opens : Nat) + (Mk.cnt a.Pipes : Nat) + (Mk.cnt a.Files : Nat) + (Mk.cnt a.Ready : Nat))))]) := by
 refine ob Tryz.func26 Tryz.ntmps26 ?_
 refine sr ?_
 refine bx ?_
 refine nm ?_
 refine qs' ?_
 refine qq (fA fl31_2) ?_
 refine ql ag24 ?_
 refine nm ?_
 refine qm ?_
 refine sp (Stp.callH rfl (by decide) Tryz.call51 rfl (markInsSS_con _ _ (by omega) (by omega)) rfl rfl rfl (nodup_of rfl) rfl rfl) ?_
 refine nm ?_
 refine qs' ?_
 refine qq (fA fl31_3) ?_
 refine ql ag25 ?_
 refine nm ?_
 refine qm ?_
 refine sp (Stp.callH rfl (by decide) Tryz.call79 rfl (markProcS_con _ _ (by omega) (by omega)) rfl rfl rfl (nodup_of rfl) rfl rfl) ?_
 refine nm ?_
 refine qs' ?_
 refine qq (fA fl31_4) ?_
 refine ql ag26 ?_
 refine nm ?_
 refine qm ?_
 refine sp (Stp.callH rfl (by decide) Tryz.call80 rfl (markOpenS_con _ _ (by omega) (by omega)) rfl rfl rfl (nodup_of rfl) rfl rfl) ?_
 refine nm ?_
 refine qs' ?_
 refine qq (fA fl31_5) ?_
 refine ql ag27 ?_
 refine nm ?_
 refine qm ?_
 refine sp (Stp.callH rfl (by decide) Tryz.call81 rfl (markPipeS_con _ _ (by omega) (by omega)) rfl rfl rfl (nodup_of rfl) rfl rfl) ?_
 refine nm ?_
 refine qs' ?_
 refine qq (fA fl31_6) ?_
 refine ql ag28 ?_
 refine nm ?_
 refine qm ?_
 refine sp (Stp.callH rfl (by decide) Tryz.call82 rfl (markFileS_con _ _ (by omega) (by omega)) rfl rfl rfl (nodup_of rfl) rfl rfl) ?_
 refine nm ?_
 refine qs' ?_
 refine qq (fA fl31_7) ?_
 refine ql ag29 ?_
 refine nm ?_
 refine qm ?_
 refine sp (Stp.callH rfl (by decide) Tryz.call52 rfl (markIntS_con _ _ (by omega) (by omega)) rfl rfl rfl (nodup_of rfl) rfl rfl) ?_
 refine nm ?_
 refine qs' ?_
 refine qq (fA fl31_8) ?_
 refine ql ag29 ?_
 refine nm ?_
 refine qm ?_
 refine sp (Stp.callH rfl (by decide) Tryz.call52 rfl (markIntS_con _ _ (by omega) (by omega)) rfl rfl rfl (nodup_of rfl) rfl rfl) ?_
 refine nm ?_
 refine qs' ?_
 refine qm ?_
 refine qr 4 ?_
 refine ⟨fun n => n, rfl, fun _ _ => rfl, List.nodup_nil, (by simp), ?_⟩
 intro p hp
 simp only [List.mem_cons, List.not_mem_nil, or_false] at hp
 rcases hp with rfl | rfl | rfl | rfl | rfl | rfl | rfl <;> exact rootL_mem rfl
end Go.Proofs.YtfbefcmeghpalaaGreat.VM
