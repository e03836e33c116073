/- Contracts of functions of the program. No conditions beyond those that each states. -/
import Derived.Test.YtfbefcmeghpalaaCL0
set_option linter.all false
namespace Go.Proofs.Ytfbefcmeghpalaa.VM
open Go Go.RowKit Go.Proofs
structure DIns where
 Op : Int
 A : Int
 B : Int
 C : Int
deriving DecidableEq
instance : En DIns := ⟨4, by omega, fun a => [.v (iv a.Op), .v (iv a.A), .v (iv a.B), .v (iv a.C)], fun _ => rfl, fun a => En.fit a.Op ∧ En.fit a.A ∧ En.fit a.B ∧ En.fit a.C, ⟨0, 0, 0, 0⟩⟩
@[go_sem] theorem cs_Ins (a : DIns) : En.cs a = [.v (iv a.Op), .v (iv a.A), .v (iv a.B), .v (iv a.C)] := rfl
instance : Mk DIns := { wt := fun _ => 0, cnt := fun a => 1 + 1 + 1 + 1, mark := fun _ k => ⟨k, k + 1, k + 1 + 1, k + 1 + 1 + 1⟩, cnt_mk := fun a k => by simp [Mk.cnt_mk] }
theorem cnt_Ins (a : DIns) : Mk.cnt a = 1 + 1 + 1 + 1 := rfl
set_option maxHeartbeats 8000000 in
set_option maxRecDepth 10000 in
theorem szInsS_con (a : List DIns) (left : Int) (h1 : -1 ≤ left) (h2 : left ≤ 1048576) : Con Try.prog 38 [.h base [], .v (iv left)] [.rt base .ro (tr a)] (fun y _ => y = .v (iv (szd (Mk.wt a) left))) := by
 refine Con.of_body Try.func38 rfl (by simp) ?_
 rw [Try.ntmps38]
 have hw : Mk.wt a = a.length := by rw [wt_list, wtL_zero (w := Mk.wt) (fun _ => rfl)]; rfl
 refine AW.len base [] rfl (by simp [Okp]) rfl (fun hl => ?_)
 refine AW.seq (AW.region ?_)
 refine qq Qt.assign ?_
 refine nl ?_
 refine AW.seq (AW.region ?_)
 refine qq Qt.move ?_
 refine qq Qt.move ?_
 refine nm ?_
 refine qq (Qt.lenH rfl rfl rfl sl69) ?_
 refine qq (Qt.binOp rfl rfl (by first | exact pbSub (by omega) | rfl)) ?_
 refine qq Qt.assign ?_
 refine nl ?_
 refine AW.seq (AW.seq (AW.region ?_))
 refine qq Qt.move ?_
 refine nm ?_
 refine qq (Qt.binOp rfl rfl rfl) ?_
 refine nl ?_
 refine AW.cond rfl (fun c1 => ?_) (fun c1 => ?_)
 ·have k1 := c1
  try simp only [cnd] at c1
  refine AW.seq (AW.region ?_)
  refine qq Qt.assign ?_
  refine nl ?_
  refine AW.ret (endQ_ret (.cons (.tmp 4) .nil) ?_)
  simp only [retX, slotL, reduceIte, Nat.reduceEqDiff, szd, hw]
  congr 2
  omega
 have k1 := c1
 try simp only [cnd] at c1
 refine jd (AW.seq (AW.region ?_))
 refine qq Qt.move ?_
 refine nm ?_
 refine qq Qt.assign ?_
 refine nl ?_
 refine AW.ret (endQ_ret (.cons (.tmp 4) .nil) ?_)
 simp only [retX, slotL, reduceIte, Nat.reduceEqDiff, szd, hw]
 congr 2
 omega
set_option maxHeartbeats 8000000 in
set_option maxRecDepth 10000 in
theorem szInsSS_con (a : List (List DIns)) (left : Int) (h1 : -1 ≤ left) (h2 : left ≤ 1048576) : Con Try.prog 14 [.h base [], .v (iv left)] [.rt base .ro (tr a)] (fun y _ => y = .v (iv (szd (Mk.wt a) left))) := by
 refine Con.of_body Try.func14 rfl (by simp) ?_
 rw [Try.ntmps14]
 have hw : Mk.wt a = a.length + wtL Mk.wt a := rfl
 refine AW.len base [] rfl (by simp [Okp]) rfl (fun hl => ?_)
 refine AW.seq (AW.region ?_)
 refine qq Qt.assign ?_
 refine nl ?_
 refine AW.seq (AW.region ?_)
 refine qq Qt.move ?_
 refine qq Qt.move ?_
 refine nm ?_
 refine qq (Qt.lenH rfl rfl rfl sl37) ?_
 refine qq (Qt.binOp rfl rfl (by first | exact pbSub (by omega) | rfl)) ?_
 refine qq Qt.assign ?_
 refine nl ?_
 refine AW.seq (AW.seq (AW.region ?_))
 refine qq Qt.move ?_
 refine nm ?_
 refine qq (Qt.binOp rfl rfl rfl) ?_
 refine nl ?_
 refine AW.cond rfl (fun c1 => ?_) (fun c1 => ?_)
 ·have k1 := c1
  try simp only [cnd] at c1
  refine AW.seq (AW.region ?_)
  refine qq Qt.assign ?_
  refine nl ?_
  refine AW.ret (endQ_ret (.cons (.tmp 4) .nil) ?_)
  simp only [retX, slotL, reduceIte, Nat.reduceEqDiff]
  try have hi0 := i.nn
  have hcw := cumN_wt a
  have hz := szd_cases (Mk.wt a) left
  try have hce : cumN Mk.wt En.dflt a i.k = cumN Mk.wt En.dflt a a.length := by rw [show i.k = a.length by omega]
  congr 2
  omega
 have k1 := c1
 try simp only [cnd] at c1
 refine jd (AW.seq (AW.seq (AW.region ?_)))
 refine qq Qt.assign ?_
 refine nl ?_
 refine AW.block ?_
 refine AW.weak (L' := [.sl 5 (.v (iv (0 : Nat))), .sl 1 (.v (iv (left - a.length - (cumN Mk.wt En.dflt a 0 : Nat)))), .sl 0 (.h base []), .rt base .ro (tr a)]) (Weak.sim ⟨rfl, (by simp only [slotL, reduceIte, Nat.reduceEqDiff]; show X.v (iv (left - a.length)) = _; simp [cumN]), rfl, Rf rfl, trivial⟩ rfl rfl) ?_
 refine AW.loop (fun i : SzInv left a => [.sl 5 (.v (iv i.k)), .sl 1 (.v (iv (left - a.length - (cumN Mk.wt En.dflt a i.k : Nat)))), .sl 0 (.h base []), .rt base .ro (tr a)]) (fun i => a.length - i.k) ⟨0, Nat.zero_le _, by simp only [cumN]; omega⟩ ?_
 intro i
 have hle := i.le
 refine AW.seq (AW.seq (AW.region ?_))
 refine qq Qt.move ?_
 refine nm ?_
 refine qq Qt.move ?_
 refine qq (Qt.lenH rfl rfl rfl sl37) ?_
 refine qq (Qt.binOp rfl rfl rfl) ?_
 refine nl ?_
 refine AW.cond rfl (fun c2 => ?_) (fun c2 => ?_)
 ·have k2 := c2
  try simp only [cnd] at c2
  have hi0 := i.nn
  have hcw := cumN_wt a
  have hc1 := cumN_mono (c := Mk.wt) (d := En.dflt) (l := a) (show i.k + 1 ≤ a.length by omega)
  simp only [cumN] at hc1
  have hz2 := szd_cases (Mk.wt (a.getD i.k En.dflt)) (left - a.length - (cumN Mk.wt En.dflt a i.k : Nat))
  refine jd (AW.seq (AW.block (AW.seq (AW.region ?_))))
  refine qq Qt.move ?_
  refine nm ?_
  refine qq Qt.move ?_
  refine qq (Qt.indexAddr rfl rfl rfl rfl sl37 sz69 (by decide) (by omega)) ?_
  refine qq (Qt.load1 rfl rfl rfl ag69) ?_
  refine nm ?_
  refine qq Qt.move ?_
  refine cv Try.call38 rfl rfl (szInsS_con _ _ (by first | omega | (repeat (first | omega | apply szd_lo))) (by first | omega | (repeat (first | omega | apply szd_hi)))) ?_
  refine nm ?_
  refine qq Qt.assign ?_
  refine nl ?_
  refine AW.seq (AW.region ?_)
  refine qq Qt.move ?_
  refine qq (Qt.binOp rfl rfl rfl) ?_
  refine nl ?_
  refine AW.cond rfl (fun c3 => ?_) (fun c3 => ?_)
  ·have k3 := c3
   try simp only [cnd] at c3
   refine AW.seq (AW.region ?_)
   refine qq Qt.assign ?_
   refine nl ?_
   refine AW.ret (endQ_ret (.cons (.tmp 4) .nil) ?_)
   simp only [retX, slotL, reduceIte, Nat.reduceEqDiff]
   try have hi0 := i.nn
   have hcw := cumN_wt a
   have hz := szd_cases (Mk.wt a) left
   try have hce : cumN Mk.wt En.dflt a i.k = cumN Mk.wt En.dflt a a.length := by rw [show i.k = a.length by omega]
   congr 2
   omega
  have k3 := c3
  try simp only [cnd] at c3
  refine jd (AW.region ?_)
  refine qq Qt.move ?_
  refine nm ?_
  refine qq (Qt.binOp rfl rfl (by first | exact pbAdd (by omega) | rfl)) ?_
  refine qq Qt.assign ?_
  refine nl ?_
  refine ⟨⟨i.k + 1, by omega, by simp only [cumN]; omega⟩, Weak.sim ⟨st1, (by simp only [slotL, reduceIte, Nat.reduceEqDiff]; congr 2; simp only [cumN]; omega), rfl, Rf rfl, trivial⟩ rfl rfl, ?_⟩
  show a.length - (i.k + 1) < a.length - i.k
  omega
 have k2 := c2
 try simp only [cnd] at c2
 refine AW.exit ?_
 dsimp only [thenQ, blockQ, reduceIte]
 refine AW.seq (AW.region ?_)
 refine qq Qt.move ?_
 refine nm ?_
 refine qq Qt.assign ?_
 refine nl ?_
 refine AW.ret (endQ_ret (.cons (.tmp 4) .nil) ?_)
 simp only [retX, slotL, reduceIte, Nat.reduceEqDiff]
 try have hi0 := i.nn
 have hcw := cumN_wt a
 have hz := szd_cases (Mk.wt a) left
 try have hce : cumN Mk.wt En.dflt a i.k = cumN Mk.wt En.dflt a a.length := by rw [show i.k = a.length by omega]
 congr 2
 omega
set_option maxHeartbeats 8000000 in
set_option maxRecDepth 10000 in
theorem toIns_con (a : DIns) : Con Try.prog 77 [.g [.v (iv a.Op), .v (iv a.A), .v (iv a.B), .v (iv a.C)]] [] (Ret (.g [.v (iv a.Op), .v (iv a.A), .v (iv a.B), .v (iv a.C)]) []) := by
 refine Con.of_body Try.func77 rfl (by simp) ?_
 rw [Try.ntmps77]
 refine AW.seq (AW.region ?_)
 refine sp (Stp.boxB rfl (by decide) (by decide) rfl rfl rfl rfl) ?_
 refine nm ?_
 refine sp (Stp.alloc rfl (by decide) (by decide)) ?_
 refine nl ?_
 refine AW.seq (AW.region ?_)
 refine sp (Stp.alloc rfl (by decide) (by decide)) ?_
 refine nl ?_
 refine AW.seq (AW.region ?_)
 refine qq (fA fl109_0) ?_
 refine nm ?_
 refine qq (Qt.load1 rfl rfl rfl ag3) ?_
 refine qq (fA fl107_0) ?_
 refine ss ?_
 refine nl ?_
 refine AW.seq (AW.region ?_)
 refine qq (fA fl109_1) ?_
 refine nm ?_
 refine qq (Qt.load1 rfl rfl rfl ag3) ?_
 refine qq (fA fl107_1) ?_
 refine ss ?_
 refine nl ?_
 refine AW.seq (AW.region ?_)
 refine qq (fA fl109_2) ?_
 refine nm ?_
 refine qq (Qt.load1 rfl rfl rfl ag3) ?_
 refine qq (fA fl107_2) ?_
 refine ss ?_
 refine nl ?_
 refine AW.seq (AW.region ?_)
 refine qq (fA fl109_3) ?_
 refine nm ?_
 refine qq (Qt.load1 rfl rfl rfl ag3) ?_
 refine qq (fA fl107_3) ?_
 refine ss ?_
 refine nl ?_
 refine AW.seq (AW.region ?_)
 refine qq (Qt.loadG rfl rfl rfl ag107 sz107 (by decide)) ?_
 refine nm ?_
 refine ss ?_
 refine nl ?_
 refine AW.ret (endQ_ret (.cons (.cellG 2 107 rfl rfl rfl ag107 sz107 (by decide)) .nil) ?_)
 refine ⟨fun _ => 0, rfl, nodup_of rfl, ?_⟩
 intro r hr
 cases hr
set_option maxHeartbeats 8000000 in
set_option maxRecDepth 10000 in
theorem toInsS_con (a : List DIns) (hw : Mk.wt a ≤ 1048576) : Con Try.prog 41 [.h base []] [.rt base .ro (tr a)] (Ret (.h 0 []) [(0, .row, tr a)]) := by
 refine Con.of_body Try.func41 rfl (by simp) ?_
 rw [Try.ntmps41]
 have hw2 : a.length + wtL Mk.wt a ≤ 1048576 := hw
 refine AW.seq (AW.region ?_)
 refine qq Qt.assign ?_
 refine nl ?_
 refine AW.seq (AW.region ?_)
 refine qq Qt.move ?_
 refine qq (Qt.lenH rfl rfl rfl sl69) ?_
 refine nm ?_
 refine sp (Stp.makeSlice rfl (by decide) (by decide) rfl rfl (by omega) (by omega) (by omega)) ?_
 refine nm ?_
 refine qq Qt.assign ?_
 refine nl ?_
 refine AW.seq (AW.seq (AW.region ?_))
 refine qq Qt.assign ?_
 refine nl ?_
 refine AW.block ?_
 refine AW.weak (L' := [.sl 4 (.v (iv (0 : Nat))), .sl 3 (.h 7 []), .sl 0 (.h base []), .rt 7 .row (trMix (0 : Nat) a.length (fun j => a.getD j En.dflt) fun _ => En.dflt), .rt base .ro (tr a)]) (Weak.sim ⟨rfl, rfl, rfl, ⟨_, rfl, (trMix_start rfl (fun c hc => match c, hc with | 0, _ => T.sim_refl _ | 1, _ => T.sim_refl _ | 2, _ => T.sim_refl _ | 3, _ => T.sim_refl _ | c + 4, hc => absurd hc (by simp only [En.n]; omega)))⟩, Rf rfl, trivial⟩ rfl rfl) ?_
 refine AW.loop (fun i : KInv a.length => [.sl 4 (.v (iv i.k)), .sl 3 (.h 7 []), .sl 0 (.h base []), .rt 7 .row (trMix i.k a.length (fun j => a.getD j En.dflt) fun _ => En.dflt), .rt base .ro (tr a)]) (fun i => a.length - i.k) ⟨0, Nat.zero_le _⟩ ?_
 intro i
 have hle := i.le
 refine AW.seq (AW.seq (AW.region ?_))
 refine qq Qt.move ?_
 refine nm ?_
 refine qq Qt.move ?_
 refine qq (Qt.lenH rfl rfl rfl sl69) ?_
 refine qq (Qt.binOp rfl rfl rfl) ?_
 refine nl ?_
 refine AW.cond rfl (fun c1 => ?_) (fun c1 => ?_)
 ·have k1 := c1
  try simp only [cnd] at c1
  have hwk := wtL_get (w := Mk.wt) (d := En.dflt) (l := a) (i := i.k) (by omega)
  refine jd (AW.seq (AW.block (AW.region ?_)))
  refine qq Qt.move ?_
  refine nm ?_
  refine qq Qt.move ?_
  refine qq Qt.move ?_
  refine qq Qt.move ?_
  refine nm ?_
  refine qq (Qt.indexAddr rfl rfl rfl rfl sl69 sz109 (by decide) (by omega)) ?_
  refine qq (Qt.loadG rfl rfl rfl ag109 sz109 (by decide)) ?_
  refine sp (Stp.callR rfl (by decide) Try.call77 rfl rfl (toIns_con _) (nodup_of rfl) rfl rfl) ?_
  refine nm ?_
  refine qq (Qt.indexAddr rfl rfl rfl rfl sl73 sz107 (by decide) (by omega)) ?_
  refine ss ?_
  refine nl ?_
  refine AW.region ?_
  refine qq Qt.move ?_
  refine nm ?_
  refine qq (Qt.binOp rfl rfl (by first | exact pbAdd (by omega) | rfl)) ?_
  refine qq Qt.assign ?_
  refine nl ?_
  refine ⟨⟨i.k + 1, by omega⟩, Weak.sim ⟨st1, rfl, rfl, ⟨_, rfl, trMix_next (fun i c hi => by simp only [upd_app, hi, false_and, if_false]; rfl) (fun c hc => match c, hc with | 0, _ => (by simp only [upd_app, eq_self, and_true, and_false, Nat.reduceEqDiff, if_true, if_false]; exact T.sim_refl _) | 1, _ => (by simp only [upd_app, eq_self, and_true, and_false, Nat.reduceEqDiff, if_true, if_false]; exact T.sim_refl _) | 2, _ => (by simp only [upd_app, eq_self, and_true, and_false, Nat.reduceEqDiff, if_true, if_false]; exact T.sim_refl _) | 3, _ => (by simp only [upd_app, eq_self, and_true, and_false, Nat.reduceEqDiff, if_true, if_false]; exact T.sim_refl _) | c + 4, hc => absurd hc (by simp only [En.n]; omega))⟩, Rf rfl, trivial⟩ rfl rfl, ?_⟩
  show a.length - (i.k + 1) < a.length - i.k
  omega
 have k1 := c1
 try simp only [cnd] at c1
 refine AW.exit ?_
 dsimp only [thenQ, blockQ, reduceIte]
 refine AW.seq (AW.region ?_)
 refine qq Qt.move ?_
 refine nm ?_
 refine qq Qt.assign ?_
 refine nl ?_
 refine AW.weak (L' := [.rt 7 .row (tr a), .sl 2 (.h 7 [])]) (Weak.sim ⟨⟨_, rfl, trMix_full (by omega) rfl (fun _ _ => rfl)⟩, rfl, trivial⟩ rfl rfl) ?_
 refine AW.ret (endQ_ret (.cons (.tmp 2) .nil) ?_)
 refine ⟨fun _ => 7, rfl, nodup_of rfl, ?_⟩
 intro r hr
 cases List.mem_singleton.1 hr
 exact ⟨by simp, rootL_mem rfl⟩
set_option maxHeartbeats 8000000 in
set_option maxRecDepth 10000 in
theorem toInsSS_con (a : List (List DIns)) (hw : Mk.wt a ≤ 1048576) : Con Try.prog 16 [.h base []] [.rt base .ro (tr a)] (Ret (.h 0 []) [(0, .row, tr a)]) := by
 refine Con.of_body Try.func16 rfl (by simp) ?_
 rw [Try.ntmps16]
 have hw2 : a.length + wtL Mk.wt a ≤ 1048576 := hw
 refine AW.seq (AW.region ?_)
 refine qq Qt.assign ?_
 refine nl ?_
 refine AW.seq (AW.region ?_)
 refine qq Qt.move ?_
 refine qq (Qt.lenH rfl rfl rfl sl37) ?_
 refine nm ?_
 refine sp (Stp.makeSlice rfl (by decide) (by decide) rfl rfl (by omega) (by omega) (by omega)) ?_
 refine nm ?_
 refine qq Qt.assign ?_
 refine nl ?_
 refine AW.seq (AW.seq (AW.region ?_))
 refine qq Qt.assign ?_
 refine nl ?_
 refine AW.block ?_
 refine AW.weak (L' := [.sl 4 (.v (iv (0 : Nat))), .sl 3 (.h 7 []), .sl 0 (.h base []), .rt 7 .row (trMix (0 : Nat) a.length (fun j => a.getD j En.dflt) fun _ => En.dflt), .rt base .ro (tr a)]) (Weak.sim ⟨rfl, rfl, rfl, ⟨_, rfl, (trMix_start rfl (fun c hc => match c, hc with | 0, _ => sim_nil | c + 1, hc => absurd hc (by simp only [En.n]; omega)))⟩, Rf rfl, trivial⟩ rfl rfl) ?_
 refine AW.loop (fun i : KInv a.length => [.sl 4 (.v (iv i.k)), .sl 3 (.h 7 []), .sl 0 (.h base []), .rt 7 .row (trMix i.k a.length (fun j => a.getD j En.dflt) fun _ => En.dflt), .rt base .ro (tr a)]) (fun i => a.length - i.k) ⟨0, Nat.zero_le _⟩ ?_
 intro i
 have hle := i.le
 refine AW.seq (AW.seq (AW.region ?_))
 refine qq Qt.move ?_
 refine nm ?_
 refine qq Qt.move ?_
 refine qq (Qt.lenH rfl rfl rfl sl37) ?_
 refine qq (Qt.binOp rfl rfl rfl) ?_
 refine nl ?_
 refine AW.cond rfl (fun c1 => ?_) (fun c1 => ?_)
 ·have k1 := c1
  try simp only [cnd] at c1
  have hwk := wtL_get (w := Mk.wt) (d := En.dflt) (l := a) (i := i.k) (by omega)
  refine jd (AW.seq (AW.block (AW.region ?_)))
  refine qq Qt.move ?_
  refine nm ?_
  refine qq Qt.move ?_
  refine qq Qt.move ?_
  refine qq Qt.move ?_
  refine nm ?_
  refine qq (Qt.indexAddr rfl rfl rfl rfl sl37 sz69 (by decide) (by omega)) ?_
  refine qq (Qt.load1 rfl rfl rfl ag69) ?_
  refine sp (Stp.callR rfl (by decide) Try.call41 rfl rfl (toInsS_con _ (by first | omega | (simp only [Int.toNat_natCast]; omega) | (simp only [Mk.wt] at *; omega))) (nodup_of rfl) rfl rfl) ?_
  refine nm ?_
  refine qq (Qt.indexAddr rfl rfl rfl rfl sl39 sz73 (by decide) (by omega)) ?_
  refine ss ?_
  refine nl ?_
  refine AW.region ?_
  refine qq Qt.move ?_
  refine nm ?_
  refine qq (Qt.binOp rfl rfl (by first | exact pbAdd (by omega) | rfl)) ?_
  refine qq Qt.assign ?_
  refine nl ?_
  refine ⟨⟨i.k + 1, by omega⟩, Weak.sim ⟨st1, rfl, rfl, ⟨_, rfl, trMix_next (fun i c hi => by simp only [upd_app, hi, false_and, if_false]; rfl) (fun c hc => match c, hc with | 0, _ => (by simp only [upd_app, eq_self, and_true, and_false, Nat.reduceEqDiff, if_true, if_false]; exact T.sim_refl _) | c + 1, hc => absurd hc (by simp only [En.n]; omega))⟩, Rf rfl, trivial⟩ rfl rfl, ?_⟩
  show a.length - (i.k + 1) < a.length - i.k
  omega
 have k1 := c1
 try simp only [cnd] at c1
 refine AW.exit ?_
 dsimp only [thenQ, blockQ, reduceIte]
 refine AW.seq (AW.region ?_)
 refine qq Qt.move ?_
 refine nm ?_
 refine qq Qt.assign ?_
 refine nl ?_
 refine AW.weak (L' := [.rt 7 .row (tr a), .sl 2 (.h 7 [])]) (Weak.sim ⟨⟨_, rfl, trMix_full (by omega) rfl (fun _ _ => rfl)⟩, rfl, trivial⟩ rfl rfl) ?_
 refine AW.ret (endQ_ret (.cons (.tmp 2) .nil) ?_)
 refine ⟨fun _ => 7, rfl, nodup_of rfl, ?_⟩
 intro r hr
 cases List.mem_singleton.1 hr
 exact ⟨by simp, rootL_mem rfl⟩
structure DCpu where
 Pc : Int
 Regs : List Int
deriving DecidableEq
instance : En DCpu := ⟨2, by omega, fun a => [.v (iv a.Pc), tr a.Regs], fun _ => rfl, fun a => En.fit a.Pc ∧ En.fit a.Regs, ⟨0, []⟩⟩
@[go_sem] theorem cs_Cpu (a : DCpu) : En.cs a = [.v (iv a.Pc), tr a.Regs] := rfl
instance : Mk DCpu := { wt := fun a => Mk.wt a.Regs, cnt := fun a => 1 + (Mk.cnt a.Regs), mark := fun a k => ⟨k, Mk.mark a.Regs (k + 1)⟩, cnt_mk := fun a k => by simp [Mk.cnt_mk] }
structure DProc where
 Pid : Int
 Parent : Int
 State : Int
 Prog : Int
 Cpu : DCpu
 Mem : List Int
 Fds : List Int
 Until : Int
 Code : Int
deriving DecidableEq
instance : En DProc := ⟨10, by omega, fun a => [.v (iv a.Pid), .v (iv a.Parent), .v (iv a.State), .v (iv a.Prog), .v (iv a.Cpu.Pc), tr a.Cpu.Regs, tr a.Mem, tr a.Fds, .v (iv a.Until), .v (iv a.Code)], fun _ => rfl, fun a => En.fit a.Pid ∧ En.fit a.Parent ∧ En.fit a.State ∧ En.fit a.Prog ∧ En.fit a.Cpu ∧ En.fit a.Mem ∧ En.fit a.Fds ∧ En.fit a.Until ∧ En.fit a.Code, ⟨0, 0, 0, 0, ⟨0, []⟩, [], [], 0, 0⟩⟩
@[go_sem] theorem cs_Proc (a : DProc) : En.cs a = [.v (iv a.Pid), .v (iv a.Parent), .v (iv a.State), .v (iv a.Prog), .v (iv a.Cpu.Pc), tr a.Cpu.Regs, tr a.Mem, tr a.Fds, .v (iv a.Until), .v (iv a.Code)] := rfl
instance : Mk DProc := { wt := fun a => Mk.wt a.Cpu.Regs + Mk.wt a.Mem + Mk.wt a.Fds, cnt := fun a => 1 + 1 + 1 + 1 + 1 + (Mk.cnt a.Cpu.Regs) + (Mk.cnt a.Mem) + (Mk.cnt a.Fds) + 1 + 1, mark := fun a k => ⟨k, k + 1, k + 1 + 1, k + 1 + 1 + 1, ⟨k + 1 + 1 + 1 + 1, Mk.mark a.Cpu.Regs (k + 1 + 1 + 1 + 1 + 1)⟩, Mk.mark a.Mem (k + 1 + 1 + 1 + 1 + 1 + (Mk.cnt a.Cpu.Regs : Nat)), Mk.mark a.Fds (k + 1 + 1 + 1 + 1 + 1 + (Mk.cnt a.Cpu.Regs : Nat) + (Mk.cnt a.Mem : Nat)), k + 1 + 1 + 1 + 1 + 1 + (Mk.cnt a.Cpu.Regs : Nat) + (Mk.cnt a.Mem : Nat) + (Mk.cnt a.Fds : Nat), k + 1 + 1 + 1 + 1 + 1 + (Mk.cnt a.Cpu.Regs : Nat) + (Mk.cnt a.Mem : Nat) + (Mk.cnt a.Fds : Nat) + 1⟩, cnt_mk := fun a k => by simp [Mk.cnt_mk] }
theorem cnt_Proc (a : DProc) : Mk.cnt a = 1 + 1 + 1 + 1 + 1 + (Mk.cnt a.Cpu.Regs) + (Mk.cnt a.Mem) + (Mk.cnt a.Fds) + 1 + 1 := rfl
structure DOpen where
 Id : Int
 Kind : Int
 Target : Int
 Off : Int
 Refs : Int
deriving DecidableEq
instance : En DOpen := ⟨5, by omega, fun a => [.v (iv a.Id), .v (iv a.Kind), .v (iv a.Target), .v (iv a.Off), .v (iv a.Refs)], fun _ => rfl, fun a => En.fit a.Id ∧ En.fit a.Kind ∧ En.fit a.Target ∧ En.fit a.Off ∧ En.fit a.Refs, ⟨0, 0, 0, 0, 0⟩⟩
@[go_sem] theorem cs_Open (a : DOpen) : En.cs a = [.v (iv a.Id), .v (iv a.Kind), .v (iv a.Target), .v (iv a.Off), .v (iv a.Refs)] := rfl
instance : Mk DOpen := { wt := fun _ => 0, cnt := fun a => 1 + 1 + 1 + 1 + 1, mark := fun _ k => ⟨k, k + 1, k + 1 + 1, k + 1 + 1 + 1, k + 1 + 1 + 1 + 1⟩, cnt_mk := fun a k => by simp [Mk.cnt_mk] }
theorem cnt_Open (a : DOpen) : Mk.cnt a = 1 + 1 + 1 + 1 + 1 := rfl
structure DPipe where
 Id : Int
 Data : List Int
deriving DecidableEq
instance : En DPipe := ⟨2, by omega, fun a => [.v (iv a.Id), tr a.Data], fun _ => rfl, fun a => En.fit a.Id ∧ En.fit a.Data, ⟨0, []⟩⟩
@[go_sem] theorem cs_Pipe (a : DPipe) : En.cs a = [.v (iv a.Id), tr a.Data] := rfl
instance : Mk DPipe := { wt := fun a => Mk.wt a.Data, cnt := fun a => 1 + (Mk.cnt a.Data), mark := fun a k => ⟨k, Mk.mark a.Data (k + 1)⟩, cnt_mk := fun a k => by simp [Mk.cnt_mk] }
theorem cnt_Pipe (a : DPipe) : Mk.cnt a = 1 + (Mk.cnt a.Data) := rfl
structure DFile where
 Name : Int
 Data : List Int
deriving DecidableEq
instance : En DFile := ⟨2, by omega, fun a => [.v (iv a.Name), tr a.Data], fun _ => rfl, fun a => En.fit a.Name ∧ En.fit a.Data, ⟨0, []⟩⟩
@[go_sem] theorem cs_File (a : DFile) : En.cs a = [.v (iv a.Name), tr a.Data] := rfl
instance : Mk DFile := { wt := fun a => Mk.wt a.Data, cnt := fun a => 1 + (Mk.cnt a.Data), mark := fun a k => ⟨k, Mk.mark a.Data (k + 1)⟩, cnt_mk := fun a k => by simp [Mk.cnt_mk] }
theorem cnt_File (a : DFile) : Mk.cnt a = 1 + (Mk.cnt a.Data) := rfl
structure DUnix where
 Next : Int
 Tick : Int
 Progs : List (List DIns)
 Procs : List DProc
 Opens : List DOpen
 Pipes : List DPipe
 Files : List DFile
 Ready : List Int
 Out : List Int
deriving DecidableEq
instance : En DUnix := ⟨9, by omega, fun a => [.v (iv a.Next), .v (iv a.Tick), tr a.Progs, tr a.Procs, tr a.Opens, tr a.Pipes, tr a.Files, tr a.Ready, tr a.Out], fun _ => rfl, fun a => En.fit a.Next ∧ En.fit a.Tick ∧ En.fit a.Progs ∧ En.fit a.Procs ∧ En.fit a.Opens ∧ En.fit a.Pipes ∧ En.fit a.Files ∧ En.fit a.Ready ∧ En.fit a.Out, ⟨0, 0, [], [], [], [], [], [], []⟩⟩
@[go_sem] theorem cs_Unix (a : DUnix) : En.cs a = [.v (iv a.Next), .v (iv a.Tick), tr a.Progs, tr a.Procs, tr a.Opens, tr a.Pipes, tr a.Files, tr a.Ready, tr a.Out] := rfl
instance : Mk DUnix := { wt := fun a => Mk.wt a.Progs + Mk.wt a.Procs + Mk.wt a.Opens + Mk.wt a.Pipes + Mk.wt a.Files + Mk.wt a.Ready + Mk.wt a.Out, cnt := fun a => 1 + 1 + (Mk.cnt a.Progs) + (Mk.cnt a.Procs) + (Mk.cnt a.Opens) + (Mk.cnt a.Pipes) + (Mk.cnt a.Files) + (Mk.cnt a.Ready) + (Mk.cnt a.Out), mark := fun a k => ⟨k, k + 1, Mk.mark a.Progs (k + 1 + 1), Mk.mark a.Procs (k + 1 + 1 + (Mk.cnt a.Progs : Nat)), Mk.mark a.Opens (k + 1 + 1 + (Mk.cnt a.Progs : Nat) + (Mk.cnt a.Procs : Nat)), Mk.mark a.Pipes (k + 1 + 1 + (Mk.cnt a.Progs : Nat) + (Mk.cnt a.Procs : Nat) + (Mk.cnt a.Opens : Nat)), Mk.mark a.Files (k + 1 + 1 + (Mk.cnt a.Progs : Nat) + (Mk.cnt a.Procs : Nat) + (Mk.cnt a.Opens : Nat) + (Mk.cnt a.Pipes : Nat)), Mk.mark a.Ready (k + 1 + 1 + (Mk.cnt a.Progs : Nat) + (Mk.cnt a.Procs : Nat) + (Mk.cnt a.Opens : Nat) + (Mk.cnt a.Pipes : Nat) + (Mk.cnt a.Files : Nat)), Mk.mark a.Out (k + 1 + 1 + (Mk.cnt a.Progs : Nat) + (Mk.cnt a.Procs : Nat) + (Mk.cnt a.Opens : Nat) + (Mk.cnt a.Pipes : Nat) + (Mk.cnt a.Files : Nat) + (Mk.cnt a.Ready : Nat))⟩, cnt_mk := fun a k => by simp [Mk.cnt_mk] }
set_option maxHeartbeats 8000000 in
set_option maxRecDepth 10000 in
theorem eqIns_con (a b : DIns) : Con Try.prog 88 [.g [.v (iv a.Op), .v (iv a.A), .v (iv a.B), .v (iv a.C)], .g [.v (iv b.Op), .v (iv b.A), .v (iv b.B), .v (iv b.C)]] [] (fun y _ => y = .v (.bool (decide (a = b)))) := by
 refine Con.of_body Try.func88 rfl (by simp) ?_
 rw [Try.ntmps88]
 refine AW.seq (AW.region ?_)
 refine sp (Stp.boxB rfl (by decide) (by decide) rfl rfl rfl rfl) ?_
 refine nm ?_
 refine sp (Stp.boxB rfl (by decide) (by decide) rfl rfl rfl rfl) ?_
 refine nm ?_
 refine qq Qt.assign ?_
 refine nl ?_
 refine AW.seq (AW.seq (AW.region ?_))
 refine qq (fA fl107_0) ?_
 refine qq (Qt.load1 rfl rfl rfl ag3) ?_
 refine nm ?_
 refine qq (fA fl107_0) ?_
 refine qq (Qt.load1 rfl rfl rfl ag3) ?_
 refine qq (Qt.binOp rfl rfl rfl) ?_
 refine nl ?_
 refine AW.cond rfl (fun c1 => ?_) (fun c1 => ?_)
 ·have k1 := c1
  try simp only [cnd] at c1
  refine AW.seq (AW.region ?_)
  refine qq Qt.assign ?_
  refine nl ?_
  refine AW.ret (endQ_ret (.cons (.tmp 4) .nil) ?_)
  simp only [retX, slotL, reduceIte, Nat.reduceEqDiff]
  cases a
  cases b
  simp_all
 have k1 := c1
 try simp only [cnd] at c1
 refine jd (AW.seq (AW.seq (AW.region ?_)))
 refine qq (fA fl107_1) ?_
 refine nm ?_
 refine qq (Qt.load1 rfl rfl rfl ag3) ?_
 refine qq (fA fl107_1) ?_
 refine qq (Qt.load1 rfl rfl rfl ag3) ?_
 refine nm ?_
 refine qq (Qt.binOp rfl rfl rfl) ?_
 refine nl ?_
 refine AW.cond rfl (fun c2 => ?_) (fun c2 => ?_)
 ·have k2 := c2
  try simp only [cnd] at c2
  refine AW.seq (AW.region ?_)
  refine qq Qt.assign ?_
  refine nl ?_
  refine AW.ret (endQ_ret (.cons (.tmp 4) .nil) ?_)
  simp only [retX, slotL, reduceIte, Nat.reduceEqDiff]
  cases a
  cases b
  simp_all
 have k2 := c2
 try simp only [cnd] at c2
 refine jd (AW.seq (AW.seq (AW.region ?_)))
 refine qq (fA fl107_2) ?_
 refine nm ?_
 refine qq (Qt.load1 rfl rfl rfl ag3) ?_
 refine qq (fA fl107_2) ?_
 refine qq (Qt.load1 rfl rfl rfl ag3) ?_
 refine nm ?_
 refine qq (Qt.binOp rfl rfl rfl) ?_
 refine nl ?_
 refine AW.cond rfl (fun c3 => ?_) (fun c3 => ?_)
 ·have k3 := c3
  try simp only [cnd] at c3
  refine AW.seq (AW.region ?_)
  refine qq Qt.assign ?_
  refine nl ?_
  refine AW.ret (endQ_ret (.cons (.tmp 4) .nil) ?_)
  simp only [retX, slotL, reduceIte, Nat.reduceEqDiff]
  cases a
  cases b
  simp_all
 have k3 := c3
 try simp only [cnd] at c3
 refine jd (AW.seq (AW.seq (AW.region ?_)))
 refine qq (fA fl107_3) ?_
 refine nm ?_
 refine qq (Qt.load1 rfl rfl rfl ag3) ?_
 refine qq (fA fl107_3) ?_
 refine qq (Qt.load1 rfl rfl rfl ag3) ?_
 refine nm ?_
 refine qq (Qt.binOp rfl rfl rfl) ?_
 refine nl ?_
 refine AW.cond rfl (fun c4 => ?_) (fun c4 => ?_)
 ·have k4 := c4
  try simp only [cnd] at c4
  refine AW.seq (AW.region ?_)
  refine qq Qt.assign ?_
  refine nl ?_
  refine AW.ret (endQ_ret (.cons (.tmp 4) .nil) ?_)
  simp only [retX, slotL, reduceIte, Nat.reduceEqDiff]
  cases a
  cases b
  simp_all
 have k4 := c4
 try simp only [cnd] at c4
 refine jd (AW.seq (AW.region ?_))
 refine qq Qt.assign ?_
 refine nl ?_
 refine AW.ret (endQ_ret (.cons (.tmp 4) .nil) ?_)
 simp only [retX, slotL, reduceIte, Nat.reduceEqDiff]
 cases a
 cases b
 simp_all
set_option maxHeartbeats 8000000 in
set_option maxRecDepth 10000 in
theorem eqInsS_con (a b : List DIns) : Con Try.prog 53 [.h base [], .h (base + 1) []] [.rt base .ro (tr a), .rt (base + 1) .ro (tr b)] (fun y _ => y = .v (.bool (decide (a = b)))) := by
 refine Con.of_body Try.func53 rfl (by simp) ?_
 rw [Try.ntmps53]
 refine AW.len base [] rfl (by simp [Okp]) rfl (fun hl => ?_)
 refine AW.len (base + 1) [] rfl (by simp [Okp]) rfl (fun hl2 => ?_)
 refine AW.seq (AW.region ?_)
 refine qq Qt.assign ?_
 refine nl ?_
 refine AW.seq (AW.seq (AW.region ?_))
 refine qq Qt.move ?_
 refine qq (Qt.lenH rfl rfl rfl sl73) ?_
 refine nm ?_
 refine qq Qt.move ?_
 refine qq (Qt.lenH rfl rfl rfl sl73) ?_
 refine qq (Qt.binOp rfl rfl rfl) ?_
 refine nl ?_
 refine AW.cond rfl (fun c1 => ?_) (fun c1 => ?_)
 ·have k1 := c1
  try simp only [cnd] at c1
  refine AW.seq (AW.region ?_)
  refine qq Qt.assign ?_
  refine nl ?_
  refine AW.ret (endQ_ret (.cons (.tmp 4) .nil) ?_)
  simp only [retX, slotL, reduceIte, Nat.reduceEqDiff]
  rw [decide_eq_false (show a ≠ b from ne_of_len (by omega))]
 have k1 := c1
 try simp only [cnd] at c1
 refine jd (AW.seq (AW.seq (AW.region ?_)))
 refine qq Qt.assign ?_
 refine nl ?_
 refine AW.block ?_
 refine AW.loopW (fun i : EqInv a b => [.sl 5 (.v (iv i.k)), .sl 0 (.h base []), .sl 1 (.h (base + 1) []), .rt base .ro (tr a), .rt (base + 1) .ro (tr b)]) (fun i => a.length - i.k) ⟨0, Nat.zero_le _, rfl⟩ (Weak.sim ⟨rfl, rfl, rfl, Rf rfl, Rf rfl, trivial⟩ rfl rfl) ?_
 intro i
 have hle := i.le
 refine AW.seq (AW.seq (AW.region ?_))
 refine qq Qt.move ?_
 refine nm ?_
 refine qq Qt.move ?_
 refine qq (Qt.lenH rfl rfl rfl sl73) ?_
 refine qq (Qt.binOp rfl rfl rfl) ?_
 refine nl ?_
 refine AW.cond rfl (fun c2 => ?_) (fun c2 => ?_)
 ·have k2 := c2
  try simp only [cnd] at c2
  refine jd (AW.seq (AW.block (AW.seq ?_)))
  refine AW.draw [0, 1, 2, 3, 4, 5, 6, 7, 9] rfl (by decide +kernel) ?_
  refine tk 0 rfl Qt.move ?_
  refine na ?_
  refine tk 1 rfl Qt.move ?_
  refine tk 2 rfl (Qt.indexAddr rfl rfl rfl rfl sl73 sz107 (by decide) (by omega)) ?_
  refine tk 3 rfl (Qt.loadG rfl rfl rfl ag107 sz107 (by decide)) ?_
  refine na ?_
  refine tk 4 rfl Qt.move ?_
  refine tk 5 rfl Qt.move ?_
  refine tk 6 rfl (Qt.indexAddr rfl rfl rfl rfl sl73 sz107 (by decide) (by omega)) ?_
  refine na ?_
  refine tk 7 rfl (Qt.loadG rfl rfl rfl ag107 sz107 (by decide)) ?_
  refine a1 8 [] [7, 3, 6, 2, 5, 4, 1, 0] rfl rfl (Stp.callV rfl (by decide) Try.call88 rfl rfl (eqIns_con _ _)) ?_
  refine na ?_
  refine na ?_
  refine tk 9 rfl (Qt.notB rfl) ?_
  refine nz ?_
  refine AW.cond rfl (fun c3 => ?_) (fun c3 => ?_)
  ·have k3 := c3
   try simp only [cnd] at c3
   refine AW.seq (AW.region ?_)
   refine qq Qt.assign ?_
   refine nl ?_
   refine AW.ret (endQ_ret (.cons (.tmp 4) .nil) ?_)
   simp only [retX, slotL, reduceIte, Nat.reduceEqDiff]
   rw [decide_eq_false (show a ≠ b from i.stop En.dflt (by simpa using c3))]
  have k3 := c3
  try simp only [cnd] at c3
  refine jd (AW.region ?_)
  refine qq Qt.move ?_
  refine nm ?_
  refine qq (Qt.binOp rfl rfl (by first | exact pbAdd (by omega) | rfl)) ?_
  refine qq Qt.assign ?_
  refine nl ?_
  refine ⟨⟨i.k + 1, by omega, i.next En.dflt (by omega) (by omega) (by simpa using c3)⟩, Weak.sim ⟨st1, rfl, rfl, Rf rfl, Rf rfl, trivial⟩ rfl rfl, ?_⟩
  show a.length - (i.k + 1) < a.length - i.k
  omega
 have k2 := c2
 try simp only [cnd] at c2
 refine AW.exit ?_
 dsimp only [thenQ, blockQ, reduceIte]
 refine AW.seq (AW.region ?_)
 refine qq Qt.assign ?_
 refine nl ?_
 refine AW.ret (endQ_ret (.cons (.tmp 4) .nil) ?_)
 simp only [retX, slotL, reduceIte, Nat.reduceEqDiff]
 rw [decide_eq_true (show a = b from i.full (by omega) (by omega))]
set_option maxHeartbeats 8000000 in
set_option maxRecDepth 10000 in
theorem eqInsSS_con (a b : List (List DIns)) : Con Try.prog 19 [.h base [], .h (base + 1) []] [.rt base .ro (tr a), .rt (base + 1) .ro (tr b)] (fun y _ => y = .v (.bool (decide (a = b)))) := by
 refine Con.of_body Try.func19 rfl (by simp) ?_
 rw [Try.ntmps19]
 refine AW.len base [] rfl (by simp [Okp]) rfl (fun hl => ?_)
 refine AW.len (base + 1) [] rfl (by simp [Okp]) rfl (fun hl2 => ?_)
 refine AW.seq (AW.region ?_)
 refine qq Qt.assign ?_
 refine nl ?_
 refine AW.seq (AW.seq (AW.region ?_))
 refine qq Qt.move ?_
 refine qq (Qt.lenH rfl rfl rfl sl39) ?_
 refine nm ?_
 refine qq Qt.move ?_
 refine qq (Qt.lenH rfl rfl rfl sl39) ?_
 refine qq (Qt.binOp rfl rfl rfl) ?_
 refine nl ?_
 refine AW.cond rfl (fun c1 => ?_) (fun c1 => ?_)
 ·have k1 := c1
  try simp only [cnd] at c1
  refine AW.seq (AW.region ?_)
  refine qq Qt.assign ?_
  refine nl ?_
  refine AW.ret (endQ_ret (.cons (.tmp 4) .nil) ?_)
  simp only [retX, slotL, reduceIte, Nat.reduceEqDiff]
  rw [decide_eq_false (show a ≠ b from ne_of_len (by omega))]
 have k1 := c1
 try simp only [cnd] at c1
 refine jd (AW.seq (AW.seq (AW.region ?_)))
 refine qq Qt.assign ?_
 refine nl ?_
 refine AW.block ?_
 refine AW.loopW (fun i : EqInv a b => [.sl 5 (.v (iv i.k)), .sl 0 (.h base []), .sl 1 (.h (base + 1) []), .rt base .ro (tr a), .rt (base + 1) .ro (tr b)]) (fun i => a.length - i.k) ⟨0, Nat.zero_le _, rfl⟩ (Weak.sim ⟨rfl, rfl, rfl, Rf rfl, Rf rfl, trivial⟩ rfl rfl) ?_
 intro i
 have hle := i.le
 refine AW.seq (AW.seq (AW.region ?_))
 refine qq Qt.move ?_
 refine nm ?_
 refine qq Qt.move ?_
 refine qq (Qt.lenH rfl rfl rfl sl39) ?_
 refine qq (Qt.binOp rfl rfl rfl) ?_
 refine nl ?_
 refine AW.cond rfl (fun c2 => ?_) (fun c2 => ?_)
 ·have k2 := c2
  try simp only [cnd] at c2
  refine jd (AW.seq (AW.block (AW.seq ?_)))
  refine AW.draw [0, 1, 2, 3, 4, 5, 6, 7, 9] rfl (by decide +kernel) ?_
  refine tk 0 rfl Qt.move ?_
  refine na ?_
  refine tk 1 rfl Qt.move ?_
  refine tk 2 rfl (Qt.indexAddr rfl rfl rfl rfl sl39 sz73 (by decide) (by omega)) ?_
  refine tk 3 rfl (Qt.load1 rfl rfl rfl ag73) ?_
  refine na ?_
  refine tk 4 rfl Qt.move ?_
  refine tk 5 rfl Qt.move ?_
  refine tk 6 rfl (Qt.indexAddr rfl rfl rfl rfl sl39 sz73 (by decide) (by omega)) ?_
  refine na ?_
  refine tk 7 rfl (Qt.load1 rfl rfl rfl ag73) ?_
  refine a1 8 [] [7, 3, 6, 2, 5, 4, 1, 0] rfl rfl (Stp.callV rfl (by decide) Try.call53 rfl rfl (eqInsS_con _ _)) ?_
  refine na ?_
  refine na ?_
  refine tk 9 rfl (Qt.notB rfl) ?_
  refine nz ?_
  refine AW.cond rfl (fun c3 => ?_) (fun c3 => ?_)
  ·have k3 := c3
   try simp only [cnd] at c3
   refine AW.seq (AW.region ?_)
   refine qq Qt.assign ?_
   refine nl ?_
   refine AW.ret (endQ_ret (.cons (.tmp 4) .nil) ?_)
   simp only [retX, slotL, reduceIte, Nat.reduceEqDiff]
   rw [decide_eq_false (show a ≠ b from i.stop En.dflt (by simpa using c3))]
  have k3 := c3
  try simp only [cnd] at c3
  refine jd (AW.region ?_)
  refine qq Qt.move ?_
  refine nm ?_
  refine qq (Qt.binOp rfl rfl (by first | exact pbAdd (by omega) | rfl)) ?_
  refine qq Qt.assign ?_
  refine nl ?_
  refine ⟨⟨i.k + 1, by omega, i.next En.dflt (by omega) (by omega) (by simpa using c3)⟩, Weak.sim ⟨st1, rfl, rfl, Rf rfl, Rf rfl, trivial⟩ rfl rfl, ?_⟩
  show a.length - (i.k + 1) < a.length - i.k
  omega
 have k2 := c2
 try simp only [cnd] at c2
 refine AW.exit ?_
 dsimp only [thenQ, blockQ, reduceIte]
 refine AW.seq (AW.region ?_)
 refine qq Qt.assign ?_
 refine nl ?_
 refine AW.ret (endQ_ret (.cons (.tmp 4) .nil) ?_)
 simp only [retX, slotL, reduceIte, Nat.reduceEqDiff]
 rw [decide_eq_true (show a = b from i.full (by omega) (by omega))]
set_option maxHeartbeats 8000000 in
set_option maxRecDepth 10000 in
theorem eqIntS_con (a b : List Int) : Con Try.prog 52 [.h base [], .h (base + 1) []] [.rt base .ro (tr a), .rt (base + 1) .ro (tr b)] (fun y _ => y = .v (.bool (decide (a = b)))) := by
 refine Con.of_body Try.func52 rfl (by simp) ?_
 rw [Try.ntmps52]
 refine AW.len base [] rfl (by simp [Okp]) rfl (fun hl => ?_)
 refine AW.len (base + 1) [] rfl (by simp [Okp]) rfl (fun hl2 => ?_)
 refine AW.seq (AW.region ?_)
 refine qq Qt.assign ?_
 refine nl ?_
 refine AW.seq (AW.seq (AW.region ?_))
 refine qq Qt.move ?_
 refine qq (Qt.lenH rfl rfl rfl sl35) ?_
 refine nm ?_
 refine qq Qt.move ?_
 refine qq (Qt.lenH rfl rfl rfl sl35) ?_
 refine qq (Qt.binOp rfl rfl rfl) ?_
 refine nl ?_
 refine AW.cond rfl (fun c1 => ?_) (fun c1 => ?_)
 ·have k1 := c1
  try simp only [cnd] at c1
  refine AW.seq (AW.region ?_)
  refine qq Qt.assign ?_
  refine nl ?_
  refine AW.ret (endQ_ret (.cons (.tmp 4) .nil) ?_)
  simp only [retX, slotL, reduceIte, Nat.reduceEqDiff]
  rw [decide_eq_false (show a ≠ b from ne_of_len (by omega))]
 have k1 := c1
 try simp only [cnd] at c1
 refine jd (AW.seq (AW.seq (AW.region ?_)))
 refine qq Qt.assign ?_
 refine nl ?_
 refine AW.block ?_
 refine AW.loopW (fun i : EqInv a b => [.sl 5 (.v (iv i.k)), .sl 0 (.h base []), .sl 1 (.h (base + 1) []), .rt base .ro (tr a), .rt (base + 1) .ro (tr b)]) (fun i => a.length - i.k) ⟨0, Nat.zero_le _, rfl⟩ (Weak.sim ⟨rfl, rfl, rfl, Rf rfl, Rf rfl, trivial⟩ rfl rfl) ?_
 intro i
 have hle := i.le
 refine AW.seq (AW.seq (AW.region ?_))
 refine qq Qt.move ?_
 refine nm ?_
 refine qq Qt.move ?_
 refine qq (Qt.lenH rfl rfl rfl sl35) ?_
 refine qq (Qt.binOp rfl rfl rfl) ?_
 refine nl ?_
 refine AW.cond rfl (fun c2 => ?_) (fun c2 => ?_)
 ·have k2 := c2
  try simp only [cnd] at c2
  refine jd (AW.seq (AW.block (AW.seq ?_)))
  refine AW.draw [0, 1, 2, 3, 4, 5, 6, 7, 8] rfl (by decide +kernel) ?_
  refine tk 0 rfl Qt.move ?_
  refine na ?_
  refine tk 1 rfl Qt.move ?_
  refine tk 2 rfl (Qt.indexAddr rfl rfl rfl rfl sl35 sz3 (by decide) (by omega)) ?_
  refine tk 3 rfl (Qt.load1 rfl rfl rfl ag3) ?_
  refine na ?_
  refine tk 4 rfl Qt.move ?_
  refine tk 5 rfl Qt.move ?_
  refine tk 6 rfl (Qt.indexAddr rfl rfl rfl rfl sl35 sz3 (by decide) (by omega)) ?_
  refine na ?_
  refine tk 7 rfl (Qt.load1 rfl rfl rfl ag3) ?_
  refine tk 8 rfl (Qt.binOp rfl rfl rfl) ?_
  refine nz ?_
  refine AW.cond rfl (fun c3 => ?_) (fun c3 => ?_)
  ·have k3 := c3
   try simp only [cnd] at c3
   refine AW.seq (AW.region ?_)
   refine qq Qt.assign ?_
   refine nl ?_
   refine AW.ret (endQ_ret (.cons (.tmp 4) .nil) ?_)
   simp only [retX, slotL, reduceIte, Nat.reduceEqDiff]
   rw [decide_eq_false (show a ≠ b from i.stop En.dflt (by simpa using c3))]
  have k3 := c3
  try simp only [cnd] at c3
  refine jd (AW.region ?_)
  refine qq Qt.move ?_
  refine nm ?_
  refine qq (Qt.binOp rfl rfl (by first | exact pbAdd (by omega) | rfl)) ?_
  refine qq Qt.assign ?_
  refine nl ?_
  refine ⟨⟨i.k + 1, by omega, i.next En.dflt (by omega) (by omega) (by simpa using c3)⟩, Weak.sim ⟨st1, rfl, rfl, Rf rfl, Rf rfl, trivial⟩ rfl rfl, ?_⟩
  show a.length - (i.k + 1) < a.length - i.k
  omega
 have k2 := c2
 try simp only [cnd] at c2
 refine AW.exit ?_
 dsimp only [thenQ, blockQ, reduceIte]
 refine AW.seq (AW.region ?_)
 refine qq Qt.assign ?_
 refine nl ?_
 refine AW.ret (endQ_ret (.cons (.tmp 4) .nil) ?_)
 simp only [retX, slotL, reduceIte, Nat.reduceEqDiff]
 rw [decide_eq_true (show a = b from i.full (by omega) (by omega))]
set_option maxHeartbeats 8000000 in
set_option maxRecDepth 10000 in
theorem eqCpu_con (a b : DCpu) : Con Try.prog 105 [.g [.v (iv a.Pc), .h base []], .g [.v (iv b.Pc), .h (base + 1) []]] [.rt base .ro (tr a.Regs), .rt (base + 1) .ro (tr b.Regs)] (fun y _ => y = .v (.bool (decide (a = b)))) := by
 refine Con.of_body Try.func105 rfl (by simp) ?_
 rw [Try.ntmps105]
 refine AW.seq (AW.region ?_)
 refine sp (Stp.boxB rfl (by decide) (by decide) rfl rfl rfl rfl) ?_
 refine nm ?_
 refine sp (Stp.boxB rfl (by decide) (by decide) rfl rfl rfl rfl) ?_
 refine nm ?_
 refine qq Qt.assign ?_
 refine nl ?_
 refine AW.seq (AW.seq (AW.region ?_))
 refine qq (fA fl76_0) ?_
 refine qq (Qt.load1 rfl rfl rfl ag3) ?_
 refine nm ?_
 refine qq (fA fl76_0) ?_
 refine qq (Qt.load1 rfl rfl rfl ag3) ?_
 refine qq (Qt.binOp rfl rfl rfl) ?_
 refine nl ?_
 refine AW.cond rfl (fun c1 => ?_) (fun c1 => ?_)
 ·have k1 := c1
  try simp only [cnd] at c1
  refine AW.seq (AW.region ?_)
  refine qq Qt.assign ?_
  refine nl ?_
  refine AW.ret (endQ_ret (.cons (.tmp 4) .nil) ?_)
  simp only [retX, slotL, reduceIte, Nat.reduceEqDiff]
  cases a
  cases b
  simp_all
 have k1 := c1
 try simp only [cnd] at c1
 refine jd (AW.seq (AW.seq (AW.region ?_)))
 refine qq (fA fl76_1) ?_
 refine nm ?_
 refine qq (Qt.load1 rfl rfl rfl ag35) ?_
 refine qq (fA fl76_1) ?_
 refine qq (Qt.load1 rfl rfl rfl ag35) ?_
 refine nm ?_
 refine cv Try.call52 rfl rfl (eqIntS_con _ _) ?_
 refine nm ?_
 refine qq (Qt.notB rfl) ?_
 refine nl ?_
 refine AW.cond rfl (fun c2 => ?_) (fun c2 => ?_)
 ·have k2 := c2
  try simp only [cnd] at c2
  refine AW.seq (AW.region ?_)
  refine qq Qt.assign ?_
  refine nl ?_
  refine AW.ret (endQ_ret (.cons (.tmp 4) .nil) ?_)
  simp only [retX, slotL, reduceIte, Nat.reduceEqDiff]
  cases a
  cases b
  simp_all
 have k2 := c2
 try simp only [cnd] at c2
 refine jd (AW.seq (AW.region ?_))
 refine qq Qt.assign ?_
 refine nl ?_
 refine AW.ret (endQ_ret (.cons (.tmp 4) .nil) ?_)
 simp only [retX, slotL, reduceIte, Nat.reduceEqDiff]
 cases a
 cases b
 simp_all
set_option maxHeartbeats 8000000 in
set_option maxRecDepth 10000 in
theorem eqProc_con (a b : DProc) : Con Try.prog 84 [.g [.v (iv a.Pid), .v (iv a.Parent), .v (iv a.State), .v (iv a.Prog), .v (iv a.Cpu.Pc), .h base [], .h (base + 1) [], .h (base + 2) [], .v (iv a.Until), .v (iv a.Code)], .g [.v (iv b.Pid), .v (iv b.Parent), .v (iv b.State), .v (iv b.Prog), .v (iv b.Cpu.Pc), .h (base + 3) [], .h (base + 4) [], .h (base + 5) [], .v (iv b.Until), .v (iv b.Code)]] [.rt base .ro (tr a.Cpu.Regs), .rt (base + 1) .ro (tr a.Mem), .rt (base + 2) .ro (tr a.Fds), .rt (base + 3) .ro (tr b.Cpu.Regs), .rt (base + 4) .ro (tr b.Mem), .rt (base + 5) .ro (tr b.Fds)] (fun y _ => y = .v (.bool (decide (a = b)))) := by
 refine Con.of_body Try.func84 rfl (by simp) ?_
 rw [Try.ntmps84]
 refine AW.seq (AW.region ?_)
 refine sp (Stp.boxB rfl (by decide) (by decide) rfl rfl rfl rfl) ?_
 refine nm ?_
 refine sp (Stp.boxB rfl (by decide) (by decide) rfl rfl rfl rfl) ?_
 refine nm ?_
 refine qq Qt.assign ?_
 refine nl ?_
 refine AW.seq (AW.seq (AW.region ?_))
 refine qq (fA fl78_0) ?_
 refine qq (Qt.load1 rfl rfl rfl ag3) ?_
 refine nm ?_
 refine qq (fA fl78_0) ?_
 refine qq (Qt.load1 rfl rfl rfl ag3) ?_
 refine qq (Qt.binOp rfl rfl rfl) ?_
 refine nl ?_
 refine AW.cond rfl (fun c1 => ?_) (fun c1 => ?_)
 ·have k1 := c1
  try simp only [cnd] at c1
  refine AW.seq (AW.region ?_)
  refine qq Qt.assign ?_
  refine nl ?_
  refine AW.ret (endQ_ret (.cons (.tmp 4) .nil) ?_)
  simp only [retX, slotL, reduceIte, Nat.reduceEqDiff]
  cases a
  cases b
  simp_all
 have k1 := c1
 try simp only [cnd] at c1
 refine jd (AW.seq (AW.seq (AW.region ?_)))
 refine qq (fA fl78_1) ?_
 refine nm ?_
 refine qq (Qt.load1 rfl rfl rfl ag3) ?_
 refine qq (fA fl78_1) ?_
 refine qq (Qt.load1 rfl rfl rfl ag3) ?_
 refine nm ?_
 refine qq (Qt.binOp rfl rfl rfl) ?_
 refine nl ?_
 refine AW.cond rfl (fun c2 => ?_) (fun c2 => ?_)
 ·have k2 := c2
  try simp only [cnd] at c2
  refine AW.seq (AW.region ?_)
  refine qq Qt.assign ?_
  refine nl ?_
  refine AW.ret (endQ_ret (.cons (.tmp 4) .nil) ?_)
  simp only [retX, slotL, reduceIte, Nat.reduceEqDiff]
  cases a
  cases b
  simp_all
 have k2 := c2
 try simp only [cnd] at c2
 refine jd (AW.seq (AW.seq (AW.region ?_)))
 refine qq (fA fl78_2) ?_
 refine nm ?_
 refine qq (Qt.load1 rfl rfl rfl ag3) ?_
 refine qq (fA fl78_2) ?_
 refine qq (Qt.load1 rfl rfl rfl ag3) ?_
 refine nm ?_
 refine qq (Qt.binOp rfl rfl rfl) ?_
 refine nl ?_
 refine AW.cond rfl (fun c3 => ?_) (fun c3 => ?_)
 ·have k3 := c3
  try simp only [cnd] at c3
  refine AW.seq (AW.region ?_)
  refine qq Qt.assign ?_
  refine nl ?_
  refine AW.ret (endQ_ret (.cons (.tmp 4) .nil) ?_)
  simp only [retX, slotL, reduceIte, Nat.reduceEqDiff]
  cases a
  cases b
  simp_all
 have k3 := c3
 try simp only [cnd] at c3
 refine jd (AW.seq (AW.seq (AW.region ?_)))
 refine qq (fA fl78_3) ?_
 refine nm ?_
 refine qq (Qt.load1 rfl rfl rfl ag3) ?_
 refine qq (fA fl78_3) ?_
 refine qq (Qt.load1 rfl rfl rfl ag3) ?_
 refine nm ?_
 refine qq (Qt.binOp rfl rfl rfl) ?_
 refine nl ?_
 refine AW.cond rfl (fun c4 => ?_) (fun c4 => ?_)
 ·have k4 := c4
  try simp only [cnd] at c4
  refine AW.seq (AW.region ?_)
  refine qq Qt.assign ?_
  refine nl ?_
  refine AW.ret (endQ_ret (.cons (.tmp 4) .nil) ?_)
  simp only [retX, slotL, reduceIte, Nat.reduceEqDiff]
  cases a
  cases b
  simp_all
 have k4 := c4
 try simp only [cnd] at c4
 refine jd (AW.seq (AW.seq (AW.region ?_)))
 refine qq (fA fl78_4) ?_
 refine nm ?_
 refine qq (Qt.loadG rfl rfl rfl ag76 sz76 (by decide)) ?_
 refine qq (fA fl78_4) ?_
 refine qq (Qt.loadG rfl rfl rfl ag76 sz76 (by decide)) ?_
 refine nm ?_
 refine cv Try.call105 rfl rfl (eqCpu_con _ _) ?_
 refine nm ?_
 refine qq (Qt.notB rfl) ?_
 refine nl ?_
 refine AW.cond rfl (fun c5 => ?_) (fun c5 => ?_)
 ·have k5 := c5
  try simp only [cnd] at c5
  refine AW.seq (AW.region ?_)
  refine qq Qt.assign ?_
  refine nl ?_
  refine AW.ret (endQ_ret (.cons (.tmp 4) .nil) ?_)
  simp only [retX, slotL, reduceIte, Nat.reduceEqDiff]
  cases a
  cases b
  simp_all
 have k5 := c5
 try simp only [cnd] at c5
 refine jd (AW.seq (AW.seq (AW.region ?_)))
 refine qq (fA fl78_5) ?_
 refine nm ?_
 refine qq (Qt.load1 rfl rfl rfl ag35) ?_
 refine qq (fA fl78_5) ?_
 refine qq (Qt.load1 rfl rfl rfl ag35) ?_
 refine nm ?_
 refine cv Try.call52 rfl rfl (eqIntS_con _ _) ?_
 refine nm ?_
 refine qq (Qt.notB rfl) ?_
 refine nl ?_
 refine AW.cond rfl (fun c6 => ?_) (fun c6 => ?_)
 ·have k6 := c6
  try simp only [cnd] at c6
  refine AW.seq (AW.region ?_)
  refine qq Qt.assign ?_
  refine nl ?_
  refine AW.ret (endQ_ret (.cons (.tmp 4) .nil) ?_)
  simp only [retX, slotL, reduceIte, Nat.reduceEqDiff]
  cases a
  cases b
  simp_all
 have k6 := c6
 try simp only [cnd] at c6
 refine jd (AW.seq (AW.seq (AW.region ?_)))
 refine qq (fA fl78_6) ?_
 refine nm ?_
 refine qq (Qt.load1 rfl rfl rfl ag35) ?_
 refine qq (fA fl78_6) ?_
 refine qq (Qt.load1 rfl rfl rfl ag35) ?_
 refine nm ?_
 refine cv Try.call52 rfl rfl (eqIntS_con _ _) ?_
 refine nm ?_
 refine qq (Qt.notB rfl) ?_
 refine nl ?_
 refine AW.cond rfl (fun c7 => ?_) (fun c7 => ?_)
 ·have k7 := c7
  try simp only [cnd] at c7
  refine AW.seq (AW.region ?_)
  refine qq Qt.assign ?_
  refine nl ?_
  refine AW.ret (endQ_ret (.cons (.tmp 4) .nil) ?_)
  simp only [retX, slotL, reduceIte, Nat.reduceEqDiff]
  cases a
  cases b
  simp_all
 have k7 := c7
 try simp only [cnd] at c7
 refine jd (AW.seq (AW.seq (AW.region ?_)))
 refine qq (fA fl78_7) ?_
 refine nm ?_
 refine qq (Qt.load1 rfl rfl rfl ag3) ?_
 refine qq (fA fl78_7) ?_
 refine qq (Qt.load1 rfl rfl rfl ag3) ?_
 refine nm ?_
 refine qq (Qt.binOp rfl rfl rfl) ?_
 refine nl ?_
 refine AW.cond rfl (fun c8 => ?_) (fun c8 => ?_)
 ·have k8 := c8
  try simp only [cnd] at c8
  refine AW.seq (AW.region ?_)
  refine qq Qt.assign ?_
  refine nl ?_
  refine AW.ret (endQ_ret (.cons (.tmp 4) .nil) ?_)
  simp only [retX, slotL, reduceIte, Nat.reduceEqDiff]
  cases a
  cases b
  simp_all
 have k8 := c8
 try simp only [cnd] at c8
 refine jd (AW.seq (AW.seq (AW.region ?_)))
 refine qq (fA fl78_8) ?_
 refine nm ?_
 refine qq (Qt.load1 rfl rfl rfl ag3) ?_
 refine qq (fA fl78_8) ?_
 refine qq (Qt.load1 rfl rfl rfl ag3) ?_
 refine nm ?_
 refine qq (Qt.binOp rfl rfl rfl) ?_
 refine nl ?_
 refine AW.cond rfl (fun c9 => ?_) (fun c9 => ?_)
 ·have k9 := c9
  try simp only [cnd] at c9
  refine AW.seq (AW.region ?_)
  refine qq Qt.assign ?_
  refine nl ?_
  refine AW.ret (endQ_ret (.cons (.tmp 4) .nil) ?_)
  simp only [retX, slotL, reduceIte, Nat.reduceEqDiff]
  cases a
  cases b
  simp_all
 have k9 := c9
 try simp only [cnd] at c9
 refine jd (AW.seq (AW.region ?_))
 refine qq Qt.assign ?_
 refine nl ?_
 refine AW.ret (endQ_ret (.cons (.tmp 4) .nil) ?_)
 simp only [retX, slotL, reduceIte, Nat.reduceEqDiff]
 cases a
 cases b
 simp_all
set_option maxHeartbeats 8000000 in
set_option maxRecDepth 10000 in
theorem eqProcS_con (a b : List DProc) : Con Try.prog 48 [.h base [], .h (base + 1) []] [.rt base .ro (tr a), .rt (base + 1) .ro (tr b)] (fun y _ => y = .v (.bool (decide (a = b)))) := by
 refine Con.of_body Try.func48 rfl (by simp) ?_
 rw [Try.ntmps48]
 refine AW.len base [] rfl (by simp [Okp]) rfl (fun hl => ?_)
 refine AW.len (base + 1) [] rfl (by simp [Okp]) rfl (fun hl2 => ?_)
 refine AW.seq (AW.region ?_)
 refine qq Qt.assign ?_
 refine nl ?_
 refine AW.seq (AW.seq (AW.region ?_))
 refine qq Qt.move ?_
 refine qq (Qt.lenH rfl rfl rfl sl40) ?_
 refine nm ?_
 refine qq Qt.move ?_
 refine qq (Qt.lenH rfl rfl rfl sl40) ?_
 refine qq (Qt.binOp rfl rfl rfl) ?_
 refine nl ?_
 refine AW.cond rfl (fun c1 => ?_) (fun c1 => ?_)
 ·have k1 := c1
  try simp only [cnd] at c1
  refine AW.seq (AW.region ?_)
  refine qq Qt.assign ?_
  refine nl ?_
  refine AW.ret (endQ_ret (.cons (.tmp 4) .nil) ?_)
  simp only [retX, slotL, reduceIte, Nat.reduceEqDiff]
  rw [decide_eq_false (show a ≠ b from ne_of_len (by omega))]
 have k1 := c1
 try simp only [cnd] at c1
 refine jd (AW.seq (AW.seq (AW.region ?_)))
 refine qq Qt.assign ?_
 refine nl ?_
 refine AW.block ?_
 refine AW.loopW (fun i : EqInv a b => [.sl 5 (.v (iv i.k)), .sl 0 (.h base []), .sl 1 (.h (base + 1) []), .rt base .ro (tr a), .rt (base + 1) .ro (tr b)]) (fun i => a.length - i.k) ⟨0, Nat.zero_le _, rfl⟩ (Weak.sim ⟨rfl, rfl, rfl, Rf rfl, Rf rfl, trivial⟩ rfl rfl) ?_
 intro i
 have hle := i.le
 refine AW.seq (AW.seq (AW.region ?_))
 refine qq Qt.move ?_
 refine nm ?_
 refine qq Qt.move ?_
 refine qq (Qt.lenH rfl rfl rfl sl40) ?_
 refine qq (Qt.binOp rfl rfl rfl) ?_
 refine nl ?_
 refine AW.cond rfl (fun c2 => ?_) (fun c2 => ?_)
 ·have k2 := c2
  try simp only [cnd] at c2
  refine jd (AW.seq (AW.block (AW.seq ?_)))
  refine AW.draw [0, 1, 2, 3, 4, 5, 6, 7, 9] rfl (by decide +kernel) ?_
  refine tk 0 rfl Qt.move ?_
  refine na ?_
  refine tk 1 rfl Qt.move ?_
  refine tk 2 rfl (Qt.indexAddr rfl rfl rfl rfl sl40 sz78 (by decide) (by omega)) ?_
  refine tk 3 rfl (Qt.loadG rfl rfl rfl ag78 sz78 (by decide)) ?_
  refine na ?_
  refine tk 4 rfl Qt.move ?_
  refine tk 5 rfl Qt.move ?_
  refine tk 6 rfl (Qt.indexAddr rfl rfl rfl rfl sl40 sz78 (by decide) (by omega)) ?_
  refine na ?_
  refine tk 7 rfl (Qt.loadG rfl rfl rfl ag78 sz78 (by decide)) ?_
  refine a1 8 [] [7, 3, 6, 2, 5, 4, 1, 0] rfl rfl (Stp.callV rfl (by decide) Try.call84 rfl rfl (eqProc_con _ _)) ?_
  refine na ?_
  refine na ?_
  refine tk 9 rfl (Qt.notB rfl) ?_
  refine nz ?_
  refine AW.cond rfl (fun c3 => ?_) (fun c3 => ?_)
  ·have k3 := c3
   try simp only [cnd] at c3
   refine AW.seq (AW.region ?_)
   refine qq Qt.assign ?_
   refine nl ?_
   refine AW.ret (endQ_ret (.cons (.tmp 4) .nil) ?_)
   simp only [retX, slotL, reduceIte, Nat.reduceEqDiff]
   rw [decide_eq_false (show a ≠ b from i.stop En.dflt (by simpa using c3))]
  have k3 := c3
  try simp only [cnd] at c3
  refine jd (AW.region ?_)
  refine qq Qt.move ?_
  refine nm ?_
  refine qq (Qt.binOp rfl rfl (by first | exact pbAdd (by omega) | rfl)) ?_
  refine qq Qt.assign ?_
  refine nl ?_
  refine ⟨⟨i.k + 1, by omega, i.next En.dflt (by omega) (by omega) (by simpa using c3)⟩, Weak.sim ⟨st1, rfl, rfl, Rf rfl, Rf rfl, trivial⟩ rfl rfl, ?_⟩
  show a.length - (i.k + 1) < a.length - i.k
  omega
 have k2 := c2
 try simp only [cnd] at c2
 refine AW.exit ?_
 dsimp only [thenQ, blockQ, reduceIte]
 refine AW.seq (AW.region ?_)
 refine qq Qt.assign ?_
 refine nl ?_
 refine AW.ret (endQ_ret (.cons (.tmp 4) .nil) ?_)
 simp only [retX, slotL, reduceIte, Nat.reduceEqDiff]
 rw [decide_eq_true (show a = b from i.full (by omega) (by omega))]
set_option maxHeartbeats 8000000 in
set_option maxRecDepth 10000 in
theorem eqOpen_con (a b : DOpen) : Con Try.prog 85 [.g [.v (iv a.Id), .v (iv a.Kind), .v (iv a.Target), .v (iv a.Off), .v (iv a.Refs)], .g [.v (iv b.Id), .v (iv b.Kind), .v (iv b.Target), .v (iv b.Off), .v (iv b.Refs)]] [] (fun y _ => y = .v (.bool (decide (a = b)))) := by
 refine Con.of_body Try.func85 rfl (by simp) ?_
 rw [Try.ntmps85]
 refine AW.seq (AW.region ?_)
 refine sp (Stp.boxB rfl (by decide) (by decide) rfl rfl rfl rfl) ?_
 refine nm ?_
 refine sp (Stp.boxB rfl (by decide) (by decide) rfl rfl rfl rfl) ?_
 refine nm ?_
 refine qq Qt.assign ?_
 refine nl ?_
 refine AW.seq (AW.seq (AW.region ?_))
 refine qq (fA fl72_0) ?_
 refine qq (Qt.load1 rfl rfl rfl ag3) ?_
 refine nm ?_
 refine qq (fA fl72_0) ?_
 refine qq (Qt.load1 rfl rfl rfl ag3) ?_
 refine qq (Qt.binOp rfl rfl rfl) ?_
 refine nl ?_
 refine AW.cond rfl (fun c1 => ?_) (fun c1 => ?_)
 ·have k1 := c1
  try simp only [cnd] at c1
  refine AW.seq (AW.region ?_)
  refine qq Qt.assign ?_
  refine nl ?_
  refine AW.ret (endQ_ret (.cons (.tmp 4) .nil) ?_)
  simp only [retX, slotL, reduceIte, Nat.reduceEqDiff]
  cases a
  cases b
  simp_all
 have k1 := c1
 try simp only [cnd] at c1
 refine jd (AW.seq (AW.seq (AW.region ?_)))
 refine qq (fA fl72_1) ?_
 refine nm ?_
 refine qq (Qt.load1 rfl rfl rfl ag3) ?_
 refine qq (fA fl72_1) ?_
 refine qq (Qt.load1 rfl rfl rfl ag3) ?_
 refine nm ?_
 refine qq (Qt.binOp rfl rfl rfl) ?_
 refine nl ?_
 refine AW.cond rfl (fun c2 => ?_) (fun c2 => ?_)
 ·have k2 := c2
  try simp only [cnd] at c2
  refine AW.seq (AW.region ?_)
  refine qq Qt.assign ?_
  refine nl ?_
  refine AW.ret (endQ_ret (.cons (.tmp 4) .nil) ?_)
  simp only [retX, slotL, reduceIte, Nat.reduceEqDiff]
  cases a
  cases b
  simp_all
 have k2 := c2
 try simp only [cnd] at c2
 refine jd (AW.seq (AW.seq (AW.region ?_)))
 refine qq (fA fl72_2) ?_
 refine nm ?_
 refine qq (Qt.load1 rfl rfl rfl ag3) ?_
 refine qq (fA fl72_2) ?_
 refine qq (Qt.load1 rfl rfl rfl ag3) ?_
 refine nm ?_
 refine qq (Qt.binOp rfl rfl rfl) ?_
 refine nl ?_
 refine AW.cond rfl (fun c3 => ?_) (fun c3 => ?_)
 ·have k3 := c3
  try simp only [cnd] at c3
  refine AW.seq (AW.region ?_)
  refine qq Qt.assign ?_
  refine nl ?_
  refine AW.ret (endQ_ret (.cons (.tmp 4) .nil) ?_)
  simp only [retX, slotL, reduceIte, Nat.reduceEqDiff]
  cases a
  cases b
  simp_all
 have k3 := c3
 try simp only [cnd] at c3
 refine jd (AW.seq (AW.seq (AW.region ?_)))
 refine qq (fA fl72_3) ?_
 refine nm ?_
 refine qq (Qt.load1 rfl rfl rfl ag3) ?_
 refine qq (fA fl72_3) ?_
 refine qq (Qt.load1 rfl rfl rfl ag3) ?_
 refine nm ?_
 refine qq (Qt.binOp rfl rfl rfl) ?_
 refine nl ?_
 refine AW.cond rfl (fun c4 => ?_) (fun c4 => ?_)
 ·have k4 := c4
  try simp only [cnd] at c4
  refine AW.seq (AW.region ?_)
  refine qq Qt.assign ?_
  refine nl ?_
  refine AW.ret (endQ_ret (.cons (.tmp 4) .nil) ?_)
  simp only [retX, slotL, reduceIte, Nat.reduceEqDiff]
  cases a
  cases b
  simp_all
 have k4 := c4
 try simp only [cnd] at c4
 refine jd (AW.seq (AW.seq (AW.region ?_)))
 refine qq (fA fl72_4) ?_
 refine nm ?_
 refine qq (Qt.load1 rfl rfl rfl ag3) ?_
 refine qq (fA fl72_4) ?_
 refine qq (Qt.load1 rfl rfl rfl ag3) ?_
 refine nm ?_
 refine qq (Qt.binOp rfl rfl rfl) ?_
 refine nl ?_
 refine AW.cond rfl (fun c5 => ?_) (fun c5 => ?_)
 ·have k5 := c5
  try simp only [cnd] at c5
  refine AW.seq (AW.region ?_)
  refine qq Qt.assign ?_
  refine nl ?_
  refine AW.ret (endQ_ret (.cons (.tmp 4) .nil) ?_)
  simp only [retX, slotL, reduceIte, Nat.reduceEqDiff]
  cases a
  cases b
  simp_all
 have k5 := c5
 try simp only [cnd] at c5
 refine jd (AW.seq (AW.region ?_))
 refine qq Qt.assign ?_
 refine nl ?_
 refine AW.ret (endQ_ret (.cons (.tmp 4) .nil) ?_)
 simp only [retX, slotL, reduceIte, Nat.reduceEqDiff]
 cases a
 cases b
 simp_all
set_option maxHeartbeats 8000000 in
set_option maxRecDepth 10000 in
theorem eqOpenS_con (a b : List DOpen) : Con Try.prog 49 [.h base [], .h (base + 1) []] [.rt base .ro (tr a), .rt (base + 1) .ro (tr b)] (fun y _ => y = .v (.bool (decide (a = b)))) := by
 refine Con.of_body Try.func49 rfl (by simp) ?_
 rw [Try.ntmps49]
 refine AW.len base [] rfl (by simp [Okp]) rfl (fun hl => ?_)
 refine AW.len (base + 1) [] rfl (by simp [Okp]) rfl (fun hl2 => ?_)
 refine AW.seq (AW.region ?_)
 refine qq Qt.assign ?_
 refine nl ?_
 refine AW.seq (AW.seq (AW.region ?_))
 refine qq Qt.move ?_
 refine qq (Qt.lenH rfl rfl rfl sl41) ?_
 refine nm ?_
 refine qq Qt.move ?_
 refine qq (Qt.lenH rfl rfl rfl sl41) ?_
 refine qq (Qt.binOp rfl rfl rfl) ?_
 refine nl ?_
 refine AW.cond rfl (fun c1 => ?_) (fun c1 => ?_)
 ·have k1 := c1
  try simp only [cnd] at c1
  refine AW.seq (AW.region ?_)
  refine qq Qt.assign ?_
  refine nl ?_
  refine AW.ret (endQ_ret (.cons (.tmp 4) .nil) ?_)
  simp only [retX, slotL, reduceIte, Nat.reduceEqDiff]
  rw [decide_eq_false (show a ≠ b from ne_of_len (by omega))]
 have k1 := c1
 try simp only [cnd] at c1
 refine jd (AW.seq (AW.seq (AW.region ?_)))
 refine qq Qt.assign ?_
 refine nl ?_
 refine AW.block ?_
 refine AW.loopW (fun i : EqInv a b => [.sl 5 (.v (iv i.k)), .sl 0 (.h base []), .sl 1 (.h (base + 1) []), .rt base .ro (tr a), .rt (base + 1) .ro (tr b)]) (fun i => a.length - i.k) ⟨0, Nat.zero_le _, rfl⟩ (Weak.sim ⟨rfl, rfl, rfl, Rf rfl, Rf rfl, trivial⟩ rfl rfl) ?_
 intro i
 have hle := i.le
 refine AW.seq (AW.seq (AW.region ?_))
 refine qq Qt.move ?_
 refine nm ?_
 refine qq Qt.move ?_
 refine qq (Qt.lenH rfl rfl rfl sl41) ?_
 refine qq (Qt.binOp rfl rfl rfl) ?_
 refine nl ?_
 refine AW.cond rfl (fun c2 => ?_) (fun c2 => ?_)
 ·have k2 := c2
  try simp only [cnd] at c2
  refine jd (AW.seq (AW.block (AW.seq ?_)))
  refine AW.draw [0, 1, 2, 3, 4, 5, 6, 7, 9] rfl (by decide +kernel) ?_
  refine tk 0 rfl Qt.move ?_
  refine na ?_
  refine tk 1 rfl Qt.move ?_
  refine tk 2 rfl (Qt.indexAddr rfl rfl rfl rfl sl41 sz72 (by decide) (by omega)) ?_
  refine tk 3 rfl (Qt.loadG rfl rfl rfl ag72 sz72 (by decide)) ?_
  refine na ?_
  refine tk 4 rfl Qt.move ?_
  refine tk 5 rfl Qt.move ?_
  refine tk 6 rfl (Qt.indexAddr rfl rfl rfl rfl sl41 sz72 (by decide) (by omega)) ?_
  refine na ?_
  refine tk 7 rfl (Qt.loadG rfl rfl rfl ag72 sz72 (by decide)) ?_
  refine a1 8 [] [7, 3, 6, 2, 5, 4, 1, 0] rfl rfl (Stp.callV rfl (by decide) Try.call85 rfl rfl (eqOpen_con _ _)) ?_
  refine na ?_
  refine na ?_
  refine tk 9 rfl (Qt.notB rfl) ?_
  refine nz ?_
  refine AW.cond rfl (fun c3 => ?_) (fun c3 => ?_)
  ·have k3 := c3
   try simp only [cnd] at c3
   refine AW.seq (AW.region ?_)
   refine qq Qt.assign ?_
   refine nl ?_
   refine AW.ret (endQ_ret (.cons (.tmp 4) .nil) ?_)
   simp only [retX, slotL, reduceIte, Nat.reduceEqDiff]
   rw [decide_eq_false (show a ≠ b from i.stop En.dflt (by simpa using c3))]
  have k3 := c3
  try simp only [cnd] at c3
  refine jd (AW.region ?_)
  refine qq Qt.move ?_
  refine nm ?_
  refine qq (Qt.binOp rfl rfl (by first | exact pbAdd (by omega) | rfl)) ?_
  refine qq Qt.assign ?_
  refine nl ?_
  refine ⟨⟨i.k + 1, by omega, i.next En.dflt (by omega) (by omega) (by simpa using c3)⟩, Weak.sim ⟨st1, rfl, rfl, Rf rfl, Rf rfl, trivial⟩ rfl rfl, ?_⟩
  show a.length - (i.k + 1) < a.length - i.k
  omega
 have k2 := c2
 try simp only [cnd] at c2
 refine AW.exit ?_
 dsimp only [thenQ, blockQ, reduceIte]
 refine AW.seq (AW.region ?_)
 refine qq Qt.assign ?_
 refine nl ?_
 refine AW.ret (endQ_ret (.cons (.tmp 4) .nil) ?_)
 simp only [retX, slotL, reduceIte, Nat.reduceEqDiff]
 rw [decide_eq_true (show a = b from i.full (by omega) (by omega))]
set_option maxHeartbeats 8000000 in
set_option maxRecDepth 10000 in
theorem eqPipe_con (a b : DPipe) : Con Try.prog 86 [.g [.v (iv a.Id), .h base []], .g [.v (iv b.Id), .h (base + 1) []]] [.rt base .ro (tr a.Data), .rt (base + 1) .ro (tr b.Data)] (fun y _ => y = .v (.bool (decide (a = b)))) := by
 refine Con.of_body Try.func86 rfl (by simp) ?_
 rw [Try.ntmps86]
 refine AW.seq (AW.region ?_)
 refine sp (Stp.boxB rfl (by decide) (by decide) rfl rfl rfl rfl) ?_
 refine nm ?_
 refine sp (Stp.boxB rfl (by decide) (by decide) rfl rfl rfl rfl) ?_
 refine nm ?_
 refine qq Qt.assign ?_
 refine nl ?_
 refine AW.seq (AW.seq (AW.region ?_))
 refine qq (fA fl119_0) ?_
 refine qq (Qt.load1 rfl rfl rfl ag3) ?_
 refine nm ?_
 refine qq (fA fl119_0) ?_
 refine qq (Qt.load1 rfl rfl rfl ag3) ?_
 refine qq (Qt.binOp rfl rfl rfl) ?_
 refine nl ?_
 refine AW.cond rfl (fun c1 => ?_) (fun c1 => ?_)
 ·have k1 := c1
  try simp only [cnd] at c1
  refine AW.seq (AW.region ?_)
  refine qq Qt.assign ?_
  refine nl ?_
  refine AW.ret (endQ_ret (.cons (.tmp 4) .nil) ?_)
  simp only [retX, slotL, reduceIte, Nat.reduceEqDiff]
  cases a
  cases b
  simp_all
 have k1 := c1
 try simp only [cnd] at c1
 refine jd (AW.seq (AW.seq (AW.region ?_)))
 refine qq (fA fl119_1) ?_
 refine nm ?_
 refine qq (Qt.load1 rfl rfl rfl ag35) ?_
 refine qq (fA fl119_1) ?_
 refine qq (Qt.load1 rfl rfl rfl ag35) ?_
 refine nm ?_
 refine cv Try.call52 rfl rfl (eqIntS_con _ _) ?_
 refine nm ?_
 refine qq (Qt.notB rfl) ?_
 refine nl ?_
 refine AW.cond rfl (fun c2 => ?_) (fun c2 => ?_)
 ·have k2 := c2
  try simp only [cnd] at c2
  refine AW.seq (AW.region ?_)
  refine qq Qt.assign ?_
  refine nl ?_
  refine AW.ret (endQ_ret (.cons (.tmp 4) .nil) ?_)
  simp only [retX, slotL, reduceIte, Nat.reduceEqDiff]
  cases a
  cases b
  simp_all
 have k2 := c2
 try simp only [cnd] at c2
 refine jd (AW.seq (AW.region ?_))
 refine qq Qt.assign ?_
 refine nl ?_
 refine AW.ret (endQ_ret (.cons (.tmp 4) .nil) ?_)
 simp only [retX, slotL, reduceIte, Nat.reduceEqDiff]
 cases a
 cases b
 simp_all
set_option maxHeartbeats 8000000 in
set_option maxRecDepth 10000 in
theorem eqPipeS_con (a b : List DPipe) : Con Try.prog 50 [.h base [], .h (base + 1) []] [.rt base .ro (tr a), .rt (base + 1) .ro (tr b)] (fun y _ => y = .v (.bool (decide (a = b)))) := by
 refine Con.of_body Try.func50 rfl (by simp) ?_
 rw [Try.ntmps50]
 refine AW.len base [] rfl (by simp [Okp]) rfl (fun hl => ?_)
 refine AW.len (base + 1) [] rfl (by simp [Okp]) rfl (fun hl2 => ?_)
 refine AW.seq (AW.region ?_)
 refine qq Qt.assign ?_
 refine nl ?_
 refine AW.seq (AW.seq (AW.region ?_))
 refine qq Qt.move ?_
 refine qq (Qt.lenH rfl rfl rfl sl42) ?_
 refine nm ?_
 refine qq Qt.move ?_
 refine qq (Qt.lenH rfl rfl rfl sl42) ?_
 refine qq (Qt.binOp rfl rfl rfl) ?_
 refine nl ?_
 refine AW.cond rfl (fun c1 => ?_) (fun c1 => ?_)
 ·have k1 := c1
  try simp only [cnd] at c1
  refine AW.seq (AW.region ?_)
  refine qq Qt.assign ?_
  refine nl ?_
  refine AW.ret (endQ_ret (.cons (.tmp 4) .nil) ?_)
  simp only [retX, slotL, reduceIte, Nat.reduceEqDiff]
  rw [decide_eq_false (show a ≠ b from ne_of_len (by omega))]
 have k1 := c1
 try simp only [cnd] at c1
 refine jd (AW.seq (AW.seq (AW.region ?_)))
 refine qq Qt.assign ?_
 refine nl ?_
 refine AW.block ?_
 refine AW.loopW (fun i : EqInv a b => [.sl 5 (.v (iv i.k)), .sl 0 (.h base []), .sl 1 (.h (base + 1) []), .rt base .ro (tr a), .rt (base + 1) .ro (tr b)]) (fun i => a.length - i.k) ⟨0, Nat.zero_le _, rfl⟩ (Weak.sim ⟨rfl, rfl, rfl, Rf rfl, Rf rfl, trivial⟩ rfl rfl) ?_
 intro i
 have hle := i.le
 refine AW.seq (AW.seq (AW.region ?_))
 refine qq Qt.move ?_
 refine nm ?_
 refine qq Qt.move ?_
 refine qq (Qt.lenH rfl rfl rfl sl42) ?_
 refine qq (Qt.binOp rfl rfl rfl) ?_
 refine nl ?_
 refine AW.cond rfl (fun c2 => ?_) (fun c2 => ?_)
 ·have k2 := c2
  try simp only [cnd] at c2
  refine jd (AW.seq (AW.block (AW.seq ?_)))
  refine AW.draw [0, 1, 2, 3, 4, 5, 6, 7, 9] rfl (by decide +kernel) ?_
  refine tk 0 rfl Qt.move ?_
  refine na ?_
  refine tk 1 rfl Qt.move ?_
  refine tk 2 rfl (Qt.indexAddr rfl rfl rfl rfl sl42 sz119 (by decide) (by omega)) ?_
  refine tk 3 rfl (Qt.loadG rfl rfl rfl ag119 sz119 (by decide)) ?_
  refine na ?_
  refine tk 4 rfl Qt.move ?_
  refine tk 5 rfl Qt.move ?_
  refine tk 6 rfl (Qt.indexAddr rfl rfl rfl rfl sl42 sz119 (by decide) (by omega)) ?_
  refine na ?_
  refine tk 7 rfl (Qt.loadG rfl rfl rfl ag119 sz119 (by decide)) ?_
  refine a1 8 [] [7, 3, 6, 2, 5, 4, 1, 0] rfl rfl (Stp.callV rfl (by decide) Try.call86 rfl rfl (eqPipe_con _ _)) ?_
  refine na ?_
  refine na ?_
  refine tk 9 rfl (Qt.notB rfl) ?_
  refine nz ?_
  refine AW.cond rfl (fun c3 => ?_) (fun c3 => ?_)
  ·have k3 := c3
   try simp only [cnd] at c3
   refine AW.seq (AW.region ?_)
   refine qq Qt.assign ?_
   refine nl ?_
   refine AW.ret (endQ_ret (.cons (.tmp 4) .nil) ?_)
   simp only [retX, slotL, reduceIte, Nat.reduceEqDiff]
   rw [decide_eq_false (show a ≠ b from i.stop En.dflt (by simpa using c3))]
  have k3 := c3
  try simp only [cnd] at c3
  refine jd (AW.region ?_)
  refine qq Qt.move ?_
  refine nm ?_
  refine qq (Qt.binOp rfl rfl (by first | exact pbAdd (by omega) | rfl)) ?_
  refine qq Qt.assign ?_
  refine nl ?_
  refine ⟨⟨i.k + 1, by omega, i.next En.dflt (by omega) (by omega) (by simpa using c3)⟩, Weak.sim ⟨st1, rfl, rfl, Rf rfl, Rf rfl, trivial⟩ rfl rfl, ?_⟩
  show a.length - (i.k + 1) < a.length - i.k
  omega
 have k2 := c2
 try simp only [cnd] at c2
 refine AW.exit ?_
 dsimp only [thenQ, blockQ, reduceIte]
 refine AW.seq (AW.region ?_)
 refine qq Qt.assign ?_
 refine nl ?_
 refine AW.ret (endQ_ret (.cons (.tmp 4) .nil) ?_)
 simp only [retX, slotL, reduceIte, Nat.reduceEqDiff]
 rw [decide_eq_true (show a = b from i.full (by omega) (by omega))]
set_option maxHeartbeats 8000000 in
set_option maxRecDepth 10000 in
theorem eqFile_con (a b : DFile) : Con Try.prog 87 [.g [.v (iv a.Name), .h base []], .g [.v (iv b.Name), .h (base + 1) []]] [.rt base .ro (tr a.Data), .rt (base + 1) .ro (tr b.Data)] (fun y _ => y = .v (.bool (decide (a = b)))) := by
 refine Con.of_body Try.func87 rfl (by simp) ?_
 rw [Try.ntmps87]
 refine AW.seq (AW.region ?_)
 refine sp (Stp.boxB rfl (by decide) (by decide) rfl rfl rfl rfl) ?_
 refine nm ?_
 refine sp (Stp.boxB rfl (by decide) (by decide) rfl rfl rfl rfl) ?_
 refine nm ?_
 refine qq Qt.assign ?_
 refine nl ?_
 refine AW.seq (AW.seq (AW.region ?_))
 refine qq (fA fl122_0) ?_
 refine qq (Qt.load1 rfl rfl rfl ag3) ?_
 refine nm ?_
 refine qq (fA fl122_0) ?_
 refine qq (Qt.load1 rfl rfl rfl ag3) ?_
 refine qq (Qt.binOp rfl rfl rfl) ?_
 refine nl ?_
 refine AW.cond rfl (fun c1 => ?_) (fun c1 => ?_)
 ·have k1 := c1
  try simp only [cnd] at c1
  refine AW.seq (AW.region ?_)
  refine qq Qt.assign ?_
  refine nl ?_
  refine AW.ret (endQ_ret (.cons (.tmp 4) .nil) ?_)
  simp only [retX, slotL, reduceIte, Nat.reduceEqDiff]
  cases a
  cases b
  simp_all
 have k1 := c1
 try simp only [cnd] at c1
 refine jd (AW.seq (AW.seq (AW.region ?_)))
 refine qq (fA fl122_1) ?_
 refine nm ?_
 refine qq (Qt.load1 rfl rfl rfl ag35) ?_
 refine qq (fA fl122_1) ?_
 refine qq (Qt.load1 rfl rfl rfl ag35) ?_
 refine nm ?_
 refine cv Try.call52 rfl rfl (eqIntS_con _ _) ?_
 refine nm ?_
 refine qq (Qt.notB rfl) ?_
 refine nl ?_
 refine AW.cond rfl (fun c2 => ?_) (fun c2 => ?_)
 ·have k2 := c2
  try simp only [cnd] at c2
  refine AW.seq (AW.region ?_)
  refine qq Qt.assign ?_
  refine nl ?_
  refine AW.ret (endQ_ret (.cons (.tmp 4) .nil) ?_)
  simp only [retX, slotL, reduceIte, Nat.reduceEqDiff]
  cases a
  cases b
  simp_all
 have k2 := c2
 try simp only [cnd] at c2
 refine jd (AW.seq (AW.region ?_))
 refine qq Qt.assign ?_
 refine nl ?_
 refine AW.ret (endQ_ret (.cons (.tmp 4) .nil) ?_)
 simp only [retX, slotL, reduceIte, Nat.reduceEqDiff]
 cases a
 cases b
 simp_all
set_option maxHeartbeats 8000000 in
set_option maxRecDepth 10000 in
theorem eqFileS_con (a b : List DFile) : Con Try.prog 51 [.h base [], .h (base + 1) []] [.rt base .ro (tr a), .rt (base + 1) .ro (tr b)] (fun y _ => y = .v (.bool (decide (a = b)))) := by
 refine Con.of_body Try.func51 rfl (by simp) ?_
 rw [Try.ntmps51]
 refine AW.len base [] rfl (by simp [Okp]) rfl (fun hl => ?_)
 refine AW.len (base + 1) [] rfl (by simp [Okp]) rfl (fun hl2 => ?_)
 refine AW.seq (AW.region ?_)
 refine qq Qt.assign ?_
 refine nl ?_
 refine AW.seq (AW.seq (AW.region ?_))
 refine qq Qt.move ?_
 refine qq (Qt.lenH rfl rfl rfl sl43) ?_
 refine nm ?_
 refine qq Qt.move ?_
 refine qq (Qt.lenH rfl rfl rfl sl43) ?_
 refine qq (Qt.binOp rfl rfl rfl) ?_
 refine nl ?_
 refine AW.cond rfl (fun c1 => ?_) (fun c1 => ?_)
 ·have k1 := c1
  try simp only [cnd] at c1
  refine AW.seq (AW.region ?_)
  refine qq Qt.assign ?_
  refine nl ?_
  refine AW.ret (endQ_ret (.cons (.tmp 4) .nil) ?_)
  simp only [retX, slotL, reduceIte, Nat.reduceEqDiff]
  rw [decide_eq_false (show a ≠ b from ne_of_len (by omega))]
 have k1 := c1
 try simp only [cnd] at c1
 refine jd (AW.seq (AW.seq (AW.region ?_)))
 refine qq Qt.assign ?_
 refine nl ?_
 refine AW.block ?_
 refine AW.loopW (fun i : EqInv a b => [.sl 5 (.v (iv i.k)), .sl 0 (.h base []), .sl 1 (.h (base + 1) []), .rt base .ro (tr a), .rt (base + 1) .ro (tr b)]) (fun i => a.length - i.k) ⟨0, Nat.zero_le _, rfl⟩ (Weak.sim ⟨rfl, rfl, rfl, Rf rfl, Rf rfl, trivial⟩ rfl rfl) ?_
 intro i
 have hle := i.le
 refine AW.seq (AW.seq (AW.region ?_))
 refine qq Qt.move ?_
 refine nm ?_
 refine qq Qt.move ?_
 refine qq (Qt.lenH rfl rfl rfl sl43) ?_
 refine qq (Qt.binOp rfl rfl rfl) ?_
 refine nl ?_
 refine AW.cond rfl (fun c2 => ?_) (fun c2 => ?_)
 ·have k2 := c2
  try simp only [cnd] at c2
  refine jd (AW.seq (AW.block (AW.seq ?_)))
  refine AW.draw [0, 1, 2, 3, 4, 5, 6, 7, 9] rfl (by decide +kernel) ?_
  refine tk 0 rfl Qt.move ?_
  refine na ?_
  refine tk 1 rfl Qt.move ?_
  refine tk 2 rfl (Qt.indexAddr rfl rfl rfl rfl sl43 sz122 (by decide) (by omega)) ?_
  refine tk 3 rfl (Qt.loadG rfl rfl rfl ag122 sz122 (by decide)) ?_
  refine na ?_
  refine tk 4 rfl Qt.move ?_
  refine tk 5 rfl Qt.move ?_
  refine tk 6 rfl (Qt.indexAddr rfl rfl rfl rfl sl43 sz122 (by decide) (by omega)) ?_
  refine na ?_
  refine tk 7 rfl (Qt.loadG rfl rfl rfl ag122 sz122 (by decide)) ?_
  refine a1 8 [] [7, 3, 6, 2, 5, 4, 1, 0] rfl rfl (Stp.callV rfl (by decide) Try.call87 rfl rfl (eqFile_con _ _)) ?_
  refine na ?_
  refine na ?_
  refine tk 9 rfl (Qt.notB rfl) ?_
  refine nz ?_
  refine AW.cond rfl (fun c3 => ?_) (fun c3 => ?_)
  ·have k3 := c3
   try simp only [cnd] at c3
   refine AW.seq (AW.region ?_)
   refine qq Qt.assign ?_
   refine nl ?_
   refine AW.ret (endQ_ret (.cons (.tmp 4) .nil) ?_)
   simp only [retX, slotL, reduceIte, Nat.reduceEqDiff]
   rw [decide_eq_false (show a ≠ b from i.stop En.dflt (by simpa using c3))]
  have k3 := c3
  try simp only [cnd] at c3
  refine jd (AW.region ?_)
  refine qq Qt.move ?_
  refine nm ?_
  refine qq (Qt.binOp rfl rfl (by first | exact pbAdd (by omega) | rfl)) ?_
  refine qq Qt.assign ?_
  refine nl ?_
  refine ⟨⟨i.k + 1, by omega, i.next En.dflt (by omega) (by omega) (by simpa using c3)⟩, Weak.sim ⟨st1, rfl, rfl, Rf rfl, Rf rfl, trivial⟩ rfl rfl, ?_⟩
  show a.length - (i.k + 1) < a.length - i.k
  omega
 have k2 := c2
 try simp only [cnd] at c2
 refine AW.exit ?_
 dsimp only [thenQ, blockQ, reduceIte]
 refine AW.seq (AW.region ?_)
 refine qq Qt.assign ?_
 refine nl ?_
 refine AW.ret (endQ_ret (.cons (.tmp 4) .nil) ?_)
 simp only [retX, slotL, reduceIte, Nat.reduceEqDiff]
 rw [decide_eq_true (show a = b from i.full (by omega) (by omega))]
set_option maxHeartbeats 8000000 in
set_option maxRecDepth 10000 in
theorem eqUnix_con (a b : DUnix) : Con Try.prog 18 [.g [.v (iv a.Next), .v (iv a.Tick), .h base [], .h (base + 1) [], .h (base + 2) [], .h (base + 3) [], .h (base + 4) [], .h (base + 5) [], .h (base + 6) []], .g [.v (iv b.Next), .v (iv b.Tick), .h (base + 7) [], .h (base + 8) [], .h (base + 9) [], .h (base + 10) [], .h (base + 11) [], .h (base + 12) [], .h (base + 13) []]] [.rt base .ro (tr a.Progs), .rt (base + 1) .ro (tr a.Procs), .rt (base + 2) .ro (tr a.Opens), .rt (base + 3) .ro (tr a.Pipes), .rt (base + 4) .ro (tr a.Files), .rt (base + 5) .ro (tr a.Ready), .rt (base + 6) .ro (tr a.Out), .rt (base + 7) .ro (tr b.Progs), .rt (base + 8) .ro (tr b.Procs), .rt (base + 9) .ro (tr b.Opens), .rt (base + 10) .ro (tr b.Pipes), .rt (base + 11) .ro (tr b.Files), .rt (base + 12) .ro (tr b.Ready), .rt (base + 13) .ro (tr b.Out)] (fun y _ => y = .v (.bool (decide (a = b)))) := by
 refine Con.of_body Try.func18 rfl (by simp) ?_
 rw [Try.ntmps18]
 refine AW.seq (AW.region ?_)
 refine sp (Stp.boxB rfl (by decide) (by decide) rfl rfl rfl rfl) ?_
 refine nm ?_
 refine sp (Stp.boxB rfl (by decide) (by decide) rfl rfl rfl rfl) ?_
 refine nm ?_
 refine qq Qt.assign ?_
 refine nl ?_
 refine AW.seq (AW.seq (AW.region ?_))
 refine qq (fA fl45_0) ?_
 refine qq (Qt.load1 rfl rfl rfl ag3) ?_
 refine nm ?_
 refine qq (fA fl45_0) ?_
 refine qq (Qt.load1 rfl rfl rfl ag3) ?_
 refine qq (Qt.binOp rfl rfl rfl) ?_
 refine nl ?_
 refine AW.cond rfl (fun c1 => ?_) (fun c1 => ?_)
 ·have k1 := c1
  try simp only [cnd] at c1
  refine AW.seq (AW.region ?_)
  refine qq Qt.assign ?_
  refine nl ?_
  refine AW.ret (endQ_ret (.cons (.tmp 4) .nil) ?_)
  simp only [retX, slotL, reduceIte, Nat.reduceEqDiff]
  cases a
  cases b
  simp_all
 have k1 := c1
 try simp only [cnd] at c1
 refine jd (AW.seq (AW.seq (AW.region ?_)))
 refine qq (fA fl45_1) ?_
 refine nm ?_
 refine qq (Qt.load1 rfl rfl rfl ag3) ?_
 refine qq (fA fl45_1) ?_
 refine qq (Qt.load1 rfl rfl rfl ag3) ?_
 refine nm ?_
 refine qq (Qt.binOp rfl rfl rfl) ?_
 refine nl ?_
 refine AW.cond rfl (fun c2 => ?_) (fun c2 => ?_)
 ·have k2 := c2
  try simp only [cnd] at c2
  refine AW.seq (AW.region ?_)
  refine qq Qt.assign ?_
  refine nl ?_
  refine AW.ret (endQ_ret (.cons (.tmp 4) .nil) ?_)
  simp only [retX, slotL, reduceIte, Nat.reduceEqDiff]
  cases a
  cases b
  simp_all
 have k2 := c2
 try simp only [cnd] at c2
 refine jd (AW.seq (AW.seq (AW.region ?_)))
 refine qq (fA fl45_2) ?_
 refine nm ?_
 refine qq (Qt.load1 rfl rfl rfl ag39) ?_
 refine qq (fA fl45_2) ?_
 refine qq (Qt.load1 rfl rfl rfl ag39) ?_
 refine nm ?_
 refine cv Try.call19 rfl rfl (eqInsSS_con _ _) ?_
 refine nm ?_
 refine qq (Qt.notB rfl) ?_
 refine nl ?_
 refine AW.cond rfl (fun c3 => ?_) (fun c3 => ?_)
 ·have k3 := c3
  try simp only [cnd] at c3
  refine AW.seq (AW.region ?_)
  refine qq Qt.assign ?_
  refine nl ?_
  refine AW.ret (endQ_ret (.cons (.tmp 4) .nil) ?_)
  simp only [retX, slotL, reduceIte, Nat.reduceEqDiff]
  cases a
  cases b
  simp_all
 have k3 := c3
 try simp only [cnd] at c3
 refine jd (AW.seq (AW.seq (AW.region ?_)))
 refine qq (fA fl45_3) ?_
 refine nm ?_
 refine qq (Qt.load1 rfl rfl rfl ag40) ?_
 refine qq (fA fl45_3) ?_
 refine qq (Qt.load1 rfl rfl rfl ag40) ?_
 refine nm ?_
 refine cv Try.call48 rfl rfl (eqProcS_con _ _) ?_
 refine nm ?_
 refine qq (Qt.notB rfl) ?_
 refine nl ?_
 refine AW.cond rfl (fun c4 => ?_) (fun c4 => ?_)
 ·have k4 := c4
  try simp only [cnd] at c4
  refine AW.seq (AW.region ?_)
  refine qq Qt.assign ?_
  refine nl ?_
  refine AW.ret (endQ_ret (.cons (.tmp 4) .nil) ?_)
  simp only [retX, slotL, reduceIte, Nat.reduceEqDiff]
  cases a
  cases b
  simp_all
 have k4 := c4
 try simp only [cnd] at c4
 refine jd (AW.seq (AW.seq (AW.region ?_)))
 refine qq (fA fl45_4) ?_
 refine nm ?_
 refine qq (Qt.load1 rfl rfl rfl ag41) ?_
 refine qq (fA fl45_4) ?_
 refine qq (Qt.load1 rfl rfl rfl ag41) ?_
 refine nm ?_
 refine cv Try.call49 rfl rfl (eqOpenS_con _ _) ?_
 refine nm ?_
 refine qq (Qt.notB rfl) ?_
 refine nl ?_
 refine AW.cond rfl (fun c5 => ?_) (fun c5 => ?_)
 ·have k5 := c5
  try simp only [cnd] at c5
  refine AW.seq (AW.region ?_)
  refine qq Qt.assign ?_
  refine nl ?_
  refine AW.ret (endQ_ret (.cons (.tmp 4) .nil) ?_)
  simp only [retX, slotL, reduceIte, Nat.reduceEqDiff]
  cases a
  cases b
  simp_all
 have k5 := c5
 try simp only [cnd] at c5
 refine jd (AW.seq (AW.seq (AW.region ?_)))
 refine qq (fA fl45_5) ?_
 refine nm ?_
 refine qq (Qt.load1 rfl rfl rfl ag42) ?_
 refine qq (fA fl45_5) ?_
 refine qq (Qt.load1 rfl rfl rfl ag42) ?_
 refine nm ?_
 refine cv Try.call50 rfl rfl (eqPipeS_con _ _) ?_
 refine nm ?_
 refine qq (Qt.notB rfl) ?_
 refine nl ?_
 refine AW.cond rfl (fun c6 => ?_) (fun c6 => ?_)
 ·have k6 := c6
  try simp only [cnd] at c6
  refine AW.seq (AW.region ?_)
  refine qq Qt.assign ?_
  refine nl ?_
  refine AW.ret (endQ_ret (.cons (.tmp 4) .nil) ?_)
  simp only [retX, slotL, reduceIte, Nat.reduceEqDiff]
  cases a
  cases b
  simp_all
 have k6 := c6
 try simp only [cnd] at c6
 refine jd (AW.seq (AW.seq (AW.region ?_)))
 refine qq (fA fl45_6) ?_
 refine nm ?_
 refine qq (Qt.load1 rfl rfl rfl ag43) ?_
 refine qq (fA fl45_6) ?_
 refine qq (Qt.load1 rfl rfl rfl ag43) ?_
 refine nm ?_
 refine cv Try.call51 rfl rfl (eqFileS_con _ _) ?_
 refine nm ?_
 refine qq (Qt.notB rfl) ?_
 refine nl ?_
 refine AW.cond rfl (fun c7 => ?_) (fun c7 => ?_)
 ·have k7 := c7
  try simp only [cnd] at c7
  refine AW.seq (AW.region ?_)
  refine qq Qt.assign ?_
  refine nl ?_
  refine AW.ret (endQ_ret (.cons (.tmp 4) .nil) ?_)
  simp only [retX, slotL, reduceIte, Nat.reduceEqDiff]
  cases a
  cases b
  simp_all
 have k7 := c7
 try simp only [cnd] at c7
 refine jd (AW.seq (AW.seq (AW.region ?_)))
 refine qq (fA fl45_7) ?_
 refine nm ?_
 refine qq (Qt.load1 rfl rfl rfl ag35) ?_
 refine qq (fA fl45_7) ?_
 refine qq (Qt.load1 rfl rfl rfl ag35) ?_
 refine nm ?_
 refine cv Try.call52 rfl rfl (eqIntS_con _ _) ?_
 refine nm ?_
 refine qq (Qt.notB rfl) ?_
 refine nl ?_
 refine AW.cond rfl (fun c8 => ?_) (fun c8 => ?_)
 ·have k8 := c8
  try simp only [cnd] at c8
  refine AW.seq (AW.region ?_)
  refine qq Qt.assign ?_
  refine nl ?_
  refine AW.ret (endQ_ret (.cons (.tmp 4) .nil) ?_)
  simp only [retX, slotL, reduceIte, Nat.reduceEqDiff]
  cases a
  cases b
  simp_all
 have k8 := c8
 try simp only [cnd] at c8
 refine jd (AW.seq (AW.seq (AW.region ?_)))
 refine qq (fA fl45_8) ?_
 refine nm ?_
 refine qq (Qt.load1 rfl rfl rfl ag35) ?_
 refine qq (fA fl45_8) ?_
 refine qq (Qt.load1 rfl rfl rfl ag35) ?_
 refine nm ?_
 refine cv Try.call52 rfl rfl (eqIntS_con _ _) ?_
 refine nm ?_
 refine qq (Qt.notB rfl) ?_
 refine nl ?_
 refine AW.cond rfl (fun c9 => ?_) (fun c9 => ?_)
 ·have k9 := c9
  try simp only [cnd] at c9
  refine AW.seq (AW.region ?_)
  refine qq Qt.assign ?_
  refine nl ?_
  refine AW.ret (endQ_ret (.cons (.tmp 4) .nil) ?_)
  simp only [retX, slotL, reduceIte, Nat.reduceEqDiff]
  cases a
  cases b
  simp_all
 have k9 := c9
 try simp only [cnd] at c9
 refine jd (AW.seq (AW.region ?_))
 refine qq Qt.assign ?_
 refine nl ?_
 refine AW.ret (endQ_ret (.cons (.tmp 4) .nil) ?_)
 simp only [retX, slotL, reduceIte, Nat.reduceEqDiff]
 cases a
 cases b
 simp_all
end Go.Proofs.Ytfbefcmeghpalaa.VM
