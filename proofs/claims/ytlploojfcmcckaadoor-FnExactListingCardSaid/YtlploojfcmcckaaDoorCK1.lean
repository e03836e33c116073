/- Contracts of functions of the program. No conditions beyond those that each states. -/
import Derived.Test.YtlploojfcmcckaaDoorCK0
set_option linter.all false
set_option maxHeartbeats 8000000
set_option maxRecDepth 10000
namespace Go.Proofs.YtlploojfcmcckaaDoor.VM
open Go Go.RowKit Go.Proofs
structure DIns where
 Op : Int
 A : Int
 B : Int
 C : Int
deriving DecidableEq
instance : En DIns := ⟨4, by omega, fun a => [.v (iv a.Op), .v (iv a.A), .v (iv a.B), .v (iv a.C)], fun _ => rfl, fun a => En.fit a.Op ∧ En.fit a.A ∧ En.fit a.B ∧ En.fit a.C, ⟨0, 0, 0, 0⟩⟩
@[go_sem] theorem cs_Ins (a : DIns) : En.cs a = [.v (iv a.Op), .v (iv a.A), .v (iv a.B), .v (iv a.C)] := rfl
instance : Mk DIns := { wt := fun _ => 0, cnt := fun a => 1 + 1 + 1 + 1, mark := fun _ k => ⟨k, k + 1, k + 1 + 1, k + 1 + 1 + 1⟩, cnt_mk := fun a k => by simp [Mk.cnt_mk] }
theorem szInsS_con (a : List DIns) (left : Int) (h1 : -1 ≤ left) (h2 : left ≤ 1048576) : Con Tryd.prog 10 [.h base [], .v (iv left)] [.rt base .ro (tr a)] (fun y _ => y = .v (iv (szd (Mk.wt a) left))) := by
 refine ob Tryd.func10 Tryd.ntmps10 ?_
 have hw : Mk.wt a = a.length := by rw [wt_list, wtL_zero (w := Mk.wt) (fun _ => rfl)]; rfl
 refine AW.len base [] rfl (by simp [Okp]) rfl (fun hl => ?_)
 refine sr ?_
 refine qs' ?_
 refine qm ?_
 refine mn ?_
 refine qh sl24 ?_
 refine qq (Qt.binOp rfl rfl (by first | exact pbSub (by omega) | rfl)) ?_
 refine qn ?_
 refine sr2 ?_
 refine mn ?_
 refine qb ?_
 refine nc (fun c1 => ?_) fun c1 => ?_
 ·try simp only [cnd] at c1
  refine sr ?_
  refine qr 4 ?_
  simp only [retX, slotL, reduceIte, Nat.reduceEqDiff, szd, hw]
  congr 2
  omega
 try simp only [cnd] at c1
 refine jd (sr ?_)
 refine mn ?_
 refine qr 4 ?_
 simp only [retX, slotL, reduceIte, Nat.reduceEqDiff, szd, hw]
 congr 2
 omega
theorem toIns_con (a : DIns) : Con Tryd.prog 34 [.g [.v (iv a.Op), .v (iv a.A), .v (iv a.B), .v (iv a.C)]] [] (Ret (.g [.v (iv a.Op), .v (iv a.A), .v (iv a.B), .v (iv a.C)]) []) := by
 refine ob Tryd.func34 Tryd.ntmps34 ?_
 refine sr ?_
 refine bx ?_
 refine nm ?_
 refine sp sA ?_
 refine ns ?_
 refine sp sA ?_
 refine ns ?_
 refine qq (fA fl56_0) ?_
 refine nm ?_
 refine ql ag3 ?_
 refine qq (fA fl53_0) ?_
 refine ss ?_
 refine ns ?_
 refine qq (fA fl56_1) ?_
 refine nm ?_
 refine ql ag3 ?_
 refine qq (fA fl53_1) ?_
 refine ss ?_
 refine ns ?_
 refine qq (fA fl56_2) ?_
 refine nm ?_
 refine ql ag3 ?_
 refine qq (fA fl53_2) ?_
 refine ss ?_
 refine ns ?_
 refine qq (fA fl56_3) ?_
 refine nm ?_
 refine ql ag3 ?_
 refine qq (fA fl53_3) ?_
 refine ss ?_
 refine ns ?_
 refine qG ag53 sz53 ?_
 refine nm ?_
 refine ss ?_
 refine nl ?_
 refine AW.ret (endQ_ret (.cons (.cellG 2 53 rfl rfl rfl ag53 sz53 (by decide)) .nil) ?_)
 refine ⟨fun _ => 0, rfl, nodup_of rfl, ?_⟩
 intro r hr
 cases hr
theorem toInsS_con (a : List DIns) (hw : Mk.wt a ≤ 1048576) : Con Tryd.prog 12 [.h base []] [.rt base .ro (tr a)] (Ret (.h 0 []) [(0, .row, tr a)]) := by
 refine ob Tryd.func12 Tryd.ntmps12 ?_
 have hw2 : a.length + wtL Mk.wt a ≤ 1048576 := hw
 refine sr ?_
 refine qs' ?_
 refine qm ?_
 refine qh sl24 ?_
 refine nm ?_
 refine sp (Stp.makeSlice rfl (by decide) (by decide) rfl rfl (by omega) (by omega) (by omega)) ?_
 refine nm ?_
 refine qn ?_
 refine sr2 ?_
 refine qn ?_
 refine AW.block ?_
 refine AW.weak (L' := [.sl 4 (.v (iv (0 : Nat))), .sl 3 (.h 7 []), .sl 0 (.h base []), .rt 7 .row (trMix (0 : Nat) a.length (fun j => a.getD j En.dflt) fun _ => En.dflt), .rt base .ro (tr a)]) (Weak.sim ⟨rfl, rfl, rfl, ⟨_, rfl, (trMix_start rfl (fun c hc => match c, hc with | 0, _ => T.sim_refl _ | 1, _ => T.sim_refl _ | 2, _ => T.sim_refl _ | 3, _ => T.sim_refl _ | c + 4, hc => absurd hc (by simp only [En.n]; omega)))⟩, Rf rfl, trivial⟩ rfl rfl) ?_
 refine AW.loop (fun i : KInv a.length => [.sl 4 (.v (iv i.k)), .sl 3 (.h 7 []), .sl 0 (.h base []), .rt 7 .row (trMix i.k a.length (fun j => a.getD j En.dflt) fun _ => En.dflt), .rt base .ro (tr a)]) (fun i => a.length - i.k) ⟨0, Nat.zero_le _⟩ ?_
 intro i
 have hle := i.le
 refine sr2 ?_
 refine mn ?_
 refine qm ?_
 refine qh sl24 ?_
 refine qb ?_
 refine nc (fun c1 => ?_) fun c1 => ?_
 ·try simp only [cnd] at c1
  have hwk := wtL_get (w := Mk.wt) (d := En.dflt) (l := a) (i := i.k) (by omega)
  refine jd (AW.seq (AW.block (AW.region ?_)))
  refine mn ?_
  refine qm ?_
  refine qm ?_
  refine mn ?_
  refine qq (ix sl24 sz56) ?_
  refine qG ag56 sz56 ?_
  refine sp (Stp.callR rfl (by decide) Tryd.call34 rfl rfl (toIns_con _) (nodup_of rfl) rfl rfl) ?_
  refine nm ?_
  refine qq (ix sl27 sz53) ?_
  refine ss ?_
  refine nl ?_
  refine AW.region ?_
  refine mn ?_
  refine ba ?_
  refine qn ?_
  refine ⟨⟨i.k + 1, by omega⟩, Weak.sim ⟨st1, rfl, rfl, ⟨_, rfl, trMix_next (fun i c hi => by simp only [upd_app, hi, false_and, if_false]; rfl) (fun c hc => match c, hc with | 0, _ => (by simp only [upd_app, eq_self, and_true, and_false, Nat.reduceEqDiff, if_true, if_false]; exact T.sim_refl _) | 1, _ => (by simp only [upd_app, eq_self, and_true, and_false, Nat.reduceEqDiff, if_true, if_false]; exact T.sim_refl _) | 2, _ => (by simp only [upd_app, eq_self, and_true, and_false, Nat.reduceEqDiff, if_true, if_false]; exact T.sim_refl _) | 3, _ => (by simp only [upd_app, eq_self, and_true, and_false, Nat.reduceEqDiff, if_true, if_false]; exact T.sim_refl _) | c + 4, hc => absurd hc (by simp only [En.n]; omega))⟩, Rf rfl, trivial⟩ rfl rfl, ?_⟩
  show a.length - (i.k + 1) < a.length - i.k
  omega
 try simp only [cnd] at c1
 refine AW.exit ?_
 dsimp only [thenQ, blockQ, reduceIte]
 refine sr ?_
 refine mn ?_
 refine qn ?_
 refine AW.weak (L' := [.rt 7 .row (tr a), .sl 2 (.h 7 [])]) (Weak.sim ⟨⟨_, rfl, trMix_full (by omega) rfl (fun _ _ => rfl)⟩, rfl, trivial⟩ rfl rfl) ?_
 refine rt1 2 ?_
 refine ⟨fun _ => 7, rfl, nodup_of rfl, ?_⟩
 intro r hr
 cases List.mem_singleton.1 hr
 exact ⟨by simp, rootL_mem rfl⟩
theorem eqIns_con (a b : DIns) : Con Tryd.prog 38 [.g [.v (iv a.Op), .v (iv a.A), .v (iv a.B), .v (iv a.C)], .g [.v (iv b.Op), .v (iv b.A), .v (iv b.B), .v (iv b.C)]] [] (fun y _ => y = .v (.bool (decide (a = b)))) := by
 refine ob Tryd.func38 Tryd.ntmps38 ?_
 refine sr ?_
 refine bx ?_
 refine nm ?_
 refine bx ?_
 refine nm ?_
 refine qn ?_
 refine sr2 ?_
 refine qq (fA fl53_0) ?_
 refine ql ag3 ?_
 refine nm ?_
 refine qq (fA fl53_0) ?_
 refine ql ag3 ?_
 refine qb ?_
 refine nc (fun c1 => ?_) fun c1 => ?_
 ·try simp only [cnd] at c1
  refine sr ?_
  refine qr 4 ?_
  simp only [retX, slotL, reduceIte, Nat.reduceEqDiff]
  cases a
  cases b
  simp_all
 try simp only [cnd] at c1
 refine jd (sr2 ?_)
 refine qq (fA fl53_1) ?_
 refine nm ?_
 refine ql ag3 ?_
 refine qq (fA fl53_1) ?_
 refine ql ag3 ?_
 refine nm ?_
 refine qb ?_
 refine nc (fun c2 => ?_) fun c2 => ?_
 ·try simp only [cnd] at c2
  refine sr ?_
  refine qr 4 ?_
  simp only [retX, slotL, reduceIte, Nat.reduceEqDiff]
  cases a
  cases b
  simp_all
 try simp only [cnd] at c2
 refine jd (sr2 ?_)
 refine qq (fA fl53_2) ?_
 refine nm ?_
 refine ql ag3 ?_
 refine qq (fA fl53_2) ?_
 refine ql ag3 ?_
 refine nm ?_
 refine qb ?_
 refine nc (fun c3 => ?_) fun c3 => ?_
 ·try simp only [cnd] at c3
  refine sr ?_
  refine qr 4 ?_
  simp only [retX, slotL, reduceIte, Nat.reduceEqDiff]
  cases a
  cases b
  simp_all
 try simp only [cnd] at c3
 refine jd (sr2 ?_)
 refine qq (fA fl53_3) ?_
 refine nm ?_
 refine ql ag3 ?_
 refine qq (fA fl53_3) ?_
 refine ql ag3 ?_
 refine nm ?_
 refine qb ?_
 refine nc (fun c4 => ?_) fun c4 => ?_
 ·try simp only [cnd] at c4
  refine sr ?_
  refine qr 4 ?_
  simp only [retX, slotL, reduceIte, Nat.reduceEqDiff]
  cases a
  cases b
  simp_all
 try simp only [cnd] at c4
 refine jd (sr ?_)
 refine qr 4 ?_
 simp only [retX, slotL, reduceIte, Nat.reduceEqDiff]
 cases a
 cases b
 simp_all
theorem eqInsS_con (a b : List DIns) : Con Tryd.prog 14 [.h base [], .h (base + 1) []] [.rt base .ro (tr a), .rt (base + 1) .ro (tr b)] (fun y _ => y = .v (.bool (decide (a = b)))) := by
 refine ob Tryd.func14 Tryd.ntmps14 ?_
 refine AW.len base [] rfl (by simp [Okp]) rfl (fun hl => ?_)
 refine AW.len (base + 1) [] rfl (by simp [Okp]) rfl (fun hl2 => ?_)
 refine sr ?_
 refine qn ?_
 refine sr2 ?_
 refine qm ?_
 refine qh sl27 ?_
 refine nm ?_
 refine qm ?_
 refine qh sl27 ?_
 refine qb ?_
 refine nc (fun c1 => ?_) fun c1 => ?_
 ·try simp only [cnd] at c1
  refine sr ?_
  refine qr 4 ?_
  simp only [retX, slotL, reduceIte, Nat.reduceEqDiff]
  rw [decide_eq_false (show a ≠ b from ne_of_len (by omega))]
 try simp only [cnd] at c1
 refine jd (sr2 ?_)
 refine qn ?_
 refine AW.block ?_
 refine AW.loopW (fun i : EqInv a b => [.sl 5 (.v (iv i.k)), .sl 0 (.h base []), .sl 1 (.h (base + 1) []), .rt base .ro (tr a), .rt (base + 1) .ro (tr b)]) (fun i => a.length - i.k) ⟨0, Nat.zero_le _, rfl⟩ (Weak.sim ⟨rfl, rfl, rfl, Rf rfl, Rf rfl, trivial⟩ rfl rfl) ?_
 intro i
 have hle := i.le
 refine sr2 ?_
 refine mn ?_
 refine qm ?_
 refine qh sl27 ?_
 refine qb ?_
 refine nc (fun c2 => ?_) fun c2 => ?_
 ·try simp only [cnd] at c2
  refine jd (AW.seq (AW.block (AW.seq ?_)))
  refine AW.draw [0, 1, 2, 3, 4, 5, 6, 7, 9] rfl (by decide +kernel) ?_
  refine tk 0 rfl Qt.move ?_
  refine na ?_
  refine tk 1 rfl Qt.move ?_
  refine tk 2 rfl (ix sl27 sz53) ?_
  refine tk 3 rfl (Qt.loadG rfl rfl rfl ag53 sz53 (by decide)) ?_
  refine na ?_
  refine tk 4 rfl Qt.move ?_
  refine tk 5 rfl Qt.move ?_
  refine tk 6 rfl (ix sl27 sz53) ?_
  refine na ?_
  refine tk 7 rfl (Qt.loadG rfl rfl rfl ag53 sz53 (by decide)) ?_
  refine a1 8 [] [7, 3, 6, 2, 5, 4, 1, 0] rfl rfl (Stp.callV rfl (by decide) Tryd.call38 rfl rfl (eqIns_con _ _)) ?_
  refine na ?_
  refine na ?_
  refine tk 9 rfl (Qt.notB rfl) ?_
  refine nz ?_
  refine cd (fun c3 => ?_) fun c3 => ?_
  ·try simp only [cnd] at c3
   refine sr ?_
   refine qr 4 ?_
   simp only [retX, slotL, reduceIte, Nat.reduceEqDiff]
   rw [decide_eq_false (show a ≠ b from i.stop En.dflt (by simpa using c3))]
  try simp only [cnd] at c3
  refine jd (AW.region ?_)
  refine mn ?_
  refine ba ?_
  refine qn ?_
  refine ⟨⟨i.k + 1, by omega, i.next En.dflt (by omega) (by omega) (by simpa using c3)⟩, Weak.sim ⟨st1, rfl, rfl, Rf rfl, Rf rfl, trivial⟩ rfl rfl, ?_⟩
  show a.length - (i.k + 1) < a.length - i.k
  omega
 try simp only [cnd] at c2
 refine AW.exit ?_
 dsimp only [thenQ, blockQ, reduceIte]
 refine sr ?_
 refine qr 4 ?_
 simp only [retX, slotL, reduceIte, Nat.reduceEqDiff]
 rw [decide_eq_true (show a = b from i.full (by omega) (by omega))]
end Go.Proofs.YtlploojfcmcckaaDoor.VM
