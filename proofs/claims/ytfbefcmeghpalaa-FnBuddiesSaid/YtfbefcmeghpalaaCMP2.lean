/- Contracts of functions of the program. No conditions beyond those that each states. -/
import Derived.Test.YtfbefcmeghpalaaCMP1
import Derived.Test.YtfbefcmeghpalaaCMJ
set_option linter.all false
namespace Go.Proofs.Ytfbefcmeghpalaa.VM
open Go Go.RowKit Go.Proofs
theorem tm2 {g o : Nat} : ((g : Int).tmod (2 * ((2 ^ o : Nat) : Int))) = ((g % 2 ^ (o + 1) : Nat) : Int) := by
 rw [Int.tmod_eq_emod_of_nonneg (by omega), Nat.pow_succ, Int.natCast_emod, Int.natCast_mul, Int.mul_comm]
 rfl
theorem oth_no {g o : Nat} (h : ((g : Int).tmod (2 * ((2 ^ o : Nat) : Int)) != 0) = false) : oth g o = (g : Int) + ((2 ^ o : Nat) : Int) := by
 rw [tm2] at h
 simp only [bne_eq_false_iff_eq] at h
 exact if_pos (by rw [← Int.natCast_emod]; exact h)
theorem oth_yes {g o : Nat} (h : ((g : Int).tmod (2 * ((2 ^ o : Nat) : Int)) != 0) = true) : oth g o = (g : Int) - ((2 ^ o : Nat) : Int) := by
 rw [tm2] at h
 simp only [bne_iff_ne] at h
 exact if_neg (by rw [← Int.natCast_emod]; exact h)
theorem xv {a b : Int} (h : a = b) : iv a = iv b := by rw [h]
set_option maxHeartbeats 8000000 in
set_option maxRecDepth 10000 in
theorem l15Give_con (a : DBuddy) (f : Int) (hG : GRow a.Free) : Con Try.prog 69 [.g [.h base []], .v (iv f)] [.rt base .row (tr a.Free)] (RetW (.t [.g [.h base []], .v (.bool (gS a.Free f).2)]) [] [(base, tr (gS a.Free f).1)]) := by
 refine Con.of_body Try.func69 rfl (by simp) ?_
 rw [Try.ntmps69]
 refine AW.seq (AW.region ?_)
 refine sp (Stp.boxB rfl (by decide) (by decide) rfl rfl rfl rfl) ?_
 refine nm ?_
 refine sp (Stp.alloc rfl (by decide) (by decide)) ?_
 refine nm ?_
 refine qq Qt.assign ?_
 refine nl ?_
 refine AW.seq (AW.seq (AW.region ?_))
 refine qq Qt.move ?_
 refine cv Try.call91 rfl rfl (l12Frame_con _) ?_
 refine nm ?_
 refine qq (Qt.notB rfl) ?_
 refine qq Qt.move ?_
 apply AWL.cut 3
 ·intro Kg1
  refine AWL.splitF 12 rfl (fun g1 => ?_) (fun g1 => ?_)
  ·have eg1 := g1
   try simp only [cnd] at eg1
   refine qg (nF g1) (Qt.loadG rfl rfl rfl ag26 sz26 (by decide)) ?_
   refine nm ?_
   refine qg (nF g1) Qt.move ?_
   refine AWL.step rfl (nF g1) (Stp.callV rfl (by decide) Try.call92 rfl rfl (l15Is_con a f hG.len (by grind only))) ?_
   refine nm ?_
   exact wj 15 [13, 14, 15] (ifF g1 _ undef) (by simp only [go_sem, Int.reduceToNat, Nat.reduceLT, reduceIte, Nat.reduceEqDiff, Nat.reduceAdd, Nat.reduceMul, Nat.reduceBEq, reduceCtorEq]; rfl) Kg1
  ·refine og (nT g1) ?_
   refine og (nT g1) ?_
   refine og (nT g1) ?_
   exact wj 15 [13, 14, 15] (ifT g1 undef _) (by simp only [go_sem, Int.reduceToNat, Nat.reduceLT, reduceIte, Nat.reduceEqDiff, Nat.reduceAdd, Nat.reduceMul, Nat.reduceBEq, reduceCtorEq]) Kg1
 refine qq (Qt.pickOr rfl rfl rfl) ?_
 refine nl ?_
 refine AW.cond rfl (fun c2 => ?_) (fun c2 => ?_)
 ·have k2 := c2
  try simp only [cnd] at c2
  refine AW.seq (AW.region ?_)
  refine qq (Qt.loadG rfl rfl rfl ag26 sz26 (by decide)) ?_
  refine ss ?_
  refine nm ?_
  refine qq Qt.assign ?_
  refine nl ?_
  refine AW.ret (endQ_ret (.cons (.cellG 4 26 rfl rfl rfl ag26 sz26 (by decide)) (.cons (.tmp 5) .nil)) ?_)
  rw [show gS a.Free f = (a.Free, false) from if_neg (by grind only)]
  refine ⟨fun n => n, rfl, fun _ _ => rfl, List.nodup_nil, (by simp), ?_⟩
  intro p hp
  cases List.mem_singleton.1 hp
  exact rootL_mem rfl
 have k2 := c2
 try simp only [cnd] at c2
 have hyes : frame f = true ∧ isS a.Free f = false := by grind only
 obtain ⟨n, rfl⟩ := Int.eq_ofNat_of_zero_le (frame_iff.1 hyes.1).1
 have hn16 := (frame_iff.1 hyes.1).2
 refine jd (AW.seq (AW.region ?_))
 refine qq Qt.assign ?_
 refine nl ?_
 refine AW.seq (AW.block ?_)
 refine AW.loopW (fun i : GInv a.Free (n : Int) => [.sl 6 (.v (iv i.o)), .sl 1 (.v (iv i.g)), .sl 2 (.p 2 [] 1 0 0), .rt 2 .box (T.s 1 1 fun k c => ([(T.j, none)].getD (k * 1 + c) (T.j, none)).fst), .al 2 0 (.h base []), .sl 4 (.p 4 [] 1 0 0), .rt 4 .box (T.s 1 1 fun _ c => [T.s 1 0 fun _ _ => T.j].getD c T.j), .rt base .row (tr i.T)]) (fun i => 4 - i.o) ⟨0, by omega, a.Free, n, rfl, by omega, Nat.mod_one _, hG⟩ (Weak.sim ⟨rfl, rfl, rfl, Rf rfl, ⟨rfl, rfl⟩, rfl, Rf rfl, Rf rfl, trivial⟩ rfl rfl) ?_
 intro i
 have hle := i.le
 have hi4 := i.le
 have hpw := pow5 (k := i.o) (by omega)
 have hlt := i.lt
 have hol := i.ok.len
 have hfew := i.ok.few i.o (by omega)
 refine AW.seq (AW.seq (AW.region ?_))
 refine qq Qt.move ?_
 refine nm ?_
 refine qq (Qt.binOp rfl rfl rfl) ?_
 refine nl ?_
 refine AW.cond rfl (fun c3 => ?_) (fun c3 => ?_)
 ·have k3 := c3
  try simp only [cnd] at c3
  refine jd (AW.block (AW.seq (AW.region ?_)))
  refine qq Qt.move ?_
  refine cv Try.call32 rfl rfl (l15Len_con i.o (by omega)) ?_
  refine nm ?_
  refine qq Qt.assign ?_
  refine nl ?_
  refine AW.seq (AW.region ?_)
  refine qq Qt.move ?_
  refine qq Qt.move ?_
  refine nm ?_
  refine qq (Qt.binOp rfl rfl (by first | exact pbAdd (by omega) | rfl)) ?_
  refine qq Qt.assign ?_
  refine nl ?_
  refine AW.seq (AW.seq (AW.region ?_))
  refine qq Qt.move ?_
  refine nm ?_
  refine qq Qt.move ?_
  refine qq (Qt.binOp rfl rfl (by first | exact pbMul (by omega) | rfl)) ?_
  refine qq (Qt.binOp rfl rfl (by first | exact pbRem4 _ | rfl | exact pbRemI (by omega))) ?_
  refine nm ?_
  refine qq (Qt.binOp rfl rfl rfl) ?_
  refine nl ?_
  refine AW.cond rfl (fun c4 => ?_) (fun c4 => ?_)
  ·have k4 := c4
   try simp only [cnd] at c4
   refine AW.region ?_
   refine qq Qt.move ?_
   refine qq Qt.move ?_
   refine nm ?_
   refine qq (Qt.binOp rfl rfl (by first | exact pbSub (by omega) | rfl)) ?_
   refine qq Qt.assign ?_
   refine AWL.weak (Weak.slot (d := 8) (v' := iv (oth i.g i.o)) rfl (xv (oth_yes (by assumption)).symm)) ?_
   refine nl ?_
   refine AW.seq (AW.seq (AW.region ?_))
   refine qq (fA fl26_0) ?_
   refine nm ?_
   refine qq (Qt.load1 rfl rfl rfl ag24) ?_
   refine qq Qt.move ?_
   refine qq (Qt.indexAddr rfl rfl rfl rfl sl24 sz35 (by decide) (by first | omega | grind only)) ?_
   refine nm ?_
   refine qq (Qt.load1 rfl rfl rfl ag35) ?_
   refine qq Qt.move ?_
   refine cv Try.call33 rfl rfl (l6Has_con _ _) ?_
   refine nm ?_
   refine qq (Qt.notB rfl) ?_
   refine nl ?_
   refine AW.cond rfl (fun c5 => ?_) (fun c5 => ?_)
   ·have k5 := c5
    try simp only [cnd] at c5
    have hm : ¬ oth i.g i.o ∈ (i.T.getD i.o En.dflt) := by grind only
    have hfin := i.fin (.inr hm)
    refine AW.exit ?_
    dsimp only [thenQ, blockQ, reduceIte]
    refine AW.seq ?_
    refine AW.draw [0, 1, 2, 3, 4, 5, 6, 7, 8, 10] rfl (by decide +kernel) ?_
    refine tk 0 rfl (fA fl26_0) ?_
    refine tk 1 rfl (Qt.load1 rfl rfl rfl ag24) ?_
    refine na ?_
    refine tk 2 rfl Qt.move ?_
    refine tk 3 rfl (fA fl26_0) ?_
    refine tk 4 rfl (Qt.load1 rfl rfl rfl ag24) ?_
    refine na ?_
    refine tk 5 rfl Qt.move ?_
    refine tk 6 rfl (Qt.indexAddr rfl rfl rfl rfl sl24 sz35 (by decide) (by first | omega | grind only)) ?_
    refine tk 7 rfl (Qt.load1 rfl rfl rfl ag35) ?_
    refine na ?_
    refine tk 8 rfl Qt.move ?_
    refine a1 9 [0, 1, 2] [8, 7, 6, 5, 4, 3] rfl rfl (Stp.callR rfl (by decide) Try.call94 rfl rfl (l15Put_con _ _ (by omega)) (nodup_of rfl) rfl rfl) ?_
    refine na ?_
    refine na ?_
    refine AWA.againE rfl rfl (by decide +kernel) (.on rfl rfl (fA fl26_0)) rfl ?_
    refine na ?_
    refine AWA.againE rfl rfl (by decide +kernel) (.on rfl rfl (Qt.load1 rfl rfl rfl ag24)) rfl ?_
    refine na ?_
    refine AWA.againE rfl rfl (by decide +kernel) (.on rfl rfl Qt.move) rfl ?_
    refine na ?_
    refine tk 10 rfl (Qt.indexAddr rfl rfl rfl rfl sl24 sz35 (by decide) (by first | omega | grind only)) ?_
    refine a1 11 [] [10, 9, 8, 7, 6, 5, 4, 3, 2, 1, 0] rfl rfl (by first | exact Stp.storeA rfl rfl rfl rfl (by decide) rfl | exact Stp.store rfl rfl (by simp) rfl rfl rfl (by decide) rfl) ?_
    refine na ?_
    refine na ?_
    refine AWA.rep base (tr (i.T.set i.o (putS (i.T.getD i.o En.dflt) i.g))) rfl (set_row (T.sim_refl _)) ?_
    refine na ?_
    refine nz ?_
    refine AW.seq (AW.region ?_)
    refine qq (Qt.loadG rfl rfl rfl ag26 sz26 (by decide)) ?_
    refine ss ?_
    refine nm ?_
    refine qq Qt.assign ?_
    refine nl ?_
    refine AW.ret (endQ_ret (.cons (.cellG 4 26 rfl rfl rfl ag26 sz26 (by decide)) (.cons (.tmp 5) .nil)) ?_)
    rw [show gS a.Free n = (i.T.set i.o (putS (i.T.getD i.o En.dflt) i.g), true) from by rw [gS, if_pos hyes, hfin]; rfl]
    refine ⟨fun n => n, rfl, fun _ _ => rfl, List.nodup_nil, (by simp), ?_⟩
    intro p hp
    cases List.mem_singleton.1 hp
    exact rootL_mem rfl
   have k5 := c5
   try simp only [cnd] at c5
   have hm : oth i.g i.o ∈ (i.T.getD i.o En.dflt) := by grind only
   refine jd (AW.seq ?_)
   refine AW.draw [0, 1, 2, 3, 4, 5, 6, 7, 8, 10] rfl (by decide +kernel) ?_
   refine tk 0 rfl (fA fl26_0) ?_
   refine tk 1 rfl (Qt.load1 rfl rfl rfl ag24) ?_
   refine na ?_
   refine tk 2 rfl Qt.move ?_
   refine tk 3 rfl (fA fl26_0) ?_
   refine tk 4 rfl (Qt.load1 rfl rfl rfl ag24) ?_
   refine na ?_
   refine tk 5 rfl Qt.move ?_
   refine tk 6 rfl (Qt.indexAddr rfl rfl rfl rfl sl24 sz35 (by decide) (by first | omega | grind only)) ?_
   refine tk 7 rfl (Qt.load1 rfl rfl rfl ag35) ?_
   refine na ?_
   refine tk 8 rfl Qt.move ?_
   refine a1 9 [0, 1, 2] [8, 7, 6, 5, 4, 3] rfl rfl (Stp.callR rfl (by decide) Try.call93 rfl rfl (l15Without_con _ _ (by omega)) (nodup_of rfl) rfl rfl) ?_
   refine na ?_
   refine na ?_
   refine AWA.againE rfl rfl (by decide +kernel) (.on rfl rfl (fA fl26_0)) rfl ?_
   refine na ?_
   refine AWA.againE rfl rfl (by decide +kernel) (.on rfl rfl (Qt.load1 rfl rfl rfl ag24)) rfl ?_
   refine na ?_
   refine AWA.againE rfl rfl (by decide +kernel) (.on rfl rfl Qt.move) rfl ?_
   refine na ?_
   refine tk 10 rfl (Qt.indexAddr rfl rfl rfl rfl sl24 sz35 (by decide) (by first | omega | grind only)) ?_
   refine a1 11 [] [10, 9, 8, 7, 6, 5, 4, 3, 2, 1, 0] rfl rfl (by first | exact Stp.storeA rfl rfl rfl rfl (by decide) rfl | exact Stp.store rfl rfl (by simp) rfl rfl rfl (by decide) rfl) ?_
   refine na ?_
   refine na ?_
   refine AWA.rep base (tr (i.T.set i.o ((i.T.getD i.o En.dflt).filter fun y => y != oth i.g i.o))) rfl (set_row (T.sim_refl _)) ?_
   refine na ?_
   refine nz ?_
   refine AW.seq (AW.seq (AW.region ?_))
   refine qq Qt.move ?_
   refine qq Qt.move ?_
   refine qq (Qt.binOp rfl rfl rfl) ?_
   refine nl ?_
   refine AW.cond rfl (fun c6 => ?_) (fun c6 => ?_)
   ·have k6 := c6
    try simp only [cnd] at c6
    refine AW.region ?_
    refine qq Qt.move ?_
    refine nm ?_
    refine qq Qt.assign ?_
    refine AWL.weak (Weak.slot (d := 1) (v' := iv ((min i.g (i.g ^^^ 2 ^ i.o) : Nat) : Int)) rfl (xv (by rw [← min_cast, ← oth_xor i.lt (by omega) i.dv]; omega))) ?_
    refine nl ?_
    refine AW.region ?_
    refine qq Qt.move ?_
    refine nm ?_
    refine qq (Qt.binOp rfl rfl (by first | exact pbAdd (by omega) | rfl)) ?_
    refine qq Qt.assign ?_
    refine nl ?_
    refine ⟨i.step (by omega) hm, Weak.sim ⟨rfl, rfl, rfl, Rf rfl, ⟨rfl, rfl⟩, rfl, Rf rfl, Rf rfl, trivial⟩ rfl rfl, ?_⟩
    show 4 - (i.o + 1) < 4 - i.o
    omega
   have k6 := c6
   try simp only [cnd] at c6
   refine AW.weak (Weak.slot (d := 1) (v' := iv ((min i.g (i.g ^^^ 2 ^ i.o) : Nat) : Int)) rfl (xv (by rw [← min_cast, ← oth_xor i.lt (by omega) i.dv]; omega))) ?_
   refine jd (AW.region ?_)
   refine qq Qt.move ?_
   refine nm ?_
   refine qq (Qt.binOp rfl rfl (by first | exact pbAdd (by omega) | rfl)) ?_
   refine qq Qt.assign ?_
   refine nl ?_
   refine ⟨i.step (by omega) hm, Weak.sim ⟨rfl, rfl, rfl, Rf rfl, ⟨rfl, rfl⟩, rfl, Rf rfl, Rf rfl, trivial⟩ rfl rfl, ?_⟩
   show 4 - (i.o + 1) < 4 - i.o
   omega
  have k4 := c4
  try simp only [cnd] at c4
  refine AW.weak (Weak.slot (d := 8) (v' := iv (oth i.g i.o)) rfl (xv (oth_no (by assumption)).symm)) ?_
  refine jd (AW.seq (AW.seq (AW.region ?_)))
  refine qq (fA fl26_0) ?_
  refine nm ?_
  refine qq (Qt.load1 rfl rfl rfl ag24) ?_
  refine qq Qt.move ?_
  refine qq (Qt.indexAddr rfl rfl rfl rfl sl24 sz35 (by decide) (by first | omega | grind only)) ?_
  refine nm ?_
  refine qq (Qt.load1 rfl rfl rfl ag35) ?_
  refine qq Qt.move ?_
  refine cv Try.call33 rfl rfl (l6Has_con _ _) ?_
  refine nm ?_
  refine qq (Qt.notB rfl) ?_
  refine nl ?_
  refine AW.cond rfl (fun c7 => ?_) (fun c7 => ?_)
  ·have k7 := c7
   try simp only [cnd] at c7
   have hm : ¬ oth i.g i.o ∈ (i.T.getD i.o En.dflt) := by grind only
   have hfin := i.fin (.inr hm)
   refine AW.exit ?_
   dsimp only [thenQ, blockQ, reduceIte]
   refine AW.seq ?_
   refine AW.draw [0, 1, 2, 3, 4, 5, 6, 7, 8, 10] rfl (by decide +kernel) ?_
   refine tk 0 rfl (fA fl26_0) ?_
   refine tk 1 rfl (Qt.load1 rfl rfl rfl ag24) ?_
   refine na ?_
   refine tk 2 rfl Qt.move ?_
   refine tk 3 rfl (fA fl26_0) ?_
   refine tk 4 rfl (Qt.load1 rfl rfl rfl ag24) ?_
   refine na ?_
   refine tk 5 rfl Qt.move ?_
   refine tk 6 rfl (Qt.indexAddr rfl rfl rfl rfl sl24 sz35 (by decide) (by first | omega | grind only)) ?_
   refine tk 7 rfl (Qt.load1 rfl rfl rfl ag35) ?_
   refine na ?_
   refine tk 8 rfl Qt.move ?_
   refine a1 9 [0, 1, 2] [8, 7, 6, 5, 4, 3] rfl rfl (Stp.callR rfl (by decide) Try.call94 rfl rfl (l15Put_con _ _ (by omega)) (nodup_of rfl) rfl rfl) ?_
   refine na ?_
   refine na ?_
   refine AWA.againE rfl rfl (by decide +kernel) (.on rfl rfl (fA fl26_0)) rfl ?_
   refine na ?_
   refine AWA.againE rfl rfl (by decide +kernel) (.on rfl rfl (Qt.load1 rfl rfl rfl ag24)) rfl ?_
   refine na ?_
   refine AWA.againE rfl rfl (by decide +kernel) (.on rfl rfl Qt.move) rfl ?_
   refine na ?_
   refine tk 10 rfl (Qt.indexAddr rfl rfl rfl rfl sl24 sz35 (by decide) (by first | omega | grind only)) ?_
   refine a1 11 [] [10, 9, 8, 7, 6, 5, 4, 3, 2, 1, 0] rfl rfl (by first | exact Stp.storeA rfl rfl rfl rfl (by decide) rfl | exact Stp.store rfl rfl (by simp) rfl rfl rfl (by decide) rfl) ?_
   refine na ?_
   refine na ?_
   refine AWA.rep base (tr (i.T.set i.o (putS (i.T.getD i.o En.dflt) i.g))) rfl (set_row (T.sim_refl _)) ?_
   refine na ?_
   refine nz ?_
   refine AW.seq (AW.region ?_)
   refine qq (Qt.loadG rfl rfl rfl ag26 sz26 (by decide)) ?_
   refine ss ?_
   refine nm ?_
   refine qq Qt.assign ?_
   refine nl ?_
   refine AW.ret (endQ_ret (.cons (.cellG 4 26 rfl rfl rfl ag26 sz26 (by decide)) (.cons (.tmp 5) .nil)) ?_)
   rw [show gS a.Free n = (i.T.set i.o (putS (i.T.getD i.o En.dflt) i.g), true) from by rw [gS, if_pos hyes, hfin]; rfl]
   refine ⟨fun n => n, rfl, fun _ _ => rfl, List.nodup_nil, (by simp), ?_⟩
   intro p hp
   cases List.mem_singleton.1 hp
   exact rootL_mem rfl
  have k7 := c7
  try simp only [cnd] at c7
  have hm : oth i.g i.o ∈ (i.T.getD i.o En.dflt) := by grind only
  refine jd (AW.seq ?_)
  refine AW.draw [0, 1, 2, 3, 4, 5, 6, 7, 8, 10] rfl (by decide +kernel) ?_
  refine tk 0 rfl (fA fl26_0) ?_
  refine tk 1 rfl (Qt.load1 rfl rfl rfl ag24) ?_
  refine na ?_
  refine tk 2 rfl Qt.move ?_
  refine tk 3 rfl (fA fl26_0) ?_
  refine tk 4 rfl (Qt.load1 rfl rfl rfl ag24) ?_
  refine na ?_
  refine tk 5 rfl Qt.move ?_
  refine tk 6 rfl (Qt.indexAddr rfl rfl rfl rfl sl24 sz35 (by decide) (by first | omega | grind only)) ?_
  refine tk 7 rfl (Qt.load1 rfl rfl rfl ag35) ?_
  refine na ?_
  refine tk 8 rfl Qt.move ?_
  refine a1 9 [0, 1, 2] [8, 7, 6, 5, 4, 3] rfl rfl (Stp.callR rfl (by decide) Try.call93 rfl rfl (l15Without_con _ _ (by omega)) (nodup_of rfl) rfl rfl) ?_
  refine na ?_
  refine na ?_
  refine AWA.againE rfl rfl (by decide +kernel) (.on rfl rfl (fA fl26_0)) rfl ?_
  refine na ?_
  refine AWA.againE rfl rfl (by decide +kernel) (.on rfl rfl (Qt.load1 rfl rfl rfl ag24)) rfl ?_
  refine na ?_
  refine AWA.againE rfl rfl (by decide +kernel) (.on rfl rfl Qt.move) rfl ?_
  refine na ?_
  refine tk 10 rfl (Qt.indexAddr rfl rfl rfl rfl sl24 sz35 (by decide) (by first | omega | grind only)) ?_
  refine a1 11 [] [10, 9, 8, 7, 6, 5, 4, 3, 2, 1, 0] rfl rfl (by first | exact Stp.storeA rfl rfl rfl rfl (by decide) rfl | exact Stp.store rfl rfl (by simp) rfl rfl rfl (by decide) rfl) ?_
  refine na ?_
  refine na ?_
  refine AWA.rep base (tr (i.T.set i.o ((i.T.getD i.o En.dflt).filter fun y => y != oth i.g i.o))) rfl (set_row (T.sim_refl _)) ?_
  refine na ?_
  refine nz ?_
  refine AW.seq (AW.seq (AW.region ?_))
  refine qq Qt.move ?_
  refine qq Qt.move ?_
  refine qq (Qt.binOp rfl rfl rfl) ?_
  refine nl ?_
  refine AW.cond rfl (fun c8 => ?_) (fun c8 => ?_)
  ·have k8 := c8
   try simp only [cnd] at c8
   refine AW.region ?_
   refine qq Qt.move ?_
   refine nm ?_
   refine qq Qt.assign ?_
   refine AWL.weak (Weak.slot (d := 1) (v' := iv ((min i.g (i.g ^^^ 2 ^ i.o) : Nat) : Int)) rfl (xv (by rw [← min_cast, ← oth_xor i.lt (by omega) i.dv]; omega))) ?_
   refine nl ?_
   refine AW.region ?_
   refine qq Qt.move ?_
   refine nm ?_
   refine qq (Qt.binOp rfl rfl (by first | exact pbAdd (by omega) | rfl)) ?_
   refine qq Qt.assign ?_
   refine nl ?_
   refine ⟨i.step (by omega) hm, Weak.sim ⟨rfl, rfl, rfl, Rf rfl, ⟨rfl, rfl⟩, rfl, Rf rfl, Rf rfl, trivial⟩ rfl rfl, ?_⟩
   show 4 - (i.o + 1) < 4 - i.o
   omega
  have k8 := c8
  try simp only [cnd] at c8
  refine AW.weak (Weak.slot (d := 1) (v' := iv ((min i.g (i.g ^^^ 2 ^ i.o) : Nat) : Int)) rfl (xv (by rw [← min_cast, ← oth_xor i.lt (by omega) i.dv]; omega))) ?_
  refine jd (AW.region ?_)
  refine qq Qt.move ?_
  refine nm ?_
  refine qq (Qt.binOp rfl rfl (by first | exact pbAdd (by omega) | rfl)) ?_
  refine qq Qt.assign ?_
  refine nl ?_
  refine ⟨i.step (by omega) hm, Weak.sim ⟨rfl, rfl, rfl, Rf rfl, ⟨rfl, rfl⟩, rfl, Rf rfl, Rf rfl, trivial⟩ rfl rfl, ?_⟩
  show 4 - (i.o + 1) < 4 - i.o
  omega
 have k3 := c3
 try simp only [cnd] at c3
 have hfin := i.fin (.inl (by omega))
 refine AW.exit ?_
 dsimp only [thenQ, blockQ, reduceIte]
 refine AW.seq ?_
 refine AW.draw [0, 1, 2, 3, 4, 5, 6, 7, 8, 10] rfl (by decide +kernel) ?_
 refine tk 0 rfl (fA fl26_0) ?_
 refine na ?_
 refine tk 1 rfl (Qt.load1 rfl rfl rfl ag24) ?_
 refine tk 2 rfl Qt.move ?_
 refine tk 3 rfl (fA fl26_0) ?_
 refine na ?_
 refine tk 4 rfl (Qt.load1 rfl rfl rfl ag24) ?_
 refine tk 5 rfl Qt.move ?_
 refine tk 6 rfl (Qt.indexAddr rfl rfl rfl rfl sl24 sz35 (by decide) (by first | omega | grind only)) ?_
 refine na ?_
 refine tk 7 rfl (Qt.load1 rfl rfl rfl ag35) ?_
 refine tk 8 rfl Qt.move ?_
 refine a1 9 [0, 1, 2] [8, 7, 6, 5, 4, 3] rfl rfl (Stp.callR rfl (by decide) Try.call94 rfl rfl (l15Put_con _ _ (by omega)) (nodup_of rfl) rfl rfl) ?_
 refine na ?_
 refine na ?_
 refine AWA.againE rfl rfl (by decide +kernel) (.on rfl rfl (fA fl26_0)) rfl ?_
 refine na ?_
 refine AWA.againE rfl rfl (by decide +kernel) (.on rfl rfl (Qt.load1 rfl rfl rfl ag24)) rfl ?_
 refine na ?_
 refine AWA.againE rfl rfl (by decide +kernel) (.on rfl rfl Qt.move) rfl ?_
 refine na ?_
 refine tk 10 rfl (Qt.indexAddr rfl rfl rfl rfl sl24 sz35 (by decide) (by first | omega | grind only)) ?_
 refine a1 11 [] [10, 9, 8, 7, 6, 5, 4, 3, 2, 1, 0] rfl rfl (by first | exact Stp.storeA rfl rfl rfl rfl (by decide) rfl | exact Stp.store rfl rfl (by simp) rfl rfl rfl (by decide) rfl) ?_
 refine na ?_
 refine na ?_
 refine AWA.rep base (tr (i.T.set i.o (putS (i.T.getD i.o En.dflt) i.g))) rfl (set_row (T.sim_refl _)) ?_
 refine na ?_
 refine nz ?_
 refine AW.seq (AW.region ?_)
 refine qq (Qt.loadG rfl rfl rfl ag26 sz26 (by decide)) ?_
 refine ss ?_
 refine nm ?_
 refine qq Qt.assign ?_
 refine nl ?_
 refine AW.ret (endQ_ret (.cons (.cellG 4 26 rfl rfl rfl ag26 sz26 (by decide)) (.cons (.tmp 5) .nil)) ?_)
 rw [show gS a.Free n = (i.T.set i.o (putS (i.T.getD i.o En.dflt) i.g), true) from by rw [gS, if_pos hyes, hfin]; rfl]
 refine ⟨fun n => n, rfl, fun _ _ => rfl, List.nodup_nil, (by simp), ?_⟩
 intro p hp
 cases List.mem_singleton.1 hp
 exact rootL_mem rfl
end Go.Proofs.Ytfbefcmeghpalaa.VM
