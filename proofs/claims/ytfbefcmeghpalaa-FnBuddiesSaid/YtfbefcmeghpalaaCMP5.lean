/- Contracts of functions of the program. No conditions beyond those that each states. -/
import Derived.Test.YtfbefcmeghpalaaCMP4
import Derived.Test.YtfbefcmeghpalaaCMD
set_option linter.all false
namespace Go.Proofs.Ytfbefcmeghpalaa.VM
open Go Go.RowKit Go.Proofs
set_option maxHeartbeats 8000000 in
set_option maxRecDepth 10000 in
theorem BuddyGiveI_con (a : DBuddy) (f : Int) (hw : Mk.wt a.Free ≤ 1048576) : Con Try.prog 11 [.g [.h base []], .v (iv f)] [.rt base .ro (tr a.Free)] (Ret (.t [.g [.h 0 []], .v (.bool (bG a.Free f).2)]) [(0, .row, tr (bG a.Free f).1)]) := by
 refine Con.of_body Try.func11 rfl (by simp) ?_
 rw [Try.ntmps11]
 refine AW.len (base) [] rfl (by simp [Okp]) rfl (fun hl => ?_)
 refine AW.seq (AW.region ?_)
 refine sp (Stp.boxB rfl (by decide) (by decide) rfl rfl rfl rfl) ?_
 refine nm ?_
 refine sp (Stp.alloc rfl (by decide) (by decide)) ?_
 refine nm ?_
 refine qq Qt.assign ?_
 refine nl ?_
 refine AW.seq (AW.seq (AW.region ?_))
 refine qq (Qt.loadG rfl rfl rfl ag26 sz26 (by decide)) ?_
 refine cv Try.call26 rfl rfl (BuddyOkI_con _) ?_
 refine nm ?_
 refine qq (Qt.notB rfl) ?_
 refine nl ?_
 refine AW.cond rfl (fun c1 => ?_) (fun c1 => ?_)
 ·have k1 := c1
  try simp only [cnd] at c1
  refine AW.seq (AW.region ?_)
  refine qq (Qt.build rfl) ?_
  refine ss ?_
  refine nm ?_
  refine qq Qt.assign ?_
  refine nl ?_
  refine AW.weak (Weak.hoist 4 0 900 rfl (by decide) rfl rfl rfl) ?_
  refine AW.rep 900 (tr ([] : List (List Int))) rfl sim_nil ?_
  refine AW.ret (endQ_ret (.cons (.cellG 4 26 rfl rfl rfl ag26 sz26 (by decide)) (.cons (.tmp 5) .nil)) ?_)
  rw [show bG a.Free f = ([], false) from if_neg (by rw [← ok_eq]; grind only)]
  refine ⟨fun _ => 900, rfl, nodup_of rfl, ?_⟩
  intro r hr
  cases List.mem_singleton.1 hr
  exact ⟨by simp, rootL_mem rfl⟩
 have k1 := c1
 try simp only [cnd] at c1
 have hok : okS a.Free = true := by rw [← ok_eq]; grind only
 have hF := budF_of hok
 have hG := gRow_of hF
 have h5 := hF.len
 refine jd (AW.seq (AW.region ?_))
 refine qq (Qt.loadG rfl rfl rfl ag26 sz26 (by decide)) ?_
 refine sp (Stp.callR rfl (by decide) Try.call27 rfl rfl (cloneBuddy_con a hw) (nodup_of rfl) rfl rfl) ?_
 refine nm ?_
 refine sp (Stp.alloc rfl (by decide) (by decide)) ?_
 refine nm ?_
 refine ss ?_
 refine nl ?_
 refine AW.seq (AW.seq (AW.region ?_))
 refine qq Qt.move ?_
 refine nm ?_
 refine cv Try.call34 rfl rfl (isFrame_con _) ?_
 refine nm ?_
 refine qq (Qt.notB rfl) ?_
 refine qq Qt.move ?_
 apply AWL.cut 3
 ·intro Kg2
  refine AWL.splitF 18 rfl (fun g2 => ?_) (fun g2 => ?_)
  ·have eg2 := g2
   try simp only [cnd] at eg2
   refine qg (nF g2) (Qt.loadG rfl rfl rfl ag26 sz26 (by decide)) ?_
   refine nm ?_
   refine qg (nF g2) Qt.move ?_
   refine AWL.step rfl (nF g2) (Stp.callV rfl (by decide) Try.call35 rfl rfl (isFree_con a f h5 (by grind only))) ?_
   refine nm ?_
   exact wj 21 [19, 20, 21] (ifF g2 _ undef) (by simp only [go_sem, Int.reduceToNat, Nat.reduceLT, reduceIte, Nat.reduceEqDiff, Nat.reduceAdd, Nat.reduceMul, Nat.reduceBEq, reduceCtorEq]; rfl) Kg2
  ·refine og (nT g2) ?_
   refine og (nT g2) ?_
   refine og (nT g2) ?_
   exact wj 21 [19, 20, 21] (ifT g2 undef _) (by simp only [go_sem, Int.reduceToNat, Nat.reduceLT, reduceIte, Nat.reduceEqDiff, Nat.reduceAdd, Nat.reduceMul, Nat.reduceBEq, reduceCtorEq]) Kg2
 refine qq (Qt.pickOr rfl rfl rfl) ?_
 refine nl ?_
 refine AW.cond rfl (fun c3 => ?_) (fun c3 => ?_)
 ·have k3 := c3
  try simp only [cnd] at c3
  refine AW.seq (AW.region ?_)
  refine qq (Qt.loadG rfl rfl rfl ag26 sz26 (by decide)) ?_
  refine ss ?_
  refine nm ?_
  refine qq Qt.assign ?_
  refine nl ?_
  refine AW.ret (endQ_ret (.cons (.cellG 4 26 rfl rfl rfl ag26 sz26 (by decide)) (.cons (.tmp 5) .nil)) ?_)
  rw [show bG a.Free f = (a.Free, false) from by rw [bG, if_pos hok]; exact if_neg (by grind only)]
  refine ⟨fun _ => 14, rfl, nodup_of rfl, ?_⟩
  intro r hr
  cases List.mem_singleton.1 hr
  exact ⟨by simp, rootL_mem rfl⟩
 have k3 := c3
 try simp only [cnd] at c3
 have hyes : frame f = true ∧ isS a.Free f = false := by grind only
 obtain ⟨n, rfl⟩ := Int.eq_ofNat_of_zero_le (frame_iff.1 hyes.1).1
 have hn16 := (frame_iff.1 hyes.1).2
 refine jd (AW.seq (AW.region ?_))
 refine qq Qt.assign ?_
 refine nl ?_
 refine AW.seq (AW.block ?_)
 refine AW.loopW (fun i : GInv a.Free (n : Int) => [.sl 7 (.v (iv i.o)), .sl 1 (.v (iv i.g)), .sl 6 (.p 6 [] 1 0 0), .rt 6 .box (T.s 1 1 fun _ _ => .j), .al 6 0 (.h 14 []), .rt 14 .row (tr i.T), .sl 4 (.p 4 [] 1 0 0), .rt 4 .box (T.s 1 1 fun _ c => [T.s 1 0 fun _ _ => T.j].getD c T.j), .rt base .ro (tr a.Free)]) (fun i => 4 - i.o) ⟨0, by omega, a.Free, n, rfl, by omega, Nat.mod_one _, hG⟩ (Weak.sim ⟨rfl, rfl, rfl, ⟨_, rfl, sim_j11 rfl⟩, ⟨rfl, rfl⟩, Rf rfl, rfl, Rf rfl, Rf rfl, trivial⟩ rfl rfl) ?_
 intro i
 have hle := i.le
 have hi4 := i.le
 have hpw := pow5 (k := i.o) (by omega)
 have hlt := i.lt
 have hol := i.ok.len
 have hfew := i.ok.few i.o (by omega)
 refine AW.seq (AW.seq (AW.region ?_))
 refine qq Qt.move ?_
 refine nm ?_
 refine qq (Qt.binOp rfl rfl rfl) ?_
 refine nl ?_
 refine AW.cond rfl (fun c4 => ?_) (fun c4 => ?_)
 ·have k4 := c4
  try simp only [cnd] at c4
  refine jd (AW.block (AW.seq ?_))
  refine AW.draw [0, 1, 2, 3, 4, 5, 6, 9] rfl (by decide +kernel) ?_
  refine tk 0 rfl (fA fl26_0) ?_
  refine tk 1 rfl (Qt.load1 rfl rfl rfl ag24) ?_
  refine na ?_
  refine tk 2 rfl Qt.move ?_
  refine tk 3 rfl (Qt.indexAddr rfl rfl rfl rfl sl24 sz35 (by decide) (by first | omega | grind only)) ?_
  refine tk 4 rfl (Qt.load1 rfl rfl rfl ag35) ?_
  refine na ?_
  refine tk 5 rfl Qt.move ?_
  refine tk 6 rfl Qt.move ?_
  refine a1 7 [0, 1, 2, 3, 4] [6, 5] rfl rfl (Stp.callV rfl (by decide) Try.call37 rfl rfl (buddyOf_con i.g i.o i.lt (by omega))) ?_
  refine na ?_
  refine na ?_
  refine AWA.againE rfl rfl (by decide +kernel) (.on rfl rfl (fA fl26_0)) rfl ?_
  refine na ?_
  refine AWA.againE rfl rfl (by decide +kernel) (.on rfl rfl (Qt.load1 rfl rfl rfl ag24)) rfl ?_
  refine na ?_
  refine AWA.againE rfl rfl (by decide +kernel) (.on rfl rfl Qt.move) rfl ?_
  refine na ?_
  refine AWA.againE rfl rfl (by decide +kernel) (.on rfl rfl (Qt.indexAddr rfl rfl rfl rfl sl24 sz35 (by decide) (by first | omega | grind only))) rfl ?_
  refine na ?_
  refine AWA.againE rfl rfl (by decide +kernel) (.on rfl rfl (Qt.load1 rfl rfl rfl ag35)) rfl ?_
  refine na ?_
  refine a1 8 [] [7, 4, 6, 5, 3, 2, 1, 0] rfl rfl (Stp.callV rfl (by decide) Try.call36 rfl rfl (indexI_con _ _)) ?_
  refine na ?_
  refine na ?_
  refine tk 9 rfl Qt.assign ?_
  refine nz ?_
  refine AW.seq (AW.seq (AW.region ?_))
  refine qq Qt.move ?_
  refine qq (Qt.binOp rfl rfl rfl) ?_
  refine nl ?_
  refine AW.cond rfl (fun c5 => ?_) (fun c5 => ?_)
  ·have k5 := c5
   try simp only [cnd] at c5
   have hm : ¬ oth i.g i.o ∈ (i.T.getD i.o En.dflt) := by
    rw [oth_xor i.lt (by omega) i.dv]
    rcases ix_cases (i.T.getD i.o En.dflt) ((i.g ^^^ 2 ^ i.o : Nat) : Int) with h | ⟨j, h1, h2, h3, h4⟩
    ·exact h.1
    ·rw [h2] at c5; omega
   have hfin := i.fin (.inr hm)
   refine AW.exit ?_
   dsimp only [thenQ, blockQ, reduceIte]
   refine AW.seq (AW.region ?_)
   refine qq Qt.move ?_
   refine nm ?_
   refine qq Qt.move ?_
   refine AWL.weak (Weak.sink 14 6 0 rfl (by decide) rfl rfl rfl rfl) ?_
   refine AWL.rep 6 (T.s 1 1 fun _ _ => tr i.T) rfl (sim11 (T.sim_refl _)) ?_
   refine nm ?_
   refine sp (Stp.callH rfl (by decide) Try.call31 rfl (free_con i.T i.o i.g (by omega) (up_le (i.ok.up i.o (by omega))) (by omega)) rfl rfl rfl (nodup_of rfl) rfl rfl) ?_
   refine AWL.rep 6 (T.s 1 1 fun _ _ => tr (i.T.set i.o (putS (i.T.getD i.o En.dflt) i.g))) rfl (sim11 (by rw [insI_put (up_le (i.ok.up i.o (by omega)))]; exact T.sim_refl _)) ?_
   refine nl ?_
   refine AW.seq (AW.region ?_)
   refine qq (Qt.loadG rfl rfl rfl ag26 sz26 (by decide)) ?_
   refine nm ?_
   refine ss ?_
   refine nm ?_
   refine qq Qt.assign ?_
   refine nl ?_
   refine AW.weak (Weak.hoist 6 0 900 rfl (by decide) rfl rfl rfl) ?_
   refine AW.ret (endQ_ret (.cons (.cellG 4 26 rfl rfl rfl ag26 sz26 (by decide)) (.cons (.tmp 5) .nil)) ?_)
   rw [show bG a.Free (n : Int) = (i.T.set i.o (putS (i.T.getD i.o En.dflt) i.g), true) from by rw [bG, if_pos hok, gS, if_pos hyes, hfin]; rfl]
   refine ⟨fun _ => 900, rfl, nodup_of rfl, ?_⟩
   intro r hr
   cases List.mem_singleton.1 hr
   exact ⟨by simp, rootL_mem rfl⟩
  have k5 := c5
  try simp only [cnd] at c5
  obtain ⟨j, hj1, hj2, hj3, hj4⟩ : ∃ j, (i.T.getD i.o En.dflt).findIdx? (fun x => ((i.g ^^^ 2 ^ i.o : Nat) : Int) == x) = some j ∧ ixOf (fun x => ((i.g ^^^ 2 ^ i.o : Nat) : Int) == x) (i.T.getD i.o En.dflt) = (j : Int) ∧ j < (i.T.getD i.o En.dflt).length ∧ ((i.g ^^^ 2 ^ i.o : Nat) : Int) ∈ (i.T.getD i.o En.dflt) := by
   rcases ix_cases (i.T.getD i.o En.dflt) ((i.g ^^^ 2 ^ i.o : Nat) : Int) with h | h
   ·rw [h.2] at c5; omega
   ·exact h
  have hm : oth i.g i.o ∈ (i.T.getD i.o En.dflt) := by rw [oth_xor i.lt (by omega) i.dv]; exact hj4
  have hcut := filter_cut (i.ok.up i.o (by omega)) hj1
  refine AW.weak (Weak.slot (d := 8) (v' := iv (j : Int)) rfl (by rw [hj2])) ?_
  refine jd (AW.seq (AW.region ?_))
  refine qq Qt.move ?_
  refine qq Qt.move ?_
  refine nm ?_
  refine qq Qt.move ?_
  refine cv Try.call37 rfl rfl (buddyOf_con i.g i.o i.lt (by omega)) ?_
  refine nm ?_
  refine qq (Qt.min2 rfl rfl) ?_
  refine qq Qt.assign ?_
  refine AWL.weak (Weak.slot (d := 1) (v' := iv ((min i.g (i.g ^^^ 2 ^ i.o) : Nat) : Int)) rfl (by congr 1; rw [← min_cast]; omega)) ?_
  refine nl ?_
  refine AW.seq ?_
  refine AW.draw [0, 1, 2, 3, 4, 5, 6, 7, 8, 9, 10, 12] rfl (by decide +kernel) ?_
  refine tk 0 rfl (fA fl26_0) ?_
  refine na ?_
  refine tk 1 rfl (Qt.load1 rfl rfl rfl ag24) ?_
  refine tk 2 rfl Qt.move ?_
  refine tk 3 rfl (fA fl26_0) ?_
  refine na ?_
  refine tk 4 rfl (Qt.load1 rfl rfl rfl ag24) ?_
  refine tk 5 rfl Qt.move ?_
  refine tk 6 rfl (Qt.indexAddr rfl rfl rfl rfl sl24 sz35 (by decide) (by first | omega | grind only)) ?_
  refine na ?_
  refine tk 7 rfl (Qt.load1 rfl rfl rfl ag35) ?_
  refine tk 8 rfl Qt.move ?_
  refine tk 9 rfl Qt.move ?_
  refine na ?_
  refine tk 10 rfl (Qt.binOp rfl rfl (by first | exact pbAdd (by omega) | rfl)) ?_
  refine a1 11 [0, 1, 2] [10, 8, 7, 9, 6, 5, 4, 3] rfl rfl (Stp.callH rfl (by decide) Try.call30 rfl (del_con (i.T.getD i.o En.dflt) j (j + 1) (by omega) (by omega)) rfl rfl rfl (nodup_of rfl) rfl rfl) ?_
  refine na ?_ (by simp only [go_sem, keepN, T.isS, T.isJ, List.length_cons, List.length_nil, Bool.not_false, Bool.not_true, Int.reduceToNat, Nat.reduceLT, reduceIte, Nat.reduceEqDiff, Nat.reduceAdd, Nat.reduceMul, Nat.reduceBEq, reduceCtorEq]; rfl)
  refine AWA.rep 14 (T.s 1 i.T.length (upd (fun k c => (En.cs (i.T.getD k En.dflt)).getD c .j) i.o 0 .j)) rfl (T.sim_refl _) ?_
  refine na ?_
  refine na ?_
  refine AWA.againE rfl rfl (by decide +kernel) (.on rfl rfl (fA fl26_0)) rfl ?_
  refine na ?_
  refine AWA.againE rfl rfl (by decide +kernel) (.on rfl rfl (Qt.load1 rfl rfl rfl ag24)) rfl ?_
  refine na ?_
  refine AWA.againE rfl rfl (by decide +kernel) (.on rfl rfl Qt.move) rfl ?_
  refine na ?_
  refine tk 12 rfl (Qt.indexAddr rfl rfl rfl rfl sl24 sz35 (by decide) (by first | omega | grind only)) ?_
  refine a1 13 [] [12, 11, 10, 9, 8, 7, 6, 5, 4, 3, 2, 1, 0] rfl rfl (by first | exact Stp.storeA rfl rfl rfl rfl (by decide) rfl | exact Stp.store rfl rfl (by simp) rfl rfl rfl (by decide) rfl) ?_
  refine na ?_
  refine na ?_
  refine AWA.rep 14 (tr (i.T.set i.o ((i.T.getD i.o En.dflt).filter fun y => y != oth i.g i.o))) rfl (by rw [oth_xor i.lt (by omega) i.dv, hcut]; exact (set_sim (fun i c hi => by simp only [upd_app, hi, false_and, if_false]; try rfl) (fun c hc => match c, hc with | 0, _ => (by simp only [upd_app, eq_self, and_self, if_true]; exact T.sim_refl _) | c + 1, hc => absurd hc (by simp only [En.n]; omega)))) ?_
  refine na ?_
  refine nz ?_
  refine AW.region ?_
  refine qq Qt.move ?_
  refine qq (Qt.binOp rfl rfl (by first | exact pbAdd (by omega) | rfl)) ?_
  refine qq Qt.assign ?_
  refine nl ?_
  refine ⟨i.step (by omega) hm, Weak.sim ⟨rfl, rfl, rfl, Rf rfl, ⟨rfl, rfl⟩, Rf rfl, rfl, Rf rfl, Rf rfl, trivial⟩ rfl rfl, ?_⟩
  show 4 - (i.o + 1) < 4 - i.o
  omega
 have k4 := c4
 try simp only [cnd] at c4
 have hfin := i.fin (.inl (by omega))
 refine AW.exit ?_
 dsimp only [thenQ, blockQ, reduceIte]
 refine AW.seq (AW.region ?_)
 refine qq Qt.move ?_
 refine nm ?_
 refine qq Qt.move ?_
 refine AWL.weak (Weak.sink 14 6 0 rfl (by decide) rfl rfl rfl rfl) ?_
 refine AWL.rep 6 (T.s 1 1 fun _ _ => tr i.T) rfl (sim11 (T.sim_refl _)) ?_
 refine nm ?_
 refine sp (Stp.callH rfl (by decide) Try.call31 rfl (free_con i.T i.o i.g (by omega) (up_le (i.ok.up i.o (by omega))) (by omega)) rfl rfl rfl (nodup_of rfl) rfl rfl) ?_
 refine AWL.rep 6 (T.s 1 1 fun _ _ => tr (i.T.set i.o (putS (i.T.getD i.o En.dflt) i.g))) rfl (sim11 (by rw [insI_put (up_le (i.ok.up i.o (by omega)))]; exact T.sim_refl _)) ?_
 refine nl ?_
 refine AW.seq (AW.region ?_)
 refine qq (Qt.loadG rfl rfl rfl ag26 sz26 (by decide)) ?_
 refine nm ?_
 refine ss ?_
 refine nm ?_
 refine qq Qt.assign ?_
 refine nl ?_
 refine AW.weak (Weak.hoist 6 0 900 rfl (by decide) rfl rfl rfl) ?_
 refine AW.ret (endQ_ret (.cons (.cellG 4 26 rfl rfl rfl ag26 sz26 (by decide)) (.cons (.tmp 5) .nil)) ?_)
 rw [show bG a.Free (n : Int) = (i.T.set i.o (putS (i.T.getD i.o En.dflt) i.g), true) from by rw [bG, if_pos hok, gS, if_pos hyes, hfin]; rfl]
 refine ⟨fun _ => 900, rfl, nodup_of rfl, ?_⟩
 intro r hr
 cases List.mem_singleton.1 hr
 exact ⟨by simp, rootL_mem rfl⟩
end Go.Proofs.Ytfbefcmeghpalaa.VM
