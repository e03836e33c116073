/- Contracts of functions of the program. No conditions beyond those that each states. -/
import Derived.Test.YtfbefcmeghpalaaCMO
set_option linter.all false
namespace Go.Proofs.Ytfbefcmeghpalaa.VM
open Go Go.RowKit Go.Proofs
theorem filt_yes {l : List Int} {p : Int → Bool} {k : Nat} (h : k < l.length) (hp : p (l.getD k En.dflt) = true) : (l.take (k + 1)).filter p = (l.take k).filter p ++ [l.getD k En.dflt] := by
 rw [take_snoc' h, List.filter_append, List.filter_cons_of_pos hp]; rfl
theorem filt_no {l : List Int} {p : Int → Bool} {k : Nat} (h : k < l.length) (hp : p (l.getD k En.dflt) = false) : (l.take (k + 1)).filter p = (l.take k).filter p := by
 rw [take_snoc' h, List.filter_append, List.filter_cons_of_neg (by rw [hp]; simp)]; simp
set_option maxHeartbeats 8000000 in
set_option maxRecDepth 10000 in
theorem l12Frame_con (x : Int) : Con Try.prog 91 [.v (iv x)] [] (fun y _ => y = .v (.bool (frame x))) := by
 refine Con.of_body Try.func91 rfl (by simp) ?_
 rw [Try.ntmps91]
 refine AW.seq (AW.region ?_)
 refine qq Qt.assign ?_
 refine nl ?_
 refine AW.seq (AW.region ?_)
 refine qq Qt.move ?_
 refine qq (Qt.binOp rfl rfl rfl) ?_
 refine nm ?_
 refine qq Qt.move ?_
 apply AWL.cut 2
 ·intro Kg1
  refine AWL.split 5 rfl (fun g1 => ?_) (fun g1 => ?_)
  ·refine qg g1 Qt.move ?_
   refine qg g1 (Qt.binOp rfl rfl rfl) ?_
   refine nm ?_
   exact wj 7 [6, 7] (ifT g1 _ undef) (by simp only [go_sem, Int.reduceToNat, Nat.reduceLT, reduceIte, Nat.reduceEqDiff, Nat.reduceAdd, Nat.reduceMul, Nat.reduceBEq, reduceCtorEq]; rfl) Kg1
  ·refine og g1 ?_
   refine og g1 ?_
   exact wj 7 [6, 7] (ifF g1 undef _) (by simp only [go_sem, Int.reduceToNat, Nat.reduceLT, reduceIte, Nat.reduceEqDiff, Nat.reduceAdd, Nat.reduceMul, Nat.reduceBEq, reduceCtorEq]) Kg1
 refine qq (Qt.pickAnd rfl rfl rfl) ?_
 refine qq Qt.assign ?_
 refine nl ?_
 refine AW.ret (endQ_ret (.cons (.tmp 2) .nil) ?_)
 rw [show frame x = (decide (x ≥ 0) && decide (x < 16)) from by rw [Bool.eq_iff_iff, frame_iff]; simp only [Bool.and_eq_true, decide_eq_true_eq]; try omega]
 rfl
set_option maxHeartbeats 8000000 in
set_option maxRecDepth 10000 in
theorem l15Without_con (l : List Int) (x : Int) (hw : l.length ≤ 1048576) : Con Try.prog 93 [.h base [], .v (iv x)] [.rt base .ro (tr l)] (Ret (.h 0 []) [(0, .row, tr (l.filter (fun y => y != x)))]) := by
 refine Con.of_body Try.func93 rfl (by simp) ?_
 rw [Try.ntmps93]
 refine AW.len (base) [] rfl (by simp [Okp]) rfl (fun hl => ?_)
 refine AW.seq (AW.region ?_)
 refine qq Qt.assign ?_
 refine nl ?_
 refine AW.seq (AW.region ?_)
 refine sp (Stp.buildSlice rfl (by decide) (by decide) rfl (by decide) rfl rfl rfl (nodup_of rfl)) ?_
 refine nm ?_
 refine qq Qt.assign ?_
 refine nl ?_
 refine AW.seq (AW.seq (AW.region ?_))
 refine qq Qt.assign ?_
 refine nl ?_
 refine AW.block ?_
 refine AW.loopW (fun i : KInv l.length => [.sl 6 (.v (iv i.k)), .sl 5 (.h 7 []), .sl 0 (.h base []), .sl 1 (.v (iv x)), .rt base .ro (tr l), .rt 7 .row (tr ((l.take i.k).filter (fun y => y != x)))]) (fun i => l.length - i.k) ⟨0, Nat.zero_le _⟩ (Weak.sim ⟨rfl, rfl, rfl, rfl, Rf rfl, ⟨_, rfl, sim_nil⟩, trivial⟩ rfl rfl) ?_
 intro i
 have hle := i.le
 have hal : ((l.take i.k).filter (fun y => y != x)).length ≤ i.k := Nat.le_trans (List.length_filter_le ..) (by rw [List.length_take]; omega)
 refine AW.seq (AW.seq (AW.region ?_))
 refine qq Qt.move ?_
 refine nm ?_
 refine qq Qt.move ?_
 refine qq (Qt.lenH rfl rfl rfl sl35) ?_
 refine qq (Qt.binOp rfl rfl rfl) ?_
 refine nl ?_
 refine AW.cond rfl (fun c1 => ?_) (fun c1 => ?_)
 ·have k1 := c1
  try simp only [cnd] at c1
  refine jd (AW.seq (AW.block (AW.seq (AW.region ?_))))
  refine qq Qt.move ?_
  refine nm ?_
  refine qq Qt.move ?_
  refine qq (Qt.indexAddr rfl rfl rfl rfl sl35 sz3 (by decide) (by first | omega | grind only)) ?_
  refine qq (Qt.load1 rfl rfl rfl ag3) ?_
  refine nm ?_
  refine qq Qt.move ?_
  refine qq (Qt.binOp rfl rfl rfl) ?_
  refine nl ?_
  refine AW.cond rfl (fun c2 => ?_) (fun c2 => ?_)
  ·have k2 := c2
   try simp only [cnd] at c2
   refine AW.region ?_
   refine qq Qt.move ?_
   refine nm ?_
   refine qq Qt.move ?_
   refine qq Qt.move ?_
   refine qq (Qt.indexAddr rfl rfl rfl rfl sl35 sz3 (by decide) (by first | omega | grind only)) ?_
   refine nm ?_
   refine qq (Qt.load1 rfl rfl rfl ag3) ?_
   refine sp (Stp.buildSlice rfl (by decide) (by decide) rfl (by decide) rfl rfl rfl (nodup_of rfl)) ?_
   refine nm ?_
   refine sp (by first | exact Stp.appendC rfl (by decide) (by decide) rfl rfl (by omega) | exact Stp.appendM rfl (by decide) (by decide) rfl rfl rfl (by omega)) ?_
   refine AWL.rep 26 (tr ((l.take (i.k + 1)).filter (fun y => y != x))) rfl (by rw [filt_yes (p := fun y => y != x) (by omega) k2]; exact (app_one (α := Int) (a := l.getD i.k En.dflt) (fun c hc => match c, hc with | 0, _ => rfl | c + 1, hc => absurd hc (by simp only [En.n]; omega)))) ?_
   refine nm ?_
   refine qq Qt.assign ?_
   refine nl ?_
   refine AW.region ?_
   refine qq Qt.move ?_
   refine qq (Qt.binOp rfl rfl (by first | exact pbAdd (by omega) | rfl)) ?_
   refine nm ?_
   refine qq Qt.assign ?_
   refine nl ?_
   refine ⟨⟨i.k + 1, by omega⟩, Weak.trans (Weak.renR (a := 26) (b := 7) rfl (by decide) (by decide)) (Weak.sim ⟨st1, rfl, rfl, rfl, Rf rfl, Rf rfl, trivial⟩ rfl rfl), ?_⟩
   show l.length - (i.k + 1) < l.length - i.k
   omega
  have k2 := c2
  try simp only [cnd] at c2
  refine jd (AW.region ?_)
  refine qq Qt.move ?_
  refine qq (Qt.binOp rfl rfl (by first | exact pbAdd (by omega) | rfl)) ?_
  refine nm ?_
  refine qq Qt.assign ?_
  refine nl ?_
  refine ⟨⟨i.k + 1, by omega⟩, Weak.sim ⟨st1, rfl, rfl, rfl, Rf rfl, ⟨_, rfl, by rw [filt_no (p := fun y => y != x) (by omega) k2]; exact T.sim_refl _⟩, trivial⟩ rfl rfl, ?_⟩
  show l.length - (i.k + 1) < l.length - i.k
  omega
 have k1 := c1
 try simp only [cnd] at c1
 refine AW.exit ?_
 dsimp only [thenQ, blockQ, reduceIte]
 refine AW.seq (AW.region ?_)
 refine qq Qt.move ?_
 refine qq Qt.assign ?_
 refine nl ?_
 refine AW.rep 7 (tr (l.filter (fun y => y != x))) rfl (by rw [List.take_of_length_le (by omega)]; exact T.sim_refl _) ?_
 refine AW.ret (endQ_ret (.cons (.tmp 4) .nil) ?_)
 refine ⟨fun _ => 7, rfl, nodup_of rfl, ?_⟩
 intro r hr
 cases List.mem_singleton.1 hr
 exact ⟨by simp, rootL_mem rfl⟩
set_option maxHeartbeats 8000000 in
set_option maxRecDepth 10000 in
theorem l15Is_con (a : DBuddy) (f : Int) (h5 : a.Free.length = 5) (hf : frame f = true) : Con Try.prog 92 [.g [.h base []], .v (iv f)] [.rt base .ro (tr a.Free)] (fun y _ => y = .v (.bool (isS a.Free f))) := by
 refine Con.of_body Try.func92 rfl (by simp) ?_
 rw [Try.ntmps92]
 have hf2 := frame_iff.1 hf
 refine AW.len (base) [] rfl (by simp [Okp]) rfl (fun hl => ?_)
 refine AW.seq (AW.region ?_)
 refine sp (Stp.boxB rfl (by decide) (by decide) rfl rfl rfl rfl) ?_
 refine nm ?_
 refine qq Qt.assign ?_
 refine nl ?_
 refine AW.seq (AW.seq (AW.region ?_))
 refine qq Qt.assign ?_
 refine nl ?_
 refine AW.block ?_
 refine AW.loopW (fun i : IsInv a.Free f => [.sl 5 (.v (iv i.k)), .sl 1 (.v (iv f)), .sl 2 (.p 2 [] 1 0 0), .rt 2 .box (T.s 1 1 fun k c => ([(T.j, none)].getD (k * 1 + c) (T.j, none)).fst), .al 2 0 (.h base []), .rt base .ro (tr a.Free)]) (fun i => a.Free.length - i.k) ⟨0, Nat.zero_le _, fun _ h => absurd h (Nat.not_lt_zero _)⟩ (Weak.sim ⟨rfl, rfl, rfl, Rf rfl, ⟨rfl, rfl⟩, Rf rfl, trivial⟩ rfl rfl) ?_
 intro i
 have hle := i.le
 refine AW.seq (AW.seq (AW.region ?_))
 refine qq Qt.move ?_
 refine nm ?_
 refine qq (fA fl26_0) ?_
 refine qq (Qt.load1 rfl rfl rfl ag24) ?_
 refine qq (Qt.lenH rfl rfl rfl sl24) ?_
 refine nm ?_
 refine qq (Qt.binOp rfl rfl rfl) ?_
 refine nl ?_
 refine AW.cond rfl (fun c1 => ?_) (fun c1 => ?_)
 ·have k1 := c1
  try simp only [cnd] at c1
  have hpw := pow5 (k := i.k) (by omega)
  have htm := tm_facts (f := f) (k := i.k) hf2.1
  have hpz : ((2 ^ i.k : Nat) : Int) ≠ 0 := by omega
  refine jd (AW.seq (AW.block (AW.seq ?_)))
  refine AW.draw [0, 1, 2, 3, 4, 5, 6, 7, 9, 10] rfl (by decide +kernel) ?_
  refine tk 0 rfl (fA fl26_0) ?_
  refine tk 1 rfl (Qt.load1 rfl rfl rfl ag24) ?_
  refine na ?_
  refine tk 2 rfl Qt.move ?_
  refine tk 3 rfl (Qt.indexAddr rfl rfl rfl rfl sl24 sz35 (by decide) (by first | omega | grind only)) ?_
  refine tk 4 rfl (Qt.load1 rfl rfl rfl ag35) ?_
  refine na ?_
  refine tk 5 rfl Qt.move ?_
  refine tk 6 rfl Qt.move ?_
  refine tk 7 rfl Qt.move ?_
  refine na ?_
  refine a1 8 [0, 1, 2, 3, 4, 5, 6] [7] rfl rfl (Stp.callV rfl (by decide) Try.call32 rfl rfl (l15Len_con i.k (by omega))) ?_
  refine na ?_
  refine na ?_
  refine AWA.againE rfl rfl (by decide +kernel) (.on rfl rfl (fA fl26_0)) rfl ?_
  refine na ?_
  refine AWA.againE rfl rfl (by decide +kernel) (.on rfl rfl (Qt.load1 rfl rfl rfl ag24)) rfl ?_
  refine na ?_
  refine AWA.againE rfl rfl (by decide +kernel) (.on rfl rfl Qt.move) rfl ?_
  refine na ?_
  refine AWA.againE rfl rfl (by decide +kernel) (.on rfl rfl (Qt.indexAddr rfl rfl rfl rfl sl24 sz35 (by decide) (by first | omega | grind only))) rfl ?_
  refine na ?_
  refine AWA.againE rfl rfl (by decide +kernel) (.on rfl rfl (Qt.load1 rfl rfl rfl ag35)) rfl ?_
  refine na ?_
  refine AWA.againE rfl rfl (by decide +kernel) (.on rfl rfl Qt.move) rfl ?_
  refine na ?_
  refine AWA.againE rfl rfl (by decide +kernel) (.on rfl rfl Qt.move) rfl ?_
  refine na ?_
  refine tk 9 rfl (Qt.binOp rfl rfl (by first | exact pbRem4 _ | rfl | exact pbRemI (by omega))) ?_
  refine tk 10 rfl (Qt.binOp rfl rfl (by first | exact pbSub (by omega) | rfl)) ?_
  refine a1 11 [] [10, 8, 4, 9, 5, 7, 3, 6, 2, 1, 0] rfl rfl (Stp.callV rfl (by decide) Try.call33 rfl rfl (l6Has_con _ _)) ?_
  refine na ?_
  refine na ?_
  refine nz ?_
  refine AW.cond rfl (fun c2 => ?_) (fun c2 => ?_)
  ·have k2 := c2
   try simp only [cnd] at c2
   refine AW.seq (AW.region ?_)
   refine qq Qt.assign ?_
   refine nl ?_
   refine AW.ret (endQ_ret (.cons (.tmp 4) .nil) ?_)
   rw [i.yes (by omega) (by rw [hitS, ← htm.1]; exact c2)]
   rfl
  have k2 := c2
  try simp only [cnd] at c2
  refine jd (AW.region ?_)
  refine qq Qt.move ?_
  refine qq (Qt.binOp rfl rfl (by first | exact pbAdd (by omega) | rfl)) ?_
  refine nm ?_
  refine qq Qt.assign ?_
  refine nl ?_
  refine ⟨⟨i.k + 1, by omega, i.next (by rw [hitS, ← htm.1]; exact c2)⟩, Weak.sim ⟨st1, rfl, rfl, Rf rfl, ⟨rfl, rfl⟩, Rf rfl, trivial⟩ rfl rfl, ?_⟩
  show a.Free.length - (i.k + 1) < a.Free.length - i.k
  omega
 have k1 := c1
 try simp only [cnd] at c1
 refine AW.exit ?_
 dsimp only [thenQ, blockQ, reduceIte]
 refine AW.seq (AW.region ?_)
 refine qq Qt.assign ?_
 refine nl ?_
 refine AW.ret (endQ_ret (.cons (.tmp 4) .nil) ?_)
 rw [i.not (by omega)]
 rfl
end Go.Proofs.Ytfbefcmeghpalaa.VM
