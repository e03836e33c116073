/- Contracts of functions of the program. No conditions beyond those that each states. -/
import Derived.Test.YtlploojfcmcckaaDoorCKE
set_option linter.all false
set_option maxHeartbeats 8000000
set_option maxRecDepth 10000
namespace Go.Proofs.YtlploojfcmcckaaDoor.VM
open Go Go.RowKit Go.Proofs
theorem lineR_goodI {s : ByteArray} {o : Int} {f : ByteArray} (h : formOf ((cutB 32 s).getD 0 En.dflt) = (o, f)) (h1 : ¬ o = 0) (h2 : ((cutB 32 s).length : Int) = (f.size : Int) + 1) (h3 : argsOk f (cutB 32 s) f.size = true) : lineR s = (insOf o f (cutB 32 s), insOk (insOf o f (cutB 32 s))) := by
 have := lineR_good (s := s) (by rw [h]; exact h1) (by rw [h]; exact h2) (by rw [h]; exact h3)
 rwa [h] at this
theorem lineR_badI {s : ByteArray} {o : Int} {f : ByteArray} (h : formOf ((cutB 32 s).getD 0 En.dflt) = (o, f)) (h3 : argsOk f (cutB 32 s) f.size = false) : lineR s = (⟨0, 0, 0, 0⟩, false) := lineR_bad (.inr (.inr (by rw [h]; exact h3)))
theorem drop1_getD (l : List ByteArray) (k : Nat) : (l.drop 1).getD k En.dflt = l.getD (k + 1) En.dflt := by
 simp [List.getD_eq_getElem?_getD, List.getElem?_drop, Nat.add_comm]
theorem readIns_con (s : ByteArray) (hs : s.size ≤ 1048576) : Con Tryd.prog 51 [.v (.string s)] [] (Ret (.t [.g [.v (iv (lineR s).1.Op), .v (iv (lineR s).1.A), .v (iv (lineR s).1.B), .v (iv (lineR s).1.C)], .v (.bool (lineR s).2)]) []) := by
 refine ob Tryd.func51 Tryd.ntmps51 ?_
 have hcl := cutB_len 32 s
 have hi9 := idx9 ((cutB 32 s).getD 0 En.dflt)
 have hfs : (forms.getD (Lib.idxOfS names ((cutB 32 s).getD 0 En.dflt)).toNat En.dflt).size ≤ 3 := forms_size _
 refine sr ?_
 refine sp sA ?_
 refine nm ?_
 refine qs' ?_
 refine qm ?_
 refine sp (Stp.callR rfl (by decide) Tryd.call66 rfl rfl (splitB_con s 32 hs) (nodup_of rfl) rfl rfl) ?_
 refine nm ?_
 refine qn ?_
 refine AW.seq ?_
 refine AW.draw [1, 2, 3, 5] rfl (by decide +kernel) ?_
 refine tk 1 rfl Qt.move ?_
 refine tk 2 rfl (ix sl49 sz9) ?_
 refine na ?_
 refine tk 3 rfl (Qt.load1 rfl rfl rfl ag9) ?_
 refine a1 0 [1, 2, 3] [] rfl rfl (Stp.callR rfl (by decide) Tryd.call36 rfl rfl opNames_con (nodup_of rfl) rfl rfl) ?_
 refine na ?_
 refine ae rfl Qt.move ?_
 refine ae rfl (ix sl49 sz9) ?_
 refine ae rfl (Qt.load1 rfl rfl rfl ag9) ?_
 refine na ?_
 refine a1 4 [] [3, 0, 2, 1] rfl rfl (Stp.callV rfl (by decide) Tryd.call67 rfl rfl (idxS_con names _ (by show 9 < _; decide))) ?_
 refine na ?_
 refine na ?_
 refine tk 5 rfl Qt.assign ?_
 refine nz ?_
 refine sr2 ?_
 refine qm ?_
 refine qb ?_
 refine nm ?_
 refine qm ?_
 apply AWL.cut 7
 ·intro Kg1
  refine AWL.splitF 21 rfl (fun g1 => ?_) (fun g1 => ?_)
  ·have eg1 := g1
   try simp only [cnd] at eg1
   refine qg (nF g1) Qt.move ?_
   refine qg (nF g1) (Qt.lenH rfl rfl rfl sl49) ?_
   refine nm ?_
   refine qg (nF g1) Qt.move ?_
   refine AWL.step rfl (nF g1) (Stp.callV rfl (by decide) Tryd.call37 rfl rfl (opForm_con _ (by omega) (by omega))) ?_
   refine nm ?_
   refine qg (nF g1) (Qt.lenS rfl Tryd.underlying9) ?_
   refine qg (nF g1) (Qt.binOp rfl rfl (by first | exact pbAdd (by omega) | rfl)) ?_
   refine qg (nF g1) (Qt.binOp rfl rfl rfl) ?_
   refine nm ?_
   exact wj 28 [22, 23, 24, 25, 26, 27, 28] (ifF g1 _ undef) (by simp only [go_sem, reduceIte, Nat.reduceEqDiff, Nat.reduceBEq, reduceCtorEq]; rfl) Kg1
  ·refine og (nT g1) ?_
   refine og (nT g1) ?_
   refine og (nT g1) ?_
   refine og (nT g1) ?_
   refine nm ?_
   refine og (nT g1) ?_
   refine og (nT g1) ?_
   refine og (nT g1) ?_
   exact wj 28 [22, 23, 24, 25, 26, 27, 28] (ifT g1 undef _) (by simp only [go_sem, reduceIte, Nat.reduceEqDiff, Nat.reduceBEq, reduceCtorEq]) Kg1
 refine qq (Qt.pickOr rfl rfl rfl) ?_
 refine nc (fun c2 => ?_) fun c2 => ?_
 ·try simp only [cnd] at c2
  refine sr ?_
  refine qq (Qt.build rfl) ?_
  refine ss ?_
  refine nm ?_
  refine qn ?_
  refine AW.ret (endQ_ret (.cons (.cellG 2 53 rfl rfl rfl ag53 sz53 (by decide)) (.cons (.tmp 3) .nil)) ?_)
  rw [lineR_bad (by
   by_cases h1 : (Lib.idxOfS names ((cutB 32 s).getD 0 En.dflt)) < 1
   ·exact .inl (by rw [formOf_idx, if_pos h1])
   ·refine .inr (.inl ?_)
    rw [formOf_idx, if_neg h1]
    show ¬ ((cutB 32 s).length : Int) = ((forms.getD (Lib.idxOfS names ((cutB 32 s).getD 0 En.dflt)).toNat En.dflt).size : Int) + 1
    omega)]
  refine ⟨fun _ => 0, rfl, nodup_of rfl, ?_⟩
  intro r hr
  cases hr
 try simp only [cnd] at c2
 have hfo : formOf ((cutB 32 s).getD 0 En.dflt) = ((Lib.idxOfS names ((cutB 32 s).getD 0 En.dflt)), (forms.getD (Lib.idxOfS names ((cutB 32 s).getD 0 En.dflt)).toNat En.dflt)) := (formOf_idx _).trans (if_neg (by omega))
 refine jd (sr ?_)
 refine sp (Stp.makeSlice rfl (by decide) (by decide) rfl rfl (by omega) (by omega) (by omega)) ?_
 refine nm ?_
 refine qn ?_
 refine sr2 ?_
 refine qm ?_
 refine qq (Qt.sliceH (lo := 1) rfl rfl rfl sl49 sz49 (by decide) (slB_so rfl rfl) slB_no (by omega) (by omega)) ?_
 refine nm ?_
 refine AWL.weak (Weak.frz 13 rfl) ?_
 refine nm ?_
 refine AWL.weak (Weak.viewA 33 902 rfl rfl (.inr (by omega)) rfl (by decide)) ?_
 refine AWL.rep 902 (tr ((cutB 32 s).drop 1)) rfl (view_dropS (by omega)) ?_
 refine nm ?_
 refine qh sl49 ?_
 refine qm ?_
 refine nl ?_
 refine AW.block ?_
 refine AW.weak (L' := [.sl 35 (.v (iv (0 : Nat))), .sl 34 (.v (iv (((cutB 32 s).drop 1).length : Nat))), .sl 33 (.h 902 []), .rt 902 .ro (tr ((cutB 32 s).drop 1)), .sl 6 (.h 31 []), .rt 31 .row (tr (nsK (forms.getD (Lib.idxOfS names ((cutB 32 s).getD 0 En.dflt)).toNat En.dflt) (cutB 32 s) (0 : Nat))), .sl 5 (.v (iv (Lib.idxOfS names ((cutB 32 s).getD 0 En.dflt)))), .sl 3 (.v (.bool false)), .sl 2 (.p 2 [] 4 0 0), .rt 2 .box (T.s 4 1 fun x c => [T.v (iv 0), T.v (iv 0), T.v (iv 0), T.v (iv 0)].getD c T.j)]) (Weak.sim ⟨rfl, rfl, rfl, Rf rfl, rfl, ⟨_, rfl, (by rw [nsK_zero]; exact sim_int3 rfl rfl rfl)⟩, rfl, rfl, rfl, Rf rfl, trivial⟩ rfl rfl) ?_
 refine AW.loop (fun i : LineI (forms.getD (Lib.idxOfS names ((cutB 32 s).getD 0 En.dflt)).toNat En.dflt) (cutB 32 s) => [.sl 35 (.v (iv i.k)), .sl 34 (.v (iv (((cutB 32 s).drop 1).length : Nat))), .sl 33 (.h 902 []), .rt 902 .ro (tr ((cutB 32 s).drop 1)), .sl 6 (.h 31 []), .rt 31 .row (tr (nsK (forms.getD (Lib.idxOfS names ((cutB 32 s).getD 0 En.dflt)).toNat En.dflt) (cutB 32 s) i.k)), .sl 5 (.v (iv (Lib.idxOfS names ((cutB 32 s).getD 0 En.dflt)))), .sl 3 (.v (.bool false)), .sl 2 (.p 2 [] 4 0 0), .rt 2 .box (T.s 4 1 fun x c => [T.v (iv 0), T.v (iv 0), T.v (iv 0), T.v (iv 0)].getD c T.j)]) (fun i => (forms.getD (Lib.idxOfS names ((cutB 32 s).getD 0 En.dflt)).toNat En.dflt).size - i.k) ⟨0, Nat.zero_le _, rfl⟩ ?_
 intro i
 have hle := i.le
 have h3 : (nsK (forms.getD (Lib.idxOfS names ((cutB 32 s).getD 0 En.dflt)).toNat En.dflt) (cutB 32 s) i.k).length = 3 := rfl
 have hdr := drop1_getD (cutB 32 s) i.k
 have hdl : ((cutB 32 s).drop 1).length = (cutB 32 s).length - 1 := List.length_drop
 refine sr ?_
 refine qb ?_
 refine nl ?_
 refine AW.seq ?_
 refine cd (fun c3 => ?_) fun c3 => ?_
 ·try simp only [cnd] at c3
  refine jd (AW.seq (AW.block (sr ?_)))
  refine mn ?_
  refine qq (ix sl49 sz9) ?_
  refine ql ag9 ?_
  refine qa ?_
  refine nm ?_
  refine qs' ?_
  refine qa ?_
  refine qn ?_
  refine sr2 ?_
  refine mn ?_
  refine cv Tryd.call37 rfl rfl (opForm_con _ (by omega) (by omega)) ?_
  refine nm ?_
  refine qm ?_
  refine qq (Qt.indexS rfl rfl Tryd.underlying9 (by omega) (by omega)) ?_
  refine qb ?_
  refine nc (fun c4 => ?_) fun c4 => ?_
  ·try simp only [cnd] at c4
   refine AW.region ?_
   refine mn ?_
   refine sp (Stp.callR rfl (by decide) Tryd.call68 rfl rfl (readReg_con _) (nodup_of rfl) rfl rfl) ?_
   refine nm ?_
   refine qm ?_
   refine qq (Qt.extract rfl (of_decide_eq_true rfl)) ?_
   refine qq (Qt.extract rfl (of_decide_eq_true rfl)) ?_
   refine nm ?_
   refine qa ?_
   refine qn ?_
   refine sr2 ?_
   refine mn ?_
   refine qq (Qt.notB rfl) ?_
   refine nc (fun c5 => ?_) fun c5 => ?_
   ·try simp only [cnd] at c5
    have hav : (argV (forms.getD (Lib.idxOfS names ((cutB 32 s).getD 0 En.dflt)).toNat En.dflt) (cutB 32 s) i.k).2 = false := by
     rw [hdr] at c5
     unfold argV
     rw [if_pos (by omega), if_pos (by omega)]
    refine sr ?_
    refine qq (Qt.build rfl) ?_
    refine ss ?_
    refine nm ?_
    refine qn ?_
    refine AW.ret (endQ_ret (.cons (.cellG 2 53 rfl rfl rfl ag53 sz53 (by decide)) (.cons (.tmp 3) .nil)) ?_)
    rw [lineR_badI hfo (argsOk_stop hav (by omega))]
    refine ⟨fun _ => 0, rfl, nodup_of rfl, ?_⟩
    intro r hr
    cases hr
   try simp only [cnd] at c5
   have hav : argV (forms.getD (Lib.idxOfS names ((cutB 32 s).getD 0 En.dflt)).toNat En.dflt) (cutB 32 s) i.k = (if regN (((cutB 32 s).drop 1).getD i.k En.dflt) < 0 then 0 else regN (((cutB 32 s).drop 1).getD i.k En.dflt), true) := by
    rw [hdr] at c5 ⊢
    unfold argV
    rw [if_pos (by omega), if_neg (by omega), if_neg (by omega)]
   refine jd (AW.region ?_)
   refine qm ?_
   refine mn ?_
   refine qm ?_
   refine qq (ix sl54 sz3) ?_
   refine ss ?_
   refine nl ?_
   refine AW.region ?_
   refine ba ?_
   refine nm ?_
   refine qm ?_
   refine nl ?_
   refine ⟨⟨i.k + 1, by omega, argsOk_next i.ok (by rw [hav])⟩, Weak.sim ⟨st1, rfl, rfl, Rf rfl, rfl, ⟨_, rfl, (by rw [← nsK_set _ _ (by omega), hav]; exact (set_sim (fun k c hk => by simp only [upd_app, hk, false_and, if_false]; try rfl) (fun c hc => match c, hc with | 0, _ => (by simp only [upd_app, eq_self, and_self, if_true]; exact T.sim_refl _) | c + 1, hc => absurd hc (by simp only [En.n]; omega))))⟩, rfl, rfl, rfl, Rf rfl, trivial⟩ rfl rfl, ?_⟩
   show (forms.getD (Lib.idxOfS names ((cutB 32 s).getD 0 En.dflt)).toNat En.dflt).size - (i.k + 1) < (forms.getD (Lib.idxOfS names ((cutB 32 s).getD 0 En.dflt)).toNat En.dflt).size - i.k
   omega
  try simp only [cnd] at c4
  refine AW.region ?_
  refine qm ?_
  refine sp (Stp.callR rfl (by decide) Tryd.call16 rfl rfl (ReadDecI_con _ (by rw [hdr]; exact Nat.le_trans (cutB_size 32 s _) hs)) (nodup_of rfl) rfl rfl) ?_
  refine nm ?_
  refine qm ?_
  refine qq (Qt.extract rfl (of_decide_eq_true rfl)) ?_
  refine qq (Qt.extract rfl (of_decide_eq_true rfl)) ?_
  refine nm ?_
  refine qa ?_
  refine qn ?_
  refine sr2 ?_
  refine mn ?_
  refine qq (Qt.notB rfl) ?_
  refine nc (fun c6 => ?_) fun c6 => ?_
  ·try simp only [cnd] at c6
   have hav : (argV (forms.getD (Lib.idxOfS names ((cutB 32 s).getD 0 En.dflt)).toNat En.dflt) (cutB 32 s) i.k).2 = false := by
    rw [hdr] at c6
    unfold argV
    rw [if_neg (by omega)]
    exact c6
   refine sr ?_
   refine qq (Qt.build rfl) ?_
   refine ss ?_
   refine nm ?_
   refine qn ?_
   refine AW.ret (endQ_ret (.cons (.cellG 2 53 rfl rfl rfl ag53 sz53 (by decide)) (.cons (.tmp 3) .nil)) ?_)
   rw [lineR_badI hfo (argsOk_stop hav (by omega))]
   refine ⟨fun _ => 0, rfl, nodup_of rfl, ?_⟩
   intro r hr
   cases hr
  try simp only [cnd] at c6
  have hav : argV (forms.getD (Lib.idxOfS names ((cutB 32 s).getD 0 En.dflt)).toNat En.dflt) (cutB 32 s) i.k = ((rdS (((cutB 32 s).drop 1).getD i.k En.dflt)).1, true) := by
   rw [hdr] at c6 ⊢
   unfold argV
   rw [if_neg (by omega)]
   exact Prod.ext rfl c6
  refine jd (AW.region ?_)
  refine qm ?_
  refine mn ?_
  refine qm ?_
  refine qq (ix sl54 sz3) ?_
  refine ss ?_
  refine nl ?_
  refine AW.region ?_
  refine ba ?_
  refine nm ?_
  refine qm ?_
  refine nl ?_
  refine ⟨⟨i.k + 1, by omega, argsOk_next i.ok (by rw [hav])⟩, Weak.sim ⟨st1, rfl, rfl, Rf rfl, rfl, ⟨_, rfl, (by rw [← nsK_set _ _ (by omega), hav]; exact (set_sim (fun k c hk => by simp only [upd_app, hk, false_and, if_false]; try rfl) (fun c hc => match c, hc with | 0, _ => (by simp only [upd_app, eq_self, and_self, if_true]; exact T.sim_refl _) | c + 1, hc => absurd hc (by simp only [En.n]; omega))))⟩, rfl, rfl, rfl, Rf rfl, trivial⟩ rfl rfl, ?_⟩
  show (forms.getD (Lib.idxOfS names ((cutB 32 s).getD 0 En.dflt)).toNat En.dflt).size - (i.k + 1) < (forms.getD (Lib.idxOfS names ((cutB 32 s).getD 0 En.dflt)).toNat En.dflt).size - i.k
  omega
 try simp only [cnd] at c3
 have hke : i.k = (forms.getD (Lib.idxOfS names ((cutB 32 s).getD 0 En.dflt)).toNat En.dflt).size := by omega
 refine AW.rep 31 (tr (nsK (forms.getD (Lib.idxOfS names ((cutB 32 s).getD 0 En.dflt)).toNat En.dflt) (cutB 32 s) (forms.getD (Lib.idxOfS names ((cutB 32 s).getD 0 En.dflt)).toNat En.dflt).size)) rfl (by rw [hke]; exact T.sim_refl _) ?_
 have h33 : (nsK (forms.getD (Lib.idxOfS names ((cutB 32 s).getD 0 En.dflt)).toNat En.dflt) (cutB 32 s) (forms.getD (Lib.idxOfS names ((cutB 32 s).getD 0 En.dflt)).toNat En.dflt).size).length = 3 := rfl
 have hok : argsOk (forms.getD (Lib.idxOfS names ((cutB 32 s).getD 0 En.dflt)).toNat En.dflt) (cutB 32 s) (forms.getD (Lib.idxOfS names ((cutB 32 s).getD 0 En.dflt)).toNat En.dflt).size = true := hke ▸ i.ok
 refine AW.exit ?_
 dsimp only [thenQ, blockQ, reduceIte]
 refine AW.seq ?_
 refine AW.draw [0, 1, 2, 3, 4, 5, 6, 7, 8, 9, 10] rfl (by decide +kernel) ?_
 refine tk 0 rfl Qt.move ?_
 refine tk 1 rfl Qt.move ?_
 refine na ?_
 refine tk 2 rfl (ix sl54 sz3) ?_
 refine tk 3 rfl (Qt.load1 rfl rfl rfl ag3) ?_
 refine tk 4 rfl Qt.move ?_
 refine na ?_
 refine tk 5 rfl (ix sl54 sz3) ?_
 refine tk 6 rfl (Qt.load1 rfl rfl rfl ag3) ?_
 refine tk 7 rfl Qt.move ?_
 refine na ?_
 refine tk 8 rfl (ix sl54 sz3) ?_
 refine tk 9 rfl (Qt.load1 rfl rfl rfl ag3) ?_
 refine tk 10 rfl (Qt.build rfl) ?_
 refine na ?_
 refine a1 11 [0, 1, 2, 3, 4, 5, 6, 7, 8, 9, 10] [] rfl rfl sA ?_
 refine na ?_
 refine ae rfl Qt.move ?_
 refine ae rfl Qt.move ?_
 refine ae rfl (ix sl54 sz3) ?_
 refine ae rfl (Qt.load1 rfl rfl rfl ag3) ?_
 refine ae rfl Qt.move ?_
 refine ae rfl (ix sl54 sz3) ?_
 refine ae rfl (Qt.load1 rfl rfl rfl ag3) ?_
 refine ae rfl Qt.move ?_
 refine ae rfl (ix sl54 sz3) ?_
 refine ae rfl (Qt.load1 rfl rfl rfl ag3) ?_
 refine ae rfl (Qt.build rfl) ?_
 refine na ?_
 refine a1 12 [] [11, 10, 9, 8, 7, 6, 5, 4, 3, 2, 1, 0] rfl rfl (by first | exact Stp.storeA rfl rfl rfl rfl (by decide) rfl | exact Stp.store rfl rfl (by simp) rfl rfl rfl (by decide) rfl) ?_
 refine na ?_
 refine na ?_
 refine nz ?_
 refine AW.seq ?_
 refine AW.draw [0, 1, 4] rfl (by decide +kernel) ?_
 refine tk 0 rfl (Qt.loadG rfl rfl rfl ag53 sz53 (by decide)) ?_
 refine tk 1 rfl (Qt.loadG rfl rfl rfl ag53 sz53 (by decide)) ?_
 refine a1 2 [0] [1] rfl rfl (Stp.callV rfl (by decide) Tryd.call56 rfl rfl (InsOkI_con (insOf (Lib.idxOfS names ((cutB 32 s).getD 0 En.dflt)) (forms.getD (Lib.idxOfS names ((cutB 32 s).getD 0 En.dflt)).toNat En.dflt) (cutB 32 s)))) ?_
 refine na ?_
 refine ae rfl (Qt.loadG rfl rfl rfl ag53 sz53 (by decide)) ?_
 refine na ?_
 refine a1 3 [] [2, 0, 1] rfl rfl (by first | exact Stp.storeA rfl rfl rfl rfl (by decide) rfl | exact Stp.store rfl rfl (by simp) rfl rfl rfl (by decide) rfl) ?_
 refine na ?_
 refine na ?_
 refine tk 4 rfl Qt.assign ?_
 refine nz ?_
 refine AW.ret (endQ_ret (.cons (.cellG 2 53 rfl rfl rfl ag53 sz53 (by decide)) (.cons (.tmp 3) .nil)) ?_)
 rw [lineR_goodI hfo (by omega) (by omega) hok]
 refine ⟨fun _ => 0, rfl, nodup_of rfl, ?_⟩
 intro r hr
 cases hr
end Go.Proofs.YtlploojfcmcckaaDoor.VM
