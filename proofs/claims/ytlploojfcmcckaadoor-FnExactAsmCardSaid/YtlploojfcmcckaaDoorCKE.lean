/- Contracts of functions of the program. No conditions beyond those that each states. -/
import Derived.Test.YtlploojfcmcckaaDoorCK9
set_option linter.all false
set_option maxHeartbeats 8000000
set_option maxRecDepth 10000
namespace Go.Proofs.YtlploojfcmcckaaDoor.VM
open Go Go.RowKit Go.Proofs
theorem formOf_size (w : ByteArray) : (formOf w).2.size ≤ 3 := by
 unfold formOf
 repeat' split
 all_goals decide
theorem formOf_op (w : ByteArray) : 0 ≤ (formOf w).1 ∧ (formOf w).1 ≤ 8 := by
 unfold formOf
 repeat' split
 all_goals decide
theorem idx9 (w : ByteArray) : -1 ≤ Lib.idxOfS names w ∧ Lib.idxOfS names w ≤ 8 := by
 unfold Lib.idxOfS
 simp only [names, Lib.idxFromS]
 repeat' split
 all_goals omega
theorem view_takeS {l : List ByteArray} {n : Nat} (h : n ≤ l.length) : (T.s 1 n fun k c => (En.cs (l.getD (0 + k) En.dflt)).getD c .j).sim (tr (l.take n)) := by
 refine ⟨fun k c => (En.cs ((l.take n).getD k En.dflt)).getD c .j, by simp only [tr, List.length_take, Nat.min_eq_left h]; rfl, fun k c hk hc => ?_⟩
 show T.sim ((En.cs (l.getD (0 + k) En.dflt)).getD c .j) ((En.cs ((l.take n).getD k En.dflt)).getD c .j)
 rw [show (l.take n).getD k En.dflt = l.getD (0 + k) En.dflt by simp [List.getD_eq_getElem?_getD, List.getElem?_take, hk]]
 exact T.sim_refl _
theorem view_dropS {l : List ByteArray} {lo len : Nat} (h : lo + len = l.length) : (T.s 1 len fun k c => (En.cs (l.getD (lo + k) En.dflt)).getD c .j).sim (tr (l.drop lo)) := by
 refine ⟨fun k c => (En.cs ((l.drop lo).getD k En.dflt)).getD c .j, by simp only [tr, List.length_drop]; rw [show l.length - lo = len by omega]; rfl, fun k c hk hc => ?_⟩
 show T.sim ((En.cs (l.getD (lo + k) En.dflt)).getD c .j) ((En.cs ((l.drop lo).getD k En.dflt)).getD c .j)
 rw [show (l.drop lo).getD k En.dflt = l.getD (lo + k) En.dflt by simp [List.getD_eq_getElem?_getD, List.getElem?_drop]]
 exact T.sim_refl _
theorem sim_int3 {a b c : Int} {f : Nat → Nat → T} (h0 : f 0 0 = .v (iv a)) (h1 : f 1 0 = .v (iv b)) (h2 : f 2 0 = .v (iv c)) : (T.s 1 3 f).sim (tr [a, b, c]) := T.sim_of fun k d hk hd => by
 obtain rfl : d = 0 := by omega
 match k, hk with
 | 0, _ => rw [h0]; rfl
 | 1, _ => rw [h1]; rfl
 | 2, _ => rw [h2]; rfl
structure LineI (f : ByteArray) (ws : List ByteArray) where
 k : Nat
 le : k ≤ f.size
 ok : argsOk f ws k = true
theorem linesOf_con (s : ByteArray) (hs : s.size ≤ 1048576) : Con Tryd.prog 50 [.v (.string s)] [] (Ret (.h 0 []) [(0, .row, tr (linesS s))]) := by
 refine ob Tryd.func50 Tryd.ntmps50 ?_
 have hcl := cutB_len 10 s
 refine sr ?_
 refine qs' ?_
 refine qm ?_
 refine sp (Stp.callR rfl (by decide) Tryd.call66 rfl rfl (splitB_con s 10 hs) (nodup_of rfl) rfl rfl) ?_
 refine nm ?_
 refine qn ?_
 refine sr2 ?_
 refine qm ?_
 refine mn ?_
 refine qh sl49 ?_
 refine qq (Qt.binOp rfl rfl (by first | exact pbSub (by omega) | rfl)) ?_
 refine qq (ix sl49 sz9) ?_
 refine nm ?_
 refine ql ag9 ?_
 refine qb ?_
 refine nc (fun c1 => ?_) fun c1 => ?_
 ·try simp only [cnd] at c1
  have hc : (cutB 10 s).getD ((cutB 10 s).length - 1) En.dflt = ⟨#[]⟩ := by rw [show (((cutB 10 s).length : Int) - 1).toNat = (cutB 10 s).length - 1 by omega, baD, decide_eq_true_eq] at c1; exact c1
  refine AW.region ?_
  refine mn ?_
  refine qm ?_
  refine qh sl49 ?_
  refine qq (Qt.binOp rfl rfl (by first | exact pbSub (by omega) | rfl)) ?_
  refine nm ?_
  refine qq (Qt.sliceH (hi := (cutB 10 s).length - 1) rfl rfl rfl sl49 sz49 (by decide) slB_no (slB_so rfl (by omega)) (by omega) (by omega)) ?_
  refine nm ?_
  refine AWL.weak (Weak.trunc 17 901 rfl rfl (by omega) (by decide) rfl) ?_
  refine AWL.rep 901 (tr ((cutB 10 s).take ((cutB 10 s).length - 1))) rfl (view_takeS (by omega)) ?_
  refine nm ?_
  refine qs' ?_
  refine qm ?_
  refine qr 2 ?_
  rw [show linesS s = (cutB 10 s).take ((cutB 10 s).length - 1) from if_pos hc]
  refine ⟨fun _ => 901, rfl, nodup_of rfl, ?_⟩
  intro r hr
  cases List.mem_singleton.1 hr
  exact ⟨by simp, rootL_mem rfl⟩
 try simp only [cnd] at c1
 have hc : ¬ (cutB 10 s).getD ((cutB 10 s).length - 1) En.dflt = ⟨#[]⟩ := by rw [show (((cutB 10 s).length : Int) - 1).toNat = (cutB 10 s).length - 1 by omega, baD, decide_eq_false_iff_not] at c1; exact c1
 refine jd (sr ?_)
 refine mn ?_
 refine qr 2 ?_
 rw [show linesS s = cutB 10 s from if_neg hc]
 refine ⟨fun _ => 5, rfl, nodup_of rfl, ?_⟩
 intro r hr
 cases List.mem_singleton.1 hr
 exact ⟨by simp, rootL_mem rfl⟩
theorem l4Line_con (s : ByteArray) (hs : s.size ≤ 1048576) : Con Tryd.prog 49 [.v (.string s)] [] (Ret (.t [.g [.v (iv (lineR s).1.Op), .v (iv (lineR s).1.A), .v (iv (lineR s).1.B), .v (iv (lineR s).1.C)], .v (.bool (lineR s).2)]) []) := by
 refine ob Tryd.func49 Tryd.ntmps49 ?_
 have hcl := cutB_len 32 s
 have hfo := formOf_op ((cutB 32 s).getD 0 En.dflt)
 have hfs := formOf_size ((cutB 32 s).getD 0 En.dflt)
 refine sr ?_
 refine sp sA ?_
 refine nm ?_
 refine qs' ?_
 refine qm ?_
 refine sp (Stp.callR rfl (by decide) Tryd.call64 rfl rfl (l4Words_con s hs) (nodup_of rfl) rfl rfl) ?_
 refine nm ?_
 refine qs' ?_
 refine qm ?_
 refine qq (ix sl49 sz9) ?_
 refine nm ?_
 refine ql ag9 ?_
 refine sp (Stp.callR rfl (by decide) Tryd.call33 rfl rfl (l4Form_con _) (nodup_of rfl) rfl rfl) ?_
 refine nm ?_
 refine qm ?_
 refine qq (Qt.extract rfl (of_decide_eq_true rfl)) ?_
 refine qq (Qt.extract rfl (of_decide_eq_true rfl)) ?_
 refine nm ?_
 refine qa ?_
 refine qn ?_
 refine sr2 ?_
 refine mn ?_
 refine qb ?_
 refine qm ?_
 apply AWL.cut 6
 ·intro Kg1
  refine AWL.splitF 23 rfl (fun g1 => ?_) (fun g1 => ?_)
  ·have eg1 := g1
   try simp only [cnd] at eg1
   refine qg (nF g1) Qt.move ?_
   refine nm ?_
   refine qg (nF g1) (Qt.lenH rfl rfl rfl sl49) ?_
   refine qg (nF g1) Qt.move ?_
   refine qg (nF g1) (Qt.lenS rfl Tryd.underlying9) ?_
   refine nm ?_
   refine qg (nF g1) (Qt.binOp rfl rfl (by first | exact pbAdd (by omega) | rfl)) ?_
   refine qg (nF g1) (Qt.binOp rfl rfl rfl) ?_
   exact wj 29 [24, 25, 26, 27, 28, 29] (ifF g1 _ undef) (by simp only [go_sem, reduceIte, Nat.reduceEqDiff, Nat.reduceBEq, reduceCtorEq]; rfl) Kg1
  ·refine og (nT g1) ?_
   refine og (nT g1) ?_
   refine og (nT g1) ?_
   refine og (nT g1) ?_
   refine nm ?_
   refine og (nT g1) ?_
   refine og (nT g1) ?_
   exact wj 29 [24, 25, 26, 27, 28, 29] (ifT g1 undef _) (by simp only [go_sem, reduceIte, Nat.reduceEqDiff, Nat.reduceBEq, reduceCtorEq]) Kg1
 refine qq (Qt.pickOr rfl rfl rfl) ?_
 refine nc (fun c2 => ?_) fun c2 => ?_
 ·try simp only [cnd] at c2
  refine sr ?_
  refine qq (Qt.build rfl) ?_
  refine nm ?_
  refine ss ?_
  refine nm ?_
  refine qn ?_
  refine AW.ret (endQ_ret (.cons (.cellG 2 53 rfl rfl rfl ag53 sz53 (by decide)) (.cons (.tmp 3) .nil)) ?_)
  rw [lineR_bad (by omega)]
  refine ⟨fun _ => 0, rfl, nodup_of rfl, ?_⟩
  intro r hr
  cases hr
 try simp only [cnd] at c2
 refine jd (sr ?_)
 refine sp (Stp.buildSlice (ys := [.v (iv 0), .v (iv 0), .v (iv 0)]) rfl (by decide) (by decide) rfl (by decide) rfl rfl rfl (nodup_of rfl)) ?_
 refine nm ?_
 refine qn ?_
 refine sr2 ?_
 refine qn ?_
 refine AW.block ?_
 refine AW.weak (L' := [.sl 8 (.v (iv (0 : Nat))), .sl 7 (.h 32 []), .rt 32 .row (tr (nsK (formOf ((cutB 32 s).getD 0 En.dflt)).2 (cutB 32 s) (0 : Nat))), .sl 6 (.v (.string (formOf ((cutB 32 s).getD 0 En.dflt)).2)), .sl 5 (.v (iv (formOf ((cutB 32 s).getD 0 En.dflt)).1)), .sl 4 (.h 13 []), .rt 13 .row (tr (cutB 32 s)), .sl 3 (.v (.bool false)), .sl 2 (.p 2 [] 4 0 0), .rt 2 .box (T.s 4 1 fun x c => [T.v (iv 0), T.v (iv 0), T.v (iv 0), T.v (iv 0)].getD c T.j)]) (Weak.sim ⟨rfl, rfl, ⟨_, rfl, (by rw [nsK_zero]; exact sim_int3 rfl rfl rfl)⟩, rfl, rfl, rfl, Rf rfl, rfl, rfl, Rf rfl, trivial⟩ rfl rfl) ?_
 refine AW.loop (fun i : LineI (formOf ((cutB 32 s).getD 0 En.dflt)).2 (cutB 32 s) => [.sl 8 (.v (iv i.k)), .sl 7 (.h 32 []), .rt 32 .row (tr (nsK (formOf ((cutB 32 s).getD 0 En.dflt)).2 (cutB 32 s) i.k)), .sl 6 (.v (.string (formOf ((cutB 32 s).getD 0 En.dflt)).2)), .sl 5 (.v (iv (formOf ((cutB 32 s).getD 0 En.dflt)).1)), .sl 4 (.h 13 []), .rt 13 .row (tr (cutB 32 s)), .sl 3 (.v (.bool false)), .sl 2 (.p 2 [] 4 0 0), .rt 2 .box (T.s 4 1 fun x c => [T.v (iv 0), T.v (iv 0), T.v (iv 0), T.v (iv 0)].getD c T.j)]) (fun i => (formOf ((cutB 32 s).getD 0 En.dflt)).2.size - i.k) ⟨0, Nat.zero_le _, rfl⟩ ?_
 intro i
 have hle := i.le
 have h3 : (nsK (formOf ((cutB 32 s).getD 0 En.dflt)).2 (cutB 32 s) i.k).length = 3 := rfl
 have ht : (1 + (i.k : Int)).toNat = i.k + 1 := by omega
 refine sr2 ?_
 refine mn ?_
 refine qm ?_
 refine qq (Qt.lenS rfl Tryd.underlying9) ?_
 refine qb ?_
 refine nc (fun c3 => ?_) fun c3 => ?_
 ·try simp only [cnd] at c3
  refine jd (AW.seq (AW.block (sr2 ?_)))
  refine mn ?_
  refine qm ?_
  refine qq (Qt.indexS rfl rfl Tryd.underlying9 (by omega) (by omega)) ?_
  refine qb ?_
  refine nc (fun c4 => ?_) fun c4 => ?_
  ·try simp only [cnd] at c4
   refine sr ?_
   refine mn ?_
   refine qm ?_
   refine qm ?_
   refine mn ?_
   refine ba ?_
   refine qq (ix sl49 sz9) ?_
   refine ql ag9 ?_
   refine nm ?_
   refine cv Tryd.call65 rfl rfl (l4Reg_con _) ?_
   refine nm ?_
   refine qq (ix sl54 sz3) ?_
   refine ss ?_
   refine nl ?_
   refine sr2 ?_
   refine mn ?_
   refine qm ?_
   refine qq (ix sl54 sz3) ?_
   refine ql ag3 ?_
   refine nm ?_
   refine qb ?_
   refine nc (fun c5 => ?_) fun c5 => ?_
   ·try simp only [cnd] at c5
    have hav : (argV (formOf ((cutB 32 s).getD 0 En.dflt)).2 (cutB 32 s) i.k).2 = false := by
     rw [ht] at c5
     unfold argV
     rw [if_pos (by omega), if_pos (by omega)]
    refine sr ?_
    refine qq (Qt.build rfl) ?_
    refine ss ?_
    refine nm ?_
    refine qn ?_
    refine AW.ret (endQ_ret (.cons (.cellG 2 53 rfl rfl rfl ag53 sz53 (by decide)) (.cons (.tmp 3) .nil)) ?_)
    rw [lineR_bad (.inr (.inr (argsOk_stop hav (by omega))))]
    refine ⟨fun _ => 0, rfl, nodup_of rfl, ?_⟩
    intro r hr
    cases hr
   try simp only [cnd] at c5
   have hav : argV (formOf ((cutB 32 s).getD 0 En.dflt)).2 (cutB 32 s) i.k = (regN ((cutB 32 s).getD (1 + (i.k : Int)).toNat En.dflt), true) := by
    rw [ht] at c5 ⊢
    unfold argV
    rw [if_pos (by omega), if_neg (by omega)]
   refine jd ?_
   refine AW.exit ?_
   dsimp only [thenQ, blockQ, reduceIte]
   refine AW.region ?_
   refine qm ?_
   refine ba ?_
   refine nm ?_
   refine qn ?_
   refine ⟨⟨i.k + 1, by omega, argsOk_next i.ok (by rw [hav])⟩, Weak.sim ⟨st1, rfl, ⟨_, rfl, (by rw [← nsK_set _ _ (by omega), hav]; exact (set_sim (fun k c hk => by simp only [upd_app, hk, false_and, if_false]; try rfl) (fun c hc => match c, hc with | 0, _ => (by simp only [upd_app, eq_self, and_self, if_true]; exact T.sim_refl _) | c + 1, hc => absurd hc (by simp only [En.n]; omega))))⟩, rfl, rfl, rfl, Rf rfl, rfl, rfl, Rf rfl, trivial⟩ rfl rfl, ?_⟩
   show (formOf ((cutB 32 s).getD 0 En.dflt)).2.size - (i.k + 1) < (formOf ((cutB 32 s).getD 0 En.dflt)).2.size - i.k
   omega
  try simp only [cnd] at c4
  refine jd (sr ?_)
  refine qm ?_
  refine mn ?_
  refine ba ?_
  refine qq (ix sl49 sz9) ?_
  refine ql ag9 ?_
  refine nm ?_
  refine sp (Stp.callR rfl (by decide) Tryd.call15 rfl rfl (ReadDecS_con _ (Nat.le_trans (cutB_size 32 s _) hs)) (nodup_of rfl) rfl rfl) ?_
  refine nm ?_
  refine qm ?_
  refine qq (Qt.extract rfl (of_decide_eq_true rfl)) ?_
  refine qq (Qt.extract rfl (of_decide_eq_true rfl)) ?_
  refine nm ?_
  refine qa ?_
  refine qn ?_
  refine sr2 ?_
  refine mn ?_
  refine qq (Qt.notB rfl) ?_
  refine nc (fun c6 => ?_) fun c6 => ?_
  ·try simp only [cnd] at c6
   have hav : (argV (formOf ((cutB 32 s).getD 0 En.dflt)).2 (cutB 32 s) i.k).2 = false := by
    rw [ht] at c6
    unfold argV
    rw [if_neg (by omega)]
    exact c6
   refine sr ?_
   refine qq (Qt.build rfl) ?_
   refine ss ?_
   refine nm ?_
   refine qn ?_
   refine AW.ret (endQ_ret (.cons (.cellG 2 53 rfl rfl rfl ag53 sz53 (by decide)) (.cons (.tmp 3) .nil)) ?_)
   rw [lineR_bad (.inr (.inr (argsOk_stop hav (by omega))))]
   refine ⟨fun _ => 0, rfl, nodup_of rfl, ?_⟩
   intro r hr
   cases hr
  try simp only [cnd] at c6
  have hav : argV (formOf ((cutB 32 s).getD 0 En.dflt)).2 (cutB 32 s) i.k = ((rdS ((cutB 32 s).getD (1 + (i.k : Int)).toNat En.dflt)).1, true) := by
   rw [ht] at c6 ⊢
   unfold argV
   rw [if_neg (by omega)]
   exact Prod.ext rfl c6
  refine jd (AW.region ?_)
  refine qm ?_
  refine mn ?_
  refine qm ?_
  refine qq (ix sl54 sz3) ?_
  refine ss ?_
  refine nl ?_
  refine AW.region ?_
  refine mn ?_
  refine ba ?_
  refine qn ?_
  refine ⟨⟨i.k + 1, by omega, argsOk_next i.ok (by rw [hav])⟩, Weak.sim ⟨st1, rfl, ⟨_, rfl, (by rw [← nsK_set _ _ (by omega), hav]; exact (set_sim (fun k c hk => by simp only [upd_app, hk, false_and, if_false]; try rfl) (fun c hc => match c, hc with | 0, _ => (by simp only [upd_app, eq_self, and_self, if_true]; exact T.sim_refl _) | c + 1, hc => absurd hc (by simp only [En.n]; omega))))⟩, rfl, rfl, rfl, Rf rfl, rfl, rfl, Rf rfl, trivial⟩ rfl rfl, ?_⟩
  show (formOf ((cutB 32 s).getD 0 En.dflt)).2.size - (i.k + 1) < (formOf ((cutB 32 s).getD 0 En.dflt)).2.size - i.k
  omega
 try simp only [cnd] at c3
 have hke : i.k = (formOf ((cutB 32 s).getD 0 En.dflt)).2.size := by omega
 refine AW.rep 32 (tr (nsK (formOf ((cutB 32 s).getD 0 En.dflt)).2 (cutB 32 s) (formOf ((cutB 32 s).getD 0 En.dflt)).2.size)) rfl (by rw [hke]; exact T.sim_refl _) ?_
 have h33 : (nsK (formOf ((cutB 32 s).getD 0 En.dflt)).2 (cutB 32 s) (formOf ((cutB 32 s).getD 0 En.dflt)).2.size).length = 3 := rfl
 have hok : argsOk (formOf ((cutB 32 s).getD 0 En.dflt)).2 (cutB 32 s) (formOf ((cutB 32 s).getD 0 En.dflt)).2.size = true := hke ▸ i.ok
 refine AW.exit ?_
 dsimp only [thenQ, blockQ, reduceIte]
 refine AW.seq ?_
 refine AW.draw [0, 1, 2, 3, 4, 5, 6, 7, 8, 9, 10] rfl (by decide +kernel) ?_
 refine tk 0 rfl Qt.move ?_
 refine na ?_
 refine tk 1 rfl Qt.move ?_
 refine tk 2 rfl (ix sl54 sz3) ?_
 refine tk 3 rfl (Qt.load1 rfl rfl rfl ag3) ?_
 refine na ?_
 refine tk 4 rfl Qt.move ?_
 refine tk 5 rfl (ix sl54 sz3) ?_
 refine tk 6 rfl (Qt.load1 rfl rfl rfl ag3) ?_
 refine na ?_
 refine tk 7 rfl Qt.move ?_
 refine tk 8 rfl (ix sl54 sz3) ?_
 refine tk 9 rfl (Qt.load1 rfl rfl rfl ag3) ?_
 refine na ?_
 refine tk 10 rfl (Qt.build rfl) ?_
 refine a1 11 [0, 1, 2, 3, 4, 5, 6, 7, 8, 9, 10] [] rfl rfl sA ?_
 refine na ?_
 refine ae rfl Qt.move ?_
 refine ae rfl Qt.move ?_
 refine ae rfl (ix sl54 sz3) ?_
 refine ae rfl (Qt.load1 rfl rfl rfl ag3) ?_
 refine ae rfl Qt.move ?_
 refine ae rfl (ix sl54 sz3) ?_
 refine ae rfl (Qt.load1 rfl rfl rfl ag3) ?_
 refine ae rfl Qt.move ?_
 refine ae rfl (ix sl54 sz3) ?_
 refine ae rfl (Qt.load1 rfl rfl rfl ag3) ?_
 refine ae rfl (Qt.build rfl) ?_
 refine na ?_
 refine a1 12 [] [11, 10, 9, 8, 7, 6, 5, 4, 3, 2, 1, 0] rfl rfl (by first | exact Stp.storeA rfl rfl rfl rfl (by decide) rfl | exact Stp.store rfl rfl (by simp) rfl rfl rfl (by decide) rfl) ?_
 refine na ?_
 refine na ?_
 refine nz ?_
 refine AW.seq ?_
 refine AW.draw [0, 1, 4] rfl (by decide +kernel) ?_
 refine tk 0 rfl (Qt.loadG rfl rfl rfl ag53 sz53 (by decide)) ?_
 refine tk 1 rfl (Qt.loadG rfl rfl rfl ag53 sz53 (by decide)) ?_
 refine a1 2 [0] [1] rfl rfl (Stp.callV rfl (by decide) Tryd.call53 rfl rfl (InsOkS_con (insOf (formOf ((cutB 32 s).getD 0 En.dflt)).1 (formOf ((cutB 32 s).getD 0 En.dflt)).2 (cutB 32 s)))) ?_
 refine na ?_
 refine ae rfl (Qt.loadG rfl rfl rfl ag53 sz53 (by decide)) ?_
 refine na ?_
 refine a1 3 [] [2, 0, 1] rfl rfl (by first | exact Stp.storeA rfl rfl rfl rfl (by decide) rfl | exact Stp.store rfl rfl (by simp) rfl rfl rfl (by decide) rfl) ?_
 refine na ?_
 refine na ?_
 refine tk 4 rfl Qt.assign ?_
 refine nz ?_
 refine AW.ret (endQ_ret (.cons (.cellG 2 53 rfl rfl rfl ag53 sz53 (by decide)) (.cons (.tmp 3) .nil)) ?_)
 rw [lineR_good (by omega) (by omega) hok]
 refine ⟨fun _ => 0, rfl, nodup_of rfl, ?_⟩
 intro r hr
 cases hr
end Go.Proofs.YtlploojfcmcckaaDoor.VM
