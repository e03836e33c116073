/- Contracts of functions of the program. No conditions beyond those that each states. -/
import Derived.Test.YtbchjcapphclgaaCJE
import Derived.Test.YtbchjcapphclgaaCJC
set_option linter.all false
namespace Go.Proofs.Ytbchjcapphclgaa.VM
open Go Go.RowKit Go.Proofs
theorem view_take {l : List Bool} {n : Nat} (h : n ≤ l.length) : (T.s 1 n fun k c => (En.cs (l.getD (0 + k) En.dflt)).getD c .j).sim (tr (l.take n)) := by
 refine ⟨fun k c => (En.cs ((l.take n).getD k En.dflt)).getD c .j, by rw [tr, List.length_take, Nat.min_eq_left h]; rfl, fun k c hk hc => ?_⟩
 have : (l.take n).getD k En.dflt = l.getD (0 + k) En.dflt := by
  rw [Nat.zero_add, List.getD_eq_getElem?_getD, List.getD_eq_getElem?_getD, List.getElem?_take, if_pos hk]
 show ((En.cs (l.getD (0 + k) En.dflt)).getD c .j).sim ((En.cs ((l.take n).getD k En.dflt)).getD c .j)
 rw [this]
 exact T.sim_refl _
/-- the first that is free -/
def fst (l : List Bool) : Int := ixOf (fun x => false == x) l
theorem fst_cases (l : List Bool) : (fst l = -1 ∧ ∀ j, j < l.length → l.getD j En.dflt = true) ∨ ∃ f, fst l = ((f : Nat) : Int) ∧ f < l.length ∧ l.getD f En.dflt = false ∧ ∀ j, j < f → l.getD j En.dflt = true := by
 unfold fst ixOf
 cases h : l.findIdx? (fun x => false == x) with
 | none =>
  refine .inl ⟨rfl, fun j hj => ?_⟩
  rw [List.findIdx?_eq_none_iff] at h
  have := h l[j] (List.getElem_mem hj)
  rw [List.getD_eq_getElem?_getD, List.getElem?_eq_getElem hj, Option.getD_some]
  cases hb : l[j] with
  | true => rfl
  | false => rw [hb] at this; cases this
 | some f =>
  rw [List.findIdx?_eq_some_iff_getElem] at h
  obtain ⟨h1, h2, h3⟩ := h
  refine .inr ⟨f, rfl, h1, ?_, fun j hj => ?_⟩
  ·rw [List.getD_eq_getElem?_getD, List.getElem?_eq_getElem h1, Option.getD_some]
   cases hb : l[f] with
   | false => rfl
   | true => rw [hb] at h2; cases h2
  ·have := h3 j hj
   rw [List.getD_eq_getElem?_getD, List.getElem?_eq_getElem (by omega), Option.getD_some]
   cases hb : l[j] with
   | true => rfl
   | false => rw [hb] at this; exact absurd rfl this
theorem getD_setB {l : List Bool} {f j : Nat} {b : Bool} (hf : f < l.length) : (l.set f b).getD j En.dflt = if j = f then b else l.getD j En.dflt := by
 rw [List.getD_eq_getElem?_getD, List.getElem?_set]
 split
 ·rename_i e
  rw [if_pos e.symm]
  first | rfl | (rw [if_pos hf]; rfl)
 ·rename_i e
  rw [if_neg (fun e' => e e'.symm), ← List.getD_eq_getElem?_getD]
theorem cntT_set {l : List Bool} {f : Nat} (hf : f < l.length) (h : l.getD f En.dflt = false) : ∀ {k}, k ≤ l.length → cntT (l.set f true) k + (if f < k then 1 else 0) = cntT l k
 | 0, _ => by simp [cntT]
 | k + 1, hk => by
  have ih := cntT_set hf h (k := k) (by omega)
  rw [cntT_step (by rw [List.length_set]; omega), cntT_step (l := l) (k := k) (by omega), getD_setB hf]
  by_cases e : k = f
  ·subst e
   rw [if_pos rfl, if_pos h, if_neg (by simp), if_pos (by omega)]
   rw [if_neg (by omega)] at ih
   omega
  ·rw [if_neg e]
   by_cases hl : f < k
   ·rw [if_pos hl] at ih
    rw [if_pos (by omega : f < k + 1)]
    omega
   ·rw [if_neg hl] at ih
    rw [if_neg (by omega : ¬ f < k + 1)]
    omega
theorem cntT_zero {l : List Bool} : ∀ {k}, k ≤ l.length → (∀ j, j < k → l.getD j En.dflt = true) → cntT l k = 0
 | 0, _, _ => rfl
 | k + 1, hk, h => by
  rw [cntT_no (by omega) (by rw [h k (by omega)]; simp)]
  exact cntT_zero (by omega) fun j hj => h j (by omega)
theorem cntT_pos {l : List Bool} : ∀ {k f}, k ≤ l.length → f < k → l.getD f En.dflt = false → 0 < cntT l k
 | k + 1, f, hk, hf, h => by
  rw [cntT_step (by omega)]
  by_cases e : f = k
  ·subst e; rw [if_pos h]; omega
  ·have := cntT_pos (l := l) (k := k) (f := f) (by omega) (by omega) h
   omega
structure BI (M : List Bool) where
 k : Nat
 le : k ≤ freeN M
 x : List Bool
 len : x.length = 16
 cnt : cntT x 16 + k = freeN M
 last : Int
 lo : -1 ≤ last
 hi : last < 16
 low : ∀ j : Nat, (j : Int) ≤ last → x.getD j En.dflt = true
 up : ∀ j : Nat, last < j → x.getD j En.dflt = M.getD j En.dflt
theorem BI.mt {M : List Bool} (i : BI M) : mapTake i.x = (takeL i.x, fst i.x) := if_pos i.len
theorem BI.more {M : List Bool} (i : BI M) (h : i.k < freeN M) : ∃ f, fst i.x = ((f : Nat) : Int) ∧ f < 16 ∧ i.last < f ∧ i.x.getD f En.dflt = false ∧ M.getD f En.dflt = false ∧ takeL i.x = i.x.set f true ∧ ∀ j, j < f → i.x.getD j En.dflt = true := by
 have hlen := i.len
 rcases fst_cases i.x with ⟨_, h2⟩ | ⟨f, h1, h2, h3, h4⟩
 ·have := cntT_zero (l := i.x) (k := 16) (by omega) fun j hj => h2 j (by omega)
  have := i.cnt
  omega
 ·have hlast : i.last < f := by
   rcases Int.lt_or_le i.last f with h | h
   ·exact h
   ·have := i.low f h; rw [h3] at this; cases this
  refine ⟨f, h1, by omega, hlast, h3, by rw [← i.up f hlast]; exact h3, ?_, h4⟩
  have e : ixOf (fun x => false == x) i.x = ((f : Nat) : Int) := h1
  rw [takeL, e, if_pos (by omega), Int.toNat_natCast]
theorem BI.next {M : List Bool} (i : BI M) (h : i.k < freeN M) : ∃ i' : BI M, i'.k = i.k + 1 ∧ i'.x = takeL i.x ∧ i'.last = fst i.x := by
 obtain ⟨f, h1, h2, h3, h4, h5, h6, h7⟩ := i.more h
 have hlen := i.len
 have hc := cntT_set (l := i.x) (f := f) (by omega) h4 (k := 16) (by omega)
 rw [if_pos h2] at hc
 refine ⟨⟨i.k + 1, by omega, i.x.set f true, by rw [List.length_set]; exact i.len, by have := i.cnt; omega, f, by omega, by omega, fun j hj => ?_, fun j hj => ?_⟩, rfl, h6.symm, h1.symm⟩
 ·rw [getD_setB (by omega)]
  split
  ·rfl
  ·exact h7 j (by omega)
 ·rw [getD_setB (by omega), if_neg (by omega)]
  exact i.up j (by omega)
theorem BI.all {M : List Bool} (i : BI M) (h : ¬ i.k < freeN M) : fst i.x = -1 ∧ takeL i.x = i.x ∧ ∀ j, j < 16 → i.x.getD j En.dflt = true := by
 have hlen := i.len
 have hz : cntT i.x 16 = 0 := by have := i.cnt; have := i.le; omega
 rcases fst_cases i.x with ⟨h1, h2⟩ | ⟨f, h1, h2, h3, h4⟩
 ·have e : ixOf (fun x => false == x) i.x = -1 := h1
  exact ⟨h1, by rw [takeL, e, if_neg (by omega)], fun j hj => h2 j (by omega)⟩
 ·have := cntT_pos (l := i.x) (k := 16) (by omega) (by omega) h3
  omega
theorem give_back {x : List Bool} (hlen : x.length = 16) (h : ∀ j, j < 16 → x.getD j En.dflt = true) {k : Int} (hk : 0 ≤ k ∧ k < 16) : mapGive x k = (x.set k.toNat false, true) ∧ mapTake (x.set k.toNat false) = ((x.set k.toNat false).set k.toNat true, k) ∧ freeN ((x.set k.toNat false).set k.toNat true) = 0 := by
 obtain ⟨n, rfl⟩ := Int.eq_ofNat_of_zero_le hk.1
 rw [Int.toNat_natCast]
 have hn : n < 16 := by omega
 refine ⟨?_, ?_, ?_⟩
 ·rw [mapGive, if_pos hlen, Int.toNat_natCast, if_pos ⟨by omega, h n hn⟩]
 ·have hl2 : (x.set n false).length = 16 := by rw [List.length_set]; exact hlen
  have hf : fst (x.set n false) = (n : Int) := by
   rcases fst_cases (x.set n false) with ⟨_, h2⟩ | ⟨f, h1, h2, h3, h4⟩
   ·have := h2 n (by omega)
    rw [getD_setB (by omega), if_pos rfl] at this; cases this
   ·rw [h1]
    rw [getD_setB (by omega)] at h3
    split at h3
    ·rename_i e; rw [e]
    ·rw [h f (by omega)] at h3; cases h3
  have e : ixOf (fun x => false == x) (x.set n false) = (n : Int) := hf
  rw [mapTake, if_pos hl2, takeL, e, if_pos (by omega), Int.toNat_natCast]
 ·have hl3 : ((x.set n false).set n true).length = 16 := by rw [List.length_set, List.length_set]; exact hlen
  rw [freeN, if_pos hl3]
  refine cntT_zero (by omega) fun j hj => ?_
  rw [getD_setB (by rw [List.length_set]; omega), getD_setB (by omega)]
  split
  ·rfl
  ·exact h j hj
theorem view_all {l : List Bool} : (T.s 1 l.length fun k c => (En.cs (l.getD (0 + k) En.dflt)).getD c .j).sim (tr l) := by
 have := view_take (l := l) (n := l.length) (Nat.le_refl _)
 rwa [List.take_length] at this
theorem xI2 {a b : Int} (h : a = b) : X.v (iv a) = X.v (iv b) := by rw [h]
set_option maxHeartbeats 8000000 in
set_option maxRecDepth 10000 in
theorem FnBitmap_con (code : List UInt8) : Con Try.prog 3 [.h base []] [.rt base .ro (tr code)] (fun y _ => y = .v (.bool true)) := by
 refine Con.of_body Try.func3 rfl (by simp) ?_
 rw [Try.ntmps3]
 refine AW.seq (AW.region ?_)
 refine qq Qt.assign ?_
 refine nl ?_
 refine AW.seq (AW.seq (AW.region ?_))
 refine qq Qt.move ?_
 refine cv Try.call5 rfl rfl (big_con code) ?_
 refine nl ?_
 refine AW.cond rfl (fun c1 => ?_) (fun c1 => ?_)
 ·have k1 := c1
  try simp only [cnd] at c1
  refine AW.seq (AW.region ?_)
  refine qq Qt.assign ?_
  refine nl ?_
  refine AW.ret (endQ_ret (.cons (.tmp 2) .nil) ?_)
  rfl
 have k1 := c1
 try simp only [cnd] at c1
 refine jd (AW.seq (AW.region ?_))
 refine qq Qt.move ?_
 refine nm ?_
 refine spK (StpK.callC false rfl (by decide) Try.call6 rfl rfl rfl rfl (DrawMapTake_con code (by omega)) (fun _ => nodup_of rfl) (fun _ => rfl) (fun _ => rfl) (fun _ => rfl) (fun h => by cases h)) ?_
 rintro _ ⟨d3_1, hd3_1, rfl⟩
 try dsimp only at hd3_1
 refine nm ?_
 refine AWL.weak (Weak.frz 22 rfl) ?_
 refine nm ?_
 refine AWL.weak (Weak.viewA 22 901 rfl rfl (.inr (by omega)) rfl (by decide)) ?_
 refine AWL.rep 901 (tr (d3_1.1.take d3_1.2)) rfl (view_take (by omega)) ?_
 have hML : (d3_1.1.take d3_1.2).length = 15 ∨ (d3_1.1.take d3_1.2).length = 16 := by rw [List.length_take]; omega
 generalize d3_1.1.take d3_1.2 = M at hML
 refine nm ?_
 refine qq Qt.assign ?_
 refine nl ?_
 refine AW.seq (AW.region ?_)
 refine qq Qt.move ?_
 refine cv Try.call7 rfl rfl (MapFreeI_con _) ?_
 refine nm ?_
 refine qq Qt.assign ?_
 refine nl ?_
 refine AW.seq (AW.seq (AW.region ?_))
 refine qq Qt.move ?_
 refine cv Try.call8 rfl rfl (MapOkS_con _) ?_
 refine nm ?_
 refine qq (Qt.notB rfl) ?_
 refine nl ?_
 refine AW.cond rfl (fun c2 => ?_) (fun c2 => ?_)
 ·have k2 := c2
  try simp only [cnd] at c2
  have h15 : M.length ≠ 16 := by grind only
  have hmt0 : mapTake M = ([], -1) := if_neg h15
  have hf0 : freeN M = 0 := if_neg h15
  refine AW.seq (AW.region ?_)
  refine qq Qt.move ?_
  refine sp (Stp.callR rfl (by decide) Try.call9 rfl rfl (MapTakeI_con _) (nodup_of rfl) rfl rfl) ?_
  refine nm ?_
  refine qq Qt.move ?_
  refine qq (Qt.extract rfl (of_decide_eq_true rfl)) ?_
  refine qq (Qt.extract rfl (of_decide_eq_true rfl)) ?_
  refine nm ?_
  refine qq Qt.assign ?_
  refine qq Qt.assign ?_
  refine nl ?_
  refine AW.seq (AW.region ?_)
  refine qq Qt.move ?_
  refine nm ?_
  refine qq (Qt.lenH rfl rfl rfl sl24) ?_
  refine qq (Qt.binOp rfl rfl rfl) ?_
  refine qq Qt.move ?_
  refine nm ?_
  apply AWL.cut 2
  ·intro Kg3
   refine AWL.split 36 rfl (fun g3 => ?_) (fun g3 => ?_)
   ·have eg3 := g3
    try simp only [cnd] at eg3
    refine qg g3 Qt.move ?_
    refine qg g3 (Qt.binOp rfl rfl rfl) ?_
    exact wj 38 [37, 38] (ifT g3 _ undef) (by simp only [go_sem, Int.reduceToNat, Nat.reduceLT, reduceIte, Nat.reduceEqDiff, Nat.reduceAdd, Nat.reduceMul, Nat.reduceBEq, reduceCtorEq]; rfl) Kg3
   ·refine og g3 ?_
    refine og g3 ?_
    exact wj 38 [37, 38] (ifF g3 undef _) (by simp only [go_sem, Int.reduceToNat, Nat.reduceLT, reduceIte, Nat.reduceEqDiff, Nat.reduceAdd, Nat.reduceMul, Nat.reduceBEq, reduceCtorEq]) Kg3
  refine qq (Qt.pickAnd rfl rfl rfl) ?_
  refine nm ?_
  refine qq Qt.move ?_
  apply AWL.cut 2
  ·intro Kg4
   refine AWL.split 40 rfl (fun g4 => ?_) (fun g4 => ?_)
   ·have eg4 := g4
    try simp only [cnd] at eg4
    refine qg g4 Qt.move ?_
    refine qg g4 (Qt.binOp rfl rfl rfl) ?_
    refine nm ?_
    exact wj 42 [41, 42] (ifT g4 _ undef) (by simp only [go_sem, Int.reduceToNat, Nat.reduceLT, reduceIte, Nat.reduceEqDiff, Nat.reduceAdd, Nat.reduceMul, Nat.reduceBEq, reduceCtorEq]; rfl) Kg4
   ·refine og g4 ?_
    refine og g4 ?_
    exact wj 42 [41, 42] (ifF g4 undef _) (by simp only [go_sem, Int.reduceToNat, Nat.reduceLT, reduceIte, Nat.reduceEqDiff, Nat.reduceAdd, Nat.reduceMul, Nat.reduceBEq, reduceCtorEq]) Kg4
  refine qq (Qt.pickAnd rfl rfl rfl) ?_
  refine qq Qt.assign ?_
  refine nl ?_
  refine AW.ret (endQ_ret (.cons (.tmp 2) .nil) ?_)
  show X.v (Value.bool (((mapTake M).1.length : Int) == 0 && (mapTake M).2 == -1 && ((freeN M : Nat) : Int) == 0)) = _
  rw [hmt0, hf0]
  rfl
 have k2 := c2
 try simp only [cnd] at c2
 have hM16 : M.length = 16 := by grind only
 refine jd (AW.seq (AW.region ?_))
 refine qq Qt.move ?_
 refine nm ?_
 refine qq Qt.assign ?_
 refine nl ?_
 refine AW.seq (AW.region ?_)
 refine qq Qt.assign ?_
 refine nl ?_
 refine AW.seq (AW.seq (AW.region ?_))
 refine qq Qt.assign ?_
 refine nl ?_
 refine AW.block ?_
 refine AW.weak (Weak.hA 7 rfl rfl) ?_
 refine AW.weak (Weak.viewA 7 902 rfl rfl (.inr (by omega)) rfl (by decide)) ?_
 refine AW.rep 902 (tr M) rfl view_all ?_
 refine AW.loopW (fun i : BI M => [.sl 9 (.v (iv i.k)), .sl 4 (.v (iv (freeN M : Nat))), .sl 8 (.v (iv i.last)), .sl 7 (.h 902 []), .rt 902 .ro (tr i.x), .sl 3 (.h 901 []), .rt 901 .ro (tr M), .sl 0 (.h base []), .rt base .ro (tr code)]) (fun i => freeN M - i.k) ⟨0, Nat.zero_le _, M, hM16, by rw [freeN, if_pos hM16]; rfl, -1, by omega, by omega, fun j hj => absurd hj (by omega), fun _ _ => rfl⟩ (Weak.sim ⟨rfl, rfl, rfl, rfl, Rf rfl, rfl, Rf rfl, rfl, Rf rfl, trivial⟩ rfl rfl) ?_
 intro i
 have hle := i.le
 have hfn := freeN_le M
 refine AW.seq (AW.seq (AW.region ?_))
 refine qq Qt.move ?_
 refine nm ?_
 refine qq Qt.move ?_
 refine qq (Qt.binOp rfl rfl rfl) ?_
 refine nl ?_
 refine AW.cond rfl (fun c5 => ?_) (fun c5 => ?_)
 ·have k5 := c5
  try simp only [cnd] at c5
  obtain ⟨f, hf1, hf2, hf3, hf4, hf5, hf6, hf7⟩ := i.more (by omega)
  have hmt := i.mt
  have hmt1 : (mapTake i.x).1 = takeL i.x := by rw [hmt]
  have hmt2 : (mapTake i.x).2 = fst i.x := by rw [hmt]
  have hm2 : (mapTake i.x).2 = (f : Int) := by rw [hmt2]; exact hf1
  have hMf : M.getD (mapTake i.x).2.toNat En.dflt = false := by rw [hm2, Int.toNat_natCast]; exact hf5
  refine jd (AW.seq (AW.block (AW.seq (AW.region ?_))))
  refine qq Qt.move ?_
  refine nm ?_
  refine sp (Stp.callR rfl (by decide) Try.call9 rfl rfl (MapTakeI_con _) (nodup_of rfl) rfl rfl) ?_
  refine nm ?_
  refine qq Qt.move ?_
  refine qq (Qt.extract rfl (of_decide_eq_true rfl)) ?_
  refine qq (Qt.extract rfl (of_decide_eq_true rfl)) ?_
  refine nm ?_
  refine qq Qt.assign ?_
  refine qq Qt.assign ?_
  refine nl ?_
  refine AW.seq (AW.seq (AW.region ?_))
  refine qq Qt.move ?_
  refine nm ?_
  refine qq Qt.move ?_
  refine qq (Qt.binOp rfl rfl rfl) ?_
  refine qq Qt.move ?_
  refine nm ?_
  apply AWL.cut 2
  ·intro Kg6
   refine AWL.splitF 58 rfl (fun g6 => ?_) (fun g6 => ?_)
   ·have eg6 := g6
    try simp only [cnd] at eg6
    refine qg (nF g6) Qt.move ?_
    refine qg (nF g6) (Qt.binOp rfl rfl rfl) ?_
    exact wj 60 [59, 60] (ifF g6 _ undef) (by simp only [go_sem, Int.reduceToNat, Nat.reduceLT, reduceIte, Nat.reduceEqDiff, Nat.reduceAdd, Nat.reduceMul, Nat.reduceBEq, reduceCtorEq]; rfl) Kg6
   ·refine og (nT g6) ?_
    refine og (nT g6) ?_
    exact wj 60 [59, 60] (ifT g6 undef _) (by simp only [go_sem, Int.reduceToNat, Nat.reduceLT, reduceIte, Nat.reduceEqDiff, Nat.reduceAdd, Nat.reduceMul, Nat.reduceBEq, reduceCtorEq]) Kg6
  refine qq (Qt.pickOr rfl rfl rfl) ?_
  refine nm ?_
  refine qq Qt.move ?_
  apply AWL.cut 4
  ·intro Kg7
   refine AWL.splitF 62 rfl (fun g7 => ?_) (fun g7 => ?_)
   ·have eg7 := g7
    try simp only [cnd] at eg7
    refine qg (nF g7) Qt.move ?_
    refine qg (nF g7) Qt.move ?_
    refine nm ?_
    refine qg (nF g7) (Qt.indexAddr rfl rfl rfl rfl sl24 sz4 (by decide) (by first | omega | grind only)) ?_
    refine qg (nF g7) (Qt.load1 rfl rfl rfl ag4) ?_
    exact wj 66 [63, 64, 65, 66] (ifF g7 _ undef) (by simp only [go_sem, Int.reduceToNat, Nat.reduceLT, reduceIte, Nat.reduceEqDiff, Nat.reduceAdd, Nat.reduceMul, Nat.reduceBEq, reduceCtorEq]; rfl) Kg7
   ·refine og (nT g7) ?_
    refine og (nT g7) ?_
    refine og (nT g7) ?_
    refine og (nT g7) ?_
    exact wj 66 [63, 64, 65, 66] (ifT g7 undef _) (by simp only [go_sem, Int.reduceToNat, Nat.reduceLT, reduceIte, Nat.reduceEqDiff, Nat.reduceAdd, Nat.reduceMul, Nat.reduceBEq, reduceCtorEq]) Kg7
  refine qq (Qt.pickOr rfl rfl rfl) ?_
  refine nl ?_
  refine AW.cond rfl (fun c8 => ?_) (fun c8 => ?_)
  ·have k8 := c8
   try simp only [cnd] at c8
   refine AW.seq (AW.region ?_)
   refine qq Qt.assign ?_
   refine nl ?_
   refine AW.ret (endQ_ret (.cons (.tmp 2) .nil) ?_)
   exfalso
   have hk := k8
   simp only [hMf, Bool.or_false, Bool.or_eq_true, decide_eq_true_eq] at hk
   omega
  have k8 := c8
  try simp only [cnd] at c8
  refine jd (AW.seq (AW.region ?_))
  refine qq Qt.move ?_
  refine nm ?_
  refine qq Qt.assign ?_
  refine nl ?_
  refine AW.region ?_
  refine qq Qt.move ?_
  refine qq Qt.assign ?_
  refine nl ?_
  refine AW.region ?_
  refine qq Qt.move ?_
  refine nm ?_
  refine qq (Qt.binOp rfl rfl (by first | exact pbAdd (by omega) | rfl)) ?_
  refine qq Qt.assign ?_
  refine nl ?_
  obtain ⟨i', hi1, hi2, hi3⟩ := i.next (by omega)
  refine ⟨i', Weak.trans (L1 := [.sl 9 (.v (iv i'.k)), .sl 4 (.v (iv (freeN M : Nat))), .sl 8 (.v (iv i'.last)), .sl 7 (.h 52 []), .rt 52 .row (tr i'.x), .sl 3 (.h 901 []), .rt 901 .ro (tr M), .sl 0 (.h base []), .rt base .ro (tr code)]) (Weak.sim ⟨xI2 (by rw [hi1]; rfl), rfl, xI2 (by rw [hi3, hmt2]), rfl, ⟨_, rfl, (by rw [hi2, ← hmt1]; exact T.sim_refl _)⟩, rfl, Rf rfl, rfl, Rf rfl, trivial⟩ rfl rfl) (Weak.trans (Weak.frz 52 rfl) (Weak.renR (a := 52) (b := 902) rfl (by decide) (by decide))), ?_⟩
  rw [hi1]
  omega
 have k5 := c5
 try simp only [cnd] at c5
 obtain ⟨ha1, ha2, ha3⟩ := i.all (by omega)
 have hmt := i.mt
 have hlen := i.len
 refine AW.exit ?_
 dsimp only [thenQ, blockQ, reduceIte]
 refine AW.seq (AW.region ?_)
 refine qq Qt.move ?_
 refine nm ?_
 refine sp (Stp.callR rfl (by decide) Try.call9 rfl rfl (MapTakeI_con _) (nodup_of rfl) rfl rfl) ?_
 refine nm ?_
 refine qq Qt.move ?_
 refine qq (Qt.extract rfl (of_decide_eq_true rfl)) ?_
 refine qq (Qt.extract rfl (of_decide_eq_true rfl)) ?_
 refine nm ?_
 refine qq Qt.assign ?_
 refine qq Qt.assign ?_
 refine nl ?_
 refine AW.seq (AW.region ?_)
 refine qq Qt.move ?_
 refine nm ?_
 refine spK (StpK.callC false rfl (by decide) Try.call10 rfl rfl rfl rfl (at0_con code (by omega)) (fun _ => nodup_of rfl) (fun _ => rfl) (fun _ => rfl) (fun _ => rfl) (fun h => by cases h)) ?_
 rintro _ ⟨d19_1, hd19_1, rfl⟩
 try dsimp only at hd19_1
 refine nm ?_
 refine qq (Qt.binOp rfl rfl (by first | exact pbRem4 _ | rfl | exact pbRemI (by omega))) ?_
 refine qq Qt.assign ?_
 refine nl ?_
 refine AW.seq (AW.region ?_)
 refine qq Qt.move ?_
 refine nm ?_
 refine qq Qt.move ?_
 refine sp (Stp.callR rfl (by decide) Try.call11 rfl rfl (MapGiveI_con _ _ i.len) (nodup_of rfl) rfl rfl) ?_
 refine nm ?_
 refine qq Qt.move ?_
 refine qq (Qt.extract rfl (of_decide_eq_true rfl)) ?_
 refine qq (Qt.extract rfl (of_decide_eq_true rfl)) ?_
 refine nm ?_
 refine qq Qt.assign ?_
 refine qq Qt.assign ?_
 refine nl ?_
 refine AW.seq (AW.region ?_)
 refine qq Qt.move ?_
 refine nm ?_
 refine sp (Stp.callR rfl (by decide) Try.call9 rfl rfl (MapTakeI_con _) (nodup_of rfl) rfl rfl) ?_
 refine nm ?_
 refine qq Qt.move ?_
 refine qq (Qt.extract rfl (of_decide_eq_true rfl)) ?_
 refine qq (Qt.extract rfl (of_decide_eq_true rfl)) ?_
 refine nm ?_
 refine qq Qt.assign ?_
 refine qq Qt.assign ?_
 refine nl ?_
 refine AW.seq (AW.region ?_)
 refine qq Qt.move ?_
 refine nm ?_
 refine qq (Qt.binOp rfl rfl rfl) ?_
 refine qq Qt.move ?_
 apply AWL.cut 1
 ·intro Kg9
  refine AWL.split 91 rfl (fun g9 => ?_) (fun g9 => ?_)
  ·have eg9 := g9
   try simp only [cnd] at eg9
   refine qg g9 Qt.move ?_
   refine nm ?_
   exact wj 92 [92] (ifT g9 _ undef) (by simp only [go_sem, Int.reduceToNat, Nat.reduceLT, reduceIte, Nat.reduceEqDiff, Nat.reduceAdd, Nat.reduceMul, Nat.reduceBEq, reduceCtorEq]; rfl) Kg9
  ·refine og g9 ?_
   exact wj 92 [92] (ifF g9 undef _) (by simp only [go_sem, Int.reduceToNat, Nat.reduceLT, reduceIte, Nat.reduceEqDiff, Nat.reduceAdd, Nat.reduceMul, Nat.reduceBEq, reduceCtorEq]) Kg9
 refine qq (Qt.pickAnd rfl rfl rfl) ?_
 refine qq Qt.move ?_
 apply AWL.cut 3
 ·intro Kg10
  refine AWL.split 94 rfl (fun g10 => ?_) (fun g10 => ?_)
  ·have eg10 := g10
   try simp only [cnd] at eg10
   refine qg g10 Qt.move ?_
   refine nm ?_
   refine qg g10 Qt.move ?_
   refine qg g10 (Qt.binOp rfl rfl rfl) ?_
   exact wj 97 [95, 96, 97] (ifT g10 _ undef) (by simp only [go_sem, Int.reduceToNat, Nat.reduceLT, reduceIte, Nat.reduceEqDiff, Nat.reduceAdd, Nat.reduceMul, Nat.reduceBEq, reduceCtorEq]; rfl) Kg10
  ·refine og g10 ?_
   refine og g10 ?_
   refine og g10 ?_
   exact wj 97 [95, 96, 97] (ifF g10 undef _) (by simp only [go_sem, Int.reduceToNat, Nat.reduceLT, reduceIte, Nat.reduceEqDiff, Nat.reduceAdd, Nat.reduceMul, Nat.reduceBEq, reduceCtorEq]) Kg10
 refine qq (Qt.pickAnd rfl rfl rfl) ?_
 refine nm ?_
 refine qq Qt.move ?_
 apply AWL.cut 3
 ·intro Kg11
  refine AWL.split 99 rfl (fun g11 => ?_) (fun g11 => ?_)
  ·have eg11 := g11
   try simp only [cnd] at eg11
   refine qg g11 Qt.move ?_
   refine AWL.step rfl g11 (Stp.callV rfl (by decide) Try.call7 rfl rfl (MapFreeI_con _)) ?_
   refine nm ?_
   refine qg g11 (Qt.binOp rfl rfl rfl) ?_
   exact wj 102 [100, 101, 102] (ifT g11 _ undef) (by simp only [go_sem, Int.reduceToNat, Nat.reduceLT, reduceIte, Nat.reduceEqDiff, Nat.reduceAdd, Nat.reduceMul, Nat.reduceBEq, reduceCtorEq]; rfl) Kg11
  ·refine og g11 ?_
   refine og g11 ?_
   refine og g11 ?_
   exact wj 102 [100, 101, 102] (ifF g11 undef _) (by simp only [go_sem, Int.reduceToNat, Nat.reduceLT, reduceIte, Nat.reduceEqDiff, Nat.reduceAdd, Nat.reduceMul, Nat.reduceBEq, reduceCtorEq]) Kg11
 refine qq (Qt.pickAnd rfl rfl rfl) ?_
 refine qq Qt.move ?_
 refine nm ?_
 apply AWL.cut 4
 ·intro Kg12
  refine AWL.split 104 rfl (fun g12 => ?_) (fun g12 => ?_)
  ·have eg12 := g12
   try simp only [cnd] at eg12
   refine qg g12 Qt.move ?_
   refine qg g12 Qt.move ?_
   refine AWL.step rfl g12 (Stp.callV rfl (by decide) Try.call12 rfl rfl (MapFreeS_con _)) ?_
   refine nm ?_
   refine qg g12 (Qt.binOp rfl rfl rfl) ?_
   exact wj 108 [105, 106, 107, 108] (ifT g12 _ undef) (by simp only [go_sem, Int.reduceToNat, Nat.reduceLT, reduceIte, Nat.reduceEqDiff, Nat.reduceAdd, Nat.reduceMul, Nat.reduceBEq, reduceCtorEq]; rfl) Kg12
  ·refine og g12 ?_
   refine og g12 ?_
   refine og g12 ?_
   refine og g12 ?_
   exact wj 108 [105, 106, 107, 108] (ifF g12 undef _) (by simp only [go_sem, Int.reduceToNat, Nat.reduceLT, reduceIte, Nat.reduceEqDiff, Nat.reduceAdd, Nat.reduceMul, Nat.reduceBEq, reduceCtorEq]) Kg12
 refine qq (Qt.pickAnd rfl rfl rfl) ?_
 refine qq Qt.assign ?_
 refine nl ?_
 refine AW.ret (endQ_ret (.cons (.tmp 2) .nil) ?_)
 show X.v (Value.bool ((mapTake i.x).2 == -1 && (mapGive i.x (d19_1.tmod 16)).2 && (mapTake (mapGive i.x (d19_1.tmod 16)).1).2 == d19_1.tmod 16 && ((freeN (mapTake (mapGive i.x (d19_1.tmod 16)).1).1 : Nat) : Int) == 0 && ((freeN M : Nat) : Int) == ((freeN M : Nat) : Int))) = _
 obtain ⟨q1, q2, q3⟩ := give_back i.len ha3 (k := d19_1.tmod 16) (tmod_bd hd19_1 (by decide))
 rw [hmt, q1]
 dsimp only
 rw [q2]
 dsimp only
 rw [q3, ha1]
 simp
end Go.Proofs.Ytbchjcapphclgaa.VM
