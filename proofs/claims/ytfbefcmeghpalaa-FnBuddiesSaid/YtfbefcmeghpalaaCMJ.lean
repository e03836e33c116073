/- Contracts of functions of the program. No conditions beyond those that each states. -/
import Derived.Test.YtfbefcmeghpalaaCMI
set_option linter.all false
namespace Go.Proofs.Ytfbefcmeghpalaa.VM
open Go Go.RowKit Go.Proofs
def fo (S : List (List Int)) : Nat → Nat → Nat
 | 0, k => k
 | n + 1, k => if S.getD k En.dflt = [] then fo S n (k + 1) else k
theorem fo_run {S : List (List Int)} {k : Nat} (h : ∀ j, j < k → S.getD j En.dflt = []) : ∀ d j, j + d = k → ∀ n, d ≤ n → fo S n j = fo S (n - d) k
 | 0, j, hj, n, _ => by rw [show j = k by omega]; rfl
 | d + 1, j, hj, n, hn => by
  obtain ⟨m, rfl⟩ : ∃ m, n = m + 1 := ⟨n - 1, by omega⟩
  rw [fo, if_pos (h j (by omega)), fo_run h d (j + 1) (by omega) m (by omega), show m + 1 - (d + 1) = m - d by omega]
theorem fo_at {S : List (List Int)} (i : FInv S) (h : i.k = 5 ∨ S.getD i.k En.dflt ≠ []) : fo S 5 0 = i.k := by
 rw [fo_run i.h i.k 0 (by omega) 5 i.le]
 rcases h with h | h
 ·rw [h]; rfl
 ·rcases Nat.lt_or_ge i.k 5 with hk | hk
  ·obtain ⟨m, hm⟩ : ∃ m, 5 - i.k = m + 1 := ⟨5 - i.k - 1, by omega⟩
   rw [hm, fo, if_neg h]
  ·rw [show 5 - i.k = 0 by omega]; rfl
def resS (S : List (List Int)) : List (List Int) := if fo S 5 0 = 5 then S else takeO S (fo S 5 0)
def resF (S : List (List Int)) : Int := if fo S 5 0 = 5 then -1 else (S.getD (fo S 5 0) []).getD 0 0
set_option maxHeartbeats 8000000 in
set_option maxRecDepth 10000 in
theorem l15Take_con (S : List (List Int)) (h5 : S.length = 5) (hw : ∀ k, k < 5 → (S.getD k En.dflt).length ≤ 1048576) (hf : ∀ k, k < 5 → 0 ≤ (S.getD k En.dflt).getD 0 En.dflt ∧ (S.getD k En.dflt).getD 0 En.dflt ≤ 1000) : Con Try.prog 70 [.g [.h base []]] [.rt base .row (tr S)] (RetW (.t [.g [.h base []], .v (iv (resF S))]) [] [(base, tr (resS S))]) := by
 refine Con.of_body Try.func70 rfl (by simp) ?_
 rw [Try.ntmps70]
 refine AW.seq (AW.region ?_)
 refine sp (Stp.boxB rfl (by decide) (by decide) rfl rfl rfl rfl) ?_
 refine nm ?_
 refine sp (Stp.alloc rfl (by decide) (by decide)) ?_
 refine nm ?_
 refine qq Qt.assign ?_
 refine nl ?_
 refine AW.seq (AW.region ?_)
 refine qq Qt.assign ?_
 refine nl ?_
 refine AW.seq (AW.block ?_)
 refine AW.loopW (fun i : FInv S => [.sl 4 (.v (iv i.k)), .rt 1 .box (T.s 1 1 fun k c => ([(T.j, none)].getD (k * 1 + c) (T.j, none)).fst), .al 1 0 (.h base []), .sl 1 (.p 1 [] 1 0 0), .sl 2 (.p 2 [] 1 0 0), .rt 2 .box (T.s 1 1 fun _ c => [T.s 1 0 fun _ _ => T.j].getD c T.j), .rt base .row (tr S)]) (fun i => 5 - i.k) ⟨0, Nat.zero_le _, fun _ h => absurd h (Nat.not_lt_zero _)⟩ (Weak.sim ⟨rfl, Rf rfl, ⟨rfl, rfl⟩, rfl, rfl, Rf rfl, Rf rfl, trivial⟩ rfl rfl) ?_
 intro i
 have hle := i.le
 refine AW.seq (AW.seq (AW.region ?_))
 refine qq Qt.move ?_
 refine nm ?_
 refine qq (Qt.binOp rfl rfl rfl) ?_
 refine qq Qt.move ?_
 apply AWL.cut 7
 ·intro Kg1
  refine AWL.split 8 rfl (fun g1 => ?_) (fun g1 => ?_)
  ·have eg1 := g1
   try simp only [cnd] at eg1
   refine qg g1 (fA fl26_0) ?_
   refine nm ?_
   refine qg g1 (Qt.load1 rfl rfl rfl ag24) ?_
   refine qg g1 Qt.move ?_
   refine qg g1 (Qt.indexAddr rfl rfl rfl rfl sl24 sz35 (by decide) (by first | omega | grind only)) ?_
   refine nm ?_
   refine qg g1 (Qt.load1 rfl rfl rfl ag35) ?_
   refine qg g1 (Qt.lenH rfl rfl rfl sl35) ?_
   refine qg g1 (Qt.binOp rfl rfl rfl) ?_
   refine nm ?_
   exact wj 15 [9, 10, 11, 12, 13, 14, 15] (ifT g1 _ undef) (by simp only [go_sem, Int.reduceToNat, Nat.reduceLT, reduceIte, Nat.reduceEqDiff, Nat.reduceAdd, Nat.reduceMul, Nat.reduceBEq, reduceCtorEq]; rfl) Kg1
  ·refine og g1 ?_
   refine og g1 ?_
   refine og g1 ?_
   refine og g1 ?_
   refine nm ?_
   refine og g1 ?_
   refine og g1 ?_
   refine og g1 ?_
   exact wj 15 [9, 10, 11, 12, 13, 14, 15] (ifF g1 undef _) (by simp only [go_sem, Int.reduceToNat, Nat.reduceLT, reduceIte, Nat.reduceEqDiff, Nat.reduceAdd, Nat.reduceMul, Nat.reduceBEq, reduceCtorEq]) Kg1
 refine qq (Qt.pickAnd rfl rfl rfl) ?_
 refine nl ?_
 refine AW.cond rfl (fun c2 => ?_) (fun c2 => ?_)
 ·have k2 := c2
  try simp only [cnd] at c2
  refine jd (AW.block (AW.region ?_))
  refine qq Qt.move ?_
  refine qq (Qt.binOp rfl rfl (by first | exact pbAdd (by omega) | rfl)) ?_
  refine nm ?_
  refine qq Qt.assign ?_
  refine nl ?_
  refine ⟨⟨i.k + 1, by omega, i.next (List.eq_nil_of_length_eq_zero (by omega))⟩, Weak.sim ⟨st1, Rf rfl, ⟨rfl, rfl⟩, rfl, rfl, Rf rfl, Rf rfl, trivial⟩ rfl rfl, ?_⟩
  show 5 - (i.k + 1) < 5 - i.k
  omega
 have k2 := c2
 try simp only [cnd] at c2
 refine AW.exit ?_
 dsimp only [thenQ, blockQ, reduceIte]
 refine AW.seq (AW.seq (AW.region ?_))
 refine qq Qt.move ?_
 refine qq (Qt.binOp rfl rfl rfl) ?_
 refine nl ?_
 refine AW.cond rfl (fun c3 => ?_) (fun c3 => ?_)
 ·have k3 := c3
  try simp only [cnd] at c3
  refine AW.seq (AW.region ?_)
  refine qq (Qt.loadG rfl rfl rfl ag26 sz26 (by decide)) ?_
  refine nm ?_
  refine ss ?_
  refine nm ?_
  refine qq Qt.assign ?_
  refine nl ?_
  refine AW.ret (endQ_ret (.cons (.cellG 2 26 rfl rfl rfl ag26 sz26 (by decide)) (.cons (.tmp 3) .nil)) ?_)
  have e0 := fo_at i (.inl (by omega))
  rw [show resF S = -1 from by rw [resF, e0, if_pos (by omega)], show resS S = S from by rw [resS, e0, if_pos (by omega)]]
  refine ⟨fun n => n, rfl, fun _ _ => rfl, List.nodup_nil, (by simp), ?_⟩
  intro p hp
  cases List.mem_singleton.1 hp
  exact rootL_mem rfl
 have k3 := c3
 try simp only [cnd] at c3
 have hk5 : i.k < 5 := by have := i.le; omega
 have hl1 : 1 ≤ (S.getD i.k En.dflt).length := by omega
 have hwk := hw i.k hk5
 have hfk := hf i.k hk5
 have e0 := fo_at i (.inr (fun h => by rw [h] at hl1; simp at hl1))
 refine jd (AW.seq (AW.region ?_))
 refine qq (fA fl26_0) ?_
 refine qq (Qt.load1 rfl rfl rfl ag24) ?_
 refine nm ?_
 refine qq Qt.move ?_
 refine qq (Qt.indexAddr rfl rfl rfl rfl sl24 sz35 (by decide) (by first | omega | grind only)) ?_
 refine qq (Qt.load1 rfl rfl rfl ag35) ?_
 refine nm ?_
 refine qq (Qt.indexAddr rfl rfl rfl rfl sl35 sz3 (by decide) (by first | omega | grind only)) ?_
 refine qq (Qt.load1 rfl rfl rfl ag3) ?_
 refine qq Qt.assign ?_
 refine nl ?_
 refine AW.seq ?_
 refine AW.draw [0, 1, 2, 4, 5, 6, 7, 8, 9, 11] rfl (by decide +kernel) ?_
 refine tk 0 rfl (fA fl26_0) ?_
 refine na ?_
 refine tk 1 rfl (Qt.load1 rfl rfl rfl ag24) ?_
 refine tk 2 rfl Qt.move ?_
 refine tk 4 rfl (fA fl26_0) ?_
 refine na ?_
 refine tk 5 rfl (Qt.load1 rfl rfl rfl ag24) ?_
 refine tk 6 rfl Qt.move ?_
 refine tk 7 rfl (Qt.indexAddr rfl rfl rfl rfl sl24 sz35 (by decide) (by first | omega | grind only)) ?_
 refine na ?_
 refine tk 8 rfl (Qt.load1 rfl rfl rfl ag35) ?_
 refine tk 9 rfl (Qt.sliceH (lo := 1) rfl rfl rfl sl35 sz3 (by decide) (slB_so rfl rfl) slB_no (by first | omega | (simp only [Int.toNat_natCast]; omega)) (by first | omega | (simp only [Int.toNat_natCast]; omega))) ?_
 refine a1 3 [0, 1, 2, 4, 5, 6, 7, 8, 9] [] rfl rfl (Stp.buildSlice rfl (by decide) (by decide) rfl (by decide) rfl rfl rfl (nodup_of rfl)) ?_
 refine na ?_
 refine AWA.againE rfl rfl (by decide +kernel) (.on rfl rfl (fA fl26_0)) rfl ?_
 refine AWA.againE rfl rfl (by decide +kernel) (.on rfl rfl (Qt.load1 rfl rfl rfl ag24)) rfl ?_
 refine AWA.againE rfl rfl (by decide +kernel) (.on rfl rfl Qt.move) rfl ?_
 refine AWA.againE rfl rfl (by decide +kernel) (.on rfl rfl (fA fl26_0)) rfl ?_
 refine AWA.againE rfl rfl (by decide +kernel) (.on rfl rfl (Qt.load1 rfl rfl rfl ag24)) rfl ?_
 refine AWA.againE rfl rfl (by decide +kernel) (.on rfl rfl Qt.move) rfl ?_
 refine AWA.againE rfl rfl (by decide +kernel) (.on rfl rfl (Qt.indexAddr rfl rfl rfl rfl sl24 sz35 (by decide) (by first | omega | grind only))) rfl ?_
 refine AWA.againE rfl rfl (by decide +kernel) (.on rfl rfl (Qt.load1 rfl rfl rfl ag35)) rfl ?_
 refine AWA.againE rfl rfl (by decide +kernel) (.on rfl rfl (Qt.sliceH (lo := 1) rfl rfl rfl sl35 sz3 (by decide) (slB_so rfl rfl) slB_no (by first | omega | (simp only [Int.toNat_natCast]; omega)) (by first | omega | (simp only [Int.toNat_natCast]; omega)))) rfl ?_
 refine na ?_
 refine a1 10 [0, 1, 2] [9, 3, 8, 7, 6, 5, 4] rfl rfl (by first | exact Stp.appendC rfl (by decide) (by decide) rfl rfl (by omega) | exact Stp.appendM rfl (by decide) (by decide) rfl rfl rfl (by omega)) ?_
 refine na ?_
 refine AWA.againE rfl rfl (by decide +kernel) (.on rfl rfl (fA fl26_0)) rfl ?_
 refine AWA.againE rfl rfl (by decide +kernel) (.on rfl rfl (Qt.load1 rfl rfl rfl ag24)) rfl ?_
 refine AWA.againE rfl rfl (by decide +kernel) (.on rfl rfl Qt.move) rfl ?_
 refine na ?_
 refine tk 11 rfl (Qt.indexAddr rfl rfl rfl rfl sl24 sz35 (by decide) (by first | omega | grind only)) ?_
 refine a1 12 [] [11, 10, 9, 8, 7, 6, 5, 4, 3, 2, 1, 0] rfl rfl (by first | exact Stp.storeA rfl rfl rfl rfl (by decide) rfl | exact Stp.store rfl rfl (by simp) rfl rfl rfl (by decide) rfl) ?_
 refine na ?_
 refine na ?_
 refine AWA.rep base (tr (S.set i.k ((S.getD i.k En.dflt).drop 1))) rfl (set_row app_drop) ?_
 refine na ?_
 refine nz ?_
 refine AW.seq (AW.block ?_)
 refine AW.loopW (fun j : DInv (S.set i.k ((S.getD i.k En.dflt).drop 1)) ((S.getD i.k En.dflt).getD 0 En.dflt) i.k => [.sl 4 (.v (iv j.c)), .sl 5 (.v (iv ((S.getD i.k En.dflt).getD 0 En.dflt))), .rt 1 .box (T.s 1 1 fun k c => ([(T.j, none)].getD (k * 1 + c) (T.j, none)).fst), .al 1 0 (.h base []), .sl 1 (.p 1 [] 1 0 0), .sl 2 (.p 2 [] 1 0 0), .rt 2 .box (T.s 1 1 fun _ c => [T.s 1 0 fun _ _ => T.j].getD c T.j), .rt base .row (tr j.acc)]) (fun j => j.c) ⟨i.k, Nat.le_refl _, (S.set i.k ((S.getD i.k En.dflt).drop 1)), by rw [Nat.sub_self]; rfl, by rw [List.length_set]; exact h5, fun q hq => by rw [List.getD_eq_getElem?_getD, List.getElem?_set_ne (by omega), ← List.getD_eq_getElem?_getD]; exact i.h q hq⟩ (Weak.sim ⟨rfl, rfl, Rf rfl, ⟨rfl, rfl⟩, rfl, rfl, Rf rfl, Rf rfl, trivial⟩ rfl rfl) ?_
 intro j
 have hlej := j.le
 have hpw := pow5 (k := j.c - 1) (by have := j.le; omega)
 have hjl := j.len
 have hje := j.em (j.c - 1)
 refine AW.seq (AW.seq (AW.region ?_))
 refine qq Qt.move ?_
 refine qq (Qt.binOp rfl rfl rfl) ?_
 refine nl ?_
 refine AW.cond rfl (fun c4 => ?_) (fun c4 => ?_)
 ·have k4 := c4
  try simp only [cnd] at c4
  refine jd (AW.block (AW.seq (AW.region ?_)))
  refine qq Qt.move ?_
  refine nm ?_
  refine qq (Qt.binOp rfl rfl (by first | exact pbSub (by omega) | rfl)) ?_
  refine qq Qt.assign ?_
  refine AWL.weak (Weak.slot (d := 4) (v' := iv ((j.c - 1 : Nat) : Int)) rfl (by congr 1; omega)) ?_
  refine nl ?_
  refine AW.draw [0, 1, 2, 3, 4, 5, 6, 7, 8, 9, 11, 13] rfl (by decide +kernel) ?_
  refine tk 0 rfl (fA fl26_0) ?_
  refine na ?_
  refine tk 1 rfl (Qt.load1 rfl rfl rfl ag24) ?_
  refine tk 2 rfl Qt.move ?_
  refine tk 3 rfl (fA fl26_0) ?_
  refine na ?_
  refine tk 4 rfl (Qt.load1 rfl rfl rfl ag24) ?_
  refine tk 5 rfl Qt.move ?_
  refine tk 6 rfl (Qt.indexAddr rfl rfl rfl rfl sl24 sz35 (by decide) (by first | omega | grind only)) ?_
  refine na ?_
  refine tk 7 rfl (Qt.load1 rfl rfl rfl ag35) ?_
  refine tk 8 rfl Qt.move ?_
  refine tk 9 rfl Qt.move ?_
  refine na ?_
  refine a1 10 [0, 1, 2, 3, 4, 5, 6, 7, 8] [9] rfl rfl (Stp.callV rfl (by decide) Try.call32 rfl rfl (l15Len_con (j.c - 1) (by omega))) ?_
  refine na ?_
  refine AWA.againE rfl rfl (by decide +kernel) (.on rfl rfl (fA fl26_0)) rfl ?_
  refine AWA.againE rfl rfl (by decide +kernel) (.on rfl rfl (Qt.load1 rfl rfl rfl ag24)) rfl ?_
  refine AWA.againE rfl rfl (by decide +kernel) (.on rfl rfl Qt.move) rfl ?_
  refine AWA.againE rfl rfl (by decide +kernel) (.on rfl rfl (fA fl26_0)) rfl ?_
  refine AWA.againE rfl rfl (by decide +kernel) (.on rfl rfl (Qt.load1 rfl rfl rfl ag24)) rfl ?_
  refine AWA.againE rfl rfl (by decide +kernel) (.on rfl rfl Qt.move) rfl ?_
  refine AWA.againE rfl rfl (by decide +kernel) (.on rfl rfl (Qt.indexAddr rfl rfl rfl rfl sl24 sz35 (by decide) (by first | omega | grind only))) rfl ?_
  refine AWA.againE rfl rfl (by decide +kernel) (.on rfl rfl (Qt.load1 rfl rfl rfl ag35)) rfl ?_
  refine AWA.againE rfl rfl (by decide +kernel) (.on rfl rfl Qt.move) rfl ?_
  refine na ?_
  refine tk 11 rfl (Qt.binOp rfl rfl (by first | exact pbAdd (by omega) | rfl)) ?_
  refine a1 12 [0, 1, 2] [11, 10, 7, 8, 9, 6, 5, 4, 3] rfl rfl (Stp.callR rfl (by decide) Try.call94 rfl rfl (l15Put_con _ _ (by rw [j.em _ (by omega)]; simp)) (nodup_of rfl) rfl rfl) ?_
  refine na ?_
  refine AWA.againE rfl rfl (by decide +kernel) (.on rfl rfl (fA fl26_0)) rfl ?_
  refine AWA.againE rfl rfl (by decide +kernel) (.on rfl rfl (Qt.load1 rfl rfl rfl ag24)) rfl ?_
  refine AWA.againE rfl rfl (by decide +kernel) (.on rfl rfl Qt.move) rfl ?_
  refine na ?_
  refine AWA.rep 57 (tr ([((S.getD i.k En.dflt).getD 0 En.dflt) + ((2 ^ (j.c - 1) : Nat) : Int)] : List Int)) rfl (by rw [j.em _ (by omega)]; exact T.sim_refl _) ?_
  refine na ?_
  refine tk 13 rfl (Qt.indexAddr rfl rfl rfl rfl sl24 sz35 (by decide) (by first | omega | grind only)) ?_
  refine a1 14 [] [13, 12, 11, 10, 9, 8, 7, 6, 5, 4, 3, 2, 1, 0] rfl rfl (by first | exact Stp.storeA rfl rfl rfl rfl (by decide) rfl | exact Stp.store rfl rfl (by simp) rfl rfl rfl (by decide) rfl) ?_
  refine na ?_
  refine na ?_
  refine AWA.rep base (tr (j.acc.set (j.c - 1) [((S.getD i.k En.dflt).getD 0 En.dflt) + ((2 ^ (j.c - 1) : Nat) : Int)])) rfl (set_row (T.sim_refl _)) ?_
  refine na ?_
  refine nz ?_
  refine ⟨⟨j.c - 1, by omega, _, j.step (by omega), by rw [List.length_set]; exact j.len, j.em' _⟩, Weak.sim ⟨rfl, rfl, Rf rfl, ⟨rfl, rfl⟩, rfl, rfl, Rf rfl, Rf rfl, trivial⟩ rfl rfl, ?_⟩
  show j.c - 1 < j.c
  omega
 have k4 := c4
 try simp only [cnd] at c4
 refine AW.exit ?_
 dsimp only [thenQ, blockQ, reduceIte]
 refine AW.seq (AW.region ?_)
 refine qq (Qt.loadG rfl rfl rfl ag26 sz26 (by decide)) ?_
 refine qq Qt.move ?_
 refine ss ?_
 refine nm ?_
 refine qq Qt.assign ?_
 refine nl ?_
 refine AW.ret (endQ_ret (.cons (.cellG 2 26 rfl rfl rfl ag26 sz26 (by decide)) (.cons (.tmp 3) .nil)) ?_)
 rw [show resF S = ((S.getD i.k En.dflt).getD 0 En.dflt) from by rw [resF, e0, if_neg (by omega)]; rfl, show resS S = j.acc from by rw [resS, e0, if_neg (by omega), j.eq, show j.c = 0 by omega]; rfl]
 refine ⟨fun n => n, rfl, fun _ _ => rfl, List.nodup_nil, (by simp), ?_⟩
 intro p hp
 cases List.mem_singleton.1 hp
 exact rootL_mem rfl
end Go.Proofs.Ytfbefcmeghpalaa.VM
