/- Contracts of functions of the program. No conditions beyond those that each states. -/
import Derived.Lib.ItoaLen
import Derived.Test.YtlploojfcmcckaaDoorVmD
import Derived.Test.YtlploojfcmcckaaDoorReadVar
import Derived.Test.YtlploojfcmcckaaDoorUnhex
import Derived.Test.YtlploojfcmcckaaDoorCKP
import Derived.Test.YtlploojfcmcckaaDoorCKC
set_option linter.all false
set_option maxHeartbeats 8000000
set_option maxRecDepth 10000
namespace Go.Proofs.YtlploojfcmcckaaDoor.VM
open Go Go.RowKit Go.Proofs Go.Proofs.YtlploojfcmcckaaDoor
theorem val7_varN : ∀ (f n : Nat), n < 128 ^ f → val7 (Go.Proofs.YtlploojfcmcckaaDoor.varN f n) = n
 | 0, n, h => by
  simp at h
  subst h
  rfl
 | f + 1, n, h => by
  rw [Go.Proofs.YtlploojfcmcckaaDoor.varN]
  split
  ·rename_i h1
   simp only [val7, UInt8.toNat_ofNat']
   omega
  ·rw [val7, val7_varN f (n / 128) (by rw [Nat.div_lt_iff_lt_mul (by omega)]; rw [Nat.pow_succ] at h; exact h), UInt8.toNat_ofNat']
   omega
theorem varN_ne (n : Nat) : Go.Proofs.YtlploojfcmcckaaDoor.varN 7 n ≠ [] := by
 rw [Go.Proofs.YtlploojfcmcckaaDoor.varN]
 split <;> simp
theorem canon_var {n : Nat} (h : n < 562949953421312) : canonP (Go.Proofs.YtlploojfcmcckaaDoor.varN 7 n) := by
 have e := val7_varN 7 n (by rw [show (128 : Nat) ^ 7 = 562949953421312 by decide]; exact h)
 have := (canon_iff (Go.Proofs.YtlploojfcmcckaaDoor.varN 7 n) 7 (varN_ne n) (Go.Proofs.YtlploojfcmcckaaDoor.varN_len 7 n)).1 (by rw [e])
 exact this
theorem var_back {n : Int} (h : 0 ≤ n ∧ n ≤ 562949953421311) {t : List UInt8} {x k : Nat} (hr : rdV (Go.Proofs.YtlploojfcmcckaaDoor.varI n ++ t) x k) : (x : Int) = n ∧ k = (Go.Proofs.YtlploojfcmcckaaDoor.varI n).length := by
 rw [Go.Proofs.YtlploojfcmcckaaDoor.varI_in h] at hr ⊢
 have hc := canon_var (n := n.toNat) (by omega)
 have hl := Go.Proofs.YtlploojfcmcckaaDoor.varN_len 7 n.toNat
 have hne := varN_ne n.toNat
 have e := val7_varN 7 n.toNat (by rw [show (128 : Nat) ^ 7 = 562949953421312 by decide]; omega)
 generalize Go.Proofs.YtlploojfcmcckaaDoor.varN 7 n.toNat = l at *
 have hpos : 1 ≤ l.length := by
  rcases Nat.eq_zero_or_pos l.length with h0 | h0
  ·exact absurd (List.eq_nil_of_length_eq_zero h0) hne
  ·exact h0
 have hg : Go.Proofs.YtlploojfcmcckaaDoor.Good (l ++ t) l.length := ⟨hpos, hl, by rw [List.length_append]; omega, by rw [List.take_append_of_le_length (Nat.le_refl _), List.take_length]; exact hc⟩
 rcases hr with ⟨g, hx⟩ | ⟨_, _, hno⟩
 ·have hk := g.uniq hg
  subst hk
  rw [List.take_append_of_le_length (Nat.le_refl _), List.take_length, e] at hx
  exact ⟨by omega, rfl⟩
 ·exact absurd hg (hno _)
theorem rdF_fixN : ∀ (k n : Nat), n < 256 ^ k → rdF (fixN k n) = n
 | 0, n, h => by
  simp at h
  subst h
  rfl
 | k + 1, n, h => by
  rw [fixN, rdF_snoc, rdF_fixN k (n / 256) (by rw [Nat.div_lt_iff_lt_mul (by omega)]; rw [Nat.pow_succ] at h; exact h)]
  unfold lo8
  rw [UInt8.toNat_ofNat']
  omega
theorem fixI7 (n : Int) : fixI n 7 = if 0 ≤ n ∧ n < 72057594037927936 then fixN 7 n.toNat else [] := by
 have e : (256 : Int) ^ (7 : Int).toNat = 72057594037927936 := by decide
 split
 ·rename_i h
  unfold fixI
  rw [if_pos (by omega)]
  rfl
 ·rename_i h
  exact fixI_out (by omega)
theorem hex_back : ∀ l : List UInt8, unhexL (hexL l) = some l
 | [] => rfl
 | b :: l => by
  have h1 : ∀ k, k < 16 → fromHex (hexD k) = k := by decide
  have hb := b.toNat_lt
  rw [hexL, unhexL, h1 _ (by omega), h1 _ (by omega), if_neg (by omega), hex_back l]
  simp only [Option.map_some, Option.some.injEq, List.cons.injEq, and_true]
  apply UInt8.toNat_inj.1
  unfold lo8
  rw [UInt8.toNat_ofNat']
  omega
theorem dec_back {n : Int} (h0 : -9223372036854775808 ≤ n) (h1 : n ≤ 9223372036854775807) : rdS (decB n) = if -999999999 ≤ n ∧ n ≤ 999999999 then (n, true) else (0, false) := by
 rw [rd_eq (n := n) (b := false) (fun _ => by rw [decB_list]; exact atoi_itoa h0 h1) (fun h => by cases h)]
 simp [rdIok]
theorem var_again {s : ByteArray} {z j : Nat} (h : rdV s.data.toList z j) : j = 0 ∨ (j ≤ s.size ∧ (⟨(Go.Proofs.YtlploojfcmcckaaDoor.varI z).toArray⟩ : ByteArray) = s.extract 0 j) := by
 rcases h with ⟨g, hz⟩ | ⟨_, h, _⟩
 ·refine .inr ⟨by have := g.2.2.1; rwa [Array.length_toList] at this, ?_⟩
  rw [hz, (good_var g.1 g.2.1 g.2.2.1).2 g]
  apply ByteArray.ext
  apply Array.ext'
  rw [ByteArray.data_extract, Array.toList_extract]
  simp [List.extract]
 ·exact .inl h
theorem app_list (l : List UInt8) (t : ByteArray) : ((⟨l.toArray⟩ : ByteArray) ++ t).data.toList = l ++ t.data.toList := by
 rw [ByteArray.data_append]
 simp
theorem emp_iff (l : List UInt8) : ((⟨l.toArray⟩ : ByteArray).toList == (⟨#[]⟩ : ByteArray).toList) = decide (l = []) := by
 rw [baE, Bool.eq_iff_iff, decide_eq_true_eq, decide_eq_true_eq]
 constructor
 ·intro h
  have := congrArg (fun b : ByteArray => b.data.toList) h
  simpa using this
 ·intro h
  rw [h]
theorem fin1 {n : Int} {t : ByteArray} {x k : Nat} (hr : rdV ((⟨(Go.Proofs.YtlploojfcmcckaaDoor.varI n).toArray⟩ : ByteArray) ++ t).data.toList x k) (h : (((!((⟨(Go.Proofs.YtlploojfcmcckaaDoor.varI n).toArray⟩ : ByteArray).toList == (⟨#[]⟩ : ByteArray).toList)) != (decide (n ≥ 0) && decide (n ≤ 562949953421311))) || ((!((⟨(Go.Proofs.YtlploojfcmcckaaDoor.varI n).toArray⟩ : ByteArray).toList == (⟨#[]⟩ : ByteArray).toList)) && ((x : Int) != n || (k : Int) != (((Go.Proofs.YtlploojfcmcckaaDoor.varI n).toArray.size : Nat) : Int)))) = true) : False := by
 rw [emp_iff] at h
 rw [app_list] at hr
 by_cases hn : 0 ≤ n ∧ n ≤ 562949953421311
 ·obtain ⟨h1, h2⟩ := var_back hn hr
  have hne : Go.Proofs.YtlploojfcmcckaaDoor.varI n ≠ [] := by rw [Go.Proofs.YtlploojfcmcckaaDoor.varI_in hn]; exact varN_ne _
  rw [List.size_toArray, ← h2, h1] at h
  simp [hne] at h
  omega
 ·rw [Go.Proofs.YtlploojfcmcckaaDoor.varI_big hn] at h
  simp at h
  omega
theorem fin2 {n : Int} {t : ByteArray} {d : Int × Bool} (hr : 7 ≤ ((⟨(fixI n 7).toArray⟩ : ByteArray) ++ t).size → d = (((rdF (((⟨(fixI n 7).toArray⟩ : ByteArray) ++ t).data.toList.take 7) : Nat) : Int), true))
  (h : (((!((⟨(fixI n 7).toArray⟩ : ByteArray).toList == (⟨#[]⟩ : ByteArray).toList)) && (!d.2 || d.1 != n || (((fixI n 7).toArray.size : Nat) : Int) != 7)) || (((⟨(fixI n 7).toArray⟩ : ByteArray).toList == (⟨#[]⟩ : ByteArray).toList) != (decide (n < 0) || decide (n ≥ 72057594037927936)))) = true) : False := by
 rw [emp_iff] at h
 rw [app_list] at hr
 have hs : ((⟨(fixI n 7).toArray⟩ : ByteArray) ++ t).size = (fixI n 7).length + t.size := by
  rw [ByteArray.size_append]
  congr 1
 rw [hs] at hr
 by_cases hn : 0 ≤ n ∧ n < 72057594037927936
 ·have hl := fixN_len 7 n.toNat
  rw [fixI7, if_pos hn] at *
  have hv := rdF_fixN 7 n.toNat (by rw [show (256 : Nat) ^ 7 = 72057594037927936 by decide]; omega)
  have h1 := hr (by omega)
  have ht : (fixN 7 n.toNat ++ t.data.toList).take 7 = fixN 7 n.toNat := by
   rw [List.take_append_of_le_length (by omega), List.take_of_length_le (by omega)]
  have hne : fixN 7 n.toNat ≠ [] := fun e => by rw [e] at hl; simp at hl
  rw [ht, hv] at h1
  rw [h1, List.size_toArray, hl] at h
  simp [hne] at h
  omega
 ·rw [fixI7, if_neg hn] at h
  simp at h
  omega
theorem fin3 {n : Int} (h0 : -9223372036854775808 ≤ n ∧ n ≤ 9223372036854775807) (h : (((rdS (decB n)).2 != (decide (n > -1000000000) && decide (n < 1000000000))) || ((rdS (decB n)).2 && (rdS (decB n)).1 != n)) = true) : False := by
 rw [dec_back h0.1 h0.2] at h
 split at h
 ·simp at h
  omega
 ·simp at h
  omega
theorem decB_size2 (n : Int) (h0 : -9223372036854775808 ≤ n) (h1 : n ≤ 9223372036854775807) : (decB n).size ≤ 21 := by
 have h := Lib.itoa_length_le n h0 h1
 simpa [decB, ByteArray.size] using h
theorem hexL_size (s : ByteArray) : (⟨(hexL s.data.toList).toArray⟩ : ByteArray).size = 2 * s.size := by
 show (hexL s.data.toList).toArray.size = _
 rw [List.size_toArray, hexL_len, Array.length_toList]
 rfl
theorem fixI_size (n : Int) : (⟨(fixI n 7).toArray⟩ : ByteArray).size ≤ 7 := by
 show (fixI n 7).toArray.size ≤ 7
 rw [List.size_toArray, fixI7]
 split
 ·rw [fixN_len]; exact Nat.le_refl _
 ·exact Nat.zero_le _
theorem big_con (code : List UInt8) : Con Tryd.prog 17 [.h base []] [.rt base .ro (tr code)] (fun y _ => y = .v (.bool (decide ((code.length : Int) > 1048576)))) := by
 refine ob Tryd.func17 Tryd.ntmps17 ?_
 refine sr ?_
 refine qs' ?_
 refine qm ?_
 refine qh sl34 ?_
 refine nm ?_
 refine qb ?_
 refine qr 2 ?_
 rfl
theorem FnNumbers_con (code : List UInt8) : Con Tryd.prog 6 [.h base []] [.rt base .ro (tr code)] (fun y _ => y = .v (.bool true)) := by
 refine ob Tryd.func6 Tryd.ntmps6 ?_
 have hfx := fixI_size (drawVar code)
 have hdb : (decB (drawVar code)).size ≤ 21 := by unfold drawVar; exact (fun h => decB_size2 _ h.1 h.2) (numF_bd code 0 (hashF code))
 have hhx := hexL_size (drawHex code)
 have hrz := drawReadVar_size code
 refine sr ?_
 refine qn ?_
 refine sr2 ?_
 refine qm ?_
 refine cv Tryd.call17 rfl rfl (big_con code) ?_
 refine nc (fun c1 => ?_) fun c1 => ?_
 ·try simp only [cnd] at c1
  refine sr ?_
  refine qr 2 ?_
  rfl
 try simp only [cnd] at c1
 refine jd (sr ?_)
 refine mn ?_
 refine spK (StpK.callC false rfl (by decide) Tryd.call18 rfl rfl rfl rfl (DrawVar_F code (by omega)) (fun _ => nodup_of rfl) (fun _ => rfl) (fun _ => rfl) (fun _ => rfl) (fun h => by cases h)) ?_
 rintro _ ⟨d3_1, hd3_1, rfl⟩
 try dsimp only at hd3_1
 subst hd3_1
 have hnb : -9223372036854775808 ≤ drawVar code ∧ drawVar code ≤ 9223372036854775807 := by unfold drawVar; exact numF_bd _ _ _
 have hvl := varS_len (drawVar code)
 refine nm ?_
 refine qs' ?_
 refine qm ?_
 refine spK (StpK.callC false rfl (by decide) Tryd.call19 rfl rfl rfl rfl (DrawHex_F code (by omega)) (fun _ => nodup_of rfl) (fun _ => rfl) (fun _ => rfl) (fun _ => rfl) (fun h => by cases h)) ?_
 rintro _ ⟨d4_1, hd4_1, rfl⟩
 try dsimp only at hd4_1
 subst hd4_1
 have htl : (drawHex code).size ≤ 40 := by unfold drawHex; have := textF_size code 0 (hashF code) 40 (by omega); omega
 refine nm ?_
 refine qs' ?_
 refine qm ?_
 refine cv Tryd.call20 rfl rfl (ImpVar_con _) ?_
 refine nm ?_
 refine qs' ?_
 refine qm ?_
 refine mn ?_
 refine qq (Qt.binOp rfl rfl (pbCat (by first | omega | (simp only [ByteArray.size_append]; omega)))) ?_
 refine spK (StpK.callP rfl (by decide) Tryd.call21 rfl rfl rfl (ReadVar_con _ (by first | omega | (simp only [ByteArray.size_append]; omega)))) ?_
 rintro _ ⟨d6_3, hd6_3, rfl⟩
 try dsimp only at hd6_3
 refine nm ?_
 refine qm ?_
 refine qq (Qt.extract rfl (of_decide_eq_true rfl)) ?_
 refine qq (Qt.extract rfl (of_decide_eq_true rfl)) ?_
 refine nm ?_
 refine qa ?_
 refine qn ?_
 refine sr2 ?_
 refine mn ?_
 refine qb ?_
 refine qm ?_
 refine qb ?_
 refine nm ?_
 refine qm ?_
 apply AWL.cut 2
 ·intro Kg2
  refine AWL.split 36 rfl (fun g2 => ?_) (fun g2 => ?_)
  ·have eg2 := g2
   try simp only [cnd] at eg2
   refine qg g2 Qt.move ?_
   refine qg g2 (Qt.binOp rfl rfl rfl) ?_
   refine nm ?_
   exact wj 38 [37, 38] (ifT g2 _ undef) (by simp only [go_sem, reduceIte, Nat.reduceEqDiff, Nat.reduceBEq, reduceCtorEq]; rfl) Kg2
  ·refine og g2 ?_
   refine og g2 ?_
   exact wj 38 [37, 38] (ifF g2 undef _) (by simp only [go_sem, reduceIte, Nat.reduceEqDiff, Nat.reduceBEq, reduceCtorEq]) Kg2
 refine qq (Qt.pickAnd rfl rfl rfl) ?_
 refine qq (Qt.neB rfl rfl Tryd.underlying4) ?_
 refine mn ?_
 apply AWL.cut 13
 ·intro Kg3
  refine AWL.splitF 41 rfl (fun g3 => ?_) (fun g3 => ?_)
  ·have eg3 := g3
   try simp only [cnd] at eg3
   refine qg (nF g3) Qt.move ?_
   refine qg (nF g3) (Qt.binOp rfl rfl rfl) ?_
   refine qg (nF g3) Qt.move ?_
   refine nm ?_
   apply AWL.cut 9
   ·intro Kg4
    refine AWL.split 44 rfl (fun g4 => ?_) (fun g4 => ?_)
    ·have eg4 := g4
     try simp only [cnd] at eg4
     refine qg g4 Qt.move ?_
     refine qg g4 Qt.move ?_
     refine qg g4 (Qt.binOp rfl rfl rfl) ?_
     refine nm ?_
     refine qg g4 Qt.move ?_
     apply AWL.cut 4
     ·intro Kg5
      refine AWL.splitF 48 rfl (fun g5 => ?_) (fun g5 => ?_)
      ·have eg5 := g5
       try simp only [cnd] at eg5
       refine qg (nF g5) Qt.move ?_
       refine qg (nF g5) Qt.move ?_
       refine nm ?_
       refine qg (nF g5) (Qt.lenS rfl Tryd.underlying9) ?_
       refine qg (nF g5) (Qt.binOp rfl rfl rfl) ?_
       exact wj 52 [49, 50, 51, 52] (ifF g5 _ undef) (by simp only [go_sem, reduceIte, Nat.reduceEqDiff, Nat.reduceBEq, reduceCtorEq]; rfl) Kg5
      ·refine og (nT g5) ?_
       refine og (nT g5) ?_
       refine og (nT g5) ?_
       refine og (nT g5) ?_
       exact wj 52 [49, 50, 51, 52] (ifT g5 undef _) (by simp only [go_sem, reduceIte, Nat.reduceEqDiff, Nat.reduceBEq, reduceCtorEq]) Kg5
     refine qg g4 (Qt.pickOr rfl rfl rfl) ?_
     refine nm ?_
     exact wj 53 [45, 46, 47, 48, 49, 50, 51, 52, 53] (ifT g4 _ undef) (by simp only [go_sem, reduceIte, Nat.reduceEqDiff, Nat.reduceBEq, reduceCtorEq]; rfl) Kg4
    ·refine og g4 ?_
     refine og g4 ?_
     refine og g4 ?_
     refine og g4 ?_
     refine nm ?_
     refine og rfl ?_
     refine og rfl ?_
     refine og rfl ?_
     refine og rfl ?_
     refine nm ?_
     refine og g4 ?_
     exact wj 53 [45, 46, 47, 48, 49, 50, 51, 52, 53] (ifF g4 undef _) (by simp only [go_sem, reduceIte, Nat.reduceEqDiff, Nat.reduceBEq, reduceCtorEq]) Kg4
   refine qg (nF g3) (Qt.pickAnd rfl rfl rfl) ?_
   exact wj 54 [42, 43, 44, 45, 46, 47, 48, 49, 50, 51, 52, 53, 54] (ifF g3 _ undef) (by simp only [go_sem, reduceIte, Nat.reduceEqDiff, Nat.reduceBEq, reduceCtorEq]; rfl) Kg3
  ·refine og (nT g3) ?_
   refine og (nT g3) ?_
   refine og (nT g3) ?_
   refine og rfl ?_
   refine nm ?_
   refine og rfl ?_
   refine og rfl ?_
   refine og rfl ?_
   refine og rfl ?_
   refine nm ?_
   refine og rfl ?_
   refine og rfl ?_
   refine og rfl ?_
   refine og rfl ?_
   refine nm ?_
   refine og (nT g3) ?_
   exact wj 54 [42, 43, 44, 45, 46, 47, 48, 49, 50, 51, 52, 53, 54] (ifT g3 undef _) (by simp only [go_sem, reduceIte, Nat.reduceEqDiff, Nat.reduceBEq, reduceCtorEq]) Kg3
 refine qq (Qt.pickOr rfl rfl rfl) ?_
 refine nl ?_
 refine AW.cond rfl (fun c6 => (by exfalso; exact fin1 hd6_3 c6)) (fun c6 => ?_)
 try simp only [cnd] at c6
 refine jd (sr ?_)
 refine mn ?_
 refine cv Tryd.call22 rfl rfl (Fixed_con _) ?_
 refine nm ?_
 refine qs' ?_
 refine qm ?_
 refine mn ?_
 refine qq (Qt.binOp rfl rfl (pbCat (by first | omega | (simp only [ByteArray.size_append]; omega)))) ?_
 refine spK (StpK.callP rfl (by decide) Tryd.call23 rfl rfl rfl (ReadFixed_con _ (by simp only [ByteArray.size_append]; omega))) ?_
 rintro _ ⟨d10_3, hd10_3, rfl⟩
 try dsimp only at hd10_3
 refine nm ?_
 refine qm ?_
 refine qq (Qt.extract rfl (of_decide_eq_true rfl)) ?_
 refine qq (Qt.extract rfl (of_decide_eq_true rfl)) ?_
 refine nm ?_
 refine qa ?_
 refine qn ?_
 refine sr2 ?_
 refine mn ?_
 refine qb ?_
 refine qm ?_
 apply AWL.cut 12
 ·intro Kg7
  refine AWL.split 67 rfl (fun g7 => ?_) (fun g7 => ?_)
  ·have eg7 := g7
   try simp only [cnd] at eg7
   refine qg g7 Qt.move ?_
   refine nm ?_
   refine qg g7 (Qt.notB rfl) ?_
   refine qg g7 Qt.move ?_
   apply AWL.cut 3
   ·intro Kg8
    refine AWL.splitF 70 rfl (fun g8 => ?_) (fun g8 => ?_)
    ·have eg8 := g8
     try simp only [cnd] at eg8
     refine qg (nF g8) Qt.move ?_
     refine nm ?_
     refine qg (nF g8) Qt.move ?_
     refine qg (nF g8) (Qt.binOp rfl rfl rfl) ?_
     exact wj 73 [71, 72, 73] (ifF g8 _ undef) (by simp only [go_sem, reduceIte, Nat.reduceEqDiff, Nat.reduceBEq, reduceCtorEq]; rfl) Kg8
    ·refine og (nT g8) ?_
     refine og (nT g8) ?_
     refine og (nT g8) ?_
     exact wj 73 [71, 72, 73] (ifT g8 undef _) (by simp only [go_sem, reduceIte, Nat.reduceEqDiff, Nat.reduceBEq, reduceCtorEq]) Kg8
   refine qg g7 (Qt.pickOr rfl rfl rfl) ?_
   refine nm ?_
   refine qg g7 Qt.move ?_
   apply AWL.cut 3
   ·intro Kg9
    refine AWL.splitF 75 rfl (fun g9 => ?_) (fun g9 => ?_)
    ·have eg9 := g9
     try simp only [cnd] at eg9
     refine qg (nF g9) Qt.move ?_
     refine qg (nF g9) (Qt.lenS rfl Tryd.underlying9) ?_
     refine nm ?_
     refine qg (nF g9) (Qt.binOp rfl rfl rfl) ?_
     exact wj 78 [76, 77, 78] (ifF g9 _ undef) (by simp only [go_sem, reduceIte, Nat.reduceEqDiff, Nat.reduceBEq, reduceCtorEq]; rfl) Kg9
    ·refine og (nT g9) ?_
     refine og (nT g9) ?_
     refine og (nT g9) ?_
     exact wj 78 [76, 77, 78] (ifT g9 undef _) (by simp only [go_sem, reduceIte, Nat.reduceEqDiff, Nat.reduceBEq, reduceCtorEq]) Kg9
   refine qg g7 (Qt.pickOr rfl rfl rfl) ?_
   exact wj 79 [68, 69, 70, 71, 72, 73, 74, 75, 76, 77, 78, 79] (ifT g7 _ undef) (by simp only [go_sem, reduceIte, Nat.reduceEqDiff, Nat.reduceBEq, reduceCtorEq]; rfl) Kg7
  ·refine og g7 ?_
   refine og g7 ?_
   refine og g7 ?_
   refine og rfl ?_
   refine nm ?_
   refine og rfl ?_
   refine og rfl ?_
   refine og g7 ?_
   refine og g7 ?_
   refine nm ?_
   refine og rfl ?_
   refine og rfl ?_
   refine og rfl ?_
   refine og g7 ?_
   exact wj 79 [68, 69, 70, 71, 72, 73, 74, 75, 76, 77, 78, 79] (ifF g7 undef _) (by simp only [go_sem, reduceIte, Nat.reduceEqDiff, Nat.reduceBEq, reduceCtorEq]) Kg7
 refine qq (Qt.pickAnd rfl rfl rfl) ?_
 refine nm ?_
 refine qm ?_
 apply AWL.cut 9
 ·intro Kg10
  refine AWL.splitF 81 rfl (fun g10 => ?_) (fun g10 => ?_)
  ·have eg10 := g10
   try simp only [cnd] at eg10
   refine qg (nF g10) Qt.move ?_
   refine qg (nF g10) (Qt.binOp rfl rfl rfl) ?_
   refine nm ?_
   refine qg (nF g10) Qt.move ?_
   refine qg (nF g10) (Qt.binOp rfl rfl rfl) ?_
   refine qg (nF g10) Qt.move ?_
   refine nm ?_
   apply AWL.cut 2
   ·intro Kg11
    refine AWL.splitF 86 rfl (fun g11 => ?_) (fun g11 => ?_)
    ·have eg11 := g11
     try simp only [cnd] at eg11
     refine qg (nF g11) Qt.move ?_
     refine qg (nF g11) (Qt.binOp rfl rfl rfl) ?_
     exact wj 88 [87, 88] (ifF g11 _ undef) (by simp only [go_sem, reduceIte, Nat.reduceEqDiff, Nat.reduceBEq, reduceCtorEq]; rfl) Kg11
    ·refine og (nT g11) ?_
     refine og (nT g11) ?_
     exact wj 88 [87, 88] (ifT g11 undef _) (by simp only [go_sem, reduceIte, Nat.reduceEqDiff, Nat.reduceBEq, reduceCtorEq]) Kg11
   refine qg (nF g10) (Qt.pickOr rfl rfl rfl) ?_
   refine nm ?_
   refine qg (nF g10) (Qt.neB rfl rfl Tryd.underlying4) ?_
   exact wj 90 [82, 83, 84, 85, 86, 87, 88, 89, 90] (ifF g10 _ undef) (by simp only [go_sem, reduceIte, Nat.reduceEqDiff, Nat.reduceBEq, reduceCtorEq]; rfl) Kg10
  ·refine og (nT g10) ?_
   refine og (nT g10) ?_
   refine og (nT g10) ?_
   refine og (nT g10) ?_
   refine nm ?_
   refine og (nT g10) ?_
   refine og rfl ?_
   refine og rfl ?_
   refine og (nT g10) ?_
   refine nm ?_
   refine og (nT g10) ?_
   exact wj 90 [82, 83, 84, 85, 86, 87, 88, 89, 90] (ifT g10 undef _) (by simp only [go_sem, reduceIte, Nat.reduceEqDiff, Nat.reduceBEq, reduceCtorEq]) Kg10
 refine qq (Qt.pickOr rfl rfl rfl) ?_
 refine nl ?_
 refine AW.cond rfl (fun c12 => (by exfalso; exact fin2 hd10_3 c12)) (fun c12 => ?_)
 try simp only [cnd] at c12
 refine jd (sr ?_)
 refine mn ?_
 refine cv Tryd.call9 rfl rfl (DecI_con _ hnb) ?_
 refine nm ?_
 refine sp (Stp.callR rfl (by decide) Tryd.call16 rfl rfl (ReadDecI_con _ (by omega)) (nodup_of rfl) rfl rfl) ?_
 refine nm ?_
 refine qm ?_
 refine qq (Qt.extract rfl (of_decide_eq_true rfl)) ?_
 refine qq (Qt.extract rfl (of_decide_eq_true rfl)) ?_
 refine nm ?_
 refine qa ?_
 refine qn ?_
 refine sr2 ?_
 refine mn ?_
 refine qm ?_
 refine qb ?_
 refine mn ?_
 apply AWL.cut 2
 ·intro Kg13
  refine AWL.split 101 rfl (fun g13 => ?_) (fun g13 => ?_)
  ·have eg13 := g13
   try simp only [cnd] at eg13
   refine qg g13 Qt.move ?_
   refine qg g13 (Qt.binOp rfl rfl rfl) ?_
   exact wj 103 [102, 103] (ifT g13 _ undef) (by simp only [go_sem, reduceIte, Nat.reduceEqDiff, Nat.reduceBEq, reduceCtorEq]; rfl) Kg13
  ·refine og g13 ?_
   refine og g13 ?_
   exact wj 103 [102, 103] (ifF g13 undef _) (by simp only [go_sem, reduceIte, Nat.reduceEqDiff, Nat.reduceBEq, reduceCtorEq]) Kg13
 refine qq (Qt.pickAnd rfl rfl rfl) ?_
 refine nm ?_
 refine qq (Qt.neB rfl rfl Tryd.underlying4) ?_
 refine qm ?_
 apply AWL.cut 6
 ·intro Kg14
  refine AWL.splitF 106 rfl (fun g14 => ?_) (fun g14 => ?_)
  ·have eg14 := g14
   try simp only [cnd] at eg14
   refine qg (nF g14) Qt.move ?_
   refine nm ?_
   refine qg (nF g14) Qt.move ?_
   apply AWL.cut 3
   ·intro Kg15
    refine AWL.split 108 rfl (fun g15 => ?_) (fun g15 => ?_)
    ·have eg15 := g15
     try simp only [cnd] at eg15
     refine qg g15 Qt.move ?_
     refine qg g15 Qt.move ?_
     refine nm ?_
     refine qg g15 (Qt.binOp rfl rfl rfl) ?_
     exact wj 111 [109, 110, 111] (ifT g15 _ undef) (by simp only [go_sem, reduceIte, Nat.reduceEqDiff, Nat.reduceBEq, reduceCtorEq]; rfl) Kg15
    ·refine og g15 ?_
     refine og g15 ?_
     refine og g15 ?_
     exact wj 111 [109, 110, 111] (ifF g15 undef _) (by simp only [go_sem, reduceIte, Nat.reduceEqDiff, Nat.reduceBEq, reduceCtorEq]) Kg15
   refine qg (nF g14) (Qt.pickAnd rfl rfl rfl) ?_
   exact wj 112 [107, 108, 109, 110, 111, 112] (ifF g14 _ undef) (by simp only [go_sem, reduceIte, Nat.reduceEqDiff, Nat.reduceBEq, reduceCtorEq]; rfl) Kg14
  ·refine og (nT g14) ?_
   refine og (nT g14) ?_
   refine og rfl ?_
   refine og rfl ?_
   refine nm ?_
   refine og rfl ?_
   refine og (nT g14) ?_
   exact wj 112 [107, 108, 109, 110, 111, 112] (ifT g14 undef _) (by simp only [go_sem, reduceIte, Nat.reduceEqDiff, Nat.reduceBEq, reduceCtorEq]) Kg14
 refine qq (Qt.pickOr rfl rfl rfl) ?_
 refine nl ?_
 refine AW.cond rfl (fun c16 => (by exfalso; exact fin3 hnb c16)) (fun c16 => ?_)
 try simp only [cnd] at c16
 refine jd (sr ?_)
 refine mn ?_
 refine cv Tryd.call25 rfl rfl (Hex_con _ (by omega)) ?_
 refine nm ?_
 refine spK (StpK.callP rfl (by decide) Tryd.call24 rfl rfl rfl (Unhex_con _ (by omega))) ?_
 rintro _ ⟨d16_2, hd16_2, rfl⟩
 try dsimp only at hd16_2
 have hu : d16_2 = (drawHex code, true) := (hd16_2 _ (hex_back _)).trans (by simp)
 subst hu
 refine nm ?_
 refine qm ?_
 refine qq (Qt.extract rfl (of_decide_eq_true rfl)) ?_
 refine qq (Qt.extract rfl (of_decide_eq_true rfl)) ?_
 refine nm ?_
 refine qa ?_
 refine qs' ?_
 refine mn ?_
 refine spK (StpK.callC false rfl (by decide) Tryd.call26 rfl rfl rfl rfl (DrawReadVar_F code (by omega)) (fun _ => nodup_of rfl) (fun _ => rfl) (fun _ => rfl) (fun _ => rfl) (fun h => by cases h)) ?_
 rintro _ ⟨d17_1, hd17_1, rfl⟩
 try dsimp only at hd17_1
 subst hd17_1
 refine nm ?_
 refine spK (StpK.callP rfl (by decide) Tryd.call21 rfl rfl rfl (ReadVar_con _ (by first | omega | (simp only [ByteArray.size_append]; omega)))) ?_
 rintro _ ⟨d17_2, hd17_2, rfl⟩
 try dsimp only at hd17_2
 have hva := var_again hd17_2
 refine nm ?_
 refine qm ?_
 refine qq (Qt.extract rfl (of_decide_eq_true rfl)) ?_
 refine qq (Qt.extract rfl (of_decide_eq_true rfl)) ?_
 refine nm ?_
 refine qa ?_
 refine qs' ?_
 refine mn ?_
 refine qm ?_
 apply AWL.cut 3
 ·intro Kg17
  refine AWL.split 127 rfl (fun g17 => ?_) (fun g17 => ?_)
  ·have eg17 := g17
   try simp only [cnd] at eg17
   refine qg g17 Qt.move ?_
   refine qg g17 Qt.move ?_
   refine nm ?_
   refine qg g17 (Qt.binOp rfl rfl rfl) ?_
   exact wj 130 [128, 129, 130] (ifT g17 _ undef) (by simp only [go_sem, reduceIte, Nat.reduceEqDiff, Nat.reduceBEq, reduceCtorEq]; rfl) Kg17
  ·refine og g17 ?_
   refine og g17 ?_
   refine og g17 ?_
   exact wj 130 [128, 129, 130] (ifF g17 undef _) (by simp only [go_sem, reduceIte, Nat.reduceEqDiff, Nat.reduceBEq, reduceCtorEq]) Kg17
 refine qq (Qt.pickAnd rfl rfl rfl) ?_
 refine mn ?_
 refine AWL.split 132 rfl (fun g18 => ?_) (fun g18 => ?_)
 ·have eg18 := g18
  try simp only [cnd] at eg18
  refine qg g18 Qt.move ?_
  refine qg g18 (Qt.binOp rfl rfl rfl) ?_
  refine qg g18 Qt.move ?_
  refine nm ?_
  refine AWL.split 135 rfl (fun g19 => ?_) (fun g19 => ?_)
  ·have eg19 := g19
   try simp only [cnd] at eg19
   refine og (nT g19) ?_
   refine og (nT g19) ?_
   refine og (nT g19) ?_
   refine og (nT g19) ?_
   refine og (nT g19) ?_
   refine og (nT g19) ?_
   refine og (nT g19) ?_
   refine qg g18 (Qt.pickT rfl g19) ?_
   refine qq (Qt.pickT rfl g18) ?_
   refine qr 2 ?_
   rfl
  have eg19 := g19
  try simp only [cnd] at eg19
  refine qg (nF g19) Qt.move ?_
  refine nm ?_
  refine AWL.step rfl (nF g19) (Stp.callV rfl (by decide) Tryd.call20 rfl rfl (ImpVar_con _)) ?_
  refine nm ?_
  refine qg (nF g19) Qt.move ?_
  refine spK (StpK.callC false rfl (by decide) Tryd.call26 rfl rfl rfl rfl (DrawReadVar_F code (by omega)) (fun _ => nodup_of rfl) (fun _ => rfl) (fun _ => rfl) (fun _ => rfl) (fun h => by cases h)) ?_ rfl (nF g19)
  rintro _ ⟨d18_13, hd18_13, rfl⟩
  try dsimp only at hd18_13
  subst hd18_13
  have hva2 := hva.resolve_left (by omega)
  have hja := hva2.1
  refine nm ?_
  refine qg (nF g19) Qt.move ?_
  refine qg (nF g19) (Qt.sliceS rfl Tryd.underlying9 slB_no (slB_so rfl rfl) (by first | omega | (simp only [Int.toNat_natCast]; omega)) (by first | omega | (simp only [Int.toNat_natCast]; omega))) ?_
  refine qg (nF g19) (Qt.binOp rfl rfl rfl) ?_
  refine nm ?_
  refine qg g18 (Qt.pickF rfl g19) ?_
  refine qq (Qt.pickT rfl g18) ?_
  refine qr 2 ?_
  have he : ((⟨(Go.Proofs.YtlploojfcmcckaaDoor.varI d17_2.1).toArray⟩ : ByteArray).toList == ((drawReadVar code).extract 0 d17_2.2).toList) = true := by rw [hva2.2]; exact beq_self_eq_true _
  show X.v (Value.bool ((⟨(Go.Proofs.YtlploojfcmcckaaDoor.varI d17_2.1).toArray⟩ : ByteArray).toList == ((drawReadVar code).extract 0 d17_2.2).toList)) = _
  rw [he]
 exfalso
 simp at g18
end Go.Proofs.YtlploojfcmcckaaDoor.VM
