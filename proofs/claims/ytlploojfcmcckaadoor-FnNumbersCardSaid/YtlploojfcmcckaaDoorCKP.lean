/- Contracts of functions of the program. No conditions beyond those that each states. -/
import Derived.Test.YtlploojfcmcckaaDoorVmD
import Derived.Test.YtlploojfcmcckaaDoorReadVar
import Derived.Test.YtlploojfcmcckaaDoorUnhex
import Derived.Test.YtlploojfcmcckaaDoorCKO
set_option linter.all false
set_option maxHeartbeats 8000000
set_option maxRecDepth 10000
namespace Go.Proofs.YtlploojfcmcckaaDoor.VM
open Go Go.RowKit Go.Proofs Go.Proofs.YtlploojfcmcckaaDoor
theorem ImpVar_con (n : Int) : Con Tryd.prog 20 [.v (iv n)] [] (fun y _ => y = .v (.string ⟨(Go.Proofs.YtlploojfcmcckaaDoor.varI n).toArray⟩)) := con_below (xs := [iv n]) fun w => var_any n w
theorem below_eq {w w' : World} (h : w = w') : Below w.heap.size w w' := h ▸ Below.refl _ _
theorem ReadVar_con (s : ByteArray) (hs : s.size ≤ 1048576) : Con Tryd.prog 21 [.v (.string s)] [] (fun y _ => ∃ m : Nat × Nat, rdV s.data.toList m.1 m.2 ∧ y = .t ([iv m.1, iv m.2].map .v)) :=
 con_belowP (xs := [.string s]) (rs := fun m : Nat × Nat => [iv m.1, iv m.2]) fun w => (implReadVar_any s hs w).mono fun _ _ ⟨⟨n, m, h1, h2⟩, h3⟩ => ⟨⟨(n, m), h2, h1⟩, below_eq h3⟩
theorem Fixed_con (n : Int) : Con Tryd.prog 22 [.v (iv n), .v (iv 7)] [] (fun y _ => y = .v (.string ⟨(fixI n 7).toArray⟩)) := con_below (xs := [iv n, iv 7]) fun w => by
 by_cases h : 1 ≤ (7 : Int) ∧ (7 : Int) ≤ 7 ∧ 0 ≤ n ∧ n < 256 ^ (7 : Int).toNat
 ·obtain ⟨h1, h7, h0, hn⟩ := h
  obtain ⟨N, rfl⟩ := Int.eq_ofNat_of_zero_le h0
  have hn' : N < 256 ^ 7 := by rw [show (7 : Int).toNat = 7 from rfl, pow256] at hn; exact Int.ofNat_lt.1 hn
  rw [show fixI (N : Int) 7 = fixN 7 N from fixI_in (n := N) (wd := 7) (by omega) (by omega) hn']
  exact fixed_in N 7 (by omega) (by omega) hn' w
 ·rw [fixI_out h]
  exact (fixed_out n 7 h w).mono fun _ _ ⟨h1, h2⟩ => ⟨h1, below_eq h2⟩
theorem ReadFixed_con (s : ByteArray) (hs : s.size ≤ 1048576) : Con Tryd.prog 23 [.v (.string s), .v (iv 7)] [] (fun y _ => ∃ m : Int × Bool, (7 ≤ s.size → m = (((rdF (s.data.toList.take 7) : Nat) : Int), true)) ∧ y = .t ([iv m.1, .bool m.2].map .v)) :=
 con_belowP (xs := [.string s, iv 7]) (rs := fun m : Int × Bool => [iv m.1, .bool m.2]) fun w => by
  by_cases h : 7 ≤ s.size
  ·exact (readFixed_in s 7 (by omega) (by omega) h (by unfold maxLen; omega) w).mono fun _ _ ⟨h1, h2⟩ => ⟨⟨(_, true), fun _ => rfl, h1⟩, below_eq h2⟩
  ·exact (readFixed_out s 7 (by omega) w).mono fun _ _ ⟨h1, h2⟩ => ⟨⟨(0, false), fun h' => absurd h' h, h1⟩, below_eq h2⟩
theorem Hex_con (s : ByteArray) (hs : s.size ≤ 1048576) : Con Tryd.prog 25 [.v (.string s)] [] (fun y _ => y = .v (.string ⟨(hexL s.data.toList).toArray⟩)) := con_below (xs := [.string s]) fun w => hex_any s hs w
theorem Unhex_con (s : ByteArray) (hs : s.size ≤ 1048576) : Con Tryd.prog 24 [.v (.string s)] [] (fun y _ => ∃ m : ByteArray × Bool, (∀ l, unhexL s.data.toList = some l → m = (⟨l.toArray⟩, true)) ∧ y = .t ([.string m.1, .bool m.2].map .v)) :=
 con_belowP (xs := [.string s]) (rs := fun m : ByteArray × Bool => [.string m.1, .bool m.2]) fun w => (implUnhex_any s hs w).mono fun e w' h => by
  unfold UnhexR at h
  obtain ⟨h1, h2⟩ := h
  cases hu : unhexL s.data.toList with
  | none => rw [hu] at h1; exact ⟨⟨(⟨#[]⟩, false), fun _ h => (by cases h), h1⟩, h2⟩
  | some r => rw [hu] at h1; exact ⟨⟨(⟨r.toArray⟩, true), fun _ h => (by cases h; rfl), h1⟩, h2⟩
@[irreducible] def drawVar (code : List UInt8) : Int := (numF code 0 (hashF code)).2.2
@[irreducible] def drawHex (code : List UInt8) : ByteArray := (textF code 0 (hashF code) 40).2.2
@[irreducible] def drawReadVar (code : List UInt8) : ByteArray :=
 let a := numF code 0 (hashF code)
 let t := textF code a.1 a.2.1 4
 let o := belowF code t.1 t.2.1 4
 if o.2.2 = 0 then (spoilF code o.1 o.2.1 (⟨(Go.Proofs.YtlploojfcmcckaaDoor.varI a.2.2).toArray⟩ ++ t.2.2)).2.2 else ⟨(Go.Proofs.YtlploojfcmcckaaDoor.varI a.2.2).toArray⟩ ++ t.2.2
theorem varS_len (n : Int) : (⟨(Go.Proofs.YtlploojfcmcckaaDoor.varI n).toArray⟩ : ByteArray).size ≤ 7 := by
 show (Go.Proofs.YtlploojfcmcckaaDoor.varI n).toArray.size ≤ 7
 rw [List.size_toArray]
 unfold Go.Proofs.YtlploojfcmcckaaDoor.varI
 split
 ·exact Go.Proofs.YtlploojfcmcckaaDoor.varN_len _ _
 ·exact Nat.zero_le _
theorem spoilF_size (code : List UInt8) (i : Nat) (h : Int) (s : ByteArray) (hs : s.size ≤ 1000) : (spoilF code i h s).2.2.size ≤ 2010 := by
 unfold spoilF
 dsimp only
 have ht := textF_size code i h 3 (by omega)
 split
 ·omega
 ·split
  ·simp only [ByteArray.size_append, ByteArray.size_extract]; omega
  ·split
   ·simp only [ByteArray.size_append, ByteArray.size_extract, str1_size]; omega
   ·split
    ·simp only [ByteArray.size_extract]; omega
    ·simp only [ByteArray.size_append, ByteArray.size_extract, str1_size]; omega
theorem drawReadVar_size (code : List UInt8) : (drawReadVar code).size ≤ 2010 := by
 unfold drawReadVar
 dsimp only
 have hv := varS_len (numF code 0 (hashF code)).2.2
 have ht := textF_size code (numF code 0 (hashF code)).1 (numF code 0 (hashF code)).2.1 4 (by omega)
 split
 ·exact spoilF_size _ _ _ _ (by simp only [ByteArray.size_append]; omega)
 ·simp only [ByteArray.size_append]; omega
theorem DrawVar_F (code : List UInt8) (hw : code.length ≤ 1048576) : Con Tryd.prog 18 [.h base []] [.rt base .ro (tr code)] (RetC false (fun m : Int => m = drawVar code) (fun m => .v (iv m)) (fun _ => [])) := by
 refine ob Tryd.func18 Tryd.ntmps18 ?_
 refine sr ?_
 refine qs' ?_
 refine qm ?_
 refine spK (StpK.callC true rfl (by decide) Tryd.call41 rfl rfl rfl rfl (l1New_F code hw) (fun _ => nodup_of rfl) (fun _ => rfl) (fun _ => rfl) (fun _ => rfl) (fun _ _ => rfl)) ?_
 rintro _ ⟨d1_1, hd1_1, rfl⟩
 try dsimp only at hd1_1
 subst hd1_1
 refine nm ?_
 refine qs' ?_
 refine qm ?_
 refine spK (StpK.callD rfl (by decide) Tryd.call42 rfl rfl rfl rfl rfl rfl rfl (cur_leaf _ _) (l1Num_F code _ _) (fun _ => nodup_of rfl) (fun _ => rfl) (fun _ => rfl)) ?_
 rintro _ ⟨d2_1, hd2_1, rfl⟩
 try dsimp only at hd2_1
 subst hd2_1
 refine nm ?_
 refine qr 2 ?_
 exact ⟨(numF code 0 (hashF code)).2.2, (by unfold drawVar; rfl), fun n => n, rfl, List.nodup_nil, (by simp), fun h => by cases h⟩
theorem DrawHex_F (code : List UInt8) (hw : code.length ≤ 1048576) : Con Tryd.prog 19 [.h base []] [.rt base .ro (tr code)] (RetC false (fun m : ByteArray => m = drawHex code) (fun m => .v (.string m)) (fun _ => [])) := by
 refine ob Tryd.func19 Tryd.ntmps19 ?_
 refine sr ?_
 refine qs' ?_
 refine qm ?_
 refine spK (StpK.callC true rfl (by decide) Tryd.call41 rfl rfl rfl rfl (l1New_F code hw) (fun _ => nodup_of rfl) (fun _ => rfl) (fun _ => rfl) (fun _ => rfl) (fun _ _ => rfl)) ?_
 rintro _ ⟨d1_1, hd1_1, rfl⟩
 try dsimp only at hd1_1
 subst hd1_1
 refine nm ?_
 refine qs' ?_
 refine qm ?_
 refine spK (StpK.callD rfl (by decide) Tryd.call43 rfl rfl rfl rfl rfl rfl rfl (cur_leaf _ _) (l1Text_F code _ _ _ (by omega)) (fun _ => nodup_of rfl) (fun _ => rfl) (fun _ => rfl)) ?_
 rintro _ ⟨d2_1, hd2_1, rfl⟩
 try dsimp only at hd2_1
 subst hd2_1
 refine nm ?_
 refine qr 2 ?_
 exact ⟨(textF code 0 (hashF code) 40).2.2, (by unfold drawHex; rfl), fun n => n, rfl, List.nodup_nil, (by simp), fun h => by cases h⟩
theorem DrawReadVar_F (code : List UInt8) (hw : code.length ≤ 1048576) : Con Tryd.prog 26 [.h base []] [.rt base .ro (tr code)] (RetC false (fun m : ByteArray => m = drawReadVar code) (fun m => .v (.string m)) (fun _ => [])) := by
 refine ob Tryd.func26 Tryd.ntmps26 ?_
 have hv7 := varS_len (numF code 0 (hashF code)).2.2
 have ht4 := textF_size code (numF code 0 (hashF code)).1 (numF code 0 (hashF code)).2.1 4 (by omega)
 refine sr ?_
 refine qs' ?_
 refine qm ?_
 refine spK (StpK.callC true rfl (by decide) Tryd.call41 rfl rfl rfl rfl (l1New_F code hw) (fun _ => nodup_of rfl) (fun _ => rfl) (fun _ => rfl) (fun _ => rfl) (fun _ _ => rfl)) ?_
 rintro _ ⟨d1_1, hd1_1, rfl⟩
 try dsimp only at hd1_1
 subst hd1_1
 refine nm ?_
 refine qs' ?_
 refine qm ?_
 refine spK (StpK.callD rfl (by decide) Tryd.call42 rfl rfl rfl rfl rfl rfl rfl (cur_leaf _ _) (l1Num_F code _ _) (fun _ => nodup_of rfl) (fun _ => rfl) (fun _ => rfl)) ?_
 rintro _ ⟨d2_1, hd2_1, rfl⟩
 try dsimp only at hd2_1
 subst hd2_1
 refine nm ?_
 refine cv Tryd.call45 rfl rfl (SpecVar_con _) ?_
 refine nm ?_
 refine qm ?_
 refine spK (StpK.callD rfl (by decide) Tryd.call43 rfl rfl rfl rfl rfl rfl rfl (cur_leaf _ _) (l1Text_F code _ _ _ (by omega)) (fun _ => nodup_of rfl) (fun _ => rfl) (fun _ => rfl)) ?_
 rintro _ ⟨d2_4, hd2_4, rfl⟩
 try dsimp only at hd2_4
 subst hd2_4
 refine nm ?_
 refine qq (Qt.binOp rfl rfl (pbCat (by first | omega | (simp only [ByteArray.size_append]; omega)))) ?_
 refine qn ?_
 refine sr2 ?_
 refine mn ?_
 refine spK (StpK.callD rfl (by decide) Tryd.call46 rfl rfl rfl rfl rfl rfl rfl (cur_leaf _ _) (l1Once_F code _ _ _) (fun _ => nodup_of rfl) (fun _ => rfl) (fun _ => rfl)) ?_
 rintro _ ⟨d3_1, hd3_1, rfl⟩
 try dsimp only at hd3_1
 subst hd3_1
 refine nc (fun c1 => ?_) fun c1 => ?_
 ·try simp only [cnd] at c1
  refine sr ?_
  refine mn ?_
  refine qm ?_
  refine spK (StpK.callD rfl (by decide) Tryd.call47 rfl rfl rfl rfl rfl rfl rfl (cur_leaf _ _) (l1Spoil_F code _ _ _ (by simp only [ByteArray.size_append]; omega)) (fun _ => nodup_of rfl) (fun _ => rfl) (fun _ => rfl)) ?_
  rintro _ ⟨d4_2, hd4_2, rfl⟩
  try dsimp only at hd4_2
  subst hd4_2
  refine nm ?_
  refine qr 2 ?_
  have hF : drawReadVar code = (spoilF code (belowF code (textF code (numF code 0 (hashF code)).1 (numF code 0 (hashF code)).2.1 4).1 (textF code (numF code 0 (hashF code)).1 (numF code 0 (hashF code)).2.1 4).2.1 4).1 (belowF code (textF code (numF code 0 (hashF code)).1 (numF code 0 (hashF code)).2.1 4).1 (textF code (numF code 0 (hashF code)).1 (numF code 0 (hashF code)).2.1 4).2.1 4).2.1 (⟨(Go.Proofs.YtlploojfcmcckaaDoor.varI (numF code 0 (hashF code)).2.2).toArray⟩ ++ (textF code (numF code 0 (hashF code)).1 (numF code 0 (hashF code)).2.1 4).2.2)).2.2 := by
   unfold drawReadVar
   dsimp only
   rw [if_pos (by grind only)]
  exact ⟨(spoilF code (belowF code (textF code (numF code 0 (hashF code)).1 (numF code 0 (hashF code)).2.1 4).1 (textF code (numF code 0 (hashF code)).1 (numF code 0 (hashF code)).2.1 4).2.1 4).1 (belowF code (textF code (numF code 0 (hashF code)).1 (numF code 0 (hashF code)).2.1 4).1 (textF code (numF code 0 (hashF code)).1 (numF code 0 (hashF code)).2.1 4).2.1 4).2.1 (⟨(Go.Proofs.YtlploojfcmcckaaDoor.varI (numF code 0 (hashF code)).2.2).toArray⟩ ++ (textF code (numF code 0 (hashF code)).1 (numF code 0 (hashF code)).2.1 4).2.2)).2.2, hF.symm, fun n => n, rfl, List.nodup_nil, (by simp), fun h => by cases h⟩
 try simp only [cnd] at c1
 refine jd (sr ?_)
 refine qm ?_
 refine qr 2 ?_
 have hF : drawReadVar code = (⟨(Go.Proofs.YtlploojfcmcckaaDoor.varI (numF code 0 (hashF code)).2.2).toArray⟩ ++ (textF code (numF code 0 (hashF code)).1 (numF code 0 (hashF code)).2.1 4).2.2) := by
  unfold drawReadVar
  dsimp only
  rw [if_neg (by grind only)]
 exact ⟨(⟨(Go.Proofs.YtlploojfcmcckaaDoor.varI (numF code 0 (hashF code)).2.2).toArray⟩ ++ (textF code (numF code 0 (hashF code)).1 (numF code 0 (hashF code)).2.1 4).2.2), hF.symm, fun n => n, rfl, List.nodup_nil, (by simp), fun h => by cases h⟩
end Go.Proofs.YtlploojfcmcckaaDoor.VM
