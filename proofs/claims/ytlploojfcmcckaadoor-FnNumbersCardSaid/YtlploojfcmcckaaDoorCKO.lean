/- Contracts of functions of the program. No conditions beyond those that each states. -/
import Derived.Test.YtlploojfcmcckaaDoorVmD
import Derived.Test.YtlploojfcmcckaaDoorReadVar
import Derived.Test.YtlploojfcmcckaaDoorUnhex
import Derived.Test.YtlploojfcmcckaaDoorCKN
set_option linter.all false
set_option maxHeartbeats 8000000
set_option maxRecDepth 10000
namespace Go.Proofs.YtlploojfcmcckaaDoor.VM
open Go Go.RowKit Go.Proofs Go.Proofs.YtlploojfcmcckaaDoor
theorem SpecVar_con (n : Int) : Con Tryd.prog 45 [.v (iv n)] [] (fun y _ => y = .v (.string ⟨(Go.Proofs.YtlploojfcmcckaaDoor.varI n).toArray⟩)) := con_below (xs := [iv n]) fun w => specVar_any n w
theorem str1_size (b : UInt8) : (⟨[b].toArray⟩ : ByteArray).size = 1 := rfl
@[irreducible] def spoilF (code : List UInt8) (i : Nat) (h : Int) (s : ByteArray) : Nat × Int × ByteArray :=
 if (s.size : Int) = 0 then textF code i h 3
 else
  let a := belowF code i h s.size
  let b := belowF code a.1 a.2.1 4
  if b.2.2 = 0 then (b.1, b.2.1, s.extract 0 a.2.2.toNat ++ s.extract (a.2.2 + 1).toNat s.size)
  else if b.2.2 = 1 then
   let c := byteF code b.1 b.2.1
   (c.1, c.2.1, (s.extract 0 a.2.2.toNat ++ ⟨[bvI c.2.2].toArray⟩) ++ s.extract a.2.2.toNat s.size)
  else if b.2.2 = 2 then (b.1, b.2.1, s.extract 0 a.2.2.toNat)
  else
   let c := belowF code b.1 b.2.1 255
   (c.1, c.2.1, (s.extract 0 a.2.2.toNat ++ ⟨[bvI (xorI (IntKind.i64.wrap ((chr s a.2.2.toNat).toNat : Int)) (1 + c.2.2))].toArray⟩) ++ s.extract (a.2.2 + 1).toNat s.size)
theorem l1Spoil_F (code : List UInt8) (i : Nat) (h : Int) (s : ByteArray) (hs : s.size ≤ 1000) : Con Tryd.prog 47 [.p base [] 3 0 0, .v (.string s)] [.rt base .box (.s 3 1 (curF (i : Nat) h)), .al base 0 (.h (base + 1) []), .rt (base + 1) .ro (tr code)] (RetD 3 (fun m : Nat × Int × ByteArray => m = spoilF code i h s) (fun m => .v (.string m.2.2)) (fun _ => []) (fun m => curF m.1 m.2.1)) := by
 refine ob Tryd.func47 Tryd.ntmps47 ?_
 have hab := belowF_bd code i h s.size
 have hcb := belowF_bd code (belowF code (belowF code i h s.size).1 (belowF code i h s.size).2.1 4).1 (belowF code (belowF code i h s.size).1 (belowF code i h s.size).2.1 4).2.1 255
 refine sr ?_
 refine qn ?_
 refine sr2 ?_
 refine qm ?_
 refine qq (Qt.lenS rfl Tryd.underlying9) ?_
 refine nm ?_
 refine qb ?_
 refine nc (fun c1 => ?_) fun c1 => ?_
 ·try simp only [cnd] at c1
  refine sr ?_
  refine qm ?_
  refine spK (StpK.callD rfl (by decide) Tryd.call43 rfl rfl rfl rfl rfl rfl rfl (cur_leaf _ _) (l1Text_F code _ _ _ (by omega)) (fun _ => nodup_of rfl) (fun _ => rfl) (fun _ => rfl)) ?_
  rintro _ ⟨d2_1, hd2_1, rfl⟩
  try dsimp only at hd2_1
  subst hd2_1
  refine nm ?_
  refine qr 4 ?_
  have hF : spoilF code i h s = textF code i h 3 := by
   unfold spoilF
   dsimp only
   rw [if_pos (by omega)]
  exact ⟨textF code i h 3, hF.symm, ⟨fun n => n, rfl, fun _ _ => rfl, List.nodup_nil, (by simp), (by simp)⟩, rootL_mem rfl, alM rfl⟩
 try simp only [cnd] at c1
 have hal := hab.2 (by omega)
 have hcl := hcb.2 (by omega)
 refine jd (sr ?_)
 refine qm ?_
 refine mn ?_
 refine qq (Qt.lenS rfl Tryd.underlying9) ?_
 refine spK (StpK.callD rfl (by decide) Tryd.call59 rfl rfl rfl rfl rfl rfl rfl (cur_leaf _ _) (l1Below_F code _ _ _) (fun _ => nodup_of rfl) (fun _ => rfl) (fun _ => rfl)) ?_
 rintro _ ⟨d3_3, hd3_3, rfl⟩
 try dsimp only at hd3_3
 subst hd3_3
 refine nm ?_
 refine qn ?_
 refine sr2 ?_
 refine qm ?_
 refine spK (StpK.callD rfl (by decide) Tryd.call59 rfl rfl rfl rfl rfl rfl rfl (cur_leaf _ _) (l1Below_F code _ _ _) (fun _ => nodup_of rfl) (fun _ => rfl) (fun _ => rfl)) ?_
 rintro _ ⟨d4_1, hd4_1, rfl⟩
 try dsimp only at hd4_1
 subst hd4_1
 refine nl ?_
 refine AW.block (sr ?_)
 refine qb ?_
 refine nm ?_
 refine qn ?_
 refine cd (fun c2 => ?_) fun c2 => ?_
 ·try simp only [cnd] at c2
  refine AW.seq ?_
  refine AW.draw [0, 1, 2, 3, 4, 5, 6, 7, 8] rfl (by decide +kernel) ?_
  refine tk 0 rfl Qt.move ?_
  refine tk 1 rfl Qt.move ?_
  refine na ?_
  refine tk 2 rfl (Qt.sliceS rfl Tryd.underlying9 slB_no (slB_sn rfl (by omega)) (by first | omega | (simp only [Int.toNat_natCast]; omega)) (by first | omega | (simp only [Int.toNat_natCast]; omega))) ?_
  refine tk 3 rfl Qt.move ?_
  refine tk 4 rfl Qt.move ?_
  refine na ?_
  refine tk 5 rfl (Qt.binOp rfl rfl (by first | exact pbAdd (by omega) | rfl)) ?_
  refine tk 6 rfl (Qt.sliceS rfl Tryd.underlying9 (slB_sn rfl (by omega)) slB_no (by first | omega | (simp only [Int.toNat_natCast]; omega)) (by first | omega | (simp only [Int.toNat_natCast]; omega))) ?_
  refine tk 7 rfl (Qt.binOp rfl rfl (pbCat (by first | omega | (simp only [ByteArray.size_append, ByteArray.size_extract, str1_size]; omega)))) ?_
  refine na ?_
  refine tk 8 rfl Qt.assign ?_
  refine nz ?_
  refine rt1 4 ?_
  have hF : spoilF code i h s = ((belowF code (belowF code i h s.size).1 (belowF code i h s.size).2.1 4).1, (belowF code (belowF code i h s.size).1 (belowF code i h s.size).2.1 4).2.1, s.extract 0 (belowF code i h s.size).2.2.toNat ++ s.extract ((belowF code i h s.size).2.2 + 1).toNat s.size) := by
   unfold spoilF
   dsimp only
   rw [if_neg (by omega), if_pos (by omega)]
  exact ⟨((belowF code (belowF code i h s.size).1 (belowF code i h s.size).2.1 4).1, (belowF code (belowF code i h s.size).1 (belowF code i h s.size).2.1 4).2.1, s.extract 0 (belowF code i h s.size).2.2.toNat ++ s.extract ((belowF code i h s.size).2.2 + 1).toNat s.size), hF.symm, ⟨fun n => n, rfl, fun _ _ => rfl, List.nodup_nil, (by simp), (by simp)⟩, rootL_mem rfl, alM rfl⟩
 try simp only [cnd] at c2
 refine sr ?_
 refine qb ?_
 refine qn ?_
 refine cd (fun c3 => ?_) fun c3 => ?_
 ·try simp only [cnd] at c3
  refine AW.seq ?_
  refine AW.draw [0, 1, 2, 3, 5, 7, 8, 9, 10, 11, 12, 13] rfl (by decide +kernel) ?_
  refine tk 0 rfl Qt.move ?_
  refine na ?_
  refine tk 1 rfl Qt.move ?_
  refine tk 2 rfl (Qt.sliceS rfl Tryd.underlying9 slB_no (slB_sn rfl (by omega)) (by first | omega | (simp only [Int.toNat_natCast]; omega)) (by first | omega | (simp only [Int.toNat_natCast]; omega))) ?_
  refine tk 3 rfl Qt.move ?_
  refine na ?_
  refine tk 9 rfl Qt.move ?_
  refine tk 10 rfl Qt.move ?_
  refine tk 11 rfl (Qt.sliceS rfl Tryd.underlying9 (slB_sn rfl (by omega)) slB_no (by first | omega | (simp only [Int.toNat_natCast]; omega)) (by first | omega | (simp only [Int.toNat_natCast]; omega))) ?_
  refine na ?_
  refine a1K 4 [0, 1, 2, 9, 10, 11] [3] rfl rfl (StpK.callD rfl (by decide) Tryd.call61 rfl rfl rfl rfl rfl rfl rfl (cur_leaf _ _) (l1Byte_F code _ _) (fun _ => nodup_of rfl) (fun _ => rfl) (fun _ => rfl)) ?_
  rintro _ ⟨d8_4, hd8_4, rfl⟩
  try dsimp only at hd8_4
  subst hd8_4
  refine na ?_
  refine ae rfl Qt.move ?_
  refine ae rfl Qt.move ?_
  refine ae rfl (Qt.sliceS rfl Tryd.underlying9 slB_no (slB_sn rfl (by omega)) (by first | omega | (simp only [Int.toNat_natCast]; omega)) (by first | omega | (simp only [Int.toNat_natCast]; omega))) ?_
  refine ae rfl Qt.move ?_
  refine ae rfl Qt.move ?_
  refine ae rfl (Qt.sliceS rfl Tryd.underlying9 (slB_sn rfl (by omega)) slB_no (by first | omega | (simp only [Int.toNat_natCast]; omega)) (by first | omega | (simp only [Int.toNat_natCast]; omega))) ?_
  refine na ?_
  refine tk 5 rfl (Qt.convI rfl rfl Tryd.underlying5) ?_
  refine a1 6 [0, 1, 2, 9, 10, 11] [5, 4, 3] rfl rfl sS ?_
  refine na ?_
  refine ae rfl Qt.move ?_
  refine ae rfl Qt.move ?_
  refine ae rfl (Qt.sliceS rfl Tryd.underlying9 slB_no (slB_sn rfl (by omega)) (by first | omega | (simp only [Int.toNat_natCast]; omega)) (by first | omega | (simp only [Int.toNat_natCast]; omega))) ?_
  refine ae rfl Qt.move ?_
  refine ae rfl Qt.move ?_
  refine ae rfl (Qt.sliceS rfl Tryd.underlying9 (slB_sn rfl (by omega)) slB_no (by first | omega | (simp only [Int.toNat_natCast]; omega)) (by first | omega | (simp only [Int.toNat_natCast]; omega))) ?_
  refine na ?_
  refine na ?_
  refine AWA.rep 35 (tr ([(bvI (byteF code (belowF code (belowF code i h s.size).1 (belowF code i h s.size).2.1 4).1 (belowF code (belowF code i h s.size).1 (belowF code i h s.size).2.1 4).2.1).2.2)] : List UInt8)) rfl (sim_row1 rfl rfl rfl (fun k hk => match k, hk with | 0, _ => congrArg T.v (bvI_val _) | k + 1, hk => absurd hk (by omega))) ?_
  refine na ?_
  refine tk 7 rfl (Qt.convBS rfl rfl rfl Tryd.underlying34 Tryd.underlying5 Tryd.underlying9) ?_
  refine tk 8 rfl (Qt.binOp rfl rfl (pbCat (by first | omega | (simp only [ByteArray.size_append, ByteArray.size_extract, str1_size]; omega)))) ?_
  refine tk 12 rfl (Qt.binOp rfl rfl (pbCat (by first | omega | (simp only [ByteArray.size_append, ByteArray.size_extract, str1_size]; omega)))) ?_
  refine na ?_
  refine tk 13 rfl Qt.assign ?_
  refine nz ?_
  refine rt1 4 ?_
  have hF : spoilF code i h s = ((byteF code (belowF code (belowF code i h s.size).1 (belowF code i h s.size).2.1 4).1 (belowF code (belowF code i h s.size).1 (belowF code i h s.size).2.1 4).2.1).1, (byteF code (belowF code (belowF code i h s.size).1 (belowF code i h s.size).2.1 4).1 (belowF code (belowF code i h s.size).1 (belowF code i h s.size).2.1 4).2.1).2.1, (s.extract 0 (belowF code i h s.size).2.2.toNat ++ ⟨[(bvI (byteF code (belowF code (belowF code i h s.size).1 (belowF code i h s.size).2.1 4).1 (belowF code (belowF code i h s.size).1 (belowF code i h s.size).2.1 4).2.1).2.2)].toArray⟩) ++ s.extract (belowF code i h s.size).2.2.toNat s.size) := by
   unfold spoilF
   dsimp only
   rw [if_neg (by omega), if_neg (by omega), if_pos (by omega)]
  exact ⟨((byteF code (belowF code (belowF code i h s.size).1 (belowF code i h s.size).2.1 4).1 (belowF code (belowF code i h s.size).1 (belowF code i h s.size).2.1 4).2.1).1, (byteF code (belowF code (belowF code i h s.size).1 (belowF code i h s.size).2.1 4).1 (belowF code (belowF code i h s.size).1 (belowF code i h s.size).2.1 4).2.1).2.1, (s.extract 0 (belowF code i h s.size).2.2.toNat ++ ⟨[(bvI (byteF code (belowF code (belowF code i h s.size).1 (belowF code i h s.size).2.1 4).1 (belowF code (belowF code i h s.size).1 (belowF code i h s.size).2.1 4).2.1).2.2)].toArray⟩) ++ s.extract (belowF code i h s.size).2.2.toNat s.size), hF.symm, ⟨fun n => n, rfl, fun _ _ => rfl, List.nodup_nil, (by simp), (by simp)⟩, rootL_mem rfl, alM rfl⟩
 try simp only [cnd] at c3
 refine sr ?_
 refine qb ?_
 refine qn ?_
 refine cd (fun c4 => ?_) fun c4 => ?_
 ·try simp only [cnd] at c4
  refine sr ?_
  refine mn ?_
  refine qm ?_
  refine qq (Qt.sliceS rfl Tryd.underlying9 slB_no (slB_sn rfl (by omega)) (by first | omega | (simp only [Int.toNat_natCast]; omega)) (by first | omega | (simp only [Int.toNat_natCast]; omega))) ?_
  refine qr 4 ?_
  have hF : spoilF code i h s = ((belowF code (belowF code i h s.size).1 (belowF code i h s.size).2.1 4).1, (belowF code (belowF code i h s.size).1 (belowF code i h s.size).2.1 4).2.1, s.extract 0 (belowF code i h s.size).2.2.toNat) := by
   unfold spoilF
   dsimp only
   rw [if_neg (by omega), if_neg (by omega), if_neg (by omega), if_pos (by omega)]
  exact ⟨((belowF code (belowF code i h s.size).1 (belowF code i h s.size).2.1 4).1, (belowF code (belowF code i h s.size).1 (belowF code i h s.size).2.1 4).2.1, s.extract 0 (belowF code i h s.size).2.2.toNat), hF.symm, ⟨fun n => n, rfl, fun _ _ => rfl, List.nodup_nil, (by simp), (by simp)⟩, rootL_mem rfl, alM rfl⟩
 try simp only [cnd] at c4
 refine jd (AW.seq ?_)
 refine AW.draw [0, 1, 2, 3, 4, 5, 6, 7, 9, 10, 11, 13, 14, 15, 16, 17, 18, 19, 20] rfl (by decide +kernel) ?_
 refine tk 0 rfl Qt.move ?_
 refine na ?_
 refine tk 1 rfl Qt.move ?_
 refine tk 2 rfl (Qt.sliceS rfl Tryd.underlying9 slB_no (slB_sn rfl (by omega)) (by first | omega | (simp only [Int.toNat_natCast]; omega)) (by first | omega | (simp only [Int.toNat_natCast]; omega))) ?_
 refine tk 3 rfl Qt.move ?_
 refine na ?_
 refine tk 4 rfl Qt.move ?_
 refine tk 5 rfl (Qt.indexS rfl rfl Tryd.underlying9 (by omega) (by omega)) ?_
 refine tk 6 rfl (Qt.convI rfl rfl Tryd.underlying3) ?_
 refine na ?_
 refine tk 7 rfl Qt.move ?_
 refine tk 15 rfl Qt.move ?_
 refine tk 16 rfl Qt.move ?_
 refine na ?_
 refine tk 17 rfl (Qt.binOp rfl rfl (by first | exact pbAdd (by omega) | rfl)) ?_
 refine tk 18 rfl (Qt.sliceS rfl Tryd.underlying9 (slB_sn rfl (by omega)) slB_no (by first | omega | (simp only [Int.toNat_natCast]; omega)) (by first | omega | (simp only [Int.toNat_natCast]; omega))) ?_
 refine a1K 8 [0, 1, 2, 3, 4, 5, 6, 15, 16, 17, 18] [7] rfl rfl (StpK.callD rfl (by decide) Tryd.call59 rfl rfl rfl rfl rfl rfl rfl (cur_leaf _ _) (l1Below_F code _ _ _) (fun _ => nodup_of rfl) (fun _ => rfl) (fun _ => rfl)) ?_
 rintro _ ⟨d11_8, hd11_8, rfl⟩
 try dsimp only at hd11_8
 subst hd11_8
 refine na ?_
 refine ae rfl Qt.move ?_
 refine ae rfl Qt.move ?_
 refine ae rfl (Qt.sliceS rfl Tryd.underlying9 slB_no (slB_sn rfl (by omega)) (by first | omega | (simp only [Int.toNat_natCast]; omega)) (by first | omega | (simp only [Int.toNat_natCast]; omega))) ?_
 refine ae rfl Qt.move ?_
 refine ae rfl Qt.move ?_
 refine ae rfl (Qt.indexS rfl rfl Tryd.underlying9 (by omega) (by omega)) ?_
 refine ae rfl (Qt.convI rfl rfl Tryd.underlying3) ?_
 refine ae rfl Qt.move ?_
 refine ae rfl Qt.move ?_
 refine ae rfl (Qt.binOp rfl rfl (by first | exact pbAdd (by omega) | rfl)) ?_
 refine ae rfl (Qt.sliceS rfl Tryd.underlying9 (slB_sn rfl (by omega)) slB_no (by first | omega | (simp only [Int.toNat_natCast]; omega)) (by first | omega | (simp only [Int.toNat_natCast]; omega))) ?_
 refine na ?_
 refine tk 9 rfl (Qt.binOp rfl rfl (by first | exact pbAdd (by omega) | rfl)) ?_
 refine tk 10 rfl (Qt.binOp rfl rfl (pbXorI _ _)) ?_
 refine tk 11 rfl (Qt.convI rfl rfl Tryd.underlying5) ?_
 refine na ?_
 refine a1 12 [0, 1, 2, 15, 16, 17, 18] [11, 10, 9, 6, 8, 5, 7, 4, 3] rfl rfl sS ?_
 refine na ?_
 refine ae rfl Qt.move ?_
 refine ae rfl Qt.move ?_
 refine ae rfl (Qt.sliceS rfl Tryd.underlying9 slB_no (slB_sn rfl (by omega)) (by first | omega | (simp only [Int.toNat_natCast]; omega)) (by first | omega | (simp only [Int.toNat_natCast]; omega))) ?_
 refine ae rfl Qt.move ?_
 refine ae rfl Qt.move ?_
 refine ae rfl (Qt.binOp rfl rfl (by first | exact pbAdd (by omega) | rfl)) ?_
 refine ae rfl (Qt.sliceS rfl Tryd.underlying9 (slB_sn rfl (by omega)) slB_no (by first | omega | (simp only [Int.toNat_natCast]; omega)) (by first | omega | (simp only [Int.toNat_natCast]; omega))) ?_
 refine na ?_
 refine na ?_
 refine AWA.rep 59 (tr ([(bvI (xorI (IntKind.i64.wrap ((chr s (belowF code i h s.size).2.2.toNat).toNat : Int)) (1 + (belowF code (belowF code (belowF code i h s.size).1 (belowF code i h s.size).2.1 4).1 (belowF code (belowF code i h s.size).1 (belowF code i h s.size).2.1 4).2.1 255).2.2)))] : List UInt8)) rfl (sim_row1 rfl rfl rfl (fun k hk => match k, hk with | 0, _ => congrArg T.v (bvI_val _) | k + 1, hk => absurd hk (by omega))) ?_
 refine na ?_
 refine tk 13 rfl (Qt.convBS rfl rfl rfl Tryd.underlying34 Tryd.underlying5 Tryd.underlying9) ?_
 refine tk 14 rfl (Qt.binOp rfl rfl (pbCat (by first | omega | (simp only [ByteArray.size_append, ByteArray.size_extract, str1_size]; omega)))) ?_
 refine tk 19 rfl (Qt.binOp rfl rfl (pbCat (by first | omega | (simp only [ByteArray.size_append, ByteArray.size_extract, str1_size]; omega)))) ?_
 refine na ?_
 refine tk 20 rfl Qt.assign ?_
 refine nz ?_
 refine rt1 4 ?_
 have hF : spoilF code i h s = ((belowF code (belowF code (belowF code i h s.size).1 (belowF code i h s.size).2.1 4).1 (belowF code (belowF code i h s.size).1 (belowF code i h s.size).2.1 4).2.1 255).1, (belowF code (belowF code (belowF code i h s.size).1 (belowF code i h s.size).2.1 4).1 (belowF code (belowF code i h s.size).1 (belowF code i h s.size).2.1 4).2.1 255).2.1, (s.extract 0 (belowF code i h s.size).2.2.toNat ++ ⟨[(bvI (xorI (IntKind.i64.wrap ((chr s (belowF code i h s.size).2.2.toNat).toNat : Int)) (1 + (belowF code (belowF code (belowF code i h s.size).1 (belowF code i h s.size).2.1 4).1 (belowF code (belowF code i h s.size).1 (belowF code i h s.size).2.1 4).2.1 255).2.2)))].toArray⟩) ++ s.extract ((belowF code i h s.size).2.2 + 1).toNat s.size) := by
  unfold spoilF
  dsimp only
  rw [if_neg (by omega), if_neg (by omega), if_neg (by omega), if_neg (by omega)]
 exact ⟨((belowF code (belowF code (belowF code i h s.size).1 (belowF code i h s.size).2.1 4).1 (belowF code (belowF code i h s.size).1 (belowF code i h s.size).2.1 4).2.1 255).1, (belowF code (belowF code (belowF code i h s.size).1 (belowF code i h s.size).2.1 4).1 (belowF code (belowF code i h s.size).1 (belowF code i h s.size).2.1 4).2.1 255).2.1, (s.extract 0 (belowF code i h s.size).2.2.toNat ++ ⟨[(bvI (xorI (IntKind.i64.wrap ((chr s (belowF code i h s.size).2.2.toNat).toNat : Int)) (1 + (belowF code (belowF code (belowF code i h s.size).1 (belowF code i h s.size).2.1 4).1 (belowF code (belowF code i h s.size).1 (belowF code i h s.size).2.1 4).2.1 255).2.2)))].toArray⟩) ++ s.extract ((belowF code i h s.size).2.2 + 1).toNat s.size), hF.symm, ⟨fun n => n, rfl, fun _ _ => rfl, List.nodup_nil, (by simp), (by simp)⟩, rootL_mem rfl, alM rfl⟩
end Go.Proofs.YtlploojfcmcckaaDoor.VM
