/- Contracts of functions of the program. No conditions beyond those that each states. -/
import Derived.Test.YtlploojfcmcckaaDoorCK0
import Derived.Test.YtlploojfcmcckaaDoorVmD
set_option linter.all false
set_option maxHeartbeats 8000000
set_option maxRecDepth 10000
namespace Go.Proofs.YtlploojfcmcckaaDoor.VM
open Go Go.RowKit Go.Proofs
def shr33 (a : Int) : Int := a.fdiv (2 ^ (min (33 : Int).toNat 64))
theorem pbShr33 (a : Int) : pureBin .shr (iv a) (.int .u64 33) = some (iv (shr33 a)) := rfl
def shr45 (a : Int) : Int := a.fdiv (2 ^ (min (45 : Int).toNat 64))
theorem pbShr45 (a : Int) : pureBin .shr (iv a) (.int .u64 45) = some (iv (shr45 a)) := rfl
def xorI (a b : Int) : Int := IntKind.i64.wrap ((BitVec.ofInt 64 a ^^^ BitVec.ofInt 64 b).toNat : Int)
theorem pbXorI (a b : Int) : pureBin .xor (iv a) (iv b) = some (iv (xorI a b)) := rfl
theorem pbWrapMul (a b : Int) : pureBin .mul (iv a) (iv b) = some (iv (IntKind.i64.wrap (a * b))) := rfl
theorem pbWrapAdd (a b : Int) : pureBin .add (iv a) (iv b) = some (iv (IntKind.i64.wrap (a + b))) := rfl
theorem tmod_bd {a n : Int} (h : 0 ≤ a) (hn : 0 < n) : 0 ≤ a.tmod n ∧ a.tmod n < n := by
 rw [Int.tmod_eq_emod_of_nonneg h]
 exact ⟨Int.emod_nonneg _ (by omega), Int.emod_lt_of_pos _ hn⟩
theorem pbRemI {a b : Int} (h : b ≠ 0) : pureBin .rem (iv a) (iv b) = some (iv (a.tmod b)) := by
 show (if b = 0 then none else some (Value.int .i64 (a.tmod b))) = _
 rw [if_neg h]
def bits8 (h : Int) : Int := and255 (xorI (shr33 (nxH h)) (shr45 (nxH h)))
@[irreducible] def byteF (code : List UInt8) (i : Nat) (h : Int) : Nat × Int × Int := if i < code.length then (i + 1, nxH h, and255 (IntKind.i64.wrap (bits8 h + IntKind.i64.wrap ((code.getD i En.dflt).toNat : Int)))) else (i, nxH h, bits8 h)
theorem byteF_bd (code : List UInt8) (i : Nat) (h : Int) : 0 ≤ (byteF code i h).2.2 ∧ (byteF code i h).2.2 ≤ 255 := by
 unfold byteF
 split
 ·exact and255_le _
 ·exact and255_le _
@[irreducible] def belowF (code : List UInt8) (i : Nat) (h n : Int) : Nat × Int × Int :=
 if n ≤ 0 then (i, h, 0)
 else if n ≤ 256 then ((byteF code i h).1, (byteF code i h).2.1, (byteF code i h).2.2.tmod n)
 else
  let a := byteF code i h
  let b := byteF code a.1 a.2.1
  let c := byteF code b.1 b.2.1
  let d := byteF code c.1 c.2.1
  (d.1, d.2.1, (a.2.2 * 16777216 + b.2.2 * 65536 + c.2.2 * 256 + d.2.2).tmod n)
theorem belowF_bd (code : List UInt8) (i : Nat) (h n : Int) : 0 ≤ (belowF code i h n).2.2 ∧ (0 < n → (belowF code i h n).2.2 < n) := by
 unfold belowF
 split
 ·exact ⟨Int.le_refl _, fun hn => by omega⟩
 ·split
  ·have := byteF_bd code i h
   exact ⟨(tmod_bd this.1 (by omega)).1, fun hn => (tmod_bd this.1 hn).2⟩
  ·dsimp only
   generalize ha : byteF code i h = a
   generalize hb : byteF code a.1 a.2.1 = b
   generalize hc : byteF code b.1 b.2.1 = c
   have h1 := byteF_bd code i h
   have h2 := byteF_bd code a.1 a.2.1
   have h3 := byteF_bd code b.1 b.2.1
   have h4 := byteF_bd code c.1 c.2.1
   rw [ha] at h1; rw [hb] at h2; rw [hc] at h3
   have hs : 0 ≤ a.2.2 * 16777216 + b.2.2 * 65536 + c.2.2 * 256 + (byteF code c.1 c.2.1).2.2 := by omega
   exact ⟨(tmod_bd hs (by omega)).1, fun hn => (tmod_bd hs hn).2⟩
/-- the cursor's number, from the bytes -/
def hashK (code : List UInt8) : Nat → Int
 | 0 => 10101 + code.length
 | k + 1 => IntKind.i64.wrap ((BitVec.ofInt 64 (IntKind.i64.wrap (IntKind.i64.wrap (IntKind.i64.wrap (hashK code k * 131) + IntKind.i64.wrap ((code.getD k En.dflt).toNat : Int)) + 7)) &&& BitVec.ofInt 64 1073741823).toNat : Int)
def hashF (code : List UInt8) : Int := hashK code (min code.length 4000)
theorem l1Byte_F (code : List UInt8) (i : Nat) (h : Int) : Con Tryd.prog 61 [.p base [] 3 0 0] [.rt base .box (.s 3 1 (curF (i : Nat) h)), .al base 0 (.h (base + 1) []), .rt (base + 1) .ro (tr code)] (RetD 3 (fun m : Nat × Int × Int => m = byteF code i h) (fun m => .v (iv m.2.2)) (fun _ => []) (fun m => curF m.1 m.2.1)) := by
 refine ob Tryd.func61 Tryd.ntmps61 ?_
 refine AW.len (base + 1) [] rfl (by simp [Okp]) rfl (fun hl => ?_)
 refine sr ?_
 refine qs' ?_
 refine qm ?_
 refine mn ?_
 refine qq (Qt.nilCheck rfl) ?_
 refine qq (fA fl79_2) ?_
 refine ql ag3 ?_
 refine nm ?_
 refine qq (Qt.binOp rfl rfl (pbWrapMul _ _)) ?_
 refine qq (Qt.binOp rfl rfl (pbWrapAdd _ _)) ?_
 refine qq (Qt.nilCheck rfl) ?_
 refine nm ?_
 refine qq (fA fl79_2) ?_
 refine ss ?_
 refine AWL.rep base (.s 3 1 (curF (i : Nat) (nxH h))) rfl (cur_sim rfl rfl rfl) ?_
 refine nl ?_
 refine AW.seq ?_
 refine AW.draw [0, 1, 2, 3, 4, 5, 6, 7, 8, 9, 10, 11, 12] rfl (by decide +kernel) ?_
 refine tk 0 rfl Qt.move ?_
 refine na ?_
 refine tk 1 rfl (Qt.nilCheck rfl) ?_
 refine tk 2 rfl (fA fl79_2) ?_
 refine tk 3 rfl (Qt.load1 rfl rfl rfl ag3) ?_
 refine na ?_
 refine tk 4 rfl (Qt.binOp rfl rfl (pbShr33 _)) ?_
 refine tk 5 rfl Qt.move ?_
 refine tk 6 rfl (Qt.nilCheck rfl) ?_
 refine na ?_
 refine tk 7 rfl (fA fl79_2) ?_
 refine tk 8 rfl (Qt.load1 rfl rfl rfl ag3) ?_
 refine tk 9 rfl (Qt.binOp rfl rfl (pbShr45 _)) ?_
 refine na ?_
 refine tk 10 rfl (Qt.binOp rfl rfl (pbXorI _ _)) ?_
 refine tk 11 rfl (Qt.binOp rfl rfl (pbAnd255 _)) ?_
 refine tk 12 rfl Qt.assign ?_
 refine na ?_
 refine nz ?_
 refine AW.seq (AW.seq ?_)
 refine AW.draw [0, 1, 2, 3, 4, 5, 6, 7, 8, 9] rfl (by decide +kernel) ?_
 refine tk 0 rfl Qt.move ?_
 refine tk 1 rfl (Qt.nilCheck rfl) ?_
 refine tk 2 rfl (fA fl79_1) ?_
 refine na ?_
 refine tk 3 rfl (Qt.load1 rfl rfl rfl ag3) ?_
 refine tk 4 rfl Qt.move ?_
 refine tk 5 rfl (Qt.nilCheck rfl) ?_
 refine na ?_
 refine tk 6 rfl (fA fl79_0) ?_
 refine tk 7 rfl (Qt.load1 rfl rfl rfl ag34) ?_
 refine tk 8 rfl (Qt.lenH rfl rfl rfl sl34) ?_
 refine na ?_
 refine tk 9 rfl (Qt.binOp rfl rfl rfl) ?_
 refine nz ?_
 refine cd (fun c1 => ?_) fun c1 => ?_
 ·try simp only [cnd] at c1
  refine AW.seq ?_
  refine AW.draw [0, 1, 2, 3, 4, 5, 6, 7, 8, 9, 10, 11, 12, 13] rfl (by decide +kernel) ?_
  refine tk 0 rfl Qt.move ?_
  refine tk 1 rfl Qt.move ?_
  refine na ?_
  refine tk 2 rfl (Qt.nilCheck rfl) ?_
  refine tk 3 rfl (fA fl79_0) ?_
  refine tk 4 rfl (Qt.load1 rfl rfl rfl ag34) ?_
  refine na ?_
  refine tk 5 rfl Qt.move ?_
  refine tk 6 rfl (Qt.nilCheck rfl) ?_
  refine tk 7 rfl (fA fl79_1) ?_
  refine na ?_
  refine tk 8 rfl (Qt.load1 rfl rfl rfl ag3) ?_
  refine tk 9 rfl (ix sl34 sz5) ?_
  refine tk 10 rfl (Qt.load1 rfl rfl rfl ag5) ?_
  refine na ?_
  refine tk 11 rfl (Qt.convI rfl rfl Tryd.underlying3) ?_
  refine tk 12 rfl (Qt.binOp rfl rfl (by first | exact pbAdd (by omega) | rfl)) ?_
  refine tk 13 rfl (Qt.binOp rfl rfl (pbAnd255 _)) ?_
  refine na ?_
  refine a1 14 [] [13, 12, 11, 10, 9, 8, 7, 6, 5, 4, 3, 2, 1, 0] rfl rfl (Stp.q rfl (by decide) Qt.assign) ?_
  refine na ?_
  refine na ?_
  refine nz ?_
  refine AW.region ?_
  refine qm ?_
  refine qm ?_
  refine qq (Qt.nilCheck rfl) ?_
  refine nm ?_
  refine qq (fA fl79_1) ?_
  refine ql ag3 ?_
  refine ba ?_
  refine nm ?_
  refine qq (Qt.nilCheck rfl) ?_
  refine qq (fA fl79_1) ?_
  refine ss ?_
  refine AWL.rep base (.s 3 1 (curF (i + 1 : Nat) (nxH h))) rfl (cur_sim rfl rfl rfl) ?_
  refine ns ?_
  refine mn ?_
  refine qr 2 ?_
  have hF : byteF code i h = (i + 1, nxH h, and255 (IntKind.i64.wrap (bits8 h + IntKind.i64.wrap ((code.getD i En.dflt).toNat : Int)))) := by unfold byteF; exact if_pos (by omega)
  exact ⟨(i + 1, nxH h, and255 (IntKind.i64.wrap (bits8 h + IntKind.i64.wrap ((code.getD i En.dflt).toNat : Int)))), hF.symm, ⟨fun n => n, rfl, fun _ _ => rfl, List.nodup_nil, (by simp), (by simp)⟩, rootL_mem rfl, alM rfl⟩
 try simp only [cnd] at c1
 refine jd (sr ?_)
 refine qm ?_
 refine qr 2 ?_
 have hF : byteF code i h = (i, nxH h, bits8 h) := by unfold byteF; exact if_neg (by omega)
 exact ⟨(i, nxH h, bits8 h), hF.symm, ⟨fun n => n, rfl, fun _ _ => rfl, List.nodup_nil, (by simp), (by simp)⟩, rootL_mem rfl, alM rfl⟩
theorem l1Below_F (code : List UInt8) (i : Nat) (h n : Int) : Con Tryd.prog 59 [.p base [] 3 0 0, .v (iv n)] [.rt base .box (.s 3 1 (curF (i : Nat) h)), .al base 0 (.h (base + 1) []), .rt (base + 1) .ro (tr code)] (RetD 3 (fun m : Nat × Int × Int => m = belowF code i h n) (fun m => .v (iv m.2.2)) (fun _ => []) (fun m => curF m.1 m.2.1)) := by
 refine ob Tryd.func59 Tryd.ntmps59 ?_
 refine sr ?_
 refine qn ?_
 refine sr2 ?_
 refine qm ?_
 refine qb ?_
 refine nc (fun c1 => ?_) fun c1 => ?_
 ·try simp only [cnd] at c1
  refine sr ?_
  refine qr 4 ?_
  have hF : belowF code i h n = (i, h, 0) := by unfold belowF; exact if_pos (by omega)
  exact ⟨(i, h, 0), hF.symm, ⟨fun n => n, rfl, fun _ _ => rfl, List.nodup_nil, (by simp), (by simp)⟩, rootL_mem rfl, alM rfl⟩
 try simp only [cnd] at c1
 refine jd (sr2 ?_)
 refine mn ?_
 refine qb ?_
 refine nc (fun c2 => ?_) fun c2 => ?_
 ·try simp only [cnd] at c2
  refine sr ?_
  refine qm ?_
  refine spK (StpK.callD rfl (by decide) Tryd.call61 rfl rfl rfl rfl rfl rfl rfl (cur_leaf _ _) (l1Byte_F code _ _) (fun _ => nodup_of rfl) (fun _ => rfl) (fun _ => rfl)) ?_
  rintro _ ⟨d4_1, hd4_1, rfl⟩
  try dsimp only at hd4_1
  subst hd4_1
  refine nm ?_
  refine qm ?_
  refine qq (Qt.binOp rfl rfl (by first | exact pbRem4 _ | rfl | exact pbRemI (by omega))) ?_
  refine qr 4 ?_
  have hF : belowF code i h n = ((byteF code i h).1, (byteF code i h).2.1, (byteF code i h).2.2.tmod n) := by unfold belowF; exact (if_neg (by omega)).trans (if_pos (by omega))
  exact ⟨((byteF code i h).1, (byteF code i h).2.1, (byteF code i h).2.2.tmod n), hF.symm, ⟨fun n => n, rfl, fun _ _ => rfl, List.nodup_nil, (by simp), (by simp)⟩, rootL_mem rfl, alM rfl⟩
 try simp only [cnd] at c2
 have hbd0 := byteF_bd code i h
 have hbd1 := byteF_bd code (byteF code i h).1 (byteF code i h).2.1
 have hbd2 := byteF_bd code (byteF code (byteF code i h).1 (byteF code i h).2.1).1 (byteF code (byteF code i h).1 (byteF code i h).2.1).2.1
 have hbd3 := byteF_bd code (byteF code (byteF code (byteF code i h).1 (byteF code i h).2.1).1 (byteF code (byteF code i h).1 (byteF code i h).2.1).2.1).1 (byteF code (byteF code (byteF code i h).1 (byteF code i h).2.1).1 (byteF code (byteF code i h).1 (byteF code i h).2.1).2.1).2.1
 refine jd (sr ?_)
 refine mn ?_
 refine spK (StpK.callD rfl (by decide) Tryd.call61 rfl rfl rfl rfl rfl rfl rfl (cur_leaf _ _) (l1Byte_F code _ _) (fun _ => nodup_of rfl) (fun _ => rfl) (fun _ => rfl)) ?_
 rintro _ ⟨d5_1, hd5_1, rfl⟩
 try dsimp only at hd5_1
 subst hd5_1
 refine nm ?_
 refine qs' ?_
 refine qm ?_
 refine spK (StpK.callD rfl (by decide) Tryd.call61 rfl rfl rfl rfl rfl rfl rfl (cur_leaf _ _) (l1Byte_F code _ _) (fun _ => nodup_of rfl) (fun _ => rfl) (fun _ => rfl)) ?_
 rintro _ ⟨d6_1, hd6_1, rfl⟩
 try dsimp only at hd6_1
 subst hd6_1
 refine nm ?_
 refine qs' ?_
 refine qm ?_
 refine spK (StpK.callD rfl (by decide) Tryd.call61 rfl rfl rfl rfl rfl rfl rfl (cur_leaf _ _) (l1Byte_F code _ _) (fun _ => nodup_of rfl) (fun _ => rfl) (fun _ => rfl)) ?_
 rintro _ ⟨d7_1, hd7_1, rfl⟩
 try dsimp only at hd7_1
 subst hd7_1
 refine nm ?_
 refine qs' ?_
 refine qm ?_
 refine spK (StpK.callD rfl (by decide) Tryd.call61 rfl rfl rfl rfl rfl rfl rfl (cur_leaf _ _) (l1Byte_F code _ _) (fun _ => nodup_of rfl) (fun _ => rfl) (fun _ => rfl)) ?_
 rintro _ ⟨d8_1, hd8_1, rfl⟩
 try dsimp only at hd8_1
 subst hd8_1
 refine nm ?_
 refine qs' ?_
 refine qm ?_
 refine qq (Qt.binOp rfl rfl (by first | exact pbMul (by omega) | rfl)) ?_
 refine nm ?_
 refine qm ?_
 refine qq (Qt.binOp rfl rfl (by first | exact pbMul (by omega) | rfl)) ?_
 refine ba ?_
 refine nm ?_
 refine qm ?_
 refine qq (Qt.binOp rfl rfl (by first | exact pbMul (by omega) | rfl)) ?_
 refine ba ?_
 refine nm ?_
 refine qm ?_
 refine ba ?_
 refine mn ?_
 refine qq (Qt.binOp rfl rfl (by first | exact pbRem4 _ | rfl | exact pbRemI (by omega))) ?_
 refine qr 4 ?_
 have hF : belowF code i h n = ((byteF code (byteF code (byteF code (byteF code i h).1 (byteF code i h).2.1).1 (byteF code (byteF code i h).1 (byteF code i h).2.1).2.1).1 (byteF code (byteF code (byteF code i h).1 (byteF code i h).2.1).1 (byteF code (byteF code i h).1 (byteF code i h).2.1).2.1).2.1).1, (byteF code (byteF code (byteF code (byteF code i h).1 (byteF code i h).2.1).1 (byteF code (byteF code i h).1 (byteF code i h).2.1).2.1).1 (byteF code (byteF code (byteF code i h).1 (byteF code i h).2.1).1 (byteF code (byteF code i h).1 (byteF code i h).2.1).2.1).2.1).2.1, ((byteF code i h).2.2 * 16777216 + (byteF code (byteF code i h).1 (byteF code i h).2.1).2.2 * 65536 + (byteF code (byteF code (byteF code i h).1 (byteF code i h).2.1).1 (byteF code (byteF code i h).1 (byteF code i h).2.1).2.1).2.2 * 256 + (byteF code (byteF code (byteF code (byteF code i h).1 (byteF code i h).2.1).1 (byteF code (byteF code i h).1 (byteF code i h).2.1).2.1).1 (byteF code (byteF code (byteF code i h).1 (byteF code i h).2.1).1 (byteF code (byteF code i h).1 (byteF code i h).2.1).2.1).2.1).2.2).tmod n) := by unfold belowF; exact (if_neg (by omega)).trans (if_neg (by omega))
 exact ⟨((byteF code (byteF code (byteF code (byteF code i h).1 (byteF code i h).2.1).1 (byteF code (byteF code i h).1 (byteF code i h).2.1).2.1).1 (byteF code (byteF code (byteF code i h).1 (byteF code i h).2.1).1 (byteF code (byteF code i h).1 (byteF code i h).2.1).2.1).2.1).1, (byteF code (byteF code (byteF code (byteF code i h).1 (byteF code i h).2.1).1 (byteF code (byteF code i h).1 (byteF code i h).2.1).2.1).1 (byteF code (byteF code (byteF code i h).1 (byteF code i h).2.1).1 (byteF code (byteF code i h).1 (byteF code i h).2.1).2.1).2.1).2.1, ((byteF code i h).2.2 * 16777216 + (byteF code (byteF code i h).1 (byteF code i h).2.1).2.2 * 65536 + (byteF code (byteF code (byteF code i h).1 (byteF code i h).2.1).1 (byteF code (byteF code i h).1 (byteF code i h).2.1).2.1).2.2 * 256 + (byteF code (byteF code (byteF code (byteF code i h).1 (byteF code i h).2.1).1 (byteF code (byteF code i h).1 (byteF code i h).2.1).2.1).1 (byteF code (byteF code (byteF code i h).1 (byteF code i h).2.1).1 (byteF code (byteF code i h).1 (byteF code i h).2.1).2.1).2.1).2.2).tmod n), hF.symm, ⟨fun n => n, rfl, fun _ _ => rfl, List.nodup_nil, (by simp), (by simp)⟩, rootL_mem rfl, alM rfl⟩
theorem l1Once_F (code : List UInt8) (i : Nat) (h n : Int) : Con Tryd.prog 46 [.p base [] 3 0 0, .v (iv n)] [.rt base .box (.s 3 1 (curF (i : Nat) h)), .al base 0 (.h (base + 1) []), .rt (base + 1) .ro (tr code)] (RetD 3 (fun m : Nat × Int × Int => m = belowF code i h n) (fun m => .v (.bool (m.2.2 == 0))) (fun _ => []) (fun m => curF m.1 m.2.1)) := by
 refine ob Tryd.func46 Tryd.ntmps46 ?_
 refine sr ?_
 refine qs' ?_
 refine qm ?_
 refine mn ?_
 refine spK (StpK.callD rfl (by decide) Tryd.call59 rfl rfl rfl rfl rfl rfl rfl (cur_leaf _ _) (l1Below_F code _ _ _) (fun _ => nodup_of rfl) (fun _ => rfl) (fun _ => rfl)) ?_
 rintro _ ⟨d1_2, hd1_2, rfl⟩
 try dsimp only at hd1_2
 subst hd1_2
 refine nm ?_
 refine qb ?_
 refine qr 4 ?_
 exact ⟨belowF code i h n, rfl, ⟨fun n => n, rfl, fun _ _ => rfl, List.nodup_nil, (by simp), (by simp)⟩, rootL_mem rfl, alM rfl⟩
theorem l1New_F (code : List UInt8) (hw : code.length ≤ 1048576) : Con Tryd.prog 41 [.h base []] [.rt base .ro (tr code)] (RetC true (fun m : Int => m = hashF code) (fun _ => .p 0 [] 3 0 0) (fun m => [(0, .box, .s 3 1 (curF (0 : Nat) m))])) := by
 refine ob Tryd.func41 Tryd.ntmps41 ?_
 refine AW.len (base) [] rfl (by simp [Okp]) rfl (fun hl => ?_)
 refine sr ?_
 refine qs' ?_
 refine qm ?_
 refine qh sl34 ?_
 refine nm ?_
 refine qq (Qt.binOp rfl rfl (by first | exact pbAdd (by omega) | exact pbWrapAdd _ _ | exact pbWrapMul _ _ | rfl)) ?_
 refine qn ?_
 refine sr2 ?_
 refine qn ?_
 refine AW.block ?_
 refine AW.loopW (fun i : KInv (min code.length 4000) => [.sl 4 (.v (iv i.k)), .sl 3 (.v (iv (hashK code i.k))), .sl 0 (.h base []), .rt base .ro (tr code)]) (fun i => min code.length 4000 - i.k) ⟨0, Nat.zero_le _⟩ (Weak.sim ⟨rfl, rfl, rfl, Rf rfl, trivial⟩ rfl rfl) ?_
 intro i
 have hle := i.le
 refine sr2 ?_
 refine mn ?_
 refine qm ?_
 refine qh sl34 ?_
 refine qb ?_
 refine nm ?_
 refine qm ?_
 apply AWL.cut 2
 ·intro Kg1
  refine AWL.split 12 rfl (fun g1 => ?_) (fun g1 => ?_)
  ·refine qg g1 Qt.move ?_
   refine qg g1 (Qt.binOp rfl rfl rfl) ?_
   refine nm ?_
   exact wj 14 [13, 14] (ifT g1 _ undef) (by simp only [go_sem, reduceIte, Nat.reduceEqDiff, Nat.reduceBEq, reduceCtorEq]; rfl) Kg1
  ·refine og g1 ?_
   refine og g1 ?_
   exact wj 14 [13, 14] (ifF g1 undef _) (by simp only [go_sem, reduceIte, Nat.reduceEqDiff, Nat.reduceBEq, reduceCtorEq]) Kg1
 refine qq (Qt.pickAnd rfl rfl rfl) ?_
 refine nc (fun c2 => ?_) fun c2 => ?_
 ·try simp only [cnd] at c2
  refine jd (AW.seq (AW.block (AW.region ?_)))
  refine qm ?_
  refine qq (Qt.binOp rfl rfl (by first | exact pbAdd (by omega) | exact pbWrapAdd _ _ | exact pbWrapMul _ _ | rfl)) ?_
  refine nm ?_
  refine qm ?_
  refine qm ?_
  refine qq (ix sl34 sz5) ?_
  refine nm ?_
  refine ql ag5 ?_
  refine qq (Qt.convI rfl rfl Tryd.underlying3) ?_
  refine qq (Qt.binOp rfl rfl (by first | exact pbAdd (by omega) | exact pbWrapAdd _ _ | exact pbWrapMul _ _ | rfl)) ?_
  refine nm ?_
  refine qq (Qt.binOp rfl rfl (by first | exact pbAdd (by omega) | exact pbWrapAdd _ _ | exact pbWrapMul _ _ | rfl)) ?_
  refine qb ?_
  refine qn ?_
  refine AW.region ?_
  refine mn ?_
  refine qq (Qt.binOp rfl rfl (by first | exact pbAdd (by omega) | exact pbWrapAdd _ _ | exact pbWrapMul _ _ | rfl)) ?_
  refine qn ?_
  refine ⟨⟨i.k + 1, by omega⟩, Weak.sim ⟨rfl, rfl, rfl, Rf rfl, trivial⟩ rfl rfl, ?_⟩
  show min code.length 4000 - (i.k + 1) < min code.length 4000 - i.k
  omega
 try simp only [cnd] at c2
 refine AW.exit ?_
 dsimp only [thenQ, blockQ, reduceIte]
 refine sr ?_
 refine mn ?_
 refine qm ?_
 refine qq (Qt.build rfl) ?_
 refine bx ?_
 refine nm ?_
 refine qn ?_
 have hke : i.k = min code.length 4000 := by omega
 refine AW.rep 31 (.s 3 1 (curF (0 : Nat) (hashF code))) rfl (cur_sim rfl rfl (by rw [hke]; rfl)) ?_
 refine rt1 2 ?_
 exact ⟨hashF code, rfl, fun _ => 31, rfl, nodup_of rfl, (fun r hr => by cases List.mem_singleton.1 hr; exact ⟨by simp, rootL_mem rfl, by show (31 : Nat) < 100000; decide⟩), fun _ => alM rfl⟩
end Go.Proofs.YtlploojfcmcckaaDoor.VM
