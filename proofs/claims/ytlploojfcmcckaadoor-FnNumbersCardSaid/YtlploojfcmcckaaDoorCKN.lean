/- Contracts of functions of the program. No conditions beyond those that each states. -/
import Derived.Test.YtlploojfcmcckaaDoorCKM
set_option linter.all false
set_option maxHeartbeats 8000000
set_option maxRecDepth 10000
namespace Go.Proofs.YtlploojfcmcckaaDoor.VM
open Go Go.RowKit Go.Proofs
theorem sim_ints {l : List Int} {m : Nat} {f : Nat → Nat → T} (hm : m = l.length) (h : (List.range m).all (fun k => match f k 0 with | .v (.int .i64 z) => z == l.getD k 0 | _ => false) = true) : (T.s 1 m f).sim (tr l) := by
 subst hm
 refine T.sim_of fun k c hk hc => ?_
 obtain rfl : c = 0 := by omega
 have h1 := List.all_eq_true.1 h k (List.mem_range.2 hk)
 revert h1
 split
 ·rename_i z hz
  intro h1
  rw [hz, eq_of_beq h1]
  rfl
 ·intro h1; cases h1
def nums : List Int := [-1, 0, 127, 128, 255, 256, 16383, 16384, 65535, 65536, 562949953421311, 562949953421312, 999999999, 1000000000, -999999999, 9223372036854775807, -9223372036854775808]
@[irreducible] def pickF (code : List UInt8) (i : Nat) (h : Int) (l : List Int) : Nat × Int × Int := ((belowF code i h l.length).1, (belowF code i h l.length).2.1, l.getD (belowF code i h l.length).2.2.toNat En.dflt)
@[irreducible] def numF (code : List UInt8) (i : Nat) (h : Int) : Nat × Int × Int :=
 let a := belowF code i h 8
 if a.2.2 = 0 then pickF code a.1 a.2.1 nums
 else if a.2.2 = 1 then
  let b := belowF code a.1 a.2.1 1000000000
  let c := belowF code b.1 b.2.1 1000000000
  (c.1, c.2.1, b.2.2 * c.2.2)
 else if a.2.2 = 2 then
  let b := belowF code a.1 a.2.1 100000
  (b.1, b.2.1, IntKind.i64.wrap (0 - b.2.2))
 else belowF code a.1 a.2.1 70000
def tyB (style x : Int) : UInt8 := UInt8.ofNat (if style = 1 then x.tmod 2 else if style = 2 then 97 + x.tmod 4 else x).toNat
def textL (code : List UInt8) (style : Int) : Nat → Nat × Int × List UInt8 → Nat × Int × List UInt8
 | 0, s => s
 | k + 1, s => textL code style k ((byteF code s.1 s.2.1).1, (byteF code s.1 s.2.1).2.1, s.2.2 ++ [tyB style (byteF code s.1 s.2.1).2.2])
@[irreducible] def textF (code : List UInt8) (i : Nat) (h most : Int) : Nat × Int × ByteArray :=
 let a := belowF code i h 4
 let b := belowF code a.1 a.2.1 (most + 1)
 let t := textL code a.2.2 b.2.2.toNat (b.1, b.2.1, [])
 (t.1, t.2.1, ⟨t.2.2.toArray⟩)
theorem textL_len (code : List UInt8) (style : Int) : ∀ (k : Nat) (s : Nat × Int × List UInt8), (textL code style k s).2.2.length = s.2.2.length + k
 | 0, s => rfl
 | k + 1, s => by
  rw [textL, textL_len code style k]
  simp
  omega
theorem textF_size (code : List UInt8) (i : Nat) (h most : Int) (hm : 0 ≤ most) : ((textF code i h most).2.2.size : Int) ≤ most := by
 unfold textF
 dsimp only
 generalize belowF code i h 4 = a
 have hb := belowF_bd code a.1 a.2.1 (most + 1)
 generalize belowF code a.1 a.2.1 (most + 1) = b at hb
 have h1 := textL_len code a.2.2 b.2.2.toNat (b.1, b.2.1, [])
 show (((textL code a.2.2 b.2.2.toNat (b.1, b.2.1, [])).2.2.toArray.size : Nat) : Int) ≤ most
 rw [List.size_toArray, h1]
 simp
 omega
theorem mul_bd {a b : Int} (ha : 0 ≤ a) (hb : 0 ≤ b) (ha1 : a < 1000000000) (hb1 : b < 1000000000) : 0 ≤ a * b ∧ a * b ≤ 1000000000000000000 := by
 refine ⟨Int.mul_nonneg ha hb, ?_⟩
 exact Int.le_trans (Int.mul_le_mul (Int.le_of_lt ha1) (Int.le_of_lt hb1) hb (by omega)) (by decide)
theorem nums_bd : ∀ k, -9223372036854775808 ≤ nums.getD k En.dflt ∧ nums.getD k En.dflt ≤ 9223372036854775807 := fun k => by
 match k with
 | 0 | 1 | 2 | 3 | 4 | 5 | 6 | 7 | 8 | 9 | 10 | 11 | 12 | 13 | 14 | 15 | 16 => decide
 | k + 17 => show -9223372036854775808 ≤ (0 : Int) ∧ (0 : Int) ≤ 9223372036854775807; decide
theorem numF_bd (code : List UInt8) (i : Nat) (h : Int) : -9223372036854775808 ≤ (numF code i h).2.2 ∧ (numF code i h).2.2 ≤ 9223372036854775807 := by
 unfold numF
 dsimp only
 generalize belowF code i h 8 = a
 split
 ·unfold pickF; exact nums_bd _
 ·split
  ·have h1 := belowF_bd code a.1 a.2.1 1000000000
   generalize belowF code a.1 a.2.1 1000000000 = b at h1
   have h2 := belowF_bd code b.1 b.2.1 1000000000
   have := mul_bd h1.1 h2.1 (h1.2 (by decide)) (h2.2 (by decide))
   dsimp only
   omega
  ·split
   ·have h1 := belowF_bd code a.1 a.2.1 100000
    have := h1.2 (by decide)
    dsimp only
    rw [IntWalk.i64_in _ (by omega)]
    omega
   ·have h1 := belowF_bd code a.1 a.2.1 70000
    have := h1.2 (by decide)
    omega
structure TxI (code : List UInt8) (style : Int) (t : Nat × Int × List UInt8) (most : Nat) where
 n : Int
 nn : 0 ≤ n
 p : Nat
 q : Int
 l : List UInt8
 le : l.length + n.toNat ≤ most
 eq : textL code style n.toNat (p, q, l) = t
theorem TxI.next {code : List UInt8} {style : Int} {t : Nat × Int × List UInt8} {most : Nat} (i : TxI code style t most) (h : 0 < i.n) : textL code style (i.n - 1).toNat ((byteF code i.p i.q).1, (byteF code i.p i.q).2.1, i.l ++ [tyB style (byteF code i.p i.q).2.2]) = t := by
 have h1 := i.eq
 rw [show i.n.toNat = (i.n - 1).toNat + 1 by omega] at h1
 exact h1
theorem tyB_val (x : Int) (h0 : 0 ≤ x) (h1 : x ≤ 255) : Value.int .u8 (IntKind.u8.wrap x) = bv (UInt8.ofNat x.toNat) := by
 show Value.int .u8 _ = Value.int .u8 _
 rw [UInt8.toNat_ofNat']
 congr 1
 rw [IntKind.wrap_u8]
 omega
theorem l1PickInt_F (code : List UInt8) (i : Nat) (h : Int) (l : List Int) (hl : 0 < l.length) : Con Tryd.prog 60 [.p base [] 3 0 0, .h (base + 2) []] [.rt base .box (.s 3 1 (curF (i : Nat) h)), .al base 0 (.h (base + 1) []), .rt (base + 1) .ro (tr code), .rt (base + 2) .ro (tr l)] (RetD 3 (fun m : Nat × Int × Int => m = pickF code i h l) (fun m => .v (iv m.2.2)) (fun _ => []) (fun m => curF m.1 m.2.1)) := by
 refine ob Tryd.func60 Tryd.ntmps60 ?_
 refine AW.len (base + 2) [] rfl (by simp [Okp]) rfl (fun hll => ?_)
 have hbd := belowF_bd code i h l.length
 have hlt1 := hbd.2 (by omega)
 refine sr ?_
 refine qs' ?_
 refine qm ?_
 refine mn ?_
 refine qm ?_
 refine qh sl54 ?_
 refine spK (StpK.callD rfl (by decide) Tryd.call59 rfl rfl rfl rfl rfl rfl rfl (cur_leaf _ _) (l1Below_F code _ _ _) (fun _ => nodup_of rfl) (fun _ => rfl) (fun _ => rfl)) ?_
 rintro _ ⟨d1_4, hd1_4, rfl⟩
 try dsimp only at hd1_4
 subst hd1_4
 refine nm ?_
 refine qq (ix sl54 sz3) ?_
 refine ql ag3 ?_
 refine qr 4 ?_
 have hF : pickF code i h l = ((belowF code i h l.length).1, (belowF code i h l.length).2.1, l.getD (belowF code i h l.length).2.2.toNat En.dflt) := by unfold pickF; rfl
 exact ⟨((belowF code i h l.length).1, (belowF code i h l.length).2.1, l.getD (belowF code i h l.length).2.2.toNat En.dflt), hF.symm, ⟨fun n => n, rfl, fun _ _ => rfl, List.nodup_nil, (by simp), (by simp)⟩, rootL_mem rfl, alM rfl⟩
theorem l1Num_F (code : List UInt8) (i : Nat) (h : Int) : Con Tryd.prog 42 [.p base [] 3 0 0] [.rt base .box (.s 3 1 (curF (i : Nat) h)), .al base 0 (.h (base + 1) []), .rt (base + 1) .ro (tr code)] (RetD 3 (fun m : Nat × Int × Int => m = numF code i h) (fun m => .v (iv m.2.2)) (fun _ => []) (fun m => curF m.1 m.2.1)) := by
 refine ob Tryd.func42 Tryd.ntmps42 ?_
 refine sr ?_
 refine qn ?_
 refine sr2 ?_
 refine qm ?_
 refine spK (StpK.callD rfl (by decide) Tryd.call59 rfl rfl rfl rfl rfl rfl rfl (cur_leaf _ _) (l1Below_F code _ _ _) (fun _ => nodup_of rfl) (fun _ => rfl) (fun _ => rfl)) ?_
 rintro _ ⟨d1_1, hd1_1, rfl⟩
 try dsimp only at hd1_1
 subst hd1_1
 refine nl ?_
 refine AW.block (sr ?_)
 refine qb ?_
 refine nm ?_
 refine qn ?_
 refine cd (fun c1 => ?_) fun c1 => ?_
 ·try simp only [cnd] at c1
  refine sr ?_
  refine qm ?_
  refine sp (Stp.buildSlice (ys := [.v (iv (-1)), .v (iv 0), .v (iv 127), .v (iv 128), .v (iv 255), .v (iv 256), .v (iv 16383), .v (iv 16384), .v (iv 65535), .v (iv 65536), .v (iv 562949953421311), .v (iv 562949953421312), .v (iv 999999999), .v (iv 1000000000), .v (iv (-999999999)), .v (iv 9223372036854775807), .v (iv (-9223372036854775808))]) rfl (by decide) (by decide) (by kernel_rfl) (by decide) rfl rfl rfl (nodup_of rfl)) ?_
  refine nm ?_
  refine AWL.rep 8 (tr nums) rfl (sim_ints rfl (by decide +kernel)) ?_
  refine nm ?_
  refine spK (StpK.callD2 rfl (by decide) Tryd.call60 rfl rfl rfl rfl rfl rfl rfl rfl rfl (cur_leaf _ _) (l1PickInt_F code _ _ nums (by decide)) (fun _ => nodup_of rfl) (fun _ => rfl) (fun _ => rfl)) ?_
  rintro _ ⟨d3_2, hd3_2, rfl⟩
  try dsimp only at hd3_2
  subst hd3_2
  refine nm ?_
  refine qr 2 ?_
  have hF : numF code i h = pickF code (belowF code i h 8).1 (belowF code i h 8).2.1 nums := by
   unfold numF
   dsimp only
   rw [if_pos (by omega)]
  exact ⟨pickF code (belowF code i h 8).1 (belowF code i h 8).2.1 nums, hF.symm, ⟨fun n => n, rfl, fun _ _ => rfl, List.nodup_nil, (by simp), (by simp)⟩, rootL_mem rfl, alM rfl⟩
 try simp only [cnd] at c1
 refine sr ?_
 refine qb ?_
 refine qn ?_
 refine cd (fun c2 => ?_) fun c2 => ?_
 ·try simp only [cnd] at c2
  refine sr ?_
  refine mn ?_
  refine spK (StpK.callD rfl (by decide) Tryd.call59 rfl rfl rfl rfl rfl rfl rfl (cur_leaf _ _) (l1Below_F code _ _ _) (fun _ => nodup_of rfl) (fun _ => rfl) (fun _ => rfl)) ?_
  rintro _ ⟨d5_1, hd5_1, rfl⟩
  try dsimp only at hd5_1
  subst hd5_1
  refine nm ?_
  refine qm ?_
  refine spK (StpK.callD rfl (by decide) Tryd.call59 rfl rfl rfl rfl rfl rfl rfl (cur_leaf _ _) (l1Below_F code _ _ _) (fun _ => nodup_of rfl) (fun _ => rfl) (fun _ => rfl)) ?_
  rintro _ ⟨d5_3, hd5_3, rfl⟩
  try dsimp only at hd5_3
  subst hd5_3
  refine nm ?_
  refine qq (Qt.binOp rfl rfl (pbMul (by have hx := belowF_bd code (belowF code i h 8).1 (belowF code i h 8).2.1 1000000000; have hy := belowF_bd code (belowF code (belowF code i h 8).1 (belowF code i h 8).2.1 1000000000).1 (belowF code (belowF code i h 8).1 (belowF code i h 8).2.1 1000000000).2.1 1000000000; have hxy := mul_bd hx.1 hy.1 (hx.2 (by decide)) (hy.2 (by decide)); omega))) ?_
  refine qr 2 ?_
  have hF : numF code i h = ((belowF code (belowF code (belowF code i h 8).1 (belowF code i h 8).2.1 1000000000).1 (belowF code (belowF code i h 8).1 (belowF code i h 8).2.1 1000000000).2.1 1000000000).1, (belowF code (belowF code (belowF code i h 8).1 (belowF code i h 8).2.1 1000000000).1 (belowF code (belowF code i h 8).1 (belowF code i h 8).2.1 1000000000).2.1 1000000000).2.1, (belowF code (belowF code i h 8).1 (belowF code i h 8).2.1 1000000000).2.2 * (belowF code (belowF code (belowF code i h 8).1 (belowF code i h 8).2.1 1000000000).1 (belowF code (belowF code i h 8).1 (belowF code i h 8).2.1 1000000000).2.1 1000000000).2.2) := by
   unfold numF
   dsimp only
   rw [if_neg (by omega), if_pos (by omega)]
  exact ⟨((belowF code (belowF code (belowF code i h 8).1 (belowF code i h 8).2.1 1000000000).1 (belowF code (belowF code i h 8).1 (belowF code i h 8).2.1 1000000000).2.1 1000000000).1, (belowF code (belowF code (belowF code i h 8).1 (belowF code i h 8).2.1 1000000000).1 (belowF code (belowF code i h 8).1 (belowF code i h 8).2.1 1000000000).2.1 1000000000).2.1, (belowF code (belowF code i h 8).1 (belowF code i h 8).2.1 1000000000).2.2 * (belowF code (belowF code (belowF code i h 8).1 (belowF code i h 8).2.1 1000000000).1 (belowF code (belowF code i h 8).1 (belowF code i h 8).2.1 1000000000).2.1 1000000000).2.2), hF.symm, ⟨fun n => n, rfl, fun _ _ => rfl, List.nodup_nil, (by simp), (by simp)⟩, rootL_mem rfl, alM rfl⟩
 try simp only [cnd] at c2
 refine sr ?_
 refine qb ?_
 refine nm ?_
 refine qn ?_
 refine cd (fun c3 => ?_) fun c3 => ?_
 ·try simp only [cnd] at c3
  refine sr ?_
  refine qm ?_
  refine spK (StpK.callD rfl (by decide) Tryd.call59 rfl rfl rfl rfl rfl rfl rfl (cur_leaf _ _) (l1Below_F code _ _ _) (fun _ => nodup_of rfl) (fun _ => rfl) (fun _ => rfl)) ?_
  rintro _ ⟨d7_1, hd7_1, rfl⟩
  try dsimp only at hd7_1
  subst hd7_1
  refine nm ?_
  refine qq (Qt.negI rfl) ?_
  refine qr 2 ?_
  have hF : numF code i h = ((belowF code (belowF code i h 8).1 (belowF code i h 8).2.1 100000).1, (belowF code (belowF code i h 8).1 (belowF code i h 8).2.1 100000).2.1, IntKind.i64.wrap (0 - (belowF code (belowF code i h 8).1 (belowF code i h 8).2.1 100000).2.2)) := by
   unfold numF
   dsimp only
   rw [if_neg (by omega), if_neg (by omega), if_pos (by omega)]
  exact ⟨((belowF code (belowF code i h 8).1 (belowF code i h 8).2.1 100000).1, (belowF code (belowF code i h 8).1 (belowF code i h 8).2.1 100000).2.1, IntKind.i64.wrap (0 - (belowF code (belowF code i h 8).1 (belowF code i h 8).2.1 100000).2.2)), hF.symm, ⟨fun n => n, rfl, fun _ _ => rfl, List.nodup_nil, (by simp), (by simp)⟩, rootL_mem rfl, alM rfl⟩
 try simp only [cnd] at c3
 refine jd (sr ?_)
 refine mn ?_
 refine spK (StpK.callD rfl (by decide) Tryd.call59 rfl rfl rfl rfl rfl rfl rfl (cur_leaf _ _) (l1Below_F code _ _ _) (fun _ => nodup_of rfl) (fun _ => rfl) (fun _ => rfl)) ?_
 rintro _ ⟨d8_1, hd8_1, rfl⟩
 try dsimp only at hd8_1
 subst hd8_1
 refine nm ?_
 refine qr 2 ?_
 have hF : numF code i h = (belowF code (belowF code i h 8).1 (belowF code i h 8).2.1 70000) := by
  unfold numF
  dsimp only
  rw [if_neg (by omega), if_neg (by omega), if_neg (by omega)]
 exact ⟨(belowF code (belowF code i h 8).1 (belowF code i h 8).2.1 70000), hF.symm, ⟨fun n => n, rfl, fun _ _ => rfl, List.nodup_nil, (by simp), (by simp)⟩, rootL_mem rfl, alM rfl⟩
theorem l1Text_F (code : List UInt8) (i : Nat) (h most : Int) (hm : 0 ≤ most ∧ most ≤ 100) : Con Tryd.prog 43 [.p base [] 3 0 0, .v (iv most)] [.rt base .box (.s 3 1 (curF (i : Nat) h)), .al base 0 (.h (base + 1) []), .rt (base + 1) .ro (tr code)] (RetD 3 (fun m : Nat × Int × ByteArray => m = textF code i h most) (fun m => .v (.string m.2.2)) (fun _ => []) (fun m => curF m.1 m.2.1)) := by
 refine ob Tryd.func43 Tryd.ntmps43 ?_
 have hcb := belowF_bd code (belowF code i h 4).1 (belowF code i h 4).2.1 (most + 1)
 refine sr ?_
 refine qs' ?_
 refine sp sS ?_
 refine nm ?_
 refine qs' ?_
 refine qm ?_
 refine spK (StpK.callD rfl (by decide) Tryd.call59 rfl rfl rfl rfl rfl rfl rfl (cur_leaf _ _) (l1Below_F code _ _ _) (fun _ => nodup_of rfl) (fun _ => rfl) (fun _ => rfl)) ?_
 rintro _ ⟨d2_1, hd2_1, rfl⟩
 try dsimp only at hd2_1
 subst hd2_1
 refine nm ?_
 refine qn ?_
 refine sr2 ?_
 refine qm ?_
 refine mn ?_
 refine ba ?_
 refine spK (StpK.callD rfl (by decide) Tryd.call59 rfl rfl rfl rfl rfl rfl rfl (cur_leaf _ _) (l1Below_F code _ _ _) (fun _ => nodup_of rfl) (fun _ => rfl) (fun _ => rfl)) ?_
 rintro _ ⟨d3_3, hd3_3, rfl⟩
 try dsimp only at hd3_3
 subst hd3_3
 refine nm ?_
 refine qn ?_
 refine AW.block ?_
 refine AW.loopW (fun j : TxI code (belowF code i h 4).2.2 (textL code (belowF code i h 4).2.2 (belowF code (belowF code i h 4).1 (belowF code i h 4).2.1 (most + 1)).2.2.toNat ((belowF code (belowF code i h 4).1 (belowF code i h 4).2.1 (most + 1)).1, (belowF code (belowF code i h 4).1 (belowF code i h 4).2.1 (most + 1)).2.1, [])) 100 => [.sl 7 (.v (iv j.n)), .sl 5 (.h 9 []), .sl 0 (.p base [] 3 0 0), .rt base .box (.s 3 1 (curF (j.p : Nat) j.q)), .al base 0 (.h (base + 1) []), .rt (base + 1) .ro (tr code), .rt 9 .row (tr j.l), .sl 6 (.v (iv (belowF code i h 4).2.2))]) (fun j => j.n.toNat) ⟨(belowF code (belowF code i h 4).1 (belowF code i h 4).2.1 (most + 1)).2.2, hcb.1, _, _, [], (by have := hcb.2 (by omega); simp only [List.length_nil]; omega), rfl⟩ (Weak.sim ⟨rfl, rfl, rfl, Rf rfl, ⟨rfl, rfl⟩, Rf rfl, ⟨_, rfl, sim_nil⟩, rfl, trivial⟩ rfl rfl) ?_
 intro j
 have hnn := j.nn
 have hll := j.le
 have hbb := byteF_bd code j.p j.q
 refine sr2 ?_
 refine qm ?_
 refine qb ?_
 refine nc (fun c1 => ?_) fun c1 => ?_
 ·try simp only [cnd] at c1
  refine jd (AW.seq (AW.block (sr ?_)))
  refine mn ?_
  refine spK (StpK.callD rfl (by decide) Tryd.call61 rfl rfl rfl rfl rfl rfl rfl (cur_leaf _ _) (l1Byte_F code _ _) (fun _ => nodup_of rfl) (fun _ => rfl) (fun _ => rfl)) ?_
  rintro _ ⟨d6_1, hd6_1, rfl⟩
  try dsimp only at hd6_1
  subst hd6_1
  refine nm ?_
  refine qn ?_
  refine sr2 ?_
  refine qm ?_
  refine qb ?_
  refine nc (fun c2 => ?_) fun c2 => ?_
  ·try simp only [cnd] at c2
   refine AW.region ?_
   refine mn ?_
   refine qq (Qt.binOp rfl rfl (by first | exact pbRem4 _ | rfl | exact pbRemI (by omega))) ?_
   refine qn ?_
   refine sr2 ?_
   refine mn ?_
   refine qb ?_
   refine nl ?_
   refine AW.cond rfl (fun c3 => (by exfalso; first | (cases c3; done) | (simp at c3; done) | (simp only [cnd] at c3; omega))) (fun c3 => ?_)
   try simp only [cnd] at c3
   have htb : Value.int .u8 (IntKind.u8.wrap ((byteF code j.p j.q).2.2.tmod 2)) = bv (tyB (belowF code i h 4).2.2 (byteF code j.p j.q).2.2) := by
    have ht1 := tmod_bd hbb.1 (show (0 : Int) < 2 by decide)
    have ht2 := tmod_bd hbb.1 (show (0 : Int) < 4 by decide)
    unfold tyB
    rw [if_pos (by omega)]
    exact tyB_val _ (by omega) (by omega)
   refine jd (AW.region ?_)
   refine qm ?_
   refine mn ?_
   refine qq (Qt.convI rfl rfl Tryd.underlying5) ?_
   refine sp sS ?_
   refine nm ?_
   refine sp (by first | exact Stp.appendC rfl (by decide) (by decide) rfl rfl (by omega) | exact Stp.appendM rfl (by decide) (by decide) rfl rfl rfl (by omega)) ?_
   refine nm ?_
   refine AWL.rep 35 (tr (j.l ++ [tyB (belowF code i h 4).2.2 (byteF code j.p j.q).2.2])) rfl (app_byte (b := tyB (belowF code i h 4).2.2 (byteF code j.p j.q).2.2) htb rfl) ?_
   refine nm ?_
   refine qn ?_
   refine AW.region ?_
   refine qm ?_
   refine qq (Qt.binOp rfl rfl (by first | exact pbSub (by omega) | rfl)) ?_
   refine nm ?_
   refine qn ?_
   refine ⟨⟨j.n - 1, by omega, _, _, _, by rw [List.length_append]; simp only [List.length_cons, List.length_nil]; omega, j.next (by omega)⟩, Weak.trans (Weak.renR (a := 35) (b := 9) rfl (by decide) (by decide)) (Weak.sim ⟨rfl, rfl, rfl, Rf rfl, ⟨rfl, rfl⟩, Rf rfl, Rf rfl, rfl, trivial⟩ rfl rfl), ?_⟩
   show (j.n - 1).toNat < j.n.toNat
   omega
  try simp only [cnd] at c2
  refine jd (sr2 ?_)
  refine qm ?_
  refine qb ?_
  refine nc (fun c4 => ?_) fun c4 => ?_
  ·try simp only [cnd] at c4
   have htb : Value.int .u8 (IntKind.u8.wrap (97 + (byteF code j.p j.q).2.2.tmod 4)) = bv (tyB (belowF code i h 4).2.2 (byteF code j.p j.q).2.2) := by
    have ht1 := tmod_bd hbb.1 (show (0 : Int) < 2 by decide)
    have ht2 := tmod_bd hbb.1 (show (0 : Int) < 4 by decide)
    unfold tyB
    rw [if_neg (by omega), if_pos (by omega)]
    exact tyB_val _ (by omega) (by omega)
   refine AW.region ?_
   refine mn ?_
   refine qq (Qt.binOp rfl rfl (by first | exact pbRem4 _ | rfl | exact pbRemI (by omega))) ?_
   refine qq (Qt.binOp rfl rfl (pbAdd (by have := tmod_bd hbb.1 (show (0 : Int) < 4 by decide); omega))) ?_
   refine qn ?_
   refine AW.region ?_
   refine mn ?_
   refine qm ?_
   refine qq (Qt.convI rfl rfl Tryd.underlying5) ?_
   refine sp sS ?_
   refine nm ?_
   refine sp (by first | exact Stp.appendC rfl (by decide) (by decide) rfl rfl (by omega) | exact Stp.appendM rfl (by decide) (by decide) rfl rfl rfl (by omega)) ?_
   refine nm ?_
   refine AWL.rep 35 (tr (j.l ++ [tyB (belowF code i h 4).2.2 (byteF code j.p j.q).2.2])) rfl (app_byte (b := tyB (belowF code i h 4).2.2 (byteF code j.p j.q).2.2) htb rfl) ?_
   refine nm ?_
   refine qn ?_
   refine AW.region ?_
   refine qm ?_
   refine qq (Qt.binOp rfl rfl (by first | exact pbSub (by omega) | rfl)) ?_
   refine nm ?_
   refine qn ?_
   refine ⟨⟨j.n - 1, by omega, _, _, _, by rw [List.length_append]; simp only [List.length_cons, List.length_nil]; omega, j.next (by omega)⟩, Weak.trans (Weak.renR (a := 35) (b := 9) rfl (by decide) (by decide)) (Weak.sim ⟨rfl, rfl, rfl, Rf rfl, ⟨rfl, rfl⟩, Rf rfl, Rf rfl, rfl, trivial⟩ rfl rfl), ?_⟩
   show (j.n - 1).toNat < j.n.toNat
   omega
  try simp only [cnd] at c4
  have htb : Value.int .u8 (IntKind.u8.wrap (byteF code j.p j.q).2.2) = bv (tyB (belowF code i h 4).2.2 (byteF code j.p j.q).2.2) := by
   have ht1 := tmod_bd hbb.1 (show (0 : Int) < 2 by decide)
   have ht2 := tmod_bd hbb.1 (show (0 : Int) < 4 by decide)
   unfold tyB
   rw [if_neg (by omega), if_neg (by omega)]
   exact tyB_val _ (by omega) (by omega)
  refine jd (AW.region ?_)
  refine qm ?_
  refine mn ?_
  refine qq (Qt.convI rfl rfl Tryd.underlying5) ?_
  refine sp sS ?_
  refine nm ?_
  refine sp (by first | exact Stp.appendC rfl (by decide) (by decide) rfl rfl (by omega) | exact Stp.appendM rfl (by decide) (by decide) rfl rfl rfl (by omega)) ?_
  refine nm ?_
  refine AWL.rep 35 (tr (j.l ++ [tyB (belowF code i h 4).2.2 (byteF code j.p j.q).2.2])) rfl (app_byte (b := tyB (belowF code i h 4).2.2 (byteF code j.p j.q).2.2) htb rfl) ?_
  refine nm ?_
  refine qn ?_
  refine AW.region ?_
  refine qm ?_
  refine qq (Qt.binOp rfl rfl (by first | exact pbSub (by omega) | rfl)) ?_
  refine nm ?_
  refine qn ?_
  refine ⟨⟨j.n - 1, by omega, _, _, _, by rw [List.length_append]; simp only [List.length_cons, List.length_nil]; omega, j.next (by omega)⟩, Weak.trans (Weak.renR (a := 35) (b := 9) rfl (by decide) (by decide)) (Weak.sim ⟨rfl, rfl, rfl, Rf rfl, ⟨rfl, rfl⟩, Rf rfl, Rf rfl, rfl, trivial⟩ rfl rfl), ?_⟩
  show (j.n - 1).toNat < j.n.toNat
  omega
 try simp only [cnd] at c1
 refine AW.exit ?_
 dsimp only [thenQ, blockQ, reduceIte]
 refine sr ?_
 refine qm ?_
 refine qq (Qt.convBS rfl rfl rfl Tryd.underlying34 Tryd.underlying5 Tryd.underlying9) ?_
 refine nm ?_
 refine qr 4 ?_
 have hz : j.n.toNat = 0 := by omega
 have hq := j.eq
 rw [hz] at hq
 have hF : textF code i h most = (j.p, j.q, ⟨j.l.toArray⟩) := by
  unfold textF
  exact congrArg (fun t : Nat × Int × List UInt8 => (t.1, t.2.1, (⟨t.2.2.toArray⟩ : ByteArray))) hq.symm
 exact ⟨(j.p, j.q, ⟨j.l.toArray⟩), hF.symm, ⟨fun n => n, rfl, fun _ _ => rfl, List.nodup_nil, (by simp), (by simp)⟩, rootL_mem rfl, alM rfl⟩
end Go.Proofs.YtlploojfcmcckaaDoor.VM
