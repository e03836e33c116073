/- Chapter 1: Unhex. No conditions. -/
import Derived.Test.YtlploojfcmcckaaDoorNumHex
import Derived.Test.YtlploojfcmcckaaDoorShelfIx
namespace Go.Proofs.YtlploojfcmcckaaDoor
open Go.RowKit
/-- the number of a digit, or -1 -/
def fromHex (b : UInt8) : Int := if 48 ≤ b.toNat ∧ b.toNat ≤ 57 then b.toNat - 48 else if 97 ≤ b.toNat ∧ b.toNat ≤ 102 then b.toNat - 87 else -1
theorem ix_eq : ∀ n : Fin 256, Lib.indexByte hexDigits.data.toList (UInt8.ofNat n.val) = fromHex (UInt8.ofNat n.val) := by decide +kernel
theorem ix_from (b : UInt8) : Lib.indexByte [48, 49, 50, 51, 52, 53, 54, 55, 56, 57, 97, 98, 99, 100, 101, 102] b = fromHex b := by
  have := ix_eq ⟨b.toNat, b.toNat_lt⟩
  simpa [hexDigits] using this
theorem fromHex_range (b : UInt8) : -1 ≤ fromHex b ∧ fromHex b ≤ 15 := by unfold fromHex; split; omega; split <;> omega
theorem hex_from (b : UInt8) (k : Nat) (hk : k < 16) : hexD k = b ↔ fromHex b = k := by
  have h : ∀ k : Fin 16, ∀ n : Fin 256, (hexD k.val = UInt8.ofNat n.val ↔ fromHex (UInt8.ofNat n.val) = k.val) := by decide +kernel
  have := h ⟨k, hk⟩ ⟨b.toNat, b.toNat_lt⟩
  simpa using this

/-- the text of which Hex makes l, if there is one -/
def unhexL : List UInt8 → Option (List UInt8)
  | [] => some []
  | [_] => none
  | a :: b :: l => if fromHex a < 0 ∨ fromHex b < 0 then none else (unhexL l).map (lo8 (16 * (fromHex a).toNat + (fromHex b).toNat) :: ·)
theorem unhexL_odd : ∀ l : List UInt8, l.length % 2 = 1 → unhexL l = none
  | [], h => by simp at h
  | [_], _ => rfl
  | a :: b :: l, h => by
    unfold unhexL; split
    · rfl
    · rw [unhexL_odd l (by simp at h; omega)]; rfl
theorem unhexL_bad {s : List UInt8} {j : Nat} {acc : List UInt8} (h1 : j + 1 < s.length) (h : unhexL s = (unhexL (s.drop j)).map (acc ++ ·)) (hb : fromHex s[j] < 0 ∨ fromHex s[j + 1] < 0) : unhexL s = none := by
  rw [h, List.drop_eq_getElem_cons (by omega), List.drop_eq_getElem_cons (by omega), unhexL, if_pos hb]; rfl
theorem unhexL_good {s : List UInt8} {j : Nat} {acc : List UInt8} (h1 : j + 1 < s.length) (h : unhexL s = (unhexL (s.drop j)).map (acc ++ ·)) (hb : ¬ (fromHex s[j] < 0 ∨ fromHex s[j + 1] < 0)) :
    unhexL s = (unhexL (s.drop (j + 2))).map ((acc ++ [lo8 (16 * (fromHex s[j]).toNat + (fromHex s[j + 1]).toNat)]) ++ ·) := by
  rw [h, List.drop_eq_getElem_cons (by omega), List.drop_eq_getElem_cons (by omega), unhexL, if_neg hb]
  cases unhexL (s.drop (j + 2)) <;> simp
theorem unhexL_end {s : List UInt8} {j : Nat} {acc : List UInt8} (h1 : s.length ≤ j) (h : unhexL s = (unhexL (s.drop j)).map (acc ++ ·)) : unhexL s = some acc := by
  rw [h, List.drop_eq_nil_of_le h1]; simp [unhexL]
theorem or16 {x y : Int} (hx : 0 ≤ x) (hx2 : x ≤ 15) (hy : 0 ≤ y) (hy2 : y ≤ 15) : bits .or .i64 (x * 16) y = x * 16 + y := by
  obtain ⟨a, rfl⟩ := Int.eq_ofNat_of_zero_le hx
  obtain ⟨b, rfl⟩ := Int.eq_ofNat_of_zero_le hy
  rw [show (a : Int) * 16 = ((a * 16 : Nat) : Int) by simp, or_i64 _ _ (by omega) (by omega), show (16 : Nat) = 2 ^ 4 by decide, or_add 4 _ _ (by omega)]
  omega
/-- what Unhex hands back -/
def UnhexR (l : List UInt8) (w : World) (e : Ending) (w' : World) : Prop :=
  (match unhexL l with
   | some r => e = .returned (.tuple #[.string ⟨r.toArray⟩, .bool true])
   | none => e = .returned (.tuple #[.string ⟨#[]⟩, .bool false])) ∧ Below w.heap.size w w'
theorem UnhexR.no {l : List UInt8} {w w' : World} {e : Ending} (h : unhexL l = none) (he : e = .returned (.tuple #[.string ⟨#[]⟩, .bool false])) (hb : Below w.heap.size w w') : UnhexR l w e w' := by
  unfold UnhexR; rw [h]; exact ⟨he, hb⟩
theorem UnhexR.yes {l r : List UInt8} {w w' : World} {e : Ending} (h : unhexL l = some r) (he : e = .returned (.tuple #[.string ⟨r.toArray⟩, .bool true])) (hb : Below w.heap.size w w') : UnhexR l w e w' := by
  unfold UnhexR; rw [h]; exact ⟨he, hb⟩
theorem indexHex_any (b : UInt8) (w : World) :
    Calls Tryd.prog 44 #[.string ⟨#[48, 49, 50, 51, 52, 53, 54, 55, 56, 57, 97, 98, 99, 100, 101, 102]⟩, bv b] w fun e w' => e = .returned (iv (fromHex b)) ∧ w' = w :=
  (indexByte_any _ _ w).mono fun e w' ⟨he, hw⟩ => ⟨by
    rw [he, ← ix_from b]
    simp, hw⟩
theorem getE (s : ByteArray) (k : Nat) (h : k < s.size) : s.data.toList[k]'(by rw [Array.length_toList]; exact h) = s[k] := by simp; rfl
set_option maxHeartbeats 1000000 in
set_option maxRecDepth 100000 in
theorem implUnhex_any (s : ByteArray) (hs : s.size ≤ 1048576) (w : World) : Calls Tryd.prog 24 #[.string s] w (UnhexR s.data.toList w) := by
  have hlen : s.data.toList.length = s.size := Array.length_toList
  by_cases hev : s.size % 2 = 0
  · have ht : ((s.size : Int) % 2 != 0) = false := by simp; omega
    obtain ⟨i, hi, hz0, hz1, hz2⟩ := info_parts Tryd.infoU8
    have hb1 : i.bytes ≤ 1024 := by omega
    clear hz2
    have Hlen := Lib.hid hlen; clear hlen
    have Hev := Lib.hid hev; clear hev
    go_enter Tryd.func24, Tryd.ntmps24
    go_wp2_with fail
    clear ht
    go_loopw [4, 5] (fun out i wr => ∃ (j : Nat) (acc : List UInt8), j ≤ s.size ∧ Hid (j % 2 = 0 ∧ acc.length * 2 = j) ∧ i = iv j ∧ unhexL s.data.toList = (unhexL (s.data.toList.drop j)).map (acc ++ ·) ∧ Own w.heap.size wr acc out ∧ Below w.heap.size w wr) (fun _ i _ => s.size - (intOf i).toNat)
    case atStart => exact ⟨0, [], Nat.zero_le _, ⟨rfl, rfl⟩, rfl, by simp, Own.built0 w _, (Below.refl _ _).alloc (Nat.le_refl _) _⟩
    case round =>
      obtain ⟨j, acc, hj, hpar, rfl, heq, hown, hb⟩ := hrel
      have Heq := Lib.hid heq; clear heq
      have hsz := hb.size
      by_cases hlt : j < s.size
      · have hlt1 : j + 1 < s.size := by have := hpar.out.1; have := Hev.out; omega
        have hl1 : j + 1 < s.data.toList.length := by rw [Hlen.out]; exact hlt1
        have hacc : acc.length ≤ 1048576 := by have := hpar.out.2; omega
        have hga := getE s j hlt
        have hgb := getE s (j + 1) hlt1
        have hra := fromHex_range s[j]
        have hrb := fromHex_range s[j + 1]
        by_cases hbad : fromHex s[j] < 0 ∨ fromHex s[j + 1] < 0
        · have hno := Lib.hid (unhexL_bad hl1 Heq.out (by rw [hga, hgb]; exact hbad))
          clear hga hgb
          go_wp2_with fail
          have q1 : IntKind.i64.wrap ((j : Int) + 1) = (j : Int) + 1 := IntWalk.i64_in _ (by omega)
          have q2 : (0 : Int) ≤ (j : Int) + 1 := by omega
          have q3 : ((j : Int) + 1).toNat = j + 1 := by omega
          have q4 : (j : Int) + 1 < s.size := by omega
          go_quiet ((go_at_call 44; exact Calls.quiet_of_same (indexHex_any _ _)))
          clear q1
          generalize fromHex s[j] = x at *
          generalize fromHex s[j + 1] = y at *
          by_cases hx : x < 0
          · go_wp2
            go_ret2
            exact UnhexR.no hno.out rfl hb.drewN
          · have hy : y < 0 := by omega
            go_wp2
            go_ret2
            exact UnhexR.no hno.out rfl hb.drewN
        · have hyes := Lib.hid (unhexL_good hl1 Heq.out (by rw [hga, hgb]; exact hbad))
          rw [hga, hgb] at hyes
          clear hga hgb
          go_wp2_with fail
          have q1 : IntKind.i64.wrap ((j : Int) + 1) = (j : Int) + 1 := IntWalk.i64_in _ (by omega)
          have q2 : (0 : Int) ≤ (j : Int) + 1 := by omega
          have q3 : ((j : Int) + 1).toNat = j + 1 := by omega
          have q4 : (j : Int) + 1 < s.size := by omega
          go_quiet ((go_at_call 44; exact Calls.quiet_of_same (indexHex_any _ _)))
          clear q1
          generalize fromHex s[j] = x at *
          generalize fromHex s[j + 1] = y at *
          have hx : 0 ≤ x := by omega
          have hy : 0 ≤ y := by omega
          have ho := or16 hx hra.2 hy hrb.2
          have hown2 : Own w.heap.size (wr.drewN nq) acc u4 := hown.drewN nq
          have hb2 := hb.drewN (n := nq)
          have hsz2 := hb2.size
          clear hown hb hsz hbad
          generalize wr.drewN nq = w2 at hown2 hb2 hsz2 ⊢
          go_wp2_with (at_builtin; refine wpList_app1 (α := UInt8) (y := lo8 (16 * x.toNat + y.toNat)) rfl _ _ 34 rfl 5 5 i (.int .u8 0) Tryd.underlying34 hi hz0 hz1 hb1 rfl rfl hown2 1 rfl hsz2 (by omega) rfl ?_ ?_)
          · exact enc_lo8 (by omega)
          · intro v' w' ho' hb'
            go_wp2
            go_roundw
            case rel => exact ⟨j + 2, _, by omega, ⟨by have := hpar.out.1; omega, by have := hpar.out.2; simp; omega⟩, by go_num, hyes.out, ho', hb2.trans hb'⟩
            case measure => simp [intOf] <;> omega
      · have hfin := Lib.hid (unhexL_end (by rw [Hlen.out]; omega) Heq.out)
        go_wp2_with (refine wpList_str rfl 34 9 _ rfl 5 Tryd.underlying34 Tryd.underlying5 Tryd.underlying9 hown.rd ?_)
        go_ret2
        exact UnhexR.yes hfin.out rfl hb
  · have ht : ((s.size : Int) % 2 != 0) = true := by simp; omega
    have hno := Lib.hid (unhexL_odd s.data.toList (by rw [hlen]; omega))
    clear hev hlen
    go_enter Tryd.func24, Tryd.ntmps24
    go_wp2
    go_ret2
    exact UnhexR.no hno.out rfl (Below.refl _ _)
end Go.Proofs.YtlploojfcmcckaaDoor
