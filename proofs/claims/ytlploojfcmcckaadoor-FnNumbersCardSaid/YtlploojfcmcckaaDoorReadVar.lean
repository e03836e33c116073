/- Chapter 1: ReadVar. No conditions. -/
import Derived.Test.YtlploojfcmcckaaDoorNum
import Derived.Test.YtlploojfcmcckaaDoorRegion
namespace Go.Proofs.YtlploojfcmcckaaDoor
open Go.RowKit
def val7 : List UInt8 → Nat
  | [] => 0
  | b :: l => b.toNat % 128 + 128 * val7 l
/-- l is the Var of a number -/
def canonP : List UInt8 → Prop
  | [] => False
  | [b] => b.toNat < 128
  | b :: c :: l => 128 ≤ b.toNat ∧ canonP (c :: l) ∧ val7 (c :: l) ≠ 0
theorem hi7_inj {b : UInt8} {v : Nat} : hi7 (b.toNat % 128 + 128 * v) = b ↔ 128 ≤ b.toNat := by
  have hb := b.toNat_lt
  unfold hi7
  rw [← UInt8.toNat_inj, UInt8.toNat_ofNat']
  omega
theorem lo8_inj {b : UInt8} {v : Nat} (hv : v < 128) : lo8 v = b ↔ b.toNat = v := by
  unfold lo8
  rw [← UInt8.toNat_inj, UInt8.toNat_ofNat']
  omega
theorem canon_iff : ∀ (l : List UInt8) (f : Nat), l ≠ [] → l.length ≤ f → (varN f (val7 l) = l ↔ canonP l)
  | [], _, h, _ => absurd rfl h
  | [b], f, _, hf => by
    have hb := b.toNat_lt
    simp only [List.length_singleton] at hf
    have hv : val7 [b] = b.toNat % 128 := by simp [val7]
    rw [hv, varN_small' hf (Nat.mod_lt _ (by omega))]
    simp only [List.cons.injEq, and_true, canonP]
    rw [lo8_inj (Nat.mod_lt _ (by omega))]
    omega
  | b :: c :: l, f, _, hf => by
    have hv : val7 (b :: c :: l) = b.toNat % 128 + 128 * val7 (c :: l) := rfl
    have hf1 : 1 ≤ f := by simp at hf; omega
    by_cases h0 : val7 (c :: l) = 0
    · rw [hv, h0, varN_small' hf1 (by omega)]
      simp [canonP, h0]
    · rw [hv, varN_big' hf1 (by omega)]
      have ih := canon_iff (c :: l) (f - 1) (by simp) (by simp at hf ⊢; omega)
      rw [show (b.toNat % 128 + 128 * val7 (c :: l)) / 128 = val7 (c :: l) by omega]
      simp only [List.cons.injEq, canonP]
      rw [hi7_inj]
      constructor
      · rintro ⟨h1, h2⟩
        exact ⟨h1, ih.1 h2, h0⟩
      · rintro ⟨h1, h2, _⟩
        exact ⟨h1, ih.2 h2⟩
theorem val7_snoc_pos : ∀ (l : List UInt8) (b : UInt8), 0 < b.toNat → b.toNat < 128 → val7 (l ++ [b]) ≠ 0
  | [], b, h, h2 => by simp only [List.nil_append, val7]; omega
  | a :: l, b, h, h2 => by
    have := val7_snoc_pos l b h h2
    simp only [List.cons_append, val7]; omega
theorem canon_snoc : ∀ (l : List UInt8) (b : UInt8), (∀ x ∈ l, 128 ≤ x.toNat) → b.toNat < 128 → (canonP (l ++ [b]) ↔ b.toNat ≠ 0 ∨ l = [])
  | [], b, _, hb => by simp [canonP, hb]
  | [a], b, ha, hb => by
    have := ha a (by simp)
    simp only [List.cons_append, List.nil_append, canonP, val7]
    constructor
    · rintro ⟨_, _, h⟩; left; omega
    · rintro (h | h)
      · exact ⟨this, hb, by omega⟩
      · cases h
  | a :: c :: l, b, ha, hb => by
    have h1 := ha a (by simp)
    have ih := canon_snoc (c :: l) b (fun x hx => ha x (by simp [hx])) hb
    simp only [List.cons_append] at ih ⊢
    simp only [canonP]
    constructor
    · rintro ⟨_, h, _⟩
      rcases ih.1 h with h | h
      · exact .inl h
      · cases h
    · rintro (h | h)
      · exact ⟨h1, ih.2 (.inl h), val7_snoc_pos (c :: l) b (by omega) hb⟩
      · cases h
theorem canon_shape : ∀ (l : List UInt8), canonP l → ∃ l0 b, l = l0 ++ [b] ∧ (∀ x ∈ l0, 128 ≤ x.toNat) ∧ b.toNat < 128
  | [], h => h.elim
  | [b], h => ⟨[], b, rfl, by simp, h⟩
  | a :: c :: l, ⟨h1, h2, _⟩ => by
    obtain ⟨l0, b, e, h3, h4⟩ := canon_shape (c :: l) h2
    exact ⟨a :: l0, b, by rw [e]; rfl, by
      intro x hx
      rcases List.mem_cons.1 hx with rfl | hx
      · exact h1
      · exact h3 x hx, h4⟩
/-- the first m bytes are the Var of a number -/
def Good (s : List UInt8) (m : Nat) : Prop := 1 ≤ m ∧ m ≤ 7 ∧ m ≤ s.length ∧ canonP (s.take m)
theorem Good.low {s : List UInt8} {m : Nat} (h : Good s m) : ∃ hm : m - 1 < s.length, (s[m - 1]'hm).toNat < 128 ∧ ∀ j (hj : j < m - 1), 128 ≤ (s[j]'(by omega)).toNat := by
  obtain ⟨h1, h7, hl, hc⟩ := h
  obtain ⟨l0, b, e, h3, h4⟩ := canon_shape _ hc
  have hlen : l0.length = m - 1 := by
    have := congrArg List.length e
    simp at this; omega
  refine ⟨by omega, ?_, fun j hj => ?_⟩
  · have : (s.take m)[m - 1]? = some b := by rw [e, List.getElem?_append_right (by omega)]; simp [hlen]
    rw [List.getElem?_take_of_lt (by omega), List.getElem?_eq_getElem (by omega)] at this
    rw [Option.some.inj this]; exact h4
  · have hj' : j < l0.length := by omega
    have : (s.take m)[j]? = some l0[j] := by rw [e, List.getElem?_append_left hj']; simp
    rw [List.getElem?_take_of_lt (by omega), List.getElem?_eq_getElem (by omega)] at this
    rw [Option.some.inj this]; exact h3 _ (List.getElem_mem hj')
theorem Good.uniq {s : List UInt8} {m k : Nat} (h : Good s m) (g : Good s k) : m = k := by
  have hm1 := h.1; have hk1 := g.1
  obtain ⟨a1, a2, a3⟩ := h.low
  obtain ⟨b1, b2, b3⟩ := g.low
  rcases Nat.lt_trichotomy (m - 1) (k - 1) with h | h | h
  · have := b3 (m - 1) h; omega
  · omega
  · have := a3 (k - 1) h; omega
/-- all of the first k bytes have 128 added -/
def Highs (s : List UInt8) (k : Nat) : Prop := ∀ x ∈ s.take k, 128 ≤ x.toNat
theorem Highs.no {s : List UInt8} {k m : Nat} (h : Highs s k) (hm : m ≤ k) : ¬ Good s m := fun g => by
  have h1 := g.1
  obtain ⟨a1, a2, _⟩ := g.low
  have := h s[m - 1] (by
    rw [List.mem_take_iff_getElem]
    exact ⟨m - 1, Nat.lt_min.2 ⟨by omega, by omega⟩, rfl⟩)
  omega
theorem Highs.step {s : List UInt8} {k : Nat} (h : Highs s k) (hk : k < s.length) (hb : 128 ≤ s[k].toNat) : Highs s (k + 1) := fun x hx => by
  rw [List.take_succ_eq_append_getElem hk] at hx
  rcases List.mem_append.1 hx with hx | hx
  · exact h x hx
  · rw [List.mem_singleton.1 hx]; exact hb
theorem Highs.good {s : List UInt8} {k : Nat} (h : Highs s k) (hk : k < s.length) (h7 : k < 7) (hb : s[k].toNat < 128) : Good s (k + 1) ↔ (s[k].toNat ≠ 0 ∨ k = 0) := by
  unfold Good
  rw [List.take_succ_eq_append_getElem hk, canon_snoc _ _ h hb]
  have he : s.take k = [] ↔ k = 0 := by
    rw [← List.length_eq_zero_iff, List.length_take]; omega
  rw [he]
  constructor
  · exact fun h => h.2.2.2
  · exact fun h => ⟨by omega, by omega, by omega, h⟩
/-- what ReadVar hands back -/
def rdV (s : List UInt8) (n m : Nat) : Prop := (Good s m ∧ n = val7 (s.take m)) ∨ (n = 0 ∧ m = 0 ∧ ∀ k, ¬ Good s k)
theorem rdV.uniq {s : List UInt8} {n m n' m' : Nat} (h : rdV s n m) (g : rdV s n' m') : n = n' ∧ m = m' := by
  rcases h with ⟨h1, h2⟩ | ⟨h1, h2, h3⟩ <;> rcases g with ⟨g1, g2⟩ | ⟨g1, g2, g3⟩
  · have := h1.uniq g1; subst this; exact ⟨by rw [h2, g2], rfl⟩
  · exact absurd h1 (g3 _)
  · exact absurd g1 (h3 _)
  · exact ⟨by omega, by omega⟩
theorem rdV_none {s : List UInt8} {k : Nat} (h : Highs s k) (hk : 7 ≤ k ∨ s.length ≤ k) : rdV s 0 0 :=
  .inr ⟨rfl, rfl, fun m g => h.no (by have := g.2.1; have := g.2.2.1; omega) g⟩
theorem rdV_bad {s : List UInt8} {k : Nat} (h : Highs s k) (hk : k < s.length) (h7 : k < 7) (hb : s[k].toNat < 128) (h0 : s[k].toNat = 0) (hp : 0 < k) : rdV s 0 0 := by
  refine .inr ⟨rfl, rfl, fun m g => ?_⟩
  by_cases hm : m ≤ k
  · exact h.no hm g
  · by_cases e : m = k + 1
    · subst e
      rcases (h.good hk h7 hb).1 g with h | h <;> omega
    · obtain ⟨a1, a2, a3⟩ := g.low
      have := a3 k (by omega)
      omega
theorem rdV_good {s : List UInt8} {k : Nat} (h : Highs s k) (hk : k < s.length) (h7 : k < 7) (hb : s[k].toNat < 128) (h0 : s[k].toNat ≠ 0 ∨ k = 0) : rdV s (val7 (s.take (k + 1))) (k + 1) :=
  .inl ⟨(h.good hk h7 hb).2 h0, rfl⟩
theorem val7_lt : ∀ l : List UInt8, val7 l < 128 ^ l.length
  | [] => by simp [val7]
  | b :: l => by
    have := val7_lt l
    simp only [val7, List.length_cons, Nat.pow_succ]; omega
theorem val7_snoc : ∀ (l : List UInt8) (b : UInt8), val7 (l ++ [b]) = val7 l + b.toNat % 128 * 128 ^ l.length
  | [], b => by simp [val7]
  | a :: l, b => by
    simp only [List.cons_append, val7, val7_snoc l b, List.length_cons, Nat.pow_succ, Nat.mul_add]
    rw [show b.toNat % 128 * (128 ^ l.length * 128) = 128 * (b.toNat % 128 * 128 ^ l.length) by
      rw [← Nat.mul_assoc, Nat.mul_comm]]
    omega
theorem val7_take_lt (s : List UInt8) (k : Nat) (h : k ≤ 7) : val7 (s.take k) < 562949953421312 := by
  refine Nat.lt_of_lt_of_le (val7_lt _) ?_
  have : 128 ^ (s.take k).length ≤ 128 ^ 7 := Nat.pow_le_pow_right (by omega) (by simp; omega)
  exact Nat.le_trans this (by decide)

theorem val7_step {s : List UInt8} {k : Nat} (hk : k < s.length) : val7 (s.take (k + 1)) = val7 (s.take k) + s[k].toNat % 128 * 128 ^ k := by
  rw [List.take_succ_eq_append_getElem hk, val7_snoc, List.length_take, Nat.min_eq_left (by omega)]
/-- n | x & 127 << 7k -/
theorem val7_or {s : List UInt8} {k : Nat} (hk : k < s.length) (h7 : k < 7) : bits .or .i64 (val7 (s.take k) : Int) (((s[k].toNat % 128 * 128 ^ k : Nat)) : Int) = ((val7 (s.take (k + 1)) : Nat) : Int) := by
  have h1 := val7_take_lt s k (by omega)
  have h2 := val7_take_lt s (k + 1) (by omega)
  have h3 := val7_lt (s.take k)
  rw [List.length_take, Nat.min_eq_left (by omega)] at h3
  rw [val7_step hk] at h2 ⊢
  rw [or_i64 _ _ (by omega) (by omega), Nat.or_comm]
  have e : (128 : Nat) ^ k = 2 ^ (7 * k) := by rw [show (128 : Nat) = 2 ^ 7 by decide, ← Nat.pow_mul]
  rw [e] at h3 ⊢
  rw [or_add _ _ _ h3, Nat.add_comm]
set_option maxHeartbeats 400000 in
set_option maxRecDepth 100000 in
theorem implReadVar_any (s : ByteArray) (hs : s.size ≤ 1048576) (w : World) : Calls Tryd.prog 21 #[.string s] w fun e w' => (∃ n m : Nat, e = .returned (.tuple #[iv n, iv m]) ∧ rdV s.data.toList n m) ∧ w = w' := by
  have hlen : s.data.toList.length = s.size := Array.length_toList
  have Hlen := Lib.hid hlen; clear hlen
  go_enter Tryd.func21, Tryd.ntmps21
  go_wp2_with fail
  go_loop [4, 5] (fun n i => ∃ k : Nat, k ≤ 7 ∧ k ≤ s.size ∧ i = iv k ∧ n = iv (val7 (s.data.toList.take k)) ∧ Highs s.data.toList k) (fun _ i => 8 - (intOf i).toNat)
  case atStart => exact ⟨0, by omega, by omega, rfl, rfl, by simp [Highs]⟩
  case round =>
    obtain ⟨k, h7, hk, rfl, rfl, hh⟩ := hrel
    have Hh := Lib.hid hh; clear hh
    have hv := val7_take_lt s.data.toList k h7
    by_cases hlt : k < 7
    · by_cases hlt2 : k < s.size
      · have hkl : k < s.data.toList.length := by rw [Hlen.out]; exact hlt2
        have hby := byte_le s[k]
        have hge : s.data.toList[k] = s[k] := by simp; rfl
        have hor := val7_or hkl hlt
        have hv1 := val7_take_lt s.data.toList (k + 1) (by omega)
        have hgood := Lib.hid (fun hb h0 => rdV_good Hh.out hkl hlt hb h0)
        have hbad := Lib.hid (fun hb h0 hp => rdV_bad Hh.out hkl hlt hb h0 hp)
        have hstep := Lib.hid (fun hb => Hh.out.step hkl hb)
        have hq : s[k].toNat % 128 * 128 ^ k < 9223372036854775808 := by
          have h3 : 128 ^ k ≤ 128 ^ 6 := Nat.pow_le_pow_right (by omega) (by omega)
          have h4 : s[k].toNat % 128 * 128 ^ k ≤ 127 * 128 ^ 6 := Nat.mul_le_mul (by omega) h3
          exact Nat.lt_of_le_of_lt h4 (by decide)
        have hsh : IntKind.i64.wrap ((s[k].toNat : Int) % 128 * 2 ^ (7 * k)) = ((s[k].toNat % 128 * 128 ^ k : Nat) : Int) := by
          have e : (128 : Nat) ^ k = 2 ^ (7 * k) := by rw [show (128 : Nat) = 2 ^ 7 by decide, ← Nat.pow_mul]
          rw [show (s[k].toNat : Int) % 128 * 2 ^ (7 * k) = ((s[k].toNat % 128 * 128 ^ k : Nat) : Int) by rw [e]; simp]
          exact wraps_i64 _ (by omega) (by omega)
        have ha := and127 s[k].toNat (by omega)
        rw [hge] at hor hgood hbad hstep
        clear hge
        generalize s[k].toNat % 128 * 128 ^ k = q at *
        generalize hv1e : val7 (s.data.toList.take (k + 1)) = v1 at *
        have Hv1 := Lib.hid hv1e; clear hv1e
        generalize hv0 : val7 (s.data.toList.take k) = v0 at *
        have Hv0 := Lib.hid hv0; clear hv0
        have hw64 : wrap64 ((s[k].toNat : Int) % 128 * 2 ^ (7 * k)) = (q : Int) := by
          rw [IntKind.wrap_i64] at hsh; unfold wrap64; exact hsh
        have Hsh := Lib.hid hsh; clear hsh
        by_cases hb : 128 ≤ s[k].toNat
        · go_wp2
          go_round
          case rel => exact ⟨k + 1, by omega, by omega, by go_num, by rw [Hv1.out], hstep.out hb⟩
          case measure => simp [intOf] <;> omega
        · by_cases h0 : s[k].toNat = 0
          · have t0 : ((s[k].toNat : Int) == 0) = true := by simp; omega
            have H0 := Lib.hid h0; clear h0
            by_cases hp : 0 < k
            · go_wp2
              go_ret2
              exact ⟨⟨0, 0, rfl, hbad.out (by omega) H0.out hp⟩, rfl⟩
            · go_wp2
              go_ret2
              exact ⟨⟨v1, k + 1, rfl, hgood.out (by omega) (.inr (by omega))⟩, rfl⟩
          · have t0 : ((s[k].toNat : Int) == 0) = false := by simp; omega
            go_wp2
            go_ret2
            exact ⟨⟨v1, k + 1, rfl, hgood.out (by omega) (.inl h0)⟩, rfl⟩
      · have hn := Lib.hid (rdV_none Hh.out (.inr (by rw [Hlen.out]; omega)))
        go_wp2
        go_ret2
        exact ⟨⟨0, 0, rfl, hn.out⟩, rfl⟩
    · have hn := Lib.hid (rdV_none Hh.out (.inl (by omega)))
      go_wp2
      go_ret2
      exact ⟨⟨0, 0, rfl, hn.out⟩, rfl⟩

theorem val7_down {s : List UInt8} {k q : Nat} (hk : k ≤ s.length) (hq : q < k) : val7 ((s.take k).drop q) = s[q].toNat % 128 + 128 * val7 ((s.take k).drop (q + 1)) := by
  have hl : q < (s.take k).length := by simp; omega
  rw [List.drop_eq_getElem_cons hl, List.getElem_take]; rfl
theorem val7_drop_lt {s : List UInt8} {k q : Nat} (hk : k ≤ 7) (hq : 1 ≤ q) : val7 ((s.take k).drop q) < 4398046511104 := by
  refine Nat.lt_of_lt_of_le (val7_lt _) ?_
  have : 128 ^ ((s.take k).drop q).length ≤ 128 ^ 6 := Nat.pow_le_pow_right (by omega) (by simp; omega)
  exact Nat.le_trans this (by decide)
theorem good_var {s : List UInt8} {k : Nat} (h1 : 1 ≤ k) (h7 : k ≤ 7) (hk : k ≤ s.length) : (varI (val7 (s.take k)) = s.take k) ↔ Good s k := by
  have hv := val7_take_lt s k h7
  rw [varI_in ⟨by omega, by omega⟩, Int.toNat_natCast]
  have hne : s.take k ≠ [] := by
    intro h
    have := congrArg List.length h
    rw [List.length_take, List.length_nil] at this; omega
  rw [canon_iff _ 7 hne (by simp; omega)]
  unfold Good
  exact ⟨fun h => ⟨h1, h7, hk, h⟩, fun h => h.2.2.2⟩
theorem ext_take (s : ByteArray) (k : Nat) : (s.extract 0 k).toList = s.data.toList.take k := by
  obtain ⟨⟨l⟩⟩ := s
  rw [ByteArray.toList_eq, ByteArray.extract_mk]
  simp
end Go.Proofs.YtlploojfcmcckaaDoor
