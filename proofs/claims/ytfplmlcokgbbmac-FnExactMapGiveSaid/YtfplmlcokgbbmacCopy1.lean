/- The contracts of the laws' copies and comparisons of slices of one-cell elements. No conditions. -/
import Derived.Test.YtfplmlcokgbbmacRows
import Derived.Test.YtfplmlcokgbbmacLibOps
import Derived.Test.YtfplmlcokgbbmacNumL
namespace Go.Proofs.Ytfplmlcokgbbmac
open Go.RowKit

/-- a new slice that reads as l; nothing that was there has turned -/
def Fresh {α : Type} [Ty α] (w : World) (l : List α) (e : Ending) (w' : World) : Prop := ∃ v, e = .returned v ∧ Own w.heap.size w' l v ∧ Below w.heap.size w w'
def eqL {α : Type} [DecidableEq α] (a b : List α) : Bool := decide (a = b)
theorem take_set {α : Type} {l l' : List α} {k : Nat} (hk : k < l.length) (hl : l'.length = l.length) (h : l'.take k = l.take k) : (l'.set k l[k]).take (k + 1) = l.take (k + 1) := by
  rw [List.take_succ_eq_append_getElem hk, List.take_succ_eq_append_getElem (by rw [List.length_set]; omega), List.take_set, List.getElem_set_self, h, List.set_eq_of_length_le (by simp; omega)]
theorem take_all {α : Type} {l l' : List α} {k : Nat} (hk : k = l.length) (hl : l'.length = l.length) (h : l'.take k = l.take k) : l' = l := by
  subst hk; rwa [List.take_of_length_le (by omega), List.take_of_length_le (by omega)] at h
theorem take_ne {α : Type} [DecidableEq α] {a b : List α} {k : Nat} (ha : k < a.length) (hb : k < b.length) (h : a[k] ≠ b[k]) : eqL a b = false := by
  unfold eqL; simp only [decide_eq_false_iff_not]; intro e; subst e; exact h rfl
theorem take_eq {α : Type} [DecidableEq α] {a b : List α} (hl : a.length = b.length) (h : a.take a.length = b.take a.length) : eqL a b = true := by
  unfold eqL; simp only [decide_eq_true_eq]; rwa [List.take_of_length_le (by omega), List.take_of_length_le (by omega)] at h
theorem take_more {α : Type} {a b : List α} {k : Nat} (ha : k < a.length) (hb : k < b.length) (h : a.take k = b.take k) (he : a[k] = b[k]) : a.take (k + 1) = b.take (k + 1) := by
  rw [List.take_succ_eq_append_getElem ha, List.take_succ_eq_append_getElem hb, h, he]
theorem len_ne {α : Type} [DecidableEq α] {a b : List α} (h : a.length ≠ b.length) : eqL a b = false := by
  unfold eqL; simp only [decide_eq_false_iff_not]; intro e; subst e; exact h rfl
theorem RdS.below {α : Type} [Ty α] {w w' : World} {l : List α} {v : Value} (h : RdS w l v) (hb : Below w.heap.size w w') : RdS w' l v := h.ext (Ext.below hb)
theorem below_drewN {w : World} (n : Nat) : Below w.heap.size w (w.drewN n) := ⟨rfl, rfl, rfl, Nat.le_refl _, fun _ _ => rfl⟩
theorem RdS.drewN {α : Type} [Ty α] {w : World} {l : List α} {v : Value} (h : RdS w l v) (n : Nat) : RdS (w.drewN n) l v := h.below (below_drewN n)
theorem getD_of {α : Type} {l : List α} {k : Nat} (h : k < l.length) (d : α) : l[k]?.getD d = l[k] := by simp [h]


theorem Try.infoEBool : (Try.prog.info? 4).map (fun i => (i.zero, i.size, i.bytes)) = some (some (.bool false), 1, 1) := by kernel_rfl
theorem toBoolS_any (l : List Bool) (v : Value) (hl : l.length ≤ 1048576) (w : World) (h : RdS w l v) : Calls Try.prog 6 #[v] w (Fresh w l) := by
  suffices hs : Calls Try.prog 6 #[v] w fun e w' => ∃ l', e = .returned (.slice (some ⟨w.heap.size, 0, none⟩) l.length l.length) ∧ l' = l ∧ OwnS w' [w.heap.size] l' (.slice (some ⟨w.heap.size, 0, none⟩) l.length l.length) ∧ Below w.heap.size w w' by
    refine hs.mono fun e w' ⟨l', he, hll, ho, hb⟩ => ⟨_, he, ?_, hb⟩
    subst hll
    exact ⟨_, ho, by simp, by simp⟩
  obtain ⟨i, hi, hz0, hz1, hz2⟩ := info_parts Try.infoEBool
  have hb1 : i.bytes ≤ 1024 := by omega
  clear hz2
  rcases h.cases with ⟨rfl, a, cap, rfl⟩ | ⟨hp, b, off, cap, rfl, h'⟩
  · clear h
    go_enter Try.func6, Try.ntmps6
    go_wp2_with (at_make; refine wpList_mk (α := Bool) rfl _ _ 22 rfl 4 i (.bool false) false Try.underlying22 hi hz0 hz1 hb1 rfl (fun _ => ⟨rfl, rfl⟩) .i64 .i64 _ _ 0 rfl rfl rfl rfl (by omega) ?_; intro w1 ho1 hu1 hz1')
    refine wp_loop_once ?_
    go_wp2
    go_ret
    exact ⟨[], rfl, rfl, ho1, hu1.nil⟩
  · clear h
    generalize hn : l.length = n at *
    have Hn := Lib.hid hn; clear hn
    go_enter Try.func6, Try.ntmps6
    go_wp2_with (at_make; refine wpList_mk (α := Bool) rfl _ _ 22 rfl 4 i (.bool false) false Try.underlying22 hi hz0 hz1 hb1 rfl (fun _ => ⟨rfl, rfl⟩) .i64 .i64 _ _ n rfl rfl rfl rfl (by omega) ?_; intro w1 ho1 hu1 hz1')
    go_loopw [4] (fun i wr => ∃ (k : Nat) (l' : List Bool), k ≤ n ∧ i = iv k ∧ l'.length = n ∧ l'.take k = l.take k ∧ OwnS wr [w.heap.size] l' (.slice (some ⟨w.heap.size, 0, none⟩) n n) ∧ Below w.heap.size w wr) (fun i _ => n - (intOf i).toNat)
    case atStart => exact ⟨0, _, by omega, rfl, by simp, by simp, ho1, hu1.nil⟩
    case round =>
      obtain ⟨k, l', hk, rfl, hl', htk, ho, hb⟩ := hrel
      have Hl := Lib.hid hl'; clear hl'
      have Ht := Lib.hid htk; clear htk
      by_cases hlt : k < n
      · have hkl : k < l.length := by rw [Hn.out]; exact hlt
        have hc := (h'.below hb).cell k hkl
        obtain ⟨_, hcell, hfz, hset⟩ := ho.store1z k (by rw [Hl.out]; omega)
        have hset := hset l[k]
        have Hts := Lib.hid (take_set hkl (by rw [Hl.out, Hn.out]) Ht.out)
        generalize l[k] = x at *
        simp only [One.val] at hc hset
        go_wp2
        go_roundw
        case rel => exact ⟨k + 1, l'.set k x, by omega, by go_num, by rw [List.length_set]; exact Hl.out, Hts.out, hset.1, hb.setCell (by exact Nat.le_refl _) _⟩
        case measure => simp [intOf] <;> omega
      · go_wp2
        go_ret
        exact ⟨l', rfl, take_all (by rw [Hn.out]; omega) (by rw [Hl.out, Hn.out]) Ht.out, ho, hb⟩
theorem eqBoolS_any (a b : List Bool) (va vb : Value) (_ha : a.length ≤ 4194304) (_hb : b.length ≤ 4194304) (w : World) (h1 : RdS w a va) (h2 : RdS w b vb) :
    Calls Try.prog 8 #[va, vb] w fun e w' => e = .returned (.bool (eqL a b)) ∧ ∃ n, w' = w.drewN n := by
  by_cases hlen : a.length = b.length
  · have hne : ((a.length : Int) != (b.length : Int)) = false := by simp; omega
    rcases h1.cases with ⟨rfl, x, cap, rfl⟩ | ⟨hp, b1, o1, c1, rfl, h1'⟩
    · obtain rfl : b = [] := List.eq_nil_of_length_eq_zero (by simpa using hlen.symm)
      obtain ⟨y, cap2, _, rfl, _⟩ := h2
      go_enter Try.func8, Try.ntmps8
      go_wp2_with fail
      refine wp_loop_once ?_
      go_wp2
      go_ret
      exact ⟨rfl, 0, rfl⟩
    · rcases h2.cases with ⟨rfl, x, cap, rfl⟩ | ⟨_, b2, o2, c2, rfl, h2'⟩
      · rw [hlen] at hp; simp at hp
      rw [← hlen] at hne h2' ⊢
      clear h1 h2
      generalize hn : a.length = n at *
      have Hn := Lib.hid hn; clear hn
      have Hl := Lib.hid hlen; clear hlen hne
      go_enter Try.func8, Try.ntmps8
      go_wp2_with fail
      go_loopw [5] (fun i wr => ∃ k : Nat, k ≤ n ∧ i = iv k ∧ a.take k = b.take k ∧ ∃ m, wr = w.drewN m) (fun i _ => n - (intOf i).toNat)
      case atStart => exact ⟨0, by omega, rfl, by simp, 0, rfl⟩
      case round =>
        obtain ⟨k, hk, rfl, htk, m, rfl⟩ := hrel
        have Ht := Lib.hid htk; clear htk
        by_cases hlt : k < n
        · have hka : k < a.length := by rw [Hn.out]; exact hlt
          have hkb : k < b.length := by rw [← Hl.out]; exact hlt
          have hca := h1'.cell k hka
          have hcb := h2'.cell k hkb
          simp only [One.val] at hca hcb
          by_cases he : a[k] = b[k]
          · have Hts := Lib.hid (take_more hka hkb Ht.out he)
            rw [← he] at hcb
            clear he
            generalize a[k] = x at *
            go_wp2_with fail
            go_quiet (fail)
            go_wp2
            go_roundw
            case rel => exact ⟨k + 1, by omega, by go_num, Hts.out, m + nq, by first | rfl | rw [World.drewN_drewN]⟩
            case measure => simp [intOf] <;> omega
          · have hf := Lib.hid (take_ne hka hkb he)
            have hx : (a[k] != b[k]) = true := by simpa using he
            have hx2 : (a[k] == b[k]) = false := by simpa using he
            generalize a[k] = x at *
            generalize b[k] = y at *
            go_wp2_with fail
            go_quiet (fail)
            go_wp2
            go_ret
            exact ⟨ret_bool hf.out.symm, m + nq, by first | rfl | rw [World.drewN_drewN]⟩
        · go_wp2
          go_ret
          obtain rfl : k = n := by omega
          exact ⟨ret_bool (take_eq (by rw [Hn.out]; exact Hl.out) (by rw [Hn.out]; exact Ht.out)).symm, m, rfl⟩
  · have hne : ((a.length : Int) != (b.length : Int)) = true := by simp; omega
    have hf := Lib.hid (len_ne hlen)
    obtain ⟨x, cx, _, rfl, _⟩ := h1
    obtain ⟨y, cy, _, rfl, _⟩ := h2
    clear hlen
    go_enter Try.func8, Try.ntmps8
    go_wp2
    go_ret
    exact ⟨ret_bool hf.out.symm, 0, rfl⟩

theorem eqIntS_any (a b : List Int) (va vb : Value) (_ha : a.length ≤ 4194304) (_hb : b.length ≤ 4194304) (w : World) (h1 : RdS w a va) (h2 : RdS w b vb) :
    Calls Try.prog 24 #[va, vb] w fun e w' => e = .returned (.bool (eqL a b)) ∧ ∃ n, w' = w.drewN n := by
  by_cases hlen : a.length = b.length
  · have hne : ((a.length : Int) != (b.length : Int)) = false := by simp; omega
    rcases h1.cases with ⟨rfl, x, cap, rfl⟩ | ⟨hp, b1, o1, c1, rfl, h1'⟩
    · obtain rfl : b = [] := List.eq_nil_of_length_eq_zero (by simpa using hlen.symm)
      obtain ⟨y, cap2, _, rfl, _⟩ := h2
      go_enter Try.func24, Try.ntmps24
      go_wp2_with fail
      refine wp_loop_once ?_
      go_wp2
      go_ret
      exact ⟨rfl, 0, rfl⟩
    · rcases h2.cases with ⟨rfl, x, cap, rfl⟩ | ⟨_, b2, o2, c2, rfl, h2'⟩
      · rw [hlen] at hp; simp at hp
      rw [← hlen] at hne h2' ⊢
      clear h1 h2
      generalize hn : a.length = n at *
      have Hn := Lib.hid hn; clear hn
      have Hl := Lib.hid hlen; clear hlen hne
      go_enter Try.func24, Try.ntmps24
      go_wp2_with fail
      go_loopw [5] (fun i wr => ∃ k : Nat, k ≤ n ∧ i = iv k ∧ a.take k = b.take k ∧ ∃ m, wr = w.drewN m) (fun i _ => n - (intOf i).toNat)
      case atStart => exact ⟨0, by omega, rfl, by simp, 0, rfl⟩
      case round =>
        obtain ⟨k, hk, rfl, htk, m, rfl⟩ := hrel
        have Ht := Lib.hid htk; clear htk
        by_cases hlt : k < n
        · have hka : k < a.length := by rw [Hn.out]; exact hlt
          have hkb : k < b.length := by rw [← Hl.out]; exact hlt
          have hca := h1'.cell k hka
          have hcb := h2'.cell k hkb
          simp only [One.val] at hca hcb
          by_cases he : a[k] = b[k]
          · have Hts := Lib.hid (take_more hka hkb Ht.out he)
            rw [← he] at hcb
            clear he
            generalize a[k] = x at *
            go_wp2_with fail
            go_quiet (fail)
            go_wp2
            go_roundw
            case rel => exact ⟨k + 1, by omega, by go_num, Hts.out, m + nq, by first | rfl | rw [World.drewN_drewN]⟩
            case measure => simp [intOf] <;> omega
          · have hf := Lib.hid (take_ne hka hkb he)
            have hx : (a[k] != b[k]) = true := by simpa using he
            have hx2 : (a[k] == b[k]) = false := by simpa using he
            generalize a[k] = x at *
            generalize b[k] = y at *
            go_wp2_with fail
            go_quiet (fail)
            go_wp2
            go_ret
            exact ⟨ret_bool hf.out.symm, m + nq, by first | rfl | rw [World.drewN_drewN]⟩
        · go_wp2
          go_ret
          obtain rfl : k = n := by omega
          exact ⟨ret_bool (take_eq (by rw [Hn.out]; exact Hl.out) (by rw [Hn.out]; exact Ht.out)).symm, m, rfl⟩
  · have hne : ((a.length : Int) != (b.length : Int)) = true := by simp; omega
    have hf := Lib.hid (len_ne hlen)
    obtain ⟨x, cx, _, rfl, _⟩ := h1
    obtain ⟨y, cy, _, rfl, _⟩ := h2
    clear hlen
    go_enter Try.func24, Try.ntmps24
    go_wp2
    go_ret
    exact ⟨ret_bool hf.out.symm, 0, rfl⟩
end Go.Proofs.Ytfplmlcokgbbmac
