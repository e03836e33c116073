/- slices.Clone, MapGive. No conditions. -/
import Derived.Test.YtfplmlcokgbbmacMap
import Derived.Test.YtfplmlcokgbbmacMark
import Derived.Lib.SliceRun
namespace Go.Proofs.Ytfplmlcokgbbmac
open Go.RowKit
theorem RdL.flat {α : Type} [Flat α] {w w' : World} : ∀ {l : List α} {cs : List Value}, RdL w l cs → OwnL w' [] l cs
  | [], _, h => ⟨rfl, h⟩
  | _ :: _, _, ⟨c1, c2, h, h1, h2⟩ => ⟨[], [], c1, c2, rfl, h, Flat.own_iff.2 ⟨rfl, Flat.rd_iff.1 h1⟩, RdL.flat h2⟩
/-- append of what a slice of elements without memory behind them holds -/
theorem wpList_apps {α : Type} [Flat α] {P : Program} {w : World} {ops : Array Oper} {rest : List Oper} {o : Oper} {a : Act} {Q : Exit → Act → World → Prop} (hgd : o.guard = none) (s x : Operand) (t : TypeId)
    (ho : o.op = .call { callee := .builtin .append, args := #[s, x], argTypes := #[t, t] })
    (e : TypeId) (i : TypeInfo) (z : Value) (ht : P.underlying t = some (.slice e)) (hi : P.info? e = some i) (hz : i.zero = some z)
    (hsize : i.size = Ty.n α) (hby : i.bytes ≤ 1024) (hzs : z.cells.size = Ty.n α)
    {B : Nat} {l ys : List α} {v : Value} (hs : a.eval s = v) (h : Own B w l v) (ad : Addr) (m c : Nat) (hx : a.eval x = .slice (some ad) m c) (hy : RdS w ys (.slice (some ad) m c))
    (hB : B ≤ w.heap.size) (hbig : l.length + ys.length ≤ 4194304)
    (hk : ∀ v' w', Own B w' (l ++ ys) v' → Below B w w' → wpList P ops Q rest (a.put o.dst v') w') : wpList P ops Q (o :: rest) a w := by
  obtain ⟨fp, h1, h2, h3⟩ := h
  obtain ⟨a', cap, cs, hv, g1, g2, g3, g4⟩ := hy
  cases hv
  refine wpList_app hgd s x t ho e i z ht hi hz hsize hby hzs (fp := fp) (fq := []) (ys := ys) (news := cs) hs h1 ad ys.length c hx rfl g3.flat ?_ hbig (by simpa using h2) ?_
  · intro j u hj
    have hne : ys ≠ [] := by
      intro e; subst e
      have := g3.length; simp at this; subst this; simp at hj
    obtain ⟨b, off, he, hc⟩ := g4 hne
    cases he
    rw [show (Addr.mk b off none).add j = ⟨b, off + j, none⟩ from Addr.add_lit ..]
    exact hc j u hj
  · intro v' w' fp' k1 k2 k3 k4
    refine hk v' w' ⟨fp', k1, k3, fun b hb => ?_⟩ (k2.below hB h3)
    rcases k4 b hb with h | h | h
    · exact h3 b h
    · cases h
    · omega
theorem Own.none {α : Type} [Ty α] (B : Nat) (w : World) : Own B w ([] : List α) (.slice none 0 0) := ⟨[], .inl ⟨rfl, rfl, rfl⟩, by simp, by simp⟩
theorem Own.below {α : Type} [Ty α] {B : Nat} {w w' : World} {l : List α} {v : Value} (h : Own B w l v) (hb : Below w.heap.size w w') : Own B w' l v :=
  let ⟨fp, h1, h2, h3⟩ := h
  ⟨fp, h1.frame fun b hb' => hb.block b (h1.lt b hb'), h2, h3⟩
theorem own_form {α : Type} [Ty α] {B : Nat} {w : World} {l : List α} {v : Value} (h : Own B w l v) (n : Nat) (hn : l.length = n) (hp : 0 < n) :
    ∃ fp b off cap, v = .slice (some ⟨b, off, none⟩) n cap ∧ OwnS w fp l (.slice (some ⟨b, off, none⟩) n cap) ∧ fp.Nodup ∧ ∀ b ∈ fp, B ≤ b := by
  subst hn
  obtain ⟨fp, h1, h2, h3⟩ := h
  rcases h1.rd.cases with ⟨rfl, _⟩ | ⟨_, b, off, cap, rfl, _⟩
  · simp at hp
  · exact ⟨fp, b, off, cap, rfl, h1, h2, h3⟩
theorem Try.infoCBool : (Try.prog.info? 4).map (fun i => (i.zero, i.size, i.bytes)) = some (some (.bool false), 1, 1) := by kernel_rfl
theorem cloneBool_any (l : List Bool) (v : Value) (w : World) (h : RdS w l v) (hl : l.length ≤ 4194304) : Calls Try.prog 18 #[v] w (Fresh w l) := by
  obtain ⟨i, hi, hz0, hz1, hz2⟩ := info_parts Try.infoCBool
  have hb1 : i.bytes ≤ 1024 := by omega
  clear hz2
  have h0 := h
  have qT : ∀ (w : World) (a : Option Addr) (n c n' c' : Nat), (binOp .eql 22 (.slice a n c) (.slice none n' c')).run Try.prog w = .ok (.bool a.isNone) w := fun w a n c n' c' => Lib.run_eql_slice_nil w _ _ a n c n' c' Try.underlying22
  obtain ⟨a, cap, cs, rfl, h1, h2, h3, h4⟩ := h
  cases a with
  | none =>
    have hl0 : l = [] := by
      by_cases hne : l = []
      · exact hne
      · obtain ⟨b, off, he, _⟩ := h4 hne; cases he
    subst hl0
    clear h0 h3 h4
    go_enter Try.func18, Try.ntmps18
    go_wp2
    go_ret
    exact ⟨_, rfl, Own.none _ _, Below.refl _ _⟩
  | some ad =>
    clear h1 h2 h3 h4
    generalize hn : l.length = n at *
    have Hn := Lib.hid hn; clear hn
    go_enter Try.func18, Try.ntmps18
    go_wp2_with (at_builtin; refine wpList_apps rfl _ _ 22 rfl 4 i (.bool false) Try.underlying22 hi hz0 hz1 hb1 rfl (B := w.heap.size) (l := []) (ys := l) rfl (Own.built0 (α := Bool) w 4) ad n cap rfl (h0.ext (Ext.below ((Below.refl _ _).alloc (Nat.le_refl _) _))) (by simp) (by simp; rw [Hn.out]; exact hl) ?_; intro v' w' ho hb)
    go_wp2
    go_ret
    exact ⟨_, rfl, by simpa using ho, ((Below.refl _ _).alloc (Nat.le_refl _) _).trans (hb.mono (by simp))⟩
/-- the slice with a frame given back, and whether it was -/
def mapGive (l : List Bool) (f : Int) : List Bool × Bool := if l.length = 16 then (if 0 ≤ f ∧ f < 16 ∧ l[f.toNat]? = some true then (l.set f.toNat false, true) else (l, false)) else ([], false)
theorem mapGive_bad {l : List Bool} {f : Int} (h : l.length ≠ 16) : mapGive l f = ([], false) := by unfold mapGive; rw [if_neg h]
theorem mapGive_out {l : List Bool} {f : Int} (h : l.length = 16) (hf : ¬(0 ≤ f ∧ f < 16)) : mapGive l f = (l, false) := by unfold mapGive; rw [if_pos h, if_neg (fun h => hf ⟨h.1, h.2.1⟩)]
theorem mapGive_free {l : List Bool} {k : Nat} (h : l.length = 16) (hk : k < l.length) (hx : l[k] = false) : mapGive l k = (l, false) := by
  unfold mapGive; rw [if_pos h, if_neg]
  rintro ⟨_, _, h3⟩
  rw [Int.toNat_natCast, List.getElem?_eq_getElem hk, hx] at h3
  cases h3
theorem mapGive_took {l : List Bool} {k : Nat} (h : l.length = 16) (hk : k < l.length) (hx : l[k] = true) : mapGive l k = (l.set k false, true) := by
  unfold mapGive; rw [if_pos h, if_pos]
  · simp
  · exact ⟨by omega, by omega, by rw [Int.toNat_natCast, List.getElem?_eq_getElem hk, hx]⟩
theorem mapGive_len (l : List Bool) (f : Int) : (mapGive l f).1.length ≤ 16 := by
  unfold mapGive
  split
  · split <;> simp <;> omega
  · simp
def GiveR (w : World) (r : List Bool × Bool) (e : Ending) (w' : World) : Prop := ∃ v, e = .returned (.tuple #[v, .bool r.2]) ∧ Own w.heap.size w' r.1 v ∧ Below w.heap.size w w'
theorem in16_any (f : Int) (w : World) (b : Bool) (hb : b = decide (0 ≤ f ∧ f < 16)) : Calls Try.prog 23 #[iv f, iv 0, iv 15] w fun e w' => e = .returned (.bool b) ∧ w = w' := by
  subst hb
  by_cases h0 : 0 ≤ f
  · by_cases h1 : f ≤ 15
    · rw [show decide (0 ≤ f ∧ f < 16) = true by simp; omega]
      go_enter Try.func23, Try.ntmps23
      go_wp2
      go_ret
      exact ⟨rfl, rfl⟩
    · rw [show decide (0 ≤ f ∧ f < 16) = false by simp; omega]
      go_enter Try.func23, Try.ntmps23
      go_wp2
      go_ret
      exact ⟨rfl, rfl⟩
  · rw [show decide (0 ≤ f ∧ f < 16) = false by simp; omega]
    go_enter Try.func23, Try.ntmps23
    go_wp2
    go_ret
    exact ⟨rfl, rfl⟩
theorem isFrame_any (f : Int) (w : World) (b : Bool) (hb : b = decide (0 ≤ f ∧ f < 16)) : Calls Try.prog 19 #[iv f] w fun e w' => e = .returned (.bool b) ∧ w = w' := by
  have Hb := Lib.hid hb; clear hb
  go_enter Try.func19, Try.ntmps19
  go_wp2_with fail
  refine (in16_any f _ b Hb.out).mono ?_
  rintro e _ ⟨rfl, rfl⟩
  go_wp2
  go_ret
  exact ⟨rfl, rfl⟩
theorem isFrame_yes (k : Nat) (hk : k < 16) (w : World) : Calls Try.prog 19 #[iv k] w fun e w' => e = .returned (.bool true) ∧ w = w' := isFrame_any _ w true (by simp; omega)
theorem isFrame_no (f : Int) (hf : ¬(0 ≤ f ∧ f < 16)) (w : World) : Calls Try.prog 19 #[iv f] w fun e w' => e = .returned (.bool false) ∧ w = w' := isFrame_any _ w false (by simp only [Bool.false_eq, decide_eq_false_iff_not]; exact hf)
theorem implMapGive_any (l : List Bool) (v : Value) (f : Int) (w : World) (h : RdS w l v) : Calls Try.prog 7 #[v, iv f] w (GiveR w (mapGive l f)) := by
  have h0 := h
  obtain ⟨a, cap, cs, rfl, h1, h2, h3, h4⟩ := h
  clear h1 h2 h3 h4
  by_cases hl : l.length = 16
  · by_cases hf : 0 ≤ f ∧ f < 16
    · obtain ⟨k, rfl⟩ : ∃ k : Nat, f = k := ⟨f.toNat, by omega⟩
      have hk : k < 16 := by omega
      have hkl : k < l.length := by omega
      clear hf
      rcases h0.cases with ⟨rfl, _⟩ | ⟨hp, b, off, cap', he, h'⟩
      · simp at hl
      cases he
      have hmo := mapOk_true hl
      have hfree := Lib.hid (mapGive_free hl hkl)
      have htook := Lib.hid (mapGive_took hl hkl)
      rw [hl] at h0 ⊢
      have Hl := Lib.hid hl; clear hl hp h'
      cases hx : l[k] with
      | false =>
        rw [hfree.out hx]
        go_enter Try.func7, Try.ntmps7
        go_wp2_with fail
        refine (implMapOk_any l _ _ h0).mono ?_
        rintro e _ ⟨rfl, rfl⟩
        rw [hmo]
        go_wp2_with fail
        refine (cloneBool_any l _ _ h0 (by rw [Hl.out]; omega)).mono ?_
        rintro e w1 ⟨v1, rfl, ho1, hb1⟩
        go_wp2_with fail
        refine (isFrame_yes k hk _).mono ?_
        rintro e _ ⟨rfl, rfl⟩
        have hr1 := h0.below hb1
        rw [show (16 : Nat) = l.length from Hl.out.symm] at hr1
        have hc := hr1.cell k hkl
        rw [hx] at hc
        simp only [One.val] at hc
        go_wp2
        go_ret2
        exact ⟨v1, rfl, ho1, hb1⟩
      | true =>
        rw [htook.out hx]
        go_enter Try.func7, Try.ntmps7
        go_wp2_with fail
        refine (implMapOk_any l _ _ h0).mono ?_
        rintro e _ ⟨rfl, rfl⟩
        rw [hmo]
        go_wp2_with fail
        refine (cloneBool_any l _ _ h0 (by rw [Hl.out]; omega)).mono ?_
        rintro e w1 ⟨v1, rfl, ho1, hb1⟩
        go_wp2_with fail
        refine (isFrame_yes k hk _).mono ?_
        rintro e _ ⟨rfl, rfl⟩
        have hr1 := h0.below hb1
        rw [show (16 : Nat) = l.length from Hl.out.symm] at hr1
        have hc := hr1.cell k hkl
        rw [hx] at hc
        simp only [One.val] at hc
        obtain ⟨fp, hof, hnd, hge⟩ := ho1
        rcases hof.rd.cases with ⟨rfl, _⟩ | ⟨_, b1, off1, cap1, rfl, h'⟩
        · have := Hl.out; simp at this
        obtain ⟨_, hcell, hfz, hset⟩ := hof.store1 k hkl
        have hset := hset false
        rw [hx] at hcell
        simp only [One.val] at hcell hset
        have hl16 := Hl.out
        rw [hl16]
        rw [hl16] at hset
        go_wp2
        go_ret2
        exact ⟨_, rfl, ⟨fp, hset.1, hnd, hge⟩, hb1.trans (hset.2.below hb1.size hge)⟩
    · rw [mapGive_out hl hf]
      have hmo := mapOk_true hl
      have Hl := Lib.hid hl; clear hl
      go_enter Try.func7, Try.ntmps7
      go_wp2_with fail
      refine (implMapOk_any l _ _ h0).mono ?_
      rintro e _ ⟨rfl, rfl⟩
      rw [hmo]
      go_wp2_with fail
      refine (cloneBool_any l _ _ h0 (by rw [Hl.out]; omega)).mono ?_
      rintro e w1 ⟨v1, rfl, ho1, hb1⟩
      go_wp2_with fail
      refine (isFrame_no f hf _).mono ?_
      rintro e _ ⟨rfl, rfl⟩
      go_wp2
      go_ret2
      exact ⟨v1, rfl, ho1, hb1⟩
  · rw [mapGive_bad hl]
    have hmo := mapOk_false hl
    clear hl
    go_enter Try.func7, Try.ntmps7
    go_wp2_with fail
    refine (implMapOk_any l _ _ h0).mono ?_
    rintro e _ ⟨rfl, rfl⟩
    rw [hmo]
    go_wp2
    go_ret2
    exact ⟨_, rfl, Own.none _ _, Below.refl _ _⟩
theorem specMapGive_any (l : List Bool) (v : Value) (f : Int) (w : World) (h : RdS w l v) : Calls Try.prog 5 #[v, iv f] w (GiveR w (mapGive l f)) := by
  obtain ⟨i, hi, hz0, hz1, hz2⟩ := info_parts Try.infoCBool
  have hib : i.bytes ≤ 1024 := by omega
  clear hz2
  have h0 := h
  obtain ⟨a, cap, cs, rfl, h1, h2, h3, h4⟩ := h
  clear h1 h2 h3 h4
  by_cases hl : l.length = 16
  · rcases h0.cases with ⟨rfl, _⟩ | ⟨hp, b, off, cap', he, h'⟩
    · simp at hl
    cases he
    have hmo := mapOk_true hl
    have hbad := Lib.hid (mapGive_out (f := f) hl)
    have hfree := Lib.hid (fun k => mapGive_free (k := k) hl)
    have htook := Lib.hid (fun k => mapGive_took (k := k) hl)
    rw [hl] at h0 ⊢
    have Hl := Lib.hid hl; clear hl hp h'
    by_cases hf0 : f < 0
    · rw [hbad.out (by omega)]
      go_enter Try.func5, Try.ntmps5
      go_wp2_with fail
      refine (specMapOk_any l _ _ h0).mono ?_
      rintro e _ ⟨rfl, rfl⟩
      rw [hmo]
      go_wp2_with (at_builtin; refine wpList_apps rfl _ _ 22 rfl 4 i (.bool false) Try.underlying22 hi hz0 hz1 hib rfl (B := w.heap.size) (l := []) (ys := l) rfl (Own.built0 (α := Bool) w 4) ⟨b, off, none⟩ 16 cap rfl (h0.ext (Ext.below ((Below.refl _ _).alloc (Nat.le_refl _) _))) (by simp) (by simp; rw [Hl.out]; omega) ?_; intro v1 w1 ho1 hbb; rw [List.nil_append] at ho1; obtain ⟨fp, b1, off1, cap1, rfl, hof, hnd, hge⟩ := own_form ho1 16 Hl.out (by omega))
      go_ret2
      have hb1 : Below w.heap.size w w1 := ((Below.refl _ _).alloc (Nat.le_refl _) _).trans hbb
      exact ⟨_, rfl, ⟨fp, hof, hnd, hge⟩, hb1⟩
    · obtain ⟨k, rfl⟩ : ∃ k : Nat, f = k := ⟨f.toNat, by omega⟩
      clear hf0
      by_cases hk : k < 16
      · have hkl : k < l.length := by rw [Hl.out]; omega
        cases hx : l[k] with
        | false =>
          rw [hfree.out k hkl hx]
          go_enter Try.func5, Try.ntmps5
          go_wp2_with fail
          refine (specMapOk_any l _ _ h0).mono ?_
          rintro e _ ⟨rfl, rfl⟩
          rw [hmo]
          go_wp2_with (at_builtin; refine wpList_apps rfl _ _ 22 rfl 4 i (.bool false) Try.underlying22 hi hz0 hz1 hib rfl (B := w.heap.size) (l := []) (ys := l) rfl (Own.built0 (α := Bool) w 4) ⟨b, off, none⟩ 16 cap rfl (h0.ext (Ext.below ((Below.refl _ _).alloc (Nat.le_refl _) _))) (by simp) (by simp; rw [Hl.out]; omega) ?_; intro v1 w1 ho1 hbb; rw [List.nil_append] at ho1; obtain ⟨fp, b1, off1, cap1, rfl, hof, hnd, hge⟩ := own_form ho1 16 Hl.out (by omega); obtain ⟨_, hcell, hfz, hset⟩ := hof.store1 k hkl; have hset := hset false; rw [hx] at hcell; simp only [One.val] at hcell hset)
          go_ret2
          have hb1 : Below w.heap.size w w1 := ((Below.refl _ _).alloc (Nat.le_refl _) _).trans hbb
          exact ⟨_, rfl, ⟨fp, hof, hnd, hge⟩, hb1⟩
        | true =>
          rw [htook.out k hkl hx]
          go_enter Try.func5, Try.ntmps5
          go_wp2_with fail
          refine (specMapOk_any l _ _ h0).mono ?_
          rintro e _ ⟨rfl, rfl⟩
          rw [hmo]
          go_wp2_with (at_builtin; refine wpList_apps rfl _ _ 22 rfl 4 i (.bool false) Try.underlying22 hi hz0 hz1 hib rfl (B := w.heap.size) (l := []) (ys := l) rfl (Own.built0 (α := Bool) w 4) ⟨b, off, none⟩ 16 cap rfl (h0.ext (Ext.below ((Below.refl _ _).alloc (Nat.le_refl _) _))) (by simp) (by simp; rw [Hl.out]; omega) ?_; intro v1 w1 ho1 hbb; rw [List.nil_append] at ho1; obtain ⟨fp, b1, off1, cap1, rfl, hof, hnd, hge⟩ := own_form ho1 16 Hl.out (by omega); obtain ⟨_, hcell, hfz, hset⟩ := hof.store1 k hkl; have hset := hset false; rw [hx] at hcell; simp only [One.val] at hcell hset)
          go_ret2
          have hb1 : Below w.heap.size w w1 := ((Below.refl _ _).alloc (Nat.le_refl _) _).trans hbb
          exact ⟨_, rfl, ⟨fp, hset.1, hnd, hge⟩, hb1.trans (hset.2.below hb1.size hge)⟩
      · rw [hbad.out (by omega)]
        go_enter Try.func5, Try.ntmps5
        go_wp2_with fail
        refine (specMapOk_any l _ _ h0).mono ?_
        rintro e _ ⟨rfl, rfl⟩
        rw [hmo]
        go_wp2_with (at_builtin; refine wpList_apps rfl _ _ 22 rfl 4 i (.bool false) Try.underlying22 hi hz0 hz1 hib rfl (B := w.heap.size) (l := []) (ys := l) rfl (Own.built0 (α := Bool) w 4) ⟨b, off, none⟩ 16 cap rfl (h0.ext (Ext.below ((Below.refl _ _).alloc (Nat.le_refl _) _))) (by simp) (by simp; rw [Hl.out]; omega) ?_; intro v1 w1 ho1 hbb; rw [List.nil_append] at ho1; obtain ⟨fp, b1, off1, cap1, rfl, hof, hnd, hge⟩ := own_form ho1 16 Hl.out (by omega))
        go_ret2
        have hb1 : Below w.heap.size w w1 := ((Below.refl _ _).alloc (Nat.le_refl _) _).trans hbb
        exact ⟨_, rfl, ⟨fp, hof, hnd, hge⟩, hb1⟩
  · rw [mapGive_bad hl]
    have hmo := mapOk_false hl
    clear hl
    go_enter Try.func5, Try.ntmps5
    go_wp2_with fail
    refine (specMapOk_any l _ _ h0).mono ?_
    rintro e _ ⟨rfl, rfl⟩
    rw [hmo]
    go_wp2
    go_ret2
    exact ⟨_, rfl, Own.built0 w 4, (Below.refl _ _).alloc (Nat.le_refl _) _⟩
set_option maxHeartbeats 1000000 in
theorem walk_FnExactMapGive (w : World) (l : List Bool) (v : Value) (h : RdS w l v) (_ : ∀ x ∈ l, Ty.fit x) (f : Int) (_ : -9223372036854775808 ≤ f ∧ f ≤ 9223372036854775807) : Calls Try.prog 3 #[v, iv f] w fun e w' => e = .returned (.bool true) ∧ Below w.heap.size w w' := by
  by_cases hlt : l.length ≤ 1048576
  · have h0 := h
    obtain ⟨a, cap, _, rfl, _⟩ := h0
    have hml := mapGive_len l f
    generalize hr : mapGive l f = r at hml
    have Hr := Lib.hid hr; clear hr
    obtain ⟨r1, r2⟩ := r
    have hml : r1.length ≤ 16 := hml
    go_enter Try.func3, Try.ntmps3
    go_wp2_with fail
    refine (toBoolS_any l _ hlt _ h).mono ?_
    rintro e w1 ⟨v1, rfl, ho1, hb1⟩
    go_wp2_with fail
    refine (specMapGive_any l _ f _ ho1.rd).mono ?_
    rw [Hr.out]
    rintro e w2 ⟨v2, rfl, ho2, hb2⟩
    have ho2 : Own w1.heap.size w2 r1 v2 := ho2
    have c2 := bt hb1 hb2
    go_wp2_with fail
    refine (toBoolS_any l _ hlt _ (h.below c2)).mono ?_
    rintro e w3 ⟨v3, rfl, ho3, hb3⟩
    have c3 := bt c2 hb3
    go_wp2_with fail
    refine (implMapGive_any l _ f _ ho3.rd).mono ?_
    rw [Hr.out]
    rintro e w4 ⟨v4, rfl, ho4, hb4⟩
    have ho4 : Own w3.heap.size w4 r1 v4 := ho4
    have c4 := bt c3 hb4
    go_wp2_with fail
    refine (eqBoolS_any r1 r1 _ _ (by omega) (by omega) _ ho4.rd (ho2.rd.below (bt hb3 hb4))).mono ?_
    rintro e w5 ⟨rfl, n5, rfl⟩
    rw [take_eq rfl rfl]
    go_wp2_with fail
    have c5 := bt c4 (below_drewN n5)
    refine (toBoolS_any l _ hlt _ (h.below c5)).mono ?_
    rintro e w6 ⟨v6, rfl, ho6, hb6⟩
    have c6 := bt c5 hb6
    have d6 := bt hb4 (bt (below_drewN n5) hb6)
    go_wp2_with fail
    refine (eqBoolS_any l l _ _ (by omega) (by omega) _ (ho3.rd.below d6) ho6.rd).mono ?_
    rintro e w7 ⟨rfl, n7, rfl⟩
    rw [take_eq rfl rfl]
    have c7 := bt c6 (below_drewN n7)
    have d7 := bt d6 (below_drewN n7)
    have e7 := bt (bt (below_drewN n5) hb6) (below_drewN n7)
    have e2 := bt hb3 d7
    obtain ⟨fp3, hof3, hnd3, hge3⟩ := ho3
    obtain ⟨fp4, hof4, hnd4, hge4⟩ := ho4
    obtain ⟨fp2, hof2, hnd2, hge2⟩ := ho2
    have hlt3 := hof3.lt
    have hlt4 := hof4.lt
    have hlt2 := hof2.lt
    have s3 := hb3.size
    have s2 := c2.size
    have s1 := c3.size
    have q3 := hof3.upd (Below.upd (fp := []) d7) (by simp)
    have q4 := hof4.upd (Below.upd (fp := []) e7) (by simp)
    have q2 := hof2.upd (Below.upd (fp := []) e2) (by simp)
    generalize hw7 : (w6.drewN n7) = w7 at *
    clear hw7
    go_wp2_with fail
    refine (markBoolS_any l _ fp3 1 (by omega) (by omega) w7 q3).mono ?_
    rintro e w8 ⟨rfl, q3', hu8⟩
    have t4 := q4.upd hu8 (fun b h4 h3 => by have := hge4 b h4; have := hlt3 b h3; omega)
    have t2 := q2.upd hu8 (fun b h2 h3 => by have := hlt2 b h2; have := hge3 b h3; omega)
    have c8 := c7.trans (hu8.below c7.size (fun b h3 => by have := hge3 b h3; omega))
    go_wp2_with fail
    refine (eqBoolS_any r1 r1 _ _ (by omega) (by omega) _ t4.rd t2.rd).mono ?_
    rintro e w9 ⟨rfl, n9, rfl⟩
    rw [take_eq rfl rfl]
    have t4 := t4.upd (Below.upd (fp := []) (below_drewN n9)) (by simp)
    have t2 := t2.upd (Below.upd (fp := []) (below_drewN n9)) (by simp)
    have c9 := bt c8 (below_drewN n9)
    generalize hw9 : (w8.drewN n9) = w9 at *
    clear hw9
    go_wp2_with fail
    refine (markBoolS_any r1 _ fp4 1 (by omega) (by omega) w9 t4).mono ?_
    rintro e w10 ⟨rfl, q4', hu10⟩
    have t2 := t2.upd hu10 (fun b h2 h4 => by have := hlt2 b h2; have := hge4 b h4; omega)
    have c10 := c9.trans (hu10.below c9.size (fun b h4 => by have := hge4 b h4; omega))
    go_wp2_with fail
    refine (heldBoolS_any r1.length _ 1 (by omega) (by omega) w10 q4'.rd).mono ?_
    rintro e _ ⟨rfl, rfl⟩
    go_wp2_with fail
    refine (toBoolS_any l _ hlt _ (h.below c10)).mono ?_
    rintro e w11 ⟨v11, rfl, ho11, hb11⟩
    have c11 := bt c10 hb11
    go_wp2_with fail
    refine (implMapGive_any l _ f _ ho11.rd).mono ?_
    rw [Hr.out]
    rintro e w12 ⟨v12, rfl, ho12, hb12⟩
    have ho12 : Own w11.heap.size w12 r1 v12 := ho12
    have c12 := bt c11 hb12
    have d12 := bt hb11 hb12
    go_wp2_with fail
    refine (eqBoolS_any r1 r1 _ _ (by omega) (by omega) _ ho12.rd (t2.rd.below d12)).mono ?_
    rintro e w13 ⟨rfl, n13, rfl⟩
    rw [take_eq rfl rfl]
    have d13 := bt d12 (below_drewN n13)
    have c13 := bt c12 (below_drewN n13)
    go_wp2_with fail
    refine (heldBoolS_any r1.length _ 1 (by omega) (by omega) _ (q4'.rd.below d13)).mono ?_
    rintro e _ ⟨rfl, rfl⟩
    go_wp2
    go_ret
    exact ⟨rfl, c13⟩
  · obtain ⟨a, cap, _, rfl, _⟩ := h
    go_enter Try.func3, Try.ntmps3
    go_wp2_with fail
    go_ret
    exact ⟨rfl, Below.refl _ _⟩
end Go.Proofs.Ytfplmlcokgbbmac
