/- From a law's contract to its row: what is read stays as it is, since nothing that was there has turned; how an argument's reading gives what the contract asks. No conditions. -/
import Derived.Test.YtfplmlcokgbbmacLibOps
import Derived.ProofKit
import Derived.OpenShut
import Derived.ShutString
import Derived.Deep.Slices
namespace Go.Proofs.Ytfplmlcokgbbmac
open Go.RowKit

section
variable {H : Type} {enc : TypeId × Value → H} {P : Program}

theorem trodAll_stay (hl : laidOutB P = true) {W W' : World} (hb : Below W.heap.size W W') : ∀ {ts : List TypeId} {vs : List Value} {ds : List (DataW H)} {ps : List MemPlace},
    (∀ t ∈ ts, P.readableRec t = true ∧ t < P.types.size) → DataW.TrodAll enc P W 0 (fun _ => true) true ts vs ds ps → (∀ x ∈ ps, x.block < W.heap.size) →
    DataW.TrodAll enc P W' 0 (fun b => decide (b < W.heap.size)) true ts vs ds ps
  | [], [], [], _, _, h, _ => h
  | t :: ts, v :: vs, d :: ds, ps, hr, ⟨p, q, h1, h2, h3⟩, hlt =>
    ⟨p, q, Below.trod hl (hr t (by simp)).1 (hr t (by simp)).2 h1 hb (fun x hx => hlt x (by rw [h3]; exact List.mem_append.2 (.inl hx))),
      trodAll_stay hl hb (fun t ht => hr t (by simp [ht])) h2 (fun x hx => hlt x (by rw [h3]; exact List.mem_append.2 (.inr hx))), h3⟩
  | [], [], _ :: _, _, _, h, _ => h.elim
  | [], _ :: _, _, _, _, h, _ => by cases ‹List (DataW H)› <;> exact h.elim
  | _ :: _, [], _, _, _, h, _ => by cases ‹List (DataW H)› <;> exact h.elim
  | _ :: _, _ :: _, [], _, _, h, _ => h.elim

/-- the whole step behind the walk -/
theorem law_fin {f : Func} {F : FuncId} {s : ChangeSpec} {W : World} {args : Array Value} {ds gs : List (DataW H)} {before : List MemPlace} {tb : TypeId}
    (hl : laidOutB P = true) (hr : f.params.toList.all (fun t => P.readableRec t && decide (t < P.types.size)) = true) (hv : s.vars = [])
    (hres : f.resultTypes = #[tb]) (htb : P.underlying tb = some .bool) (hW : DataW.Whole enc P f.params.toList s.vars false W args.toList ds gs before)
    (hs1 : (s.fn H (ds ++ gs)).results = [.lit (.bool true)]) (hs2 : (s.fn H (ds ++ gs)).args = ds) (hs3 : (s.fn H (ds ++ gs)).vars = [])
    (h : Calls P F args W fun e W' => e = .returned (.bool true) ∧ Below W.heap.size W W') :
    Calls P F args W fun e W' => ∃ v, e = .returned v ∧ s.post enc P f false true false false W args v W' := by
  refine h.mono fun e W' ⟨he, hb⟩ => ⟨_, he, ?_⟩
  have hlt := hW.lt
  have hW' := hW
  obtain ⟨p, q, hA, hV, rfl, _, _⟩ := hW
  have hr' : ∀ t ∈ f.params.toList, P.readableRec t = true ∧ t < P.types.size := fun t ht => by simpa using List.all_eq_true.1 hr t ht
  refine ⟨ds, gs, p ++ q, [], p, [], hW', ?_, ?_, ?_, hb.frame _, fun h => by cases h⟩
  · rw [hs1, hres]
    refine ⟨[], [], ⟨1, ?_⟩, rfl, rfl⟩
    simp [DataW.trod, htb, Value.cells]
  · rw [hs2]
    exact trodAll_stay hl hb hr' hA (fun x hx => hlt x (List.mem_append.2 (.inl hx)))
  · rw [hs3, hv]; rfl

/-! ### What is read is readable -/
/-- a value of Go type t reads as one of α -/
def Reads (P : Program) (t : TypeId) (α : Type) [Ty α] : Prop :=
  ∀ {H : Type} {enc : TypeId × Value → H} {w : World} {base : Nat} {spare : Nat → Bool} {held : Bool} {fuel : Nat} {cs : List Value} {x : DataW H × List MemPlace},
    DataW.trod enc P w base spare held fuel t cs = some x → ∃ a : α, Ty.rd w a cs ∧ Ty.fit a

theorem i64_wf {n : Int} (h : (Lit.int .i64 n).wf = true) : -9223372036854775808 ≤ n ∧ n ≤ 9223372036854775807 := by
  simpa [Lit.wf, IntKind.min, IntKind.max, IntKind.bits, IntKind.signed] using h
theorem reads_int {t : TypeId} (ht : P.underlying t = some (.int .i64)) : Reads P t Int := fun h => by
  obtain ⟨n, rfl, _, hw⟩ := DataW.trod_int ht h
  exact ⟨n, rfl, i64_wf hw⟩
theorem reads_u8 {t : TypeId} (ht : P.underlying t = some (.int .u8)) : Reads P t UInt8 := fun h => by
  obtain ⟨n, rfl, _, hw⟩ := DataW.trod_int ht h
  have h2 : 0 ≤ n ∧ n ≤ 255 := by simpa [Lit.wf, IntKind.min, IntKind.max, IntKind.bits, IntKind.signed] using hw
  refine ⟨UInt8.ofNat n.toNat, ?_, trivial⟩
  show [_] = [bv _]
  rw [show bv (UInt8.ofNat n.toNat) = .int .u8 n from by
    show Value.int .u8 _ = _
    congr 1
    simp [UInt8.toNat_ofNat']
    omega]
theorem reads_bool {t : TypeId} (ht : P.underlying t = some .bool) : Reads P t Bool := fun h => by
  obtain ⟨b, rfl, _⟩ := DataW.trod_bool ht h
  exact ⟨b, rfl, trivial⟩
theorem reads_str {t : TypeId} (ht : P.underlying t = some .string) : Reads P t ByteArray := fun h => by
  obtain ⟨b, rfl, _, hs⟩ := DataW.trod_string ht h
  exact ⟨b, rfl, hs⟩

theorem reads_elems {α : Type} [Ty α] {w : World} {a : Addr} {m : Nat} (hm : m = Ty.n α) : ∀ (len k : Nat), (∀ i, i < len → ∃ cs, cs.length = m ∧ (∀ j, j < m → w.cell? (a.add ((k + i) * m + j)) = cs[j]?) ∧ ∃ x : α, Ty.rd w x cs ∧ Ty.fit x) →
    ∃ (l : List α) (cs : List Value), l.length = len ∧ RdL w l cs ∧ (∀ x ∈ l, Ty.fit x) ∧ ∀ j c, cs[j]? = some c → w.cell? (a.add (k * m + j)) = some c
  | 0, _, _ => ⟨[], [], rfl, rfl, by simp, by simp⟩
  | len + 1, k, h => by
    obtain ⟨c1, h1, h2, x, h3, h4⟩ := h 0 (by omega)
    obtain ⟨l, cs, g1, g2, g3, g4⟩ := reads_elems hm len (k + 1) (fun i hi => by
      obtain ⟨c, e1, e2, e3⟩ := h (i + 1) (by omega)
      exact ⟨c, e1, fun j hj => by rw [← e2 j hj, show k + 1 + i = k + (i + 1) by omega], e3⟩)
    refine ⟨x :: l, c1 ++ cs, by simp [g1], ⟨c1, cs, rfl, h3, g2⟩, by simpa using ⟨h4, g3⟩, fun j c hj => ?_⟩
    by_cases hlt : j < m
    · rw [List.getElem?_append_left (by omega)] at hj
      rw [← hj, ← h2 j hlt, Nat.add_zero]
    · rw [List.getElem?_append_right (by omega), h1] at hj
      rw [← g4 _ _ hj]
      congr 2
      rw [Nat.add_mul, Nat.one_mul]; omega

theorem reads_slice {α : Type} [Ty α] {t e : TypeId} (ht : P.underlying t = some (.slice e)) (hc : P.cellsOf e = Ty.n α) (he : Reads P e α) : Reads P t (List α) := fun {H enc w base spare held fuel cs x} h => by
  rcases Go.Deep.open_slice ht h with ⟨rfl, _⟩ | ⟨a, len, cap, m, n, D, Pl, rfl, _, hl, hm, hmm, _, hx⟩
  · exact ⟨[], ⟨_, rfl, none, 0, [], rfl, by simp, by simp [maxLen], rfl, fun h => absurd rfl h⟩, by intro x hx; cases hx⟩
  have hlm : len ≤ m := by rw [hmm]; split <;> omega
  have hpos := Ty.npos (α := α)
  obtain ⟨l, cs, g1, g2, g3, g4⟩ := reads_elems (α := α) (w := w) (a := a) hc len 0 (fun i hi => by
    obtain ⟨c, h1, h2⟩ := hx i (by omega)
    obtain ⟨_, e1, e2⟩ := World.cells?_some h1
    obtain ⟨y, e3, e4⟩ := he h2
    exact ⟨c, e1, fun j hj => by rw [← e2 j hj, Go.Deep.add_add, Nat.zero_add], y, e3, e4⟩)
  refine ⟨l, ⟨_, rfl, some a, cap, cs, by rw [g1], by omega, hm, g2, fun hne => ?_⟩, g3⟩
  obtain ⟨b, off, sp⟩ := a
  have h0 : 0 < cs.length := by
    rw [g2.length]
    have := List.length_pos_iff.2 hne
    exact Nat.mul_pos this hpos
  have hsp : sp = none := by
    have := g4 0 cs[0] (by simp [h0])
    simp only [Nat.zero_mul, Nat.zero_add, Addr.add, if_true] at this
    cases sp with
    | none => rfl
    | some k =>
      simp only [World.cell?] at this
      split at this <;> simp at this
  subst hsp
  refine ⟨b, off, rfl, fun j c hj => ?_⟩
  rw [← g4 j c hj, Nat.zero_mul, Nat.zero_add, Addr.add_lit]
/-- a struct's fields, each with its own reading -/
theorem reads_parts {t : TypeId} {fs : Array Field} (ht : P.underlying t = some (.struct fs)) {H : Type} {enc : TypeId × Value → H} {w : World} {base : Nat} {spare : Nat → Bool} {held : Bool} {fuel : Nat} {cs : List Value} {x : DataW H × List MemPlace}
    (h : DataW.trod enc P w base spare held fuel t cs = some x) : cs.length = P.cellsOf t ∧ ∃ n, ∀ (i : Nat) (f : Field), fs[i]? = some f → ∃ y, DataW.trod enc P w base spare held n f.type ((cs.drop f.offset).take (P.cellsOf f.type)) = some y := by
  obtain ⟨xs, n, _, _, hl, hlen, hf⟩ := DataW.trod_struct ht h
  refine ⟨hl, n, fun i f hi => ?_⟩
  have hi' : i < xs.length := by
    rw [hlen]
    have := (Array.getElem?_eq_some_iff.1 hi).1
    simpa using this
  exact ⟨xs[i], by rw [hf i f (by simpa using hi)]; simp [hi']⟩
/-- a part of a struct's cells -/
theorem reads_part {α : Type} [Ty α] {t : TypeId} (hr : Reads P t α) {H : Type} {enc : TypeId × Value → H} {w : World} {base : Nat} {spare : Nat → Bool} {held : Bool} {fuel : Nat} {cs : List Value} {o k : Nat}
    (h : ∃ y, DataW.trod enc P w base spare held fuel t ((cs.drop o).take (P.cellsOf t)) = some y) (hk : P.cellsOf t = k) : ∃ a : α, Ty.rd w a ((cs.drop o).take k) ∧ Ty.fit a := by
  obtain ⟨y, hy⟩ := h
  rw [hk] at hy
  exact hr hy
end
end Go.Proofs.Ytfplmlcokgbbmac
