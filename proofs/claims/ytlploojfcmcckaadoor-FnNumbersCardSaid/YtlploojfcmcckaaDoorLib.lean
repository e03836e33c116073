/- How Go values of plain data lie in memory cells: 'rd' (they can be read), 'own' (they are the only holder of their blocks). Nothing of the program is named here. No conditions. -/
import Derived.WalkKit
import Derived.WalkSpells
import Derived.WalkLawsBesides
import Derived.Deep.QuietTactic
import Derived.BigQuiet
import Derived.Lib.Hide
namespace Go.Proofs.YtlploojfcmcckaaDoor
open Go.RowKit

/-- what stays readable -/
def Ext (w w' : World) : Prop := ∀ p v, w.cell? p = some v → w'.cell? p = some v

theorem Ext.refl (w : World) : Ext w w := fun _ _ h => h
theorem Ext.trans {a b c : World} (h : Ext a b) (k : Ext b c) : Ext a c := fun p v hv => k p v (h p v hv)
theorem Ext.below {w w' : World} (h : Below w.heap.size w w') : Ext w w' := fun p v hv => by
  have hlt := World.block_lt_of_cell? w p hv
  exact (World.cell?_of_block (h.block p.block hlt)).trans hv

/-- A Go type of plain data: it lies in 'n' cells. -/
class Ty (α : Type) where
  n : Nat
  npos : 0 < n
  rd : World → α → List Value → Prop
  own : World → List Nat → α → List Value → Prop
  fit : α → Prop
  rd_len : ∀ {w a cs}, rd w a cs → cs.length = n
  rd_one : ∀ {w a cs}, rd w a cs → ∀ c ∈ cs, c.oneCell' = true
  rd_ext : ∀ {w w' a cs}, Ext w w' → rd w a cs → rd w' a cs
  own_rd : ∀ {w fp a cs}, own w fp a cs → rd w a cs
  own_lt : ∀ {w fp a cs}, own w fp a cs → ∀ b ∈ fp, b < w.heap.size
  own_frame : ∀ {w w' fp a cs}, own w fp a cs → (∀ b ∈ fp, w'.heap[b]? = w.heap[b]?) → own w' fp a cs

/-- A type without memory behind it. -/
class Flat (α : Type) extends Ty α where
  enc : α → List Value
  rd_iff : ∀ {w a cs}, rd w a cs ↔ cs = enc a
  own_iff : ∀ {w fp a cs}, own w fp a cs ↔ fp = [] ∧ cs = enc a

abbrev iv (n : Int) : Value := .int .i64 n
abbrev bv (b : UInt8) : Value := .int .u8 b.toNat

@[reducible] def flatOf {α : Type} (n : Nat) (npos : 0 < n) (fit : α → Prop) (enc : α → List Value) (hl : ∀ a, (enc a).length = n) (h1 : ∀ a, ∀ c ∈ enc a, c.oneCell' = true) : Flat α where
  n := n
  npos := npos
  rd := fun _ a cs => cs = enc a
  own := fun _ fp a cs => fp = [] ∧ cs = enc a
  fit := fit
  rd_len := fun h => by rw [h]; exact hl _
  rd_one := fun h => by rw [h]; exact h1 _
  rd_ext := fun _ h => h
  own_rd := fun h => h.2
  own_lt := fun h b hb => by rw [h.1] at hb; cases hb
  own_frame := fun h _ => h
  enc := enc
  rd_iff := Iff.rfl
  own_iff := Iff.rfl

instance : Flat Int := flatOf 1 (by omega) (fun n => -9223372036854775808 ≤ n ∧ n ≤ 9223372036854775807) (fun n => [iv n]) (fun _ => rfl) (fun _ _ h => by simp at h; subst h; rfl)
instance : Flat Bool := flatOf 1 (by omega) (fun _ => True) (fun b => [.bool b]) (fun _ => rfl) (fun _ _ h => by simp at h; subst h; rfl)
instance : Flat UInt8 := flatOf 1 (by omega) (fun _ => True) (fun b => [bv b]) (fun _ => rfl) (fun _ _ h => by simp at h; subst h; rfl)
instance : Flat ByteArray := flatOf 1 (by omega) (fun s => s.size ≤ maxLen) (fun b => [.string b]) (fun _ => rfl) (fun _ _ h => by simp at h; subst h; rfl)

/-- A type of one cell. -/
class One (α : Type) extends Flat α where
  val : α → Value
  enc_val : ∀ a, Flat.enc a = [val a]
  n_one : Ty.n α = 1
instance : One Int := { val := iv, enc_val := fun _ => rfl, n_one := rfl }
instance : One Bool := { val := Value.bool, enc_val := fun _ => rfl, n_one := rfl }
instance : One UInt8 := { val := bv, enc_val := fun _ => rfl, n_one := rfl }
instance : One ByteArray := { val := Value.string, enc_val := fun _ => rfl, n_one := rfl }

/-- elements that lie one behind the other, each to be read -/
def RdL {α : Type} [Ty α] (w : World) : List α → List Value → Prop
  | [], cs => cs = []
  | a :: l, cs => ∃ c1 c2, cs = c1 ++ c2 ∧ Ty.rd w a c1 ∧ RdL w l c2

/-- elements that lie one behind the other, each owned -/
def OwnL {α : Type} [Ty α] (w : World) : List Nat → List α → List Value → Prop
  | fp, [], cs => fp = [] ∧ cs = []
  | fp, a :: l, cs => ∃ f1 f2 c1 c2, fp = f1 ++ f2 ∧ cs = c1 ++ c2 ∧ Ty.own w f1 a c1 ∧ OwnL w f2 l c2

section
variable {α : Type} [Ty α] {w w' : World}

theorem RdL.length : ∀ {l : List α} {cs : List Value}, RdL w l cs → cs.length = l.length * Ty.n α
  | [], _, h => by simp only [RdL] at h; simp [h]
  | a :: l, cs, ⟨c1, c2, h, h1, h2⟩ => by
    rw [h, List.length_append, Ty.rd_len h1, RdL.length h2, List.length_cons, Nat.add_mul, Nat.one_mul, Nat.add_comm]

theorem RdL.one : ∀ {l : List α} {cs : List Value}, RdL w l cs → ∀ c ∈ cs, c.oneCell' = true
  | [], _, h => by simp only [RdL] at h; simp [h]
  | a :: l, cs, ⟨c1, c2, h, h1, h2⟩ => by
    intro c hc
    rw [h, List.mem_append] at hc
    exact hc.elim (Ty.rd_one h1 c) (RdL.one h2 c)

theorem RdL.ext (hx : Ext w w') : ∀ {l : List α} {cs : List Value}, RdL w l cs → RdL w' l cs
  | [], _, h => h
  | _ :: _, _, ⟨c1, c2, h, h1, h2⟩ => ⟨c1, c2, h, Ty.rd_ext hx h1, RdL.ext hx h2⟩

theorem RdL.append : ∀ {l l' : List α} {cs cs' : List Value}, RdL w l cs → RdL w l' cs' → RdL w (l ++ l') (cs ++ cs')
  | [], _, _, _, h, h' => by simp only [RdL] at h; subst h; exact h'
  | _ :: _, _, _, _, ⟨c1, c2, h, h1, h2⟩, h' => ⟨c1, _, by rw [h, List.append_assoc], h1, RdL.append h2 h'⟩

/-- the cells of element k -/
theorem RdL.get : ∀ {l : List α} {cs : List Value}, RdL w l cs → ∀ {k : Nat} (hk : k < l.length), ∃ c, Ty.rd w l[k] c ∧ (cs.drop (k * Ty.n α)).take (Ty.n α) = c
  | a :: l, cs, ⟨c1, c2, h, h1, h2⟩, 0, _ => ⟨c1, h1, by rw [h]; simp [← Ty.rd_len h1]⟩
  | a :: l, cs, ⟨c1, c2, h, h1, h2⟩, k + 1, hk => by
    obtain ⟨c, hc, he⟩ := RdL.get h2 (k := k) (by simpa using hk)
    refine ⟨c, hc, ?_⟩
    rw [h, show (k + 1) * Ty.n α = c1.length + k * Ty.n α by rw [Ty.rd_len h1, Nat.add_mul, Nat.one_mul, Nat.add_comm], ← List.drop_drop, List.drop_left]
    exact he

theorem OwnL.rd : ∀ {l : List α} {fp : List Nat} {cs : List Value}, OwnL w fp l cs → RdL w l cs
  | [], _, _, h => h.2
  | _ :: _, _, _, ⟨_, _, c1, c2, _, h, h1, h2⟩ => ⟨c1, c2, h, Ty.own_rd h1, OwnL.rd h2⟩

theorem OwnL.lt : ∀ {l : List α} {fp : List Nat} {cs : List Value}, OwnL w fp l cs → ∀ b ∈ fp, b < w.heap.size
  | [], _, _, h => by rw [h.1]; simp
  | _ :: _, _, _, ⟨_, _, _, _, hf, _, h1, h2⟩ => by
    intro b hb
    rw [hf, List.mem_append] at hb
    exact hb.elim (Ty.own_lt h1 b) (OwnL.lt h2 b)

theorem OwnL.frame : ∀ {l : List α} {fp : List Nat} {cs : List Value}, OwnL w fp l cs → (∀ b ∈ fp, w'.heap[b]? = w.heap[b]?) → OwnL w' fp l cs
  | [], _, _, h, _ => h
  | _ :: _, _, _, ⟨f1, f2, c1, c2, hf, h, h1, h2⟩, hb =>
    ⟨f1, f2, c1, c2, hf, h, Ty.own_frame h1 (fun b hb' => hb b (by rw [hf]; exact List.mem_append.2 (.inl hb'))),
      OwnL.frame h2 (fun b hb' => hb b (by rw [hf]; exact List.mem_append.2 (.inr hb')))⟩

theorem OwnL.append : ∀ {l l' : List α} {fp fp' : List Nat} {cs cs' : List Value}, OwnL w fp l cs → OwnL w fp' l' cs' → OwnL w (fp ++ fp') (l ++ l') (cs ++ cs')
  | [], _, _, _, _, _, h, h' => by obtain ⟨rfl, rfl⟩ := h; exact h'
  | _ :: _, _, _, _, _, _, ⟨f1, f2, c1, c2, hf, h, h1, h2⟩, h' =>
    ⟨f1, _, c1, _, by rw [hf, List.append_assoc], by rw [h, List.append_assoc], h1, OwnL.append h2 h'⟩

theorem OwnL.single {a : α} {fp : List Nat} {cs : List Value} (h : Ty.own w fp a cs) : OwnL w fp [a] cs :=
  ⟨fp, [], cs, [], by simp, by simp, h, rfl, rfl⟩

/-- element k, and what stands before and behind it -/
theorem OwnL.split : ∀ {l : List α} {fp : List Nat} {cs : List Value}, OwnL w fp l cs → ∀ {k : Nat} (hk : k < l.length),
    ∃ f1 f2 f3 c1 c2 c3, fp = f1 ++ (f2 ++ f3) ∧ cs = c1 ++ (c2 ++ c3) ∧ c1.length = k * Ty.n α ∧ OwnL w f1 (l.take k) c1 ∧ Ty.own w f2 l[k] c2 ∧ OwnL w f3 (l.drop (k + 1)) c3
  | a :: l, fp, cs, ⟨f1, f2, c1, c2, hf, h, h1, h2⟩, 0, _ => ⟨[], f1, f2, [], c1, c2, by simpa using hf, by simpa using h, by simp, ⟨rfl, rfl⟩, h1, by simpa using h2⟩
  | a :: l, fp, cs, ⟨f1, f2, c1, c2, hf, h, h1, h2⟩, k + 1, hk => by
    obtain ⟨g1, g2, g3, d1, d2, d3, e1, e2, e3, e4, e5, e6⟩ := OwnL.split h2 (k := k) (by simpa using hk)
    refine ⟨f1 ++ g1, g2, g3, c1 ++ d1, d2, d3, by rw [hf, e1, List.append_assoc], by rw [h, e2, List.append_assoc], ?_, ⟨f1, g1, c1, d1, rfl, rfl, h1, e4⟩, e5, by simpa using e6⟩
    rw [List.length_append, e3, Ty.rd_len (Ty.own_rd h1), Nat.add_mul, Nat.one_mul, Nat.add_comm]

/-- .. and back, with another element in its place -/
theorem OwnL.join {l : List α} {k : Nat} (hk : k < l.length) {f1 f2 f3 : List Nat} {c1 c2 c3 : List Value} {x : α}
    (h1 : OwnL w f1 (l.take k) c1) (h2 : Ty.own w f2 x c2) (h3 : OwnL w f3 (l.drop (k + 1)) c3) : OwnL w (f1 ++ (f2 ++ f3)) (l.set k x) (c1 ++ (c2 ++ c3)) := by
  rw [List.set_eq_take_append_cons_drop, if_pos hk]
  exact OwnL.append h1 ⟨f2, f3, c2, c3, rfl, rfl, h2, h3⟩
end

/-- A slice that can be read. -/
def RdS {α : Type} [Ty α] (w : World) (l : List α) (v : Value) : Prop :=
  ∃ a cap cs, v = .slice a l.length cap ∧ l.length ≤ cap ∧ cap ≤ maxLen ∧ RdL w l cs ∧
    (l ≠ [] → ∃ b off, a = some ⟨b, off, none⟩ ∧ ∀ j c, cs[j]? = some c → w.cell? ⟨b, off + j, none⟩ = some c)

/-- A slice that owns its row: cells 'off ..' of block b, up to its capacity. -/
def OwnS {α : Type} [Ty α] (w : World) (fp : List Nat) (l : List α) (v : Value) : Prop :=
  (v = .slice none 0 0 ∧ l = [] ∧ fp = []) ∨
  ∃ b off cap cur e fps cs, v = .slice (some ⟨b, off, none⟩) l.length cap ∧ w.heap[b]? = some (.cells cur e (0, 0)) ∧ l.length ≤ cap ∧ cap ≤ maxLen ∧
    off + cap * Ty.n α ≤ cur.size ∧ fp = b :: fps ∧ OwnL w fps l cs ∧ (cur.toList.drop off).take (l.length * Ty.n α) = cs

section
variable {α : Type} [Ty α] {w w' : World}

theorem RdS.ext {l : List α} {v : Value} (hx : Ext w w') (h : RdS w l v) : RdS w' l v := by
  obtain ⟨a, cap, cs, hv, h1, h2, h3, h4⟩ := h
  exact ⟨a, cap, cs, hv, h1, h2, h3.ext hx, fun hne => let ⟨b, off, hb, hc⟩ := h4 hne; ⟨b, off, hb, fun j c hj => hx _ _ (hc j c hj)⟩⟩

theorem OwnS.rd {fp : List Nat} {l : List α} {v : Value} (h : OwnS w fp l v) : RdS w l v := by
  rcases h with ⟨rfl, rfl, rfl⟩ | ⟨b, off, cap, cur, e, fps, cs, rfl, hb, h1, h2, h3, rfl, h4, h5⟩
  · exact ⟨none, 0, [], rfl, Nat.le_refl _, by simp [maxLen], rfl, fun h => absurd rfl h⟩
  · refine ⟨_, cap, cs, rfl, h1, h2, h4.rd, fun _ => ⟨b, off, rfl, fun j c hj => ?_⟩⟩
    rw [cell_of_row w b (off + j) cur e (0, 0) hb]
    rw [← h5, List.getElem?_take] at hj
    split at hj
    · simpa using hj
    · cases hj

theorem OwnS.lt {fp : List Nat} {l : List α} {v : Value} (h : OwnS w fp l v) : ∀ b ∈ fp, b < w.heap.size := by
  rcases h with ⟨_, _, rfl⟩ | ⟨b, off, cap, cur, e, fps, cs, _, hb, _, _, _, rfl, h4, _⟩
  · simp
  · intro c hc
    rcases List.mem_cons.1 hc with rfl | hc
    · exact (Array.getElem?_eq_some_iff.1 hb).1
    · exact h4.lt c hc

theorem OwnS.frame {fp : List Nat} {l : List α} {v : Value} (h : OwnS w fp l v) (hf : ∀ b ∈ fp, w'.heap[b]? = w.heap[b]?) : OwnS w' fp l v := by
  rcases h with h | ⟨b, off, cap, cur, e, fps, cs, hv, hb, h1, h2, h3, rfl, h4, h5⟩
  · exact .inl h
  · exact .inr ⟨b, off, cap, cur, e, fps, cs, hv, by rw [hf b (by simp)]; exact hb, h1, h2, h3, rfl, h4.frame fun c hc => hf c (by simp [hc]), h5⟩

instance : Ty (List α) where
  n := 1
  npos := by omega
  rd := fun w l cs => ∃ v, cs = [v] ∧ RdS w l v
  own := fun w fp l cs => ∃ v, cs = [v] ∧ OwnS w fp l v
  fit := fun l => ∀ x ∈ l, Ty.fit x
  rd_len := fun ⟨_, h, _⟩ => by rw [h]; rfl
  rd_one := fun ⟨_, h, _, _, _, h', _⟩ c hc => by rw [h] at hc; simp at hc; subst hc; rw [h']; rfl
  rd_ext := fun hx ⟨v, h, h'⟩ => ⟨v, h, h'.ext hx⟩
  own_rd := fun ⟨v, h, h'⟩ => ⟨v, h, h'.rd⟩
  own_lt := fun ⟨_, _, h'⟩ => h'.lt
  own_frame := fun ⟨v, h, h'⟩ hf => ⟨v, h, h'.frame hf⟩
end
#print axioms OwnS.frame
end Go.Proofs.YtlploojfcmcckaaDoor
