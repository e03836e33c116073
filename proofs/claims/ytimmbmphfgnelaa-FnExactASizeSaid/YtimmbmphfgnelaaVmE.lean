/- What the helpers of the laws lean on; ways that meet; numbers as texts. No conditions. -/
import Derived.Lib.Hide
import Derived.Sort.Grow
import Derived.Sort.Row
import Derived.Test.YtimmbmphfgnelaaVmD
set_option linter.all false
namespace Go.Proofs.Ytimmbmphfgnelaa.VM
open Go Go.RowKit
section
variable {P : Program} {N : Nat} {Q : Exit → List E → Prop} {L : List E}
/-- a row is no longer than machines allow -/
theorem AW.len {c : Code} (id : Nat) (q : Path) {m : M} {t : T} {n len : Nat} {f : Nat → Nat → T} (hR : rootL L id = some (m, t)) (hq : Okp t q) (hT : t.at q = .s n len f) (k : len ≤ 9223372036854775807 → AW P N c Q L) : AW P N c Q L := fun cx a w hs => by
  obtain ⟨H, G, hr, hG⟩ := hs.rp
  obtain ⟨h', F, _, h2⟩ := hr.node (rootL_mem hR) hq
  rw [hT] at h2
  obtain ⟨_, cap, _, h3, h4⟩ := h2.hdr
  exact k (by simp only [maxLen] at h4; omega) cx a w hs
end

/-- rows: the first k by g, the others by h -/
def trMix {α : Type} [En α] (k len : Nat) (g h : Nat → α) : T := .s (En.n α) len fun i c => (En.cs (if i < k then g i else h i)).getD c .j
section
variable {α : Type} [En α] {len k : Nat} {g h : Nat → α} {l : List α}
theorem trMix_zero : (T.s (En.n α) len fun i c => (En.cs (h i)).getD c .j).sim (trMix 0 len g h) :=
  T.sim_of fun i c _ _ => by simp
theorem trMix_tr : (tr l).sim (trMix 0 l.length g fun i => l.getD i En.dflt) := trMix_zero
theorem trMix_full (hk : len ≤ k) (hl : l.length = len) (hg : ∀ i, i < len → g i = l.getD i En.dflt) : (trMix k len g h).sim (tr l) := by
  subst hl
  exact T.sim_of fun i c hi _ => by rw [if_pos (by omega), hg i hi]
theorem trMix_next {f : Nat → Nat → T} (ho : ∀ i c, i ≠ k → f i c = (En.cs (if i < k then g i else h i)).getD c .j) (hc : ∀ c, c < En.n α → (f k c).sim ((En.cs (g k)).getD c .j)) : (T.s (En.n α) len f).sim (trMix (k + 1) len g h) := by
  refine ⟨_, rfl, fun i c _ hcc => ?_⟩
  by_cases e : i = k
  · subst e
    rw [if_pos (by omega)]
    exact hc c hcc
  · rw [ho i c e]
    have : (if i < k + 1 then g i else h i) = if i < k then g i else h i := by
      by_cases h1 : i < k
      · rw [if_pos h1, if_pos (by omega)]
      · rw [if_neg h1, if_neg (by omega)]
    rw [this]
    exact T.sim_refl _
end
structure KInv (n : Nat) where
  k : Nat
  le : k ≤ n
structure EqInv {α : Type} (l l' : List α) where
  k : Nat
  le : k ≤ l.length
  eq : l.take k = l'.take k
section
variable {α : Type} {l l' : List α}
theorem EqInv.next (i : EqInv l l') (d : α) (hl : l.length = l'.length) (hk : i.k < l.length) (h : l.getD i.k d = l'.getD i.k d) : l.take (i.k + 1) = l'.take (i.k + 1) := by
  rw [List.take_add_one, List.take_add_one, i.eq]
  congr 1
  rw [List.getElem?_eq_getElem hk, List.getElem?_eq_getElem (hl ▸ hk)]
  simp only [List.getD_eq_getElem?_getD, List.getElem?_eq_getElem hk, List.getElem?_eq_getElem (hl ▸ hk), Option.getD_some] at h
  rw [h]
theorem EqInv.stop (i : EqInv l l') (d : α) (h : l.getD i.k d ≠ l'.getD i.k d) : l ≠ l' := fun e => h (congrArg (fun x => x.getD i.k d) e)
theorem EqInv.full (i : EqInv l l') (hl : l.length = l'.length) (hk : ¬ i.k < l.length) : l = l' := by
  have h := i.eq
  rwa [List.take_of_length_le (by omega), List.take_of_length_le (by omega)] at h
theorem ne_of_len (h : l.length ≠ l'.length) : l ≠ l' := fun e => h (by rw [e])
end
/-- what is left of the size -/
def szd (n : Nat) (left : Int) : Int := if left - n < 0 then -1 else left - n

/-- sizes, and marks -/
class Mk (α : Type) extends En α where
  wt : α → Nat
  cnt : α → Nat
  mark : α → Int → α
  cnt_mk : ∀ a k, cnt (mark a k) = cnt a
def wtL {α : Type} (w : α → Nat) (l : List α) : Nat := (l.map w).foldr (· + ·) 0
def cumN {α : Type} (c : α → Nat) (d : α) (l : List α) : Nat → Nat
  | 0 => 0
  | i + 1 => cumN c d l i + c (l.getD i d)
def mkF {α : Type} [Mk α] (l : List α) (k : Int) (i : Nat) : α := Mk.mark (l.getD i En.dflt) (k + cumN Mk.cnt En.dflt l i)
def mkL {α : Type} [Mk α] (l : List α) (k : Int) : List α := (List.range l.length).map (mkF l k)
theorem mkL_len {α : Type} [Mk α] (l : List α) (k : Int) : (mkL l k).length = l.length := by simp [mkL]
theorem mkL_get {α : Type} [Mk α] (l : List α) (k : Int) {i : Nat} (hi : i < l.length) : (mkL l k).getD i En.dflt = mkF l k i := by
  simp [mkL, List.getD_eq_getElem?_getD, hi]
theorem cumN_mk {α : Type} [Mk α] (l : List α) (k : Int) : ∀ {i : Nat}, i ≤ l.length → cumN Mk.cnt En.dflt (mkL l k) i = cumN Mk.cnt En.dflt l i
  | 0, _ => rfl
  | i + 1, h => by
    simp only [cumN]
    rw [cumN_mk l k (by omega), mkL_get l k (by omega), mkF, Mk.cnt_mk]
theorem cumN_mono {α : Type} {c : α → Nat} {d : α} {l : List α} : ∀ {i j : Nat}, i ≤ j → cumN c d l i ≤ cumN c d l j
  | i, 0, h => by rw [show i = 0 by omega]; exact Nat.le_refl _
  | i, j + 1, h => by
    rcases Nat.lt_or_ge i (j + 1) with h' | h'
    · have := cumN_mono (c := c) (d := d) (l := l) (show i ≤ j by omega)
      simp only [cumN]; omega
    · rw [show i = j + 1 by omega]; exact Nat.le_refl _
theorem cumN_const {α : Type} {c : α → Nat} {d : α} {l : List α} {n : Nat} (h : ∀ a, c a = n) : ∀ i, cumN c d l i = n * i
  | 0 => rfl
  | i + 1 => by simp only [cumN]; rw [cumN_const h i, h, Nat.mul_add]; omega
instance : Mk Int := { wt := fun _ => 0, cnt := fun _ => 1, mark := fun _ k => k, cnt_mk := fun _ _ => rfl }
instance : Mk Bool := { wt := fun _ => 0, cnt := fun _ => 1, mark := fun _ k => decide (k.tmod 3 = 0), cnt_mk := fun _ _ => rfl }
instance instMkList {α : Type} [Mk α] : Mk (List α) := { wt := fun l => l.length + wtL Mk.wt l, cnt := fun l => cumN Mk.cnt En.dflt l l.length, mark := mkL, cnt_mk := fun l k => by rw [mkL_len]; exact cumN_mk l k (Nat.le_refl _) }
theorem wtL_get {α : Type} {w : α → Nat} {d : α} : ∀ {l : List α} {i : Nat}, i < l.length → w (l.getD i d) ≤ wtL w l
  | x :: l, 0, _ => by simp [wtL]
  | x :: l, i + 1, h => by
    have := wtL_get (w := w) (d := d) (l := l) (i := i) (by simpa using h)
    simp only [List.getD_cons_succ]
    simp only [wtL, List.map_cons, List.foldr_cons] at this ⊢
    omega
theorem wt_list {α : Type} [Mk α] (l : List α) : Mk.wt l = l.length + wtL Mk.wt l := rfl
theorem wtL_zero {α : Type} {w : α → Nat} (h : ∀ a, w a = 0) : ∀ l : List α, wtL w l = 0
  | [] => rfl
  | x :: l => by
    have := wtL_zero h l
    simp only [wtL, List.map_cons, List.foldr_cons, h] at this ⊢
    omega
theorem cs_int (a : Int) : En.cs a = [.v (iv a)] := rfl
theorem cs_bool (a : Bool) : En.cs a = [.v (.bool a)] := rfl
theorem cs_str (a : ByteArray) : En.cs a = [.v (.string a)] := rfl
theorem cs_list {α : Type} [En α] (a : List α) : En.cs a = [tr a] := rfl
theorem cellX_tr {α : Type} [En α] (L : List E) (id : Nat) (q : Path) (n k c : Nat) (l : List α) : cellX L id q n k c (tr l) = .h id (q ++ [(n, k, c)]) := rfl
end Go.Proofs.Ytimmbmphfgnelaa.VM
namespace Go.Proofs.Ytimmbmphfgnelaa.VM
open Go Go.RowKit
theorem pbAdd {a b : Int} (h : -9223372036854775808 ≤ a + b ∧ a + b ≤ 9223372036854775807) : pureBin .add (iv a) (iv b) = some (iv (a + b)) := by
  show some (Value.int .i64 (IntKind.i64.wrap (a + b))) = _
  rw [IntWalk.i64_in _ h]
theorem pbSub {a b : Int} (h : -9223372036854775808 ≤ a - b ∧ a - b ≤ 9223372036854775807) : pureBin .sub (iv a) (iv b) = some (iv (a - b)) := by
  show some (Value.int .i64 (IntKind.i64.wrap (a - b))) = _
  rw [IntWalk.i64_in _ h]
theorem pbMul {a b : Int} (h : -9223372036854775808 ≤ a * b ∧ a * b ≤ 9223372036854775807) : pureBin .mul (iv a) (iv b) = some (iv (a * b)) := by
  show some (Value.int .i64 (IntKind.i64.wrap (a * b))) = _
  rw [IntWalk.i64_in _ h]
end Go.Proofs.Ytimmbmphfgnelaa.VM
namespace Go.Proofs.Ytimmbmphfgnelaa.VM
theorem upd_app (f : Nat → Nat → T) (k c : Nat) (y : T) (k' c' : Nat) : upd f k c y k' c' = if k' = k ∧ c' = c then y else f k' c' := rfl
theorem nbeq (a b : Nat) : Nat.beq a b = (a == b) := by
  rw [Bool.eq_iff_iff, Nat.beq_eq]; simp
end Go.Proofs.Ytimmbmphfgnelaa.VM
namespace Go.Proofs.Ytimmbmphfgnelaa.VM
theorem cellX_v (L : List E) (id : Nat) (q : Path) (n k c : Nat) (y : Go.Value) : cellX L id q n k c (.v y) = .v y := rfl
theorem cellX_s (L : List E) (id : Nat) (q : Path) (n k c m l : Nat) (f : Nat → Nat → T) : cellX L id q n k c (.s m l f) = .h id (q ++ [(n, k, c)]) := rfl
theorem cellX_j (L : List E) (id : Nat) (q : Path) (n k c : Nat) : cellX L id q n k c .j = match q, k with | [], 0 => (match aliasL L id c with | .j => .c | x => x) | _, _ => .c := rfl
end Go.Proofs.Ytimmbmphfgnelaa.VM
namespace Go.Proofs.Ytimmbmphfgnelaa.VM
open Go Go.RowKit
section
variable {P : Program} {N : Nat} {Q : Exit → List E → Prop} {L : List E} {ops : Array Oper} {qs pend todo : List Nat} {S : Array Bool}
theorem AWA.againE {i : Nat} {d : Nat} {o : Oper} {x : X} (ho : ops[i]? = some o) (hd : o.dst = some d) (hp : pend.all (fun k => todo.contains k || k == i || !waits ops k i) = true)
    (h : Qd P ops o L x) (hx : slotL L d = x) (k : AWA P N ops qs Q S pend todo (putL L d x)) : AWA P N ops qs Q S pend (i :: todo) L := by
  subst hx
  exact AWA.again ho hd hp h k
end
end Go.Proofs.Ytimmbmphfgnelaa.VM
namespace Go.Proofs.Ytimmbmphfgnelaa.VM
open Go Go.RowKit
theorem RdC.cons_part {w : World} {cs : List Value} {ts us : List T} (o k : Nat) (h : RdC w ts ((cs.drop o).take k)) (h' : RdC w us (cs.drop (o + k))) : RdC w (ts ++ us) (cs.drop o) := by
  have : cs.drop o = (cs.drop o).take k ++ cs.drop (o + k) := by
    rw [← List.drop_drop, List.take_append_drop]
  rw [this]
  exact h.append h'
theorem RdC.end_part {w : World} {cs : List Value} {n : Nat} (h : cs.length = n) : RdC w [] (cs.drop n) := by
  rw [List.drop_eq_nil_of_le (by omega)]
  exact ⟨rfl, fun i t v h => by simp at h⟩
end Go.Proofs.Ytimmbmphfgnelaa.VM
namespace Go.Proofs.Ytimmbmphfgnelaa.VM
open Go Go.RowKit
def trG {α : Type} [En α] (len : Nat) (g : Nat → α) : T := .s (En.n α) len fun i c => (En.cs (g i)).getD c .j
theorem tr_trG {α : Type} [En α] {l : List α} {g : Nat → α} (h : ∀ i, i < l.length → l.getD i En.dflt = g i) : (tr l).sim (trG l.length g) :=
  T.sim_of fun i c hi _ => by rw [h i hi]
theorem mkL_trG {α : Type} [Mk α] (l : List α) (k : Int) : (tr (mkL l k)).sim (trG l.length (mkF l k)) := by
  have := tr_trG (l := mkL l k) (g := mkF l k) (fun i hi => mkL_get l k (by simpa [mkL_len] using hi))
  rwa [mkL_len] at this
theorem trMix_mk {α : Type} [Mk α] (l : List α) (k : Int) {j : Nat} {h : Nat → α} (hj : l.length ≤ j) : (trMix j l.length (mkF l k) h).sim (tr (mkL l k)) := 
  trMix_full hj (mkL_len l k) fun i hi => (mkL_get l k hi).symm
theorem cnt_int (a : Int) : Mk.cnt a = 1 := rfl
theorem cnt_bool (a : Bool) : Mk.cnt a = 1 := rfl
theorem cnt_list {α : Type} [Mk α] (l : List α) : Mk.cnt l = cumN Mk.cnt En.dflt l l.length := rfl
theorem nblt (a b : Nat) : Nat.blt a b = decide (a < b) := by
  rw [Bool.eq_iff_iff, decide_eq_true_eq]
  exact Iff.of_eq Nat.blt_eq
end Go.Proofs.Ytimmbmphfgnelaa.VM
namespace Go.Proofs.Ytimmbmphfgnelaa.VM
open Go Go.RowKit
/-- an append of plain cells -/
theorem app_sim {α : Type} [En α] {l l' : List α} {len : Nat} {f : Nat → Nat → T} (hlen : len = l.length) (hf : ∀ k c, k < l.length → c < En.n α → f k c = (En.cs (l.getD k En.dflt)).getD c .j) {g : Nat → Nat → T} (hg : ∀ k c, k < l'.length → c < En.n α → g k c = (En.cs (l'.getD k En.dflt)).getD c .j) :
    (appT (En.n α) len f l'.length g).sim (tr (l ++ l')) := by
  subst hlen
  refine ⟨fun k c => (En.cs ((l ++ l').getD k En.dflt)).getD c .j, by simp [tr], fun k c hk hc => ?_⟩
  show (if k < l.length then f k c else g (k - l.length) c).sim ((En.cs ((l ++ l').getD k En.dflt)).getD c .j)
  split
  · rename_i h
    rw [hf k c h hc, show (l ++ l').getD k En.dflt = l.getD k En.dflt by simp [List.getD_eq_getElem?_getD, List.getElem?_append_left h]]
    exact T.sim_refl _
  · rename_i h
    rw [hg _ c (by omega) hc, show (l ++ l').getD k En.dflt = l'.getD (k - l.length) En.dflt by simp [List.getD_eq_getElem?_getD, List.getElem?_append_right (by omega : l.length ≤ k)]]
    exact T.sim_refl _
/-- plain cells -/
class Fl (α : Type) extends En α where
  flat : ∀ (a : α) (c : Nat), c < n → flatT ((cs a).getD c .j) = (cs a).getD c .j
theorem app_nil {α : Type} [Fl α] {l : List α} {f : Nat → Nat → T} : (appT (En.n α) 0 f l.length fun k c => flatT ((En.cs (l.getD k En.dflt)).getD c .j)).sim (tr l) :=
  app_sim (l := []) rfl (fun k c hk => absurd hk (Nat.not_lt_zero k)) fun k c _ hc => Fl.flat _ c hc
end Go.Proofs.Ytimmbmphfgnelaa.VM
namespace Go.Proofs.Ytimmbmphfgnelaa.VM
open Go Go.RowKit
section
variable {P : Program} {L : List E} {dst : Option Tmp} {ty : TypeId} {pos : String} {af : Array Edge} {g : Option (Nat × Bool)}
theorem Qt.eqB {t t2 : TypeId} {x y : Operand} {u v : Bool} (hx : evX L x = .v (.bool u)) (hy : evX L y = .v (.bool v)) (ht : P.underlying t = some .bool) : Qt P ⟨dst, .binOp .eql t x y t2, ty, pos, af, g⟩ L (.v (.bool (u == v))) :=
  Qt.eqlB hx hy (.inl rfl) ht
theorem Qt.neB {t t2 : TypeId} {x y : Operand} {u v : Bool} (hx : evX L x = .v (.bool u)) (hy : evX L y = .v (.bool v)) (ht : P.underlying t = some .bool) : Qt P ⟨dst, .binOp .neq t x y t2, ty, pos, af, g⟩ L (.v (.bool (u != v))) :=
  Qt.eqlB hx hy (.inr rfl) ht
end
end Go.Proofs.Ytimmbmphfgnelaa.VM
namespace Go.Proofs.Ytimmbmphfgnelaa.VM
open Go Go.RowKit
theorem put_tr {α : Type} [En α] (l : List α) (k c : Nat) (y : T) : T.put (tr l) [] k c y = .s (En.n α) l.length (upd (fun k c => (En.cs (l.getD k En.dflt)).getD c .j) k c y) := rfl
/-- one element turns -/
theorem set_sim {α : Type} [En α] {l : List α} {i : Nat} {a : α} {f : Nat → Nat → T} (ho : ∀ k c, k ≠ i → f k c = (En.cs (l.getD k En.dflt)).getD c .j) (hc : ∀ c, c < En.n α → (f i c).sim ((En.cs a).getD c .j)) : (T.s (En.n α) l.length f).sim (tr (l.set i a)) := by
  refine ⟨fun k c => (En.cs ((l.set i a).getD k En.dflt)).getD c .j, by simp [tr], fun k c hk hcc => ?_⟩
  show (f k c).sim ((En.cs ((l.set i a).getD k En.dflt)).getD c .j)
  by_cases e : k = i
  · subst e
    rw [show (l.set k a).getD k En.dflt = a by simp [List.getD_eq_getElem?_getD, hk]]
    exact hc c hcc
  · rw [ho k c e, show (l.set i a).getD k En.dflt = l.getD k En.dflt by simp [List.getD_eq_getElem?_getD, List.getElem?_set_ne (Ne.symm e)]]
    exact T.sim_refl _
theorem cnt_bools (l : List Bool) : Mk.cnt l = l.length := by rw [cnt_list, cumN_const (c := Mk.cnt) (n := 1) (fun _ => rfl)]; omega
theorem cnt_ints (l : List Int) : Mk.cnt l = l.length := by rw [cnt_list, cumN_const (c := Mk.cnt) (n := 1) (fun _ => rfl)]; omega
theorem wt_bools (l : List Bool) : Mk.wt l = l.length := by rw [wt_list, wtL_zero (w := Mk.wt) (fun _ => rfl)]; rfl
theorem wt_ints (l : List Int) : Mk.wt l = l.length := by rw [wt_list, wtL_zero (w := Mk.wt) (fun _ => rfl)]; rfl
instance : Fl Int := ⟨fun a c hc => by
  match c, hc with
  | 0, _ => rfl
  | c + 1, h => exact absurd h (by simp [En.n])⟩
instance : Fl Bool := ⟨fun a c hc => by
  match c, hc with
  | 0, _ => rfl
  | c + 1, h => exact absurd h (by simp [En.n])⟩

structure AllInv {α : Type} (p : α → Bool) (l : List α) where
  k : Nat
  le : k ≤ l.length
  al : (l.take k).all p = true
theorem AllInv.next {α : Type} {p : α → Bool} {l : List α} (i : AllInv p l) (d : α) (hk : i.k < l.length) (h : p (l.getD i.k d) = true) : (l.take (i.k + 1)).all p = true := by
  rw [List.take_add_one, List.all_append, i.al, List.getElem?_eq_getElem hk]
  simpa [hk] using h
theorem AllInv.stop {α : Type} {p : α → Bool} {l : List α} (i : AllInv p l) (d : α) (hk : i.k < l.length) (h : p (l.getD i.k d) = false) : l.all p = false := by
  rw [List.all_eq_false]
  exact ⟨l[i.k], List.getElem_mem hk, by simpa [hk] using h⟩
theorem AllInv.full {α : Type} {p : α → Bool} {l : List α} (i : AllInv p l) (hk : ¬ i.k < l.length) : l.all p = true := by
  have := i.al
  rwa [List.take_of_length_le (by omega)] at this
structure IxInv {α : Type} (p : α → Bool) (l : List α) where
  k : Nat
  le : k ≤ l.length
  al : (l.take k).all (fun x => !p x) = true
def ixOf {α : Type} (p : α → Bool) (l : List α) : Int := match l.findIdx? p with | some i => i | none => -1
theorem ixOf_hit {α : Type} {p : α → Bool} {l : List α} (i : IxInv p l) (d : α) (hk : i.k < l.length) (h : p (l.getD i.k d) = true) : ixOf p l = i.k := by
  have h2 : p l[i.k] = true := by simpa [hk] using h
  have : l.findIdx? p = some i.k := by
    rw [List.findIdx?_eq_some_iff_getElem]
    refine ⟨hk, h2, fun j hj => ?_⟩
    have := List.all_eq_true.1 i.al l[j] (by rw [List.mem_take_iff_getElem]; exact ⟨j, by omega, rfl⟩)
    simpa using this
  simp [ixOf, this]
theorem ixOf_none {α : Type} {p : α → Bool} {l : List α} (i : IxInv p l) (hk : ¬ i.k < l.length) : ixOf p l = -1 := by
  have := i.al
  rw [List.take_of_length_le (by omega)] at this
  have : l.findIdx? p = none := by
    rw [List.findIdx?_eq_none_iff]
    intro x hx
    simpa using List.all_eq_true.1 this x hx
  simp [ixOf, this]
theorem IxInv.next {α : Type} {p : α → Bool} {l : List α} (i : IxInv p l) (d : α) (hk : i.k < l.length) (h : p (l.getD i.k d) = false) : (l.take (i.k + 1)).all (fun x => !p x) = true := by
  rw [List.take_add_one, List.all_append, i.al, List.getElem?_eq_getElem hk]
  have : p l[i.k] = false := by simpa [hk] using h
  simp [this]
theorem ixOf_ge {α : Type} (p : α → Bool) (l : List α) : decide (0 ≤ ixOf p l) = l.any p := by
  unfold ixOf
  cases h : l.findIdx? p with
  | none =>
    rw [List.findIdx?_eq_none_iff] at h
    have : l.any p = false := by rw [List.any_eq_false]; intro x hx; simp [h x hx]
    simp [this]
  | some i =>
    rw [List.findIdx?_eq_some_iff_getElem] at h
    obtain ⟨hi, h1, _⟩ := h
    have : l.any p = true := List.any_eq_true.2 ⟨_, List.getElem_mem hi, h1⟩
    simp [this]
theorem ixOf_bd {α : Type} (p : α → Bool) (l : List α) : -1 ≤ ixOf p l ∧ ixOf p l < l.length := by
  unfold ixOf
  cases h : l.findIdx? p with
  | none => simp; omega
  | some i =>
    rw [List.findIdx?_eq_some_iff_getElem] at h
    obtain ⟨hi, _⟩ := h
    simp; omega
end Go.Proofs.Ytimmbmphfgnelaa.VM
namespace Go.Proofs.Ytimmbmphfgnelaa.VM
open Go Go.RowKit
/-- a root's tree, told otherwise -/
def repR : List E → Nat → T → List E
  | [], _, _ => []
  | .rt i m t :: L, id, t' => if i = id then .rt i m t' :: repR L id t' else .rt i m t :: repR L id t'
  | e :: L, id, t' => e :: repR L id t'
theorem repR_sl : ∀ {L : List E} {id : Nat} {t' : T} {s : Nat} {x : X}, E.sl s x ∈ repR L id t' → E.sl s x ∈ L
  | .sl s' x' :: L, id, t', s, x, h => by
    rcases List.mem_cons.1 h with h | h
    · rw [h]; exact List.mem_cons_self ..
    · exact List.mem_cons_of_mem _ (repR_sl h)
  | .rt i m t :: L, id, t', s, x, h => by
    simp only [repR] at h
    split at h <;>
    · rcases List.mem_cons.1 h with h | h
      · cases h
      · exact List.mem_cons_of_mem _ (repR_sl h)
  | .al i c x' :: L, id, t', s, x, h => by
    rcases List.mem_cons.1 h with h | h
    · cases h
    · exact List.mem_cons_of_mem _ (repR_sl h)
theorem repR_al : ∀ {L : List E} {id : Nat} {t' : T} {s c : Nat} {x : X}, E.al s c x ∈ repR L id t' → E.al s c x ∈ L
  | .sl s' x' :: L, id, t', s, c, x, h => by
    rcases List.mem_cons.1 h with h | h
    · cases h
    · exact List.mem_cons_of_mem _ (repR_al h)
  | .rt i m t :: L, id, t', s, c, x, h => by
    simp only [repR] at h
    split at h <;>
    · rcases List.mem_cons.1 h with h | h
      · cases h
      · exact List.mem_cons_of_mem _ (repR_al h)
  | .al i c' x' :: L, id, t', s, c, x, h => by
    rcases List.mem_cons.1 h with h | h
    · rw [h]; exact List.mem_cons_self ..
    · exact List.mem_cons_of_mem _ (repR_al h)
theorem rts_repR : ∀ {L : List E} {id : Nat} {t' : T} {i : Nat} {m : M} {t : T}, rts (repR L id t') i m t ↔ (i = id ∧ t = t' ∧ ∃ t0, rts L id m t0) ∨ (i ≠ id ∧ rts L i m t)
  | [], _, _, _, _, _ => by simp [rts, repR]
  | .sl s x :: L, id, t', i, m, t => by
    have := rts_repR (L := L) (id := id) (t' := t') (i := i) (m := m) (t := t)
    simp only [rts, repR] at this ⊢
    simp [this]
  | .al s c x :: L, id, t', i, m, t => by
    have := rts_repR (L := L) (id := id) (t' := t') (i := i) (m := m) (t := t)
    simp only [rts, repR] at this ⊢
    simp [this]
  | .rt j m1 t1 :: L, id, t', i, m, t => by
    have := rts_repR (L := L) (id := id) (t' := t') (i := i) (m := m) (t := t)
    simp only [rts, repR] at this ⊢
    split
    · rename_i hj; subst hj
      simp only [List.mem_cons, this, E.rt.injEq]
      constructor
      · rintro (⟨rfl, rfl, rfl⟩ | ⟨rfl, rfl, t0, h⟩ | ⟨h1, h2⟩)
        · exact .inl ⟨rfl, rfl, t1, .inl (by simp)⟩
        · exact .inl ⟨rfl, rfl, t0, .inr h⟩
        · exact .inr ⟨h1, .inr h2⟩
      · rintro (⟨rfl, rfl, t0, ⟨_, rfl, rfl⟩ | h⟩ | ⟨h1, ⟨rfl, _⟩ | h2⟩)
        · exact .inl ⟨rfl, rfl, rfl⟩
        · exact .inr (.inl ⟨rfl, rfl, t0, h⟩)
        · exact absurd rfl h1
        · exact .inr (.inr ⟨h1, h2⟩)
    · rename_i hj
      simp only [List.mem_cons, this, E.rt.injEq]
      constructor
      · rintro (⟨rfl, rfl, rfl⟩ | ⟨rfl, rfl, t0, h⟩ | ⟨h1, h2⟩)
        · exact .inr ⟨hj, .inl ⟨rfl, rfl, rfl⟩⟩
        · exact .inl ⟨rfl, rfl, t0, .inr h⟩
        · exact .inr ⟨h1, .inr h2⟩
      · rintro (⟨rfl, rfl, t0, ⟨rfl, _⟩ | h⟩ | ⟨h1, ⟨rfl, rfl, rfl⟩ | h2⟩)
        · exact absurd rfl hj
        · exact .inr (.inl ⟨rfl, rfl, t0, h⟩)
        · exact .inl ⟨rfl, rfl, rfl⟩
        · exact .inr (.inr ⟨h1, h2⟩)
theorem VR.simAll {R R' : RT} {H : Nat → Value} {w : World} (hR : ∀ id m t, R id m t → ∃ t', R' id m t' ∧ t.sim t') {x : X} {v : Value} (h : VR R H w x v) : VR R' H w x v :=
  VR.leaves (C := fun _ => True) (fun x v hl _ h => by
    cases x with
    | p id q n k c =>
      obtain ⟨m, t, h1, h2, ⟨len, f, h3, h4, h5⟩, h6⟩ := h
      obtain ⟨t', e1, e2⟩ := hR id m t h1
      obtain ⟨e3, e4⟩ := sim_at e2 h2
      rw [h3] at e4
      obtain ⟨g, e5, _⟩ := e4
      exact ⟨m, t', e1, e3, ⟨len, g, e5, h4, h5⟩, h6⟩
    | h id q =>
      obtain ⟨m, t, h1, h2, ⟨n, len, f, h3⟩, h6⟩ := h
      obtain ⟨t', e1, e2⟩ := hR id m t h1
      obtain ⟨e3, e4⟩ := sim_at e2 h2
      rw [h3] at e4
      obtain ⟨g, e5, _⟩ := e4
      exact ⟨m, t', e1, e3, ⟨n, len, g, e5⟩, h6⟩
    | a id q n lo len =>
      obtain ⟨m, t, h1, h2, ⟨l, f, h3, h4⟩, h6⟩ := h
      obtain ⟨t', e1, e2⟩ := hR id m t h1
      obtain ⟨e3, e4⟩ := sim_at e2 h2
      rw [h3] at e4
      obtain ⟨g, e5, _⟩ := e4
      exact ⟨m, t', e1, e3, ⟨l, g, e5, h4⟩, h6⟩
    | _ => exact hl.elim) (X.all_true (fun _ => trivial) x) h
theorem Weak.rep {N : Nat} {L : List E} {id : Nat} {m : M} {t t' : T} (hR : rootL L id = some (m, t)) (hs : t.sim t') : Weak N L (repR L id t') := fun cx a w hsat => by
  obtain ⟨H, G, hr, hG⟩ := hsat.rp
  have hid := rootL_mem hR
  have hback : ∀ {i m1 t1}, rts (repR L id t') i m1 t1 → ∃ t0, rts L i m1 t0 ∧ t0.sim t1 := fun h => by
    rcases rts_repR.1 h with ⟨rfl, rfl, t0, h⟩ | ⟨_, h⟩
    · obtain ⟨rfl, rfl⟩ := hr.one _ _ _ _ _ h hid
      exact ⟨_, h, hs⟩
    · exact ⟨_, h, T.sim_refl _⟩
  have hfwd : ∀ i m1 t1, rts L i m1 t1 → ∃ t2, rts (repR L id t') i m1 t2 ∧ t1.sim t2 := fun i m1 t1 h => by
    by_cases e : i = id
    · subst e
      obtain ⟨rfl, rfl⟩ := hr.one _ _ _ _ _ h hid
      exact ⟨t', rts_repR.2 (.inl ⟨rfl, rfl, _, h⟩), hs⟩
    · exact ⟨t1, rts_repR.2 (.inr ⟨e, h⟩), T.sim_refl _⟩
  have hV : ∀ {x v}, VR (rts L) H w x v → VR (rts (repR L id t')) H w x v := fun h => h.simAll hfwd
  refine ⟨hsat.siz, hsat.dfr, hsat.chg, H, G, ⟨?_, ?_, ?_, ?_, ?_, ?_, ?_, ?_⟩, ?_, ?_⟩
  · intro i m1 t1 m2 t2 h1 h2
    rcases rts_repR.1 h1 with ⟨rfl, rfl, t0, g1⟩ | ⟨e1, g1⟩ <;> rcases rts_repR.1 h2 with ⟨e, rfl, t3, g2⟩ | ⟨e2, g2⟩
    · exact ⟨(hr.one _ _ _ _ _ g1 g2).1, rfl⟩
    · exact absurd rfl e2
    · exact absurd e e1
    · exact hr.one _ _ _ _ _ g1 g2
  · intro i m1 t1 h1 h2
    obtain ⟨t0, e1, e2⟩ := hback h1
    exact (hr.own i m1 t0 e1 h2).sim e2
  · intro i t1 h1
    obtain ⟨t0, e1, e2⟩ := hback h1
    exact (hr.ro i t0 e1).sim e2
  · intro i t1 h1
    obtain ⟨t0, e1, e2⟩ := hback h1
    exact hr.rold i t0 e1
  · intro i t1 h1
    obtain ⟨t0, e1, e2⟩ := hback h1
    obtain ⟨n, f, rfl⟩ := hr.box i t0 e1
    obtain ⟨g, rfl, _⟩ := e2
    exact ⟨n, g, rfl⟩
  · intro i m1 t1 i' m2 t2 h1 h2
    obtain ⟨t0, e1, _⟩ := hback h1
    obtain ⟨t3, e2, _⟩ := hback h2
    exact hr.dis i m1 t0 i' m2 t3 e1 e2
  · intro s x h1
    exact hV (hr.sl s x (repR_sl h1))
  · intro i c x h1
    obtain ⟨n, f, g1, g2, A, v, g3, g4, g5⟩ := hr.al i c x (repR_al h1)
    obtain ⟨t2, g6, g7⟩ := hfwd _ _ _ g1
    obtain ⟨g, rfl, _⟩ := g7
    exact ⟨n, g, g6, g2, A, v, g3, g4, hV g5⟩
  · intro i m1 t1 h1
    obtain ⟨t0, e1, _⟩ := hback h1
    exact hG.1 i m1 t0 e1
  · intro i m1 t1 hb h1
    obtain ⟨t0, e1, _⟩ := hback h1
    exact hG.2 i m1 t0 hb e1
section
variable {P : Program} {N : Nat} {Q : Exit → List E → Prop} {L : List E} {ops : Array Oper} {l : List Oper} {qs pend todo : List Nat} {S : Array Bool} {m : M} {t : T}
theorem AW.rep {c : Code} (id : Nat) (t' : T) (hR : rootL L id = some (m, t)) (hs : t.sim t') (k : AW P N c Q (repR L id t')) : AW P N c Q L := AW.weak (Weak.rep hR hs) k
theorem AWL.rep (id : Nat) (t' : T) (hR : rootL L id = some (m, t)) (hs : t.sim t') (k : AWL P N ops l Q (repR L id t')) : AWL P N ops l Q L := AWL.weak (Weak.rep hR hs) k
theorem AWA.rep (id : Nat) (t' : T) (hR : rootL L id = some (m, t)) (hs : t.sim t') (k : AWA P N ops qs Q S pend todo (repR L id t')) : AWA P N ops qs Q S pend todo L := AWA.weak (Weak.rep hR hs) k
end
end Go.Proofs.Ytimmbmphfgnelaa.VM
namespace Go.Proofs.Ytimmbmphfgnelaa.VM
theorem nT {b : Bool} (h : b = true) : (!b) = false := by rw [h]; rfl
theorem nF {b : Bool} (h : b = false) : (!b) = true := by rw [h]; rfl
end Go.Proofs.Ytimmbmphfgnelaa.VM
namespace Go.Proofs.Ytimmbmphfgnelaa.VM
open Go Go.RowKit
section
variable {P : Program} {L : List E} {dst : Option Tmp} {ty : TypeId} {pos : String} {af : Array Edge} {g : Option (Nat × Bool)}
theorem vrs_vals {R : RT} {H : Nat → Value} {w : World} : ∀ {vs us : List Value}, VRs R H w (vs.map X.v) us → us = vs
  | [], [], _ => rfl
  | v :: vs, u :: us, ⟨h1, h2⟩ => by
    have : u = v := h1
    rw [this, vrs_vals h2]
  | [], _ :: _, h => h.elim
  | _ :: _, [], h => h.elim
theorem Qt.eqS {t t2 : TypeId} {x y : Operand} {vs us : List Value} {r : Value} (hrun : ∀ (x y : Operand) (w : World), (do eqGuard .eql t x y (.agg vs.toArray) (.agg us.toArray); Go.binOp .eql t (.agg vs.toArray) (.agg us.toArray)).run P w = .ok r w) (hx : evX L x = .g (vs.map X.v)) (hy : evX L y = .g (us.map X.v)) : Qt P ⟨dst, .binOp .eql t x y t2, ty, pos, af, g⟩ L (.v r) :=
  (fun H w a he _ => by
    have h1 := he x
    have h2 := he y
    rw [hx] at h1
    rw [hy] at h2
    obtain ⟨v1, e1, f1⟩ := h1
    obtain ⟨v2, e2, f2⟩ := h2
    rw [vrs_vals f1] at e1
    rw [vrs_vals f2] at e2
    refine ⟨r, ?_, rfl⟩
    have := hrun x y w
    rw [← e1, ← e2] at this
    exact run_v this)
end
end Go.Proofs.Ytimmbmphfgnelaa.VM
namespace Go.Proofs.Ytimmbmphfgnelaa.VM
attribute [go_sem] slotsOf List.cons_append List.nil_append List.append_nil putL delS evX slotL cellX_v cellX_s cellX_j cellsX List.range' List.map_cons List.map_nil aliasL alsOf idsL delR delRs movedOf srcs srcT X.leaves X.ptrB X.inB X.insB X.men X.mens rootL rowT List.length stL setQ dropM X.thr X.thrs pre newsL rens nu X.ren X.rens zbox List.map base repR reps T.toX List.replicate List.flatten T.put put_tr upd_app nbeq eq_self Int.toNat_natCast X.one X.er stLA alA T.set setWs newW wFind keepX keepXs keepP lookW Option.isSome X.out X.outs entAt nblt decide_true decide_false cs_list trMix trG cs_int cs_bool cs_str cellX_tr List.getD_cons_zero List.getD_cons_succ List.contains List.elem Bool.and_true Bool.true_and Bool.and_false Bool.false_and Bool.or_false Bool.or_true Bool.false_or Bool.true_or Bool.false_eq_true and_true true_and and_false false_and and_self
end Go.Proofs.Ytimmbmphfgnelaa.VM
namespace Go.Proofs.Ytimmbmphfgnelaa.VM
open Go Go.RowKit
/-- slots forgotten -/
def dropS : List E → List Nat → List E
  | [], _ => []
  | .sl s x :: L, ds => if ds.contains s then dropS L ds else .sl s x :: dropS L ds
  | .rt i m t :: L, ds => .rt i m t :: dropS L ds
  | .al i c x :: L, ds => .al i c x :: dropS L ds
theorem dropS_sub : ∀ {L : List E} {ds : List Nat} {e : E}, e ∈ dropS L ds → e ∈ L
  | .sl s x :: L, ds, e, h => by
    simp only [dropS] at h
    split at h
    · exact List.mem_cons_of_mem _ (dropS_sub h)
    · rcases List.mem_cons.1 h with h | h
      · rw [h]; exact List.mem_cons_self ..
      · exact List.mem_cons_of_mem _ (dropS_sub h)
  | .rt i m t :: L, ds, e, h => by
    rcases List.mem_cons.1 h with h | h
    · rw [h]; exact List.mem_cons_self ..
    · exact List.mem_cons_of_mem _ (dropS_sub h)
  | .al i c x :: L, ds, e, h => by
    rcases List.mem_cons.1 h with h | h
    · rw [h]; exact List.mem_cons_self ..
    · exact List.mem_cons_of_mem _ (dropS_sub h)
theorem rts_dropS : ∀ {L : List E} {ds : List Nat}, rts (dropS L ds) = rts L
  | [], _ => rfl
  | .sl s x :: L, ds => by
    have := rts_dropS (L := L) (ds := ds)
    funext i m t
    have h := congrFun (congrFun (congrFun this i) m) t
    simp only [rts, dropS] at h ⊢
    split <;> simp [h]
  | .rt j m1 t1 :: L, ds => by
    have := rts_dropS (L := L) (ds := ds)
    funext i m t
    have h := congrFun (congrFun (congrFun this i) m) t
    simp only [rts, dropS] at h ⊢
    simp [h]
  | .al j c x :: L, ds => by
    have := rts_dropS (L := L) (ds := ds)
    funext i m t
    have h := congrFun (congrFun (congrFun this i) m) t
    simp only [rts, dropS] at h ⊢
    simp [h]
theorem Weak.dropS {N : Nat} {L : List E} (ds : List Nat) : Weak N L (VM.dropS L ds) := fun cx a w hs => by
  obtain ⟨H, G, hr, hG⟩ := hs.rp
  refine ⟨hs.siz, hs.dfr, hs.chg, H, G, ⟨?_, ?_, ?_, ?_, ?_, ?_, ?_, ?_⟩, by rw [rts_dropS]; exact hG⟩
  · rw [rts_dropS]; exact hr.one
  · rw [rts_dropS]; exact hr.own
  · rw [rts_dropS]; exact hr.ro
  · rw [rts_dropS]; exact hr.rold
  · rw [rts_dropS]; exact hr.box
  · rw [rts_dropS]; exact hr.dis
  · rw [rts_dropS]; exact fun t x h => hr.sl t x (dropS_sub h)
  · rw [rts_dropS]; exact fun id c x h => hr.al id c x (dropS_sub h)
theorem Weak.trans {N : Nat} {L L1 L2 : List E} (h : Weak N L L1) (h' : Weak N L1 L2) : Weak N L L2 := fun cx a w hs => h' cx a w (h cx a w hs)
/-- a slot, known otherwise -/
theorem Weak.slot {N : Nat} {L : List E} {d : Nat} {v v' : Value} (h : slotL L d = .v v) (e : v = v') : Weak N L (putL L d (.v v')) := fun cx a w hs => by
  subst e
  obtain ⟨H, G, hr, hG⟩ := hs.rp
  have hv : Act.val a d = v := by
    have h1 := ev_ok hr (.tmp d)
    simp only [evX, h, VR] at h1
    exact h1
  refine ⟨hs.siz, hs.dfr, hs.chg, H, G, (hr.put (d := d) (x := .v v) (v := v) rfl).val fun t => ?_, by rw [rts_put]; exact hG⟩
  split
  · rename_i e; rw [e, hv]
  · rfl
theorem Weak.join {N : Nat} {L LB : List E} {d : Nat} {ds : List Nat} {v v' : Value} (h : slotL L d = .v v) (e : v = v') (hB : VM.dropS L ds = LB) : Weak N L (putL LB d (.v v')) :=
  hB ▸ fun cx a w hs => by
    obtain ⟨H, G, hr, hG⟩ := hs.rp
    have hv : Act.val a d = v' := by
      have h1 := ev_ok hr (.tmp d)
      simp only [evX, h, VR] at h1
      exact h1.trans e
    have hs2 := Weak.dropS ds cx a w hs
    obtain ⟨H2, G2, hr2, hG2⟩ := hs2.rp
    refine ⟨hs.siz, hs.dfr, hs.chg, H2, G2, (hr2.put (d := d) (x := .v v') (v := v') rfl).val fun t => ?_, by rw [rts_put]; exact hG2⟩
    split
    · rename_i e; rw [e, hv]
    · rfl
section
variable {P : Program} {N : Nat} {Q : Exit → List E → Prop} {L L' : List E} {ops : Array Oper} {l : List Oper} {qs pend todo : List Nat} {S : Array Bool}
/-- ways that meet behind k operations -/
theorem AWL.cut (k : Nat) (h1 : AWL P N ops (l.drop k) Q L' → AWL P N ops l Q L) (h2 : AWL P N ops (l.drop k) Q L') : AWL P N ops l Q L := h1 h2
theorem AWA.cut {S' : Array Bool} {pend' : List Nat} (h1 : AWA P N ops qs Q S' pend' [] L' → AWA P N ops qs Q S pend [] L) (h2 : AWA P N ops qs Q S' pend' [] L') : AWA P N ops qs Q S pend [] L := h1 h2
/-- ways that meet behind a piece of code -/
theorem AW.cut {x y : Code} (L' : List E) (h1 : AW P N x (thenQ (fun L1 => Weak N L1 L') Q) L) (h2 : AW P N y Q L') : AW P N x (thenQ (AW P N y Q) Q) L :=
  AW.mono h1 fun e L1 h => by
    cases e with
    | normal => exact AW.weak h h2
    | _ => exact h
end
section
variable {P : Program} {L : List E} {dst : Option Tmp} {ty : TypeId} {pos : String} {af : Array Edge} {g : Option (Nat × Bool)}
theorem Qt.pickAnd {c x y : Operand} {b r : Bool} (hc : evX L c = .v (.bool b)) (hx : evX L x = .v (if b then .bool r else undef)) (hy : evX L y = .v (.bool false)) : Qt P ⟨dst, .pick c x y, ty, pos, af, g⟩ L (.v (.bool (b && r))) := by
  have h := Qt.pick (P := P) (dst := dst) (ty := ty) (pos := pos) (af := af) (g := g) (x := x) (y := y) hc
  cases b
  · rw [if_neg (by simp), hy] at h; exact h
  · rw [if_pos rfl, hx] at h; exact h
theorem Qt.pickOr {c x y : Operand} {b r : Bool} (hc : evX L c = .v (.bool b)) (hy : evX L y = .v (if b then undef else .bool r)) (hx : evX L x = .v (.bool true)) : Qt P ⟨dst, .pick c x y, ty, pos, af, g⟩ L (.v (.bool (b || r))) := by
  have h := Qt.pick (P := P) (dst := dst) (ty := ty) (pos := pos) (af := af) (g := g) (x := x) (y := y) hc
  cases b
  · rw [if_neg (by simp), hy] at h; exact h
  · rw [if_pos rfl, hx] at h; exact h
theorem ifT {b : Bool} (h : b = true) (u v : Value) : u = if b then u else v := by rw [h]; rfl
theorem ifF {b : Bool} (h : b = false) (u v : Value) : u = if b then v else u := by rw [h]; rfl
end
attribute [go_sem] dropS
end Go.Proofs.Ytimmbmphfgnelaa.VM
namespace Go.Proofs.Ytimmbmphfgnelaa.VM
open Go Go.RowKit
section
variable {P : Program} {N : Nat} {Q : Exit → List E → Prop} {L : List E} {ops : Array Oper} {l : List Oper}
theorem AWL.splitF (t : Nat) {b : Bool} (h : slotL L t = .v (.bool b)) (hf : b = false → AWL P N ops l Q L) (ht : b = true → AWL P N ops l Q L) : AWL P N ops l Q L := AWL.split t h ht hf
end
end Go.Proofs.Ytimmbmphfgnelaa.VM
namespace Go.Proofs.Ytimmbmphfgnelaa.VM
attribute [go_sem] List.take_succ_cons List.take_zero List.drop_succ_cons List.drop_zero List.take_nil List.drop_nil evParts
end Go.Proofs.Ytimmbmphfgnelaa.VM
namespace Go.Proofs.Ytimmbmphfgnelaa.VM
open Go Go.RowKit
section
variable {P : Program} {N : Nat} {Q : Exit → List E → Prop} {L : List E}
theorem AW.condT {c : Operand} {x y : Code} {t : Bool} (hc : evX L c = .v (.bool t)) (ht : t = true) (h : AW P N x Q L) : AW P N (.cond c x y) Q L := AW.cond hc (fun _ => h) fun hf => by rw [ht] at hf; cases hf
theorem AW.condF {c : Operand} {x y : Code} {t : Bool} (hc : evX L c = .v (.bool t)) (hf : t = false) (h : AW P N y Q L) : AW P N (.cond c x y) Q L := AW.cond hc (fun ht => by rw [hf] at ht; cases ht) fun _ => h
end
end Go.Proofs.Ytimmbmphfgnelaa.VM
namespace Go.Proofs.Ytimmbmphfgnelaa.VM
theorem trMix_start {α : Type} [En α] {n len : Nat} {g : Nat → α} {zt : List T} (hn : n = En.n α) (h : ∀ c, c < En.n α → (zt.getD c .j).sim ((En.cs (En.dflt : α)).getD c .j)) : (T.s n len fun _ j => zt.getD j .j).sim (trMix 0 len g fun _ => En.dflt) := by
  rw [hn]
  exact ⟨_, rfl, fun i c _ hc => by rw [if_neg (Nat.not_lt_zero i)]; exact h c hc⟩
theorem sim_nil {n : Nat} {f g : Nat → Nat → T} : (T.s n 0 f).sim (.s n 0 g) := ⟨_, rfl, fun k c hk => absurd hk (Nat.not_lt_zero k)⟩
theorem cnt_flat {α : Type} [Mk α] {n : Nat} (h : ∀ a : α, Mk.cnt a = n) (l : List α) : Mk.cnt l = n * l.length := by
  rw [cnt_list, cumN_const (c := Mk.cnt) (n := n) h]
end Go.Proofs.Ytimmbmphfgnelaa.VM
namespace Go.Proofs.Ytimmbmphfgnelaa.VM
attribute [go_sem] Nat.lt_irrefl wXs wX roXs roX T.at rowsX takeX
end Go.Proofs.Ytimmbmphfgnelaa.VM
namespace Go.Proofs.Ytimmbmphfgnelaa.VM
structure SzInv {α : Type} [Mk α] (left : Int) (a : List α) where
  k : Nat
  le : k ≤ a.length
  nn : 0 ≤ left - a.length - (cumN Mk.wt En.dflt a k : Nat)
theorem cumN_cons {α : Type} (c : α → Nat) (d x : α) (l : List α) : ∀ i, cumN c d (x :: l) (i + 1) = c x + cumN c d l i
  | 0 => by simp [cumN]
  | i + 1 => by
    rw [cumN, cumN_cons c d x l i, cumN]
    simp only [List.getD_cons_succ]
    omega
theorem cumN_wtL {α : Type} (c : α → Nat) (d : α) : ∀ l : List α, cumN c d l l.length = wtL c l
  | [] => rfl
  | x :: l => by
    rw [List.length_cons, cumN_cons, cumN_wtL c d l]
    rfl
theorem cumN_wt {α : Type} [Mk α] (a : List α) : cumN Mk.wt En.dflt a a.length = wtL Mk.wt a := cumN_wtL _ _ _
end Go.Proofs.Ytimmbmphfgnelaa.VM
namespace Go.Proofs.Ytimmbmphfgnelaa.VM
theorem szd_cases (n : Nat) (left : Int) : (left - n < 0 ∧ szd n left = -1) ∨ (0 ≤ left - n ∧ szd n left = left - n) := by
  unfold szd
  split
  · exact .inl ⟨by omega, rfl⟩
  · exact .inr ⟨by omega, rfl⟩
end Go.Proofs.Ytimmbmphfgnelaa.VM
namespace Go.Proofs.Ytimmbmphfgnelaa.VM
theorem isS_tr {α : Type} [En α] (l : List α) : (tr l).isS = true := rfl
theorem isS_s (n len : Nat) (f : Nat → Nat → T) : (T.s n len f).isS = true := rfl
theorem at_nil (t : T) : t.at [] = t := by cases t <;> rfl
theorem at_tr {α : Type} [En α] (l : List α) (n k c : Nat) (q : Path) : (tr l).at ((n, k, c) :: q) = ((En.cs (l.getD k En.dflt)).getD c .j).at q := by rw [tr, T.at]
attribute [go_sem] isS_tr isS_s at_nil at_tr
end Go.Proofs.Ytimmbmphfgnelaa.VM
namespace Go.Proofs.Ytimmbmphfgnelaa.VM
open Go Go.RowKit
section
variable {P : Program} {N : Nat} {Q : Exit → List E → Prop} {L L' : List E} {ops : Array Oper} {cx : Cx} {a b : Act} {w : World} {S R S' : Array Bool} {pend pend' todo qs : List Nat}
theorem Weak.refl : Weak N L L := fun _ _ _ h => h
/-- the same state, reached on another way -/
theorem AWA.use (hS : S = S') (hp : (pend.all pend'.contains && pend'.all pend.contains) = true) (hw : Weak N L L') (K : AWA P N ops qs Q S' pend' [] L') : AWA P N ops qs Q S pend [] L := by
  subst hS
  simp only [Bool.and_eq_true, List.all_eq_true, List.contains_iff_mem] at hp
  obtain ⟨h1, h2⟩ := hp
  intro hq cx a b w R fuel hu hv hs
  refine K hq cx a b w R fuel hu ?_ (hw cx b w hs)
  exact ⟨hv.rsz, hv.ssz, hv.sub, fun i h h' => h1 i (hv.pen i h h'), fun i h => hv.inq i (h2 i h), fun i h => hv.aft i (h2 i h), hv.tsz, hv.dfr, fun t ht => hv.agr t fun i hi => ht i (h1 i hi), fun i hi => hv.con i (h2 i hi), hv.clo⟩
def AllArm (P : Program) (N : Nat) (ops : Array Oper) (qs : List Nat) (Q : Exit → List E → Prop) (S : Array Bool) (pend : List Nat) (L : List E) : List Nat → Prop
  | [] => True
  | j :: r => Arm P N ops qs Q S pend L j ∧ AllArm P N ops qs Q S pend L r
theorem AllArm.all : ∀ {js : List Nat}, AllArm P N ops qs Q S pend L js → ∀ j ∈ js, Arm P N ops qs Q S pend L j
  | _ :: _, ⟨h1, h2⟩, j, hj => by
    rcases List.mem_cons.1 hj with rfl | hj
    · exact h1
    · exact AllArm.all h2 j hj
/-- several are ready -/
theorem AWA.anyL (js : List Nat) (hr : Region.ready .any ops S = js) (hne : js.isEmpty = false) (h : AllArm P N ops qs Q S pend L js) : AWA P N ops qs Q S pend [] L := AWA.any js hr hne h.all
theorem AWA.cutS (S' : Array Bool) (pend' : List Nat) (h1 : AWA P N ops qs Q S' pend' [] L' → AWA P N ops qs Q S pend [] L) (h2 : AWA P N ops qs Q S' pend' [] L') : AWA P N ops qs Q S pend [] L := h1 h2
end
end Go.Proofs.Ytimmbmphfgnelaa.VM
namespace Go.Proofs.Ytimmbmphfgnelaa.VM
open Go Go.RowKit
section
variable {P : Program} {N : Nat} {Q : Exit → List E → Prop} {L : List E}
/-- a row that a local variable owns, taken as a row of the call's own -/
theorem Weak.ext {id c nid n m len : Nat} {f g : Nat → Nat → T} (hR : rootL L id = some (.box, .s n 1 f)) (hc : c < n) (hf : f 0 c = .s m len g) (hn : rootL L nid = none) (hb : nid < base) :
    Weak N L (.al id c (.h nid []) :: .rt nid .row (.s m len g) :: setQ L id [(n, 0, c)] (.s n 1 (upd f 0 c .j))) := fun cx a w hs => by
  obtain ⟨H, G, hr, hG⟩ := hs.rp
  have hid := rootL_mem hR
  have hnid := rootL_none hn
  have hne : id ≠ nid := fun e => hnid _ _ (e ▸ hid)
  obtain ⟨h', b, o, x, Gx, e1, e2, e3, e4, e5, e6, e7, e8, e9⟩ := hr.store (q := []) (k := 0) (n := n) (len := 1) (f := f) (c := c) (by simp) hid (by simp [Okp]) (by simp only [T.at]) (by omega) hc
  simp only [VM.hd, Option.some.injEq] at e1
  subst e1
  rw [hf] at e4
  have hx1 : x.oneCell' = true := e4.one
  obtain ⟨r1, r2⟩ := e9 (L1 := L) (w' := w) (S := fun _ _ => False) (y := .j) (x' := x) (Gy := fun _ _ => False) hr hid (fun _ _ _ h => h) (Chg.refl _ _) (fun _ _ h => h.elim) e3 ⟨hx1, fun _ _ h => h⟩ (fun _ _ h => h.elim)
  have hput : (T.s n 1 f).put [] 0 c .j = .s n 1 (upd f 0 c .j) := by simp only [T.put]
  simp only [List.nil_append, hput] at r1 r2
  have hback : ∀ {i m1 t1}, rts (setQ L id [(n, 0, c)] (.s n 1 (upd f 0 c .j))) i m1 t1 → ∃ t0, rts L i m1 t0 := fun h => by
    rcases rts_setQ.1 h with ⟨rfl, rfl, t0, h⟩ | ⟨_, h⟩
    · exact ⟨t0, h⟩
    · exact ⟨_, h⟩
  have hnid2 : ∀ m t, ¬ rts (setQ L id [(n, 0, c)] (.s n 1 (upd f 0 c .j))) nid m t := fun m t h => by
    obtain ⟨t0, h⟩ := hback h
    exact hnid m t0 h
  have hm := r1.more (nid := nid) (t := .s m len g) (F := Gx) (h := x) hnid2 e4 fun i m1 t1 h a1 o1 hg hx => by
    by_cases e : i = id
    · subst e
      simp only [updN, if_true] at hg
      rcases hg with ⟨_, hg⟩ | hg
      · exact hg hx
      · exact hg
    · simp only [updN, e, if_false] at hg
      obtain ⟨t0, h0⟩ := hback h
      exact hr.dis id .box _ i m1 t0 hid h0 (Ne.symm e) (by simp) a1 o1 (e7 a1 o1 hx) hg
  have hrtid : rts (setQ L id [(n, 0, c)] (.s n 1 (upd f 0 c .j))) id .box (.s n 1 (upd f 0 c .j)) := rts_setQ.2 (.inl ⟨rfl, rfl, _, hid⟩)
  have hal := hm.als (A := [.al id c (.h nid [])]) fun ee he => by
    rw [List.mem_singleton] at he
    subst he
    refine ⟨id, c, _, rfl, n, _, List.mem_cons_of_mem _ hrtid, hc, ⟨b, o, none⟩, x, ?_, e3, .row, _, List.mem_cons_self .., by simp [Okp], ⟨_, _, _, by simp only [T.at]; rfl⟩, by simp only [VM.hd, updN, if_true]⟩
    simp only [updN, hne, if_false]
    obtain ⟨a0, l0, c0, k1, k2⟩ := adr_some e2
    rw [k1, k2]
    simp [adr]
  refine ⟨hs.siz, hs.dfr, hs.chg, _, _, hal, ?_⟩
  have hGm : Good cx (setQ L id [(n, 0, c)] (.s n 1 (upd f 0 c .j))) H (updN G id fun a p => (G id a p ∧ ¬ Gx a p) ∨ False) := by
    refine ⟨fun i m1 t1 h1 h2 x1 y1 hg => ?_, fun i m1 t1 h0 h1 => ?_⟩
    · obtain ⟨t0, h3⟩ := hback h1
      by_cases e : i = id
      · subst e
        simp only [updN, if_true] at hg
        rcases hg with ⟨hg, _⟩ | hg
        · exact hG.1 _ _ _ h3 h2 x1 y1 hg
        · exact hg.elim
      · simp only [updN, e, if_false] at hg
        exact hG.1 _ _ _ h3 h2 x1 y1 hg
    · obtain ⟨t0, h3⟩ := hback h1
      exact hG.2 _ _ _ h0 h3
  have := hGm.more (nid := nid) (t := .s m len g) (F := Gx) (h := x) hnid2 hb fun a1 o1 h1 => hG.1 _ _ _ hid (by simp) a1 o1 (e7 a1 o1 h1)
  exact (rts_als (A := [.al id c (.h nid [])]) (L := .rt nid .row (.s m len g) :: setQ L id [(n, 0, c)] (.s n 1 (upd f 0 c .j))) (fun e he => ⟨_, _, _, List.mem_singleton.1 he⟩)) ▸ this
theorem AW.ext {c0 : Code} (id c nid : Nat) {n m len : Nat} {f g : Nat → Nat → T} (hR : rootL L id = some (.box, .s n 1 f)) (hc : c < n) (hf : f 0 c = .s m len g) (hn : rootL L nid = none) (hb : nid < base) (k : AW P N c0 Q (.al id c (.h nid []) :: .rt nid .row (.s m len g) :: setQ L id [(n, 0, c)] (.s n 1 (upd f 0 c .j)))) : AW P N c0 Q L := AW.weak (Weak.ext hR hc hf hn hb) k
end
end Go.Proofs.Ytimmbmphfgnelaa.VM
namespace Go.Proofs.Ytimmbmphfgnelaa.VM
open Go Go.RowKit
section
variable {P : Program} {L : List E} {dst : Option Tmp} {ty : TypeId} {pos : String} {af : Array Edge} {g : Option (Nat × Bool)}
/-- 'string(b)' -/
theorem Qt.convBS {s t e : TypeId} {x : Operand} {id : Nat} {q : Path} {m : M} {T0 : T} {l : List UInt8} (hx : evX L x = .h id q) (hR : rootL L id = some (m, T0)) (hT : T0.at q = tr l) (hs : P.underlying s = some (.slice e)) (he : P.underlying e = some (.int .u8)) (ht : P.underlying t = some .string) : Qt P ⟨dst, .convert s t x, ty, pos, af, g⟩ L (.v (.string ⟨l.toArray⟩)) :=
  (fun H w a hev ⟨val, G, hr⟩ => by
    have h := hev x
    rw [hx] at h
    obtain ⟨m', t', g1, g2, g3, g4⟩ := h
    obtain ⟨rfl, rfl⟩ := hr.one _ _ _ _ _ g1 (rootL_mem hR)
    obtain ⟨h', F, e1, e2⟩ := hr.node g1 g2
    rw [g4] at e1; cases e1
    rw [hT] at e2
    obtain ⟨hn, ad, cap, h0, hl, hm, b, off, V, G', h1, h2⟩ := e2
    refine ⟨_, run_v ?_, rfl⟩
    rw [h0]
    cases l with
    | nil =>
      have := run_convert_bytes_string (P := P) w s t e ad 0 cap hs he ht
      simp only [List.length_nil] at this ⊢
      rw [this]
      cases ad <;> simp [Conv.bytesToString, loadCells, loadCellsFrom, Sem.run_pure] <;> rfl
    | cons y l =>
      rw [h1 (by simp)]
      refine run_convert_bytes_back w s t e _ cap (y :: l) hs he ht fun j hj => ?_
      obtain ⟨k1, k2, _⟩ := h2 j 0 (by simpa using hj) (by simp [En.n])
      have hg : (y :: l).getD j En.dflt = (y :: l)[j] := by simp only [List.getD_eq_getElem?_getD, List.getElem?_eq_getElem hj, Option.getD_some]
      have hv : V j 0 = bv ((y :: l)[j]) := by
        have k3 : Rd w ((En.cs ((y :: l).getD j En.dflt)).getD 0 T.j) (G' j 0) (V j 0) := k2
        rw [hg] at k3
        exact k3.1
      rw [Addr.add_lit]
      have hn1 : En.n UInt8 = 1 := rfl
      have k4 : w.cell? ⟨b, off + j, none⟩ = some (V j 0) := by simpa [hn1] using k1
      rw [k4, hv])
end
theorem pbCat {a b : ByteArray} (h : a.size + b.size ≤ 9223372036854775807) : pureBin .add (.string a) (.string b) = some (.string (a ++ b)) := if_pos h
theorem bits_and (a b : Int) : pureBin .and (iv a) (iv b) = some (.int .i64 (bits .and .i64 a b)) := rfl
theorem bits_or (a b : Int) : pureBin .or (iv a) (iv b) = some (.int .i64 (bits .or .i64 a b)) := rfl
end Go.Proofs.Ytimmbmphfgnelaa.VM
namespace Go.Proofs.Ytimmbmphfgnelaa.VM
open Go Go.RowKit
/-- seven bits to a byte, the lowest first -/
def varN : Nat → Nat → List UInt8
  | 0, _ => []
  | f + 1, n => if n < 128 then [UInt8.ofNat n] else UInt8.ofNat (128 + n % 128) :: varN f (n / 128)
def varI (n : Int) : List UInt8 := if 0 ≤ n ∧ n ≤ 562949953421311 then varN 7 n.toNat else []
def varS (n : Int) : ByteArray := ⟨(varI n).toArray⟩
theorem varN_big {f k : Nat} (hf : 1 ≤ f) (h : 127 < k) : varN f k = UInt8.ofNat (128 + k % 128) :: varN (f - 1) (k / 128) := by
  obtain ⟨g, rfl⟩ : ∃ g, f = g + 1 := ⟨f - 1, by omega⟩
  simp only [varN, if_neg (show ¬ k < 128 by omega), Nat.add_sub_cancel]
theorem varN_small {f k : Nat} (hf : 1 ≤ f) (h : k < 128) : varN f k = [UInt8.ofNat k] := by
  obtain ⟨g, rfl⟩ : ∃ g, f = g + 1 := ⟨f - 1, by omega⟩
  simp only [varN, if_pos h]
theorem varN_len : ∀ f n, (varN f n).length ≤ f
  | 0, _ => by simp [varN]
  | f + 1, n => by
    have := varN_len f (n / 128)
    unfold varN; split <;> simp; omega
theorem varI_len (n : Int) : (varI n).length ≤ 7 := by
  unfold varI; split
  · exact varN_len 7 _
  · simp
theorem varS_size (n : Int) : (varS n).size ≤ 7 := by
  have := varI_len n
  show (varI n).toArray.size ≤ 7
  simpa using this
theorem pow_step {f k : Nat} (hf : 1 ≤ f) (hk : k < 128 ^ f) (h : 127 < k) : 2 ≤ f ∧ k / 128 < 128 ^ (f - 1) := by
  have h2 : 2 ≤ f := by
    rcases Nat.lt_or_ge f 2 with h' | h'
    · obtain rfl : f = 1 := by omega
      simp at hk; omega
    · exact h'
  refine ⟨h2, ?_⟩
  obtain ⟨g, rfl⟩ : ∃ g, f = g + 1 := ⟨f - 1, by omega⟩
  rw [Nat.pow_succ] at hk
  simp only [Nat.add_sub_cancel]
  omega
theorem pow_le7 {f k : Nat} (hf : f ≤ 7) (hk : k < 128 ^ f) : k ≤ 562949953421311 := by
  have : 128 ^ f ≤ 128 ^ 7 := Nat.pow_le_pow_right (by omega) hf
  have h7 : (128 : Nat) ^ 7 = 562949953421312 := by decide
  omega
theorem bv_ofNat (n : Nat) : bv (UInt8.ofNat n) = .int .u8 ((n : Int) % 256) := by
  show Value.int .u8 _ = _
  congr 1
theorem wraps_i64 (n : Int) (h0 : 0 ≤ n) (h1 : n < 2 ^ 63) : IntKind.i64.wrap n = n := by rw [IntKind.wrap_i64]; omega
theorem and_i64 (a b : Nat) (ha : a < 2 ^ 63) (hb : b < 2 ^ 63) : bits .and .i64 (a : Int) (b : Int) = ((a &&& b : Nat) : Int) := (bits_nat .i64 63 (by decide) wraps_i64 a b ha hb).1
theorem or_i64 (a b : Nat) (ha : a < 2 ^ 63) (hb : b < 2 ^ 63) : bits .or .i64 (a : Int) (b : Int) = ((a ||| b : Nat) : Int) := (bits_nat .i64 63 (by decide) wraps_i64 a b ha hb).2
theorem pbAnd127 (k : Nat) (h : k < 2 ^ 63) : pureBin .and (iv k) (iv 127) = some (iv ((k % 128 : Nat) : Int)) := by
  rw [bits_and, show (127 : Int) = ((127 : Nat) : Int) from rfl, and_i64 k 127 h (by decide), show (127 : Nat) = 2 ^ 7 - 1 by decide, Nat.and_two_pow_sub_one_eq_mod]
theorem or_add (i a b : Nat) (hb : b < 2 ^ i) : a * 2 ^ i ||| b = a * 2 ^ i + b := by
  rw [Nat.mul_comm, ← Nat.two_pow_add_eq_or_of_lt hb a]
theorem pbOr128 (k : Nat) : pureBin .or (iv ((k % 128 : Nat) : Int)) (iv 128) = some (iv ((128 + k % 128 : Nat) : Int)) := by
  rw [bits_or, show (128 : Int) = ((128 : Nat) : Int) from rfl, or_i64 _ 128 (by omega) (by decide), Nat.or_comm, or_add 7 1 (k % 128) (by omega)]
structure VarInv (n : Nat) where
  f : Nat
  k : Nat
  acc : List UInt8
  f1 : 1 ≤ f
  f7 : f ≤ 7
  kl : k < 128 ^ f
  al : acc.length + f ≤ 7
  eq : acc ++ varN f k = varN 7 n
instance : Fl UInt8 := ⟨fun a c hc => by
  match c, hc with
  | 0, _ => rfl
  | c + 1, h => exact absurd h (by simp [En.n])⟩
theorem cs_u8 (a : UInt8) : En.cs a = [.v (bv a)] := rfl
attribute [go_sem] cs_u8
/-- one more element at the end -/
theorem app_one {α : Type} [Fl α] {l : List α} {a : α} {g : Nat → Nat → T} (hg : ∀ c, c < En.n α → flatT (g 0 c) = (En.cs a).getD c .j) : (appT (En.n α) l.length (fun k c => (En.cs (l.getD k En.dflt)).getD c .j) 1 fun k c => flatT (g k c)).sim (tr (l ++ [a])) :=
  app_sim (l' := [a]) rfl (fun k c _ _ => rfl) fun k c hk hc => by
    have : k = 0 := by simpa using hk
    subst this
    exact hg c hc
end Go.Proofs.Ytimmbmphfgnelaa.VM
namespace Go.Proofs.Ytimmbmphfgnelaa.VM
open Go Go.RowKit
mutual
theorem VR.rn {R R' : RT} {H H' : Nat → Value} {w : World} {ρ : Nat → Nat} (hR : ∀ id m t, R id m t → R' (ρ id) m t ∧ H' (ρ id) = H id) : ∀ {x : X} {v : Value}, VR R H w x v → VR R' H' w (x.ren ρ) v
  | .g xs, v, ⟨vs, h1, h2⟩ => ⟨vs, h1, VRs.rn hR h2⟩
  | .t xs, v, ⟨vs, h1, h2⟩ => ⟨vs, h1, VRs.rn hR h2⟩
  | .f fn xs, v, ⟨vs, h1, h2⟩ => ⟨vs, h1, VRs.rn hR h2⟩
  | .v x, v, h => h
  | .j, v, _ => trivial
  | .c, v, h => h
  | .p id q n k c, v, h => by obtain ⟨m, t, h1, h2⟩ := h; exact ⟨m, t, (hR _ _ _ h1).1, by rw [(hR _ _ _ h1).2]; exact h2⟩
  | .h id q, v, h => by obtain ⟨m, t, h1, h2⟩ := h; exact ⟨m, t, (hR _ _ _ h1).1, by rw [(hR _ _ _ h1).2]; exact h2⟩
  | .a id q n lo len, v, h => by obtain ⟨m, t, h1, h2⟩ := h; exact ⟨m, t, (hR _ _ _ h1).1, by rw [(hR _ _ _ h1).2]; exact h2⟩
theorem VRs.rn {R R' : RT} {H H' : Nat → Value} {w : World} {ρ : Nat → Nat} (hR : ∀ id m t, R id m t → R' (ρ id) m t ∧ H' (ρ id) = H id) : ∀ {xs : List X} {vs : List Value}, VRs R H w xs vs → VRs R' H' w (X.rens ρ xs) vs
  | [], [], _ => trivial
  | x :: xs, v :: vs, ⟨h1, h2⟩ => ⟨h1.rn hR, VRs.rn hR h2⟩
  | [], _ :: _, h => h.elim
  | _ :: _, [], h => h.elim
end
def rn1 (a b i : Nat) : Nat := if i = a then b else i
/-- root a is called b -/
def renL (a b : Nat) : List E → List E
  | [] => []
  | .sl s x :: L => .sl s (x.ren (rn1 a b)) :: renL a b L
  | .rt i m t :: L => .rt (rn1 a b i) m t :: renL a b L
  | .al i c x :: L => .al (rn1 a b i) c (x.ren (rn1 a b)) :: renL a b L
theorem renL_mem {a b : Nat} : ∀ {L : List E} {e : E}, e ∈ renL a b L → (∃ s x, .sl s x ∈ L ∧ e = .sl s (x.ren (rn1 a b))) ∨ (∃ i m t, .rt i m t ∈ L ∧ e = .rt (rn1 a b i) m t) ∨ ∃ i c x, .al i c x ∈ L ∧ e = .al (rn1 a b i) c (x.ren (rn1 a b))
  | .sl s x :: L, e, h => by
    rcases List.mem_cons.1 h with h | h
    · exact .inl ⟨s, x, List.mem_cons_self .., h⟩
    · rcases renL_mem h with ⟨s, x, h1, h2⟩ | ⟨i, m, t, h1, h2⟩ | ⟨i, c, x, h1, h2⟩
      · exact .inl ⟨s, x, List.mem_cons_of_mem _ h1, h2⟩
      · exact .inr (.inl ⟨i, m, t, List.mem_cons_of_mem _ h1, h2⟩)
      · exact .inr (.inr ⟨i, c, x, List.mem_cons_of_mem _ h1, h2⟩)
  | .rt i m t :: L, e, h => by
    rcases List.mem_cons.1 h with h | h
    · exact .inr (.inl ⟨i, m, t, List.mem_cons_self .., h⟩)
    · rcases renL_mem h with ⟨s, x, h1, h2⟩ | ⟨i, m, t, h1, h2⟩ | ⟨i, c, x, h1, h2⟩
      · exact .inl ⟨s, x, List.mem_cons_of_mem _ h1, h2⟩
      · exact .inr (.inl ⟨i, m, t, List.mem_cons_of_mem _ h1, h2⟩)
      · exact .inr (.inr ⟨i, c, x, List.mem_cons_of_mem _ h1, h2⟩)
  | .al i c x :: L, e, h => by
    rcases List.mem_cons.1 h with h | h
    · exact .inr (.inr ⟨i, c, x, List.mem_cons_self .., h⟩)
    · rcases renL_mem h with ⟨s, x, h1, h2⟩ | ⟨i, m, t, h1, h2⟩ | ⟨i, c, x, h1, h2⟩
      · exact .inl ⟨s, x, List.mem_cons_of_mem _ h1, h2⟩
      · exact .inr (.inl ⟨i, m, t, List.mem_cons_of_mem _ h1, h2⟩)
      · exact .inr (.inr ⟨i, c, x, List.mem_cons_of_mem _ h1, h2⟩)
theorem rts_renL {a b : Nat} {i : Nat} {m : M} {t : T} {L : List E} : rts (renL a b L) i m t ↔ ∃ i0, rts L i0 m t ∧ rn1 a b i0 = i := by
  induction L with
  | nil => simp [rts, renL]
  | cons e L ih =>
    simp only [rts] at ih ⊢
    cases e with
    | sl s x => simp only [renL, List.mem_cons, ih]; simp
    | al i' c x => simp only [renL, List.mem_cons, ih]; simp
    | rt j m1 t1 =>
      simp only [renL, List.mem_cons, ih, E.rt.injEq]
      constructor
      · rintro (⟨rfl, rfl, rfl⟩ | ⟨i0, h1, h2⟩)
        · exact ⟨j, .inl ⟨rfl, rfl, rfl⟩, rfl⟩
        · exact ⟨i0, .inr h1, h2⟩
      · rintro ⟨i0, ⟨rfl, rfl, rfl⟩ | h1, h2⟩
        · exact .inl ⟨h2.symm, rfl, rfl⟩
        · exact .inr ⟨i0, h1, h2⟩
theorem Weak.renR {N : Nat} {L : List E} {a b : Nat} (hb : rootL L b = none) (ha1 : a < base) (hb1 : b < base) : Weak N L (renL a b L) := fun cx ac w hs => by
  obtain ⟨H, G, hr, hG⟩ := hs.rp
  have hnb := rootL_none hb
  have hinj : ∀ {i j m t m' t'}, rts L i m t → rts L j m' t' → rn1 a b i = rn1 a b j → i = j := fun {i j m t m' t'} h1 h2 e => by
    have e1 : i ≠ b := fun e => hnb _ _ (e ▸ h1)
    have e2 : j ≠ b := fun e => hnb _ _ (e ▸ h2)
    unfold rn1 at e
    split at e <;> split at e <;> omega
  let H' : Nat → Value := fun i => if i = b then H a else H i
  let G' : Nat → FP := fun i => if i = b then G a else G i
  have hH : ∀ {i m t}, rts L i m t → H' (rn1 a b i) = H i ∧ G' (rn1 a b i) = G i := fun {i m t} h => by
    have e1 : i ≠ b := fun e => hnb _ _ (e ▸ h)
    simp only [H', G', rn1]
    by_cases e : i = a
    · subst e; simp
    · simp [e, e1]
  have hV : ∀ {x v}, VR (rts L) H w x v → VR (rts (renL a b L)) H' w (x.ren (rn1 a b)) v := fun h => h.rn fun id m t hh => ⟨rts_renL.2 ⟨id, hh, rfl⟩, (hH hh).1⟩
  refine ⟨hs.siz, hs.dfr, hs.chg, H', G', ⟨?_, ?_, ?_, ?_, ?_, ?_, ?_, ?_⟩, ?_, ?_⟩
  · intro i m t m' t' h1 h2
    obtain ⟨i0, g1, rfl⟩ := rts_renL.1 h1
    obtain ⟨j0, g2, e⟩ := rts_renL.1 h2
    obtain rfl := hinj g2 g1 e
    exact hr.one _ _ _ _ _ g1 g2
  · intro i m t h1 h2
    obtain ⟨i0, g1, rfl⟩ := rts_renL.1 h1
    rw [(hH g1).1, (hH g1).2]
    exact hr.own _ _ _ g1 h2
  · intro i t h1
    obtain ⟨i0, g1, rfl⟩ := rts_renL.1 h1
    rw [(hH g1).1, (hH g1).2]
    exact hr.ro _ _ g1
  · intro i t h1
    obtain ⟨i0, g1, rfl⟩ := rts_renL.1 h1
    rw [(hH g1).2]
    exact hr.rold _ _ g1
  · intro i t h1
    obtain ⟨i0, g1, rfl⟩ := rts_renL.1 h1
    exact hr.box _ _ g1
  · intro i m t i' m' t' h1 h2 hne hm
    obtain ⟨i0, g1, rfl⟩ := rts_renL.1 h1
    obtain ⟨j0, g2, rfl⟩ := rts_renL.1 h2
    rw [(hH g1).2, (hH g2).2]
    exact hr.dis _ _ _ _ _ _ g1 g2 (fun e => hne (by rw [e])) hm
  · intro s x h
    rcases renL_mem h with ⟨s', x', h1, h2⟩ | ⟨i, m, t, h1, h2⟩ | ⟨i, c, x', h1, h2⟩
    · cases h2; exact hV (hr.sl _ _ h1)
    · cases h2
    · cases h2
  · intro i c x h
    rcases renL_mem h with ⟨s', x', h1, h2⟩ | ⟨i', m, t, h1, h2⟩ | ⟨i', c', x', h1, h2⟩
    · cases h2
    · cases h2
    · cases h2
      obtain ⟨n, f, g1, g2, A, v, g3, g4, g5⟩ := hr.al _ _ _ h1
      exact ⟨n, f, rts_renL.2 ⟨_, g1, rfl⟩, g2, A, v, by rw [(hH g1).1]; exact g3, g4, hV g5⟩
  · intro i m t h1
    obtain ⟨i0, g1, rfl⟩ := rts_renL.1 h1
    rw [(hH g1).2]
    exact hG.1 _ _ _ g1
  · intro i m t hbs h1
    obtain ⟨i0, g1, e⟩ := rts_renL.1 h1
    have : i0 = i := by
      unfold rn1 at e
      split at e
      · subst e; omega
      · exact e
    subst this
    have := hH g1
    rw [e] at this
    rw [this.1]
    exact hG.2 _ _ _ hbs g1
section
variable {P : Program} {N : Nat} {Q : Exit → List E → Prop} {L : List E}
theorem AW.renR {c : Code} (a b : Nat) (hb : rootL L b = none) (ha1 : a < base) (hb1 : b < base) (k : AW P N c Q (renL a b L)) : AW P N c Q L := AW.weak (Weak.renR hb ha1 hb1) k
end
attribute [go_sem] renL rn1
end Go.Proofs.Ytimmbmphfgnelaa.VM
namespace Go.Proofs.Ytimmbmphfgnelaa.VM
open Go Go.RowKit
theorem pbShr7 (k : Nat) : pureBin .shr (iv k) (.int .u64 7) = some (iv ((k / 128 : Nat) : Int)) := by
  show some (Value.int .i64 ((k : Int).fdiv 128)) = _
  rw [Int.fdiv_eq_ediv_of_nonneg _ (by omega)]
  congr 2
theorem pbQuo128 (k : Nat) (h : k < 2 ^ 63) : pureBin .quo (iv k) (iv 128) = some (iv ((k / 128 : Nat) : Int)) := by
  show some (Value.int .i64 (IntKind.i64.wrap ((k : Int).tdiv 128))) = _
  have : ((k : Int).tdiv 128) = ((k / 128 : Nat) : Int) := by rw [Int.tdiv_eq_ediv_of_nonneg (by omega)]; omega
  rw [this, IntWalk.i64_in _ (by omega)]
theorem pbRem128 (k : Nat) : pureBin .rem (iv k) (iv 128) = some (iv ((k % 128 : Nat) : Int)) := by
  show some (Value.int .i64 ((k : Int).tmod 128)) = _
  have : ((k : Int).tmod 128) = ((k % 128 : Nat) : Int) := by rw [Int.tmod_eq_emod_of_nonneg (by omega)]; omega
  rw [this]
theorem u8_byte {n : Nat} (h : n < 256) : Value.int .u8 (IntKind.u8.wrap (n : Int)) = bv (UInt8.ofNat n) := by
  rw [bv_ofNat, IntWalk.u8_in _ (by omega)]
  congr 1; omega
theorem u8_byteI {n : Nat} {x : Int} (h : n < 256) (e : x = n) : Value.int .u8 (IntKind.u8.wrap x) = bv (UInt8.ofNat n) := by subst e; exact u8_byte h
theorem app_byte {l : List UInt8} {b : UInt8} {v : Value} (h : v = bv b) {g : Nat → Nat → T} (hg : g 0 0 = .v v) : (appT (En.n UInt8) l.length (fun k c => (En.cs (l.getD k En.dflt)).getD c .j) 1 fun k c => flatT (g k c)).sim (tr (l ++ [b])) :=
  app_one fun c hc => by
    match c, hc with
    | 0, _ => rw [hg, h]; rfl
    | c + 1, hc => exact absurd hc (by simp [En.n])
end Go.Proofs.Ytimmbmphfgnelaa.VM
namespace Go.Proofs.Ytimmbmphfgnelaa.VM
open Go Go.RowKit
/-! slice expressions -/
section
variable {P : Program} {N : Nat} {L : List E} {dst : Option Tmp} {ty : TypeId} {pos : String} {af : Array Edge} {g : Option (Nat × Bool)}
/-- a bound of a slice expression -/
def slB (L : List E) (d : Nat) : Option Operand → Nat → Prop
  | none, k => k = d
  | some x, k => ∃ kd j, evX L x = .v (.int kd j) ∧ j = (k : Int)
theorem slB_no {d : Nat} : slB L d none d := rfl
theorem slB_so {d k : Nat} {x : Operand} {kd : IntKind} {j : Int} (h : evX L x = .v (.int kd j)) (hj : j = (k : Int)) : slB L d (some x) k := ⟨kd, j, h, hj⟩
theorem slB_ev {d k : Nat} {o : Option Operand} (h : slB L d o k) {H : Nat → Value} {w : World} {a : Act} (he : ∀ y, VR (rts L) H w (evX L y) (Act.eval a y)) : (o.map a.eval = none ∧ k = d) ∨ ∃ kd, o.map a.eval = some (.int kd (k : Int)) := by
  cases o with
  | none => exact .inl ⟨rfl, h⟩
  | some x =>
    obtain ⟨kd, j, h1, h2⟩ := h
    have h3 := he x
    rw [h1] at h3
    simp only [VR] at h3
    exact .inr ⟨kd, by rw [Option.map_some, h3, h2]⟩
theorem run_sliceBound {w : World} {kd : IntKind} {k y : Nat} {code : BoundsCode} (h : k ≤ y) : (Instr.sliceBound (.int kd (k : Int)) y code).run P w = .ok k w := by
  have h2 : (0 : Int) ≤ k ∧ (k : Int) ≤ y := by omega
  simp [Instr.sliceBound, asIntOf, h2, go_sem]
theorem run_sliceBounds {w : World} {b : Bool} {len cap lo hi : Nat} {ol oh : Option Value} (hl : (ol = none ∧ lo = 0) ∨ ∃ kd, ol = some (.int kd (lo : Int))) (hh : (oh = none ∧ hi = len) ∨ ∃ kd, oh = some (.int kd (hi : Int))) (h1 : lo ≤ hi) (h2 : hi ≤ cap) : (Instr.sliceBounds b len cap ol oh none).run P w = .ok (lo, hi, cap) w := by
  have hb := @run_sliceBound P
  rcases hl with ⟨rfl, rfl⟩ | ⟨kl, rfl⟩ <;> rcases hh with ⟨rfl, rfl⟩ | ⟨kh, rfl⟩ <;> simp [Instr.sliceBounds, go_sem, hb, h1, h2]
theorem run_sliceX {w : World} {t e : TypeId} {ad : Option Addr} {len cap lo hi n : Nat} {ol oh : Option Value} (h : P.underlying t = some (.slice e)) (hz : (sizeOf e).run P w = .ok n w) (hb : (Instr.sliceBounds true len cap ol oh none).run P w = .ok (lo, hi, cap) w) : (Instr.slice t (.slice ad len cap) ol oh none).run P w = .ok (.slice (if cap = lo then ad else ad.map (·.add (lo * n))) (hi - lo) (cap - lo)) w := by
  simp only [Instr.slice, Sem.run_bind, run_underlying h, Result.andThen, hb, hz, Sem.run_pure]
/-- a slice of a slice whose node is known -/
theorem Qt.sliceH {t e : TypeId} {x : Operand} {ol oh : Option Operand} {id : Nat} {q : Path} {n len lo hi : Nat} {f : Nat → Nat → T} (hx : evX L x = .h id q) {m : M} {T0 : T} (hR : rootL L id = some (m, T0)) (hT : T0.at q = .s n len f) (hS : Sl P t e) (hZ : Sz P e n) (hn : 0 < n) (hl : slB L 0 ol lo) (hh : slB L len oh hi) (h1 : lo ≤ hi) (h2 : hi ≤ len) : Qt P ⟨dst, .slice t x ol oh none, ty, pos, af, g⟩ L (.a id q n lo (hi - lo)) :=
  (fun H w a he ⟨val, G, hr⟩ => by
    have h := he x
    rw [hx] at h
    obtain ⟨m', t', g1, g2, g3, g4⟩ := h
    obtain ⟨rfl, rfl⟩ := hr.one _ _ _ _ _ g1 (rootL_mem hR)
    obtain ⟨hv, F, e1, e2⟩ := hr.node g1 g2
    rw [hT] at e2
    obtain ⟨ad, cap, e3, e4, e5⟩ := e2.hdr
    rw [e1] at g4
    cases g4
    have hb := run_sliceBounds (P := P) (w := w) (b := true) (len := len) (cap := cap) (slB_ev hl he) (slB_ev hh he) h1 (by omega)
    refine ⟨.slice (if cap = lo then ad else ad.map (·.add (lo * n))) (hi - lo) (cap - lo), ?_, m', t', g1, g2, ⟨len, f, hT, by omega⟩, _, e1, _, _, rfl, by omega, by omega, fun hp => ?_⟩
    · have hu : P.underlying t = some (.slice e) := hS
      have hq := run_sliceX (ad := ad) hu (hZ w) hb
      have hq2 := run_underlying (P := P) (w := w) hu
      simp only [execOp, e3, Instr.sliceAt, Option.map_none]
      generalize Instr.slice t (.slice ad len cap) (Option.map a.eval ol) (Option.map a.eval oh) none = B at hq ⊢
      simp [go_sem, hq, hq2]
    · rw [e3]
      have hne : ¬ cap = lo := by omega
      rw [if_neg hne]
      obtain ⟨b, o, cap', off, e6, e7, e8, e9⟩ := e2.row (k := lo) (c := 0) (by omega) hn
      rw [e3] at e6
      cases e6
      simp [adr, Addr.add])
theorem run_sliceStr {w : World} {t : TypeId} {s : ByteArray} {lo hi : Nat} {ol oh : Option Value} (h : P.underlying t = some .string) (hb : (Instr.sliceBounds false s.size s.size ol oh none).run P w = .ok (lo, hi, s.size) w) : (Instr.slice t (.string s) ol oh none).run P w = .ok (.string (s.extract lo hi)) w := by
  simp only [Instr.slice, Sem.run_bind, run_underlying h, Result.andThen, hb, Sem.run_pure, Option.isSome_none, Bool.false_eq_true, if_false]
/-- a slice of a string -/
theorem Qt.sliceS {t : TypeId} {x : Operand} {ol oh : Option Operand} {s : ByteArray} {lo hi : Nat} (hx : evX L x = .v (.string s)) (hS : P.underlying t = some .string) (hl : slB L 0 ol lo) (hh : slB L s.size oh hi) (h1 : lo ≤ hi) (h2 : hi ≤ s.size) : Qt P ⟨dst, .slice t x ol oh none, ty, pos, af, g⟩ L (.v (.string (s.extract lo hi))) :=
  (fun H w a he _ => by
    have h := he x
    rw [hx] at h
    simp only [VR] at h
    have hb := run_sliceBounds (P := P) (w := w) (b := false) (len := s.size) (cap := s.size) (slB_ev hl he) (slB_ev hh he) h1 h2
    have hq := run_sliceStr hS hb
    have hq2 := run_underlying (P := P) (w := w) hS
    refine ⟨_, ?_, rfl⟩
    simp only [execOp, h, Instr.sliceAt, Option.map_none]
    generalize Instr.slice t (.string s) (Option.map a.eval ol) (Option.map a.eval oh) none = B at hq ⊢
    simp [go_sem, hq, hq2])
/-- a cell of a view -/
theorem Qt.indexAddrA {t e : TypeId} {x i : Operand} {id : Nat} {q : Path} {n lo l len : Nat} {f : Nat → Nat → T} {kd : IntKind} {j : Int} (hx : evX L x = .a id q n lo l) {m : M} {T0 : T} (hR : rootL L id = some (m, T0)) (hT : T0.at q = .s n len f)
    (hi : evX L i = .v (.int kd j)) (hS : Sl P t e) (hZ : Sz P e n) (hn : 0 < n) (hj : 0 ≤ j ∧ j < l) : Qt P ⟨dst, .indexAddr t x i, ty, pos, af, g⟩ L (.p id q n (lo + j.toNat) 0) :=
  (fun H w a he ⟨val, G, hr⟩ => by
    have h := he x
    have h' := he i
    rw [hx] at h
    rw [hi] at h'
    simp only [VR] at h'
    obtain ⟨m', t', g1, g2, ⟨l', f', g3, g4⟩, hv, g5, ad, cap, g6, g7, g8, g9⟩ := h
    obtain ⟨rfl, rfl⟩ := hr.one _ _ _ _ _ g1 (rootL_mem hR)
    rw [hT] at g3; cases g3
    obtain ⟨hw, F, e1, e2⟩ := hr.node g1 g2
    rw [hT] at e2
    rw [g5] at e1; cases e1
    obtain ⟨b, o, cap', off, e3, e4, e5, e6⟩ := e2.row (k := lo + j.toNat) (c := 0) (by omega) hn
    have e7 := g9 (by omega)
    rw [e3] at e7
    simp only [adr] at e7
    subst e7
    refine ⟨.pointer (some ⟨b, o, none⟩), ?_, m', t', g1, g2, ⟨_, _, hT, by omega, hn⟩, _, _, g5, e5, rfl⟩
    have hrun := run_indexAt_slice (P := P) w t ⟨b, off + (lo * n + 0), none⟩ l cap kd j (by rw [hS, Program.elem, hS])
    rw [if_pos hj, show P.elem t = e by rw [Program.elem, hS], hZ w] at hrun
    simp only [execOp, g6, h']
    simp only [Result.andThen, Nat.add_zero] at hrun
    simp [hrun]
    have e8 : off + lo * n + j.toNat * n = o := by rw [e4, Nat.add_mul]; omega
    simp [Addr.add, e8]
    omega)
end
end Go.Proofs.Ytimmbmphfgnelaa.VM
namespace Go.Proofs.Ytimmbmphfgnelaa.VM
open Go Go.RowKit Go.Sort

theorem rowPut_get {w : World} {b off n : Nat} {d : Array Int} {os : Array Obj} {b' : Nat} (h : b' < w.heap.size) :
    (grow (putRow (Value.int .i64) (Sort.ahead w n) b off d) os).heap[b']? = if b = b' then (w.heap[b']?).map (onCells (putCells (Value.int .i64) off d)) else w.heap[b']? := by
  simp only [grow, putRow, mapBlock, Sort.ahead]
  rw [Array.getElem?_append_left (by simpa using h), Array.getElem?_modify]
theorem rowPut_chg {w : World} {b off n : Nat} {d : Array Int} {os : Array Obj} : Chg (rowFP b off d.size) w (grow (putRow (Value.int .i64) (Sort.ahead w n) b off d) os) := by
  refine ⟨rfl, rfl, rfl, ?_, ?_, ?_⟩
  · simp [grow, putRow, mapBlock, Sort.ahead]
  · intro b' cur e fr h
    rw [rowPut_get (Array.getElem?_eq_some_iff.1 h).1, h]
    by_cases hb : b = b'
    · refine ⟨putCells (Value.int .i64) off d cur, by simp [hb, onCells], by simp [putCells], fun o ho => ?_⟩
      simp only [putCells, Array.getElem?_mapIdx]
      cases cur[o]? with
      | none => rfl
      | some x =>
        simp only [Option.map_some]
        rw [if_neg (fun hh => ho ⟨hb.symm, hh.1, hh.2⟩)]
    · exact ⟨cur, by simp [hb], rfl, fun _ _ => rfl⟩
  · intro b' o h ho
    rw [rowPut_get (Array.getElem?_eq_some_iff.1 h).1, h]
    by_cases hb : b = b'
    · simp only [hb, if_true, Option.map_some]
      cases o with
      | cells c e f => exact absurd rfl (ho c e f)
      | _ => rfl
    · simp [hb]
theorem rowPut_cell {w : World} {b off n k : Nat} {d : Array Int} {os : Array Obj} {v : Value} (hc : w.cell? ⟨b, off + k, none⟩ = some v) (hk : k < d.size) :
    (grow (putRow (Value.int .i64) (Sort.ahead w n) b off d) os).cell? ⟨b, off + k, none⟩ = some (.int .i64 d[k]!) := by
  have hlt := cell_lt hc
  simp only [World.cell?] at hc ⊢
  rw [rowPut_get hlt]
  split at hc
  · rename_i cur e fr hb
    simp only [Option.isSome_none, Bool.false_eq_true, if_false] at hc
    simp only [if_true, hb, Option.map_some, onCells, Option.isSome_none, Bool.false_eq_true, if_false]
    simp only [putCells, Array.getElem?_mapIdx, hc, Option.map_some]
    rw [if_pos ⟨by omega, by omega⟩, show off + k - off = k by omega]
  · cases hc
theorem row_fin {l l' : List Int} {w w' : World} {H : Nat → Value} {G : Nat → FP} (hr : Rp [.rt base .row (tr l)] (fun _ => undef) H G w) (hC : Chg (G base) w w') (hO : Own w' (tr l') (G base) (H base)) :
    ∃ x L H' G' val, RetW (.t []) [] [(base, tr l')] x L ∧ Rp L val H' G' w' ∧ VR (rts L) H' w' x (.tuple #[]) ∧
      Chg (fun a o => ∃ id m t, rts [.rt base .row (tr l)] id m t ∧ m ≠ .ro ∧ G id a o) w w' ∧
      (∀ id m t, rts L id m t → m ≠ .ro → ∀ a o, G' id a o → (∃ id m t, rts [.rt base .row (tr l)] id m t ∧ m ≠ .ro ∧ G id a o) ∨ w.heap.size ≤ a) ∧
      ∀ id m t, base ≤ id → rts L id m t → H' id = H id := by
  have hm : ∀ {t0 : T} {id : Nat} {m : M} {t : T}, rts [.rt base .row t0] id m t → id = base ∧ m = .row ∧ t = t0 := fun h => by
    cases List.mem_singleton.1 h; exact ⟨rfl, rfl, rfl⟩
  have hb : rts [.rt base .row (tr l)] base .row (tr l) := List.mem_singleton.2 rfl
  refine ⟨.t [], [.rt base .row (tr l')], H, G, fun _ => undef, ⟨fun n => n, rfl, fun _ _ => rfl, List.nodup_nil, by simp, ?_⟩, ?_, ⟨[], rfl, trivial⟩, hC.mono fun a o _ h => ⟨base, .row, tr l, hb, by simp, h⟩, ?_, fun _ _ _ _ _ => rfl⟩
  · intro p hp
    cases List.mem_singleton.1 hp
    exact List.mem_singleton.2 rfl
  · refine ⟨fun id m t m' t' h h' => ?_, fun id m t h _ => ?_, fun id t h => ?_, fun id t h => ?_, fun id t h => ?_, fun id m t id' m' t' h h' hne => ?_, fun t x h => ?_, fun id c x h => ?_⟩
    · obtain ⟨_, rfl, rfl⟩ := hm h
      obtain ⟨_, rfl, rfl⟩ := hm h'
      exact ⟨rfl, rfl⟩
    · obtain ⟨rfl, rfl, rfl⟩ := hm h; exact hO
    · obtain ⟨_, h, _⟩ := hm h; cases h
    · obtain ⟨_, h, _⟩ := hm h; cases h
    · obtain ⟨_, h, _⟩ := hm h; cases h
    · exact absurd ((hm h).1.trans (hm h').1.symm) hne
    · cases List.mem_singleton.1 h
    · cases List.mem_singleton.1 h
  · intro id m t h _ a o hg
    obtain ⟨rfl, rfl, rfl⟩ := hm h
    exact .inl ⟨base, .row, tr l, hb, by simp, hg⟩
/-- a callee that turns a row of numbers in place -/
theorem con_ints {P : Program} {f : FuncId} {S : List Int → List Int} (hS : ∀ l, (S l).length = l.length)
    (hs : ∀ (blk off cap : Nat) (zs : List Int) (w : World), Holds (Value.int .i64) w blk off zs.toArray → blk < w.heap.size → zs.length < 4611686018427387904 → Calls P f #[.slice (some ⟨blk, off, none⟩) zs.length cap] w fun e w' => e = .returned (.tuple #[]) ∧ ∃ n os, w' = grow (putRow (Value.int .i64) (Sort.ahead w n) blk off (S zs).toArray) os)
    (h0 : ∀ (p : Option Addr) (cap : Nat) (w : World), Calls P f #[.slice p 0 cap] w fun e w' => e = .returned (.tuple #[]) ∧ w' = w) (l : List Int) (hlen : l.length < 4611686018427387904) :
    Con P f [.h base []] [.rt base .row (tr l)] (RetW (.t []) [] [(base, tr (S l))]) := by
  intro w vs H G hr hv
  cases vs with
  | nil => exact hv.elim
  | cons v vs =>
  cases vs with
  | cons _ _ => exact hv.2.elim
  | nil =>
  obtain ⟨⟨m, t, _, _, _, hh⟩, _⟩ := hv
  simp only [hd, Option.some.injEq] at hh
  have hO := hr.own base .row (tr l) (List.mem_singleton.2 rfl) (by simp)
  have hO0 := hO
  obtain ⟨hn, a, cap, e0, hl, hm, b, off, V, Gk, h1, h2, h3, h4, h5⟩ := hO
  have hv : v = .slice a l.length cap := by rw [← hh, e0]
  subst hv
  rcases Nat.eq_zero_or_pos l.length with hz | hp
  · rw [hz]
    refine (h0 a cap w).mono ?_
    rintro e w' ⟨rfl, rfl⟩
    have hl0 : l = [] := List.eq_nil_of_length_eq_zero hz
    have hS0 : S l = [] := List.eq_nil_of_length_eq_zero (by rw [hS, hz])
    obtain ⟨x, L, H', G', val, r⟩ := row_fin (l' := S l) hr (Chg.refl _ _) (by rw [hS0, ← hl0]; exact hO0)
    exact ⟨_, x, L, H', G', val, rfl, r⟩
  · have hc0 : 0 < cap := by omega
    obtain ⟨rfl, sz, hK, hoff⟩ := h1 hc0
    have hcell : ∀ k, k < l.length → w.cell? ⟨b, off + k, none⟩ = some (iv (l.getD k 0)) ∧ ∀ x y, ¬ Gk k 0 x y := fun k hk => by
      obtain ⟨g1, g2⟩ := h2 k 0 hk (by decide)
      rw [show k * En.n Int + 0 = k from Nat.mul_one k] at g1
      obtain ⟨g3, _, g4⟩ := g2
      rw [g1, g3]
      exact ⟨rfl, g4⟩
    have hfro : ∀ k, w.frozen? ⟨b, off + k, none⟩ = false := fun k => by
      obtain ⟨cur, e, g1, _⟩ := hK
      simp [World.frozen?, g1]
    refine (hs b off cap l w (fun j hj => ⟨?_, hfro j⟩) hK.lt hlen).mono ?_
    · have hj' : j < l.length := by simpa using hj
      rw [(hcell j hj').1]
      simp [List.getD_eq_getElem?_getD, hj', iv]
    rintro e w' ⟨rfl, n, os, rfl⟩
    have hsz : (S l).toArray.size = l.length := by simp [hS]
    have hF : ∀ x y, rowFP b off (S l).toArray.size x y → G base x y := fun x y hxy => (h5 x y).2 (.inl ⟨hc0, hxy.1, hxy.2.1, by have h := hxy.2.2; rw [hsz] at h; have : cap * En.n Int = cap := Nat.mul_one cap; omega⟩)
    have hC := rowPut_chg (w := w) (b := b) (off := off) (n := n) (d := (S l).toArray) (os := os)
    suffices hfin : Own _ (tr (S l)) (G base) (H base) from (by
      obtain ⟨x, L, H', G', val, r⟩ := row_fin hr (hC.mono fun x y _ h => hF x y h) hfin
      exact ⟨_, x, L, H', G', val, rfl, r⟩)
    refine ⟨hn, some ⟨b, off, none⟩, cap, by rw [hS]; exact e0, by rw [hS]; exact hl, hm, b, off, fun k _ => iv ((S l).getD k 0), fun _ _ _ _ => False, fun _ => ⟨rfl, sz, hK.chg hC, hoff⟩, ?_, ?_, ?_, ?_⟩
    · intro k c hk hc
      have hk' : k < l.length := by rw [← hS]; exact hk
      have hc' : c < 1 := hc
      obtain rfl : c = 0 := by omega
      refine ⟨?_, rfl, rfl, fun _ _ h => h⟩
      rw [show k * En.n Int + 0 = k from Nat.mul_one k, rowPut_cell (hcell k hk').1 (by rw [hsz]; exact hk')]
      simp [List.getD_eq_getElem?_getD, hS, hk', iv]
    · intros; assumption
    · intro _ _ _ _ _ _ h; exact h.elim
    · intro x y
      rw [h5]
      constructor
      · rintro (h | ⟨k, c, hk, hc, hg⟩)
        · exact .inl h
        · have hc' : c < 1 := hc
          obtain rfl : c = 0 := by omega
          exact ((hcell k hk).2 x y hg).elim
      · rintro (h | ⟨_, _, _, _, h⟩)
        · exact .inl h
        · exact h.elim
end Go.Proofs.Ytimmbmphfgnelaa.VM
namespace Go.Proofs.Ytimmbmphfgnelaa.VM
open Go Go.RowKit
def allRt : List E → Bool
  | [] => true
  | .rt .. :: r => allRt r
  | _ :: _ => false
theorem allRt_mem : ∀ {L : List E}, allRt L = true → ∀ e ∈ L, ∃ id m t, e = .rt id m t
  | [], _, e, he => by cases he
  | .rt i m t :: r, h, e, he => by
    rcases List.mem_cons.1 he with rfl | he
    · exact ⟨_, _, _, rfl⟩
    · exact allRt_mem (L := r) h e he
theorem ids_uniq {M : List E} (hn : (idsL M).Nodup) : ∀ id m t m' t', rts M id m t → rts M id m' t' → m = m' ∧ t = t' := by
  induction M with
  | nil => intro id m t m' t' h; cases h
  | cons e r ih =>
    intro id m t m' t' h h'
    cases e with
    | sl s x =>
      rcases List.mem_cons.1 h with h | h
      · cases h
      rcases List.mem_cons.1 h' with h' | h'
      · cases h'
      exact ih hn id m t m' t' h h'
    | al s c x =>
      rcases List.mem_cons.1 h with h | h
      · cases h
      rcases List.mem_cons.1 h' with h' | h'
      · cases h'
      exact ih hn id m t m' t' h h'
    | rt i m0 t0 =>
      simp only [idsL, List.nodup_cons] at hn
      rcases List.mem_cons.1 h with k | k <;> rcases List.mem_cons.1 h' with k' | k'
      · cases k; cases k'; exact ⟨rfl, rfl⟩
      · cases k; exact absurd (idsL_mem.2 ⟨m', t', k'⟩) hn.1
      · cases k'; exact absurd (idsL_mem.2 ⟨m, t, k⟩) hn.1
      · exact ih hn.2 id m t m' t' k k'
/-- what is handed over may be seen otherwise, if it holds the same -/
theorem Con.sim {P : Program} {f : FuncId} {xs : List X} {ρ0 ρ : List E} {post : X → List E → Prop} (hs : hasS ρ0 ρ) (h : Con P f xs ρ post) (hl : allRt ρ = true) (hu : nodupB (idsL ρ) = true) (hx : X.insB (idsL ρ) xs = true) : Con P f xs ρ0 post := by
  intro w vs H G hr hv
  obtain ⟨_, a2, _⟩ := hasS_mem hs
  have hrt : ∀ id m t, rts ρ id m t → ∃ t0, rts ρ0 id m t0 ∧ t0.sim t := fun id m t hh => by
    obtain ⟨t0, e1, e2⟩ := a2 id m t hh
    exact ⟨t0, rootL_mem e1, e2⟩
  have hV : VRs (rts ρ) H w xs vs := by
    have : VR (rts ρ) H w (.g xs) (.agg vs.toArray) := VR.sim (R := rts ρ0) (ids := idsL ρ) (fun id hid m t ht => by
      obtain ⟨m', t', e⟩ := idsL_mem.1 hid
      obtain ⟨t0, e1, e2⟩ := hrt id m' t' e
      obtain ⟨rfl, rfl⟩ := hr.one _ _ _ _ _ ht e1
      exact ⟨t', e, e2⟩) (x := .g xs) (by simpa only [X.inB] using hx) ⟨vs, rfl, hv⟩
    obtain ⟨us, e, h⟩ := this
    simp only [Value.agg.injEq] at e
    have : vs = us := by simpa using congrArg Array.toList e
    rw [this]; exact h
  refine (h w vs H G ⟨ids_uniq (nodup_of hu), ?_, ?_, ?_, ?_, ?_, ?_, ?_⟩ hV).mono ?_
  · intro id m t h1 h2
    obtain ⟨t0, e1, e2⟩ := hrt id m t h1
    exact (hr.own id m t0 e1 h2).sim e2
  · intro id t h1
    obtain ⟨t0, e1, e2⟩ := hrt id _ t h1
    exact (hr.ro id t0 e1).sim e2
  · intro id t h1
    obtain ⟨t0, e1, e2⟩ := hrt id _ t h1
    exact hr.rold id t0 e1
  · intro id t h1
    obtain ⟨t0, e1, e2⟩ := hrt id _ t h1
    obtain ⟨n, f, rfl⟩ := hr.box id t0 e1
    obtain ⟨g, rfl, _⟩ := e2
    exact ⟨n, g, rfl⟩
  · intro id m t id' m' t' h1 h2
    obtain ⟨t0, e1, _⟩ := hrt id _ t h1
    obtain ⟨t1, e2, _⟩ := hrt id' _ t' h2
    exact hr.dis id m t0 id' m' t1 e1 e2
  · intro t x h1
    obtain ⟨_, _, _, e⟩ := allRt_mem hl _ h1
    cases e
  · intro id c x h1
    obtain ⟨_, _, _, e⟩ := allRt_mem hl _ h1
    cases e
  · rintro e w' ⟨v, x, L, H', G', val, rfl, k1, k2, k3, k4, k5, k6⟩
    have hin : ∀ a o, (∃ id m t, rts ρ id m t ∧ m ≠ .ro ∧ G id a o) → ∃ id m t, rts ρ0 id m t ∧ m ≠ .ro ∧ G id a o := fun a o ⟨id, m, t, h1, h2, h3⟩ => by
      obtain ⟨t0, e1, _⟩ := hrt id m t h1
      exact ⟨id, m, t0, e1, h2, h3⟩
    exact ⟨v, x, L, H', G', val, rfl, k1, k2, k3, k4.mono fun a o _ h => hin a o h, fun id m t h1 h2 a o h3 => (k5 id m t h1 h2 a o h3).imp_left (hin a o), k6⟩
theorem szd_lo {w : Nat} {left : Int} (h : -1 ≤ left) : -1 ≤ szd w left := by have := szd_cases w left; omega
theorem szd_hi {w : Nat} {left : Int} (h : left ≤ 1048576) : szd w left ≤ 1048576 := by have := szd_cases w left; omega
end Go.Proofs.Ytimmbmphfgnelaa.VM
namespace Go.Proofs.Ytimmbmphfgnelaa.VM
open Go Go.RowKit
section
variable {P : Program} {N : Nat} {L : List E} {dst : Option Tmp} {ty : TypeId} {pos : String} {af : Array Edge} {g : Option (Nat × Bool)} {d : Nat}
theorem vrs_evals {H : Nat → Value} {w : World} {a : Act} (he : ∀ y, VR (rts L) H w (evX L y) (Act.eval a y)) : ∀ xs : List Operand, VRs (rts L) H w (xs.map (evX L)) (xs.map a.eval)
  | [] => trivial
  | x :: xs => ⟨he x, vrs_evals he xs⟩
/-- a function value with what it has captured -/
theorem Qt.makeFunc {f : FuncId} {caps : Array Operand} : Qt P ⟨dst, .makeFunc (.func f) #[] caps, ty, pos, af, g⟩ L (.f f (caps.toList.map (evX L))) :=
  fun H w a he _ => ⟨.func (.func f) #[] (caps.toList.map a.eval).toArray, by
    have : (caps.toList.map a.eval).toArray = caps.map a.eval := by rw [← Array.toList_map]
    simp [execOp, Instr.makeFunc, this], _, rfl, vrs_evals he _⟩
theorem Qt.neS {t t2 : TypeId} {x y : Operand} {vs us : List Value} {r : Value} (hrun : ∀ (x y : Operand) (w : World), (do eqGuard .neq t x y (.agg vs.toArray) (.agg us.toArray); Go.binOp .neq t (.agg vs.toArray) (.agg us.toArray)).run P w = .ok r w) (hx : evX L x = .g (vs.map X.v)) (hy : evX L y = .g (us.map X.v)) : Qt P ⟨dst, .binOp .neq t x y t2, ty, pos, af, g⟩ L (.v r) :=
  (fun H w a he _ => by
    have h1 := he x
    have h2 := he y
    rw [hx] at h1
    rw [hy] at h2
    obtain ⟨v1, e1, f1⟩ := h1
    obtain ⟨v2, e2, f2⟩ := h2
    rw [vrs_vals f1] at e1
    rw [vrs_vals f2] at e2
    refine ⟨r, ?_, rfl⟩
    have := hrun x y w
    rw [← e1, ← e2] at this
    exact run_v this)
end
theorem Con.simH {P : Program} {f : FuncId} {xs : List X} {ρ0 ρ : List E} {post : X → List E → Prop} (h : Con P f xs ρ post) (hs : hasS ρ0 ρ) (hl : allRt ρ = true) (hu : nodupB (idsL ρ) = true) (hx : X.insB (idsL ρ) xs = true) : Con P f xs ρ0 post := Con.sim hs h hl hu hx
theorem sim_one {α : Type} [En α] {u : α} {f : Nat → Nat → T} (h : ∀ c, c < En.n α → (f 0 c).sim ((En.cs u).getD c .j)) : (T.s (En.n α) 1 f).sim (tr [u]) :=
  ⟨_, rfl, fun k c hk hc => by
    obtain rfl : k = 0 := by omega
    exact h c hc⟩
end Go.Proofs.Ytimmbmphfgnelaa.VM
namespace Go.Proofs.Ytimmbmphfgnelaa.VM
open Go Go.RowKit
/-! ### what lies in a box by alias, and what lies in it outright -/
mutual
/-- what spoke of root b speaks of the node at e of root i -/
def X.sub (b i : Nat) (e : Nat × Nat × Nat) : X → X
  | .p id q n k k2 => if Nat.beq id b then .p i (e :: q) n k k2 else .p id q n k k2
  | .h id q => if Nat.beq id b then .h i (e :: q) else .h id q
  | .a id q n lo len => if Nat.beq id b then .a i (e :: q) n lo len else .a id q n lo len
  | .g xs => .g (X.subs b i e xs)
  | .t xs => .t (X.subs b i e xs)
  | .f fn xs => .f fn (X.subs b i e xs)
  | .v x => .v x
  | .j => .j
  | .c => .c
def X.subs (b i : Nat) (e : Nat × Nat × Nat) : List X → List X
  | [] => []
  | x :: xs => X.sub b i e x :: X.subs b i e xs
end
def eqE (a b : Nat × Nat × Nat) : Bool := Nat.beq a.1 b.1 && (Nat.beq a.2.1 b.2.1 && Nat.beq a.2.2 b.2.2)
theorem eqE_eq {a b : Nat × Nat × Nat} (h : eqE a b = true) : a = b := by
  obtain ⟨a1, a2, a3⟩ := a
  obtain ⟨b1, b2, b3⟩ := b
  simp only [eqE, Bool.and_eq_true] at h
  rw [Nat.eq_of_beq_eq_true h.1, Nat.eq_of_beq_eq_true h.2.1, Nat.eq_of_beq_eq_true h.2.2]
theorem eqE_refl (a : Nat × Nat × Nat) : eqE a a = true := by simp [eqE]
def unsP (i : Nat) (e : Nat × Nat × Nat) (d id : Nat) (q : Path) : Nat × Path := match q with
  | [] => (id, [])
  | a :: r => if Nat.beq id i && eqE a e then (d, r) else (id, a :: r)
mutual
/-- what spoke of the node at e of root i speaks of root d -/
def X.uns (i : Nat) (e : Nat × Nat × Nat) (d : Nat) : X → X
  | .p id q n k k2 => .p (unsP i e d id q).1 (unsP i e d id q).2 n k k2
  | .h id q => .h (unsP i e d id q).1 (unsP i e d id q).2
  | .a id q n lo len => .a (unsP i e d id q).1 (unsP i e d id q).2 n lo len
  | .g xs => .g (X.unss i e d xs)
  | .t xs => .t (X.unss i e d xs)
  | .f fn xs => .f fn (X.unss i e d xs)
  | .v x => .v x
  | .j => .j
  | .c => .c
def X.unss (i : Nat) (e : Nat × Nat × Nat) (d : Nat) : List X → List X
  | [] => []
  | x :: xs => X.uns i e d x :: X.unss i e d xs
end
section
variable {R R' : RT} {H H' : Nat → Value} {w w' : World}
mutual
theorem VR.subOk {b i : Nat} {e : Nat × Nat × Nat} (hP : ∀ x v, X.leaf x → VR R H w x v → VR R' H' w' (x.sub b i e) v) : ∀ {x : X} {v : Value}, VR R H w x v → VR R' H' w' (x.sub b i e) v
  | .g xs, v, ⟨vs, h1, h2⟩ => ⟨vs, h1, VRs.subOk hP h2⟩
  | .t xs, v, ⟨vs, h1, h2⟩ => ⟨vs, h1, VRs.subOk hP h2⟩
  | .f fn xs, v, ⟨vs, h1, h2⟩ => ⟨vs, h1, VRs.subOk hP h2⟩
  | .v x, v, h => h
  | .j, v, _ => trivial
  | .c, v, h => h
  | .p .., v, h => hP _ _ trivial h
  | .h .., v, h => hP _ _ trivial h
  | .a .., v, h => hP _ _ trivial h
theorem VRs.subOk {b i : Nat} {e : Nat × Nat × Nat} (hP : ∀ x v, X.leaf x → VR R H w x v → VR R' H' w' (x.sub b i e) v) : ∀ {xs : List X} {vs : List Value}, VRs R H w xs vs → VRs R' H' w' (X.subs b i e xs) vs
  | [], [], _ => trivial
  | x :: xs, v :: vs, ⟨h1, h2⟩ => ⟨VR.subOk hP h1, VRs.subOk hP h2⟩
  | [], _ :: _, h => h.elim
  | _ :: _, [], h => h.elim
end
mutual
theorem VR.unsOk {i d : Nat} {e : Nat × Nat × Nat} (hP : ∀ x v, X.leaf x → VR R H w x v → VR R' H' w' (x.uns i e d) v) : ∀ {x : X} {v : Value}, VR R H w x v → VR R' H' w' (x.uns i e d) v
  | .g xs, v, ⟨vs, h1, h2⟩ => ⟨vs, h1, VRs.unsOk hP h2⟩
  | .t xs, v, ⟨vs, h1, h2⟩ => ⟨vs, h1, VRs.unsOk hP h2⟩
  | .f fn xs, v, ⟨vs, h1, h2⟩ => ⟨vs, h1, VRs.unsOk hP h2⟩
  | .v x, v, h => h
  | .j, v, _ => trivial
  | .c, v, h => h
  | .p .., v, h => hP _ _ trivial h
  | .h .., v, h => hP _ _ trivial h
  | .a .., v, h => hP _ _ trivial h
theorem VRs.unsOk {i d : Nat} {e : Nat × Nat × Nat} (hP : ∀ x v, X.leaf x → VR R H w x v → VR R' H' w' (x.uns i e d) v) : ∀ {xs : List X} {vs : List Value}, VRs R H w xs vs → VRs R' H' w' (X.unss i e d xs) vs
  | [], [], _ => trivial
  | x :: xs, v :: vs, ⟨h1, h2⟩ => ⟨VR.unsOk hP h1, VRs.unsOk hP h2⟩
  | [], _ :: _, h => h.elim
  | _ :: _, [], h => h.elim
end
end
def sinkL (b i c n : Nat) (tb : T) : List E → List E
  | [] => []
  | .sl s x :: L => .sl s (x.sub b i (n, 0, c)) :: sinkL b i c n tb L
  | .rt id m t :: L => if Nat.beq id b then sinkL b i c n tb L else .rt id m (if Nat.beq id i then t.put [] 0 c tb else t) :: sinkL b i c n tb L
  | .al id c' x :: L => if Nat.beq id i && Nat.beq c' c then sinkL b i c n tb L else .al id c' (x.sub b i (n, 0, c)) :: sinkL b i c n tb L
def hoistM (i c n d : Nat) : List E → List E
  | [] => []
  | .sl s x :: L => .sl s (x.uns i (n, 0, c) d) :: hoistM i c n d L
  | .rt id m t :: L => .rt id m (if Nat.beq id i then t.put [] 0 c .j else t) :: hoistM i c n d L
  | .al id c' x :: L => .al id c' (x.uns i (n, 0, c) d) :: hoistM i c n d L
def hoistL (i c n d : Nat) (tc : T) (L : List E) : List E := .rt d .row tc :: .al i c (.h d []) :: hoistM i c n d L
theorem sinkL_sl {b i c n : Nat} {tb : T} {s : Nat} {y : X} : ∀ {L : List E}, E.sl s y ∈ sinkL b i c n tb L → ∃ x, E.sl s x ∈ L ∧ y = x.sub b i (n, 0, c)
  | .sl s' x :: L, h => by
    rcases List.mem_cons.1 h with h | h
    · cases h; exact ⟨x, List.mem_cons_self .., rfl⟩
    · obtain ⟨x, h1, h2⟩ := sinkL_sl h; exact ⟨x, List.mem_cons_of_mem _ h1, h2⟩
  | .rt id m t :: L, h => by
    simp only [sinkL] at h
    split at h
    · obtain ⟨x, h1, h2⟩ := sinkL_sl h; exact ⟨x, List.mem_cons_of_mem _ h1, h2⟩
    · rcases List.mem_cons.1 h with h | h
      · cases h
      · obtain ⟨x, h1, h2⟩ := sinkL_sl h; exact ⟨x, List.mem_cons_of_mem _ h1, h2⟩
  | .al id c' x :: L, h => by
    simp only [sinkL] at h
    split at h
    · obtain ⟨x, h1, h2⟩ := sinkL_sl h; exact ⟨x, List.mem_cons_of_mem _ h1, h2⟩
    · rcases List.mem_cons.1 h with h | h
      · cases h
      · obtain ⟨x, h1, h2⟩ := sinkL_sl h; exact ⟨x, List.mem_cons_of_mem _ h1, h2⟩
theorem sinkL_al {b i c n : Nat} {tb : T} {s c1 : Nat} {y : X} : ∀ {L : List E}, E.al s c1 y ∈ sinkL b i c n tb L → ∃ x, E.al s c1 x ∈ L ∧ y = x.sub b i (n, 0, c) ∧ ¬ (s = i ∧ c1 = c)
  | .sl s' x :: L, h => by
    rcases List.mem_cons.1 h with h | h
    · cases h
    · obtain ⟨x, h1, h2⟩ := sinkL_al h; exact ⟨x, List.mem_cons_of_mem _ h1, h2⟩
  | .rt id m t :: L, h => by
    simp only [sinkL] at h
    split at h
    · obtain ⟨x, h1, h2⟩ := sinkL_al h; exact ⟨x, List.mem_cons_of_mem _ h1, h2⟩
    · rcases List.mem_cons.1 h with h | h
      · cases h
      · obtain ⟨x, h1, h2⟩ := sinkL_al h; exact ⟨x, List.mem_cons_of_mem _ h1, h2⟩
  | .al id c' x :: L, h => by
    simp only [sinkL] at h
    split at h
    · obtain ⟨x, h1, h2⟩ := sinkL_al h; exact ⟨x, List.mem_cons_of_mem _ h1, h2⟩
    · rename_i hne
      rcases List.mem_cons.1 h with h | h
      · cases h
        refine ⟨x, List.mem_cons_self .., rfl, fun ⟨e1, e2⟩ => hne ?_⟩
        rw [e1, e2]; simp
      · obtain ⟨x, h1, h2⟩ := sinkL_al h; exact ⟨x, List.mem_cons_of_mem _ h1, h2⟩
theorem sinkL_rt {b i c n : Nat} {tb : T} {id : Nat} {m : M} {t : T} : ∀ {L : List E}, rts (sinkL b i c n tb L) id m t ↔ id ≠ b ∧ ∃ t0, rts L id m t0 ∧ t = if id = i then t0.put [] 0 c tb else t0
  | [] => by simp [rts, sinkL]
  | .sl s' x :: L => by
    have := sinkL_rt (b := b) (i := i) (c := c) (n := n) (tb := tb) (id := id) (m := m) (t := t) (L := L)
    simpa [rts, sinkL] using this
  | .al s' c' x :: L => by
    have := sinkL_rt (b := b) (i := i) (c := c) (n := n) (tb := tb) (id := id) (m := m) (t := t) (L := L)
    simp only [rts, sinkL] at this ⊢
    split <;> simpa using this
  | .rt id' m' t' :: L => by
    have ih := sinkL_rt (b := b) (i := i) (c := c) (n := n) (tb := tb) (id := id) (m := m) (t := t) (L := L)
    simp only [rts, sinkL] at ih ⊢
    by_cases hb : id' = b
    · subst hb
      simp only [Nat.beq_refl, if_true, ih, List.mem_cons, E.rt.injEq]
      constructor
      · rintro ⟨h1, t0, h2, h3⟩; exact ⟨h1, t0, .inr h2, h3⟩
      · rintro ⟨h1, t0, ⟨rfl, _⟩ | h2, h3⟩
        · exact absurd rfl h1
        · exact ⟨h1, t0, h2, h3⟩
    · have hb' : ¬ (Nat.beq id' b = true) := fun h => hb (Nat.eq_of_beq_eq_true h)
      have hi : (if Nat.beq id' i = true then t'.put [] 0 c tb else t') = if id' = i then t'.put [] 0 c tb else t' := by
        by_cases h : id' = i
        · subst h; simp
        · rw [if_neg h, if_neg fun h' => h (Nat.eq_of_beq_eq_true h')]
      rw [if_neg hb', hi, List.mem_cons, ih, E.rt.injEq]
      constructor
      · rintro (⟨rfl, rfl, rfl⟩ | ⟨h1, t0, h2, h3⟩)
        · exact ⟨hb, t', List.mem_cons_self .., rfl⟩
        · exact ⟨h1, t0, List.mem_cons_of_mem _ h2, h3⟩
      · rintro ⟨h1, t0, h2, h3⟩
        rcases List.mem_cons.1 h2 with h2 | h2
        · cases h2; exact .inl ⟨rfl, rfl, h3⟩
        · exact .inr ⟨h1, t0, h2, h3⟩
theorem hoistM_sl {i c n d : Nat} {s : Nat} {y : X} : ∀ {L : List E}, E.sl s y ∈ hoistM i c n d L → ∃ x, E.sl s x ∈ L ∧ y = x.uns i (n, 0, c) d
  | .sl s' x :: L, h => by
    rcases List.mem_cons.1 h with h | h
    · cases h; exact ⟨x, List.mem_cons_self .., rfl⟩
    · obtain ⟨x, h1, h2⟩ := hoistM_sl h; exact ⟨x, List.mem_cons_of_mem _ h1, h2⟩
  | .rt id m t :: L, h => by
    rcases List.mem_cons.1 h with h | h
    · cases h
    · obtain ⟨x, h1, h2⟩ := hoistM_sl h; exact ⟨x, List.mem_cons_of_mem _ h1, h2⟩
  | .al id c' x :: L, h => by
    rcases List.mem_cons.1 h with h | h
    · cases h
    · obtain ⟨x, h1, h2⟩ := hoistM_sl h; exact ⟨x, List.mem_cons_of_mem _ h1, h2⟩
theorem hoistM_al {i c n d : Nat} {s c1 : Nat} {y : X} : ∀ {L : List E}, E.al s c1 y ∈ hoistM i c n d L → ∃ x, E.al s c1 x ∈ L ∧ y = x.uns i (n, 0, c) d
  | .sl s' x :: L, h => by
    rcases List.mem_cons.1 h with h | h
    · cases h
    · obtain ⟨x, h1, h2⟩ := hoistM_al h; exact ⟨x, List.mem_cons_of_mem _ h1, h2⟩
  | .rt id m t :: L, h => by
    rcases List.mem_cons.1 h with h | h
    · cases h
    · obtain ⟨x, h1, h2⟩ := hoistM_al h; exact ⟨x, List.mem_cons_of_mem _ h1, h2⟩
  | .al id c' x :: L, h => by
    rcases List.mem_cons.1 h with h | h
    · cases h; exact ⟨x, List.mem_cons_self .., rfl⟩
    · obtain ⟨x, h1, h2⟩ := hoistM_al h; exact ⟨x, List.mem_cons_of_mem _ h1, h2⟩
theorem hoistM_rt {i c n d : Nat} {id : Nat} {m : M} {t : T} : ∀ {L : List E}, rts (hoistM i c n d L) id m t ↔ ∃ t0, rts L id m t0 ∧ t = if id = i then t0.put [] 0 c .j else t0
  | [] => by simp [rts, hoistM]
  | .sl s' x :: L => by
    have := hoistM_rt (i := i) (c := c) (n := n) (d := d) (id := id) (m := m) (t := t) (L := L)
    simpa [rts, hoistM] using this
  | .al s' c' x :: L => by
    have := hoistM_rt (i := i) (c := c) (n := n) (d := d) (id := id) (m := m) (t := t) (L := L)
    simpa [rts, hoistM] using this
  | .rt id' m' t' :: L => by
    have ih := hoistM_rt (i := i) (c := c) (n := n) (d := d) (id := id) (m := m) (t := t) (L := L)
    simp only [rts, hoistM] at ih ⊢
    have hi : (if Nat.beq id' i = true then t'.put [] 0 c .j else t') = if id' = i then t'.put [] 0 c .j else t' := by
      by_cases h : id' = i
      · subst h; simp
      · rw [if_neg h, if_neg fun h' => h (Nat.eq_of_beq_eq_true h')]
    rw [hi, List.mem_cons, ih, E.rt.injEq]
    constructor
    · rintro (⟨rfl, rfl, rfl⟩ | ⟨t0, h2, h3⟩)
      · exact ⟨t', List.mem_cons_self .., rfl⟩
      · exact ⟨t0, List.mem_cons_of_mem _ h2, h3⟩
    · rintro ⟨t0, h2, h3⟩
      rcases List.mem_cons.1 h2 with h2 | h2
      · cases h2; exact .inl ⟨rfl, rfl, h3⟩
      · exact .inr ⟨t0, h2, h3⟩
/-- ways that avoid one cell -/
theorem upd_at {n c : Nat} {f : Nat → Nat → T} {y : T} : ∀ {q : Path}, Okp (.s n 1 f) q → (∀ r, q ≠ (n, 0, c) :: r) → Okp (.s n 1 (upd f 0 c y)) q ∧ ∀ {n1 len : Nat} {f1 : Nat → Nat → T}, (T.s n 1 f).at q = .s n1 len f1 → ∃ f2, (T.s n 1 (upd f 0 c y)).at q = .s n1 len f2
  | [], _, _ => ⟨trivial, fun h => by simp only [T.at] at h ⊢; cases h; exact ⟨_, rfl⟩⟩
  | (n', k', c') :: q', ⟨hnn, hk, hc, hq⟩, hne => by
    subst hnn
    have hkc : ¬ (k' = 0 ∧ c' = c) := by
      rintro ⟨rfl, rfl⟩
      exact hne q' rfl
    have e : upd f 0 c y k' c' = f k' c' := by simp only [upd, if_neg hkc]
    refine ⟨⟨rfl, hk, hc, by rw [e]; exact hq⟩, fun h => ?_⟩
    simp only [T.at] at h ⊢
    rw [e]
    exact ⟨_, h⟩
theorem hd_cons {w : World} {h x : Value} {n k c b o : Nat} {q : Path} (h1 : adr h n k c = some ⟨b, o, none⟩) (h2 : w.cell? ⟨b, o, none⟩ = some x) : hd w h ((n, k, c) :: q) = hd w x q := by
  simp only [hd, h1, h2]
theorem Weak.sink {N : Nat} {L : List E} (b i c : Nat) {n : Nat} {f : Nat → Nat → T} {tb : T} (hi : rootL L i = some (.box, .s n 1 f)) (hc : c < n) (hf : f 0 c = .j) (hb : rootL L b = some (.row, tb)) (hal : aliasL L i c = .h b []) (hne : Nat.beq b i = false) : Weak N L (sinkL b i c n tb L) := fun cx a w hs => by
  obtain ⟨H, G, hr, hG⟩ := hs.rp
  have hi' := rootL_mem hi
  have hb' := rootL_mem hb
  have hne' : b ≠ i := fun e => by rw [e, Nat.beq_refl] at hne; cases hne
  have hal' : E.al i c (.h b []) ∈ L := by
    rcases aliasL_mem (L := L) (id := i) (c := c) with h | h
    · rw [hal] at h; cases h
    · rw [hal] at h; exact h
  obtain ⟨n2, f2, e1, e2, A, v, e3, e4, e5⟩ := hr.al i c _ hal'
  have e6 := (hr.one _ _ _ _ _ hi' e1).2
  cases e6
  have hv : v = H b := by
    obtain ⟨m, t, _, _, _, h⟩ := e5
    simp only [VM.hd, Option.some.injEq] at h
    exact h.symm
  subst hv
  have hO := hr.own i _ _ hi' (by simp)
  obtain ⟨b0, o0, x0, Gx, g1, g2, g3, g4, g5, g6, g7, g8⟩ := hO.row (k := 0) (c := c) (by omega) hc
  have hA : A = ⟨b0, o0, none⟩ := by
    obtain ⟨a0, l0, c0, q1, q2⟩ := adr_some e3
    rw [q1] at g1
    simp only [adr, Option.some.injEq] at g1
    rw [q2, ← g1]
    simp
  rw [hA, g2] at e4
  cases e4
  have hGx : ∀ x y, ¬ Gx x y := by rw [hf] at g3; exact g3.2
  have hOb := hr.own b _ _ hb' (by simp)
  obtain ⟨k1, -⟩ := g8 (w' := w) (S := fun _ _ => False) (y := tb) (x' := H b) (Gy := G b) (Chg.refl _ _) (fun _ _ h => h.elim) g2 hOb (fun x y hg => .inr fun hF => hr.dis _ _ _ _ _ _ hb' hi' hne' (by simp) x y hg hF)
  have hrt : ∀ {id m t}, rts (sinkL b i c n tb L) id m t → (id = i ∧ m = .box ∧ t = .s n 1 (upd f 0 c tb)) ∨ (id ≠ i ∧ id ≠ b ∧ rts L id m t) := fun {id m t} h => by
    obtain ⟨h1, t0, h2, h3⟩ := sinkL_rt.1 h
    by_cases e : id = i
    · subst e
      obtain ⟨rfl, rfl⟩ := hr.one _ _ _ _ _ h2 hi'
      rw [if_pos rfl] at h3
      exact .inl ⟨rfl, rfl, h3⟩
    · rw [if_neg e] at h3
      subst h3
      exact .inr ⟨e, h1, h2⟩
  have hri : rts (sinkL b i c n tb L) i .box (.s n 1 (upd f 0 c tb)) := sinkL_rt.2 ⟨fun e => hne' e.symm, _, hi', by rw [if_pos rfl]; rfl⟩
  have hro : ∀ {id m t}, id ≠ i → id ≠ b → rts L id m t → rts (sinkL b i c n tb L) id m t := fun {id m t} h1 h2 h => sinkL_rt.2 ⟨h2, t, h, by rw [if_neg h1]⟩
  have havoid : ∀ {q : Path} {n1 len : Nat} {f1 : Nat → Nat → T}, (T.s n 1 f).at q = .s n1 len f1 → ∀ r, q ≠ (n, 0, c) :: r := fun {q n1 len f1} h r e => by
    subst e
    simp only [T.at, hf] at h
    cases r <;> simp [T.at] at h
  have hleaf : ∀ x v, X.leaf x → VR (rts L) H w x v → VR (rts (sinkL b i c n tb L)) H w (x.sub b i (n, 0, c)) v := fun x v hl h => by
    cases x with
    | p id q n1 k c1 =>
      obtain ⟨m, t, h1, h2, ⟨len, f1, h3, h4, h5⟩, hv, A1, h6, h7⟩ := h
      by_cases e : id = b
      · subst e
        obtain ⟨rfl, rfl⟩ := hr.one _ _ _ _ _ h1 hb'
        simp only [X.sub, Nat.beq_refl, if_true]
        exact ⟨_, _, hri, ⟨rfl, Nat.zero_lt_one, hc, by simpa [upd] using h2⟩, ⟨len, f1, by simpa [T.at, upd] using h3, h4, h5⟩, hv, A1, by rw [hd_cons g1 g2]; exact h6, h7⟩
      · simp only [X.sub, if_neg fun h => e (Nat.eq_of_beq_eq_true h)]
        by_cases e' : id = i
        · subst e'
          obtain ⟨rfl, rfl⟩ := hr.one _ _ _ _ _ h1 hi'
          obtain ⟨p1, p2⟩ := upd_at (y := tb) h2 (havoid h3)
          obtain ⟨f2, p3⟩ := p2 h3
          exact ⟨_, _, hri, p1, ⟨len, f2, p3, h4, h5⟩, hv, A1, h6, h7⟩
        · exact ⟨m, t, hro e' e h1, h2, ⟨len, f1, h3, h4, h5⟩, hv, A1, h6, h7⟩
    | h id q =>
      obtain ⟨m, t, h1, h2, ⟨n1, len, f1, h3⟩, h6⟩ := h
      by_cases e : id = b
      · subst e
        obtain ⟨rfl, rfl⟩ := hr.one _ _ _ _ _ h1 hb'
        simp only [X.sub, Nat.beq_refl, if_true]
        exact ⟨_, _, hri, ⟨rfl, Nat.zero_lt_one, hc, by simpa [upd] using h2⟩, ⟨n1, len, f1, by simpa [T.at, upd] using h3⟩, by rw [hd_cons g1 g2]; exact h6⟩
      · simp only [X.sub, if_neg fun h => e (Nat.eq_of_beq_eq_true h)]
        by_cases e' : id = i
        · subst e'
          obtain ⟨rfl, rfl⟩ := hr.one _ _ _ _ _ h1 hi'
          obtain ⟨p1, p2⟩ := upd_at (y := tb) h2 (havoid h3)
          obtain ⟨f2, p3⟩ := p2 h3
          exact ⟨_, _, hri, p1, ⟨n1, len, f2, p3⟩, h6⟩
        · exact ⟨m, t, hro e' e h1, h2, ⟨n1, len, f1, h3⟩, h6⟩
    | a id q n1 lo len =>
      obtain ⟨m, t, h1, h2, ⟨l, f1, h3, h4⟩, hv, h6, h7⟩ := h
      by_cases e : id = b
      · subst e
        obtain ⟨rfl, rfl⟩ := hr.one _ _ _ _ _ h1 hb'
        simp only [X.sub, Nat.beq_refl, if_true]
        exact ⟨_, _, hri, ⟨rfl, Nat.zero_lt_one, hc, by simpa [upd] using h2⟩, ⟨l, f1, by simpa [T.at, upd] using h3, h4⟩, hv, by rw [hd_cons g1 g2]; exact h6, h7⟩
      · simp only [X.sub, if_neg fun h => e (Nat.eq_of_beq_eq_true h)]
        by_cases e' : id = i
        · subst e'
          obtain ⟨rfl, rfl⟩ := hr.one _ _ _ _ _ h1 hi'
          obtain ⟨p1, p2⟩ := upd_at (y := tb) h2 (havoid h3)
          obtain ⟨f2, p3⟩ := p2 h3
          exact ⟨_, _, hri, p1, ⟨l, f2, p3, h4⟩, hv, h6, h7⟩
        · exact ⟨m, t, hro e' e h1, h2, ⟨l, f1, h3, h4⟩, hv, h6, h7⟩
    | _ => exact hl.elim
  refine ⟨hs.siz, hs.dfr, hs.chg, H, updN G i fun a p => (G i a p ∧ ¬ Gx a p) ∨ G b a p, ⟨fun id m t m' t' h1 h2 => ?_, fun id m t h1 h2 => ?_, fun id t h1 => ?_, fun id t h1 => ?_, fun id t h1 => ?_, fun id m t id' m' t' h1 h2 hne2 hm x y hx hy => ?_, fun t x h => ?_, fun id c1 x h => ?_⟩, fun id m t h1 h2 x y hx => ?_, fun id m t h1 h2 => ?_⟩
  · rcases hrt h1 with ⟨rfl, rfl, rfl⟩ | ⟨a1, a2, a3⟩ <;> rcases hrt h2 with ⟨b1, b2, b3⟩ | ⟨b1, b2, b3⟩
    · exact ⟨b2.symm, b3.symm⟩
    · exact absurd rfl b1
    · exact absurd b1 a1
    · exact hr.one _ _ _ _ _ a3 b3
  · rcases hrt h1 with ⟨rfl, rfl, rfl⟩ | ⟨a1, a2, a3⟩
    · simp only [updN, if_true]; exact k1
    · simp only [updN, if_neg a1]; exact hr.own _ _ _ a3 h2
  · rcases hrt h1 with ⟨_, h, _⟩ | ⟨a1, a2, a3⟩
    · cases h
    · simp only [updN, if_neg a1]; exact hr.ro _ _ a3
  · rcases hrt h1 with ⟨_, h, _⟩ | ⟨a1, a2, a3⟩
    · cases h
    · simp only [updN, if_neg a1]; exact hr.rold _ _ a3
  · rcases hrt h1 with ⟨_, _, rfl⟩ | ⟨a1, a2, a3⟩
    · exact ⟨_, _, rfl⟩
    · exact hr.box _ _ a3
  · rcases hrt h1 with ⟨rfl, rfl, rfl⟩ | ⟨a1, a2, a3⟩ <;> rcases hrt h2 with ⟨b1, b2, b3⟩ | ⟨b1, b2, b3⟩
    · exact hne2 b1.symm
    · simp only [updN, if_true] at hx
      simp only [updN, if_neg b1] at hy
      rcases hx with ⟨hx, _⟩ | hx
      · exact hr.dis _ _ _ _ _ _ hi' b3 hne2 (by simp) x y hx hy
      · exact hr.dis _ _ _ _ _ _ hb' b3 (Ne.symm b2) (by simp) x y hx hy
    · subst b1
      simp only [updN, if_true] at hy
      simp only [updN, if_neg a1] at hx
      rcases hy with ⟨hy, _⟩ | hy
      · exact hr.dis _ _ _ _ _ _ hi' a3 (Ne.symm hne2) (by simp) x y hy hx
      · exact hr.dis _ _ _ _ _ _ hb' a3 (Ne.symm a2) (by simp) x y hy hx
    · simp only [updN, if_neg a1] at hx
      simp only [updN, if_neg b1] at hy
      exact hr.dis _ _ _ _ _ _ a3 b3 hne2 hm x y hx hy
  · obtain ⟨x', h1, rfl⟩ := sinkL_sl h
    exact VR.subOk hleaf (hr.sl t x' h1)
  · obtain ⟨x', h1, rfl, h3⟩ := sinkL_al h
    obtain ⟨n3, f3, p1, p2, A3, v3, p3, p4, p5⟩ := hr.al id c1 x' h1
    by_cases e : id = i
    · subst e
      have := (hr.one _ _ _ _ _ hi' p1).2
      cases this
      exact ⟨n, _, hri, p2, A3, v3, p3, p4, VR.subOk hleaf p5⟩
    · have e' : id ≠ b := fun e' => by
        subst e'
        obtain ⟨hh, _⟩ := hr.one _ _ _ _ _ hb' p1
        cases hh
      exact ⟨n3, f3, hro e e' p1, p2, A3, v3, p3, p4, VR.subOk hleaf p5⟩
  · rcases hrt h1 with ⟨rfl, rfl, rfl⟩ | ⟨a1, a2, a3⟩
    · simp only [updN, if_true] at hx
      rcases hx with ⟨hx, _⟩ | hx
      · exact hG.1 _ _ _ hi' (by simp) x y hx
      · exact hG.1 _ _ _ hb' (by simp) x y hx
    · simp only [updN, if_neg a1] at hx
      exact hG.1 _ _ _ a3 h2 x y hx
  · rcases hrt h2 with ⟨rfl, rfl, rfl⟩ | ⟨a1, a2, a3⟩
    · exact hG.2 _ _ _ h1 hi'
    · exact hG.2 _ _ _ h1 a3
theorem Weak.hoist {N : Nat} {L : List E} (i c d : Nat) {n n1 len : Nat} {f f1 : Nat → Nat → T} (hi : rootL L i = some (.box, .s n 1 f)) (hc : c < n) (hf : f 0 c = .s n1 len f1) (hd : Nat.blt d base = true) (hn : (idsL L).contains d = false) : Weak N L (hoistL i c n d (.s n1 len f1) L) := fun cx a w hs => by
  obtain ⟨H, G, hr, hG⟩ := hs.rp
  have hi' := rootL_mem hi
  have hdn : ∀ {m t}, ¬ rts L d m t := fun {m t} h => by
    have : d ∈ idsL L := idsL_mem.2 ⟨m, t, h⟩
    simp [this] at hn
  have hdi : d ≠ i := fun e => hdn (e ▸ hi')
  have hdb : d < base := Nat.blt_eq.mp hd
  have hO := hr.own i _ _ hi' (by simp)
  obtain ⟨b0, o0, x0, Gx, g1, g2, g3, g4, g5, g6, g7, g8⟩ := hO.row (k := 0) (c := c) (by omega) hc
  obtain ⟨k1, -⟩ := g8 (w' := w) (S := fun _ _ => False) (y := .j) (x' := x0) (Gy := fun _ _ => False) (Chg.refl _ _) (fun _ _ h => h.elim) g2 ⟨g3.one, fun _ _ h => h⟩ (fun x y hg => hg.elim)
  rw [hf] at g3
  have hrt : ∀ {id m t}, rts (hoistL i c n d (.s n1 len f1) L) id m t → (id = d ∧ m = .row ∧ t = .s n1 len f1) ∨ (id = i ∧ m = .box ∧ t = .s n 1 (upd f 0 c .j)) ∨ (id ≠ i ∧ id ≠ d ∧ rts L id m t) := fun {id m t} h => by
    rcases List.mem_cons.1 h with h | h
    · cases h; exact .inl ⟨rfl, rfl, rfl⟩
    rcases List.mem_cons.1 h with h | h
    · cases h
    obtain ⟨t0, h2, h3⟩ := hoistM_rt.1 h
    by_cases e : id = i
    · subst e
      obtain ⟨rfl, rfl⟩ := hr.one _ _ _ _ _ h2 hi'
      rw [if_pos rfl] at h3
      exact .inr (.inl ⟨rfl, rfl, h3⟩)
    · rw [if_neg e] at h3
      subst h3
      exact .inr (.inr ⟨e, fun e' => hdn (e' ▸ h2), h2⟩)
  have hrd : rts (hoistL i c n d (.s n1 len f1) L) d .row (.s n1 len f1) := List.mem_cons_self ..
  have hri : rts (hoistL i c n d (.s n1 len f1) L) i .box (.s n 1 (upd f 0 c .j)) := List.mem_cons_of_mem _ (List.mem_cons_of_mem _ (hoistM_rt.2 ⟨_, hi', by rw [if_pos rfl]; rfl⟩))
  have hro : ∀ {id m t}, id ≠ i → rts L id m t → rts (hoistL i c n d (.s n1 len f1) L) id m t := fun {id m t} h1 h => List.mem_cons_of_mem _ (List.mem_cons_of_mem _ (hoistM_rt.2 ⟨t, h, by rw [if_neg h1]⟩))
  let H' : Nat → Value := updN H d x0
  have hHd : H' d = x0 := by simp [H', updN]
  have hHo : ∀ {id m t}, rts L id m t → H' id = H id := fun {id m t} h => by
    have : id ≠ d := fun e => hdn (e ▸ h)
    simp [H', updN, this]
  -- a way through the cell, or past it
  have hway : ∀ {id m t q}, rts L id m t → Okp t q → ∃ m' t', rts (hoistL i c n d (.s n1 len f1) L) (unsP i (n, 0, c) d id q).1 m' t' ∧ Okp t' (unsP i (n, 0, c) d id q).2 ∧ (∀ {n2 l2 : Nat} {f2 : Nat → Nat → T}, t.at q = .s n2 l2 f2 → ∃ f3, t'.at (unsP i (n, 0, c) d id q).2 = .s n2 l2 f3) ∧ VM.hd w (H' (unsP i (n, 0, c) d id q).1) (unsP i (n, 0, c) d id q).2 = VM.hd w (H id) q := fun {id m t q} h hq => by
    have hpast : (∀ r, id = i → q ≠ (n, 0, c) :: r) → ∃ m' t', rts (hoistL i c n d (.s n1 len f1) L) id m' t' ∧ Okp t' q ∧ (∀ {n2 l2 : Nat} {f2 : Nat → Nat → T}, t.at q = .s n2 l2 f2 → ∃ f3, t'.at q = .s n2 l2 f3) ∧ VM.hd w (H' id) q = VM.hd w (H id) q := fun hav => by
      rw [hHo h]
      by_cases e : id = i
      · subst e
        obtain ⟨rfl, rfl⟩ := hr.one _ _ _ _ _ h hi'
        obtain ⟨p1, p2⟩ := upd_at (y := .j) hq fun r => hav r rfl
        exact ⟨_, _, hri, p1, fun hh => p2 hh, rfl⟩
      · exact ⟨m, t, hro e h, hq, fun hh => ⟨_, hh⟩, rfl⟩
    cases q with
    | nil => exact hpast fun r _ e => by cases e
    | cons e q =>
      simp only [unsP]
      by_cases hh : (Nat.beq id i && eqE e (n, 0, c)) = true
      · rw [if_pos hh]
        simp only [Bool.and_eq_true] at hh
        have e1 := Nat.eq_of_beq_eq_true hh.1
        have e2 := eqE_eq hh.2
        subst e1 e2
        obtain ⟨rfl, rfl⟩ := hr.one _ _ _ _ _ h hi'
        obtain ⟨_, _, _, hq'⟩ := hq
        rw [hf] at hq'
        refine ⟨_, _, hrd, hq', fun hh => ⟨_, by simpa only [T.at, hf] using hh⟩, ?_⟩
        rw [hHd, hd_cons g1 g2]
      · rw [if_neg hh]
        refine hpast fun r h1 h2 => hh ?_
        cases h2
        rw [h1]
        simp [eqE_refl]
  have hleaf : ∀ x v, X.leaf x → VR (rts L) H w x v → VR (rts (hoistL i c n d (.s n1 len f1) L)) H' w (x.uns i (n, 0, c) d) v := fun x v hl h => by
    cases x with
    | p id q n2 k c1 =>
      obtain ⟨m, t, h1, h2, ⟨l2, f2, h3, h4, h5⟩, hv, A1, h6, h7⟩ := h
      obtain ⟨m', t', p1, p2, p3, p4⟩ := hway h1 h2
      obtain ⟨f3, p5⟩ := p3 h3
      exact ⟨m', t', p1, p2, ⟨l2, f3, p5, h4, h5⟩, hv, A1, by rw [p4]; exact h6, h7⟩
    | h id q =>
      obtain ⟨m, t, h1, h2, ⟨n2, l2, f2, h3⟩, h6⟩ := h
      obtain ⟨m', t', p1, p2, p3, p4⟩ := hway h1 h2
      obtain ⟨f3, p5⟩ := p3 h3
      exact ⟨m', t', p1, p2, ⟨n2, l2, f3, p5⟩, by rw [p4]; exact h6⟩
    | a id q n2 lo l2 =>
      obtain ⟨m, t, h1, h2, ⟨l, f2, h3, h4⟩, hv, h6, h7⟩ := h
      obtain ⟨m', t', p1, p2, p3, p4⟩ := hway h1 h2
      obtain ⟨f3, p5⟩ := p3 h3
      exact ⟨m', t', p1, p2, ⟨l, f3, p5, h4⟩, hv, by rw [p4]; exact h6, h7⟩
    | _ => exact hl.elim
  refine ⟨hs.siz, hs.dfr, hs.chg, H', updN (updN G i fun a p => (G i a p ∧ ¬ Gx a p) ∨ False) d Gx, ⟨fun id m t m' t' h1 h2 => ?_, fun id m t h1 h2 => ?_, fun id t h1 => ?_, fun id t h1 => ?_, fun id t h1 => ?_, fun id m t id' m' t' h1 h2 hne2 hm x y hx hy => ?_, fun t x h => ?_, fun id c1 x h => ?_⟩, fun id m t h1 h2 x y hx => ?_, fun id m t h1 h2 => ?_⟩
  · rcases hrt h1 with ⟨rfl, rfl, rfl⟩ | ⟨rfl, rfl, rfl⟩ | ⟨a1, a2, a3⟩ <;> rcases hrt h2 with ⟨b1, b2, b3⟩ | ⟨b1, b2, b3⟩ | ⟨b1, b2, b3⟩
    · exact ⟨b2.symm, b3.symm⟩
    · exact absurd b1 hdi
    · exact absurd rfl b2
    · exact absurd b1.symm hdi
    · exact ⟨b2.symm, b3.symm⟩
    · exact absurd rfl b1
    · exact absurd b1 a2
    · exact absurd b1 a1
    · exact hr.one _ _ _ _ _ a3 b3
  · rcases hrt h1 with ⟨rfl, rfl, rfl⟩ | ⟨rfl, rfl, rfl⟩ | ⟨a1, a2, a3⟩
    · simp only [updN, if_true]; rw [hHd]; exact g3
    · simp only [updN, if_neg (Ne.symm hdi), if_true]; rw [hHo hi']; exact k1
    · simp only [updN, if_neg a1, if_neg a2]; rw [hHo a3]; exact hr.own _ _ _ a3 h2
  · rcases hrt h1 with ⟨_, h, _⟩ | ⟨_, h, _⟩ | ⟨a1, a2, a3⟩
    · cases h
    · cases h
    · simp only [updN, if_neg a1, if_neg a2]; rw [hHo a3]; exact hr.ro _ _ a3
  · rcases hrt h1 with ⟨_, h, _⟩ | ⟨_, h, _⟩ | ⟨a1, a2, a3⟩
    · cases h
    · cases h
    · simp only [updN, if_neg a1, if_neg a2]; exact hr.rold _ _ a3
  · rcases hrt h1 with ⟨_, h, _⟩ | ⟨_, _, rfl⟩ | ⟨a1, a2, a3⟩
    · cases h
    · exact ⟨_, _, rfl⟩
    · exact hr.box _ _ a3
  · rcases hrt h1 with ⟨rfl, rfl, rfl⟩ | ⟨rfl, rfl, rfl⟩ | ⟨a1, a2, a3⟩ <;> rcases hrt h2 with ⟨b1, b2, b3⟩ | ⟨b1, b2, b3⟩ | ⟨b1, b2, b3⟩
    · exact hne2 b1.symm
    · subst b1
      simp only [updN, if_true] at hx
      simp only [updN, if_neg (Ne.symm hdi), if_true] at hy
      rcases hy with ⟨_, hy⟩ | hy
      · exact hy hx
      · exact hy
    · simp only [updN, if_true] at hx
      simp only [updN, if_neg b1, if_neg b2] at hy
      exact hr.dis _ _ _ _ _ _ hi' b3 (Ne.symm b1) (by simp) x y (g6 x y hx) hy
    · subst b1
      simp only [updN, if_true] at hy
      simp only [updN, if_neg (Ne.symm hdi), if_true] at hx
      rcases hx with ⟨_, hx⟩ | hx
      · exact hx hy
      · exact hx
    · exact hne2 b1.symm
    · simp only [updN, if_neg (Ne.symm hdi), if_true] at hx
      simp only [updN, if_neg b1, if_neg b2] at hy
      rcases hx with ⟨hx, _⟩ | hx
      · exact hr.dis _ _ _ _ _ _ hi' b3 hne2 (by simp) x y hx hy
      · exact hx
    · subst b1
      simp only [updN, if_true] at hy
      simp only [updN, if_neg a1, if_neg a2] at hx
      exact hr.dis _ _ _ _ _ _ hi' a3 (Ne.symm a1) (by simp) x y (g6 x y hy) hx
    · subst b1
      simp only [updN, if_neg (Ne.symm hdi), if_true] at hy
      simp only [updN, if_neg a1, if_neg a2] at hx
      rcases hy with ⟨hy, _⟩ | hy
      · exact hr.dis _ _ _ _ _ _ hi' a3 (Ne.symm a1) (by simp) x y hy hx
      · exact hy
    · simp only [updN, if_neg a1, if_neg a2] at hx
      simp only [updN, if_neg b1, if_neg b2] at hy
      exact hr.dis _ _ _ _ _ _ a3 b3 hne2 hm x y hx hy
  · rcases List.mem_cons.1 h with h | h
    · cases h
    rcases List.mem_cons.1 h with h | h
    · cases h
    obtain ⟨x', h1, rfl⟩ := hoistM_sl h
    exact VR.unsOk hleaf (hr.sl t x' h1)
  · rcases List.mem_cons.1 h with h | h
    · cases h
    rcases List.mem_cons.1 h with h | h
    · cases h
      refine ⟨n, _, hri, hc, ⟨b0, o0, none⟩, x0, ?_, g2, ⟨_, _, hrd, trivial, ⟨_, _, _, rfl⟩, by rw [hHd]; rfl⟩⟩
      rw [hHo hi']
      obtain ⟨a0, l0, c0, q1, q2⟩ := adr_some g1
      rw [q1] at g1 ⊢
      rw [← g1]
      simp [adr]
    obtain ⟨x', h1, rfl⟩ := hoistM_al h
    obtain ⟨n3, f3, p1, p2, A3, v3, p3, p4, p5⟩ := hr.al id c1 x' h1
    by_cases e : id = i
    · subst e
      have := (hr.one _ _ _ _ _ hi' p1).2
      cases this
      exact ⟨n, _, hri, p2, A3, v3, by rw [hHo hi']; exact p3, p4, VR.unsOk hleaf p5⟩
    · exact ⟨n3, f3, hro e p1, p2, A3, v3, by rw [hHo p1]; exact p3, p4, VR.unsOk hleaf p5⟩
  · rcases hrt h1 with ⟨rfl, rfl, rfl⟩ | ⟨rfl, rfl, rfl⟩ | ⟨a1, a2, a3⟩
    · simp only [updN, if_true] at hx
      exact hG.1 _ _ _ hi' (by simp) x y (g6 x y hx)
    · simp only [updN, if_neg (Ne.symm hdi), if_true] at hx
      rcases hx with ⟨hx, _⟩ | hx
      · exact hG.1 _ _ _ hi' (by simp) x y hx
      · exact hx.elim
    · simp only [updN, if_neg a1, if_neg a2] at hx
      exact hG.1 _ _ _ a3 h2 x y hx
  · rcases hrt h2 with ⟨rfl, rfl, rfl⟩ | ⟨rfl, rfl, rfl⟩ | ⟨a1, a2, a3⟩
    · omega
    · rw [hHo hi']; exact hG.2 _ _ _ h1 hi'
    · rw [hHo a3]; exact hG.2 _ _ _ h1 a3
end Go.Proofs.Ytimmbmphfgnelaa.VM
