/- Trees of owned cells, states over them, and rules to walk by. No conditions. -/
import Derived.LaidEql
import Derived.Lib.OthersKept
import Derived.Shelf.Slices.Turned
import Derived.Shelf.Strings.Split
import Derived.Shelf.Strings.SplitShaped
import Derived.Test.YtlploojfcmcckaaDoorVmC
set_option linter.all false
namespace Go.Proofs.YtlploojfcmcckaaDoor.VM
open Go Go.RowKit
/-! ### bytes of strings; errors against nil; calls of plain values with one of many outcomes -/
def chr (s : ByteArray) (k : Nat) : UInt8 := s.data.toList.getD k 0
section
variable {P : Program} {N : Nat} {L : List E} {dst : Option Tmp} {ty : TypeId} {pos : String} {af : Array Edge} {g : Option (Nat × Bool)} {d : Nat}
theorem Qt.indexS {t : TypeId} {x i : Operand} {s : ByteArray} {kd : IntKind} {j : Int} (hx : evX L x = .v (.string s)) (hi : evX L i = .v (.int kd j)) (ht : P.underlying t = some .string) (h0 : 0 ≤ j) (h1 : j < s.size) : Qt P ⟨dst, .index t x i, ty, pos, af, g⟩ L (.v (bv (chr s j.toNat))) :=
 (fun H w a he _ => by
  have h2 := he x
  rw [hx] at h2
  simp only [VR] at h2
  have h3 := he i
  rw [hi] at h3
  simp only [VR] at h3
  obtain ⟨k, rfl⟩ := Int.eq_ofNat_of_zero_le h0
  have hk : k < s.data.size := by have : s.size = s.data.size := rfl; omega
  have e : s[k]'hk = chr s k := by
   rw [chr, List.getD_eq_getElem?_getD, List.getElem?_eq_getElem (by simpa using hk)]
   rfl
  have hrun := run_index_string (P := P) (w := w) t s kd (k : Int) ht
  rw [dif_pos ⟨by omega, h1⟩] at hrun
  refine ⟨bv (chr s k), ?_, rfl⟩
  simp only [execOp, h2, h3]
  refine run_v (hrun.trans ?_)
  have e2 : (s[(k : Int).toNat]'(by simpa using hk)) = chr s k := e
  rw [e2])
theorem Qt.neqNilI {ti : TypeId} {ms : Array (String × TypeId)} {x : Operand} {tp : TypeId} {v : Value} (hi : P.underlying ti = some (.interface ms)) (hx : evX L x = .v (.iface tp v)) {tr' : TypeId} : Qt P ⟨dst, .binOp .neq ti x (.const .nilIface) tr', ty, pos, af, g⟩ L (.v (.bool true)) :=
 (fun H w a he _ => by
  have h2 := he x
  rw [hx] at h2
  simp only [VR] at h2
  have h3 : a.eval (.const .nilIface) = .nilIface := rfl
  have h : ∀ d : Nat, (Op.equalIn (d + 1) ti (.iface tp v) .nilIface).run P w = .ok false w := fun d => by simp [Op.equalIn, run_underlying hi]
  refine ⟨.bool true, ?_, rfl⟩
  simp [execOp, h2, h3, eqGuard, Go.binOp, Op.equal, Op.maxDepth, h 9999])
theorem Qt.neqNilN {ti : TypeId} {ms : Array (String × TypeId)} {x : Operand} (hi : P.underlying ti = some (.interface ms)) (hx : evX L x = .v .nilIface) {tr' : TypeId} : Qt P ⟨dst, .binOp .neq ti x (.const .nilIface) tr', ty, pos, af, g⟩ L (.v (.bool false)) :=
 (fun H w a he _ => by
  have h2 := he x
  rw [hx] at h2
  simp only [VR] at h2
  have h3 : a.eval (.const .nilIface) = .nilIface := rfl
  have h : ∀ d : Nat, (Op.equalIn (d + 1) ti .nilIface .nilIface).run P w = .ok true w := fun d => by simp [Op.equalIn, run_underlying hi]
  refine ⟨.bool false, ?_, rfl⟩
  simp [execOp, h2, h3, eqGuard, Go.binOp, Op.equal, Op.maxDepth, h 9999])
/-- does it hold an error -/
def isErr : Value → Bool
 | .nilIface => false
 | _ => true
def errV (v : Value) : Prop := v = .nilIface ∨ ∃ te pe, v = .iface te pe
theorem Qt.neqNil {ti : TypeId} {ms : Array (String × TypeId)} {x : Operand} {v : Value} (hi : P.underlying ti = some (.interface ms)) (hx : evX L x = .v v) (hv : errV v) {tr' : TypeId} : Qt P ⟨dst, .binOp .neq ti x (.const .nilIface) tr', ty, pos, af, g⟩ L (.v (.bool (isErr v))) := by
 rcases hv with rfl | ⟨te, pe, rfl⟩
 ·exact Qt.neqNilN hi hx
 ·exact Qt.neqNilI hi hx
theorem plainV {R R' : RT} {H H' : Nat → Value} {w w' : World} : ∀ {xs : List Value} {vs : List Value}, VRs R H w (xs.map .v) vs → VRs R' H' w' (xs.map .v) vs
 | [], [], h => h
 | [], _ :: _, h => h.elim
 | _ :: _, [], h => h.elim
 | _ :: _, _ :: _, h => ⟨h.1, plainV h.2⟩
theorem StpK.callP {α : Type} {C : α → Prop} {X0 : α → List Value} {f : FuncId} {cal : Operand} {args : Array Operand} {tys : Array TypeId} {xs : List X}
  (hds : dst = some d) (hN : d < N) (hE : Ent P f) (hcal : evX L cal = .f f []) (hargs : args.toList.map (evX L) = xs) (hxs : onlyV xs = true)
  (hcon : Con P f xs [] (fun x _ => ∃ m, C m ∧ x = .t ((X0 m).map .v))) :
  StpK P N ⟨dst, .call { callee := .value cal, args := args, argTypes := tys }, ty, pos, af, g⟩ L (fun L1 => ∃ m, C m ∧ L1 = putL L d (.t ((X0 m).map .v))) := fun cx a w Q hs => by
 obtain ⟨H, G, hr, hG⟩ := hs.rp
 have hcv := ev_ok hr cal
 rw [hcal] at hcv
 obtain ⟨us, hu1, hu2⟩ := hcv
 obtain rfl : us = [] := by cases us with
  | nil => rfl
  | cons _ _ => exact hu2.elim
 unfold Oper.wp
 rw [run_callX hE hu1, List.append_nil]
 have hargsV := evXs_ok hr args.toList
 rw [hargs] at hargsV
 have no : ∀ {β : Prop} {e : E}, e ∈ ([] : List E) → β := fun h => by cases h
 have hrp : Rp [] (fun _ => undef) (fun _ => undef) (fun _ _ _ => False) w := ⟨fun _ _ _ _ _ h => no h, fun _ _ _ h => no h, fun _ _ h => no h, fun _ _ h => no h, fun _ _ h => no h, fun _ _ _ _ _ _ h => no h, fun _ _ h => no h, fun _ _ _ h => no h⟩
 simp only [Oper.upon]
 refine (hcon w _ _ _ (cx.now hs.chg) (fun _ _ _ h => no h) hrp (onlyV_ok hxs hargsV)).mono ?_
 rintro e w' ⟨v, x, L2, H2, G2, val2, rfl, ⟨m, hCm, rfl⟩, k1, k2, k3, k4, k5⟩
 refine ⟨⟨_, rfl⟩, _, ⟨m, hCm, rfl⟩, ?_⟩
 have hC : Chg (fun _ _ => False) w w' := k3.mono fun b o _ hx => by
  obtain ⟨id, m', t, q1, _⟩ := hx
  exact no q1
 have hr' := hr.chg hC fun _ _ _ _ _ _ _ h => h
 obtain ⟨vs, e1, e2⟩ := k2
 refine ⟨by rw [hds]; simpa [Go.Act.put] using hs.siz, by rw [hds]; simpa [Go.Act.put] using hs.dfr, hs.chg.trans (hC.mono fun _ _ _ h => h.elim), H, G, ?_, by rw [rts_put]; exact hG⟩
 rw [hds]
 exact (hr'.put (d := d) (x := .t ((X0 m).map .v)) (v := v) ⟨vs, e1, plainV e2⟩).val fun t => (Act.val_put (Nat.lt_of_lt_of_le hN hs.siz) t).symm
end
end Go.Proofs.YtlploojfcmcckaaDoor.VM
namespace Go.Proofs.YtlploojfcmcckaaDoor.VM
open Go Go.RowKit
/-! ### a cursor beside a row that is only read -/
section
variable {P : Program} {N : Nat} {L : List E} {dst : Option Tmp} {ty : TypeId} {pos : String} {af : Array Edge} {g : Option (Nat × Bool)} {d : Nat}
end
end Go.Proofs.YtlploojfcmcckaaDoor.VM
namespace Go.Proofs.YtlploojfcmcckaaDoor.VM
open Go Go.RowKit
end Go.Proofs.YtlploojfcmcckaaDoor.VM
namespace Go.Proofs.YtlploojfcmcckaaDoor.VM
open Go Go.RowKit
/-! ### range over a string -/
section
variable {w w' : World}
variable {L : List E} {val : Nat → Value} {H : Nat → Value} {G : Nat → FP} {P : Program} {N : Nat} {cx : Cx} {a : Act} {Q : Exit → List E → Prop}
end
section
variable {P : Program} {ops : Array Oper} {N : Nat} {L : List E}
end
end Go.Proofs.YtlploojfcmcckaaDoor.VM
namespace Go.Proofs.YtlploojfcmcckaaDoor.VM
open Go Go.RowKit
section
variable {P : Program} {N : Nat} {L : List E} {Q : Exit → List E → Prop}
end
end Go.Proofs.YtlploojfcmcckaaDoor.VM
namespace Go.Proofs.YtlploojfcmcckaaDoor.VM
open Go Go.RowKit
/-! ### a view of a row becomes a row of its own; a node of a tree becomes a root -/
theorem own_view {w : World} {n l lo l' : Nat} {f : Nat → Nat → T} {F : FP} {hv : Value} (hO : Own w (.s n l f) F hv) (hle : lo + l' ≤ l) {ad : Option Addr} {cap : Nat} (hlc : l' ≤ cap) (hcm : cap ≤ maxLen) (hc : ∃ a0 l0, hv = .slice a0 l0 (lo + cap))
  (ha : ∀ b off l0 c0, hv = .slice (some ⟨b, off, none⟩) l0 c0 → 0 < cap → ad = some ⟨b, off + lo * n, none⟩) : ∃ F', Own w (.s n l' fun k c => f (lo + k) c) F' (.slice ad l' cap) ∧ ∀ x y, F' x y → F x y := by
 obtain ⟨hn, a, cap0, h0, hl, hm, b, off, V, G, h1, h2, h3, h4, h5⟩ := hO
 obtain ⟨a0, l0, e0⟩ := hc
 have e0' := e0
 rw [h0] at e0'
 cases e0'
 refine ⟨fun x y => (0 < cap ∧ blkFP b x y) ∨ ∃ k c, k < l' ∧ c < n ∧ G (lo + k) c x y, ⟨hn, ad, cap, rfl, hlc, hcm, b, off + lo * n, fun k c => V (lo + k) c, fun k c => G (lo + k) c, fun hp => ?_, fun k c hk hc => ?_, fun k c k' c' hne hk hc hk' hc' => h3 _ _ _ _ (by omega) (by omega) hc (by omega) hc', fun k c hk hc => h4 _ _ (by omega) hc, fun x y => Iff.rfl⟩, fun x y h => ?_⟩
 ·obtain ⟨rfl, sz, hk, hs⟩ := h1 (by omega)
  exact ⟨ha b off _ _ h0 hp, sz, hk, by rw [Nat.add_mul] at hs; omega⟩
 ·obtain ⟨e1, e2⟩ := h2 (lo + k) c (by omega) hc
  have he : off + lo * n + (k * n + c) = off + ((lo + k) * n + c) := by rw [Nat.add_mul]; omega
  rw [he]; exact ⟨e1, e2⟩
 ·rcases h with ⟨hp, h⟩ | ⟨k, c, hk, hc, h⟩
  ·exact (h5 x y).2 (.inl ⟨by omega, h⟩)
  ·exact (h5 x y).2 (.inr ⟨lo + k, c, by omega, hc, h⟩)
section
variable {P : Program} {N : Nat} {L : List E} {Q : Exit → List E → Prop}
def truncL (id new : Nat) (t : T) (d : Nat) (L : List E) : List E := putL (.rt new .row t :: delR (.rt id .row .j :: delR L id) new) d (.h new [])
/-- a view of a row of the call's own is from now on a row of its own -/
theorem Weak.trunc (d new : Nat) {id n lo l' l : Nat} {f : Nat → Nat → T} (h : slotL L d = .a id [] n lo l') (hR : rootL L id = some (.row, .s n l f)) (hle : lo + l' ≤ l) (hb : new < base) (hne : Nat.beq new id = false) : Weak N L (truncL id new (.s n l' fun k c => f (lo + k) c) d L) := fun cx a w hs => by
 obtain ⟨H, G, hr, hG⟩ := hs.rp
 have hid := rootL_mem hR
 have hne' : new ≠ id := fun e => by rw [e, Nat.beq_refl] at hne; cases hne
 have h1 := ev_ok hr (.tmp d)
 simp only [evX, h] at h1
 obtain ⟨m', t', g1, g2, _, hv, g4, ad, cap, g5, g6, g7, _, g8, g9⟩ := h1
 obtain ⟨rfl, rfl⟩ := hr.one _ _ _ _ _ g1 hid
 simp only [VM.hd, Option.some.injEq] at g4
 subst g4
 have hO := hr.own id .row _ hid (by simp)
 obtain ⟨F', o1, o2⟩ := own_view hO hle g6 g7 g8 g9
 rw [← g5] at o1
 have r1 := hr.new id (m := .row) (t := .j) (F := fun _ _ => False) (h := H id) (by simp) (own_one hO) (fun h => by cases h) (fun _ _ _ _ _ _ _ _ h => h)
 have hrt : ∀ {i m t}, rts (.rt id .row .j :: delR L id) i m t → (i = id ∧ m = .row ∧ t = .j) ∨ (i ≠ id ∧ rts L i m t) := fun h => by
  rcases List.mem_cons.1 h with h | h
  ·cases h; exact .inl ⟨rfl, rfl, rfl⟩
  ·exact .inr ⟨(rts_delR.1 h).2, (rts_delR.1 h).1⟩
 have r2 := r1.new new (m := .row) (t := .s n l' fun k c => f (lo + k) c) (F := F') (h := a.eval (.tmp d)) (by simp) o1 (fun h => by cases h) (fun i m t _ hi x y hx hy => by
  rcases hrt hi with ⟨rfl, _, _⟩ | ⟨e1, e2⟩
  ·simp only [updN, if_true] at hx
  ·simp only [updN, if_neg e1] at hx
   exact hr.dis _ _ _ _ _ _ hid e2 (Ne.symm e1) (by simp) x y (o2 x y hy) hx)
 have hx : VR (rts (.rt new .row (.s n l' fun k c => f (lo + k) c) :: delR (.rt id .row .j :: delR L id) new)) (updN (updN H id (H id)) new (a.eval (.tmp d))) w (.h new []) (a.eval (.tmp d)) :=
  ⟨.row, _, List.mem_cons_self .., by simp [Okp], ⟨_, _, _, by simp only [T.at]; rfl⟩, by simp [VM.hd, updN]⟩
 refine ⟨hs.siz, hs.dfr, hs.chg, _, _, (r2.put (d := d) hx).val fun t => ?_, ?_, ?_⟩
 ·split
  ·rename_i e; rw [e]; rfl
  ·rfl
 ·unfold truncL
  rw [rts_put]
  intro i m t h1 h2 x y h3
  rcases List.mem_cons.1 h1 with h1 | h1
  ·cases h1
   simp only [updN, if_true] at h3
   exact hG.1 id _ _ hid (by simp) x y (o2 x y h3)
  ·obtain ⟨h1, e1⟩ := rts_delR.1 h1
   simp only [updN, if_neg e1] at h3
   rcases hrt h1 with ⟨rfl, _, _⟩ | ⟨e2, e3⟩
   ·simp only [if_true] at h3
   ·simp only [if_neg e2] at h3
    exact hG.1 i m t e3 h2 x y h3
 ·unfold truncL
  rw [rts_put]
  intro i m t h0 h1
  have e : i ≠ new := by omega
  rcases List.mem_cons.1 h1 with h1 | h1
  ·cases h1; exact absurd rfl e
  ·obtain ⟨h1, _⟩ := rts_delR.1 h1
   simp only [updN, if_neg e]
   rcases hrt h1 with ⟨rfl, _, _⟩ | ⟨e2, e3⟩
   ·simp only [if_true]; exact hG.2 _ _ _ h0 hid
   ·simp only [if_neg e2]; exact hG.2 i m t h0 e3
def pickX : X → Nat → X
 | .g xs, i => xs.getD i .j
 | x, _ => x
def setX : X → Nat → X → X
 | .g xs, i, y => .g (xs.set i y)
 | _, _, y => y
end
end Go.Proofs.YtlploojfcmcckaaDoor.VM
namespace Go.Proofs.YtlploojfcmcckaaDoor.VM
open Go Go.RowKit
/-! ### elements of a row go along with an append of a view of it -/
section
variable {L : List E} {val : Nat → Value} {H : Nat → Value} {G : Nat → FP} {w : World}
end
section
variable {P : Program} {N : Nat} {L : List E} {dst : Option Tmp} {ty : TypeId} {pos : String} {af : Array Edge} {gd : Option (Nat × Bool)} {d : Nat}
end
end Go.Proofs.YtlploojfcmcckaaDoor.VM
namespace Go.Proofs.YtlploojfcmcckaaDoor.VM
open Go Go.RowKit Go.Sort
/-! slices.Delete, slices.Insert at rows of n cells, from their runs; a contract over plain cells, lifted to what the cells own -/
end Go.Proofs.YtlploojfcmcckaaDoor.VM
namespace Go.Proofs.YtlploojfcmcckaaDoor.VM
open Go Go.RowKit
/-! ### copy -/
section
variable {L : List E} {val : Nat → Value} {H : Nat → Value} {G : Nat → FP} {w w' : World}
end
section
variable {P : Program} {w : World}
end
end Go.Proofs.YtlploojfcmcckaaDoor.VM
namespace Go.Proofs.YtlploojfcmcckaaDoor.VM
open Go Go.RowKit
section
variable {P : Program} {N : Nat} {L : List E} {dst : Option Tmp} {ty : TypeId} {pos : String} {af : Array Edge} {gd : Option (Nat × Bool)} {d : Nat}
end
end Go.Proofs.YtlploojfcmcckaaDoor.VM
namespace Go.Proofs.YtlploojfcmcckaaDoor.VM
open Go Go.RowKit
/-! ### an element's cells turn one by one -/
def mixF (old : Nat → Nat → T) (new : Nat → T) (k m : Nat) : Nat → Nat → T := fun k' c' => if k' = k ∧ c' < m then new c' else old k' c'
section
variable {old : Nat → Nat → T} {new : Nat → T} {k m n len : Nat}
theorem mixF_at {c : Nat} : mixF old new k m k c = if c < m then new c else old k c := by simp [mixF]
end
/-- rows, those below k as g says, the others as h says -/
def oldF {α : Type} [En α] (g h : Nat → α) (k : Nat) : Nat → Nat → T := fun j c => (En.cs (if j < k then g j else h j)).getD c .j
section
variable {α : Type} [En α] {g h : Nat → α} {k len : Nat}
theorem oldF_at {c : Nat} : oldF g h k k c = (En.cs (h k)).getD c .j := by simp [oldF]
end
theorem isS_j : T.isS .j = false := rfl
attribute [go_sem] mixF_at oldF_at keepN isS_j Bool.not_false Bool.not_true
end Go.Proofs.YtlploojfcmcckaaDoor.VM
set_option linter.all false
namespace Go.Proofs.YtlploojfcmcckaaDoor.VM
open Go Go.RowKit Go.Sort
/-! clear at rows of k cells -/
end Go.Proofs.YtlploojfcmcckaaDoor.VM
set_option linter.all false
namespace Go.Proofs.YtlploojfcmcckaaDoor.VM
open Go Go.RowKit Go.Sort
/-! slices.Insert at numbers, from its run -/
end Go.Proofs.YtlploojfcmcckaaDoor.VM
set_option linter.all false
namespace Go.Proofs.YtlploojfcmcckaaDoor.VM
open Go Go.RowKit
section
variable {N : Nat} {L : List E}
end
end Go.Proofs.YtlploojfcmcckaaDoor.VM
set_option linter.all false
namespace Go.Proofs.YtlploojfcmcckaaDoor.VM
open Go Go.RowKit
section
variable {N : Nat} {L : List E}
end
theorem flatT_v (x : Go.Value) : flatT (.v x) = .v x := rfl
theorem flatT_tr {α : Type} [En α] (l : List α) : flatT (tr l) = .j := rfl
attribute [go_sem] flatT_v flatT_tr setX List.set_cons_zero List.set_cons_succ
end Go.Proofs.YtlploojfcmcckaaDoor.VM
set_option linter.all false
namespace Go.Proofs.YtlploojfcmcckaaDoor.VM
open Go Go.RowKit
section
variable {P : Program} {L : List E} {dst : Option Tmp} {ty : TypeId} {pos : String} {af : Array Edge} {g : Option (Nat × Bool)}
end
def selX : Path → Nat → X → X
 | [], 0, x => (match x with | .j => .c | x => x)
 | _, _, _ => .c
theorem cellX_ji (L : List E) (id : Nat) (q : Path) (n k c : Nat) : cellX L id q n k c .j = selX q k (aliasL L id c) := by
 cases q with
 | nil => cases k <;> rfl
 | cons a q => rfl
theorem selX_j (q : Path) (k : Nat) : selX q k .j = .c := by
 cases q with
 | nil => cases k <;> rfl
 | cons a q => rfl
theorem selX_h (i : Nat) (p : Path) : selX [] 0 (.h i p) = .h i p := rfl
theorem selX_p (i : Nat) (p : Path) (n k c : Nat) : selX [] 0 (.p i p n k c) = .p i p n k c := rfl
theorem selX_a (i : Nat) (p : Path) (n k c : Nat) : selX [] 0 (.a i p n k c) = .a i p n k c := rfl
theorem selX_v (v : Go.Value) : selX [] 0 (.v v) = .v v := rfl
theorem selX_c : selX [] 0 .c = .c := rfl
attribute [go_sem] cellX_ji selX_j selX_h selX_p selX_a selX_v selX_c
end Go.Proofs.YtlploojfcmcckaaDoor.VM
set_option linter.all false
namespace Go.Proofs.YtlploojfcmcckaaDoor.VM
open Go Go.RowKit
/-! short words for the printed walks -/
section
variable {P : Program} {N : Nat} {L L' : List E} {Q : Exit → List E → Prop} {ops : Array Oper} {rest : List Oper} {o : Oper} {qs pend todo : List Nat} {S : Array Bool} {d : Nat} {gb : Bool} {dst : Option Tmp} {x y : Operand} {t t2 ty : TypeId} {pos : String} {af : Array Edge} {g : Option (Nat × Bool)}
theorem sr {id : Nat} {l : List Oper} {c : Code} (h : AWL P N l.toArray l (thenQ (AW P N c Q) Q) L) : AW P N (.seq (.region id l.toArray false) c) Q L := AW.seq (AW.region h)
theorem sr2 {id : Nat} {l : List Oper} {c c2 : Code} (h : AWL P N l.toArray l (thenQ (AW P N c (thenQ (AW P N c2 Q) Q)) (thenQ (AW P N c2 Q) Q)) L) : AW P N (.seq (.seq (.region id l.toArray false) c) c2) Q L := AW.seq (AW.seq (AW.region h))
theorem qm (k : AWL P N ops rest Q (putL L d (evX L x))) (hw : wantL ops L ⟨dst, .move x, ty, pos, af, g⟩ = some gb := by exact rfl) (hgb : gb = true := by exact rfl) (hd : dst = some d := by exact rfl) (hN : d < N := by decide) : AWL P N ops (⟨dst, .move x, ty, pos, af, g⟩ :: rest) Q L := qq Qt.move k hw hgb hd hN
theorem qa (k : AWL P N ops rest Q (putL L d (evX L x))) (hw : wantL ops L ⟨dst, .assign x, ty, pos, af, g⟩ = some gb := by exact rfl) (hgb : gb = true := by exact rfl) (hd : dst = some d := by exact rfl) (hN : d < N := by decide) : AWL P N ops (⟨dst, .assign x, ty, pos, af, g⟩ :: rest) Q L := qq Qt.assign k hw hgb hd hN
theorem ql {id : Nat} {q : Path} {n k c len : Nat} {f : Nat → Nat → T} {m : M} {T0 : T} (hA : Ag P t false) (kk : AWL P N ops rest Q (putL L d (cellX L id q n k c (f k c)))) (hx : evX L x = .p id q n k c := by exact rfl) (hR : rootL L id = some (m, T0) := by exact rfl) (hT : T0.at q = .s n len f := by exact rfl) (hw : wantL ops L ⟨dst, .load t x, ty, pos, af, g⟩ = some gb := by exact rfl) (hgb : gb = true := by exact rfl) (hd : dst = some d := by exact rfl) (hN : d < N := by decide) : AWL P N ops (⟨dst, .load t x, ty, pos, af, g⟩ :: rest) Q L := qq (Qt.load1 hx hR hT hA) kk hw hgb hd hN
theorem qb {op : BinOp} {u v r : Value} (k : AWL P N ops rest Q (putL L d (.v r))) (hx : evX L x = .v u := by exact rfl) (hy : evX L y = .v v := by exact rfl) (hr : pureBin op u v = some r := by exact rfl) (hw : wantL ops L ⟨dst, .binOp op t x y t2, ty, pos, af, g⟩ = some gb := by exact rfl) (hgb : gb = true := by exact rfl) (hd : dst = some d := by exact rfl) (hN : d < N := by decide) : AWL P N ops (⟨dst, .binOp op t x y t2, ty, pos, af, g⟩ :: rest) Q L := qq (Qt.binOp hx hy hr) k hw hgb hd hN
theorem ba {op : BinOp} {u v r : Value} (k : AWL P N ops rest Q (putL L d (.v r))) (hx : evX L x = .v u := by exact rfl) (hy : evX L y = .v v := by exact rfl) (hr : pureBin op u v = some r := by first | exact pbAdd (by omega) | rfl) (hw : wantL ops L ⟨dst, .binOp op t x y t2, ty, pos, af, g⟩ = some gb := by exact rfl) (hgb : gb = true := by exact rfl) (hd : dst = some d := by exact rfl) (hN : d < N := by decide) : AWL P N ops (⟨dst, .binOp op t x y t2, ty, pos, af, g⟩ :: rest) Q L := qq (Qt.binOp hx hy hr) k hw hgb hd hN
theorem rt1 (s : Nat) {fn : Func} {post : X → List E → Prop} (hp : post (retX [slotL L s]) L) (hQ : endQ P fn post .ret L → Q .ret L := by exact fun hq => hq) (hr : fn.results.toList = [.tmp s] := by exact rfl) : AW P N .ret Q L := AW.ret (hQ (endQ_ret (by rw [hr]; exact .cons (.tmp s) .nil) hp))
theorem ae {i : Nat} {X0 : X} (ho : ops[i]? = some o) (h : Qt P o L X0) (k : AWA P N ops qs Q S pend todo (putL L d X0)) (hd : o.dst = some d := by exact rfl) (hp : pend.all (fun k => todo.contains k || k == i || !waits ops k i) = true := by decide +kernel) (hw : wantL ops L o = some gb := by exact rfl) (hgb : gb = true := by exact rfl) (hx : slotL L d = X0 := by exact rfl) : AWA P N ops qs Q S pend (i :: todo) L := AWA.againE ho hd hp (.on hw hgb h) hx k
theorem bx {zt : List T} [hT : TyI P t zt] (k : AWL P N ops rest Q (alsOf (idsL (delR L d)) d (srcs [] zt (evX L x).leaves) (evX L x).leaves 0 ++ putL (.rt d .box (rowT zt.length 1 (srcs [] zt (evX L x).leaves)) :: delR L d) d (.p d [] zt.length 0 0))) (hd : dst = some d := by exact rfl) (hN : d < N := by decide) (hb : d < base := by decide) (hx : (evX L x).flat = true := by exact rfl) (hl : (evX L x).leaves.length = zt.length := by exact rfl) (hz : zpos zt = true := by exact rfl) (ho : (evX L x).leaves.all X.one = true := by exact rfl) (hw : wantL ops L ⟨dst, .box t x, ty, pos, af, g⟩ = some gb := by exact rfl) (hgb : gb = true := by exact rfl) : AWL P N ops (⟨dst, .box t x, ty, pos, af, g⟩ :: rest) Q L := sp (Stp.boxB hd hN hb hx hl hz ho) k hw hgb
theorem qh {e : TypeId} {id : Nat} {q : Path} {n len : Nat} {f : Nat → Nat → T} {m : M} {T0 : T} {tt : TypeId} (hS : Sl P tt e) (k : AWL P N ops rest Q (putL L d (.v (iv len)))) (hx : evX L x = .h id q := by exact rfl) (hR : rootL L id = some (m, T0) := by exact rfl) (hT : T0.at q = .s n len f := by exact rfl) (hw : wantL ops L ⟨dst, .call { callee := .builtin .len, args := #[x], argTypes := #[tt] }, ty, pos, af, g⟩ = some gb := by exact rfl) (hgb : gb = true := by exact rfl) (hd : dst = some d := by exact rfl) (hN : d < N := by decide) : AWL P N ops (⟨dst, .call { callee := .builtin .len, args := #[x], argTypes := #[tt] }, ty, pos, af, g⟩ :: rest) Q L := qq (Qt.lenH hx hR hT hS) k hw hgb hd hN
theorem ix {e : TypeId} {id : Nat} {q : Path} {n len : Nat} {f : Nat → Nat → T} {kd : IntKind} {j : Int} {m : M} {T0 : T} (hS : Sl P t e) (hZ : Sz P e n) (hx : evX L x = .h id q := by exact rfl) (hR : rootL L id = some (m, T0) := by exact rfl) (hT : T0.at q = .s n len f := by exact rfl) (hi : evX L y = .v (.int kd j) := by exact rfl) (hn : 0 < n := by decide) (hj : 0 ≤ j ∧ j < len := by first | omega | grind only) : Qt P ⟨dst, .indexAddr t x y, ty, pos, af, g⟩ L (.p id q n j.toNat 0) := Qt.indexAddr hx hR hT hi hS hZ hn hj
theorem qG {id : Nat} {q : Path} {n k c len : Nat} {f : Nat → Nat → T} {sz : Nat} {m : M} {T0 : T} (hA : Ag P t true) (hZ : Sz P t sz) (kk : AWL P N ops rest Q (putL L d (.g (cellsX L id q n k c f sz)))) (hx : evX L x = .p id q n k c := by exact rfl) (hR : rootL L id = some (m, T0) := by exact rfl) (hT : T0.at q = .s n len f := by exact rfl) (hc : c + sz ≤ n := by decide) (hw : wantL ops L ⟨dst, .load t x, ty, pos, af, g⟩ = some gb := by exact rfl) (hgb : gb = true := by exact rfl) (hd : dst = some d := by exact rfl) (hN : d < N := by decide) : AWL P N ops (⟨dst, .load t x, ty, pos, af, g⟩ :: rest) Q L := qq (Qt.loadG hx hR hT hA hZ hc) kk hw hgb hd hN
theorem ns {R : Exit → List E → Prop} {id : Nat} {l : List Oper} {c : Code} (k : AWL P N l.toArray l (thenQ (AW P N c Q) Q) L') (h : L = L' := by simp only [go_sem, Int.reduceToNat, Nat.reduceLT, reduceIte, Nat.reduceEqDiff, Nat.reduceAdd, Nat.reduceMul, Nat.reduceBEq, reduceCtorEq]; rfl) (hR : AW P N (.seq (.region id l.toArray false) c) Q L' → R .normal L' := by exact fun hq => hq) : AWL P N ops [] R L := nl (hR (sr k)) h
theorem qn (k : Q .normal L') (hw : wantL ops L ⟨dst, .assign x, ty, pos, af, g⟩ = some gb := by exact rfl) (hgb : gb = true := by exact rfl) (hd : dst = some d := by exact rfl) (hN : d < N := by decide) (h : putL L d (evX L x) = L' := by simp only [go_sem, Int.reduceToNat, Nat.reduceLT, reduceIte, Nat.reduceEqDiff, Nat.reduceAdd, Nat.reduceMul, Nat.reduceBEq, reduceCtorEq]; rfl) : AWL P N ops [⟨dst, .assign x, ty, pos, af, g⟩] Q L := qa (nl k h) hw hgb hd hN
theorem qs' {R : Exit → List E → Prop} {id : Nat} {l : List Oper} {c : Code} (k : AWL P N l.toArray l (thenQ (AW P N c Q) Q) L') (hw : wantL ops L ⟨dst, .assign x, ty, pos, af, g⟩ = some gb := by exact rfl) (hgb : gb = true := by exact rfl) (hd : dst = some d := by exact rfl) (hN : d < N := by decide) (h : putL L d (evX L x) = L' := by simp only [go_sem, Int.reduceToNat, Nat.reduceLT, reduceIte, Nat.reduceEqDiff, Nat.reduceAdd, Nat.reduceMul, Nat.reduceBEq, reduceCtorEq]; rfl) (hR : AW P N (.seq (.region id l.toArray false) c) Q L' → R .normal L' := by exact fun hq => hq) : AWL P N ops [⟨dst, .assign x, ty, pos, af, g⟩] R L := qa (nl (hR (sr k)) h) hw hgb hd hN
theorem sA {zt : List T} [hT : TyI P t zt] (hd : dst = some d := by exact rfl) (hN : d < N := by decide) (hb : d < base := by decide) : Stp P N ⟨dst, .alloc t, ty, pos, af, g⟩ L (putL (.rt d .box (zbox zt) :: delR L d) d (.p d [] zt.length 0 0)) := Stp.alloc hd hN hb
theorem sS {e : TypeId} {len : Nat} {parts : Array (Nat × Operand)} {zt : List T} [hS : SlI P t e] [hT : TyI P e zt] {ys : List X} (hd : dst = some d := by exact rfl) (hN : d < N := by decide) (hb : d < base := by decide) (hf : fillX (fun i => some (i * zt.length, zt.length)) ((reps zt len).map T.toX) (evParts L parts) = some ys := by exact rfl) (hsm : len * zt.length ≤ 2 ^ 24 := by decide) (hyl : ys.length = len * zt.length := by exact rfl) (hz : zpos (reps zt len) = true := by exact rfl) (ho : ys.all X.one = true := by exact rfl) (hnd : (movedOf (srcs L (reps zt len) ys)).Nodup := by exact nodup_of rfl) : Stp P N ⟨dst, .buildSlice t len parts, ty, pos, af, g⟩ L (putL (.rt d .row (rowT zt.length len (srcs L (reps zt len) ys)) :: delR (delRs L (movedOf (srcs L (reps zt len) ys))) d) d (.h d [])) := Stp.buildSlice hd hN hb hf hsm hyl hz ho hnd
theorem cd {c : Operand} {c1 c2 : Code} {b : Bool} (ht : b = true → AW P N c1 Q L) (hf : b = false → AW P N c2 Q L) (hc : evX L c = .v (.bool b) := by exact rfl) : AW P N (.cond c c1 c2) Q L := AW.cond hc ht hf
theorem qr {R : Exit → List E → Prop} (s : Nat) {fn : Func} {post : X → List E → Prop} (hp : post (retX [slotL L' s]) L') (hw : wantL ops L ⟨dst, .assign x, ty, pos, af, g⟩ = some gb := by exact rfl) (hgb : gb = true := by exact rfl) (hd : dst = some d := by exact rfl) (hN : d < N := by decide) (h : putL L d (evX L x) = L' := by simp only [go_sem, Int.reduceToNat, Nat.reduceLT, reduceIte, Nat.reduceEqDiff, Nat.reduceAdd, Nat.reduceMul, Nat.reduceBEq, reduceCtorEq]; rfl) (hR : AW P N .ret Q L' → R .normal L' := by exact fun hq => hq) (hQ : endQ P fn post .ret L' → Q .ret L' := by exact fun hq => hq) (hr : fn.results.toList = [.tmp s] := by exact rfl) : AWL P N ops [⟨dst, .assign x, ty, pos, af, g⟩] R L := qn (hR (rt1 s hp hQ hr)) hw hgb hd hN h
theorem nc {R : Exit → List E → Prop} {c : Operand} {c1 c2 : Code} {b : Bool} (ht : b = true → AW P N c1 Q L') (hf : b = false → AW P N c2 Q L') (h : L = L' := by simp only [go_sem, Int.reduceToNat, Nat.reduceLT, reduceIte, Nat.reduceEqDiff, Nat.reduceAdd, Nat.reduceMul, Nat.reduceBEq, reduceCtorEq]; rfl) (hR : AW P N (.cond c c1 c2) Q L' → R .normal L' := by exact fun hq => hq) (hc : evX L' c = .v (.bool b) := by exact rfl) : AWL P N ops [] R L := nl (hR (cd ht hf hc)) h
theorem mn (k : AWL P N ops rest Q L') (hw : wantL ops L ⟨dst, .move x, ty, pos, af, g⟩ = some gb := by exact rfl) (hgb : gb = true := by exact rfl) (hd : dst = some d := by exact rfl) (hN : d < N := by decide) (h : putL L d (evX L x) = L' := by simp only [go_sem, Int.reduceToNat, Nat.reduceLT, reduceIte, Nat.reduceEqDiff, Nat.reduceAdd, Nat.reduceMul, Nat.reduceBEq, reduceCtorEq]; rfl) : AWL P N ops (⟨dst, .move x, ty, pos, af, g⟩ :: rest) Q L := qm (nm k h) hw hgb hd hN
end
theorem ob {P : Program} {f : FuncId} {fn : Func} {c : Code} {xs : List X} {ρ : List E} {post : X → List E → Prop} {n : Nat} (hf : P.funcs[f]? = some fn) (hn : fn.ntmps = n) (h : AW P n c (endQ P fn post) (slotsOf 0 xs ++ ρ)) (hb : fn.body = some c := by exact rfl) (hρ : ∀ t x, E.sl t x ∉ ρ := by simp) : Con P f xs ρ post := Con.of_body hf hb hρ (by rw [hn]; exact h)
end Go.Proofs.YtlploojfcmcckaaDoor.VM
set_option linter.all false
namespace Go.Proofs.YtlploojfcmcckaaDoor.VM
open Go Go.RowKit
/-! walking by itself: a row of letters names the rules -/
class AgI (P : Program) (t : TypeId) (b : outParam Bool) : Prop where
 ok : Ag P t b
class SzI (P : Program) (t : TypeId) (n : outParam Nat) : Prop where
 ok : Sz P t n
class FlI (P : Program) (t : TypeId) (i : Nat) (off : outParam Nat) : Prop where
 ok : Fld P t i off
class BoI (P : Program) (t : TypeId) : Prop where
 ok : P.underlying t = some .bool
class StI (P : Program) (t : TypeId) : Prop where
 ok : P.underlying t = some .string
/-- the letters -/
inductive K
 | m | a | f | l | p | i | b | h | G | e | u | n | q | k | c
 | A | B | S | s
 | N | Z | R | R2 | R1 | J | D (qs : List Nat) | t (i : Nat) | o (i : Nat) (pend' : List Nat) | O (i : Nat) (pend' D : List Nat) | g | x
structure GL (ks : List K) (P : Program) (N : Nat) (ops : Array Oper) (rest : List Oper) (Q : Exit → List E → Prop) (L : List E) where
 G : Prop
 f : G → AWL P N ops rest Q L
structure GW (ks : List K) (P : Program) (N : Nat) (c : Code) (Q : Exit → List E → Prop) (L : List E) where
 G : Prop
 f : G → AW P N c Q L
structure GA (ks : List K) (P : Program) (N : Nat) (ops : Array Oper) (qs : List Nat) (Q : Exit → List E → Prop) (S : Array Bool) (pend todo : List Nat) (L : List E) where
 G : Prop
 f : G → AWA P N ops qs Q S pend todo L
structure GP (ks : List K) (A : Prop) where
 G : Prop
 f : G → A
structure QK (k : K) (P : Program) (o : Oper) (L : List E) (x : X) : Prop where
 h : Qt P o L x
structure SK (k : K) (P : Program) (N : Nat) (o : Oper) (L L' : List E) : Prop where
 h : Stp P N o L L'
section
variable {P : Program} {N : Nat} {L L' : List E} {Q : Exit → List E → Prop} {ops : Array Oper} {rest : List Oper} {o : Oper} {d : Nat} {gb : Bool} {x : X} {c : Code} {A : Prop} {qs pend todo : List Nat} {S : Array Bool} {κ : K} {ks : List K}
@[reducible] def zL : GL [] P N ops rest Q L := ⟨_, fun h => h⟩
@[reducible] def zW : GW [] P N c Q L := ⟨_, fun h => h⟩
@[reducible] def zA : GA [] P N ops qs Q S pend todo L := ⟨_, fun h => h⟩
@[reducible] def zP : GP [] A := ⟨_, fun h => h⟩
@[reducible] def pL (k : GL ks P N ops rest Q L) : GP ks (AWL P N ops rest Q L) := ⟨k.G, k.f⟩
@[reducible] def pW (k : GW ks P N c Q L) : GP ks (AW P N c Q L) := ⟨k.G, k.f⟩
@[reducible] def pA (k : GA ks P N ops qs Q S pend todo L) : GP ks (AWA P N ops qs Q S pend todo L) := ⟨k.G, k.f⟩
@[reducible] def qF (h : QK κ P o L x) (k : GL ks P N ops rest Q (putL L d x)) (hw : wantL ops L o = some gb := by exact rfl) (hgb : gb = true := by first | exact rfl | exact nT (by assumption) | exact nF (by assumption) | assumption) (hd : o.dst = some d := by exact rfl) (hN : d < N := by decide) : GL (κ :: ks) P N ops (o :: rest) Q L := ⟨k.G, fun g => qg hgb h.h (k.f g) hw hd hN⟩
@[reducible] def xF (k : GL ks P N ops rest Q (putL L d (.v undef))) (hw : wantL ops L o = some gb := by exact rfl) (hgb : gb = false := by first | exact rfl | exact nT (by assumption) | exact nF (by assumption) | assumption) (hd : o.dst = some d := by exact rfl) (hN : d < N := by decide) : GL (.x :: ks) P N ops (o :: rest) Q L := ⟨k.G, fun g => og hgb (k.f g) hw hd hN⟩
@[reducible] def sF (h : SK κ P N o L L') (k : GL ks P N ops rest Q L') (hw : wantL ops L o = some gb := by exact rfl) (hgb : gb = true := by exact rfl) : GL (κ :: ks) P N ops (o :: rest) Q L := ⟨k.G, fun g => sp h.h (k.f g) hw hgb⟩
@[reducible] def nFx (k : GL ks P N ops rest Q L') (h : L = L' := by simp only [go_sem, Int.reduceToNat, Nat.reduceLT, reduceIte, Nat.reduceEqDiff, Nat.reduceAdd, Nat.reduceMul, Nat.reduceBEq, reduceCtorEq]; rfl) : GL (.N :: ks) P N ops rest Q L := ⟨k.G, fun g => nm (k.f g) h⟩
@[reducible] def nFa (k : GA ks P N ops qs Q S pend todo L') (h : L = L' := by first | (simp only [go_sem, Int.reduceToNat, Nat.reduceLT, reduceIte, Nat.reduceEqDiff, Nat.reduceAdd, Nat.reduceMul, Nat.reduceBEq, reduceCtorEq]; rfl) | rfl) : GA (.N :: ks) P N ops qs Q S pend todo L := ⟨k.G, fun g => na (k.f g) h⟩
@[reducible] def lF (k : GP ks (Q .normal L')) (h : L = L' := by first | (simp only [go_sem, Int.reduceToNat, Nat.reduceLT, reduceIte, Nat.reduceEqDiff, Nat.reduceAdd, Nat.reduceMul, Nat.reduceBEq, reduceCtorEq]; rfl) | rfl) : GL (.Z :: ks) P N ops [] Q L := ⟨k.G, fun g => nl (k.f g) h⟩
@[reducible] def rF {id : Nat} {l : List Oper} {c : Code} (k : GL ks P N l.toArray l (thenQ (AW P N c Q) Q) L) : GW (.R :: ks) P N (.seq (.region id l.toArray false) c) Q L := ⟨k.G, fun g => sr (k.f g)⟩
@[reducible] def rF1 {id : Nat} {l : List Oper} (k : GL ks P N l.toArray l Q L) : GW (.R1 :: ks) P N (.region id l.toArray false) Q L := ⟨k.G, fun g => AW.region (k.f g)⟩
@[reducible] def rF2 {id : Nat} {l : List Oper} {c c2 : Code} (k : GL ks P N l.toArray l (thenQ (AW P N c (thenQ (AW P N c2 Q) Q)) (thenQ (AW P N c2 Q) Q)) L) : GW (.R2 :: ks) P N (.seq (.seq (.region id l.toArray false) c) c2) Q L := ⟨k.G, fun g => sr2 (k.f g)⟩
@[reducible] def jF (k : GP ks (Q .normal L)) : GW (.J :: ks) P N .skip Q L := ⟨k.G, fun g => jd (k.f g)⟩
@[reducible] def dF {qs : List Nat} {id : Nat} (k : GA ks P N ops qs Q (Array.replicate ops.size false) [] [] L) (hm : P.follows .mixedOrders = true := by exact rfl) (hq : quietB ops N qs = true := by decide +kernel) : GW (.D qs :: ks) P N (.region id ops true) Q L := ⟨k.G, fun g => AW.draw qs hm hq (k.f g)⟩
@[reducible] def tF {i : Nat} (ho : ops[i]? = some o) (h : QK κ P o L x) (k : GA ks P N ops qs Q (S.setIfInBounds i true) (i :: pend) [] (putL L d x)) (hd : o.dst = some d := by exact rfl) (hq' : qs.contains i = true := by exact rfl) (hr : (Region.ready .any ops S).contains i = true := by decide +kernel) (hw : wantL ops L o = some gb := by exact rfl) (hgb : gb = true := by first | exact rfl | exact nT (by assumption) | exact nF (by assumption) | assumption) : GA (.t i :: κ :: ks) P N ops qs Q S pend [] L := ⟨k.G, fun g => tg i ho hgb h.h (k.f g) hd hq' hr hw⟩
@[reducible] def tX {i : Nat} (ho : ops[i]? = some o) (k : GA ks P N ops qs Q (S.setIfInBounds i true) (i :: pend) [] (putL L d (.v undef))) (hd : o.dst = some d := by exact rfl) (hq' : qs.contains i = true := by exact rfl) (hr : (Region.ready .any ops S).contains i = true := by decide +kernel) (hw : wantL ops L o = some gb := by exact rfl) (hgb : gb = false := by first | exact rfl | exact nT (by assumption) | exact nF (by assumption) | assumption) : GA (.t i :: .x :: ks) P N ops qs Q S pend [] L := ⟨k.G, fun g => tf i hgb (k.f g) ho hd hq' hr hw⟩
@[reducible] def oF {j : Nat} {pend' : List Nat} (ho : ops[j]? = some o) (h : SK κ P N o L L') (k : GA ks P N ops qs Q (S.setIfInBounds j true) pend' pend' L') (hw : wantL ops L o = some gb := by exact rfl) (hgb : gb = true := by first | exact rfl | exact nT (by assumption) | exact nF (by assumption) | assumption) (hr : Region.ready .any ops S = [j] := by decide +kernel)
    (hD : chainB ops [j] (pend.filter fun i => !pend'.contains i) = true := by decide +kernel) (hp : (pend.all fun i => pend'.contains i || (pend.filter fun i => !pend'.contains i).contains i) = true := by decide +kernel) (hp' : (pend'.all fun i => pend.contains i) = true := by decide +kernel) : GA (.o j pend' :: κ :: ks) P N ops qs Q S pend [] L := ⟨k.G, fun g => a1 j pend' _ ho hgb h.h (k.f g) hr hw hD hp hp'⟩
@[reducible] def OF {j : Nat} {pend' D : List Nat} (ho : ops[j]? = some o) (h : SK κ P N o L L') (k : GA ks P N ops qs Q (S.setIfInBounds j true) pend' pend' L') (hw : wantL ops L o = some gb := by exact rfl) (hgb : gb = true := by first | exact rfl | exact nT (by assumption) | exact nF (by assumption) | assumption) (hr : Region.ready .any ops S = [j] := by decide +kernel)
  (hD : chainB ops [j] D = true := by decide +kernel) (hp : (pend.all fun i => pend'.contains i || D.contains i) = true := by decide +kernel) (hp' : (pend'.all fun i => pend.contains i) = true := by decide +kernel) : GA (.O j pend' D :: κ :: ks) P N ops qs Q S pend [] L := ⟨k.G, fun g => a1 j pend' D ho hgb h.h (k.f g) hr hw hD hp hp'⟩
@[reducible] def oX {j : Nat} {pend' : List Nat} (ho : ops[j]? = some o) (k : GA ks P N ops qs Q (S.setIfInBounds j true) pend' pend' (putL L d (.v undef))) (hw : wantL ops L o = some gb := by exact rfl) (hgb : gb = false := by first | exact rfl | exact nT (by assumption) | exact nF (by assumption) | assumption) (hd : o.dst = some d := by exact rfl) (hN : d < N := by decide) (hr : Region.ready .any ops S = [j] := by decide +kernel)
    (hD : chainB ops [j] (pend.filter fun i => !pend'.contains i) = true := by decide +kernel) (hp : (pend.all fun i => pend'.contains i || (pend.filter fun i => !pend'.contains i).contains i) = true := by decide +kernel) (hp' : (pend'.all fun i => pend.contains i) = true := by decide +kernel) : GA (.o j pend' :: .x :: ks) P N ops qs Q S pend [] L := ⟨k.G, fun g => o1 j pend' _ ho hgb (k.f g) hr hw hD hp hp' hd hN⟩
@[reducible] def OX {j : Nat} {pend' D : List Nat} (ho : ops[j]? = some o) (k : GA ks P N ops qs Q (S.setIfInBounds j true) pend' pend' (putL L d (.v undef))) (hw : wantL ops L o = some gb := by exact rfl) (hgb : gb = false := by first | exact rfl | exact nT (by assumption) | exact nF (by assumption) | assumption) (hd : o.dst = some d := by exact rfl) (hN : d < N := by decide) (hr : Region.ready .any ops S = [j] := by decide +kernel)
  (hD : chainB ops [j] D = true := by decide +kernel) (hp : (pend.all fun i => pend'.contains i || D.contains i) = true := by decide +kernel) (hp' : (pend'.all fun i => pend.contains i) = true := by decide +kernel) : GA (.O j pend' D :: .x :: ks) P N ops qs Q S pend [] L := ⟨k.G, fun g => o1 j pend' D ho hgb (k.f g) hr hw hD hp hp' hd hN⟩
@[reducible] def gF {i : Nat} (ho : ops[i]? = some o) (h : QK κ P o L x) (k : GA ks P N ops qs Q S pend todo (putL L d x)) (hd : o.dst = some d := by exact rfl) (hp : pend.all (fun k => todo.contains k || k == i || !waits ops k i) = true := by decide +kernel) (hw : wantL ops L o = some gb := by exact rfl) (hgb : gb = true := by first | exact rfl | exact nT (by assumption) | exact nF (by assumption) | assumption) (hx : slotL L d = x := by exact rfl) : GA (.g :: κ :: ks) P N ops qs Q S pend (i :: todo) L := ⟨k.G, fun g => AWA.againE ho hd hp (.on hw hgb h.h) hx (k.f g)⟩
@[reducible] def gX {i : Nat} (ho : ops[i]? = some o) (k : GA ks P N ops qs Q S pend todo (putL L d (.v undef))) (hd : o.dst = some d := by exact rfl) (hp : pend.all (fun k => todo.contains k || k == i || !waits ops k i) = true := by decide +kernel) (hw : wantL ops L o = some gb := by exact rfl) (hgb : gb = false := by first | exact rfl | exact nT (by assumption) | exact nF (by assumption) | assumption) (hx : slotL L d = .v undef := by exact rfl) : GA (.g :: .x :: ks) P N ops qs Q S pend (i :: todo) L := ⟨k.G, fun g => AWA.againE ho hd hp (.off hw hgb) hx (k.f g)⟩
@[reducible] def zF (k : GP ks (Q .normal L')) (hr : Region.ready .any ops S = [] := by decide +kernel) (h : L = L' := by first | (simp only [go_sem, Int.reduceToNat, Nat.reduceLT, reduceIte, Nat.reduceEqDiff, Nat.reduceAdd, Nat.reduceMul, Nat.reduceBEq, reduceCtorEq]; rfl) | rfl) : GA (.Z :: ks) P N ops qs Q S pend [] L := ⟨k.G, fun g => nz (k.f g) hr h⟩
end
theorem ws {N : Nat} {L L' : List E} (h : hasS L L' := by repeat (first | exact trivial | refine ⟨(by first | exact ⟨rfl, rfl⟩ | exact Rf rfl | rfl | exact st1), ?_⟩)) (hc : closedB (idsL L') L' = true := by exact rfl) (hu : nodupB (idsL L') = true := by exact rfl) : Weak N L L' := Weak.sim h hc hu
theorem kQ (κ : K) {P : Program} {o : Oper} {L : List E} {x : X} (h : Qt P o L x) : QK κ P o L x := ⟨h⟩
theorem kS (κ : K) {P : Program} {N : Nat} {o : Oper} {L L' : List E} (h : Stp P N o L L') : SK κ P N o L L' := ⟨h⟩
/-- .. as the letters say -/
theorem go (ks : List K) {G : Prop} (he : GP ks G := by
  first | refine pW ?_ | refine pL ?_ | refine pA ?_
  repeat
    first
      | (show GL (.N :: _) _ _ _ _ _ _; refine nFx ?_)
      | (show GL (.m :: _) _ _ _ _ _ _; refine qF (kQ .m Qt.move) ?_)
      | (show GL (.f :: _) _ _ _ _ _ _; refine qF (kQ .f (fA FlI.ok)) ?_)
      | (show GL (.l :: _) _ _ _ _ _ _; refine qF (kQ .l (Qt.load1 rfl rfl rfl AgI.ok)) ?_)
      | (show GL (.a :: _) _ _ _ _ _ _; refine qF (kQ .a Qt.assign) ?_)
      | (show GL _ _ _ _ _ _ _; first
          | (show GL (.p :: _) _ _ _ _ _ _; refine qF (kQ .p (Qt.nilCheck rfl)) ?_)
          | (show GL (.b :: _) _ _ _ _ _ _; refine qF (kQ .b (Qt.binOp rfl rfl (by first | exact pbAdd (by omega) | exact pbSub (by omega) | exact pbMul (by omega) | rfl))) ?_)
          | (show GL (.i :: _) _ _ _ _ _ _; refine qF (kQ .i (Qt.indexAddr rfl rfl rfl rfl SlI.sl SzI.ok (by decide) (by first | omega | grind only))) ?_)
          | (show GL (.h :: _) _ _ _ _ _ _; refine qF (kQ .h (Qt.lenH rfl rfl rfl SlI.sl)) ?_)
          | (show GL (.G :: _) _ _ _ _ _ _; refine qF (kQ .G (Qt.loadG rfl rfl rfl AgI.ok SzI.ok (by decide))) ?_)
          | (show GL (.e :: _) _ _ _ _ _ _; refine qF (kQ .e (Qt.extract rfl (of_decide_eq_true rfl))) ?_)
          | (show GL (.u :: _) _ _ _ _ _ _; refine qF (kQ .u (Qt.build rfl)) ?_)
          | (show GL (.n :: _) _ _ _ _ _ _; refine qF (kQ .n (Qt.notB rfl)) ?_)
          | (show GL (.q :: _) _ _ _ _ _ _; refine qF (kQ .q (Qt.eqB rfl rfl BoI.ok)) ?_)
          | (show GL (.k :: _) _ _ _ _ _ _; refine qF (kQ .k (Qt.neB rfl rfl BoI.ok)) ?_)
          | (show GL (.c :: _) _ _ _ _ _ _; refine qF (kQ .c (Qt.lenS rfl StI.ok)) ?_)
          | (show GL (.Z :: _) _ _ _ _ _ _; refine lF ?_; (first | refine pW ?_ | refine pL ?_ | refine pA ?_ | exact zP))
          | (show GL (.s :: _) _ _ _ _ _ _; refine sF (kS .s (by first | exact Stp.storeA rfl rfl rfl rfl (by decide) rfl | exact Stp.store rfl rfl (by simp) rfl rfl rfl (by decide) rfl)) ?_)
          | (show GL (.A :: _) _ _ _ _ _ _; refine sF (kS .A sA) ?_)
          | (show GL (.B :: _) _ _ _ _ _ _; refine sF (kS .B (Stp.boxB rfl (by decide) (by decide) rfl rfl rfl rfl)) ?_)
          | (show GL (.S :: _) _ _ _ _ _ _; refine sF (kS .S sS) ?_)
          | (show GL (.x :: _) _ _ _ _ _ _; refine xF ?_)
          | (show GL [] _ _ _ _ _ _; exact zL))
      | (show GA _ _ _ _ _ _ _ _ _ _; first
          | (show GA (.N :: _) _ _ _ _ _ _ _ _ _; refine nFa ?_)
          | (show GA (.t _ :: .x :: _) _ _ _ _ _ _ _ _ _; refine tX rfl ?_)
          | (show GA (.t _ :: .m :: _) _ _ _ _ _ _ _ _ _; refine tF rfl (kQ .m Qt.move) ?_)
          | (show GA (.t _ :: .f :: _) _ _ _ _ _ _ _ _ _; refine tF rfl (kQ .f (fA FlI.ok)) ?_)
          | (show GA (.t _ :: .l :: _) _ _ _ _ _ _ _ _ _; refine tF rfl (kQ .l (Qt.load1 rfl rfl rfl AgI.ok)) ?_)
          | (show GA (.t _ :: .a :: _) _ _ _ _ _ _ _ _ _; refine tF rfl (kQ .a Qt.assign) ?_)
          | (show GA (.g :: _ :: _) _ _ _ _ _ _ _ _ _; first
              | (show GA (.g :: .x :: _) _ _ _ _ _ _ _ _ _; refine gX rfl ?_)
              | (show GA (.g :: .m :: _) _ _ _ _ _ _ _ _ _; refine gF rfl (kQ .m Qt.move) ?_)
              | (show GA (.g :: .f :: _) _ _ _ _ _ _ _ _ _; refine gF rfl (kQ .f (fA FlI.ok)) ?_)
              | (show GA (.g :: .l :: _) _ _ _ _ _ _ _ _ _; refine gF rfl (kQ .l (Qt.load1 rfl rfl rfl AgI.ok)) ?_)
              | (show GA (.g :: .a :: _) _ _ _ _ _ _ _ _ _; refine gF rfl (kQ .a Qt.assign) ?_)
              | (show GA (.g :: .p :: _) _ _ _ _ _ _ _ _ _; refine gF rfl (kQ .p (Qt.nilCheck rfl)) ?_)
              | (show GA (.g :: .b :: _) _ _ _ _ _ _ _ _ _; refine gF rfl (kQ .b (Qt.binOp rfl rfl (by first | exact pbAdd (by omega) | exact pbSub (by omega) | exact pbMul (by omega) | rfl))) ?_)
              | (show GA (.g :: .i :: _) _ _ _ _ _ _ _ _ _; refine gF rfl (kQ .i (Qt.indexAddr rfl rfl rfl rfl SlI.sl SzI.ok (by decide) (by first | omega | grind only))) ?_)
              | (show GA (.g :: .h :: _) _ _ _ _ _ _ _ _ _; refine gF rfl (kQ .h (Qt.lenH rfl rfl rfl SlI.sl)) ?_)
              | (show GA (.g :: .G :: _) _ _ _ _ _ _ _ _ _; refine gF rfl (kQ .G (Qt.loadG rfl rfl rfl AgI.ok SzI.ok (by decide))) ?_)
              | (show GA (.g :: .e :: _) _ _ _ _ _ _ _ _ _; refine gF rfl (kQ .e (Qt.extract rfl (of_decide_eq_true rfl))) ?_)
              | (show GA (.g :: .u :: _) _ _ _ _ _ _ _ _ _; refine gF rfl (kQ .u (Qt.build rfl)) ?_)
              | (show GA (.g :: .n :: _) _ _ _ _ _ _ _ _ _; refine gF rfl (kQ .n (Qt.notB rfl)) ?_)
              | (show GA (.g :: .q :: _) _ _ _ _ _ _ _ _ _; refine gF rfl (kQ .q (Qt.eqB rfl rfl BoI.ok)) ?_)
              | (show GA (.g :: .k :: _) _ _ _ _ _ _ _ _ _; refine gF rfl (kQ .k (Qt.neB rfl rfl BoI.ok)) ?_)
              | (show GA (.g :: .c :: _) _ _ _ _ _ _ _ _ _; refine gF rfl (kQ .c (Qt.lenS rfl StI.ok)) ?_))
          | (show GA (.t _ :: .p :: _) _ _ _ _ _ _ _ _ _; refine tF rfl (kQ .p (Qt.nilCheck rfl)) ?_)
          | (show GA (.t _ :: .b :: _) _ _ _ _ _ _ _ _ _; refine tF rfl (kQ .b (Qt.binOp rfl rfl (by first | exact pbAdd (by omega) | exact pbSub (by omega) | exact pbMul (by omega) | rfl))) ?_)
          | (show GA (.t _ :: .i :: _) _ _ _ _ _ _ _ _ _; refine tF rfl (kQ .i (Qt.indexAddr rfl rfl rfl rfl SlI.sl SzI.ok (by decide) (by first | omega | grind only))) ?_)
          | (show GA (.t _ :: .h :: _) _ _ _ _ _ _ _ _ _; refine tF rfl (kQ .h (Qt.lenH rfl rfl rfl SlI.sl)) ?_)
          | (show GA (.t _ :: .G :: _) _ _ _ _ _ _ _ _ _; refine tF rfl (kQ .G (Qt.loadG rfl rfl rfl AgI.ok SzI.ok (by decide))) ?_)
          | (show GA (.t _ :: .e :: _) _ _ _ _ _ _ _ _ _; refine tF rfl (kQ .e (Qt.extract rfl (of_decide_eq_true rfl))) ?_)
          | (show GA (.t _ :: .u :: _) _ _ _ _ _ _ _ _ _; refine tF rfl (kQ .u (Qt.build rfl)) ?_)
          | (show GA (.t _ :: .n :: _) _ _ _ _ _ _ _ _ _; refine tF rfl (kQ .n (Qt.notB rfl)) ?_)
          | (show GA (.t _ :: .q :: _) _ _ _ _ _ _ _ _ _; refine tF rfl (kQ .q (Qt.eqB rfl rfl BoI.ok)) ?_)
          | (show GA (.t _ :: .k :: _) _ _ _ _ _ _ _ _ _; refine tF rfl (kQ .k (Qt.neB rfl rfl BoI.ok)) ?_)
          | (show GA (.t _ :: .c :: _) _ _ _ _ _ _ _ _ _; refine tF rfl (kQ .c (Qt.lenS rfl StI.ok)) ?_)
          | (show GA (.o _ _ :: .x :: _) _ _ _ _ _ _ _ _ _; refine oX rfl ?_)
          | (show GA (.o _ _ :: .s :: _) _ _ _ _ _ _ _ _ _; refine oF rfl (kS .s (by first | exact Stp.storeA rfl rfl rfl rfl (by decide) rfl | exact Stp.store rfl rfl (by simp) rfl rfl rfl (by decide) rfl)) ?_)
          | (show GA (.o _ _ :: .A :: _) _ _ _ _ _ _ _ _ _; refine oF rfl (kS .A sA) ?_)
          | (show GA (.o _ _ :: .B :: _) _ _ _ _ _ _ _ _ _; refine oF rfl (kS .B (Stp.boxB rfl (by decide) (by decide) rfl rfl rfl rfl)) ?_)
          | (show GA (.o _ _ :: .S :: _) _ _ _ _ _ _ _ _ _; refine oF rfl (kS .S sS) ?_)
          | (show GA (.O _ _ _ :: .x :: _) _ _ _ _ _ _ _ _ _; refine OX rfl ?_)
          | (show GA (.O _ _ _ :: .s :: _) _ _ _ _ _ _ _ _ _; refine OF rfl (kS .s (by first | exact Stp.storeA rfl rfl rfl rfl (by decide) rfl | exact Stp.store rfl rfl (by simp) rfl rfl rfl (by decide) rfl)) ?_)
          | (show GA (.O _ _ _ :: .A :: _) _ _ _ _ _ _ _ _ _; refine OF rfl (kS .A sA) ?_)
          | (show GA (.O _ _ _ :: .B :: _) _ _ _ _ _ _ _ _ _; refine OF rfl (kS .B (Stp.boxB rfl (by decide) (by decide) rfl rfl rfl rfl)) ?_)
          | (show GA (.O _ _ _ :: .S :: _) _ _ _ _ _ _ _ _ _; refine OF rfl (kS .S sS) ?_)
          | (show GA (.Z :: _) _ _ _ _ _ _ _ _ _; refine zF ?_; (first | refine pW ?_ | refine pL ?_ | refine pA ?_ | exact zP))
          | (show GA [] _ _ _ _ _ _ _ _ _; exact zA))
      | (show GW _ _ _ _ _ _; first
          | (show GW (.R :: _) _ _ _ _ _; refine rF ?_)
          | (show GW (.R2 :: _) _ _ _ _ _; refine rF2 ?_)
          | (show GW (.R1 :: _) _ _ _ _ _; refine rF1 ?_)
          | (show GW (.J :: _) _ _ _ _ _; refine jF ?_; (first | refine pW ?_ | refine pL ?_ | refine pA ?_ | exact zP))
          | (show GW (.D _ :: _) _ _ _ _ _; refine dF ?_)
          | (show GW [] _ _ _ _ _; exact zW))
      | exact zP) (k : he.G) : G := he.f k
end Go.Proofs.YtlploojfcmcckaaDoor.VM
namespace Go.Proofs.YtlploojfcmcckaaDoor.VM
open Go Go.RowKit
/-! strings.Split (one byte to split at), slices.Index at strings -/
theorem own_strs {w : World} {b cap sz : Nat} {l : List ByteArray} (hc : l.length ≤ cap) (hm : cap ≤ maxLen) (hk : Kd w b sz) (hsz : cap ≤ sz) (hcell : ∀ k, k < l.length → w.cell? ⟨b, k, none⟩ = some (.string (l.getD k En.dflt))) : Own w (tr l) (fun x _ => 0 < cap ∧ x = b) (.slice (some ⟨b, 0, none⟩) l.length cap) := by
 refine ⟨by decide, _, cap, rfl, hc, hm, b, 0, fun k _ => .string (l.getD k En.dflt), fun _ _ _ _ => False, fun _ => ⟨rfl, sz, hk, ?_⟩, ?_, ?_, ?_, ?_⟩
 ·have : cap * En.n ByteArray = cap := Nat.mul_one cap
  omega
 ·intro k c hk' hc'
  have hc' : c < 1 := hc'
  obtain rfl : c = 0 := by omega
  rw [show k * En.n ByteArray + 0 = k from Nat.mul_one k, Nat.zero_add]
  exact ⟨hcell k hk', rfl, rfl, fun _ _ h => h⟩
 ·intros; assumption
 ·intro _ _ _ _ _ _ h; exact h.elim
 ·intro x y
  constructor
  ·exact fun h => .inl h
  ·rintro (h | ⟨_, _, _, _, h⟩)
   ·exact h
   ·exact h.elim
theorem con_split {P : Program} {f : FuncId} {s sep : ByteArray} {l : List ByteArray} {t : TypeId} (hl : 0 < l.length) (hm : l.length ≤ maxLen)
  (h : ∀ w, TabsOk P w → Calls P f #[.string s, .string sep] w fun e w' => e = .returned (.slice (some ⟨w.heap.size, 0, none⟩) l.length l.length) ∧ w' = w.alloc (.cells (l.map Value.string).toArray t)) :
  Con P f [.v (.string s), .v (.string sep)] [] (Ret (.h 0 []) [(0, .row, tr l)]) := by
 intro w vs H G ht _ hr hv
 match vs, hv with
 | [v, v1], ⟨hv0, hv1, _⟩ =>
 obtain rfl : v = .string s := hv0
 obtain rfl : v1 = .string sep := hv1
 refine (h w ht).mono fun e w' ⟨he, hw⟩ => ?_
 subst he hw
 have hh : (w.alloc (.cells (l.map Value.string).toArray t)).heap[w.heap.size]? = some (.cells (l.map Value.string).toArray t (0, 0)) := by
  show (w.heap.push _)[w.heap.size]? = _
  simp
 have hO : Own (w.alloc (.cells (l.map Value.string).toArray t)) (tr l) (fun x _ => 0 < l.length ∧ x = w.heap.size) (.slice (some ⟨w.heap.size, 0, none⟩) l.length l.length) :=
  own_strs (sz := l.length) (Nat.le_refl _) hm ⟨_, _, hh, by simp⟩ (Nat.le_refl _) fun k hk => by
   simp only [World.cell?, hh]
   simp [hk]
 obtain ⟨x, L, H', G', val, ⟨ρ, e1, _, e3, e4, _⟩, r2⟩ := row_new (S := fun _ _ => False) [] hr (fun _ h => by cases h) (Chg.alloc _ _ _) (fun _ _ h => h.elim) hO rfl fun a o h => .inr (by omega)
 exact ⟨_, x, L, H', G', val, rfl, ⟨ρ, e1, e3, fun r hr => ⟨(e4 r hr).1, (e4 r hr).2.1⟩⟩, r2⟩
theorem con_indexS {P : Program} {f : FuncId}
  (hs : ∀ (b off n c : Nat) (zs : List ByteArray) (x : ByteArray) (w : World), n ≤ zs.length → n ≤ 9223372036854775807 → (∀ j, j < zs.length → w.cell? ⟨b, off + j, none⟩ = some (.string (zs.getD j ByteArray.empty))) →
   Calls P f #[.slice (some ⟨b, off, none⟩) n c, .string x] w fun e w' => e = .returned (.int .i64 (Lib.idxOfS (zs.take n) x)) ∧ w' = w)
  (h0 : ∀ (a : Option Addr) (c : Nat) (x : ByteArray) (w : World), Calls P f #[.slice a 0 c, .string x] w fun e w' => e = .returned (.int .i64 (Lib.idxOfS [] x)) ∧ w' = w)
  (l : List ByteArray) (x : ByteArray) (hlen : l.length < 4611686018427387904) :
  Con P f [.h base [], .v (.string x)] [.rt base .ro (tr l)] (fun y _ => y = .v (iv (Lib.idxOfS l x))) := by
 intro w vs H G _ _ hr hv
 match vs, hv with
 | [v, s], ⟨⟨m, t, _, _, _, hh⟩, hs2, _⟩ =>
 simp only [hd, Option.some.injEq] at hh
 obtain rfl : s = .string x := hs2
 have hR := hr.ro base (tr l) (List.mem_singleton.2 rfl)
 obtain ⟨hn, a, cap, e0, hlc, hm, b, off, V, Gk, h1, h2⟩ := hR
 have hv : v = .slice a l.length cap := by rw [← hh, e0]
 subst hv
 have no : ∀ {α : Prop} {e : E}, e ∈ ([] : List E) → α := fun h => by cases h
 have fin : ∀ (e : Ending) (w' : World), e = .returned (iv (Lib.idxOfS l x)) → w' = w → ∃ v x1 L H' G' val, e = .returned v ∧ (x1 = X.v (iv (Lib.idxOfS l x))) ∧ Rp L val H' G' w' ∧ VR (rts L) H' w' x1 v ∧
   Chg (fun a o => ∃ id m t, rts [E.rt base .ro (tr l)] id m t ∧ m ≠ .ro ∧ G id a o) w w' ∧
   (∀ id m t, rts L id m t → m ≠ .ro → ∀ a o, G' id a o → (∃ id m t, rts [E.rt base .ro (tr l)] id m t ∧ m ≠ .ro ∧ G id a o) ∨ w.heap.size ≤ a) ∧
   ∀ id m t, base ≤ id → rts L id m t → H' id = H id := fun e w' he hq => by
  subst hq
  exact ⟨_, _, [], H, G, fun _ => undef, he, rfl, ⟨fun _ _ _ _ _ h => no h, fun _ _ _ h => no h, fun _ _ h => no h, fun _ _ h => no h, fun _ _ h => no h, fun _ _ _ _ _ _ h => no h, fun _ _ h => no h, fun _ _ _ h => no h⟩, rfl, Chg.refl _ _, fun _ _ _ h => no h, fun _ _ _ _ h => no h⟩
 rcases Nat.eq_zero_or_pos l.length with hz | hp
 ·have hl0 : l = [] := List.eq_nil_of_length_eq_zero hz
  subst hl0
  exact (h0 a cap x w).mono fun e w' ⟨he, hw⟩ => fin e w' he hw
 ·obtain rfl := h1 hp
  have hcell : ∀ j, j < l.length → w.cell? ⟨b, off + j, none⟩ = some (.string (l.getD j ByteArray.empty)) := fun j hj => by
   obtain ⟨g1, g2, _⟩ := h2 j 0 hj (by decide)
   rw [show j * En.n ByteArray + 0 = j from Nat.mul_one j] at g1
   have g3 : V j 0 = .string (l.getD j En.dflt) := g2.1
   rw [g1, g3]
   rfl
  have := hs b off l.length cap l x w (Nat.le_refl _) (by omega) hcell
  rw [List.take_length] at this
  exact this.mono fun e w' ⟨he, hw⟩ => fin e w' he hw
end Go.Proofs.YtlploojfcmcckaaDoor.VM
