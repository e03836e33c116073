/- Contracts. No conditions. -/
import Derived.Test.YtekcnnngjoonbaaGreatCJKO
import Derived.Test.YtekcnnngjoonbaaGreatCJEO
set_option linter.all false
set_option maxHeartbeats 8000000
set_option maxRecDepth 10000
namespace Go.Proofs.YtekcnnngjoonbaaGreat.VM
open Go Go.RowKit Go.Proofs
def ofOpen (p : DOpen) : DOpen := p
theorem ofOpen_cs (p : DOpen) (U : Nat → Value) (h1 : ∀ c x, c < 5 → (En.cs p).getD c .j = .v x → U c = x) (h2 : ∀ c n0 l g, c < 5 → (En.cs p).getD c .j = .s n0 l g → ∃ a cap, U c = .slice a l cap) : ∀ c, c < 5 → (En.cs (ofOpen p )).getD c .j = .v (U c) := fun c hc => by
 match c, hc with
 | 0, hc => rw [h1 0 _ hc rfl]; rfl
 | 1, hc => rw [h1 1 _ hc rfl]; rfl
 | 2, hc => rw [h1 2 _ hc rfl]; rfl
 | 3, hc => rw [h1 3 _ hc rfl]; rfl
 | 4, hc => rw [h1 4 _ hc rfl]; rfl
 | c + 5, hc => exact absurd hc (by omega)
def srcOpen : Nat → Option Nat
 | _ => none
def XBOpen (U : Nat → Value) : X := .g [.v (U 0), .v (U 1), .v (U 2), .v (U 3), .v (U 4)]
theorem insAllOpen_con (l : List DOpen) (p : DOpen) (hs : l.length ≤ 2000000) : Con Tryz.prog 98 [.h base [], .g [.v (iv p.Id), .v (iv p.Kind), .v (iv p.Target), .v (iv p.Off), .v (iv p.Refs)]] [.rt base .row (tr l)] (RetW (.h 0 []) [(0, .row, tr (insK DOpen.Id l p))] [(base, .j)]) := by
 have hle := insAt_le (l.map DOpen.Id) (DOpen.Id p)
 rw [List.length_map] at hle
 have eT : tr (insK DOpen.Id l p) = .s 5 (l.length + 1) fun k c => if k < insAt (l.map DOpen.Id) (DOpen.Id p) then (En.cs (l.getD k En.dflt)).getD c .j else if k = insAt (l.map DOpen.Id) (DOpen.Id p) then (En.cs p).getD c .j else (En.cs (l.getD (k - 1) En.dflt)).getD c .j := by
  show T.s 5 (insK DOpen.Id l p).length (fun k c => (En.cs ((insK DOpen.Id l p).getD k En.dflt)).getD c .j) = _
  rw [insK_len]
  congr 1
  funext k c
  rw [insK_getD]
  split
  ·rfl
  ·split <;> rfl
 rw [eT]
 refine con_insV (gT := fun c => (En.cs p).getD c .j) (fT := fun k c => (En.cs (l.getD k En.dflt)).getD c .j) srcOpen [] _ (insAt (l.map DOpen.Id) (DOpen.Id p)) hle XBOpen (fun id m t h => ?_) (fun id h => ?_) (fun c id hc h => ?_) (fun c c' id hc hc' h h' => ?_) (fun R H w vp h => ?_) fun V U h1 h2 h3 h4 => ?_
 ·simp [rts] at h
 ·simp at h
 ·cases h
 ·cases h
 ·obtain ⟨vs, e, h⟩ := h
  match vs, h with
  | [u0, u1, u2, u3, u4], ⟨e0, e1, e2, e3, e4, _⟩ =>
  obtain rfl : u0 = _ := e0
  obtain rfl : u1 = _ := e1
  obtain rfl : u2 = _ := e2
  obtain rfl : u3 = _ := e3
  obtain rfl : u4 = _ := e4
  refine ⟨fun c => [iv p.Id, iv p.Kind, iv p.Target, iv p.Off, iv p.Refs].getD c undef, fun R' H' w' => ⟨_, e, rfl, rfl, rfl, rfl, rfl, trivial⟩, fun c hc => ?_⟩
  match c, hc with
  | 0, _ => exact ⟨fun _ => ⟨rfl, rfl⟩, fun id h => by cases h⟩
  | 1, _ => exact ⟨fun _ => ⟨rfl, rfl⟩, fun id h => by cases h⟩
  | 2, _ => exact ⟨fun _ => ⟨rfl, rfl⟩, fun id h => by cases h⟩
  | 3, _ => exact ⟨fun _ => ⟨rfl, rfl⟩, fun id h => by cases h⟩
  | 4, _ => exact ⟨fun _ => ⟨rfl, rfl⟩, fun id h => by cases h⟩
  | c + 5, hc => exact absurd (show c + 5 < 5 from hc) (by omega)
 ·let lp := (List.range l.length).map fun k => ofOpen (l.getD k En.dflt) 
  let pp := ofOpen p 
  have hl : lp.length = l.length := by simp [lp]
  have hg : ∀ k, k < l.length → lp.getD k En.dflt = ofOpen (l.getD k En.dflt)  := fun k hk => by
   rw [List.getD_eq_getElem?_getD, List.getElem?_map, List.getElem?_range hk]
   rfl
  have hcs : ∀ k c, k < l.length → c < 5 → (En.cs (lp.getD k En.dflt)).getD c .j = .v (V k c) := fun k c hk hc => by
   rw [hg k hk]
   exact ofOpen_cs _ (V k) (fun c x hc => h1 k c x hk hc) (fun c n0 l g hc => h2 k c n0 l g hk hc) c hc
  have hps : ∀ c, c < 5 → (En.cs pp).getD c .j = .v (U c) := ofOpen_cs p U h3 h4
  have hkey : lp.map DOpen.Id = l.map DOpen.Id := by
   conv => rhs; rw [← range_getD l En.dflt]
   rw [List.map_map, List.map_map]
   rfl
  have hc := insKOpen_con lp pp (by omega)
  have hX : XBOpen U = .g [.v (iv pp.Id), .v (iv pp.Kind), .v (iv pp.Target), .v (iv pp.Off), .v (iv pp.Refs)] := by
   unfold XBOpen
   rw [← T.v.inj (hps 0 (by omega)), ← T.v.inj (hps 1 (by omega)), ← T.v.inj (hps 2 (by omega)), ← T.v.inj (hps 3 (by omega)), ← T.v.inj (hps 4 (by omega))]
  rw [← hX, show tr lp = .s 5 l.length (fun k c => (En.cs (lp.getD k En.dflt)).getD c .j) from congrArg (fun m => T.s 5 m fun k c => (En.cs (lp.getD k En.dflt)).getD c .j) hl, show tr (insK DOpen.Id lp pp) = .s 5 (l.length + 1) (fun k c => (En.cs ((insK DOpen.Id lp pp).getD k En.dflt)).getD c .j) from congrArg (fun m => T.s 5 m fun k c => (En.cs ((insK DOpen.Id lp pp).getD k En.dflt)).getD c .j) (by rw [insK_len, hl])] at hc
  refine ⟨_, _, hcs, fun k c hk hc => ?_, hc⟩
  rw [insK_getD, hkey, show DOpen.Id pp = DOpen.Id p from rfl]
  split
  ·exact hcs k c (by omega) hc
  ·split
   ·exact hps c hc
   ·exact hcs (k - 1) c (by omega) hc
end Go.Proofs.YtekcnnngjoonbaaGreat.VM
