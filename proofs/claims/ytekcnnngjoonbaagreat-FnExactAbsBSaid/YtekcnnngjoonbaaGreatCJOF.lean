/- Contracts. No conditions. -/
import Derived.Test.YtekcnnngjoonbaaGreatCJKF
import Derived.Test.YtekcnnngjoonbaaGreatCJEF
set_option linter.all false
set_option maxHeartbeats 8000000
set_option maxRecDepth 10000
namespace Go.Proofs.YtekcnnngjoonbaaGreat.VM
open Go Go.RowKit Go.Proofs
theorem ofFile_cs (p : DFile) (U : Nat → Value) (h1 : ∀ c x, c < 2 → (En.cs p).getD c .j = .v x → U c = x) (h2 : ∀ c n0 l g, c < 2 → (En.cs p).getD c .j = .s n0 l g → ∃ a cap, U c = .slice a l cap) : ∀ c, c < 2 → (En.cs (ofFile p (U 1))).getD c .j = .v (U c) := fun c hc => by
 match c, hc with
 | 0, hc => rw [h1 0 _ hc rfl]; rfl
 | 1, hc => obtain ⟨a, cap, e⟩ := h2 1 _ _ _ hc rfl; rw [e]; simp only [ofFile, e]; rfl
 | c + 2, hc => exact absurd hc (by omega)
def srcFile : Nat → Option Nat
 | 1 => some (base + 1)
 | _ => none
def XBFile (U : Nat → Value) : X := .g [.v (U 0), .v (U 1)]
theorem insAllFile_con (l : List DFile) (p : DFile) (hs : l.length ≤ 2000000) : Con Tryz.prog 101 [.h base [], .g [.v (iv p.Name), .h (base + 1) []]] [.rt base .row (tr l), .rt (base + 1) .row (tr p.Data)] (RetW (.h 0 []) [(0, .row, tr (insK DFile.Name l p))] [(base, .j), (base + 1, .j)]) := by
 have hle := insAt_le (l.map DFile.Name) (DFile.Name p)
 rw [List.length_map] at hle
 have eT : tr (insK DFile.Name l p) = .s 2 (l.length + 1) fun k c => if k < insAt (l.map DFile.Name) (DFile.Name p) then (En.cs (l.getD k En.dflt)).getD c .j else if k = insAt (l.map DFile.Name) (DFile.Name p) then (En.cs p).getD c .j else (En.cs (l.getD (k - 1) En.dflt)).getD c .j := by
  show T.s 2 (insK DFile.Name l p).length (fun k c => (En.cs ((insK DFile.Name l p).getD k En.dflt)).getD c .j) = _
  rw [insK_len]
  congr 1
  funext k c
  rw [insK_getD]
  split
  ·rfl
  ·split <;> rfl
 rw [eT]
 refine con_insV (gT := fun c => (En.cs p).getD c .j) (fT := fun k c => (En.cs (l.getD k En.dflt)).getD c .j) srcFile [base + 1] _ (insAt (l.map DFile.Name) (DFile.Name p)) hle XBFile (fun id m t h => ?_) (fun id h => ?_) (fun c id hc h => ?_) (fun c c' id hc hc' h h' => ?_) (fun R H w vp h => ?_) fun V U h1 h2 h3 h4 => ?_
 ·simp only [rts, List.mem_cons, List.not_mem_nil, or_false, E.rt.injEq] at h
  rcases h with ⟨rfl, _⟩ <;> omega
 ·simp only [List.mem_cons, List.not_mem_nil, or_false] at h
  rcases h with rfl
  exact ⟨by omega, _, List.mem_cons_self ..⟩
 ·match c, hc, h with
  | 1, _, h => cases h; exact List.mem_cons_self ..
 ·match c, c', h, h' with
  | 1, 1, _, _ => rfl
 ·obtain ⟨vs, e, h⟩ := h
  match vs, h with
  | [u0, u1], ⟨e0, ⟨_, _, _, _, _, q1⟩, _⟩ =>
  simp only [hd, Option.some.injEq] at q1
  obtain rfl : u0 = _ := e0
  refine ⟨fun c => [iv p.Name, u1].getD c undef, fun R' H' w' => ⟨_, e, rfl, rfl, trivial⟩, fun c hc => ?_⟩
  match c, hc with
  | 0, _ => exact ⟨fun _ => ⟨rfl, rfl⟩, fun id h => by cases h⟩
  | 1, _ => exact ⟨fun h => (by cases h), fun id h => by cases h; exact q1.symm⟩
  | c + 2, hc => exact absurd (show c + 2 < 2 from hc) (by omega)
 ·let lp := (List.range l.length).map fun k => ofFile (l.getD k En.dflt) (V k 1)
  let pp := ofFile p (U 1)
  have hl : lp.length = l.length := by simp [lp]
  have hg : ∀ k, k < l.length → lp.getD k En.dflt = ofFile (l.getD k En.dflt) (V k 1) := fun k hk => by
   rw [List.getD_eq_getElem?_getD, List.getElem?_map, List.getElem?_range hk]
   rfl
  have hcs : ∀ k c, k < l.length → c < 2 → (En.cs (lp.getD k En.dflt)).getD c .j = .v (V k c) := fun k c hk hc => by
   rw [hg k hk]
   exact ofFile_cs _ (V k) (fun c x hc => h1 k c x hk hc) (fun c n0 l g hc => h2 k c n0 l g hk hc) c hc
  have hps : ∀ c, c < 2 → (En.cs pp).getD c .j = .v (U c) := ofFile_cs p U h3 h4
  have hkey : lp.map CFile.f0 = l.map DFile.Name := by
   conv => rhs; rw [← range_getD l En.dflt]
   rw [List.map_map, List.map_map]
   rfl
  have hc := insKFile_con lp pp (by omega)
  have hX : XBFile U = .g [.v (iv pp.f0), .v (.slice pp.f1a pp.f1l pp.f1c)] := by
   unfold XBFile
   rw [← T.v.inj (hps 0 (by omega)), ← T.v.inj (hps 1 (by omega))]
  rw [← hX, show tr lp = .s 2 l.length (fun k c => (En.cs (lp.getD k En.dflt)).getD c .j) from congrArg (fun m => T.s 2 m fun k c => (En.cs (lp.getD k En.dflt)).getD c .j) hl, show tr (insK CFile.f0 lp pp) = .s 2 (l.length + 1) (fun k c => (En.cs ((insK CFile.f0 lp pp).getD k En.dflt)).getD c .j) from congrArg (fun m => T.s 2 m fun k c => (En.cs ((insK CFile.f0 lp pp).getD k En.dflt)).getD c .j) (by rw [insK_len, hl])] at hc
  refine ⟨_, _, hcs, fun k c hk hc => ?_, hc⟩
  rw [insK_getD, hkey, show CFile.f0 pp = DFile.Name p from rfl]
  split
  ·exact hcs k c (by omega) hc
  ·split
   ·exact hps c hc
   ·exact hcs (k - 1) c (by omega) hc
end Go.Proofs.YtekcnnngjoonbaaGreat.VM
