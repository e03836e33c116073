/- Contracts. No conditions. -/
import Derived.Test.YthjfgpkjooaahaaGreatVmD
set_option linter.all false
set_option maxHeartbeats 8000000
set_option maxRecDepth 10000
namespace Go.Proofs.YthjfgpkjooaahaaGreat.VM
open Go Go.RowKit
def takeL (l : List Bool) : List Bool := if 0 ≤ ixOf (fun x => false == x) l then l.set (ixOf (fun x => false == x) l).toNat true else l
/-- the first t frames are taken -/
def mapA (t : Nat) : List Bool := List.replicate t true ++ List.replicate (16 - t) false
/-- the words in the first frames -/
def ramA (ws : List Int) : List Int := ws ++ List.replicate (64 - ws.length) 0
/-- a table of k pages from t on -/
def ptA (t k : Nat) : List Int := (List.range k).map (fun j => ((t + j : Nat) : Int)) ++ List.replicate (3 - k) (-1)
theorem mapA_len {t : Nat} (h : t ≤ 16) : (mapA t).length = 16 := by simp [mapA]; omega
theorem ptA_len {t k : Nat} (h : k ≤ 3) : (ptA t k).length = 3 := by simp [ptA]; omega
theorem ramA_len {ws : List Int} (h : ws.length ≤ 64) : (ramA ws).length = 64 := by simp [ramA]; omega
theorem mapA_ix {t : Nat} (h : t < 16) : ixOf (fun x => false == x) (mapA t) = (t : Int) := by
 have e : (mapA t).findIdx? (fun x => false == x) = some t := by
  rw [List.findIdx?_eq_some_iff_getElem]
  refine ⟨by simp [mapA]; omega, ?_, fun j hj => ?_⟩
  ·simp only [mapA]; rw [List.getElem_append_right (by simp)]; simp
  ·simp only [mapA]; rw [List.getElem_append_left (by simpa using hj)]; simp
 unfold ixOf; rw [e]
theorem set_rep {α : Type} {a b : α} {l : List α} {n : Nat} (h : 0 < n) : (l ++ List.replicate n a).set l.length b = l ++ [b] ++ List.replicate (n - 1) a := by
 obtain ⟨m, rfl⟩ : ∃ m, n = m + 1 := ⟨n - 1, by omega⟩
 rw [List.set_append_right _ _ (Nat.le_refl _), List.replicate_succ]
 simp
theorem takeL_mapA {t : Nat} (h : t < 16) : takeL (mapA t) = mapA (t + 1) := by
 unfold takeL
 rw [mapA_ix h, if_pos (by omega), Int.toNat_natCast, mapA]
 have := set_rep (a := false) (b := true) (l := List.replicate t true) (n := 16 - t) (by omega)
 rw [List.length_replicate] at this
 rw [this, mapA, List.replicate_succ', show 16 - t - 1 = 16 - (t + 1) by omega]
theorem ptA_set {t k : Nat} (h : k < 3) : (ptA t k).set k ((t + k : Nat) : Int) = ptA t (k + 1) := by
 have := set_rep (a := (-1 : Int)) (b := ((t + k : Nat) : Int)) (l := (List.range k).map (fun j => ((t + j : Nat) : Int))) (n := 3 - k) (by omega)
 rw [List.length_map, List.length_range] at this
 rw [ptA, this, ptA, List.range_succ, List.map_append, List.map_cons, List.map_nil, show 3 - k - 1 = 3 - (k + 1) by omega]
end Go.Proofs.YthjfgpkjooaahaaGreat.VM
