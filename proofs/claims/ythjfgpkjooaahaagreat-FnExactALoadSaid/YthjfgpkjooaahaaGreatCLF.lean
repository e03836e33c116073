/- Contracts. No conditions. -/
import Derived.Test.YthjfgpkjooaahaaGreatCLS
set_option linter.all false
set_option maxHeartbeats 8000000
set_option maxRecDepth 10000
namespace Go.Proofs.YthjfgpkjooaahaaGreat.VM
open Go Go.RowKit Go.Proofs
def isFr (x : Int) : Bool := decide (0 ≤ x) && decide (x ≤ 15)
def pagesN (l : List Int) : Nat := (l.takeWhile isFr).length
theorem pagesN_le (l : List Int) : pagesN l ≤ l.length := by
 unfold pagesN
 exact List.IsPrefix.length_le (List.takeWhile_prefix isFr)
theorem pages_get {l : List Int} {k : Nat} (h : k < pagesN l) : isFr (l.getD k En.dflt) = true := by
 have hl := pagesN_le l
 have e : (l.takeWhile isFr)[k]'h = l[k]'(by omega) := by
  have := List.IsPrefix.getElem (List.takeWhile_prefix isFr (l := l)) h
  exact this
 have hm : (l.takeWhile isFr)[k]'h ∈ l.takeWhile isFr := List.getElem_mem _
 have := List.all_eq_true.1 (List.all_takeWhile (p := isFr) (l := l)) _ hm
 rw [e] at this
 rw [List.getD_eq_getElem?_getD, List.getElem?_eq_getElem (by omega)]
 exact this
theorem pages_end {l : List Int} {k : Nat} (hk : k < l.length) (h1 : ∀ j, j < k → isFr (l.getD j En.dflt) = true) (h2 : isFr (l.getD k En.dflt) = false) : pagesN l = k := by
 rcases Nat.lt_trichotomy (pagesN l) k with h | h | h
 ·exfalso
  have h3 := h1 _ h
  have := List.takeWhile_append_dropWhile (p := isFr) (l := l)
  cases hd : l.dropWhile isFr with
  | nil =>
   rw [hd, List.append_nil] at this
   have h4 : pagesN l = l.length := by unfold pagesN; rw [this]
   omega
  | cons y r =>
   have hy := List.head_dropWhile_not isFr (by rw [hd]; simp : l.dropWhile isFr ≠ [])
   simp only [hd, List.head_cons] at hy
   have e : l.getD (pagesN l) En.dflt = y := by
    conv => lhs; arg 1; rw [← this, hd]
    unfold pagesN
    rw [List.getD_eq_getElem?_getD, List.getElem?_append_right (Nat.le_refl _), Nat.sub_self]
    rfl
   rw [e, hy] at h3
   cases h3
 ·exact h
 ·rw [pages_get h] at h2; cases h2
theorem l12Frame_con (x : Int) : Con Tryz.prog 295 [.v (iv x)] [] (fun y _ => y = .v (.bool (isFr x))) := by
 refine ob Tryz.func295 Tryz.ntmps295 ?_
 refine go [.R,.a,.Z,.R,.m,.b,.N,.m] (k := ?_)
 apply AWL.cut 2
 ·intro Kg1
  refine AWL.split 5 rfl (fun g1 => ?_) (fun g1 => ?_)
  ·refine go [.m,.b,.N] (k := ?_)
   exact wjT 7 [6, 7] (ifT g1 _ undef) Kg1
  ·refine go [.x,.x] (k := ?_)
   exact wjF 7 [6, 7] (ifF g1 undef _) Kg1
 refine qq (Qt.pickAnd rfl rfl rfl) ?_
 refine go [.a,.Z] (k := ?_)
 refine rt1 2 ?_
 rw [show isFr x = (decide (x ≥ 0) && decide (x < 16)) from by unfold isFr; congr 2; apply propext; omega]
 rfl
theorem cloneI_con (l : List Int) (hs : l.length ≤ 4194304) : Con Tryz.prog 46 [.h base []] [.rt base .ro (tr l)] (Ret (.h 0 []) [(0, .row, tr l)]) := by
 refine ob Tryz.func46 Tryz.ntmps46 ?_
 refine go [.R,.a,.Z,.R2,.m] (k := ?_)
 refine AWL.nilTest rfl rfl rfl (by decide) rfl rfl rfl sl27 ?_
 intro b1 hb1
 refine go [.Z] (k := ?_)
 refine cd (fun c2 => ?_) fun c2 => ?_
 ·try simp only [cnd] at c2
  refine go [.R,.a,.Z] (k := ?_)
  have hl0 : l = [] := List.eq_nil_of_length_eq_zero (hb1 c2)
  subst hl0
  refine AW.nilRow 2 900 1 (by omega) rfl rfl (by decide) ?_
  refine AW.rep 900 (tr ([] : List Int)) rfl sim_nil ?_
  refine rt1 2 ?_
  refine ⟨fun _ => 900, rfl, nodup_of rfl, ?_⟩
  intro r hr
  cases List.mem_singleton.1 hr
  exact ⟨by simp, rootL_mem rfl⟩
 try simp only [cnd] at c2
 refine go [.J,.R,.S,.N,.m] (k := ?_)
 refine sp (by first | exact Stp.appendC rfl (by decide) (by decide) rfl rfl (by omega) | exact Stp.appendM rfl (by decide) (by decide) rfl rfl rfl (by omega)) ?_
 refine go [.N,.a,.Z] (k := ?_)
 refine AW.rep 7 (tr l) rfl (app_nil (α := Int)) ?_
 refine rt1 2 ?_
 refine ⟨fun _ => 7, rfl, nodup_of rfl, ?_⟩
 intro r hr
 cases List.mem_singleton.1 hr
 exact ⟨by simp, rootL_mem rfl⟩
end Go.Proofs.YthjfgpkjooaahaaGreat.VM

