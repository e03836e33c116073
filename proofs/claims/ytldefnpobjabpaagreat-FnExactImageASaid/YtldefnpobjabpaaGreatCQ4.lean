/- Contracts. No conditions. -/
import Derived.Test.YtldefnpobjabpaaGreatCQ3
set_option linter.all false
set_option maxHeartbeats 8000000
set_option maxRecDepth 10000
namespace Go.Proofs.YtldefnpobjabpaaGreat.VM
open Go Go.RowKit Go.Proofs
def isFr (x : Int) : Bool := decide (0 ≤ x) && decide (x ≤ 15)
def pagesN (l : List Int) : Nat := (l.takeWhile isFr).length
def frW (ram : List Int) (f : Int) : List Int := (ram.drop (f * 4).toNat).take 4
def memK (ram fs : List Int) (k : Nat) : List Int := ((fs.take k).map (frW ram)).flatten
def dataK (r : DARing) (k : Nat) : List Int := (List.range k).map fun i : Nat => r.Buf.getD ((r.Head + (i : Int)).tmod (r.Buf.length : Int)).toNat En.dflt
def dataL (r : DARing) : List Int := dataK r r.Len.toNat
theorem pagesN_le (l : List Int) : pagesN l ≤ l.length := by
 unfold pagesN
 exact List.IsPrefix.length_le (List.takeWhile_prefix isFr)
theorem pages_ix (l : List Int) : ixOf (fun x => !isFr x) l = if pagesN l = l.length then -1 else (pagesN l : Int) := by
 unfold ixOf pagesN
 induction l with
 | nil => rfl
 | cons x l ih =>
  rw [List.findIdx?_cons, List.takeWhile_cons]
  cases hx : isFr x with
  | false => simp
  | true =>
   simp only [Bool.not_true, Bool.false_eq_true, if_false, if_true, List.length_cons]
   cases hf : List.findIdx? (fun x => !isFr x) l with
   | none =>
    rw [hf] at ih
    simp only [Option.map_none]
    have : (List.takeWhile isFr l).length = l.length := by
     simp only at ih
     split at ih
     ·assumption
     ·omega
    rw [if_pos (by omega)]
   | some i =>
    rw [hf] at ih
    simp only [Option.map_some]
    simp only at ih
    split at ih
    ·omega
    ·rw [if_neg (by omega)]
     push_cast
     omega
theorem pages_take (l : List Int) : l.take (pagesN l) = l.takeWhile isFr := by
 unfold pagesN
 exact (List.prefix_iff_eq_take.1 (List.takeWhile_prefix isFr)).symm
theorem pages_get {l : List Int} {k : Nat} (h : k < pagesN l) : isFr (l.getD k En.dflt) = true := by
 have hl := pagesN_le l
 have e : (l.takeWhile isFr)[k]'h = l[k]'(by omega) := by
  have := List.IsPrefix.getElem (List.takeWhile_prefix isFr (l := l)) h
  exact this
 have hm : (l.takeWhile isFr)[k]'h ∈ l.takeWhile isFr := List.getElem_mem _
 have := List.all_eq_true.1 (List.all_takeWhile (p := isFr) (l := l)) _ hm
 rw [e] at this
 rw [List.getD_eq_getElem?_getD, List.getElem?_eq_getElem (by omega)]
 exact this
theorem pages_end {l : List Int} {k : Nat} (hk : k < l.length) (h1 : ∀ j, j < k → isFr (l.getD j En.dflt) = true) (h2 : isFr (l.getD k En.dflt) = false) : pagesN l = k := by
 rcases Nat.lt_trichotomy (pagesN l) k with h | h | h
 ·exfalso
  have h3 := h1 _ h
  have := List.takeWhile_append_dropWhile (p := isFr) (l := l)
  cases hd : l.dropWhile isFr with
  | nil =>
   rw [hd, List.append_nil] at this
   have h4 : pagesN l = l.length := by unfold pagesN; rw [this]
   omega
  | cons y r =>
   have hy := List.head_dropWhile_not isFr (by rw [hd]; simp : l.dropWhile isFr ≠ [])
   simp only [hd, List.head_cons] at hy
   have e : l.getD (pagesN l) En.dflt = y := by
    conv => lhs; arg 1; rw [← this, hd]
    unfold pagesN
    rw [List.getD_eq_getElem?_getD, List.getElem?_append_right (Nat.le_refl _), Nat.sub_self]
    rfl
   rw [e, hy] at h3
   cases h3
 ·exact h
 ·rw [pages_get h] at h2; cases h2
theorem isFrame_con (x : Int) : Con Tryz.prog 136 [.v (iv x)] [] (fun y _ => y = .v (.bool (isFr x))) := by
 refine ob Tryz.func136 Tryz.ntmps136 ?_
 refine go [.R,.a,.Z,.R,.m] (k := ?_)
 refine cv Tryz.call156 rfl rfl (in_con _ _ _) ?_
 refine go [.N,.a,.Z] (k := ?_)
 refine rt1 2 ?_
 rfl
theorem l12Frame_con (x : Int) : Con Tryz.prog 155 [.v (iv x)] [] (fun y _ => y = .v (.bool (isFr x))) := by
 refine ob Tryz.func155 Tryz.ntmps155 ?_
 refine go [.R,.a,.Z,.R,.m,.b,.N,.m] (k := ?_)
 apply AWL.cut 2
 ·intro Kg1
  refine AWL.split 5 rfl (fun g1 => ?_) (fun g1 => ?_)
  ·refine go [.m,.b,.N] (k := ?_)
   exact wjT 7 [6, 7] (ifT g1 _ undef) Kg1
  ·refine go [.x,.x] (k := ?_)
   exact wjF 7 [6, 7] (ifF g1 undef _) Kg1
 refine qq (Qt.pickAnd rfl rfl rfl) ?_
 refine go [.a,.Z] (k := ?_)
 refine rt1 2 ?_
 rw [show isFr x = (decide (x ≥ 0) && decide (x < 16)) from by unfold isFr; congr 2; apply propext; omega]
 rfl
theorem pagesOf1_con (x : Int) : Con Tryz.prog 135 [.v (iv x)] [] (fun y _ => y = .v (.bool !(isFr x))) := by
 refine ob Tryz.func135 Tryz.ntmps135 ?_
 refine go [.R,.a,.Z,.R,.m] (k := ?_)
 refine cv Tryz.call136 rfl rfl (isFrame_con _) ?_
 refine go [.N,.n,.a,.Z] (k := ?_)
 refine rt1 2 ?_
 rfl
theorem ixI_con {fid : FuncId} {p : Int → Bool} (hE : Ent Tryz.prog fid) (hp : ∀ x : Int, Con Tryz.prog fid [.v (iv x)] [] (fun y _ => y = .v (.bool (p x)))) (l : List Int) : Con Tryz.prog 134 [.h base [], .f fid []] [.rt base .ro (tr l)] (fun y _ => y = .v (iv (ixOf p l))) := by
 refine ob Tryz.func134 Tryz.ntmps134 ?_
 refine AW.len base [] rfl (by simp [Okp]) rfl (fun hl => ?_)
 refine go [.R,.a,.Z,.R2,.m,.h,.N,.m,.Z] (k := ?_)
 refine AW.block ?_
 refine AW.loopW (fun i : IxInv p l => [.sl 8 (.v (iv i.k)), .sl 7 (.v (iv l.length)), .sl 0 (.h base []), .sl 1 (.f fid []), .rt base .ro (tr l)]) (fun i => l.length - i.k) ⟨0, Nat.zero_le _, rfl⟩ (ws) ?_
 intro i
 have hle := i.le
 refine go [.R,.b,.Z] (k := ?_)
 refine AW.seq ?_
 refine cd (fun c1 => ?_) fun c1 => ?_
 ·try simp only [cnd] at c1
  refine jd (AW.seq (AW.block (sr ?_)))
  refine go [.m,.N,.a,.Z,.R,.m,.m,.N,.m,.i,.l,.N] (k := ?_)
  refine cv hE rfl rfl (hp (l.getD i.k En.dflt)) ?_
  refine go [.Z] (k := ?_)
  refine cd (fun c2 => ?_) fun c2 => ?_
  ·try simp only [cnd] at c2
   refine go [.R,.m,.N,.a,.Z] (k := ?_)
   refine rt1 4 ?_
   rw [ixOf_hit i En.dflt (by omega) c2]
   rfl
  try simp only [cnd] at c2
  refine go [.J,.R1,.b,.m,.Z] (k := ?_)
  refine ⟨⟨i.k + 1, by omega, i.next En.dflt (by omega) c2⟩, ws, ?_⟩
  show l.length - (i.k + 1) < l.length - i.k
  omega
 try simp only [cnd] at c1
 refine AW.exit ?_
 dsimp only [thenQ, blockQ, reduceIte]
 refine go [.R,.a,.Z] (k := ?_)
 refine rt1 4 ?_
 rw [ixOf_none i (by omega)]
 rfl
theorem cloneI_con (l : List Int) (hs : l.length ≤ 4194304) : Con Tryz.prog 46 [.h base []] [.rt base .ro (tr l)] (Ret (.h 0 []) [(0, .row, tr l)]) := by
 refine ob Tryz.func46 Tryz.ntmps46 ?_
 refine go [.R,.a,.Z,.R2,.m] (k := ?_)
 refine AWL.nilTest rfl rfl rfl (by decide) rfl rfl rfl sl24 ?_
 intro b1 hb1
 refine go [.Z] (k := ?_)
 refine cd (fun c2 => ?_) fun c2 => ?_
 ·try simp only [cnd] at c2
  refine go [.R,.a,.Z] (k := ?_)
  have hl0 : l = [] := List.eq_nil_of_length_eq_zero (hb1 c2)
  subst hl0
  refine AW.nilRow 2 900 1 (by omega) rfl rfl (by decide) ?_
  refine AW.rep 900 (tr ([] : List Int)) rfl sim_nil ?_
  refine rt1 2 ?_
  refine ⟨fun _ => 900, rfl, nodup_of rfl, ?_⟩
  intro r hr
  cases List.mem_singleton.1 hr
  exact ⟨by simp, rootL_mem rfl⟩
 try simp only [cnd] at c2
 refine go [.J,.R,.S,.N,.m] (k := ?_)
 refine sp (by first | exact Stp.appendC rfl (by decide) (by decide) rfl rfl (by omega) | exact Stp.appendM rfl (by decide) (by decide) rfl rfl rfl (by omega)) ?_
 refine go [.N,.a,.Z] (k := ?_)
 refine AW.rep 7 (tr l) rfl (app_nil (α := Int)) ?_
 refine rt1 2 ?_
 refine ⟨fun _ => 7, rfl, nodup_of rfl, ?_⟩
 intro r hr
 cases List.mem_singleton.1 hr
 exact ⟨by simp, rootL_mem rfl⟩
end Go.Proofs.YtldefnpobjabpaaGreat.VM

