/- Contracts. No conditions. -/
import Derived.Test.YtekcnnngjoonbaaGreatCN4
set_option linter.all false
set_option maxHeartbeats 8000000
set_option maxRecDepth 10000
namespace Go.Proofs.YtekcnnngjoonbaaGreat.VM
open Go Go.RowKit Go.Proofs
theorem row1_sim {α : Type} [En α] {a : α} {f : Nat → Nat → T} (h : ∀ c, c < En.n α → (f 0 c).sim ((En.cs a).getD c .j)) : (T.s (En.n α) 1 f).sim (tr [a]) := by
 refine ⟨_, rfl, fun k c hk hc => ?_⟩
 obtain rfl : k = 0 := by omega
 exact h c hc
instance : Fl DIns := ⟨(fun a c hc => by
 have hc' : c < 4 := hc
 match c, hc' with
 | 0, _ => rfl
 | 1, _ => rfl
 | 2, _ => rfl
 | 3, _ => rfl
 | c + 4, h => omega)⟩
instance : Fl DOpen := ⟨(fun a c hc => by
 have hc' : c < 5 := hc
 match c, hc' with
 | 0, _ => rfl
 | 1, _ => rfl
 | 2, _ => rfl
 | 3, _ => rfl
 | 4, _ => rfl
 | c + 5, h => omega)⟩
theorem rowsG_bd {α : Type} [En α] [Mk α] {l : List (List α)} (hw : Mk.wt l ≤ 1048576) : l.length ≤ 1048576 ∧ ∀ k, k < l.length → (l.getD k En.dflt).length ≤ 1048576 := by
 have h1 := wt_list l
 refine ⟨by omega, fun k hk => ?_⟩
 have h2 := wtL_get (w := Mk.wt) (d := En.dflt) (l := l) (i := k) hk
 have h3 := wt_list (l.getD k En.dflt)
 omega
theorem take_snocG {α : Type} {l : List α} {k : Nat} (d : α) (h : k < l.length) : l.take (k + 1) = l.take k ++ [l.getD k d] := by
 rw [List.take_add_one, List.getElem?_eq_getElem h]
 simp [List.getD_eq_getElem?_getD, h]
theorem wt_ge {α : Type} [Mk α] {l : List α} {k : Nat} (hk : k < l.length) : Mk.wt (l.getD k En.dflt) + l.length ≤ Mk.wt l := by
 have h1 := wt_list l
 have h2 := wtL_get (w := Mk.wt) (d := En.dflt) (l := l) (i := k) hk
 omega
theorem wt_len {α : Type} [Mk α] (l : List α) : l.length ≤ Mk.wt l := by
 have h1 := wt_list l
 omega
theorem cloneIns_con (l : List DIns) (hs : l.length ≤ 4194304) : Con Tryz.prog 116 [.h base []] [.rt base .ro (tr l)] (Ret (.h 0 []) [(0, .row, tr l)]) := by
 refine ob Tryz.func116 Tryz.ntmps116 ?_
 refine sr ?_
 refine qn ?_
 refine sr2 ?_
 refine qm ?_
 refine AWL.nilTest rfl rfl rfl (by decide) rfl rfl rfl sl141 ?_
 intro b1 hb1
 refine nc (fun c2 => ?_) fun c2 => ?_
 ·try simp only [cnd] at c2
  refine sr ?_
  refine qn ?_
  have hl0 : l = [] := List.eq_nil_of_length_eq_zero (hb1 c2)
  subst hl0
  refine AW.nilRow 2 900 4 (by omega) rfl rfl (by decide) ?_
  refine AW.rep 900 (tr ([] : List DIns)) rfl sim_nil ?_
  refine rt1 2 ?_
  refine ⟨fun _ => 900, rfl, nodup_of rfl, ?_⟩
  intro r hr
  cases List.mem_singleton.1 hr
  exact ⟨by simp, rootL_mem rfl⟩
 try simp only [cnd] at c2
 refine jd (sr ?_)
 refine sp sS ?_
 refine nm ?_
 refine qm ?_
 refine sp (by first | exact Stp.appendC rfl (by decide) (by decide) rfl rfl (by omega) | exact Stp.appendM rfl (by decide) (by decide) rfl rfl rfl (by omega)) ?_
 refine nm ?_
 refine qn ?_
 refine AW.rep 7 (tr l) rfl (app_nil (α := DIns)) ?_
 refine rt1 2 ?_
 refine ⟨fun _ => 7, rfl, nodup_of rfl, ?_⟩
 intro r hr
 cases List.mem_singleton.1 hr
 exact ⟨by simp, rootL_mem rfl⟩
theorem cloneProgs_con (l : List (List DIns)) (hw : Mk.wt l ≤ 1048576) : Con Tryz.prog 36 [.h base []] [.rt base .ro (tr l)] (Ret (.h 0 []) [(0, .row, tr l)]) := by
 refine ob Tryz.func36 Tryz.ntmps36 ?_
 refine AW.len (base) [] rfl (by simp [Okp]) rfl (fun hl => ?_)
 have hbd := rowsG_bd hw
 refine sr ?_
 refine qs' ?_
 refine qn ?_
 refine sr2 ?_
 refine mn ?_
 refine qh sl34 ?_
 refine qm ?_
 refine nl ?_
 refine AW.block ?_
 refine AW.nilRow 3 16 1 (by omega) rfl rfl (by decide) ?_
 refine AW.loopW (fun i : KInv l.length => [.sl 8 (.v (iv i.k)), .sl 7 (.v (iv l.length)), .sl 6 (.h base []), .sl 3 (.h 16 []), .rt base .ro (tr l), .rt 16 .row (tr (l.take i.k))]) (fun i => l.length - i.k) ⟨0, Nat.zero_le _⟩ (Weak.sim ⟨rfl, rfl, rfl, rfl, Rf rfl, ⟨_, rfl, sim_nil⟩, trivial⟩ rfl rfl) ?_
 intro i
 have hle := i.le
 refine sr ?_
 refine qb ?_
 refine nl ?_
 refine AW.seq ?_
 refine cd (fun c1 => ?_) fun c1 => ?_
 ·try simp only [cnd] at c1
  have hik := hbd.2 i.k (by omega)
  have htl : (l.take i.k).length ≤ 1048576 := by rw [List.length_take]; omega
  refine jd (AW.seq (AW.block (sr ?_)))
  refine qq (ix sl34 sz141) ?_
  refine nm ?_
  refine ql ag141 ?_
  refine qn ?_
  refine AW.region ?_
  refine mn ?_
  refine qm ?_
  refine sp (Stp.callR rfl (by decide) Tryz.call116 rfl rfl (cloneIns_con _ (by omega)) (nodup_of rfl) rfl rfl) ?_
  refine nm ?_
  refine sp sS ?_
  refine nm ?_
  refine AWL.rep 15 (tr [(l.getD i.k En.dflt)]) rfl (row1_sim (α := List DIns) (fun c hc => match c, hc with | 0, _ => tsr | c + 1, hc => absurd hc (by simp only [En.n]; omega))) ?_
  refine nm ?_
  refine sp (Stp.appendM rfl (by decide) (by decide) rfl rfl rfl (by simp only [List.length_cons, List.length_nil]; omega)) ?_
  refine nm ?_
  refine AWL.rep 16 (tr (l.take (i.k + 1))) rfl (by rw [take_snocG En.dflt (show i.k < l.length by omega)]; exact app_sim (l := l.take i.k) (l' := [l.getD i.k En.dflt]) rfl (fun _ _ _ _ => rfl) (fun _ _ _ _ => rfl)) ?_
  refine nm ?_
  refine qn ?_
  refine AW.region ?_
  refine ba ?_
  refine qm ?_
  refine nl ?_
  refine ⟨⟨i.k + 1, by omega⟩, Weak.sim ⟨st1, rfl, rfl, rfl, Rf rfl, Rf rfl, trivial⟩ rfl rfl, ?_⟩
  show l.length - (i.k + 1) < l.length - i.k
  omega
 try simp only [cnd] at c1
 refine AW.exit ?_
 dsimp only [thenQ, blockQ, reduceIte]
 refine sr ?_
 refine mn ?_
 refine qn ?_
 refine AW.rep 16 (tr l) rfl (by rw [List.take_of_length_le (by omega)]; exact tsr) ?_
 refine rt1 2 ?_
 refine ⟨fun _ => 16, rfl, nodup_of rfl, ?_⟩
 intro r hr
 cases List.mem_singleton.1 hr
 exact ⟨by simp, rootL_mem rfl⟩
theorem l6CopyProgs_con (l : List (List DIns)) (hw : Mk.wt l ≤ 1048576) : Con Tryz.prog 95 [.h base []] [.rt base .ro (tr l)] (Ret (.h 0 []) [(0, .row, tr l)]) := by
 refine ob Tryz.func95 Tryz.ntmps95 ?_
 refine AW.len (base) [] rfl (by simp [Okp]) rfl (fun hl => ?_)
 have hbd := rowsG_bd hw
 refine sr ?_
 refine qs' ?_
 refine sp sS ?_
 refine nm ?_
 refine qn ?_
 refine sr2 ?_
 refine qn ?_
 refine AW.block ?_
 refine AW.renR 5 20 rfl (by decide) (by decide) ?_
 refine AW.loopW (fun i : KInv l.length => [.sl 4 (.v (iv i.k)), .sl 0 (.h base []), .sl 3 (.h 20 []), .rt base .ro (tr l), .rt 20 .row (tr (l.take i.k))]) (fun i => l.length - i.k) ⟨0, Nat.zero_le _⟩ (Weak.sim ⟨rfl, rfl, rfl, Rf rfl, ⟨_, rfl, sim_nil⟩, trivial⟩ rfl rfl) ?_
 intro i
 have hle := i.le
 refine sr2 ?_
 refine mn ?_
 refine qm ?_
 refine qh sl34 ?_
 refine qb ?_
 refine nc (fun c1 => ?_) fun c1 => ?_
 ·try simp only [cnd] at c1
  have hik := hbd.2 i.k (by omega)
  have htl : (l.take i.k).length ≤ 1048576 := by rw [List.length_take]; omega
  refine jd (AW.seq (AW.block (AW.region ?_)))
  refine mn ?_
  refine sp sS ?_
  refine nm ?_
  refine qm ?_
  refine qm ?_
  refine qq (ix sl34 sz141) ?_
  refine nm ?_
  refine ql ag141 ?_
  refine sp (by first | exact Stp.appendC rfl (by decide) (by decide) rfl rfl (by omega) | exact Stp.appendM rfl (by decide) (by decide) rfl rfl rfl (by omega)) ?_
  refine nm ?_
  refine AWL.rep 18 (tr (l.getD i.k En.dflt)) rfl (app_nil (α := DIns)) ?_
  refine nm ?_
  refine sp sS ?_
  refine nm ?_
  refine AWL.rep 19 (tr [(l.getD i.k En.dflt)]) rfl (row1_sim (α := List DIns) (fun c hc => match c, hc with | 0, _ => tsr | c + 1, hc => absurd hc (by simp only [En.n]; omega))) ?_
  refine nm ?_
  refine sp (Stp.appendM rfl (by decide) (by decide) rfl rfl rfl (by simp only [List.length_cons, List.length_nil]; omega)) ?_
  refine nm ?_
  refine AWL.rep 20 (tr (l.take (i.k + 1))) rfl (by rw [take_snocG En.dflt (show i.k < l.length by omega)]; exact app_sim (l := l.take i.k) (l' := [l.getD i.k En.dflt]) rfl (fun _ _ _ _ => rfl) (fun _ _ _ _ => rfl)) ?_
  refine nm ?_
  refine qn ?_
  refine AW.region ?_
  refine qm ?_
  refine ba ?_
  refine nm ?_
  refine qn ?_
  refine ⟨⟨i.k + 1, by omega⟩, Weak.sim ⟨st1, rfl, rfl, Rf rfl, Rf rfl, trivial⟩ rfl rfl, ?_⟩
  show l.length - (i.k + 1) < l.length - i.k
  omega
 try simp only [cnd] at c1
 refine AW.exit ?_
 dsimp only [thenQ, blockQ, reduceIte]
 refine sr ?_
 refine qm ?_
 refine qn ?_
 refine AW.rep 20 (tr l) rfl (by rw [List.take_of_length_le (by omega)]; exact tsr) ?_
 refine rt1 2 ?_
 refine ⟨fun _ => 20, rfl, nodup_of rfl, ?_⟩
 intro r hr
 cases List.mem_singleton.1 hr
 exact ⟨by simp, rootL_mem rfl⟩
end Go.Proofs.YtekcnnngjoonbaaGreat.VM
