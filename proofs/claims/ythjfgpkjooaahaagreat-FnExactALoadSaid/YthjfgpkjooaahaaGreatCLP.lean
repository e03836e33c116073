/- Contracts. No conditions. -/
import Derived.Test.YthjfgpkjooaahaaGreatCLB
import Derived.Test.YthjfgpkjooaahaaGreatCLG
set_option linter.all false
set_option maxHeartbeats 8000000
set_option maxRecDepth 10000
namespace Go.Proofs.YthjfgpkjooaahaaGreat.VM
open Go Go.RowKit Go.Proofs
theorem row1_sim {α : Type} [En α] {a : α} {f : Nat → Nat → T} (h : ∀ c, c < En.n α → (f 0 c).sim ((En.cs a).getD c .j)) : (T.s (En.n α) 1 f).sim (tr [a]) := by
 refine ⟨_, rfl, fun k c hk hc => ?_⟩
 obtain rfl : k = 0 := by omega
 exact h c hc
instance : Fl DIns := ⟨(fun a c hc => by
 have hc' : c < 4 := hc
 match c, hc' with
 | 0, _ => rfl
 | 1, _ => rfl
 | 2, _ => rfl
 | 3, _ => rfl
 | c + 4, h => omega)⟩
theorem rowsG_bd {α : Type} [En α] [Mk α] {l : List (List α)} (hw : Mk.wt l ≤ 1048576) : l.length ≤ 1048576 ∧ ∀ k, k < l.length → (l.getD k En.dflt).length ≤ 1048576 := by
 have h1 := wt_list l
 refine ⟨by omega, fun k hk => ?_⟩
 have h2 := wtL_get (w := Mk.wt) (d := En.dflt) (l := l) (i := k) hk
 have h3 := wt_list (l.getD k En.dflt)
 omega
theorem wt_ge {α : Type} [Mk α] {l : List α} {k : Nat} (hk : k < l.length) : Mk.wt (l.getD k En.dflt) + l.length ≤ Mk.wt l := by
 have h1 := wt_list l
 have h2 := wtL_get (w := Mk.wt) (d := En.dflt) (l := l) (i := k) hk
 omega
theorem cloneIns_con (l : List DIns) (hs : l.length ≤ 4194304) : Con Tryz.prog 164 [.h base []] [.rt base .ro (tr l)] (Ret (.h 0 []) [(0, .row, tr l)]) := by
 refine ob Tryz.func164 Tryz.ntmps164 ?_
 refine go [.R,.a,.Z,.R2,.m] (k := ?_)
 refine AWL.nilTest rfl rfl rfl (by decide) rfl rfl rfl sl206 ?_
 intro b1 hb1
 refine go [.Z] (k := ?_)
 refine cd (fun c2 => ?_) fun c2 => ?_
 ·try simp only [cnd] at c2
  refine go [.R,.a,.Z] (k := ?_)
  have hl0 : l = [] := List.eq_nil_of_length_eq_zero (hb1 c2)
  subst hl0
  refine AW.nilRow 2 900 4 (by omega) rfl rfl (by decide) ?_
  refine AW.rep 900 (tr ([] : List DIns)) rfl sim_nil ?_
  refine rt1 2 ?_
  refine ⟨fun _ => 900, rfl, nodup_of rfl, ?_⟩
  intro r hr
  cases List.mem_singleton.1 hr
  exact ⟨by simp, rootL_mem rfl⟩
 try simp only [cnd] at c2
 refine go [.J,.R,.S,.N,.m] (k := ?_)
 refine sp (by first | exact Stp.appendC rfl (by decide) (by decide) rfl rfl (by omega) | exact Stp.appendM rfl (by decide) (by decide) rfl rfl rfl (by omega)) ?_
 refine go [.N,.a,.Z] (k := ?_)
 refine AW.rep 7 (tr l) rfl (app_nil (α := DIns)) ?_
 refine rt1 2 ?_
 refine ⟨fun _ => 7, rfl, nodup_of rfl, ?_⟩
 intro r hr
 cases List.mem_singleton.1 hr
 exact ⟨by simp, rootL_mem rfl⟩
theorem cloneProgs_con (l : List (List DIns)) (hw : Mk.wt l ≤ 1048576) : Con Tryz.prog 45 [.h base []] [.rt base .ro (tr l)] (Ret (.h 0 []) [(0, .row, tr l)]) := by
 refine ob Tryz.func45 Tryz.ntmps45 ?_
 refine AW.len (base) [] rfl (by simp [Okp]) rfl (fun hl => ?_)
 have hbd := rowsG_bd hw
 refine go [.R,.a,.Z,.R,.a,.Z,.R2,.m,.N,.h,.m,.Z] (k := ?_)
 refine AW.block ?_
 refine AW.nilRow 3 16 1 (by omega) rfl rfl (by decide) ?_
 refine AW.loopW (fun i : KInv l.length => [.sl 8 (.v (iv i.k)), .sl 7 (.v (iv l.length)), .sl 6 (.h base []), .sl 3 (.h 16 []), .rt base .ro (tr l), .rt 16 .row (tr (l.take i.k))]) (fun i => l.length - i.k) ⟨0, Nat.zero_le _⟩ (Weak.sim ⟨rfl, rfl, rfl, rfl, Rf rfl, ⟨_, rfl, sim_nil⟩, trivial⟩ rfl rfl) ?_
 intro i
 have hle := i.le
 refine go [.R,.b,.Z] (k := ?_)
 refine AW.seq ?_
 refine cd (fun c1 => ?_) fun c1 => ?_
 ·try simp only [cnd] at c1
  have hik := hbd.2 i.k (by omega)
  have htl : (l.take i.k).length ≤ 1048576 := by rw [List.length_take]; omega
  refine jd (AW.seq (AW.block (sr ?_)))
  refine go [.i,.N,.l,.a,.Z,.R1,.m,.N,.m] (k := ?_)
  refine sp (Stp.callR rfl (by decide) Tryz.call164 rfl rfl (cloneIns_con _ (by omega)) (nodup_of rfl) rfl rfl) ?_
  refine go [.N,.S,.N] (k := ?_)
  refine AWL.rep 15 (tr [(l.getD i.k En.dflt)]) rfl (row1_sim (α := List DIns) (fun c hc => match c, hc with | 0, _ => tsr | c + 1, hc => absurd hc (by simp only [En.n]; omega))) ?_
  refine go [.N] (k := ?_)
  refine sp (Stp.appendM rfl (by decide) (by decide) rfl rfl rfl (by simp only [List.length_cons, List.length_nil]; omega)) ?_
  refine go [.N] (k := ?_)
  refine AWL.rep 16 (tr (l.take (i.k + 1))) rfl (by rw [take_snocG En.dflt (show i.k < l.length by omega)]; exact app_sim (l := l.take i.k) (l' := [l.getD i.k En.dflt]) rfl (fun _ _ _ _ => rfl) (fun _ _ _ _ => rfl)) ?_
  refine go [.N,.a,.Z,.R1,.b,.m,.Z] (k := ?_)
  refine ⟨⟨i.k + 1, by omega⟩, ws, ?_⟩
  show l.length - (i.k + 1) < l.length - i.k
  omega
 try simp only [cnd] at c1
 refine AW.exit ?_
 dsimp only [thenQ, blockQ, reduceIte]
 refine go [.R,.m,.N,.a,.Z] (k := ?_)
 refine AW.rep 16 (tr l) rfl (by rw [List.take_of_length_le (by omega)]; exact tsr) ?_
 refine rt1 2 ?_
 refine ⟨fun _ => 16, rfl, nodup_of rfl, ?_⟩
 intro r hr
 cases List.mem_singleton.1 hr
 exact ⟨by simp, rootL_mem rfl⟩
theorem l6CopyProgs_con (l : List (List DIns)) (hw : Mk.wt l ≤ 1048576) : Con Tryz.prog 178 [.h base []] [.rt base .ro (tr l)] (Ret (.h 0 []) [(0, .row, tr l)]) := by
 refine ob Tryz.func178 Tryz.ntmps178 ?_
 refine AW.len (base) [] rfl (by simp [Okp]) rfl (fun hl => ?_)
 have hbd := rowsG_bd hw
 refine go [.R,.a,.Z,.R,.S,.N,.a,.Z,.R2,.a,.Z] (k := ?_)
 refine AW.block ?_
 refine AW.renR 5 20 rfl (by decide) (by decide) ?_
 refine AW.loopW (fun i : KInv l.length => [.sl 4 (.v (iv i.k)), .sl 0 (.h base []), .sl 3 (.h 20 []), .rt base .ro (tr l), .rt 20 .row (tr (l.take i.k))]) (fun i => l.length - i.k) ⟨0, Nat.zero_le _⟩ (Weak.sim ⟨rfl, rfl, rfl, Rf rfl, ⟨_, rfl, sim_nil⟩, trivial⟩ rfl rfl) ?_
 intro i
 have hle := i.le
 refine go [.R2,.m,.N,.m,.h,.b,.Z] (k := ?_)
 refine cd (fun c1 => ?_) fun c1 => ?_
 ·try simp only [cnd] at c1
  have hik := hbd.2 i.k (by omega)
  have htl : (l.take i.k).length ≤ 1048576 := by rw [List.length_take]; omega
  refine jd (AW.seq (AW.block (AW.region ?_)))
  refine go [.m,.N,.S,.N,.m,.m,.i,.N,.l] (k := ?_)
  refine sp (by first | exact Stp.appendC rfl (by decide) (by decide) rfl rfl (by omega) | exact Stp.appendM rfl (by decide) (by decide) rfl rfl rfl (by omega)) ?_
  refine go [.N] (k := ?_)
  refine AWL.rep 18 (tr (l.getD i.k En.dflt)) rfl (app_nil (α := DIns)) ?_
  refine go [.N,.S,.N] (k := ?_)
  refine AWL.rep 19 (tr [(l.getD i.k En.dflt)]) rfl (row1_sim (α := List DIns) (fun c hc => match c, hc with | 0, _ => tsr | c + 1, hc => absurd hc (by simp only [En.n]; omega))) ?_
  refine go [.N] (k := ?_)
  refine sp (Stp.appendM rfl (by decide) (by decide) rfl rfl rfl (by simp only [List.length_cons, List.length_nil]; omega)) ?_
  refine go [.N] (k := ?_)
  refine AWL.rep 20 (tr (l.take (i.k + 1))) rfl (by rw [take_snocG En.dflt (show i.k < l.length by omega)]; exact app_sim (l := l.take i.k) (l' := [l.getD i.k En.dflt]) rfl (fun _ _ _ _ => rfl) (fun _ _ _ _ => rfl)) ?_
  refine go [.N,.a,.Z,.R1,.m,.b,.N,.a,.Z] (k := ?_)
  refine ⟨⟨i.k + 1, by omega⟩, ws, ?_⟩
  show l.length - (i.k + 1) < l.length - i.k
  omega
 try simp only [cnd] at c1
 refine AW.exit ?_
 dsimp only [thenQ, blockQ, reduceIte]
 refine go [.R,.m,.a,.Z] (k := ?_)
 refine AW.rep 20 (tr l) rfl (by rw [List.take_of_length_le (by omega)]; exact tsr) ?_
 refine rt1 2 ?_
 refine ⟨fun _ => 20, rfl, nodup_of rfl, ?_⟩
 intro r hr
 cases List.mem_singleton.1 hr
 exact ⟨by simp, rootL_mem rfl⟩
end Go.Proofs.YthjfgpkjooaahaaGreat.VM

