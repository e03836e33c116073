/- Contracts. No conditions. -/
import Derived.Test.YthjfgpkjooaahaaGreatCLS
import Derived.Test.YthjfgpkjooaahaaGreatCLA1
set_option linter.all false
set_option maxHeartbeats 8000000
set_option maxRecDepth 10000
namespace Go.Proofs.YthjfgpkjooaahaaGreat.VM
open Go Go.RowKit Go.Proofs
set_option maxRecDepth 10000 in
theorem MapOkJ_con (l : List Bool) : Con Tryz.prog 278 [.h base []] [.rt base .ro (tr l)] (fun y _ => y = .v (.bool (decide (l.length = 16)))) := by
 refine ob Tryz.func278 Tryz.ntmps278 ?_
 refine go [.R,.a,.Z,.R,.m,.h,.N,.b,.a,.Z] (k := ?_)
 refine rt1 2 ?_
 simp only [retX, slotL, reduceIte, Nat.reduceEqDiff]
 congr 3
 rw [Bool.eq_iff_iff]
 simp
 omega
set_option maxRecDepth 10000 in
theorem cloneB_con (l : List Bool) (hs : l.length ≤ 4194304) : Con Tryz.prog 279 [.h base []] [.rt base .ro (tr l)] (Ret (.h 0 []) [(0, .row, tr l)]) := by
 refine ob Tryz.func279 Tryz.ntmps279 ?_
 refine go [.R,.a,.Z,.R2,.m] (k := ?_)
 refine AWL.nilTest rfl rfl rfl (by decide) rfl rfl rfl sl33 ?_
 intro b1 hb1
 refine go [.Z] (k := ?_)
 refine cd (fun c2 => ?_) fun c2 => ?_
 ·try simp only [cnd] at c2
  refine go [.R,.a,.Z] (k := ?_)
  have hl0 : l = [] := List.eq_nil_of_length_eq_zero (hb1 c2)
  subst hl0
  refine AW.nilRow 2 900 1 (by omega) rfl rfl (by decide) ?_
  refine AW.weak (L' := [.rt 900 .row (tr ([] : List Bool)), .sl 2 (.h 900 [])]) (Weak.sim ⟨⟨_, rfl, T.sim_of fun k c hk => absurd hk (Nat.not_lt_zero k)⟩, rfl, trivial⟩ rfl rfl) ?_
  refine rt1 2 ?_
  refine ⟨fun _ => 900, rfl, nodup_of rfl, ?_⟩
  intro r hr
  cases List.mem_singleton.1 hr
  exact ⟨by simp, rootL_mem rfl⟩
 try simp only [cnd] at c2
 refine go [.J,.R,.S,.N,.m] (k := ?_)
 refine sp (by first | exact Stp.appendC rfl (by decide) (by decide) rfl rfl (by omega) | exact Stp.appendM rfl (by decide) (by decide) rfl rfl rfl (by omega)) ?_
 refine go [.N,.a,.Z] (k := ?_)
 refine AW.weak (L' := [.rt 7 .row (tr l), .sl 2 (.h 7 [])]) (Weak.sim ⟨⟨_, rfl, app_nil (α := Bool)⟩, rfl, trivial⟩ rfl rfl) ?_
 refine rt1 2 ?_
 refine ⟨fun _ => 7, rfl, nodup_of rfl, ?_⟩
 intro r hr
 cases List.mem_singleton.1 hr
 exact ⟨by simp, rootL_mem rfl⟩
set_option maxRecDepth 10000 in
theorem indexB_con (l : List Bool) (v : Bool) : Con Tryz.prog 280 [.h base [], .v (.bool v)] [.rt base .ro (tr l)] (fun y _ => y = .v (iv (ixOf (fun x => v == x) l))) := by
 refine ob Tryz.func280 Tryz.ntmps280 ?_
 refine AW.len base [] rfl (by simp [Okp]) rfl (fun hl => ?_)
 refine go [.R,.a,.Z,.R2,.m,.h,.N,.m,.Z] (k := ?_)
 refine AW.block ?_
 refine AW.loopW (fun i : IxInv (fun x => v == x) l => [.sl 8 (.v (iv i.k)), .sl 7 (.v (iv l.length)), .sl 0 (.h base []), .sl 1 (.v (.bool v)), .rt base .ro (tr l)]) (fun i => l.length - i.k) ⟨0, Nat.zero_le _, rfl⟩ (ws) ?_
 intro i
 have hle := i.le
 refine go [.R,.b,.Z] (k := ?_)
 refine AW.seq ?_
 refine cd (fun c1 => ?_) fun c1 => ?_
 ·try simp only [cnd] at c1
  refine jd (AW.seq (AW.block (sr ?_)))
  refine go [.m,.N,.a,.Z,.R,.m,.m,.N,.m,.i,.l,.N] (k := ?_)
  refine qq (Qt.eqB rfl rfl Tryz.underlying4) ?_
  refine go [.Z] (k := ?_)
  refine cd (fun c2 => ?_) fun c2 => ?_
  ·try simp only [cnd] at c2
   refine go [.R,.m,.a,.Z] (k := ?_)
   refine rt1 4 ?_
   rw [ixOf_hit i En.dflt (by omega) (by simpa using c2)]
   rfl
  try simp only [cnd] at c2
  refine go [.J,.R1,.b,.N,.m,.Z] (k := ?_)
  refine ⟨⟨i.k + 1, by omega, i.next En.dflt (by omega) (by simpa using c2)⟩, ws, ?_⟩
  show l.length - (i.k + 1) < l.length - i.k
  omega
 try simp only [cnd] at c1
 refine AW.exit ?_
 dsimp only [thenQ, blockQ, reduceIte]
 refine go [.R,.a,.Z] (k := ?_)
 refine rt1 4 ?_
 rw [ixOf_none i (by omega)]
 rfl

/-- the first frame that is free is taken -/
def mapTake (l : List Bool) : List Bool × Int := if l.length = 16 then (takeL l, ixOf (fun x => false == x) l) else ([], -1)
set_option maxRecDepth 10000 in
theorem l11Take_con (l : List Bool) : Con Tryz.prog 252 [.h base []] [.rt base .row (tr l)] (RetW (.t [.h base [], .v (iv (ixOf (fun x => false == x) l))]) [] [(base, tr (takeL l))]) := by
 refine ob Tryz.func252 Tryz.ntmps252 ?_
 refine AW.len base [] rfl (by simp [Okp]) rfl (fun hl => ?_)
 refine go [.R,.a,.a,.Z,.R2,.a,.Z] (k := ?_)
 refine AW.block ?_
 refine AW.loopW (fun i : IxInv (fun x => false == x) l => [.sl 4 (.v (iv i.k)), .sl 0 (.h base []), .rt base .row (tr l)]) (fun i => l.length - i.k) ⟨0, Nat.zero_le _, rfl⟩ (ws) ?_
 intro i
 have hle := i.le
 refine go [.R2,.m,.N,.m,.h,.b,.Z] (k := ?_)
 refine cd (fun c1 => ?_) fun c1 => ?_
 ·try simp only [cnd] at c1
  refine jd (AW.seq (AW.block (sr ?_)))
  refine go [.m,.N,.m,.i,.l,.N,.n,.Z] (k := ?_)
  refine cd (fun c2 => ?_) fun c2 => ?_
  ·try simp only [cnd] at c2
   refine go [.R,.m,.m,.N,.i,.s,.Z,.R,.m,.N,.m,.a,.a,.Z] (k := ?_)
   have hx : ixOf (fun x => false == x) l = i.k := ixOf_hit i En.dflt (by omega) (by simpa using c2)
   have ht : takeL l = l.set i.k true := by unfold takeL; rw [hx]; simp
   refine AW.weak (L' := [.rt base .row (tr (l.set i.k true)), .sl 2 (.h base []), .sl 3 (.v (iv i.k))]) (Weak.sim ⟨⟨_, rfl, (set_sim (fun k c hk => by simp only [upd_app, hk, false_and, if_false]; try rfl) (fun c hc => match c, hc with | 0, _ => (by simp only [upd_app, eq_self, and_self, if_true]; exact tsr) | c + 1, hc => absurd hc (by simp only [En.n]; omega)))⟩, rfl, rfl, trivial⟩ rfl rfl) ?_
   refine AW.ret (endQ_ret (.cons (.tmp 2) (.cons (.tmp 3) .nil)) ?_)
   rw [hx, ht]
   refine ⟨fun n => n, rfl, fun _ _ => rfl, List.nodup_nil, (by simp), ?_⟩
   intro p hp
   cases List.mem_singleton.1 hp
   exact rootL_mem rfl
  try simp only [cnd] at c2
  refine go [.J,.R1,.m,.N,.b,.a,.Z] (k := ?_)
  refine ⟨⟨i.k + 1, by omega, i.next En.dflt (by omega) (by simpa using c2)⟩, ws, ?_⟩
  show l.length - (i.k + 1) < l.length - i.k
  omega
 try simp only [cnd] at c1
 refine AW.exit ?_
 dsimp only [thenQ, blockQ, reduceIte]
 refine go [.R,.m,.N,.a,.a,.Z] (k := ?_)
 have hx : ixOf (fun x => false == x) l = -1 := ixOf_none i (by omega)
 have ht : takeL l = l := by unfold takeL; rw [hx]; simp
 refine AW.ret (endQ_ret (.cons (.tmp 2) (.cons (.tmp 3) .nil)) ?_)
 rw [hx, ht]
 refine ⟨fun n => n, rfl, fun _ _ => rfl, List.nodup_nil, (by simp), ?_⟩
 intro p hp
 cases List.mem_singleton.1 hp
 exact rootL_mem rfl
set_option maxRecDepth 10000 in
theorem MapTakeI_con (l : List Bool) : Con Tryz.prog 166 [.h base []] [.rt base .ro (tr l)] (Ret (.t [.h 0 [], .v (iv (mapTake l).2)]) [(0, .row, tr (mapTake l).1)]) := by
 refine ob Tryz.func166 Tryz.ntmps166 ?_
 have hix := ixOf_bd (fun x => false == x) l
 refine go [.R,.a,.a,.Z,.R2,.m,.N] (k := ?_)
 refine cv Tryz.call278 rfl rfl (MapOkJ_con _) ?_
 refine go [.N,.n,.Z] (k := ?_)
 refine cd (fun c1 => ?_) fun c1 => ?_
 ·try simp only [cnd] at c1
  refine go [.R,.a,.a,.Z] (k := ?_)
  have hm : mapTake l = ([], -1) := if_neg c1
  refine AW.nilRow 2 900 1 (by omega) rfl rfl (by decide) ?_
  refine AW.weak (L' := [.rt 900 .row (tr (mapTake l).1), .sl 2 (.h 900 []), .sl 3 (.v (iv (mapTake l).2))]) (Weak.sim ⟨⟨_, rfl, (by rw [hm]; exact T.sim_of fun k c hk => absurd hk (Nat.not_lt_zero k))⟩, rfl, (by rw [hm]; rfl), trivial⟩ rfl rfl) ?_
  refine AW.ret (endQ_ret (.cons (.tmp 2) (.cons (.tmp 3) .nil)) ?_)
  refine ⟨fun _ => 900, rfl, nodup_of rfl, ?_⟩
  intro r hr
  cases List.mem_singleton.1 hr
  exact ⟨by simp, rootL_mem rfl⟩
 try simp only [cnd] at c1
 refine go [.J,.R,.m,.N] (k := ?_)
 refine sp (Stp.callR rfl (by decide) Tryz.call279 rfl rfl (cloneB_con _ (by omega)) (nodup_of rfl) rfl rfl) ?_
 refine go [.N,.a,.Z,.R,.m] (k := ?_)
 refine cv Tryz.call280 rfl rfl (indexB_con _ _) ?_
 refine go [.N,.a,.Z,.R2,.m,.b,.Z] (k := ?_)
 refine cd (fun c2 => ?_) fun c2 => ?_
 ·try simp only [cnd] at c2
  refine go [.R1,.m,.N,.m,.i,.s,.Z,.R,.m,.N,.m,.a,.a,.Z] (k := ?_)
  have hm : mapTake l = (takeL l, ixOf (fun x => false == x) l) := if_pos c1
  have ht : takeL l = l.set (ixOf (fun x => false == x) l).toNat true := if_pos (by omega)
  refine AW.rep 10 (tr (takeL l)) rfl (by rw [ht]; exact (set_sim (fun k c hk => by simp only [upd_app, hk, false_and, if_false]; try rfl) (fun c hc => match c, hc with | 0, _ => (by simp only [upd_app, eq_self, and_self, if_true]; exact tsr) | c + 1, hc => absurd hc (by simp only [En.n]; omega)))) ?_
  simp only [repR, reduceIte, Nat.reduceEqDiff]
  refine AW.ret (endQ_ret (.cons (.tmp 2) (.cons (.tmp 3) .nil)) ?_)
  rw [hm]
  refine ⟨fun _ => 10, rfl, nodup_of rfl, ?_⟩
  intro r hr
  cases List.mem_singleton.1 hr
  exact ⟨by simp, rootL_mem rfl⟩
 try simp only [cnd] at c2
 refine go [.J,.R,.m,.N,.m,.a,.a,.Z] (k := ?_)
 have hm : mapTake l = (takeL l, ixOf (fun x => false == x) l) := if_pos c1
 have ht : takeL l = l := if_neg (by omega)
 refine AW.ret (endQ_ret (.cons (.tmp 2) (.cons (.tmp 3) .nil)) ?_)
 rw [hm, ht]
 refine ⟨fun _ => 10, rfl, nodup_of rfl, ?_⟩
 intro r hr
 cases List.mem_singleton.1 hr
 exact ⟨by simp, rootL_mem rfl⟩
end Go.Proofs.YthjfgpkjooaahaaGreat.VM

