/- Contracts of functions of the program. No conditions beyond those that each states. -/
import Derived.Test.YtbchjcapphclgaaCJ0
set_option linter.all false
namespace Go.Proofs.Ytbchjcapphclgaa.VM
open Go Go.RowKit Go.Proofs
set_option maxRecDepth 10000 in
theorem MapOkS_con (l : List Bool) : Con Try.prog 8 [.h base []] [.rt base .ro (tr l)] (fun y _ => y = .v (.bool (decide (l.length = 16)))) := by
 refine Con.of_body Try.func8 rfl (by simp) ?_
 rw [Try.ntmps8]
 refine AW.seq (AW.region ?_)
 refine qq Qt.assign ?_
 refine nl ?_
 refine AW.seq (AW.region ?_)
 refine qq Qt.move ?_
 refine qq (Qt.lenH rfl rfl rfl sl24) ?_
 refine nm ?_
 refine qq (Qt.binOp rfl rfl rfl) ?_
 refine qq Qt.assign ?_
 refine nl ?_
 refine AW.ret (endQ_ret (.cons (.tmp 2) .nil) ?_)
 simp only [retX, slotL, reduceIte, Nat.reduceEqDiff]
 congr 3
 rw [Bool.eq_iff_iff]
 simp
 omega
set_option maxRecDepth 10000 in
theorem MapOkI_con (l : List Bool) : Con Try.prog 20 [.h base []] [.rt base .ro (tr l)] (fun y _ => y = .v (.bool (decide (l.length = 16)))) := by
 refine Con.of_body Try.func20 rfl (by simp) ?_
 rw [Try.ntmps20]
 refine AW.seq (AW.region ?_)
 refine qq Qt.assign ?_
 refine nl ?_
 refine AW.seq (AW.region ?_)
 refine qq Qt.move ?_
 refine qq (Qt.lenH rfl rfl rfl sl24) ?_
 refine nm ?_
 refine qq (Qt.binOp rfl rfl rfl) ?_
 refine qq Qt.assign ?_
 refine nl ?_
 refine AW.ret (endQ_ret (.cons (.tmp 2) .nil) ?_)
 simp only [retX, slotL, reduceIte, Nat.reduceEqDiff]
 congr 3
 rw [Bool.eq_iff_iff]
 simp
 omega
set_option maxRecDepth 10000 in
theorem cloneB_con (l : List Bool) (hs : l.length ≤ 4194304) : Con Try.prog 21 [.h base []] [.rt base .ro (tr l)] (Ret (.h 0 []) [(0, .row, tr l)]) := by
 refine Con.of_body Try.func21 rfl (by simp) ?_
 rw [Try.ntmps21]
 refine AW.seq (AW.region ?_)
 refine qq Qt.assign ?_
 refine nl ?_
 refine AW.seq (AW.seq (AW.region ?_))
 refine qq Qt.move ?_
 refine AWL.nilTest rfl rfl rfl (by decide) rfl rfl rfl sl24 ?_
 intro b1 hb1
 refine nl ?_
 refine AW.cond rfl (fun c2 => ?_) (fun c2 => ?_)
 ·have k2 := c2
  try simp only [cnd] at c2
  refine AW.seq (AW.region ?_)
  refine qq Qt.assign ?_
  refine nl ?_
  have hl0 : l = [] := List.eq_nil_of_length_eq_zero (hb1 c2)
  subst hl0
  refine AW.nilRow 2 900 1 (by omega) rfl rfl (by decide) ?_
  refine AW.weak (L' := [.rt 900 .row (tr ([] : List Bool)), .sl 2 (.h 900 [])]) (Weak.sim ⟨⟨_, rfl, T.sim_of fun k c hk => absurd hk (Nat.not_lt_zero k)⟩, rfl, trivial⟩ rfl rfl) ?_
  refine AW.ret (endQ_ret (.cons (.tmp 2) .nil) ?_)
  refine ⟨fun _ => 900, rfl, nodup_of rfl, ?_⟩
  intro r hr
  cases List.mem_singleton.1 hr
  exact ⟨by simp, rootL_mem rfl⟩
 have k2 := c2
 try simp only [cnd] at c2
 refine jd (AW.seq (AW.region ?_))
 refine sp (Stp.buildSlice rfl (by decide) (by decide) rfl (by decide) rfl rfl rfl (nodup_of rfl)) ?_
 refine nm ?_
 refine qq Qt.move ?_
 refine sp (by first | exact Stp.appendC rfl (by decide) (by decide) rfl rfl (by omega) | exact Stp.appendM rfl (by decide) (by decide) rfl rfl rfl (by omega)) ?_
 refine nm ?_
 refine qq Qt.assign ?_
 refine nl ?_
 refine AW.weak (L' := [.rt 7 .row (tr l), .sl 2 (.h 7 [])]) (Weak.sim ⟨⟨_, rfl, app_nil (α := Bool)⟩, rfl, trivial⟩ rfl rfl) ?_
 refine AW.ret (endQ_ret (.cons (.tmp 2) .nil) ?_)
 refine ⟨fun _ => 7, rfl, nodup_of rfl, ?_⟩
 intro r hr
 cases List.mem_singleton.1 hr
 exact ⟨by simp, rootL_mem rfl⟩
set_option maxRecDepth 10000 in
theorem indexB_con (l : List Bool) (v : Bool) : Con Try.prog 22 [.h base [], .v (.bool v)] [.rt base .ro (tr l)] (fun y _ => y = .v (iv (ixOf (fun x => v == x) l))) := by
 refine Con.of_body Try.func22 rfl (by simp) ?_
 rw [Try.ntmps22]
 refine AW.len base [] rfl (by simp [Okp]) rfl (fun hl => ?_)
 refine AW.seq (AW.region ?_)
 refine qq Qt.assign ?_
 refine nl ?_
 refine AW.seq (AW.seq (AW.region ?_))
 refine qq Qt.move ?_
 refine qq (Qt.lenH rfl rfl rfl sl24) ?_
 refine nm ?_
 refine qq Qt.move ?_
 refine nl ?_
 refine AW.block ?_
 refine AW.loopW (fun i : IxInv (fun x => v == x) l => [.sl 8 (.v (iv i.k)), .sl 7 (.v (iv l.length)), .sl 0 (.h base []), .sl 1 (.v (.bool v)), .rt base .ro (tr l)]) (fun i => l.length - i.k) ⟨0, Nat.zero_le _, rfl⟩ (Weak.sim ⟨rfl, rfl, rfl, rfl, Rf rfl, trivial⟩ rfl rfl) ?_
 intro i
 have hle := i.le
 refine AW.seq (AW.region ?_)
 refine qq (Qt.binOp rfl rfl rfl) ?_
 refine nl ?_
 refine AW.seq ?_
 refine AW.cond rfl (fun c1 => ?_) (fun c1 => ?_)
 ·have k1 := c1
  try simp only [cnd] at c1
  refine jd (AW.seq (AW.block (AW.seq (AW.region ?_))))
  refine qq Qt.move ?_
  refine nm ?_
  refine qq Qt.assign ?_
  refine nl ?_
  refine AW.seq (AW.region ?_)
  refine qq Qt.move ?_
  refine qq Qt.move ?_
  refine nm ?_
  refine qq Qt.move ?_
  refine qq (Qt.indexAddr rfl rfl rfl rfl sl24 sz4 (by decide) (by omega)) ?_
  refine qq (Qt.load1 rfl rfl rfl ag4) ?_
  refine nm ?_
  refine qq (Qt.eqB rfl rfl Try.underlying4) ?_
  refine nl ?_
  refine AW.cond rfl (fun c2 => ?_) (fun c2 => ?_)
  ·have k2 := c2
   try simp only [cnd] at c2
   refine AW.seq (AW.region ?_)
   refine qq Qt.move ?_
   refine qq Qt.assign ?_
   refine nl ?_
   refine AW.ret (endQ_ret (.cons (.tmp 4) .nil) ?_)
   rw [ixOf_hit i En.dflt (by omega) (by simpa using c2)]
   rfl
  have k2 := c2
  try simp only [cnd] at c2
  refine jd (AW.region ?_)
  refine qq (Qt.binOp rfl rfl (by first | exact pbAdd (by omega) | rfl)) ?_
  refine nm ?_
  refine qq Qt.move ?_
  refine nl ?_
  refine ⟨⟨i.k + 1, by omega, i.next En.dflt (by omega) (by simpa using c2)⟩, Weak.sim ⟨st1, rfl, rfl, rfl, Rf rfl, trivial⟩ rfl rfl, ?_⟩
  show l.length - (i.k + 1) < l.length - i.k
  omega
 have k1 := c1
 try simp only [cnd] at c1
 refine AW.exit ?_
 dsimp only [thenQ, blockQ, reduceIte]
 refine AW.seq (AW.region ?_)
 refine qq Qt.assign ?_
 refine nl ?_
 refine AW.ret (endQ_ret (.cons (.tmp 4) .nil) ?_)
 rw [ixOf_none i (by omega)]
 rfl

/-- the first frame that is free is taken -/
def takeL (l : List Bool) : List Bool := if 0 ≤ ixOf (fun x => false == x) l then l.set (ixOf (fun x => false == x) l).toNat true else l
def mapTake (l : List Bool) : List Bool × Int := if l.length = 16 then (takeL l, ixOf (fun x => false == x) l) else ([], -1)
set_option maxRecDepth 10000 in
theorem MapTakeI_con (l : List Bool) : Con Try.prog 9 [.h base []] [.rt base .ro (tr l)] (Ret (.t [.h 0 [], .v (iv (mapTake l).2)]) [(0, .row, tr (mapTake l).1)]) := by
 refine Con.of_body Try.func9 rfl (by simp) ?_
 rw [Try.ntmps9]
 have hix := ixOf_bd (fun x => false == x) l
 refine AW.seq (AW.region ?_)
 refine qq Qt.assign ?_
 refine qq Qt.assign ?_
 refine nl ?_
 refine AW.seq (AW.seq (AW.region ?_))
 refine qq Qt.move ?_
 refine nm ?_
 refine cv Try.call20 rfl rfl (MapOkI_con _) ?_
 refine nm ?_
 refine qq (Qt.notB rfl) ?_
 refine nl ?_
 refine AW.cond rfl (fun c1 => ?_) (fun c1 => ?_)
 ·have k1 := c1
  try simp only [cnd] at c1
  refine AW.seq (AW.region ?_)
  refine qq Qt.assign ?_
  refine qq Qt.assign ?_
  refine nl ?_
  have hm : mapTake l = ([], -1) := if_neg c1
  refine AW.nilRow 2 900 1 (by omega) rfl rfl (by decide) ?_
  refine AW.weak (L' := [.rt 900 .row (tr (mapTake l).1), .sl 2 (.h 900 []), .sl 3 (.v (iv (mapTake l).2))]) (Weak.sim ⟨⟨_, rfl, (by rw [hm]; exact T.sim_of fun k c hk => absurd hk (Nat.not_lt_zero k))⟩, rfl, (by rw [hm]; rfl), trivial⟩ rfl rfl) ?_
  refine AW.ret (endQ_ret (.cons (.tmp 2) (.cons (.tmp 3) .nil)) ?_)
  refine ⟨fun _ => 900, rfl, nodup_of rfl, ?_⟩
  intro r hr
  cases List.mem_singleton.1 hr
  exact ⟨by simp, rootL_mem rfl⟩
 have k1 := c1
 try simp only [cnd] at c1
 refine jd (AW.seq (AW.region ?_))
 refine qq Qt.move ?_
 refine nm ?_
 refine sp (Stp.callR rfl (by decide) Try.call21 rfl rfl (cloneB_con _ (by omega)) (nodup_of rfl) rfl rfl) ?_
 refine nm ?_
 refine qq Qt.assign ?_
 refine nl ?_
 refine AW.seq (AW.region ?_)
 refine qq Qt.move ?_
 refine cv Try.call22 rfl rfl (indexB_con _ _) ?_
 refine nm ?_
 refine qq Qt.assign ?_
 refine nl ?_
 refine AW.seq (AW.seq (AW.region ?_))
 refine qq Qt.move ?_
 refine qq (Qt.binOp rfl rfl rfl) ?_
 refine nl ?_
 refine AW.cond rfl (fun c2 => ?_) (fun c2 => ?_)
 ·have k2 := c2
  try simp only [cnd] at c2
  refine AW.region ?_
  refine qq Qt.move ?_
  refine nm ?_
  refine qq Qt.move ?_
  refine qq (Qt.indexAddr rfl rfl rfl rfl sl24 sz4 (by decide) (by omega)) ?_
  refine ss ?_
  refine nl ?_
  refine AW.seq (AW.region ?_)
  refine qq Qt.move ?_
  refine nm ?_
  refine qq Qt.move ?_
  refine qq Qt.assign ?_
  refine qq Qt.assign ?_
  refine nl ?_
  have hm : mapTake l = (takeL l, ixOf (fun x => false == x) l) := if_pos c1
  have ht : takeL l = l.set (ixOf (fun x => false == x) l).toNat true := if_pos (by omega)
  refine AW.rep 10 (tr (takeL l)) rfl (by rw [ht]; exact (set_sim (fun k c hk => by simp only [upd_app, hk, false_and, if_false]; try rfl) (fun c hc => match c, hc with | 0, _ => (by simp only [upd_app, eq_self, and_self, if_true]; exact T.sim_refl _) | c + 1, hc => absurd hc (by simp only [En.n]; omega)))) ?_
  simp only [repR, reduceIte, Nat.reduceEqDiff]
  refine AW.ret (endQ_ret (.cons (.tmp 2) (.cons (.tmp 3) .nil)) ?_)
  rw [hm]
  refine ⟨fun _ => 10, rfl, nodup_of rfl, ?_⟩
  intro r hr
  cases List.mem_singleton.1 hr
  exact ⟨by simp, rootL_mem rfl⟩
 have k2 := c2
 try simp only [cnd] at c2
 refine jd (AW.seq (AW.region ?_))
 refine qq Qt.move ?_
 refine nm ?_
 refine qq Qt.move ?_
 refine qq Qt.assign ?_
 refine qq Qt.assign ?_
 refine nl ?_
 have hm : mapTake l = (takeL l, ixOf (fun x => false == x) l) := if_pos c1
 have ht : takeL l = l := if_neg (by omega)
 refine AW.ret (endQ_ret (.cons (.tmp 2) (.cons (.tmp 3) .nil)) ?_)
 rw [hm, ht]
 refine ⟨fun _ => 10, rfl, nodup_of rfl, ?_⟩
 intro r hr
 cases List.mem_singleton.1 hr
 exact ⟨by simp, rootL_mem rfl⟩
end Go.Proofs.Ytbchjcapphclgaa.VM
