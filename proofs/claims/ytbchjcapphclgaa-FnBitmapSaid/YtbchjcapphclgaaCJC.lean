/- Contracts of functions of the program. No conditions beyond those that each states. -/
import Derived.Test.YtbchjcapphclgaaCJA
set_option linter.all false
namespace Go.Proofs.Ytbchjcapphclgaa.VM
open Go Go.RowKit Go.Proofs
theorem sim_rep (n : Nat) : (T.s 1 n fun _ j => [T.v (.bool false)].getD j .j).sim (tr (List.replicate n false)) := by
 refine ⟨fun k c => (En.cs ((List.replicate n false).getD k En.dflt)).getD c .j, by simp only [tr, List.length_replicate]; rfl, fun k c hk hc => ?_⟩
 match c, hc with
 | 0, _ =>
  show T.sim (.v (.bool false)) (.v (.bool ((List.replicate n false).getD k En.dflt)))
  rw [show (List.replicate n false).getD k En.dflt = false by simp [List.getD_eq_getElem?_getD, List.getElem?_replicate, hk]]
  exact T.sim_refl _
structure MInv where
 k : Nat
 le : k ≤ 16
 l : List Bool
 len : l.length = 16
 p : Nat
 q : Int
 K : Int
set_option maxHeartbeats 8000000 in
set_option maxRecDepth 10000 in
theorem l11Map_con (code : List UInt8) (i : Nat) (h : Int) : Con Try.prog 19 [.p base [] 3 0 0] [.rt base .box (.s 3 1 (curF (i : Nat) h)), .al base 0 (.h (base + 1) []), .rt (base + 1) .ro (tr code)] (RetD 3 (fun m : Nat × Int × (List Bool × Nat) => m.2.2.1.length = 16 ∧ (m.2.2.2 = 15 ∨ m.2.2.2 = 16)) (fun m => .a 0 [] 1 0 m.2.2.2) (fun m => [(0, .row, tr m.2.2.1)]) (fun m => curF m.1 m.2.1)) := by
 refine Con.of_body Try.func19 rfl (by simp) ?_
 rw [Try.ntmps19]
 refine AW.seq (AW.region ?_)
 refine qq Qt.assign ?_
 refine nl ?_
 refine AW.seq (AW.region ?_)
 refine sp (Stp.makeSlice rfl (by decide) (by decide) rfl rfl (by omega) (by omega) (by omega)) ?_
 refine nm ?_
 refine qq Qt.assign ?_
 refine nl ?_
 refine AW.seq (AW.region ?_)
 refine qq Qt.move ?_
 refine spK (StpK.callD rfl (by decide) Try.call25 rfl rfl rfl rfl rfl rfl rfl (cur_leaf _ _) (l1Below_con code _ _ _) (fun _ => nodup_of rfl) (fun _ => rfl) (fun _ => rfl)) ?_
 rintro _ ⟨d2_1, hd2_1, rfl⟩
 try dsimp only at hd2_1
 refine nm ?_
 refine qq (Qt.binOp rfl rfl (by first | exact pbAdd (by omega) | rfl)) ?_
 refine qq Qt.assign ?_
 refine nl ?_
 refine AW.seq (AW.seq (AW.region ?_))
 refine qq Qt.assign ?_
 refine nl ?_
 refine AW.block ?_
 refine AW.loopW (fun i : MInv => [.sl 5 (.v (iv i.k)), .sl 4 (.v (iv i.K)), .sl 3 (.h 7 []), .sl 0 (.p base [] 3 0 0), .rt base .box (.s 3 1 (curF (i.p : Nat) i.q)), .al base 0 (.h (base + 1) []), .rt (base + 1) .ro (tr code), .rt 7 .row (tr i.l)]) (fun i => 16 - i.k) ⟨0, by omega, List.replicate 16 false, by simp, _, _, _⟩ (Weak.sim ⟨rfl, rfl, rfl, rfl, Rf rfl, ⟨rfl, rfl⟩, Rf rfl, ⟨_, rfl, sim_rep 16⟩, trivial⟩ rfl rfl) ?_
 intro i
 have hle := i.le
 have hil := i.len
 refine AW.seq (AW.seq (AW.region ?_))
 refine qq Qt.move ?_
 refine nm ?_
 refine qq Qt.move ?_
 refine qq (Qt.lenH rfl rfl rfl sl24) ?_
 refine qq (Qt.binOp rfl rfl rfl) ?_
 refine nl ?_
 refine AW.cond rfl (fun c1 => ?_) (fun c1 => ?_)
 ·have k1 := c1
  try simp only [cnd] at c1
  refine jd (AW.seq (AW.block (AW.region ?_)))
  refine qq Qt.move ?_
  refine nm ?_
  refine qq Qt.move ?_
  refine qq Qt.move ?_
  refine qq Qt.move ?_
  refine nm ?_
  refine spK (StpK.callD rfl (by decide) Try.call26 rfl rfl rfl rfl rfl rfl rfl (cur_leaf _ _) (l1Once_con code _ _ _) (fun _ => nodup_of rfl) (fun _ => rfl) (fun _ => rfl)) ?_
  rintro _ ⟨d6_4, hd6_4, rfl⟩
  try dsimp only at hd6_4
  refine nm ?_
  refine qq (Qt.notB rfl) ?_
  refine qq (Qt.indexAddr rfl rfl rfl rfl sl24 sz4 (by decide) (by first | omega | grind only)) ?_
  refine ss ?_
  refine nm ?_
  refine AWL.rep 7 (tr (i.l.set i.k (!d6_4.2.2))) rfl (set_sim (fun k c hk => by simp only [upd_app, hk, false_and, if_false]; try rfl) (fun c hc => match c, hc with | 0, _ => (by simp only [upd_app, eq_self, and_self, if_true]; exact T.sim_refl _) | c + 1, hc => absurd hc (by simp only [En.n]; omega))) ?_
  refine nl ?_
  refine AW.region ?_
  refine qq Qt.move ?_
  refine nm ?_
  refine qq (Qt.binOp rfl rfl (by first | exact pbAdd (by omega) | rfl)) ?_
  refine qq Qt.assign ?_
  refine nl ?_
  refine ⟨⟨i.k + 1, by omega, i.l.set i.k (!d6_4.2.2), by rw [List.length_set]; exact i.len, _, _, i.K⟩, Weak.sim ⟨rfl, rfl, rfl, rfl, Rf rfl, ⟨rfl, rfl⟩, Rf rfl, Rf rfl, trivial⟩ rfl rfl, ?_⟩
  show 16 - (i.k + 1) < 16 - i.k
  omega
 have k1 := c1
 try simp only [cnd] at c1
 refine AW.exit ?_
 dsimp only [thenQ, blockQ, reduceIte]
 refine AW.seq (AW.seq (AW.region ?_))
 refine qq Qt.move ?_
 refine nm ?_
 refine spK (StpK.callD rfl (by decide) Try.call26 rfl rfl rfl rfl rfl rfl rfl (cur_leaf _ _) (l1Once_con code _ _ _) (fun _ => nodup_of rfl) (fun _ => rfl) (fun _ => rfl)) ?_
 rintro _ ⟨d7_1, hd7_1, rfl⟩
 try dsimp only at hd7_1
 refine nl ?_
 refine AW.cond rfl (fun c2 => ?_) (fun c2 => ?_)
 ·have k2 := c2
  try simp only [cnd] at c2
  refine AW.seq (AW.region ?_)
  refine qq Qt.assign ?_
  refine nl ?_
  refine AW.block ?_
  refine AW.loopW (fun j : MInv => [.sl 6 (.v (iv j.k)), .sl 3 (.h 7 []), .sl 0 (.p base [] 3 0 0), .rt base .box (.s 3 1 (curF (j.p : Nat) j.q)), .al base 0 (.h (base + 1) []), .rt (base + 1) .ro (tr code), .rt 7 .row (tr j.l)]) (fun j => 16 - j.k) ⟨0, by omega, i.l, i.len, _, _, 0⟩ (Weak.sim ⟨rfl, rfl, rfl, Rf rfl, ⟨rfl, rfl⟩, Rf rfl, Rf rfl, trivial⟩ rfl rfl) ?_
  intro j
  have hlej := j.le
  have hjl := j.len
  refine AW.seq (AW.seq (AW.region ?_))
  refine qq Qt.move ?_
  refine nm ?_
  refine qq Qt.move ?_
  refine qq (Qt.lenH rfl rfl rfl sl24) ?_
  refine qq (Qt.binOp rfl rfl rfl) ?_
  refine nl ?_
  refine AW.cond rfl (fun c3 => ?_) (fun c3 => ?_)
  ·have k3 := c3
   try simp only [cnd] at c3
   refine jd (AW.seq (AW.block (AW.region ?_)))
   refine qq Qt.move ?_
   refine nm ?_
   refine qq Qt.move ?_
   refine qq (Qt.indexAddr rfl rfl rfl rfl sl24 sz4 (by decide) (by first | omega | grind only)) ?_
   refine ss ?_
   refine nm ?_
   refine AWL.rep 7 (tr (j.l.set j.k true)) rfl (set_sim (fun k c hk => by simp only [upd_app, hk, false_and, if_false]; try rfl) (fun c hc => match c, hc with | 0, _ => (by simp only [upd_app, eq_self, and_self, if_true]; exact T.sim_refl _) | c + 1, hc => absurd hc (by simp only [En.n]; omega))) ?_
   refine nl ?_
   refine AW.region ?_
   refine qq Qt.move ?_
   refine nm ?_
   refine qq (Qt.binOp rfl rfl (by first | exact pbAdd (by omega) | rfl)) ?_
   refine qq Qt.assign ?_
   refine nl ?_
   refine ⟨⟨j.k + 1, by omega, j.l.set j.k true, by rw [List.length_set]; exact j.len, _, _, 0⟩, Weak.sim ⟨rfl, rfl, rfl, Rf rfl, ⟨rfl, rfl⟩, Rf rfl, Rf rfl, trivial⟩ rfl rfl, ?_⟩
   show 16 - (j.k + 1) < 16 - j.k
   omega
  have k3 := c3
  try simp only [cnd] at c3
  refine AW.exit ?_
  dsimp only [thenQ, blockQ, reduceIte]
  refine AW.seq (AW.seq (AW.region ?_))
  refine qq Qt.move ?_
  refine nm ?_
  refine spK (StpK.callD rfl (by decide) Try.call26 rfl rfl rfl rfl rfl rfl rfl (cur_leaf _ _) (l1Once_con code _ _ _) (fun _ => nodup_of rfl) (fun _ => rfl) (fun _ => rfl)) ?_
  rintro _ ⟨d12_1, hd12_1, rfl⟩
  try dsimp only at hd12_1
  refine nl ?_
  refine AW.cond rfl (fun c4 => ?_) (fun c4 => ?_)
  ·have k4 := c4
   try simp only [cnd] at c4
   refine AW.region ?_
   refine qq Qt.move ?_
   refine nm ?_
   refine qq (Qt.sliceH (lo := 0) (hi := 15) rfl rfl rfl sl24 sz4 (by decide) slB_no (slB_so rfl rfl) (by omega) (by omega)) ?_
   refine qq Qt.assign ?_
   refine nl ?_
   refine AW.seq (AW.region ?_)
   refine qq Qt.move ?_
   refine nm ?_
   refine qq Qt.assign ?_
   refine nl ?_
   refine AW.ret (endQ_ret (.cons (.tmp 2) .nil) ?_)
   exact ⟨(d12_1.1, d12_1.2.1, (j.l, 15)), ⟨j.len, .inl rfl⟩, ⟨fun n => if n = 0 then 7 else n, rfl, (fun n hn => if_neg (fun e => by subst e; exact absurd hn (by decide))), nodup_of rfl, (fun r hr => by cases List.mem_singleton.1 hr; exact ⟨by simp, rootL_mem rfl, by show (7 : Nat) < 100000; decide⟩), by simp⟩, rootL_mem rfl, alM rfl⟩
  have k4 := c4
  try simp only [cnd] at c4
  refine jd (AW.seq (AW.region ?_))
  refine qq Qt.move ?_
  refine qq Qt.assign ?_
  refine nl ?_
  refine AW.weak (Weak.hA 2 rfl rfl) ?_
  refine AW.ret (endQ_ret (.cons (.tmp 2) .nil) ?_)
  exact ⟨(d12_1.1, d12_1.2.1, (j.l, j.l.length)), ⟨j.len, .inr j.len⟩, ⟨fun n => if n = 0 then 7 else n, rfl, (fun n hn => if_neg (fun e => by subst e; exact absurd hn (by decide))), nodup_of rfl, (fun r hr => by cases List.mem_singleton.1 hr; exact ⟨by simp, rootL_mem rfl, by show (7 : Nat) < 100000; decide⟩), by simp⟩, rootL_mem rfl, alM rfl⟩
 have k2 := c2
 try simp only [cnd] at c2
 refine jd (AW.seq (AW.seq (AW.region ?_)))
 refine qq Qt.move ?_
 refine nm ?_
 refine spK (StpK.callD rfl (by decide) Try.call26 rfl rfl rfl rfl rfl rfl rfl (cur_leaf _ _) (l1Once_con code _ _ _) (fun _ => nodup_of rfl) (fun _ => rfl) (fun _ => rfl)) ?_
 rintro _ ⟨d12_1, hd12_1, rfl⟩
 try dsimp only at hd12_1
 refine nl ?_
 refine AW.cond rfl (fun c5 => ?_) (fun c5 => ?_)
 ·have k5 := c5
  try simp only [cnd] at c5
  refine AW.region ?_
  refine qq Qt.move ?_
  refine nm ?_
  refine qq (Qt.sliceH (lo := 0) (hi := 15) rfl rfl rfl sl24 sz4 (by decide) slB_no (slB_so rfl rfl) (by omega) (by omega)) ?_
  refine qq Qt.assign ?_
  refine nl ?_
  refine AW.seq (AW.region ?_)
  refine qq Qt.move ?_
  refine nm ?_
  refine qq Qt.assign ?_
  refine nl ?_
  refine AW.ret (endQ_ret (.cons (.tmp 2) .nil) ?_)
  exact ⟨(d12_1.1, d12_1.2.1, (i.l, 15)), ⟨i.len, .inl rfl⟩, ⟨fun n => if n = 0 then 7 else n, rfl, (fun n hn => if_neg (fun e => by subst e; exact absurd hn (by decide))), nodup_of rfl, (fun r hr => by cases List.mem_singleton.1 hr; exact ⟨by simp, rootL_mem rfl, by show (7 : Nat) < 100000; decide⟩), by simp⟩, rootL_mem rfl, alM rfl⟩
 have k5 := c5
 try simp only [cnd] at c5
 refine jd (AW.seq (AW.region ?_))
 refine qq Qt.move ?_
 refine qq Qt.assign ?_
 refine nl ?_
 refine AW.weak (Weak.hA 2 rfl rfl) ?_
 refine AW.ret (endQ_ret (.cons (.tmp 2) .nil) ?_)
 exact ⟨(d12_1.1, d12_1.2.1, (i.l, i.l.length)), ⟨i.len, .inr i.len⟩, ⟨fun n => if n = 0 then 7 else n, rfl, (fun n hn => if_neg (fun e => by subst e; exact absurd hn (by decide))), nodup_of rfl, (fun r hr => by cases List.mem_singleton.1 hr; exact ⟨by simp, rootL_mem rfl, by show (7 : Nat) < 100000; decide⟩), by simp⟩, rootL_mem rfl, alM rfl⟩
set_option maxHeartbeats 8000000 in
set_option maxRecDepth 10000 in
theorem DrawMapTake_con (code : List UInt8) (hw : code.length ≤ 1048576) : Con Try.prog 6 [.h base []] [.rt base .ro (tr code)] (RetC false (fun m : List Bool × Nat => m.1.length = 16 ∧ (m.2 = 15 ∨ m.2 = 16)) (fun m => .a 0 [] 1 0 m.2) (fun m => [(0, .row, tr m.1)])) := by
 refine Con.of_body Try.func6 rfl (by simp) ?_
 rw [Try.ntmps6]
 refine AW.seq (AW.region ?_)
 refine qq Qt.assign ?_
 refine nl ?_
 refine AW.seq (AW.region ?_)
 refine qq Qt.move ?_
 refine spK (StpK.callC true rfl (by decide) Try.call18 rfl rfl rfl rfl (l1New_con code hw) (fun _ => nodup_of rfl) (fun _ => rfl) (fun _ => rfl) (fun _ => rfl) (fun _ _ => rfl)) ?_
 rintro _ ⟨d1_1, hd1_1, rfl⟩
 try dsimp only at hd1_1
 refine nm ?_
 refine qq Qt.assign ?_
 refine nl ?_
 refine AW.seq (AW.region ?_)
 refine qq Qt.move ?_
 refine spK (StpK.callD rfl (by decide) Try.call19 rfl rfl rfl rfl rfl rfl rfl (cur_leaf _ _) (l11Map_con code _ _) (fun _ => nodup_of rfl) (fun _ => rfl) (fun _ => rfl)) ?_
 rintro _ ⟨d2_1, hd2_1, rfl⟩
 try dsimp only at hd2_1
 refine nm ?_
 refine qq Qt.assign ?_
 refine nl ?_
 refine AW.ret (endQ_ret (.cons (.tmp 2) .nil) ?_)
 exact ⟨d2_1.2.2, hd2_1, fun _ => 7, rfl, nodup_of rfl, (fun r hr => by cases List.mem_singleton.1 hr; exact ⟨by simp, rootL_mem rfl, by show (7 : Nat) < 100000; decide⟩), fun h => by cases h⟩
end Go.Proofs.Ytbchjcapphclgaa.VM
