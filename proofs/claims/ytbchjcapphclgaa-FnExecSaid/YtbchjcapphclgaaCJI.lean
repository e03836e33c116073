/- Contracts of functions of the program. No conditions beyond those that each states. -/
import Derived.Test.YtbchjcapphclgaaCJH
set_option linter.all false
namespace Go.Proofs.Ytbchjcapphclgaa.VM
open Go Go.RowKit Go.Proofs
structure QI where
 l : List DIns
 le : l.length ≤ 200
 p : Nat
 q : Int
set_option maxHeartbeats 8000000 in
set_option maxRecDepth 10000 in
theorem DrawProgOk_con (code : List UInt8) (hw : code.length ≤ 1048576) : Con Try.prog 28 [.h base []] [.rt base .ro (tr code)] (RetC false (fun m : List DIns => m.length ≤ 200) (fun _ => .h 0 []) (fun m => [(0, .row, tr m)])) := by
 refine Con.of_body Try.func28 rfl (by simp) ?_
 rw [Try.ntmps28]
 refine AW.seq (AW.region ?_)
 refine qq Qt.assign ?_
 refine nl ?_
 refine AW.seq (AW.region ?_)
 refine qq Qt.move ?_
 refine spK (StpK.callC true rfl (by decide) Try.call18 rfl rfl rfl rfl (l1New_con code hw) (fun _ => nodup_of rfl) (fun _ => rfl) (fun _ => rfl) (fun _ => rfl) (fun _ _ => rfl)) ?_
 rintro _ ⟨d1_1, hd1_1, rfl⟩
 try dsimp only at hd1_1
 refine nm ?_
 refine qq Qt.assign ?_
 refine nl ?_
 refine AW.seq (AW.region ?_)
 refine qq Qt.move ?_
 refine spK (StpK.callD rfl (by decide) Try.call40 rfl rfl rfl rfl rfl rfl rfl (cur_leaf _ _) (l3Prog_con code _ _ _ (by omega)) (fun _ => nodup_of rfl) (fun _ => rfl) (fun _ => rfl)) ?_
 rintro _ ⟨d2_1, hd2_1, rfl⟩
 try dsimp only at hd2_1
 refine nm ?_
 refine qq Qt.assign ?_
 refine nl ?_
 refine AW.seq (AW.seq (AW.region ?_))
 refine qq Qt.move ?_
 refine spK (StpK.callD rfl (by decide) Try.call26 rfl rfl rfl rfl rfl rfl rfl (cur_leaf _ _) (l1Once_con code _ _ _) (fun _ => nodup_of rfl) (fun _ => rfl) (fun _ => rfl)) ?_
 rintro _ ⟨d3_1, hd3_1, rfl⟩
 try dsimp only at hd3_1
 refine nl ?_
 refine AW.cond rfl (fun c1 => ?_) (fun c1 => ?_)
 ·have k1 := c1
  try simp only [cnd] at c1
  refine AW.region ?_
  refine qq Qt.move ?_
  refine nm ?_
  refine qq Qt.move ?_
  refine spK (StpK.callD rfl (by decide) Try.call41 rfl rfl rfl rfl rfl rfl rfl (cur_leaf _ _) (l3Any_con code _ _) (fun _ => nodup_of rfl) (fun _ => rfl) (fun _ => rfl)) ?_
  rintro _ ⟨d4_2, hd4_2, rfl⟩
  try dsimp only at hd4_2
  refine nm ?_
  refine sp (Stp.buildSlice rfl (by decide) (by decide) rfl (by decide) rfl rfl rfl (nodup_of rfl)) ?_
  refine nm ?_
  refine sp (by first | exact Stp.appendC rfl (by decide) (by decide) rfl rfl (by omega) | exact Stp.appendM rfl (by decide) (by decide) rfl rfl rfl (by omega)) ?_
  refine nm ?_
  refine AWL.rep 16 (tr (d2_1.2.2 ++ [d4_2.2.2])) rfl (app_one (α := DIns) (a := d4_2.2.2) (fun c hc => match c, hc with | 0, _ => rfl | 1, _ => rfl | 2, _ => rfl | 3, _ => rfl | c + 4, hc => absurd hc (by simp only [En.n]; omega))) ?_
  refine AWL.weak (Weak.renR (a := 16) (b := 9) rfl (by decide) (by decide)) ?_
  refine nm ?_
  refine qq Qt.assign ?_
  refine nl ?_
  refine AW.seq (AW.seq (AW.region ?_))
  refine qq Qt.move ?_
  refine spK (StpK.callD rfl (by decide) Try.call26 rfl rfl rfl rfl rfl rfl rfl (cur_leaf _ _) (l1Once_con code _ _ _) (fun _ => nodup_of rfl) (fun _ => rfl) (fun _ => rfl)) ?_
  rintro _ ⟨d5_1, hd5_1, rfl⟩
  try dsimp only at hd5_1
  refine nl ?_
  refine AW.cond rfl (fun c2 => ?_) (fun c2 => ?_)
  ·have k2 := c2
   try simp only [cnd] at c2
   refine AW.seq (AW.region ?_)
   refine qq Qt.move ?_
   refine nm ?_
   refine spK (StpK.callD rfl (by decide) Try.call25 rfl rfl rfl rfl rfl rfl rfl (cur_leaf _ _) (l1Below_con code _ _ _) (fun _ => nodup_of rfl) (fun _ => rfl) (fun _ => rfl)) ?_
   rintro _ ⟨d6_1, hd6_1, rfl⟩
   try dsimp only at hd6_1
   have hb2 := hd6_1.2 (by omega)
   refine nm ?_
   refine qq (Qt.binOp rfl rfl (by first | exact pbAdd (by omega) | rfl)) ?_
   refine qq Qt.assign ?_
   refine nl ?_
   refine AW.block ?_
   refine AW.loopW (fun i : QI => [.sl 5 (.v (iv (40 + d6_1.2.2))), .sl 4 (.h 9 []), .sl 3 (.p 7 [] 3 0 0), .rt 7 .box (.s 3 1 (curF (i.p : Nat) i.q)), .al 7 0 (.h base []), .rt base .ro (tr code), .rt 9 .row (tr i.l)]) (fun i => (40 + d6_1.2.2 - i.l.length).toNat) ⟨(d2_1.2.2 ++ [d4_2.2.2]), (by rw [List.length_append]; simp only [List.length_cons, List.length_nil]; omega), _, _⟩ (Weak.sim ⟨rfl, rfl, rfl, Rf rfl, ⟨rfl, rfl⟩, Rf rfl, Rf rfl, trivial⟩ rfl rfl) ?_
   intro i
   have hle := i.le
   have hll := i.le
   refine AW.seq (AW.seq (AW.region ?_))
   refine qq Qt.move ?_
   refine nm ?_
   refine qq (Qt.lenH rfl rfl rfl sl33) ?_
   refine qq Qt.move ?_
   refine qq (Qt.binOp rfl rfl rfl) ?_
   refine nl ?_
   refine AW.cond rfl (fun c3 => ?_) (fun c3 => ?_)
   ·have k3 := c3
    try simp only [cnd] at c3
    refine jd (AW.block (AW.region ?_))
    refine qq Qt.move ?_
    refine nm ?_
    refine qq Qt.move ?_
    refine spK (StpK.callD rfl (by decide) Try.call42 rfl rfl rfl rfl rfl rfl rfl (cur_leaf _ _) (l3Ins_con code _ _) (fun _ => nodup_of rfl) (fun _ => rfl) (fun _ => rfl)) ?_
    rintro _ ⟨d8_2, hd8_2, rfl⟩
    try dsimp only at hd8_2
    refine nm ?_
    refine sp (Stp.buildSlice rfl (by decide) (by decide) rfl (by decide) rfl rfl rfl (nodup_of rfl)) ?_
    refine nm ?_
    refine sp (by first | exact Stp.appendC rfl (by decide) (by decide) rfl rfl (by omega) | exact Stp.appendM rfl (by decide) (by decide) rfl rfl rfl (by omega)) ?_
    refine nm ?_
    refine AWL.rep 30 (tr (i.l ++ [d8_2.2.2])) rfl (app_one (α := DIns) (a := d8_2.2.2) (fun c hc => match c, hc with | 0, _ => rfl | 1, _ => rfl | 2, _ => rfl | 3, _ => rfl | c + 4, hc => absurd hc (by simp only [En.n]; omega))) ?_
    refine nm ?_
    refine qq Qt.assign ?_
    refine nl ?_
    refine ⟨⟨i.l ++ [d8_2.2.2], by rw [List.length_append]; simp only [List.length_cons, List.length_nil]; omega, _, _⟩, Weak.trans (Weak.renR (a := 30) (b := 9) rfl (by decide) (by decide)) (Weak.sim ⟨rfl, rfl, rfl, Rf rfl, ⟨rfl, rfl⟩, Rf rfl, Rf rfl, trivial⟩ rfl rfl), ?_⟩
    show (40 + d6_1.2.2 - ((i.l ++ [d8_2.2.2]).length : Nat)).toNat < (40 + d6_1.2.2 - (i.l.length : Nat)).toNat
    rw [List.length_append]
    simp only [List.length_cons, List.length_nil]
    omega
   have k3 := c3
   try simp only [cnd] at c3
   refine AW.exit ?_
   dsimp only [thenQ, blockQ, reduceIte]
   refine AW.seq (AW.region ?_)
   refine qq Qt.move ?_
   refine qq Qt.assign ?_
   refine nl ?_
   refine AW.ret (endQ_ret (.cons (.tmp 2) .nil) ?_)
   exact ⟨i.l, (by show i.l.length ≤ 200; omega), fun _ => 9, rfl, nodup_of rfl, (fun r hr => by cases List.mem_singleton.1 hr; exact ⟨by simp, rootL_mem rfl, by show (9 : Nat) < 100000; decide⟩), fun h => by cases h⟩
  have k2 := c2
  try simp only [cnd] at c2
  refine jd (AW.seq (AW.region ?_))
  refine qq Qt.move ?_
  refine nm ?_
  refine qq Qt.assign ?_
  refine nl ?_
  refine AW.ret (endQ_ret (.cons (.tmp 2) .nil) ?_)
  exact ⟨(d2_1.2.2 ++ [d4_2.2.2]), (by show (d2_1.2.2 ++ [d4_2.2.2]).length ≤ 200; rw [List.length_append]; simp only [List.length_cons, List.length_nil]; omega), fun _ => 9, rfl, nodup_of rfl, (fun r hr => by cases List.mem_singleton.1 hr; exact ⟨by simp, rootL_mem rfl, by show (9 : Nat) < 100000; decide⟩), fun h => by cases h⟩
 have k1 := c1
 try simp only [cnd] at c1
 refine jd (AW.seq (AW.seq (AW.region ?_)))
 refine qq Qt.move ?_
 refine spK (StpK.callD rfl (by decide) Try.call26 rfl rfl rfl rfl rfl rfl rfl (cur_leaf _ _) (l1Once_con code _ _ _) (fun _ => nodup_of rfl) (fun _ => rfl) (fun _ => rfl)) ?_
 rintro _ ⟨d5_1, hd5_1, rfl⟩
 try dsimp only at hd5_1
 refine nl ?_
 refine AW.cond rfl (fun c4 => ?_) (fun c4 => ?_)
 ·have k4 := c4
  try simp only [cnd] at c4
  refine AW.seq (AW.region ?_)
  refine qq Qt.move ?_
  refine nm ?_
  refine spK (StpK.callD rfl (by decide) Try.call25 rfl rfl rfl rfl rfl rfl rfl (cur_leaf _ _) (l1Below_con code _ _ _) (fun _ => nodup_of rfl) (fun _ => rfl) (fun _ => rfl)) ?_
  rintro _ ⟨d6_1, hd6_1, rfl⟩
  try dsimp only at hd6_1
  have hb2 := hd6_1.2 (by omega)
  refine nm ?_
  refine qq (Qt.binOp rfl rfl (by first | exact pbAdd (by omega) | rfl)) ?_
  refine qq Qt.assign ?_
  refine nl ?_
  refine AW.block ?_
  refine AW.loopW (fun i : QI => [.sl 5 (.v (iv (40 + d6_1.2.2))), .sl 4 (.h 9 []), .sl 3 (.p 7 [] 3 0 0), .rt 7 .box (.s 3 1 (curF (i.p : Nat) i.q)), .al 7 0 (.h base []), .rt base .ro (tr code), .rt 9 .row (tr i.l)]) (fun i => (40 + d6_1.2.2 - i.l.length).toNat) ⟨d2_1.2.2, (by omega), _, _⟩ (Weak.sim ⟨rfl, rfl, rfl, Rf rfl, ⟨rfl, rfl⟩, Rf rfl, Rf rfl, trivial⟩ rfl rfl) ?_
  intro i
  have hle := i.le
  have hll := i.le
  refine AW.seq (AW.seq (AW.region ?_))
  refine qq Qt.move ?_
  refine nm ?_
  refine qq (Qt.lenH rfl rfl rfl sl33) ?_
  refine qq Qt.move ?_
  refine qq (Qt.binOp rfl rfl rfl) ?_
  refine nl ?_
  refine AW.cond rfl (fun c5 => ?_) (fun c5 => ?_)
  ·have k5 := c5
   try simp only [cnd] at c5
   refine jd (AW.block (AW.region ?_))
   refine qq Qt.move ?_
   refine nm ?_
   refine qq Qt.move ?_
   refine spK (StpK.callD rfl (by decide) Try.call42 rfl rfl rfl rfl rfl rfl rfl (cur_leaf _ _) (l3Ins_con code _ _) (fun _ => nodup_of rfl) (fun _ => rfl) (fun _ => rfl)) ?_
   rintro _ ⟨d8_2, hd8_2, rfl⟩
   try dsimp only at hd8_2
   refine nm ?_
   refine sp (Stp.buildSlice rfl (by decide) (by decide) rfl (by decide) rfl rfl rfl (nodup_of rfl)) ?_
   refine nm ?_
   refine sp (by first | exact Stp.appendC rfl (by decide) (by decide) rfl rfl (by omega) | exact Stp.appendM rfl (by decide) (by decide) rfl rfl rfl (by omega)) ?_
   refine nm ?_
   refine AWL.rep 30 (tr (i.l ++ [d8_2.2.2])) rfl (app_one (α := DIns) (a := d8_2.2.2) (fun c hc => match c, hc with | 0, _ => rfl | 1, _ => rfl | 2, _ => rfl | 3, _ => rfl | c + 4, hc => absurd hc (by simp only [En.n]; omega))) ?_
   refine nm ?_
   refine qq Qt.assign ?_
   refine nl ?_
   refine ⟨⟨i.l ++ [d8_2.2.2], by rw [List.length_append]; simp only [List.length_cons, List.length_nil]; omega, _, _⟩, Weak.trans (Weak.renR (a := 30) (b := 9) rfl (by decide) (by decide)) (Weak.sim ⟨rfl, rfl, rfl, Rf rfl, ⟨rfl, rfl⟩, Rf rfl, Rf rfl, trivial⟩ rfl rfl), ?_⟩
   show (40 + d6_1.2.2 - ((i.l ++ [d8_2.2.2]).length : Nat)).toNat < (40 + d6_1.2.2 - (i.l.length : Nat)).toNat
   rw [List.length_append]
   simp only [List.length_cons, List.length_nil]
   omega
  have k5 := c5
  try simp only [cnd] at c5
  refine AW.exit ?_
  dsimp only [thenQ, blockQ, reduceIte]
  refine AW.seq (AW.region ?_)
  refine qq Qt.move ?_
  refine qq Qt.assign ?_
  refine nl ?_
  refine AW.ret (endQ_ret (.cons (.tmp 2) .nil) ?_)
  exact ⟨i.l, (by show i.l.length ≤ 200; omega), fun _ => 9, rfl, nodup_of rfl, (fun r hr => by cases List.mem_singleton.1 hr; exact ⟨by simp, rootL_mem rfl, by show (9 : Nat) < 100000; decide⟩), fun h => by cases h⟩
 have k4 := c4
 try simp only [cnd] at c4
 refine jd (AW.seq (AW.region ?_))
 refine qq Qt.move ?_
 refine nm ?_
 refine qq Qt.assign ?_
 refine nl ?_
 refine AW.ret (endQ_ret (.cons (.tmp 2) .nil) ?_)
 exact ⟨d2_1.2.2, (by show d2_1.2.2.length ≤ 200; omega), fun _ => 9, rfl, nodup_of rfl, (fun r hr => by cases List.mem_singleton.1 hr; exact ⟨by simp, rootL_mem rfl, by show (9 : Nat) < 100000; decide⟩), fun h => by cases h⟩
end Go.Proofs.Ytbchjcapphclgaa.VM
