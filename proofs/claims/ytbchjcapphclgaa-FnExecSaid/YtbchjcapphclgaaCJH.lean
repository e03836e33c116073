/- Contracts of functions of the program. No conditions beyond those that each states. -/
import Derived.Test.YtbchjcapphclgaaCJG
import Derived.Test.YtbchjcapphclgaaCJC
set_option linter.all false
namespace Go.Proofs.Ytbchjcapphclgaa.VM
open Go Go.RowKit Go.Proofs
instance : Fl DIns := ⟨fun a c hc => by
 match c, hc with
 | 0, _ => rfl
 | 1, _ => rfl
 | 2, _ => rfl
 | 3, _ => rfl
 | c + 4, h => exact absurd h (by simp only [En.n]; omega)⟩
structure PI (B : Nat) where
 n : Int
 nn : 0 ≤ n
 l : List DIns
 le : l.length + n.toNat ≤ B
 p : Nat
 q : Int
set_option maxHeartbeats 8000000 in
set_option maxRecDepth 10000 in
theorem l3Prog_con (code : List UInt8) (i : Nat) (h : Int) (most : Int) (hm : 0 ≤ most ∧ most ≤ 100) : Con Try.prog 40 [.p base [] 3 0 0, .v (iv most)] [.rt base .box (.s 3 1 (curF (i : Nat) h)), .al base 0 (.h (base + 1) []), .rt (base + 1) .ro (tr code)] (RetD 3 (fun m : Nat × Int × List DIns => m.2.2.length ≤ 100) (fun _ => .h 0 []) (fun m => [(0, .row, tr m.2.2)]) (fun m => curF m.1 m.2.1)) := by
 refine Con.of_body Try.func40 rfl (by simp) ?_
 rw [Try.ntmps40]
 refine AW.seq (AW.region ?_)
 refine qq Qt.assign ?_
 refine nl ?_
 refine AW.seq (AW.region ?_)
 refine sp (Stp.buildSlice rfl (by decide) (by decide) rfl (by decide) rfl rfl rfl (nodup_of rfl)) ?_
 refine nm ?_
 refine qq Qt.assign ?_
 refine nl ?_
 refine AW.seq (AW.seq (AW.region ?_))
 refine qq Qt.move ?_
 refine qq Qt.move ?_
 refine nm ?_
 refine qq (Qt.binOp rfl rfl (by first | exact pbAdd (by omega) | rfl)) ?_
 refine spK (StpK.callD rfl (by decide) Try.call25 rfl rfl rfl rfl rfl rfl rfl (cur_leaf _ _) (l1Below_con code _ _ _) (fun _ => nodup_of rfl) (fun _ => rfl) (fun _ => rfl)) ?_
 rintro _ ⟨d2_3, hd2_3, rfl⟩
 try dsimp only at hd2_3
 refine nm ?_
 refine qq Qt.assign ?_
 refine nl ?_
 refine AW.block ?_
 refine AW.loopW (fun i : PI 100 => [.sl 6 (.v (iv i.n)), .sl 5 (.h 7 []), .sl 0 (.p base [] 3 0 0), .rt base .box (.s 3 1 (curF (i.p : Nat) i.q)), .al base 0 (.h (base + 1) []), .rt (base + 1) .ro (tr code), .rt 7 .row (tr i.l)]) (fun i => i.n.toNat) ⟨_, hd2_3.1, [], (by have := hd2_3.2 (by omega); simp only [List.length_nil]; omega), _, _⟩ (Weak.sim ⟨rfl, rfl, rfl, Rf rfl, ⟨rfl, rfl⟩, Rf rfl, ⟨_, rfl, sim_nil⟩, trivial⟩ rfl rfl) ?_
 intro i
 have hle := i.le
 have hnn := i.nn
 have hll := i.le
 refine AW.seq (AW.seq (AW.region ?_))
 refine qq Qt.move ?_
 refine qq (Qt.binOp rfl rfl rfl) ?_
 refine nl ?_
 refine AW.cond rfl (fun c1 => ?_) (fun c1 => ?_)
 ·have k1 := c1
  try simp only [cnd] at c1
  refine jd (AW.seq (AW.block (AW.region ?_)))
  refine qq Qt.move ?_
  refine nm ?_
  refine qq Qt.move ?_
  refine spK (StpK.callD rfl (by decide) Try.call42 rfl rfl rfl rfl rfl rfl rfl (cur_leaf _ _) (l3Ins_con code _ _) (fun _ => nodup_of rfl) (fun _ => rfl) (fun _ => rfl)) ?_
  rintro _ ⟨d5_2, hd5_2, rfl⟩
  try dsimp only at hd5_2
  refine nm ?_
  refine sp (Stp.buildSlice rfl (by decide) (by decide) rfl (by decide) rfl rfl rfl (nodup_of rfl)) ?_
  refine nm ?_
  refine sp (by first | exact Stp.appendC rfl (by decide) (by decide) rfl rfl (by omega) | exact Stp.appendM rfl (by decide) (by decide) rfl rfl rfl (by omega)) ?_
  refine nm ?_
  refine AWL.rep 20 (tr (i.l ++ [d5_2.2.2])) rfl (app_one (α := DIns) (a := d5_2.2.2) (fun c hc => match c, hc with | 0, _ => rfl | 1, _ => rfl | 2, _ => rfl | 3, _ => rfl | c + 4, hc => absurd hc (by simp only [En.n]; omega))) ?_
  refine nm ?_
  refine qq Qt.assign ?_
  refine nl ?_
  refine AW.region ?_
  refine qq Qt.move ?_
  refine qq (Qt.binOp rfl rfl (by first | exact pbSub (by omega) | rfl)) ?_
  refine nm ?_
  refine qq Qt.assign ?_
  refine nl ?_
  refine ⟨⟨i.n - 1, by omega, i.l ++ [d5_2.2.2], by rw [List.length_append]; simp only [List.length_cons, List.length_nil]; omega, _, _⟩, Weak.trans (Weak.renR (a := 20) (b := 7) rfl (by decide) (by decide)) (Weak.sim ⟨rfl, rfl, rfl, Rf rfl, ⟨rfl, rfl⟩, Rf rfl, Rf rfl, trivial⟩ rfl rfl), ?_⟩
  show (i.n - 1).toNat < i.n.toNat
  omega
 have k1 := c1
 try simp only [cnd] at c1
 refine AW.exit ?_
 dsimp only [thenQ, blockQ, reduceIte]
 refine AW.seq (AW.region ?_)
 refine qq Qt.move ?_
 refine qq Qt.assign ?_
 refine nl ?_
 refine AW.ret (endQ_ret (.cons (.tmp 4) .nil) ?_)
 exact ⟨(i.p, i.q, i.l), (by show i.l.length ≤ 100; omega), ⟨fun n => if n = 0 then 7 else n, rfl, (fun n hn => if_neg (fun e => by subst e; exact absurd hn (by decide))), nodup_of rfl, (fun r hr => by cases List.mem_singleton.1 hr; exact ⟨by simp, rootL_mem rfl, by show (7 : Nat) < 100000; decide⟩), by simp⟩, rootL_mem rfl, alM rfl⟩
end Go.Proofs.Ytbchjcapphclgaa.VM
