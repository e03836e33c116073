/- Contracts of functions of the program. No conditions beyond those that each states. -/
import Derived.Test.YtbchjcapphclgaaCJI
import Derived.Test.YtbchjcapphclgaaCJK
set_option linter.all false
namespace Go.Proofs.Ytbchjcapphclgaa.VM
open Go Go.RowKit Go.Proofs
theorem pbQuo2 {n : Nat} (h : n ≤ 1048576) : pureBin .quo (iv (n : Int)) (iv 2) = some (iv ((n / 2 : Nat) : Int)) := by
 show some (Value.int .i64 (IntKind.i64.wrap ((n : Int).tdiv 2))) = _
 rw [Int.tdiv_eq_ediv_of_nonneg (by omega), IntWalk.i64_in _ (by omega)]
 rfl
theorem view_drop {l : List UInt8} {lo len : Nat} (h : lo + len = l.length) : (T.s 1 len fun k c => (En.cs (l.getD (lo + k) En.dflt)).getD c .j).sim (tr (l.drop lo)) := by
 refine ⟨fun k c => (En.cs ((l.drop lo).getD k En.dflt)).getD c .j, by rw [tr, List.length_drop, show l.length - lo = len by omega]; rfl, fun k c hk hc => ?_⟩
 show ((En.cs (l.getD (lo + k) En.dflt)).getD c .j).sim ((En.cs ((l.drop lo).getD k En.dflt)).getD c .j)
 have : (l.drop lo).getD k En.dflt = l.getD (lo + k) En.dflt := by simp [List.getD_eq_getElem?_getD, List.getElem?_drop]
 rw [this]
 exact T.sim_refl _
structure EI where
 n : Int
 nn : 0 ≤ n
 l : List Int
 le : l.length + n.toNat ≤ 8
 p : Nat
 q : Int
set_option maxHeartbeats 8000000 in
set_option maxRecDepth 10000 in
theorem DrawExec_con (code : List UInt8) (hw : code.length ≤ 1048576) : Con Try.prog 13 [.h base []] [.rt base .ro (tr code)] (RetC false (fun m : List DIns × (Int × List Int × Nat) × List Int => m.1.length ≤ 200 ∧ m.2.1.2.1.length = 4 ∧ (m.2.1.2.2 = 3 ∨ m.2.1.2.2 = 4) ∧ m.2.2.length ≤ 9) (fun m => .t [.h 0 [], .g [.v (iv m.2.1.1), .a 1 [] 1 0 m.2.1.2.2], .h 2 []]) (fun m => [(0, .row, tr m.1), (1, .row, tr m.2.1.2.1), (2, .row, tr m.2.2)])) := by
 refine Con.of_body Try.func13 rfl (by simp) ?_
 rw [Try.ntmps13]
 refine AW.seq (AW.region ?_)
 refine qq Qt.assign ?_
 refine sp (Stp.alloc rfl (by decide) (by decide)) ?_
 refine nm ?_
 refine qq Qt.assign ?_
 refine nl ?_
 refine AW.seq (AW.region ?_)
 refine qq Qt.move ?_
 refine spK (StpK.callC true rfl (by decide) Try.call18 rfl rfl rfl rfl (l1New_con code hw) (fun _ => nodup_of rfl) (fun _ => rfl) (fun _ => rfl) (fun _ => rfl) (fun _ _ => rfl)) ?_
 rintro _ ⟨d1_1, hd1_1, rfl⟩
 try dsimp only at hd1_1
 refine nm ?_
 refine qq Qt.assign ?_
 refine nl ?_
 refine AW.seq (AW.region ?_)
 refine qq Qt.move ?_
 refine spK (StpK.callD rfl (by decide) Try.call24 rfl rfl rfl rfl rfl rfl rfl (cur_leaf _ _) (l5Cpu_con code _ _) (fun _ => nodup_of rfl) (fun _ => rfl) (fun _ => rfl)) ?_
 rintro _ ⟨d2_1, hd2_1, rfl⟩
 try dsimp only at hd2_1
 refine nm ?_
 refine sp (Stp.alloc rfl (by decide) (by decide)) ?_
 refine nm ?_
 refine ss ?_
 refine nl ?_
 refine AW.seq (AW.region ?_)
 refine sp (Stp.buildSlice rfl (by decide) (by decide) rfl (by decide) rfl rfl rfl (nodup_of rfl)) ?_
 refine nm ?_
 refine qq Qt.assign ?_
 refine nl ?_
 refine AW.seq (AW.seq (AW.region ?_))
 refine qq Qt.move ?_
 refine spK (StpK.callD rfl (by decide) Try.call25 rfl rfl rfl rfl rfl rfl rfl (cur_leaf _ _) (l1Below_con code _ _ _) (fun _ => nodup_of rfl) (fun _ => rfl) (fun _ => rfl)) ?_
 rintro _ ⟨d4_1, hd4_1, rfl⟩
 try dsimp only at hd4_1
 have hb4 := hd4_1.2 (by omega)
 refine nm ?_
 refine qq (Qt.binOp rfl rfl (by first | exact pbMul (by omega) | rfl)) ?_
 refine qq Qt.assign ?_
 refine nl ?_
 refine AW.block ?_
 refine AW.loopW (fun i : EI => [.sl 8 (.v (iv i.n)), .sl 7 (.h 13 []), .sl 5 (.p 10 [] 3 0 0), .rt 10 .box (.s 3 1 (curF (i.p : Nat) i.q)), .al 10 0 (.h base []), .rt base .ro (tr code), .sl 6 (.p 6 [] 2 0 0), .rt 6 .box (T.s 2 1 fun _ c => [T.v (iv d2_1.2.2.1), T.j].getD c .j), .al 6 1 (.a 12 [] 1 0 d2_1.2.2.2.2), .rt 12 .row (tr d2_1.2.2.2.1), .sl 3 (.p 3 [] 2 0 0), .rt 3 .box (T.s 2 1 fun _ c => [T.v (.int .i64 0), T.s 1 0 fun _ _ => T.j].getD c T.j), .sl 0 (.h base []), .rt 13 .row (tr i.l)]) (fun i => i.n.toNat) ⟨_, (by omega), [], (by simp only [List.length_nil]; omega), _, _⟩ (Weak.sim ⟨rfl, rfl, rfl, Rf rfl, ⟨rfl, rfl⟩, Rf rfl, rfl, ⟨_, rfl, cpu_sim rfl rfl⟩, ⟨rfl, rfl⟩, Rf rfl, rfl, Rf rfl, rfl, ⟨_, rfl, sim_nil⟩, trivial⟩ rfl rfl) ?_
 intro i
 have hle := i.le
 have hnn := i.nn
 have hll := i.le
 refine AW.seq (AW.seq (AW.region ?_))
 refine qq Qt.move ?_
 refine nm ?_
 refine qq (Qt.binOp rfl rfl rfl) ?_
 refine nl ?_
 refine AW.cond rfl (fun c1 => ?_) (fun c1 => ?_)
 ·have k1 := c1
  try simp only [cnd] at c1
  refine jd (AW.seq (AW.block (AW.region ?_)))
  refine qq Qt.move ?_
  refine qq Qt.move ?_
  refine nm ?_
  refine spK (StpK.callD rfl (by decide) Try.call25 rfl rfl rfl rfl rfl rfl rfl (cur_leaf _ _) (l1Below_con code _ _ _) (fun _ => nodup_of rfl) (fun _ => rfl) (fun _ => rfl)) ?_
  rintro _ ⟨d7_2, hd7_2, rfl⟩
  try dsimp only at hd7_2
  refine nm ?_
  refine sp (Stp.buildSlice rfl (by decide) (by decide) rfl (by decide) rfl rfl rfl (nodup_of rfl)) ?_
  refine nm ?_
  refine sp (by first | exact Stp.appendC rfl (by decide) (by decide) rfl rfl (by omega) | exact Stp.appendM rfl (by decide) (by decide) rfl rfl rfl (by omega)) ?_
  refine nm ?_
  refine AWL.rep 25 (tr (i.l ++ [d7_2.2.2])) rfl (app_one (α := Int) (a := d7_2.2.2) (fun c hc => match c, hc with | 0, _ => rfl | c + 1, hc => absurd hc (by simp only [En.n]; omega))) ?_
  refine nm ?_
  refine qq Qt.assign ?_
  refine nl ?_
  refine AW.region ?_
  refine qq Qt.move ?_
  refine qq (Qt.binOp rfl rfl (by first | exact pbSub (by omega) | rfl)) ?_
  refine nm ?_
  refine qq Qt.assign ?_
  refine nl ?_
  refine ⟨⟨i.n - 1, by omega, i.l ++ [d7_2.2.2], by rw [List.length_append]; simp only [List.length_cons, List.length_nil]; omega, _, _⟩, Weak.trans (Weak.renR (a := 25) (b := 13) rfl (by decide) (by decide)) (Weak.sim ⟨rfl, rfl, rfl, Rf rfl, ⟨rfl, rfl⟩, Rf rfl, rfl, Rf rfl, ⟨rfl, rfl⟩, Rf rfl, rfl, Rf rfl, rfl, Rf rfl, trivial⟩ rfl rfl), ?_⟩
  show (i.n - 1).toNat < i.n.toNat
  omega
 have k1 := c1
 try simp only [cnd] at c1
 refine AW.exit ?_
 dsimp only [thenQ, blockQ, reduceIte]
 refine AW.seq (AW.seq (AW.region ?_))
 refine qq Qt.move ?_
 refine spK (StpK.callD rfl (by decide) Try.call26 rfl rfl rfl rfl rfl rfl rfl (cur_leaf _ _) (l1Once_con code _ _ _) (fun _ => nodup_of rfl) (fun _ => rfl) (fun _ => rfl)) ?_
 rintro _ ⟨d8_1, hd8_1, rfl⟩
 try dsimp only at hd8_1
 refine nl ?_
 refine AW.cond rfl (fun c2 => ?_) (fun c2 => ?_)
 ·have k2 := c2
  try simp only [cnd] at c2
  refine AW.region ?_
  refine qq Qt.move ?_
  refine nm ?_
  refine qq Qt.move ?_
  refine sp (Stp.buildSlice rfl (by decide) (by decide) rfl (by decide) rfl rfl rfl (nodup_of rfl)) ?_
  refine AWL.rep 30 (tr ([-1000000, 1000001] : List Int)) rfl (T.sim_of fun k c hk hc => by
   obtain rfl : c = 0 := by first | omega | (simp only [List.length_cons, List.length_nil] at hc; omega)
   match k, hk with
   | 0, _ => rfl
   | 1, _ => rfl
   | k + 2, hk => exact absurd hk (by first | omega | (simp only [List.length_cons, List.length_nil]; omega))) ?_
  refine nm ?_
  refine spK (StpK.callD2 rfl (by decide) Try.call27 rfl rfl rfl rfl rfl rfl rfl rfl rfl (cur_leaf _ _) (l1PickInt_con code _ _ _ (by simp)) (fun _ => nodup_of rfl) (fun _ => rfl) (fun _ => rfl)) ?_
  rintro _ ⟨d9_3, hd9_3, rfl⟩
  try dsimp only at hd9_3
  refine nm ?_
  refine sp (Stp.buildSlice rfl (by decide) (by decide) rfl (by decide) rfl rfl rfl (nodup_of rfl)) ?_
  refine nm ?_
  refine sp (by first | exact Stp.appendC rfl (by decide) (by decide) rfl rfl (by omega) | exact Stp.appendM rfl (by decide) (by decide) rfl rfl rfl (by omega)) ?_
  refine nm ?_
  refine AWL.rep 33 (tr (i.l ++ [d9_3.2.2])) rfl (app_one (α := Int) (a := d9_3.2.2) (fun c hc => match c, hc with | 0, _ => rfl | c + 1, hc => absurd hc (by simp only [En.n]; omega))) ?_
  refine AWL.weak (Weak.renR (a := 33) (b := 13) rfl (by decide) (by decide)) ?_
  refine nm ?_
  refine qq Qt.assign ?_
  refine nl ?_
  refine AW.seq ?_
  refine AW.draw [0, 1, 2, 3, 4, 6, 7, 8, 10] rfl (by decide +kernel) ?_
  refine tk 0 rfl Qt.move ?_
  refine tk 1 rfl Qt.move ?_
  refine na ?_
  refine tk 2 rfl (Qt.lenH rfl rfl rfl sl22) ?_
  refine tk 3 rfl (Qt.binOp rfl rfl (pbQuo2 hw)) ?_
  refine tk 4 rfl (Qt.sliceH (lo := code.length / 2) (hi := code.length) rfl rfl rfl sl22 sz5 (by decide) (slB_so rfl rfl) slB_no (by omega) (by omega)) ?_
  refine na ?_
  refine tk 6 rfl (Qt.loadG rfl rfl rfl ag36 sz36 (by decide)) ?_
  refine tk 7 rfl Qt.move ?_
  refine na ?_
  refine AWA.weak (Weak.viewA 38 903 rfl rfl (.inr (by omega)) rfl (by decide)) ?_
  refine AWA.rep 903 (tr (code.drop (code.length / 2))) rfl (view_drop (by omega)) ?_
  refine na ?_
  refine a1K 5 [6, 7] [4, 3, 0, 2, 1] rfl rfl (StpK.callC false rfl (by decide) Try.call28 rfl rfl rfl rfl (DrawProgOk_con (code.drop (code.length / 2)) (by rw [List.length_drop]; omega)) (fun _ => nodup_of rfl) (fun _ => rfl) (fun _ => rfl) (fun _ => rfl) (fun h => by cases h)) ?_
  rintro _ ⟨d10_5, hd10_5, rfl⟩
  try dsimp only at hd10_5
  refine na ?_
  refine na ?_
  refine AWA.againE rfl rfl (by decide +kernel) (.on rfl rfl (Qt.loadG rfl rfl rfl ag36 sz36 (by decide))) rfl ?_
  refine na ?_
  refine AWA.againE rfl rfl (by decide +kernel) (.on rfl rfl Qt.move) rfl ?_
  refine na ?_
  refine tk 8 rfl Qt.assign ?_
  refine a1 9 [7] [8, 6, 5, 4, 3, 2, 1, 0] rfl rfl (by first | exact Stp.storeA rfl rfl rfl rfl (by decide) rfl | exact Stp.store rfl rfl (by simp) rfl rfl rfl (by decide) rfl) ?_
  refine na ?_
  refine na ?_
  refine AWA.againE rfl rfl (by decide +kernel) (.on rfl rfl Qt.move) rfl ?_
  refine na ?_
  refine tk 10 rfl Qt.assign ?_
  refine nz ?_
  refine AW.ret (endQ_ret (.cons (.tmp 2) (.cons (.cellG 3 36 rfl rfl rfl ag36 sz36 (by decide)) (.cons (.tmp 4) .nil))) ?_)
  exact ⟨(d10_5, (d2_1.2.2.1, d2_1.2.2.2.1, d2_1.2.2.2.2), (i.l ++ [d9_3.2.2])), ⟨hd10_5, hd2_1.1, hd2_1.2, (by show (i.l ++ [d9_3.2.2]).length ≤ 9; rw [List.length_append]; simp only [List.length_cons, List.length_nil]; omega)⟩, fun n => if n = 0 then 39 else if n = 1 then 12 else 13, rfl, nodup_of rfl, (fun r hr => by simp only [List.mem_cons, List.not_mem_nil, or_false] at hr; rcases hr with rfl | rfl | rfl <;> exact ⟨by simp, rootL_mem rfl, of_decide_eq_true rfl⟩), fun h => by cases h⟩
 have k2 := c2
 try simp only [cnd] at c2
 refine jd (AW.seq ?_)
 refine AW.draw [0, 1, 2, 3, 4, 6, 7, 8, 10] rfl (by decide +kernel) ?_
 refine tk 0 rfl Qt.move ?_
 refine tk 1 rfl Qt.move ?_
 refine na ?_
 refine tk 2 rfl (Qt.lenH rfl rfl rfl sl22) ?_
 refine tk 3 rfl (Qt.binOp rfl rfl (pbQuo2 hw)) ?_
 refine tk 4 rfl (Qt.sliceH (lo := code.length / 2) (hi := code.length) rfl rfl rfl sl22 sz5 (by decide) (slB_so rfl rfl) slB_no (by omega) (by omega)) ?_
 refine na ?_
 refine tk 6 rfl (Qt.loadG rfl rfl rfl ag36 sz36 (by decide)) ?_
 refine tk 7 rfl Qt.move ?_
 refine na ?_
 refine AWA.weak (Weak.viewA 38 903 rfl rfl (.inr (by omega)) rfl (by decide)) ?_
 refine AWA.rep 903 (tr (code.drop (code.length / 2))) rfl (view_drop (by omega)) ?_
 refine na ?_
 refine a1K 5 [6, 7] [4, 3, 0, 2, 1] rfl rfl (StpK.callC false rfl (by decide) Try.call28 rfl rfl rfl rfl (DrawProgOk_con (code.drop (code.length / 2)) (by rw [List.length_drop]; omega)) (fun _ => nodup_of rfl) (fun _ => rfl) (fun _ => rfl) (fun _ => rfl) (fun h => by cases h)) ?_
 rintro _ ⟨d10_5, hd10_5, rfl⟩
 try dsimp only at hd10_5
 refine na ?_
 refine na ?_
 refine AWA.againE rfl rfl (by decide +kernel) (.on rfl rfl (Qt.loadG rfl rfl rfl ag36 sz36 (by decide))) rfl ?_
 refine na ?_
 refine AWA.againE rfl rfl (by decide +kernel) (.on rfl rfl Qt.move) rfl ?_
 refine na ?_
 refine tk 8 rfl Qt.assign ?_
 refine a1 9 [7] [8, 6, 5, 4, 3, 2, 1, 0] rfl rfl (by first | exact Stp.storeA rfl rfl rfl rfl (by decide) rfl | exact Stp.store rfl rfl (by simp) rfl rfl rfl (by decide) rfl) ?_
 refine na ?_
 refine na ?_
 refine AWA.againE rfl rfl (by decide +kernel) (.on rfl rfl Qt.move) rfl ?_
 refine na ?_
 refine tk 10 rfl Qt.assign ?_
 refine nz ?_
 refine AW.ret (endQ_ret (.cons (.tmp 2) (.cons (.cellG 3 36 rfl rfl rfl ag36 sz36 (by decide)) (.cons (.tmp 4) .nil))) ?_)
 exact ⟨(d10_5, (d2_1.2.2.1, d2_1.2.2.2.1, d2_1.2.2.2.2), i.l), ⟨hd10_5, hd2_1.1, hd2_1.2, (by show i.l.length ≤ 9; omega)⟩, fun n => if n = 0 then 39 else if n = 1 then 12 else 13, rfl, nodup_of rfl, (fun r hr => by simp only [List.mem_cons, List.not_mem_nil, or_false] at hr; rcases hr with rfl | rfl | rfl <;> exact ⟨by simp, rootL_mem rfl, of_decide_eq_true rfl⟩), fun h => by cases h⟩
end Go.Proofs.Ytbchjcapphclgaa.VM
