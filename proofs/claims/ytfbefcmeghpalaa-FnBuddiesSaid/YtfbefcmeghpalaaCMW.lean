/- Contracts of functions of the program. No conditions beyond those that each states. -/
import Derived.Test.YtfbefcmeghpalaaCMV
import Derived.Test.YtfbefcmeghpalaaCMQ
import Derived.Test.YtfbefcmeghpalaaCMP2
import Derived.Test.YtfbefcmeghpalaaCMN
set_option linter.all false
namespace Go.Proofs.Ytfbefcmeghpalaa.VM
open Go Go.RowKit Go.Proofs
theorem pbQuo20 {n : Nat} (h : n ≤ 1048576) : pureBin .quo (iv (n : Int)) (iv 20) = some (iv ((n / 20 : Nat) : Int)) := by
 show some (Value.int .i64 (IntKind.i64.wrap ((n : Int).tdiv 20))) = _
 have e : (n : Int).tdiv 20 = ((n / 20 : Nat) : Int) := rfl
 rw [e, IntWalk.i64_in _ (by omega)]
/-- how much is drawn at most -/
def szS (n : Nat) (m : Int) : Int := if 2 + ((n / 20 : Nat) : Int) > m then m else 2 + ((n / 20 : Nat) : Int)
set_option maxHeartbeats 8000000 in
set_option maxRecDepth 10000 in
theorem l1Size_con (code : List UInt8) (m : Int) (hw : code.length ≤ 1048576) : Con Try.prog 25 [.h base [], .v (iv m)] [.rt base .ro (tr code)] (fun y _ => y = .v (iv (szS code.length m))) := by
 refine Con.of_body Try.func25 rfl (by simp) ?_
 rw [Try.ntmps25]
 refine AW.seq (AW.region ?_)
 refine qq Qt.assign ?_
 refine nl ?_
 refine AW.seq (AW.region ?_)
 refine qq Qt.move ?_
 refine qq (Qt.lenH rfl rfl rfl sl22) ?_
 refine nm ?_
 refine qq (Qt.binOp rfl rfl (pbQuo20 hw)) ?_
 refine qq (Qt.binOp rfl rfl (by first | exact pbAdd (by omega) | rfl)) ?_
 refine qq Qt.assign ?_
 refine nl ?_
 refine AW.seq (AW.seq (AW.region ?_))
 refine qq Qt.move ?_
 refine nm ?_
 refine qq Qt.move ?_
 refine qq (Qt.binOp rfl rfl rfl) ?_
 refine nl ?_
 refine AW.cond rfl (fun c1 => ?_) (fun c1 => ?_)
 ·have k1 := c1
  try simp only [cnd] at c1
  refine AW.seq (AW.region ?_)
  refine qq Qt.move ?_
  refine nm ?_
  refine qq Qt.assign ?_
  refine nl ?_
  refine AW.ret (endQ_ret (.cons (.tmp 4) .nil) ?_)
  rw [show szS code.length m = m from if_pos (by omega)]
  rfl
 have k1 := c1
 try simp only [cnd] at c1
 refine jd (AW.seq (AW.region ?_))
 refine qq Qt.move ?_
 refine qq Qt.assign ?_
 refine nl ?_
 refine AW.ret (endQ_ret (.cons (.tmp 4) .nil) ?_)
 rw [show szS code.length m = 2 + ((code.length / 20 : Nat) : Int) from if_neg (by omega)]
 rfl
/-- what may be drawn: right or not, five rows or four -/
structure HInvB where
 n : Int
 le : 0 ≤ n ∧ n ≤ 1000
 S : List (List Int)
 ok : HeapG S
 p : Nat
 q : Int
def Drawn (S : List (List Int)) : Prop := (S.length = 5 ∨ S.length = 4) ∧ ∀ k, (S.getD k []).length ≤ 1000
theorem drawn_set {S : List (List Int)} {o : Nat} {y : List Int} (h5 : S.length = 5) (h : ∀ k, (S.getD k En.dflt).length ≤ 16) (hy : y.length ≤ 17) : Drawn (S.set o y) := by
 refine ⟨.inl (by rw [List.length_set]; exact h5), fun k => ?_⟩
 rw [List.getD_eq_getElem?_getD, List.getElem?_set]
 split
 ·split
  ·simp; omega
  ·simp
 ·rw [← List.getD_eq_getElem?_getD]
  have h2 : (S.getD k []).length ≤ 16 := h k
  omega
theorem drawn_take {S : List (List Int)} (h5 : S.length = 5) (h : ∀ k, (S.getD k En.dflt).length ≤ 16) : Drawn (S.take 4) := by
 refine ⟨.inr (by rw [List.length_take]; omega), fun k => ?_⟩
 rw [List.getD_eq_getElem?_getD, List.getElem?_take]
 split
 ·rw [← List.getD_eq_getElem?_getD]
  have h2 : (S.getD k []).length ≤ 16 := h k
  omega
 ·simp
theorem take_sim {α : Type} [En α] {l : List α} {n : Nat} (h : n ≤ l.length) : (T.s (En.n α) n fun k c => (En.cs (l.getD (0 + k) En.dflt)).getD c .j).sim (tr (l.take n)) := by
 refine ⟨fun k c => (En.cs ((l.take n).getD k En.dflt)).getD c .j, by rw [tr, List.length_take, Nat.min_eq_left h], fun k c hk hc => ?_⟩
 have : (l.take n).getD k En.dflt = l.getD (0 + k) En.dflt := by
  rw [Nat.zero_add, List.getD_eq_getElem?_getD, List.getD_eq_getElem?_getD, List.getElem?_take, if_pos hk]
 show ((En.cs (l.getD (0 + k) En.dflt)).getD c .j).sim ((En.cs ((l.take n).getD k En.dflt)).getD c .j)
 rw [this]
 exact T.sim_refl _
set_option maxHeartbeats 8000000 in
set_option maxRecDepth 10000 in
theorem l15Some_con (code : List UInt8) (i : Nat) (h : Int) (most : Int) (hm : 0 < most ∧ most ≤ 1000) : Con Try.prog 24 [.p base [] 3 0 0, .v (iv most)] [.rt base .box (.s 3 1 (curF (i : Nat) h)), .al base 0 (.h (base + 1) []), .rt (base + 1) .ro (tr code)] (RetD 3 (fun m : Nat × Int × List (List Int) => Drawn m.2.2) (fun m => .g [.h 0 []]) (fun m => [(0, .row, tr m.2.2)]) (fun m => curF m.1 m.2.1)) := by
 refine Con.of_body Try.func24 rfl (by simp) ?_
 rw [Try.ntmps24]
 refine AW.seq (AW.region ?_)
 refine sp (Stp.alloc rfl (by decide) (by decide)) ?_
 refine nl ?_
 refine AW.seq (AW.region ?_)
 refine sp (Stp.callR rfl (by decide) Try.call66 rfl rfl BuddyAllS_con (nodup_of rfl) rfl rfl) ?_
 refine nm ?_
 refine sp (Stp.alloc rfl (by decide) (by decide)) ?_
 refine nm ?_
 refine ss ?_
 refine nl ?_
 refine AW.seq (AW.seq (AW.region ?_))
 refine qq Qt.move ?_
 refine nm ?_
 refine qq Qt.move ?_
 refine spK (StpK.callD rfl (by decide) Try.call67 rfl rfl rfl rfl rfl rfl rfl (cur_leaf _ _) (l1Below_con code _ _ _) (fun _ => nodup_of rfl) (fun _ => rfl) (fun _ => rfl)) ?_
 rintro _ ⟨d2_2, hd2_2, rfl⟩
 try dsimp only at hd2_2
 refine nm ?_
 refine qq Qt.assign ?_
 refine nl ?_
 refine AW.block ?_
 refine AW.loopW (fun i : HInvB => [.sl 6 (.v (iv i.n)), .sl 5 (.p 5 [] 1 0 0), .sl 4 (.p 4 [] 1 0 0), .sl 0 (.p base [] 3 0 0), .rt 5 .box (T.s 1 1 fun _ _ => .j), .al 5 0 (.h 8 []), .rt 8 .row (tr i.S), .rt 4 .box (T.s 1 1 fun _ c => [T.s 1 0 fun _ _ => T.j].getD c T.j), .rt base .box (.s 3 1 (curF (i.p : Nat) i.q)), .al base 0 (.h (base + 1) []), .rt (base + 1) .ro (tr code)]) (fun i => i.n.toNat) ⟨d2_2.2.2, ⟨hd2_2.1, Int.le_trans (Int.le_of_lt (hd2_2.2 (by omega))) (by omega)⟩, buddyAll.Free, allG, _, _⟩ (Weak.sim ⟨rfl, rfl, rfl, rfl, ⟨_, rfl, sim_j11 rfl⟩, ⟨rfl, rfl⟩, Rf rfl, Rf rfl, Rf rfl, ⟨rfl, rfl⟩, Rf rfl, trivial⟩ rfl rfl) ?_
 intro i
 have hle := i.le
 have hnn := i.le
 refine AW.seq (AW.seq (AW.region ?_))
 refine qq Qt.move ?_
 refine qq (Qt.binOp rfl rfl rfl) ?_
 refine nl ?_
 refine AW.cond rfl (fun c1 => ?_) (fun c1 => ?_)
 ·have k1 := c1
  try simp only [cnd] at c1
  refine jd (AW.seq (AW.block (AW.seq (AW.region ?_))))
  refine qq Qt.move ?_
  refine nm ?_
  refine spK (StpK.callD rfl (by decide) Try.call68 rfl rfl rfl rfl rfl rfl rfl (cur_leaf _ _) (l1Once_con code _ _ _) (fun _ => nodup_of rfl) (fun _ => rfl) (fun _ => rfl)) ?_
  rintro _ ⟨d5_1, hd5_1, rfl⟩
  try dsimp only at hd5_1
  refine nl ?_
  refine AW.cond rfl (fun c2 => ?_) (fun c2 => ?_)
  ·have k2 := c2
   try simp only [cnd] at c2
   refine AW.draw [0, 1, 4, 5, 6] rfl (by decide +kernel) ?_
   refine tk 0 rfl (Qt.loadG rfl rfl rfl ag26 sz26 (by decide)) ?_
   refine na ?_
   refine tk 1 rfl Qt.move ?_
   refine a1K 2 [0] [1] rfl rfl (StpK.callD rfl (by decide) Try.call67 rfl rfl rfl rfl rfl rfl rfl (cur_leaf _ _) (l1Below_con code _ _ _) (fun _ => nodup_of rfl) (fun _ => rfl) (fun _ => rfl)) ?_
   rintro _ ⟨d6_2, hd6_2, rfl⟩
   try dsimp only at hd6_2
   refine na ?_
   refine na ?_
   refine AWA.againE rfl rfl (by decide +kernel) (.on rfl rfl (Qt.loadG rfl rfl rfl ag26 sz26 (by decide))) rfl ?_
   refine na ?_
   refine a1 3 [] [2, 0, 1] rfl rfl (Stp.callH rfl (by decide) Try.call69 rfl (l15Give_con ⟨i.S⟩ _ i.ok.gRow) rfl rfl rfl (nodup_of rfl) rfl rfl) ?_
   refine na ?_
   refine na ?_
   refine tk 4 rfl Qt.move ?_
   refine tk 5 rfl (Qt.extract rfl (of_decide_eq_true rfl)) ?_
   refine tk 6 rfl (Qt.extract rfl (of_decide_eq_true rfl)) ?_
   refine na ?_
   refine a1 7 [6] [5, 4, 3, 2, 1, 0] rfl rfl (by first | exact Stp.storeA rfl rfl rfl rfl (by decide) rfl | exact Stp.store rfl rfl (by simp) rfl rfl rfl (by decide) rfl) ?_
   refine na ?_
   refine na ?_
   refine AWA.againE rfl rfl (by decide +kernel) (.on rfl rfl (Qt.extract rfl (of_decide_eq_true rfl))) rfl ?_
   refine na ?_
   refine nz ?_
   refine AW.region ?_
   refine qq Qt.move ?_
   refine qq (Qt.binOp rfl rfl (by first | exact pbSub (by omega) | rfl)) ?_
   refine qq Qt.assign ?_
   refine nl ?_
   refine ⟨⟨i.n - 1, by omega, _, give_keep i.ok _, _, _⟩, Weak.sim ⟨rfl, rfl, rfl, rfl, ⟨_, rfl, sim_j11 rfl⟩, ⟨rfl, rfl⟩, Rf rfl, Rf rfl, Rf rfl, ⟨rfl, rfl⟩, Rf rfl, trivial⟩ rfl rfl, ?_⟩
   show (i.n - 1).toNat < i.n.toNat
   omega
  have k2 := c2
  try simp only [cnd] at c2
  refine AW.region ?_
  refine qq (Qt.loadG rfl rfl rfl ag26 sz26 (by decide)) ?_
  refine nm ?_
  refine sp (Stp.callH rfl (by decide) Try.call70 rfl (l15Take_con i.S i.ok.len (fun k hk => i.ok.few k hk) (fun k hk => i.ok.head k hk)) rfl rfl rfl (nodup_of rfl) rfl rfl) ?_
  refine nm ?_
  refine qq Qt.move ?_
  refine qq (Qt.extract rfl (of_decide_eq_true rfl)) ?_
  refine qq (Qt.extract rfl (of_decide_eq_true rfl)) ?_
  refine nm ?_
  refine ss ?_
  refine nl ?_
  refine AW.region ?_
  refine qq Qt.move ?_
  refine nm ?_
  refine qq (Qt.binOp rfl rfl (by first | exact pbSub (by omega) | rfl)) ?_
  refine qq Qt.assign ?_
  refine nl ?_
  refine ⟨⟨i.n - 1, by omega, _, (take_good i.ok).1, _, _⟩, Weak.sim ⟨rfl, rfl, rfl, rfl, ⟨_, rfl, sim_j11 rfl⟩, ⟨rfl, rfl⟩, Rf rfl, Rf rfl, Rf rfl, ⟨rfl, rfl⟩, Rf rfl, trivial⟩ rfl rfl, ?_⟩
  show (i.n - 1).toNat < i.n.toNat
  omega
 have k1 := c1
 try simp only [cnd] at c1
 have hi5 := i.ok.len
 have hfew : ∀ k, (i.S.getD k En.dflt).length ≤ 16 := i.ok.few16
 refine AW.exit ?_
 dsimp only [thenQ, blockQ, reduceIte]
 refine AW.seq (AW.seq (AW.region ?_))
 refine qq Qt.move ?_
 refine nm ?_
 refine spK (StpK.callD rfl (by decide) Try.call68 rfl rfl rfl rfl rfl rfl rfl (cur_leaf _ _) (l1Once_con code _ _ _) (fun _ => nodup_of rfl) (fun _ => rfl) (fun _ => rfl)) ?_
 rintro _ ⟨d8_1, hd8_1, rfl⟩
 try dsimp only at hd8_1
 refine nl ?_
 refine AW.cond rfl (fun c3 => ?_) (fun c3 => ?_)
 ·have k3 := c3
  try simp only [cnd] at c3
  refine AW.seq (AW.region ?_)
  refine qq Qt.move ?_
  refine nm ?_
  refine spK (StpK.callD rfl (by decide) Try.call67 rfl rfl rfl rfl rfl rfl rfl (cur_leaf _ _) (l1Below_con code _ _ _) (fun _ => nodup_of rfl) (fun _ => rfl) (fun _ => rfl)) ?_
  rintro _ ⟨d9_1, hd9_1, rfl⟩
  try dsimp only at hd9_1
  refine nm ?_
  refine qq Qt.assign ?_
  refine nl ?_
  refine AW.seq (AW.region ?_)
  refine qq Qt.move ?_
  refine spK (StpK.callD rfl (by decide) Try.call67 rfl rfl rfl rfl rfl rfl rfl (cur_leaf _ _) (l1Below_con code _ _ _) (fun _ => nodup_of rfl) (fun _ => rfl) (fun _ => rfl)) ?_
  rintro _ ⟨d10_1, hd10_1, rfl⟩
  try dsimp only at hd10_1
  refine nl ?_
  refine AW.block (AW.seq (AW.region ?_))
  refine qq (Qt.binOp rfl rfl rfl) ?_
  refine nm ?_
  refine qq Qt.assign ?_
  refine nl ?_
  refine AW.cond rfl (fun c4 => ?_) (fun c4 => ?_)
  ·have k4 := c4
   try simp only [cnd] at c4
   have hrl := hfew d9_1.2.2.toNat
   refine AW.draw [0, 1, 2, 3, 4, 5, 6, 7, 8, 10, 13] rfl (by decide +kernel) ?_
   refine tk 0 rfl (fA fl26_0) ?_
   refine tk 1 rfl (Qt.load1 rfl rfl rfl ag24) ?_
   refine na ?_
   refine tk 2 rfl Qt.move ?_
   refine tk 3 rfl (fA fl26_0) ?_
   refine tk 4 rfl (Qt.load1 rfl rfl rfl ag24) ?_
   refine na ?_
   refine tk 5 rfl Qt.move ?_
   refine tk 6 rfl (Qt.indexAddr rfl rfl rfl rfl sl24 sz35 (by decide) (by first | omega | grind only)) ?_
   refine tk 7 rfl (Qt.load1 rfl rfl rfl ag35) ?_
   refine na ?_
   refine tk 8 rfl Qt.move ?_
   refine a1K 9 [0, 1, 2, 3, 4, 5, 6, 7] [8] rfl rfl (StpK.callD rfl (by decide) Try.call67 rfl rfl rfl rfl rfl rfl rfl (cur_leaf _ _) (l1Below_con code _ _ _) (fun _ => nodup_of rfl) (fun _ => rfl) (fun _ => rfl)) ?_
   rintro _ ⟨d13_9, hd13_9, rfl⟩
   try dsimp only at hd13_9
   refine na ?_
   refine na ?_
   refine AWA.againE rfl rfl (by decide +kernel) (.on rfl rfl (fA fl26_0)) rfl ?_
   refine na ?_
   refine AWA.againE rfl rfl (by decide +kernel) (.on rfl rfl (Qt.load1 rfl rfl rfl ag24)) rfl ?_
   refine na ?_
   refine AWA.againE rfl rfl (by decide +kernel) (.on rfl rfl Qt.move) rfl ?_
   refine na ?_
   refine AWA.againE rfl rfl (by decide +kernel) (.on rfl rfl (fA fl26_0)) rfl ?_
   refine na ?_
   refine AWA.againE rfl rfl (by decide +kernel) (.on rfl rfl (Qt.load1 rfl rfl rfl ag24)) rfl ?_
   refine na ?_
   refine AWA.againE rfl rfl (by decide +kernel) (.on rfl rfl Qt.move) rfl ?_
   refine na ?_
   refine AWA.againE rfl rfl (by decide +kernel) (.on rfl rfl (Qt.indexAddr rfl rfl rfl rfl sl24 sz35 (by decide) (by first | omega | grind only))) rfl ?_
   refine na ?_
   refine AWA.againE rfl rfl (by decide +kernel) (.on rfl rfl (Qt.load1 rfl rfl rfl ag35)) rfl ?_
   refine na ?_
   refine tk 10 rfl (Qt.binOp rfl rfl (by first | exact pbSub (by omega) | rfl)) ?_
   refine a1 11 [0, 1, 2, 3, 4, 5, 6, 7] [10, 9, 8] rfl rfl (Stp.buildSlice rfl (by decide) (by decide) rfl (by decide) rfl rfl rfl (nodup_of rfl)) ?_
   refine na ?_
   refine na ?_
   refine AWA.againE rfl rfl (by decide +kernel) (.on rfl rfl (fA fl26_0)) rfl ?_
   refine na ?_
   refine AWA.againE rfl rfl (by decide +kernel) (.on rfl rfl (Qt.load1 rfl rfl rfl ag24)) rfl ?_
   refine na ?_
   refine AWA.againE rfl rfl (by decide +kernel) (.on rfl rfl Qt.move) rfl ?_
   refine na ?_
   refine AWA.againE rfl rfl (by decide +kernel) (.on rfl rfl (fA fl26_0)) rfl ?_
   refine na ?_
   refine AWA.againE rfl rfl (by decide +kernel) (.on rfl rfl (Qt.load1 rfl rfl rfl ag24)) rfl ?_
   refine na ?_
   refine AWA.againE rfl rfl (by decide +kernel) (.on rfl rfl Qt.move) rfl ?_
   refine na ?_
   refine AWA.againE rfl rfl (by decide +kernel) (.on rfl rfl (Qt.indexAddr rfl rfl rfl rfl sl24 sz35 (by decide) (by first | omega | grind only))) rfl ?_
   refine na ?_
   refine AWA.againE rfl rfl (by decide +kernel) (.on rfl rfl (Qt.load1 rfl rfl rfl ag35)) rfl ?_
   refine na ?_
   refine a1 12 [0, 1, 2] [11, 9, 7, 10, 8, 6, 5, 4, 3] rfl rfl (by first | exact Stp.appendC rfl (by decide) (by decide) rfl rfl (by omega) | exact Stp.appendM rfl (by decide) (by decide) rfl rfl rfl (by omega)) ?_
   refine na ?_
   refine na ?_
   refine AWA.againE rfl rfl (by decide +kernel) (.on rfl rfl (fA fl26_0)) rfl ?_
   refine na ?_
   refine AWA.againE rfl rfl (by decide +kernel) (.on rfl rfl (Qt.load1 rfl rfl rfl ag24)) rfl ?_
   refine na ?_
   refine AWA.againE rfl rfl (by decide +kernel) (.on rfl rfl Qt.move) rfl ?_
   refine na ?_
   refine tk 13 rfl (Qt.indexAddr rfl rfl rfl rfl sl24 sz35 (by decide) (by first | omega | grind only)) ?_
   refine a1 14 [] [13, 12, 11, 10, 9, 8, 7, 6, 5, 4, 3, 2, 1, 0] rfl rfl (by first | exact Stp.storeA rfl rfl rfl rfl (by decide) rfl | exact Stp.store rfl rfl (by simp) rfl rfl rfl (by decide) rfl) ?_
   refine na ?_
   refine na ?_
   refine nz ?_
   refine AW.seq (AW.region ?_)
   refine qq (Qt.loadG rfl rfl rfl ag26 sz26 (by decide)) ?_
   refine ss ?_
   refine nl ?_
   refine AW.rep 8 (tr (i.S.set d9_1.2.2.toNat ((i.S.getD d9_1.2.2.toNat En.dflt) ++ [d13_9.2.2 - 1]))) rfl (set_sim (fun k c hk => by simp only [upd_app, hk, false_and, if_false]; try rfl) (fun c hc => match c, hc with | 0, _ => (by simp only [upd_app, eq_self, and_self, if_true]; exact (app_one (α := Int) (a := (d13_9.2.2 - 1)) (fun c hc => match c, hc with | 0, _ => rfl | c + 1, hc => absurd hc (by simp only [En.n]; omega)))) | c + 1, hc => absurd hc (by simp only [En.n]; omega))) ?_
   refine AW.ret (endQ_ret (.cons (.cellG 4 26 rfl rfl rfl ag26 sz26 (by decide)) .nil) ?_)
   exact ⟨(d13_9.1, d13_9.2.1, (i.S.set d9_1.2.2.toNat ((i.S.getD d9_1.2.2.toNat En.dflt) ++ [d13_9.2.2 - 1]))), drawn_set hi5 hfew (by rw [List.length_append]; simp only [List.length_cons, List.length_nil]; omega), ⟨fun n => if n = 0 then 8 else n, rfl, (fun n hn => if_neg (fun e => by subst e; exact absurd hn (by decide))), nodup_of rfl, (fun r hr => by cases List.mem_singleton.1 hr; exact ⟨by simp, rootL_mem rfl, by show (8 : Nat) < 100000; decide⟩), by simp⟩, rootL_mem rfl, alM rfl⟩
  have k4 := c4
  try simp only [cnd] at c4
  refine AW.seq (AW.region ?_)
  refine qq (Qt.binOp rfl rfl rfl) ?_
  refine nm ?_
  refine qq Qt.assign ?_
  refine nl ?_
  refine AW.cond rfl (fun c5 => ?_) (fun c5 => ?_)
  ·have k5 := c5
   try simp only [cnd] at c5
   refine AW.region ?_
   refine qq (fA fl26_0) ?_
   refine qq (Qt.load1 rfl rfl rfl ag24) ?_
   refine nm ?_
   refine qq (Qt.sliceH rfl rfl rfl sl24 sz35 (by decide) slB_no (slB_so rfl rfl) (by first | omega | (simp only [Int.toNat_natCast]; omega)) (by first | omega | (simp only [Int.toNat_natCast]; omega))) ?_
   refine AWL.weak (Weak.trunc 63 902 rfl rfl (show 0 + 4 ≤ i.S.length by omega) (by decide) rfl) ?_
   refine AWL.rep 902 (tr (i.S.take 4)) rfl (take_sim (n := 4) (by omega)) ?_
   refine nm ?_
   refine qq (fA fl26_0) ?_
   refine ss ?_
   refine nl ?_
   refine AW.seq (AW.region ?_)
   refine qq (Qt.loadG rfl rfl rfl ag26 sz26 (by decide)) ?_
   refine nm ?_
   refine ss ?_
   refine nl ?_
   refine AW.ret (endQ_ret (.cons (.cellG 4 26 rfl rfl rfl ag26 sz26 (by decide)) .nil) ?_)
   exact ⟨(d10_1.1, d10_1.2.1, (i.S.take 4)), drawn_take hi5 hfew, ⟨fun n => if n = 0 then 902 else n, rfl, (fun n hn => if_neg (fun e => by subst e; exact absurd hn (by decide))), nodup_of rfl, (fun r hr => by cases List.mem_singleton.1 hr; exact ⟨by simp, rootL_mem rfl, by show (902 : Nat) < 100000; decide⟩), by simp⟩, rootL_mem rfl, alM rfl⟩
  have k5 := c5
  try simp only [cnd] at c5
  refine AW.draw [0, 1, 2, 3, 6] rfl (by decide +kernel) ?_
  refine tk 0 rfl (fA fl26_0) ?_
  refine na ?_
  refine tk 1 rfl (Qt.load1 rfl rfl rfl ag24) ?_
  refine tk 2 rfl Qt.move ?_
  refine tk 3 rfl Qt.move ?_
  refine na ?_
  refine a1K 4 [0, 1, 2] [3] rfl rfl (StpK.callD rfl (by decide) Try.call67 rfl rfl rfl rfl rfl rfl rfl (cur_leaf _ _) (l1Below_con code _ _ _) (fun _ => nodup_of rfl) (fun _ => rfl) (fun _ => rfl)) ?_
  rintro _ ⟨d11_4, hd11_4, rfl⟩
  try dsimp only at hd11_4
  refine na ?_
  refine na ?_
  refine AWA.againE rfl rfl (by decide +kernel) (.on rfl rfl (fA fl26_0)) rfl ?_
  refine na ?_
  refine AWA.againE rfl rfl (by decide +kernel) (.on rfl rfl (Qt.load1 rfl rfl rfl ag24)) rfl ?_
  refine na ?_
  refine AWA.againE rfl rfl (by decide +kernel) (.on rfl rfl Qt.move) rfl ?_
  refine na ?_
  refine a1 5 [0, 1, 2] [4, 3] rfl rfl (Stp.buildSlice rfl (by decide) (by decide) rfl (by decide) rfl rfl rfl (nodup_of rfl)) ?_
  refine na ?_
  refine na ?_
  refine AWA.againE rfl rfl (by decide +kernel) (.on rfl rfl (fA fl26_0)) rfl ?_
  refine na ?_
  refine AWA.againE rfl rfl (by decide +kernel) (.on rfl rfl (Qt.load1 rfl rfl rfl ag24)) rfl ?_
  refine na ?_
  refine AWA.againE rfl rfl (by decide +kernel) (.on rfl rfl Qt.move) rfl ?_
  refine na ?_
  refine tk 6 rfl (Qt.indexAddr rfl rfl rfl rfl sl24 sz35 (by decide) (by first | omega | grind only)) ?_
  refine a1 7 [] [6, 5, 4, 3, 2, 1, 0] rfl rfl (by first | exact Stp.storeA rfl rfl rfl rfl (by decide) rfl | exact Stp.store rfl rfl (by simp) rfl rfl rfl (by decide) rfl) ?_
  refine na ?_
  refine na ?_
  refine nz ?_
  refine AW.seq (AW.region ?_)
  refine qq (Qt.loadG rfl rfl rfl ag26 sz26 (by decide)) ?_
  refine ss ?_
  refine nl ?_
  refine AW.rep 8 (tr (i.S.set d9_1.2.2.toNat [d11_4.2.2])) rfl (set_sim (fun k c hk => by simp only [upd_app, hk, false_and, if_false]; try rfl) (fun c hc => match c, hc with | 0, _ => (by simp only [upd_app, eq_self, and_self, if_true]; exact (sim_row1 rfl rfl rfl (fun k hk => match k, hk with | 0, _ => rfl | k + 1, hk => absurd hk (by omega)))) | c + 1, hc => absurd hc (by simp only [En.n]; omega))) ?_
  refine AW.ret (endQ_ret (.cons (.cellG 4 26 rfl rfl rfl ag26 sz26 (by decide)) .nil) ?_)
  exact ⟨(d11_4.1, d11_4.2.1, (i.S.set d9_1.2.2.toNat [d11_4.2.2])), drawn_set hi5 hfew (by simp), ⟨fun n => if n = 0 then 8 else n, rfl, (fun n hn => if_neg (fun e => by subst e; exact absurd hn (by decide))), nodup_of rfl, (fun r hr => by cases List.mem_singleton.1 hr; exact ⟨by simp, rootL_mem rfl, by show (8 : Nat) < 100000; decide⟩), by simp⟩, rootL_mem rfl, alM rfl⟩
 have k3 := c3
 try simp only [cnd] at c3
 refine jd (AW.seq (AW.region ?_))
 refine qq (Qt.loadG rfl rfl rfl ag26 sz26 (by decide)) ?_
 refine nm ?_
 refine ss ?_
 refine nl ?_
 refine AW.ret (endQ_ret (.cons (.cellG 4 26 rfl rfl rfl ag26 sz26 (by decide)) .nil) ?_)
 exact ⟨(d8_1.1, d8_1.2.1, i.S), ⟨.inl hi5, fun k => Nat.le_trans (hfew k) (by omega)⟩, ⟨fun n => if n = 0 then 8 else n, rfl, (fun n hn => if_neg (fun e => by subst e; exact absurd hn (by decide))), nodup_of rfl, (fun r hr => by cases List.mem_singleton.1 hr; exact ⟨by simp, rootL_mem rfl, by show (8 : Nat) < 100000; decide⟩), by simp⟩, rootL_mem rfl, alM rfl⟩
end Go.Proofs.Ytfbefcmeghpalaa.VM
