/- Contracts of functions of the program. No conditions beyond those that each states. -/
import Derived.Test.YtbchjcapphclgaaCJA
set_option linter.all false
namespace Go.Proofs.Ytbchjcapphclgaa.VM
open Go Go.RowKit Go.Proofs
structure DIns where
 Op : Int
 A : Int
 B : Int
 C : Int
deriving DecidableEq
instance : En DIns := ⟨4, by omega, fun a => [.v (iv a.Op), .v (iv a.A), .v (iv a.B), .v (iv a.C)], fun _ => rfl, fun a => En.fit a.Op ∧ En.fit a.A ∧ En.fit a.B ∧ En.fit a.C, ⟨0, 0, 0, 0⟩⟩
@[go_sem] theorem cs_Ins (a : DIns) : En.cs a = [.v (iv a.Op), .v (iv a.A), .v (iv a.B), .v (iv a.C)] := rfl
instance : Mk DIns := { wt := fun _ => 0, cnt := fun a => 1 + 1 + 1 + 1, mark := fun _ k => ⟨k, k + 1, k + 1 + 1, k + 1 + 1 + 1⟩, cnt_mk := fun a k => by simp [Mk.cnt_mk] }
set_option maxHeartbeats 8000000 in
set_option maxRecDepth 10000 in
theorem l1PickInt_con (code : List UInt8) (i : Nat) (h : Int) (l : List Int) (hl : 0 < l.length) : Con Try.prog 27 [.p base [] 3 0 0, .h (base + 2) []] [.rt base .box (.s 3 1 (curF (i : Nat) h)), .al base 0 (.h (base + 1) []), .rt (base + 1) .ro (tr code), .rt (base + 2) .ro (tr l)] (RetD 3 (fun _ : Nat × Int × Int => True) (fun m => .v (iv m.2.2)) (fun _ => []) (fun m => curF m.1 m.2.1)) := by
 refine Con.of_body Try.func27 rfl (by simp) ?_
 rw [Try.ntmps27]
 refine AW.len (base + 2) [] rfl (by simp [Okp]) rfl (fun hll => ?_)
 refine AW.seq (AW.region ?_)
 refine qq Qt.assign ?_
 refine nl ?_
 refine AW.seq (AW.region ?_)
 refine qq Qt.move ?_
 refine qq Qt.move ?_
 refine nm ?_
 refine qq Qt.move ?_
 refine qq (Qt.lenH rfl rfl rfl sl34) ?_
 refine spK (StpK.callD rfl (by decide) Try.call25 rfl rfl rfl rfl rfl rfl rfl (cur_leaf _ _) (l1Below_con code _ _ _) (fun _ => nodup_of rfl) (fun _ => rfl) (fun _ => rfl)) ?_
 rintro _ ⟨d1_4, hd1_4, rfl⟩
 try dsimp only at hd1_4
 have hlt1 := hd1_4.2 (by omega)
 refine nm ?_
 refine qq (Qt.indexAddr rfl rfl rfl rfl sl34 sz3 (by decide) (by first | omega | grind only)) ?_
 refine qq (Qt.load1 rfl rfl rfl ag3) ?_
 refine qq Qt.assign ?_
 refine nl ?_
 refine AW.ret (endQ_ret (.cons (.tmp 4) .nil) ?_)
 exact ⟨(_, _, _), trivial, ⟨fun n => n, rfl, fun _ _ => rfl, List.nodup_nil, (by simp), (by simp)⟩, rootL_mem rfl, alM rfl⟩
set_option maxHeartbeats 8000000 in
set_option maxRecDepth 10000 in
theorem l3Ins_con (code : List UInt8) (i : Nat) (h : Int) : Con Try.prog 42 [.p base [] 3 0 0] [.rt base .box (.s 3 1 (curF (i : Nat) h)), .al base 0 (.h (base + 1) []), .rt (base + 1) .ro (tr code)] (RetD 3 (fun _ : Nat × Int × DIns => True) (fun m => .g [.v (iv m.2.2.Op), .v (iv m.2.2.A), .v (iv m.2.2.B), .v (iv m.2.2.C)]) (fun _ => []) (fun m => curF m.1 m.2.1)) := by
 refine Con.of_body Try.func42 rfl (by simp) ?_
 rw [Try.ntmps42]
 refine AW.seq (AW.region ?_)
 refine sp (Stp.alloc rfl (by decide) (by decide)) ?_
 refine nl ?_
 refine AW.seq (AW.region ?_)
 refine qq Qt.move ?_
 refine nm ?_
 refine spK (StpK.callD rfl (by decide) Try.call25 rfl rfl rfl rfl rfl rfl rfl (cur_leaf _ _) (l1Below_con code _ _ _) (fun _ => nodup_of rfl) (fun _ => rfl) (fun _ => rfl)) ?_
 rintro _ ⟨d1_1, hd1_1, rfl⟩
 try dsimp only at hd1_1
 refine nm ?_
 refine qq Qt.assign ?_
 refine nl ?_
 refine AW.seq (AW.region ?_)
 refine qq Qt.move ?_
 refine spK (StpK.callD rfl (by decide) Try.call25 rfl rfl rfl rfl rfl rfl rfl (cur_leaf _ _) (l1Below_con code _ _ _) (fun _ => nodup_of rfl) (fun _ => rfl) (fun _ => rfl)) ?_
 rintro _ ⟨d2_1, hd2_1, rfl⟩
 try dsimp only at hd2_1
 refine nm ?_
 refine qq Qt.assign ?_
 refine nl ?_
 refine AW.seq (AW.seq (AW.region ?_))
 refine qq Qt.move ?_
 refine spK (StpK.callD rfl (by decide) Try.call25 rfl rfl rfl rfl rfl rfl rfl (cur_leaf _ _) (l1Below_con code _ _ _) (fun _ => nodup_of rfl) (fun _ => rfl) (fun _ => rfl)) ?_
 rintro _ ⟨d3_1, hd3_1, rfl⟩
 try dsimp only at hd3_1
 refine nl ?_
 refine AW.block (AW.seq (AW.seq (AW.region ?_)))
 refine qq (Qt.binOp rfl rfl rfl) ?_
 refine nm ?_
 refine qq Qt.assign ?_
 refine nl ?_
 refine AW.cond rfl (fun c1 => ?_) (fun c1 => ?_)
 ·have k1 := c1
  try simp only [cnd] at c1
  refine jd ?_
  refine AW.condT rfl k1 ?_
  refine AW.seq (AW.region ?_)
  refine qq Qt.move ?_
  refine qq Qt.move ?_
  refine nm ?_
  refine sp (Stp.buildSlice (ys := [.v (iv 0), .v (iv 1), .v (iv 2), .v (iv 3), .v (iv 4), .v (iv 7), .v (iv (-1)), .v (iv 9)]) rfl (by decide) (by decide) rfl (by decide) rfl rfl rfl (nodup_of rfl)) ?_
  refine AWL.rep 17 (tr ([0, 1, 2, 3, 4, 7, -1, 9] : List Int)) rfl (T.sim_of fun k c hk hc => by
   obtain rfl : c = 0 := by simp only [List.length_cons, List.length_nil] at hc; omega
   match k, hk with
   | 0, _ => rfl
   | 1, _ => rfl
   | 2, _ => rfl
   | 3, _ => rfl
   | 4, _ => rfl
   | 5, _ => rfl
   | 6, _ => rfl
   | 7, _ => rfl
   | k + 8, hk => exact absurd hk (by first | omega | (simp only [List.length_cons, List.length_nil]; omega))) ?_
  refine nm ?_
  refine spK (StpK.callD2 rfl (by decide) Try.call27 rfl rfl rfl rfl rfl rfl rfl rfl rfl (cur_leaf _ _) (l1PickInt_con code _ _ _ (by simp)) (fun _ => nodup_of rfl) (fun _ => rfl) (fun _ => rfl)) ?_
  rintro _ ⟨d7_3, hd7_3, rfl⟩
  try dsimp only at hd7_3
  refine nm ?_
  refine qq (Qt.build rfl) ?_
  refine ss ?_
  refine nl ?_
  refine AW.ret (endQ_ret (.cons (.cellG 2 45 rfl rfl rfl ag45 sz45 (by decide)) .nil) ?_)
  exact ⟨(_, _, ⟨_, _, _, _⟩), trivial, ⟨fun n => n, rfl, fun _ _ => rfl, List.nodup_nil, (by simp), (by simp)⟩, rootL_mem rfl, alM rfl⟩
 have k1 := c1
 try simp only [cnd] at c1
 refine AW.seq (AW.region ?_)
 refine qq (Qt.binOp rfl rfl rfl) ?_
 refine nm ?_
 refine qq Qt.assign ?_
 refine nl ?_
 refine AW.cond rfl (fun c2 => ?_) (fun c2 => ?_)
 ·have k2 := c2
  try simp only [cnd] at c2
  refine jd ?_
  refine AW.condT rfl k2 ?_
  refine AW.seq (AW.region ?_)
  refine qq Qt.move ?_
  refine qq Qt.move ?_
  refine nm ?_
  refine sp (Stp.buildSlice (ys := [.v (iv 0), .v (iv 1), .v (iv 2), .v (iv 3), .v (iv 4), .v (iv 7), .v (iv (-1)), .v (iv 9)]) rfl (by decide) (by decide) rfl (by decide) rfl rfl rfl (nodup_of rfl)) ?_
  refine AWL.rep 17 (tr ([0, 1, 2, 3, 4, 7, -1, 9] : List Int)) rfl (T.sim_of fun k c hk hc => by
   obtain rfl : c = 0 := by simp only [List.length_cons, List.length_nil] at hc; omega
   match k, hk with
   | 0, _ => rfl
   | 1, _ => rfl
   | 2, _ => rfl
   | 3, _ => rfl
   | 4, _ => rfl
   | 5, _ => rfl
   | 6, _ => rfl
   | 7, _ => rfl
   | k + 8, hk => exact absurd hk (by first | omega | (simp only [List.length_cons, List.length_nil]; omega))) ?_
  refine nm ?_
  refine spK (StpK.callD2 rfl (by decide) Try.call27 rfl rfl rfl rfl rfl rfl rfl rfl rfl (cur_leaf _ _) (l1PickInt_con code _ _ _ (by simp)) (fun _ => nodup_of rfl) (fun _ => rfl) (fun _ => rfl)) ?_
  rintro _ ⟨d7_3, hd7_3, rfl⟩
  try dsimp only at hd7_3
  refine nm ?_
  refine qq (Qt.build rfl) ?_
  refine ss ?_
  refine nl ?_
  refine AW.ret (endQ_ret (.cons (.cellG 2 45 rfl rfl rfl ag45 sz45 (by decide)) .nil) ?_)
  exact ⟨(_, _, ⟨_, _, _, _⟩), trivial, ⟨fun n => n, rfl, fun _ _ => rfl, List.nodup_nil, (by simp), (by simp)⟩, rootL_mem rfl, alM rfl⟩
 have k2 := c2
 try simp only [cnd] at c2
 refine AW.region ?_
 refine qq (Qt.binOp rfl rfl rfl) ?_
 refine nm ?_
 refine qq Qt.assign ?_
 refine nl ?_
 refine AW.cond rfl (fun c3 => ?_) (fun c3 => ?_)
 ·have k3 := c3
  try simp only [cnd] at c3
  refine AW.seq (AW.region ?_)
  refine qq Qt.move ?_
  refine qq Qt.move ?_
  refine nm ?_
  refine sp (Stp.buildSlice (ys := [.v (iv 0), .v (iv 1), .v (iv 2), .v (iv 3), .v (iv 4), .v (iv 7), .v (iv (-1)), .v (iv 9)]) rfl (by decide) (by decide) rfl (by decide) rfl rfl rfl (nodup_of rfl)) ?_
  refine AWL.rep 17 (tr ([0, 1, 2, 3, 4, 7, -1, 9] : List Int)) rfl (T.sim_of fun k c hk hc => by
   obtain rfl : c = 0 := by simp only [List.length_cons, List.length_nil] at hc; omega
   match k, hk with
   | 0, _ => rfl
   | 1, _ => rfl
   | 2, _ => rfl
   | 3, _ => rfl
   | 4, _ => rfl
   | 5, _ => rfl
   | 6, _ => rfl
   | 7, _ => rfl
   | k + 8, hk => exact absurd hk (by first | omega | (simp only [List.length_cons, List.length_nil]; omega))) ?_
  refine nm ?_
  refine spK (StpK.callD2 rfl (by decide) Try.call27 rfl rfl rfl rfl rfl rfl rfl rfl rfl (cur_leaf _ _) (l1PickInt_con code _ _ _ (by simp)) (fun _ => nodup_of rfl) (fun _ => rfl) (fun _ => rfl)) ?_
  rintro _ ⟨d7_3, hd7_3, rfl⟩
  try dsimp only at hd7_3
  refine nm ?_
  refine qq (Qt.build rfl) ?_
  refine ss ?_
  refine nl ?_
  refine AW.ret (endQ_ret (.cons (.cellG 2 45 rfl rfl rfl ag45 sz45 (by decide)) .nil) ?_)
  exact ⟨(_, _, ⟨_, _, _, _⟩), trivial, ⟨fun n => n, rfl, fun _ _ => rfl, List.nodup_nil, (by simp), (by simp)⟩, rootL_mem rfl, alM rfl⟩
 have k3 := c3
 try simp only [cnd] at c3
 refine AW.seq (AW.region ?_)
 refine qq (Qt.binOp rfl rfl rfl) ?_
 refine nm ?_
 refine qq Qt.assign ?_
 refine nl ?_
 refine AW.cond rfl (fun c4 => ?_) (fun c4 => ?_)
 ·have k4 := c4
  try simp only [cnd] at c4
  refine AW.seq (AW.region ?_)
  refine qq Qt.move ?_
  refine qq Qt.move ?_
  refine nm ?_
  refine qq Qt.move ?_
  refine spK (StpK.callD rfl (by decide) Try.call25 rfl rfl rfl rfl rfl rfl rfl (cur_leaf _ _) (l1Below_con code _ _ _) (fun _ => nodup_of rfl) (fun _ => rfl) (fun _ => rfl)) ?_
  rintro _ ⟨d9_3, hd9_3, rfl⟩
  try dsimp only at hd9_3
  refine nm ?_
  refine qq (Qt.build rfl) ?_
  refine ss ?_
  refine nl ?_
  refine AW.ret (endQ_ret (.cons (.cellG 2 45 rfl rfl rfl ag45 sz45 (by decide)) .nil) ?_)
  exact ⟨(_, _, ⟨_, _, _, _⟩), trivial, ⟨fun n => n, rfl, fun _ _ => rfl, List.nodup_nil, (by simp), (by simp)⟩, rootL_mem rfl, alM rfl⟩
 have k4 := c4
 try simp only [cnd] at c4
 refine AW.seq (AW.region ?_)
 refine qq (Qt.binOp rfl rfl rfl) ?_
 refine nm ?_
 refine qq Qt.assign ?_
 refine nl ?_
 refine AW.cond rfl (fun c5 => ?_) (fun c5 => ?_)
 ·have k5 := c5
  try simp only [cnd] at c5
  refine AW.seq (AW.region ?_)
  refine qq Qt.move ?_
  refine qq Qt.move ?_
  refine nm ?_
  refine qq Qt.move ?_
  refine spK (StpK.callD rfl (by decide) Try.call25 rfl rfl rfl rfl rfl rfl rfl (cur_leaf _ _) (l1Below_con code _ _ _) (fun _ => nodup_of rfl) (fun _ => rfl) (fun _ => rfl)) ?_
  rintro _ ⟨d11_3, hd11_3, rfl⟩
  try dsimp only at hd11_3
  refine nm ?_
  refine qq (Qt.build rfl) ?_
  refine ss ?_
  refine nl ?_
  refine AW.ret (endQ_ret (.cons (.cellG 2 45 rfl rfl rfl ag45 sz45 (by decide)) .nil) ?_)
  exact ⟨(_, _, ⟨_, _, _, _⟩), trivial, ⟨fun n => n, rfl, fun _ _ => rfl, List.nodup_nil, (by simp), (by simp)⟩, rootL_mem rfl, alM rfl⟩
 have k5 := c5
 try simp only [cnd] at c5
 refine AW.seq (AW.region ?_)
 refine qq (Qt.binOp rfl rfl rfl) ?_
 refine nm ?_
 refine qq Qt.assign ?_
 refine nl ?_
 refine AW.cond rfl (fun c6 => ?_) (fun c6 => ?_)
 ·have k6 := c6
  try simp only [cnd] at c6
  refine AW.seq (AW.region ?_)
  refine qq Qt.move ?_
  refine qq Qt.move ?_
  refine nm ?_
  refine qq (Qt.build rfl) ?_
  refine ss ?_
  refine nl ?_
  refine AW.ret (endQ_ret (.cons (.cellG 2 45 rfl rfl rfl ag45 sz45 (by decide)) .nil) ?_)
  exact ⟨(_, _, ⟨_, _, _, _⟩), trivial, ⟨fun n => n, rfl, fun _ _ => rfl, List.nodup_nil, (by simp), (by simp)⟩, rootL_mem rfl, alM rfl⟩
 have k6 := c6
 try simp only [cnd] at c6
 refine AW.seq (AW.region ?_)
 refine qq (Qt.binOp rfl rfl rfl) ?_
 refine nm ?_
 refine qq Qt.assign ?_
 refine nl ?_
 refine AW.cond rfl (fun c7 => ?_) (fun c7 => ?_)
 ·have k7 := c7
  try simp only [cnd] at c7
  refine AW.seq (AW.region ?_)
  refine qq Qt.move ?_
  refine qq Qt.move ?_
  refine nm ?_
  refine qq (Qt.build rfl) ?_
  refine ss ?_
  refine nl ?_
  refine AW.ret (endQ_ret (.cons (.cellG 2 45 rfl rfl rfl ag45 sz45 (by decide)) .nil) ?_)
  exact ⟨(_, _, ⟨_, _, _, _⟩), trivial, ⟨fun n => n, rfl, fun _ _ => rfl, List.nodup_nil, (by simp), (by simp)⟩, rootL_mem rfl, alM rfl⟩
 have k7 := c7
 try simp only [cnd] at c7
 refine AW.seq (AW.region ?_)
 refine qq (Qt.binOp rfl rfl rfl) ?_
 refine nm ?_
 refine qq Qt.assign ?_
 refine nl ?_
 refine AW.cond rfl (fun c8 => ?_) (fun c8 => ?_)
 ·have k8 := c8
  try simp only [cnd] at c8
  refine AW.seq (AW.region ?_)
  refine qq Qt.move ?_
  refine spK (StpK.callD rfl (by decide) Try.call25 rfl rfl rfl rfl rfl rfl rfl (cur_leaf _ _) (l1Below_con code _ _ _) (fun _ => nodup_of rfl) (fun _ => rfl) (fun _ => rfl)) ?_
  rintro _ ⟨d17_1, hd17_1, rfl⟩
  try dsimp only at hd17_1
  refine nm ?_
  refine qq (Qt.build rfl) ?_
  refine ss ?_
  refine nl ?_
  refine AW.ret (endQ_ret (.cons (.cellG 2 45 rfl rfl rfl ag45 sz45 (by decide)) .nil) ?_)
  exact ⟨(_, _, ⟨_, _, _, _⟩), trivial, ⟨fun n => n, rfl, fun _ _ => rfl, List.nodup_nil, (by simp), (by simp)⟩, rootL_mem rfl, alM rfl⟩
 have k8 := c8
 try simp only [cnd] at c8
 refine AW.seq (AW.region ?_)
 refine qq (Qt.binOp rfl rfl rfl) ?_
 refine nm ?_
 refine qq Qt.assign ?_
 refine nl ?_
 refine AW.cond rfl (fun c9 => ?_) (fun c9 => ?_)
 ·have k9 := c9
  try simp only [cnd] at c9
  refine AW.seq (AW.region ?_)
  refine qq Qt.move ?_
  refine qq Qt.move ?_
  refine nm ?_
  refine spK (StpK.callD rfl (by decide) Try.call25 rfl rfl rfl rfl rfl rfl rfl (cur_leaf _ _) (l1Below_con code _ _ _) (fun _ => nodup_of rfl) (fun _ => rfl) (fun _ => rfl)) ?_
  rintro _ ⟨d19_2, hd19_2, rfl⟩
  try dsimp only at hd19_2
  refine nm ?_
  refine qq (Qt.build rfl) ?_
  refine ss ?_
  refine nl ?_
  refine AW.ret (endQ_ret (.cons (.cellG 2 45 rfl rfl rfl ag45 sz45 (by decide)) .nil) ?_)
  exact ⟨(_, _, ⟨_, _, _, _⟩), trivial, ⟨fun n => n, rfl, fun _ _ => rfl, List.nodup_nil, (by simp), (by simp)⟩, rootL_mem rfl, alM rfl⟩
 have k9 := c9
 try simp only [cnd] at c9
 refine jd (AW.seq (AW.region ?_))
 refine qq Qt.move ?_
 refine nm ?_
 refine spK (StpK.callD rfl (by decide) Try.call25 rfl rfl rfl rfl rfl rfl rfl (cur_leaf _ _) (l1Below_con code _ _ _) (fun _ => nodup_of rfl) (fun _ => rfl) (fun _ => rfl)) ?_
 rintro _ ⟨d20_1, hd20_1, rfl⟩
 try dsimp only at hd20_1
 refine nm ?_
 refine qq (Qt.binOp rfl rfl (by first | exact pbAdd (by omega) | rfl)) ?_
 refine qq (Qt.build rfl) ?_
 refine ss ?_
 refine nl ?_
 refine AW.ret (endQ_ret (.cons (.cellG 2 45 rfl rfl rfl ag45 sz45 (by decide)) .nil) ?_)
 exact ⟨(_, _, ⟨_, _, _, _⟩), trivial, ⟨fun n => n, rfl, fun _ _ => rfl, List.nodup_nil, (by simp), (by simp)⟩, rootL_mem rfl, alM rfl⟩
set_option maxHeartbeats 8000000 in
set_option maxRecDepth 10000 in
theorem l3Any_con (code : List UInt8) (i : Nat) (h : Int) : Con Try.prog 41 [.p base [] 3 0 0] [.rt base .box (.s 3 1 (curF (i : Nat) h)), .al base 0 (.h (base + 1) []), .rt (base + 1) .ro (tr code)] (RetD 3 (fun _ : Nat × Int × DIns => True) (fun m => .g [.v (iv m.2.2.Op), .v (iv m.2.2.A), .v (iv m.2.2.B), .v (iv m.2.2.C)]) (fun _ => []) (fun m => curF m.1 m.2.1)) := by
 refine Con.of_body Try.func41 rfl (by simp) ?_
 rw [Try.ntmps41]
 refine AW.seq (AW.region ?_)
 refine sp (Stp.alloc rfl (by decide) (by decide)) ?_
 refine nl ?_
 refine AW.seq (AW.region ?_)
 refine qq Qt.move ?_
 refine nm ?_
 refine spK (StpK.callD rfl (by decide) Try.call42 rfl rfl rfl rfl rfl rfl rfl (cur_leaf _ _) (l3Ins_con code _ _) (fun _ => nodup_of rfl) (fun _ => rfl) (fun _ => rfl)) ?_
 rintro _ ⟨d1_1, hd1_1, rfl⟩
 try dsimp only at hd1_1
 refine nm ?_
 refine sp (Stp.alloc rfl (by decide) (by decide)) ?_
 refine nm ?_
 refine ss ?_
 refine nl ?_
 refine AW.seq (AW.seq (AW.region ?_))
 refine qq Qt.move ?_
 refine nm ?_
 refine spK (StpK.callD rfl (by decide) Try.call26 rfl rfl rfl rfl rfl rfl rfl (cur_leaf _ _) (l1Once_con code _ _ _) (fun _ => nodup_of rfl) (fun _ => rfl) (fun _ => rfl)) ?_
 rintro _ ⟨d2_1, hd2_1, rfl⟩
 try dsimp only at hd2_1
 refine nl ?_
 refine AW.cond rfl (fun c1 => ?_) (fun c1 => ?_)
 ·have k1 := c1
  try simp only [cnd] at c1
  refine AW.seq (AW.region ?_)
  refine qq Qt.move ?_
  refine nm ?_
  refine spK (StpK.callD rfl (by decide) Try.call25 rfl rfl rfl rfl rfl rfl rfl (cur_leaf _ _) (l1Below_con code _ _ _) (fun _ => nodup_of rfl) (fun _ => rfl) (fun _ => rfl)) ?_
  rintro _ ⟨d3_1, hd3_1, rfl⟩
  try dsimp only at hd3_1
  refine nl ?_
  refine AW.block (AW.seq (AW.region ?_))
  refine qq (Qt.binOp rfl rfl rfl) ?_
  refine nm ?_
  refine qq Qt.assign ?_
  refine nl ?_
  refine AW.cond rfl (fun c2 => ?_) (fun c2 => ?_)
  ·have k2 := c2
   try simp only [cnd] at c2
   refine AW.region ?_
   refine qq Qt.move ?_
   refine sp (Stp.buildSlice (ys := [.v (iv (-1)), .v (iv 0), .v (iv 9)]) rfl (by decide) (by decide) rfl (by decide) rfl rfl rfl (nodup_of rfl)) ?_
   refine AWL.rep 17 (tr ([-1, 0, 9] : List Int)) rfl (T.sim_of fun k c hk hc => by
    obtain rfl : c = 0 := by simp only [List.length_cons, List.length_nil] at hc; omega
    match k, hk with
    | 0, _ => rfl
    | 1, _ => rfl
    | 2, _ => rfl
    | k + 3, hk => exact absurd hk (by first | omega | (simp only [List.length_cons, List.length_nil]; omega))) ?_
   refine nm ?_
   refine spK (StpK.callD2 rfl (by decide) Try.call27 rfl rfl rfl rfl rfl rfl rfl rfl rfl (cur_leaf _ _) (l1PickInt_con code _ _ _ (by simp)) (fun _ => nodup_of rfl) (fun _ => rfl) (fun _ => rfl)) ?_
   rintro _ ⟨d6_2, hd6_2, rfl⟩
   try dsimp only at hd6_2
   refine nm ?_
   refine qq (fA fl45_0) ?_
   refine ss ?_
   refine nl ?_
   refine AW.seq (AW.region ?_)
   refine qq (Qt.loadG rfl rfl rfl ag45 sz45 (by decide)) ?_
   refine nm ?_
   refine ss ?_
   refine nl ?_
   refine AW.ret (endQ_ret (.cons (.cellG 2 45 rfl rfl rfl ag45 sz45 (by decide)) .nil) ?_)
   first
    | exact ⟨(_, _, ⟨d6_2.2.2, d1_1.2.2.A, d1_1.2.2.B, d1_1.2.2.C⟩), trivial, ⟨fun n => n, rfl, fun _ _ => rfl, List.nodup_nil, (by simp), (by simp)⟩, rootL_mem rfl, alM rfl⟩
    | exact ⟨(_, _, ⟨d1_1.2.2.Op, d8_2.2.2, d1_1.2.2.B, d1_1.2.2.C⟩), trivial, ⟨fun n => n, rfl, fun _ _ => rfl, List.nodup_nil, (by simp), (by simp)⟩, rootL_mem rfl, alM rfl⟩
    | exact ⟨(_, _, ⟨d1_1.2.2.Op, d1_1.2.2.A, d10_2.2.2, d1_1.2.2.C⟩), trivial, ⟨fun n => n, rfl, fun _ _ => rfl, List.nodup_nil, (by simp), (by simp)⟩, rootL_mem rfl, alM rfl⟩
    | exact ⟨(_, _, ⟨d1_1.2.2.Op, d1_1.2.2.A, d1_1.2.2.B, d4_2.2.2⟩), trivial, ⟨fun n => n, rfl, fun _ _ => rfl, List.nodup_nil, (by simp), (by simp)⟩, rootL_mem rfl, alM rfl⟩
    | exact ⟨(d2_1.1, d2_1.2.1, ⟨d1_1.2.2.Op, d1_1.2.2.A, d1_1.2.2.B, d1_1.2.2.C⟩), trivial, ⟨fun n => n, rfl, fun _ _ => rfl, List.nodup_nil, (by simp), (by simp)⟩, rootL_mem rfl, alM rfl⟩
  have k2 := c2
  try simp only [cnd] at c2
  refine AW.seq (AW.region ?_)
  refine qq (Qt.binOp rfl rfl rfl) ?_
  refine nm ?_
  refine qq Qt.assign ?_
  refine nl ?_
  refine AW.cond rfl (fun c3 => ?_) (fun c3 => ?_)
  ·have k3 := c3
   try simp only [cnd] at c3
   refine AW.region ?_
   refine qq Qt.move ?_
   refine sp (Stp.buildSlice (ys := [.v (iv (-1)), .v (iv 4), .v (iv 20), .v (iv 21), .v (iv 40), .v (iv 41)]) rfl (by decide) (by decide) rfl (by decide) rfl rfl rfl (nodup_of rfl)) ?_
   refine AWL.rep 23 (tr ([-1, 4, 20, 21, 40, 41] : List Int)) rfl (T.sim_of fun k c hk hc => by
    obtain rfl : c = 0 := by simp only [List.length_cons, List.length_nil] at hc; omega
    match k, hk with
    | 0, _ => rfl
    | 1, _ => rfl
    | 2, _ => rfl
    | 3, _ => rfl
    | 4, _ => rfl
    | 5, _ => rfl
    | k + 6, hk => exact absurd hk (by first | omega | (simp only [List.length_cons, List.length_nil]; omega))) ?_
   refine nm ?_
   refine spK (StpK.callD2 rfl (by decide) Try.call27 rfl rfl rfl rfl rfl rfl rfl rfl rfl (cur_leaf _ _) (l1PickInt_con code _ _ _ (by simp)) (fun _ => nodup_of rfl) (fun _ => rfl) (fun _ => rfl)) ?_
   rintro _ ⟨d8_2, hd8_2, rfl⟩
   try dsimp only at hd8_2
   refine nm ?_
   refine qq (fA fl45_1) ?_
   refine ss ?_
   refine nl ?_
   refine AW.seq (AW.region ?_)
   refine qq (Qt.loadG rfl rfl rfl ag45 sz45 (by decide)) ?_
   refine nm ?_
   refine ss ?_
   refine nl ?_
   refine AW.ret (endQ_ret (.cons (.cellG 2 45 rfl rfl rfl ag45 sz45 (by decide)) .nil) ?_)
   first
    | exact ⟨(_, _, ⟨d6_2.2.2, d1_1.2.2.A, d1_1.2.2.B, d1_1.2.2.C⟩), trivial, ⟨fun n => n, rfl, fun _ _ => rfl, List.nodup_nil, (by simp), (by simp)⟩, rootL_mem rfl, alM rfl⟩
    | exact ⟨(_, _, ⟨d1_1.2.2.Op, d8_2.2.2, d1_1.2.2.B, d1_1.2.2.C⟩), trivial, ⟨fun n => n, rfl, fun _ _ => rfl, List.nodup_nil, (by simp), (by simp)⟩, rootL_mem rfl, alM rfl⟩
    | exact ⟨(_, _, ⟨d1_1.2.2.Op, d1_1.2.2.A, d10_2.2.2, d1_1.2.2.C⟩), trivial, ⟨fun n => n, rfl, fun _ _ => rfl, List.nodup_nil, (by simp), (by simp)⟩, rootL_mem rfl, alM rfl⟩
    | exact ⟨(_, _, ⟨d1_1.2.2.Op, d1_1.2.2.A, d1_1.2.2.B, d4_2.2.2⟩), trivial, ⟨fun n => n, rfl, fun _ _ => rfl, List.nodup_nil, (by simp), (by simp)⟩, rootL_mem rfl, alM rfl⟩
    | exact ⟨(d2_1.1, d2_1.2.1, ⟨d1_1.2.2.Op, d1_1.2.2.A, d1_1.2.2.B, d1_1.2.2.C⟩), trivial, ⟨fun n => n, rfl, fun _ _ => rfl, List.nodup_nil, (by simp), (by simp)⟩, rootL_mem rfl, alM rfl⟩
  have k3 := c3
  try simp only [cnd] at c3
  refine AW.seq (AW.region ?_)
  refine qq (Qt.binOp rfl rfl rfl) ?_
  refine nm ?_
  refine qq Qt.assign ?_
  refine nl ?_
  refine AW.cond rfl (fun c4 => ?_) (fun c4 => ?_)
  ·have k4 := c4
   try simp only [cnd] at c4
   refine AW.region ?_
   refine qq Qt.move ?_
   refine sp (Stp.buildSlice (ys := [.v (iv (-1)), .v (iv 4), .v (iv 40), .v (iv 41), .v (iv 1000000), .v (iv (-1000000)), .v (iv 1000001)]) rfl (by decide) (by decide) rfl (by decide) rfl rfl rfl (nodup_of rfl)) ?_
   refine AWL.rep 29 (tr ([-1, 4, 40, 41, 1000000, -1000000, 1000001] : List Int)) rfl (T.sim_of fun k c hk hc => by
    obtain rfl : c = 0 := by simp only [List.length_cons, List.length_nil] at hc; omega
    match k, hk with
    | 0, _ => rfl
    | 1, _ => rfl
    | 2, _ => rfl
    | 3, _ => rfl
    | 4, _ => rfl
    | 5, _ => rfl
    | 6, _ => rfl
    | k + 7, hk => exact absurd hk (by first | omega | (simp only [List.length_cons, List.length_nil]; omega))) ?_
   refine nm ?_
   refine spK (StpK.callD2 rfl (by decide) Try.call27 rfl rfl rfl rfl rfl rfl rfl rfl rfl (cur_leaf _ _) (l1PickInt_con code _ _ _ (by simp)) (fun _ => nodup_of rfl) (fun _ => rfl) (fun _ => rfl)) ?_
   rintro _ ⟨d10_2, hd10_2, rfl⟩
   try dsimp only at hd10_2
   refine nm ?_
   refine qq (fA fl45_2) ?_
   refine ss ?_
   refine nl ?_
   refine AW.seq (AW.region ?_)
   refine qq (Qt.loadG rfl rfl rfl ag45 sz45 (by decide)) ?_
   refine nm ?_
   refine ss ?_
   refine nl ?_
   refine AW.ret (endQ_ret (.cons (.cellG 2 45 rfl rfl rfl ag45 sz45 (by decide)) .nil) ?_)
   first
    | exact ⟨(_, _, ⟨d6_2.2.2, d1_1.2.2.A, d1_1.2.2.B, d1_1.2.2.C⟩), trivial, ⟨fun n => n, rfl, fun _ _ => rfl, List.nodup_nil, (by simp), (by simp)⟩, rootL_mem rfl, alM rfl⟩
    | exact ⟨(_, _, ⟨d1_1.2.2.Op, d8_2.2.2, d1_1.2.2.B, d1_1.2.2.C⟩), trivial, ⟨fun n => n, rfl, fun _ _ => rfl, List.nodup_nil, (by simp), (by simp)⟩, rootL_mem rfl, alM rfl⟩
    | exact ⟨(_, _, ⟨d1_1.2.2.Op, d1_1.2.2.A, d10_2.2.2, d1_1.2.2.C⟩), trivial, ⟨fun n => n, rfl, fun _ _ => rfl, List.nodup_nil, (by simp), (by simp)⟩, rootL_mem rfl, alM rfl⟩
    | exact ⟨(_, _, ⟨d1_1.2.2.Op, d1_1.2.2.A, d1_1.2.2.B, d4_2.2.2⟩), trivial, ⟨fun n => n, rfl, fun _ _ => rfl, List.nodup_nil, (by simp), (by simp)⟩, rootL_mem rfl, alM rfl⟩
    | exact ⟨(d2_1.1, d2_1.2.1, ⟨d1_1.2.2.Op, d1_1.2.2.A, d1_1.2.2.B, d1_1.2.2.C⟩), trivial, ⟨fun n => n, rfl, fun _ _ => rfl, List.nodup_nil, (by simp), (by simp)⟩, rootL_mem rfl, alM rfl⟩
  have k4 := c4
  try simp only [cnd] at c4
  refine AW.region ?_
  refine qq Qt.move ?_
  refine nm ?_
  refine sp (Stp.buildSlice (ys := [.v (iv (-1)), .v (iv 3), .v (iv 4)]) rfl (by decide) (by decide) rfl (by decide) rfl rfl rfl (nodup_of rfl)) ?_
  refine AWL.rep 11 (tr ([-1, 3, 4] : List Int)) rfl (T.sim_of fun k c hk hc => by
   obtain rfl : c = 0 := by simp only [List.length_cons, List.length_nil] at hc; omega
   match k, hk with
   | 0, _ => rfl
   | 1, _ => rfl
   | 2, _ => rfl
   | k + 3, hk => exact absurd hk (by first | omega | (simp only [List.length_cons, List.length_nil]; omega))) ?_
  refine nm ?_
  refine spK (StpK.callD2 rfl (by decide) Try.call27 rfl rfl rfl rfl rfl rfl rfl rfl rfl (cur_leaf _ _) (l1PickInt_con code _ _ _ (by simp)) (fun _ => nodup_of rfl) (fun _ => rfl) (fun _ => rfl)) ?_
  rintro _ ⟨d4_2, hd4_2, rfl⟩
  try dsimp only at hd4_2
  refine nm ?_
  refine qq (fA fl45_3) ?_
  refine ss ?_
  refine nl ?_
  refine AW.seq (AW.region ?_)
  refine qq (Qt.loadG rfl rfl rfl ag45 sz45 (by decide)) ?_
  refine nm ?_
  refine ss ?_
  refine nl ?_
  refine AW.ret (endQ_ret (.cons (.cellG 2 45 rfl rfl rfl ag45 sz45 (by decide)) .nil) ?_)
  first
   | exact ⟨(_, _, ⟨d6_2.2.2, d1_1.2.2.A, d1_1.2.2.B, d1_1.2.2.C⟩), trivial, ⟨fun n => n, rfl, fun _ _ => rfl, List.nodup_nil, (by simp), (by simp)⟩, rootL_mem rfl, alM rfl⟩
   | exact ⟨(_, _, ⟨d1_1.2.2.Op, d8_2.2.2, d1_1.2.2.B, d1_1.2.2.C⟩), trivial, ⟨fun n => n, rfl, fun _ _ => rfl, List.nodup_nil, (by simp), (by simp)⟩, rootL_mem rfl, alM rfl⟩
   | exact ⟨(_, _, ⟨d1_1.2.2.Op, d1_1.2.2.A, d10_2.2.2, d1_1.2.2.C⟩), trivial, ⟨fun n => n, rfl, fun _ _ => rfl, List.nodup_nil, (by simp), (by simp)⟩, rootL_mem rfl, alM rfl⟩
   | exact ⟨(_, _, ⟨d1_1.2.2.Op, d1_1.2.2.A, d1_1.2.2.B, d4_2.2.2⟩), trivial, ⟨fun n => n, rfl, fun _ _ => rfl, List.nodup_nil, (by simp), (by simp)⟩, rootL_mem rfl, alM rfl⟩
   | exact ⟨(d2_1.1, d2_1.2.1, ⟨d1_1.2.2.Op, d1_1.2.2.A, d1_1.2.2.B, d1_1.2.2.C⟩), trivial, ⟨fun n => n, rfl, fun _ _ => rfl, List.nodup_nil, (by simp), (by simp)⟩, rootL_mem rfl, alM rfl⟩
 have k1 := c1
 try simp only [cnd] at c1
 refine jd (AW.seq (AW.region ?_))
 refine qq (Qt.loadG rfl rfl rfl ag45 sz45 (by decide)) ?_
 refine nm ?_
 refine ss ?_
 refine nl ?_
 refine AW.ret (endQ_ret (.cons (.cellG 2 45 rfl rfl rfl ag45 sz45 (by decide)) .nil) ?_)
 first
  | exact ⟨(_, _, ⟨d6_2.2.2, d1_1.2.2.A, d1_1.2.2.B, d1_1.2.2.C⟩), trivial, ⟨fun n => n, rfl, fun _ _ => rfl, List.nodup_nil, (by simp), (by simp)⟩, rootL_mem rfl, alM rfl⟩
  | exact ⟨(_, _, ⟨d1_1.2.2.Op, d8_2.2.2, d1_1.2.2.B, d1_1.2.2.C⟩), trivial, ⟨fun n => n, rfl, fun _ _ => rfl, List.nodup_nil, (by simp), (by simp)⟩, rootL_mem rfl, alM rfl⟩
  | exact ⟨(_, _, ⟨d1_1.2.2.Op, d1_1.2.2.A, d10_2.2.2, d1_1.2.2.C⟩), trivial, ⟨fun n => n, rfl, fun _ _ => rfl, List.nodup_nil, (by simp), (by simp)⟩, rootL_mem rfl, alM rfl⟩
  | exact ⟨(_, _, ⟨d1_1.2.2.Op, d1_1.2.2.A, d1_1.2.2.B, d4_2.2.2⟩), trivial, ⟨fun n => n, rfl, fun _ _ => rfl, List.nodup_nil, (by simp), (by simp)⟩, rootL_mem rfl, alM rfl⟩
  | exact ⟨(d2_1.1, d2_1.2.1, ⟨d1_1.2.2.Op, d1_1.2.2.A, d1_1.2.2.B, d1_1.2.2.C⟩), trivial, ⟨fun n => n, rfl, fun _ _ => rfl, List.nodup_nil, (by simp), (by simp)⟩, rootL_mem rfl, alM rfl⟩
end Go.Proofs.Ytbchjcapphclgaa.VM
