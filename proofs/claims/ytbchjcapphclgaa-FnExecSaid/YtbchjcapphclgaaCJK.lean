/- Contracts of functions of the program. No conditions beyond those that each states. -/
import Derived.Test.YtbchjcapphclgaaCJG
import Derived.Test.YtbchjcapphclgaaCJC
set_option linter.all false
namespace Go.Proofs.Ytbchjcapphclgaa.VM
open Go Go.RowKit Go.Proofs
theorem Weak.gA {N : Nat} {L : List E} (d : Nat) {id n len : Nat} {f : Nat → Nat → T} {m : M} {y : X} (h : slotL L d = .g [y, .h id []]) (hR : rootL L id = some (m, .s n len f)) : Weak N L (putL L d (.g [y, .a id [] n 0 len])) :=
 Weak.putX h fun val H G w v hr hv => by
  obtain ⟨vs, rfl, hv⟩ := hv
  match vs, hv with
  | [v0, v1], ⟨h0, h1, _⟩ =>
  refine ⟨[v0, v1], rfl, h0, ?_, trivial⟩
  obtain ⟨m', t', g1, g2, g3, g4⟩ := h1
  obtain ⟨rfl, rfl⟩ := hr.one _ _ _ _ _ g1 (rootL_mem hR)
  simp only [VM.hd, Option.some.injEq] at g4
  subst g4
  obtain ⟨hn, a, cap, h0', hl, hm, b, off, V, G1, e, _⟩ := hr.rd g1
  refine ⟨_, _, g1, g2, ⟨len, f, rfl, by omega⟩, H id, rfl, a, cap, h0', hl, hm, fun hlt => ?_⟩
  rw [h0', e hlt]
  simp [adr]
structure RI where
 k : Nat
 le : k ≤ 4
 l : List Int
 len : l.length = k
 p : Nat
 q : Int
theorem cpu_sim {pc : Int} {f : Nat → Nat → T} (h0 : f 0 0 = .v (iv pc)) (h1 : f 0 1 = .j) : (T.s 2 1 f).sim (.s 2 1 fun _ c => [T.v (iv pc), T.j].getD c .j) := T.sim_of fun k c hk hc => by
 obtain rfl : k = 0 := by omega
 rcases c with _ | _ | c
 ·exact h0
 ·exact h1
 ·omega
set_option maxHeartbeats 8000000 in
set_option maxRecDepth 10000 in
theorem l5Cpu_con (code : List UInt8) (i : Nat) (h : Int) : Con Try.prog 24 [.p base [] 3 0 0] [.rt base .box (.s 3 1 (curF (i : Nat) h)), .al base 0 (.h (base + 1) []), .rt (base + 1) .ro (tr code)] (RetD 3 (fun m : Nat × Int × (Int × List Int × Nat) => m.2.2.2.1.length = 4 ∧ (m.2.2.2.2 = 3 ∨ m.2.2.2.2 = 4)) (fun m => .g [.v (iv m.2.2.1), .a 0 [] 1 0 m.2.2.2.2]) (fun m => [(0, .row, tr m.2.2.2.1)]) (fun m => curF m.1 m.2.1)) := by
 refine Con.of_body Try.func24 rfl (by simp) ?_
 rw [Try.ntmps24]
 refine AW.seq (AW.region ?_)
 refine sp (Stp.alloc rfl (by decide) (by decide)) ?_
 refine nl ?_
 refine AW.seq (AW.region ?_)
 refine qq Qt.move ?_
 refine nm ?_
 refine spK (StpK.callD rfl (by decide) Try.call25 rfl rfl rfl rfl rfl rfl rfl (cur_leaf _ _) (l1Below_con code _ _ _) (fun _ => nodup_of rfl) (fun _ => rfl) (fun _ => rfl)) ?_
 rintro _ ⟨d1_1, hd1_1, rfl⟩
 try dsimp only at hd1_1
 refine nm ?_
 refine qq (Qt.build rfl) ?_
 refine sp (Stp.alloc rfl (by decide) (by decide)) ?_
 refine nm ?_
 refine ss ?_
 refine nl ?_
 refine AW.seq (AW.seq (AW.region ?_))
 refine qq Qt.assign ?_
 refine nl ?_
 refine AW.block ?_
 refine AW.weak (Weak.hoist 3 1 18 rfl (by decide) rfl rfl rfl) ?_
 refine AW.loopW (fun i : RI => [.sl 4 (.v (iv i.k)), .sl 3 (.p 3 [] 2 0 0), .rt 3 .box (T.s 2 1 fun _ c => [T.v (iv d1_1.2.2), T.j].getD c .j), .al 3 1 (.h 18 []), .rt 18 .row (tr i.l), .sl 2 (.p 2 [] 2 0 0), .rt 2 .box (T.s 2 1 fun _ c => [T.v (.int .i64 0), T.s 1 0 fun _ _ => T.j].getD c T.j), .sl 0 (.p base [] 3 0 0), .rt base .box (.s 3 1 (curF (i.p : Nat) i.q)), .al base 0 (.h (base + 1) []), .rt (base + 1) .ro (tr code)]) (fun i => 4 - i.k) ⟨0, by omega, [], rfl, _, _⟩ (Weak.sim ⟨rfl, rfl, ⟨_, rfl, cpu_sim rfl rfl⟩, ⟨rfl, rfl⟩, ⟨_, rfl, sim_nil⟩, rfl, Rf rfl, rfl, Rf rfl, ⟨rfl, rfl⟩, Rf rfl, trivial⟩ rfl rfl) ?_
 intro i
 have hle := i.le
 have hll := i.len
 refine AW.seq (AW.seq (AW.region ?_))
 refine qq Qt.move ?_
 refine nm ?_
 refine qq (Qt.binOp rfl rfl rfl) ?_
 refine nl ?_
 refine AW.cond rfl (fun c1 => ?_) (fun c1 => ?_)
 ·have k1 := c1
  try simp only [cnd] at c1
  refine jd (AW.seq (AW.block ?_))
  refine AW.draw [0, 1, 2, 7] rfl (by decide +kernel) ?_
  refine tk 0 rfl (fA fl36_1) ?_
  refine tk 1 rfl (Qt.load1 rfl rfl rfl ag34) ?_
  refine na ?_
  refine tk 2 rfl Qt.move ?_
  refine a1 3 [0, 1, 2] [] rfl rfl (Stp.buildSlice (ys := [.v (iv 0), .v (iv 1), .v (iv 2), .v (iv 3), .v (iv 7), .v (iv (-1)), .v (iv 1000000), .v (iv 5)]) rfl (by decide) (by decide) rfl (by decide) rfl rfl rfl (nodup_of rfl)) ?_
  refine na ?_
  refine na ?_
  refine AWA.againE rfl rfl (by decide +kernel) (.on rfl rfl (fA fl36_1)) rfl ?_
  refine na ?_
  refine AWA.againE rfl rfl (by decide +kernel) (.on rfl rfl (Qt.load1 rfl rfl rfl ag34)) rfl ?_
  refine na ?_
  refine AWA.againE rfl rfl (by decide +kernel) (.on rfl rfl Qt.move) rfl ?_
  refine na ?_
  refine AWA.rep 15 (tr ([0, 1, 2, 3, 7, -1, 1000000, 5] : List Int)) rfl (T.sim_of fun k c hk hc => by
   obtain rfl : c = 0 := by first | omega | (simp only [List.length_cons, List.length_nil] at hc; omega)
   match k, hk with
   | 0, _ => rfl
   | 1, _ => rfl
   | 2, _ => rfl
   | 3, _ => rfl
   | 4, _ => rfl
   | 5, _ => rfl
   | 6, _ => rfl
   | 7, _ => rfl
   | k + 8, hk => exact absurd hk (by first | omega | (simp only [List.length_cons, List.length_nil]; omega))) ?_
  refine na ?_
  refine a1K 4 [0, 1] [3, 2] rfl rfl (StpK.callD2 rfl (by decide) Try.call27 rfl rfl rfl rfl rfl rfl rfl rfl rfl (cur_leaf _ _) (l1PickInt_con code _ _ _ (by simp)) (fun _ => nodup_of rfl) (fun _ => rfl) (fun _ => rfl)) ?_
  rintro _ ⟨d5_4, hd5_4, rfl⟩
  try dsimp only at hd5_4
  refine na ?_
  refine na ?_
  refine AWA.againE rfl rfl (by decide +kernel) (.on rfl rfl (fA fl36_1)) rfl ?_
  refine na ?_
  refine AWA.againE rfl rfl (by decide +kernel) (.on rfl rfl (Qt.load1 rfl rfl rfl ag34)) rfl ?_
  refine na ?_
  refine a1 5 [0, 1] [4, 3, 2] rfl rfl (Stp.buildSlice rfl (by decide) (by decide) rfl (by decide) rfl rfl rfl (nodup_of rfl)) ?_
  refine na ?_
  refine na ?_
  refine AWA.againE rfl rfl (by decide +kernel) (.on rfl rfl (fA fl36_1)) rfl ?_
  refine na ?_
  refine AWA.againE rfl rfl (by decide +kernel) (.on rfl rfl (Qt.load1 rfl rfl rfl ag34)) rfl ?_
  refine na ?_
  refine AWA.rep 17 (tr ([d5_4.2.2] : List Int)) rfl (sim_row1 rfl rfl rfl (fun k hk => match k, hk with | 0, _ => rfl | k + 1, hk => absurd hk (by omega))) ?_
  refine na ?_
  refine a1 6 [] [5, 4, 1, 3, 2, 0] rfl rfl (Stp.appendM rfl (by decide) (by decide) rfl rfl rfl (by simp only [List.length_cons, List.length_nil]; omega)) ?_
  refine na ?_
  refine na ?_
  refine AWA.rep 18 (tr (i.l ++ [d5_4.2.2])) rfl (app_sim (l := i.l) (l' := [d5_4.2.2]) rfl (fun _ _ _ _ => rfl) (fun k c hk hc => by first | rfl | exact T.sim_refl _)) ?_
  refine na ?_
  refine tk 7 rfl (fA fl36_1) ?_
  refine a1 8 [] [7, 6, 5, 4, 3, 2, 1, 0] rfl rfl (by first | exact Stp.storeA rfl rfl rfl rfl (by decide) rfl | exact Stp.store rfl rfl (by simp) rfl rfl rfl (by decide) rfl) ?_
  refine na ?_
  refine na ?_
  refine nz ?_
  refine AW.region ?_
  refine qq Qt.move ?_
  refine qq (Qt.binOp rfl rfl (by first | exact pbAdd (by omega) | rfl)) ?_
  refine qq Qt.assign ?_
  refine nl ?_
  refine ⟨⟨i.k + 1, by omega, i.l ++ [d5_4.2.2], by rw [List.length_append, hll]; rfl, _, _⟩, Weak.sim ⟨rfl, rfl, ⟨_, rfl, cpu_sim rfl rfl⟩, ⟨rfl, rfl⟩, Rf rfl, rfl, Rf rfl, rfl, Rf rfl, ⟨rfl, rfl⟩, Rf rfl, trivial⟩ rfl rfl, ?_⟩
  show 4 - (i.k + 1) < 4 - i.k
  omega
 have k1 := c1
 try simp only [cnd] at c1
 refine AW.exit ?_
 dsimp only [thenQ, blockQ, reduceIte]
 refine AW.seq (AW.seq (AW.region ?_))
 refine qq Qt.move ?_
 refine nm ?_
 refine spK (StpK.callD rfl (by decide) Try.call26 rfl rfl rfl rfl rfl rfl rfl (cur_leaf _ _) (l1Once_con code _ _ _) (fun _ => nodup_of rfl) (fun _ => rfl) (fun _ => rfl)) ?_
 rintro _ ⟨d6_1, hd6_1, rfl⟩
 try dsimp only at hd6_1
 refine nl ?_
 refine AW.cond rfl (fun c2 => ?_) (fun c2 => ?_)
 ·have k2 := c2
  try simp only [cnd] at c2
  refine AW.seq (AW.region ?_)
  refine qq Qt.move ?_
  refine nm ?_
  refine spK (StpK.callD rfl (by decide) Try.call25 rfl rfl rfl rfl rfl rfl rfl (cur_leaf _ _) (l1Below_con code _ _ _) (fun _ => nodup_of rfl) (fun _ => rfl) (fun _ => rfl)) ?_
  rintro _ ⟨d7_1, hd7_1, rfl⟩
  try dsimp only at hd7_1
  refine nl ?_
  refine AW.block (AW.seq (AW.region ?_))
  refine qq (Qt.binOp rfl rfl rfl) ?_
  refine nm ?_
  refine qq Qt.assign ?_
  refine nl ?_
  refine AW.cond rfl (fun c3 => ?_) (fun c3 => ?_)
  ·have k3 := c3
   try simp only [cnd] at c3
   refine AW.region ?_
   refine qq Qt.move ?_
   refine sp (Stp.buildSlice (ys := [.v (iv (-1)), .v (iv 40), .v (iv 41)]) rfl (by decide) (by decide) rfl (by decide) rfl rfl rfl (nodup_of rfl)) ?_
   refine AWL.rep 33 (tr ([-1, 40, 41] : List Int)) rfl (T.sim_of fun k c hk hc => by
    obtain rfl : c = 0 := by first | omega | (simp only [List.length_cons, List.length_nil] at hc; omega)
    match k, hk with
    | 0, _ => rfl
    | 1, _ => rfl
    | 2, _ => rfl
    | k + 3, hk => exact absurd hk (by first | omega | (simp only [List.length_cons, List.length_nil]; omega))) ?_
   refine nm ?_
   refine spK (StpK.callD2 rfl (by decide) Try.call27 rfl rfl rfl rfl rfl rfl rfl rfl rfl (cur_leaf _ _) (l1PickInt_con code _ _ _ (by simp)) (fun _ => nodup_of rfl) (fun _ => rfl) (fun _ => rfl)) ?_
   rintro _ ⟨d10_2, hd10_2, rfl⟩
   try dsimp only at hd10_2
   refine nm ?_
   refine qq (fA fl36_0) ?_
   refine ss ?_
   refine nl ?_
   refine AW.seq (AW.region ?_)
   refine qq (Qt.loadG rfl rfl rfl ag36 sz36 (by decide)) ?_
   refine nm ?_
   refine AWL.weak (Weak.gA 42 rfl rfl) ?_
   refine nm ?_
   refine ss ?_
   refine nl ?_
   refine AW.ret (endQ_ret (.cons (.cellG 2 36 rfl rfl rfl ag36 sz36 (by decide)) .nil) ?_)
   exact ⟨(d10_2.1, d10_2.2.1, (d10_2.2.2, i.l, i.l.length)), ⟨(by show i.l.length = 4; omega), .inr (by show i.l.length = 4; omega)⟩, ⟨fun n => if n = 0 then 18 else n, rfl, (fun n hn => if_neg (fun e => by subst e; exact absurd hn (by decide))), nodup_of rfl, (fun r hr => by cases List.mem_singleton.1 hr; exact ⟨by simp, rootL_mem rfl, by show (18 : Nat) < 100000; decide⟩), by simp⟩, rootL_mem rfl, alM rfl⟩
  have k3 := c3
  try simp only [cnd] at c3
  refine AW.seq (AW.region ?_)
  refine qq (Qt.binOp rfl rfl rfl) ?_
  refine nm ?_
  refine qq Qt.assign ?_
  refine nl ?_
  refine AW.cond rfl (fun c4 => ?_) (fun c4 => ?_)
  ·have k4 := c4
   try simp only [cnd] at c4
   refine AW.region ?_
   refine qq (fA fl36_1) ?_
   refine qq (Qt.load1 rfl rfl rfl ag34) ?_
   refine nm ?_
   refine qq (Qt.sliceH (lo := 0) (hi := 3) rfl rfl rfl sl34 sz3 (by decide) slB_no (slB_so rfl rfl) (by omega) (by omega)) ?_
   refine qq (fA fl36_1) ?_
   refine ss ?_
   refine nl ?_
   refine AW.seq (AW.region ?_)
   refine qq (Qt.loadG rfl rfl rfl ag36 sz36 (by decide)) ?_
   refine nm ?_
   refine ss ?_
   refine nl ?_
   refine AW.ret (endQ_ret (.cons (.cellG 2 36 rfl rfl rfl ag36 sz36 (by decide)) .nil) ?_)
   exact ⟨(d7_1.1, d7_1.2.1, (d1_1.2.2, i.l, 3)), ⟨(by show i.l.length = 4; omega), .inl rfl⟩, ⟨fun n => if n = 0 then 18 else n, rfl, (fun n hn => if_neg (fun e => by subst e; exact absurd hn (by decide))), nodup_of rfl, (fun r hr => by cases List.mem_singleton.1 hr; exact ⟨by simp, rootL_mem rfl, by show (18 : Nat) < 100000; decide⟩), by simp⟩, rootL_mem rfl, alM rfl⟩
  have k4 := c4
  try simp only [cnd] at c4
  refine AW.draw [0, 1, 2, 5] rfl (by decide +kernel) ?_
  refine tk 0 rfl (fA fl36_1) ?_
  refine na ?_
  refine tk 1 rfl (Qt.load1 rfl rfl rfl ag34) ?_
  refine tk 2 rfl Qt.move ?_
  refine a1 3 [0, 1, 2] [] rfl rfl (Stp.buildSlice rfl (by decide) (by decide) rfl (by decide) rfl rfl rfl (nodup_of rfl)) ?_
  refine na ?_
  refine na ?_
  refine AWA.againE rfl rfl (by decide +kernel) (.on rfl rfl (fA fl36_1)) rfl ?_
  refine na ?_
  refine AWA.againE rfl rfl (by decide +kernel) (.on rfl rfl (Qt.load1 rfl rfl rfl ag34)) rfl ?_
  refine na ?_
  refine AWA.againE rfl rfl (by decide +kernel) (.on rfl rfl Qt.move) rfl ?_
  refine na ?_
  refine AWA.rep 27 (tr ([-1000000, 1000001] : List Int)) rfl (T.sim_of fun k c hk hc => by
   obtain rfl : c = 0 := by first | omega | (simp only [List.length_cons, List.length_nil] at hc; omega)
   match k, hk with
   | 0, _ => rfl
   | 1, _ => rfl
   | k + 2, hk => exact absurd hk (by first | omega | (simp only [List.length_cons, List.length_nil]; omega))) ?_
  refine na ?_
  refine a1K 4 [0, 1] [3, 2] rfl rfl (StpK.callD2 rfl (by decide) Try.call27 rfl rfl rfl rfl rfl rfl rfl rfl rfl (cur_leaf _ _) (l1PickInt_con code _ _ _ (by simp)) (fun _ => nodup_of rfl) (fun _ => rfl) (fun _ => rfl)) ?_
  rintro _ ⟨d8_4, hd8_4, rfl⟩
  try dsimp only at hd8_4
  refine na ?_
  refine na ?_
  refine AWA.againE rfl rfl (by decide +kernel) (.on rfl rfl (fA fl36_1)) rfl ?_
  refine na ?_
  refine AWA.againE rfl rfl (by decide +kernel) (.on rfl rfl (Qt.load1 rfl rfl rfl ag34)) rfl ?_
  refine na ?_
  refine tk 5 rfl (Qt.indexAddr rfl rfl rfl rfl sl34 sz3 (by decide) (by first | omega | grind only)) ?_
  refine a1 6 [] [5, 4, 3, 2, 1, 0] rfl rfl (by first | exact Stp.storeA rfl rfl rfl rfl (by decide) rfl | exact Stp.store rfl rfl (by simp) rfl rfl rfl (by decide) rfl) ?_
  refine na ?_
  refine na ?_
  refine AWA.rep 18 (tr (i.l.set 0 d8_4.2.2)) rfl (set_sim (fun k c hk => by simp only [upd_app, hk, false_and, if_false]; try rfl) (fun c hc => match c, hc with | 0, _ => (by simp only [upd_app, eq_self, and_self, if_true]; exact T.sim_refl _) | c + 1, hc => absurd hc (by simp only [En.n]; omega))) ?_
  refine na ?_
  refine nz ?_
  refine AW.seq (AW.region ?_)
  refine qq (Qt.loadG rfl rfl rfl ag36 sz36 (by decide)) ?_
  refine nm ?_
  refine AWL.weak (Weak.gA 42 rfl rfl) ?_
  refine nm ?_
  refine ss ?_
  refine nl ?_
  refine AW.ret (endQ_ret (.cons (.cellG 2 36 rfl rfl rfl ag36 sz36 (by decide)) .nil) ?_)
  exact ⟨(d8_4.1, d8_4.2.1, (d1_1.2.2, (i.l.set 0 d8_4.2.2), (i.l.set 0 d8_4.2.2).length)), ⟨(by show (i.l.set 0 d8_4.2.2).length = 4; rw [List.length_set]; omega), .inr (by show (i.l.set 0 d8_4.2.2).length = 4; rw [List.length_set]; omega)⟩, ⟨fun n => if n = 0 then 18 else n, rfl, (fun n hn => if_neg (fun e => by subst e; exact absurd hn (by decide))), nodup_of rfl, (fun r hr => by cases List.mem_singleton.1 hr; exact ⟨by simp, rootL_mem rfl, by show (18 : Nat) < 100000; decide⟩), by simp⟩, rootL_mem rfl, alM rfl⟩
 have k2 := c2
 try simp only [cnd] at c2
 refine jd (AW.seq (AW.region ?_))
 refine qq (Qt.loadG rfl rfl rfl ag36 sz36 (by decide)) ?_
 refine nm ?_
 refine AWL.weak (Weak.gA 42 rfl rfl) ?_
 refine nm ?_
 refine ss ?_
 refine nl ?_
 refine AW.ret (endQ_ret (.cons (.cellG 2 36 rfl rfl rfl ag36 sz36 (by decide)) .nil) ?_)
 exact ⟨(d6_1.1, d6_1.2.1, (d1_1.2.2, i.l, i.l.length)), ⟨(by show i.l.length = 4; omega), .inr (by show i.l.length = 4; omega)⟩, ⟨fun n => if n = 0 then 18 else n, rfl, (fun n hn => if_neg (fun e => by subst e; exact absurd hn (by decide))), nodup_of rfl, (fun r hr => by cases List.mem_singleton.1 hr; exact ⟨by simp, rootL_mem rfl, by show (18 : Nat) < 100000; decide⟩), by simp⟩, rootL_mem rfl, alM rfl⟩
end Go.Proofs.Ytbchjcapphclgaa.VM
