/- Contracts. No conditions. -/
import Derived.Test.YthjfgpkjooaahaaGreatCEV1
set_option linter.all false
set_option maxHeartbeats 8000000
set_option maxRecDepth 10000
namespace Go.Proofs.YthjfgpkjooaahaaGreat.VM
open Go Go.RowKit Go.Proofs
/-- so many v, then zeros -/
def repT (v : Int) (c n : Nat) : T := .s 1 c fun k _ => if k < n then .v (iv v) else .v (iv 0)
structure RepI (c : Nat) where
 k : Nat
 pos : 1 ≤ k
 le : k ≤ c
theorem rep_zero {v : Int} {c : Nat} {g : Nat → Nat → T} (hc : 0 < c) (hg : g 0 0 = .v (iv v)) : (copyT 1 c 0 (min 1 c) (fun k c => [T.v (Value.int IntKind.i64 0)].getD c .j) g).sim (repT v c 1) := T.sim_of fun k c' hk hc' => by
 obtain rfl : c' = 0 := by omega
 have hm : min 1 c = 1 := by omega
 rw [hm]
 by_cases h : k = 0
 ·subst h; simp [hg, flatT]
 ·rw [if_neg (by omega), if_neg (by omega)]; rfl
theorem rep_step {v : Int} {c n : Nat} (h : n < c) (h1 : 1 ≤ n) : (copyT 1 c n (min n (c - n)) (fun k _ => if k < n then .v (iv v) else .v (iv 0)) fun k _ => if k < n then .v (iv v) else .v (iv 0)).sim (repT v c (n + min n (c - n))) := T.sim_of fun k c' hk hc' => by
 have h2 : min n (c - n) ≤ n := by omega
 dsimp only
 by_cases a : n ≤ k ∧ k < n + min n (c - n)
 ·rw [if_pos a, if_pos (show k - n < n by omega), if_pos (by omega)]; rfl
 ·rw [if_neg a]
  by_cases b : k < n
  ·rw [if_pos b, if_pos (by omega)]
  ·rw [if_neg b, if_neg (by omega)]
theorem rep_full {v : Int} {c : Nat} : (repT v c c).sim (tr (List.replicate c v)) := ⟨_, by rw [show tr (List.replicate c v) = .s 1 (List.replicate c v).length (fun k c' => (En.cs ((List.replicate c v).getD k En.dflt)).getD c' .j) from rfl, List.length_replicate], fun k c' hk hc' => by
 obtain rfl : c' = 0 := by omega
 dsimp only
 rw [if_pos hk]
 have : (List.replicate c v).getD k En.dflt = v := by simp [List.getD_eq_getElem?_getD, hk]
 rw [this]; exact tsr⟩
theorem mul64_3_con : Con Tryz.prog 343 [.v (.int .u64 1), .v (.int .u64 3)] [] (Ret (.t [.v (.int .u64 0), .v (.int .u64 3)]) []) := by
 refine ob Tryz.func343 Tryz.ntmps343 ?_
 refine go [.R,.a,.a,.Z,.R,.m,.N,.b,.a,.Z,.R,.m,.N,.b,.a,.Z,.R,.m,.N,.b,.a,.Z,.R,.m,.N,.b,.a,.Z,.R,.m,.N,.m,.b,.a,.Z,.R,.m,.N,.m,.b,.m,.N,.b,.b,.a,.Z,.R,.m,.N,.b,.a,.Z,.R,.m,.N,.b,.a,.Z,.R,.m,.N,.m,.m,.b,.N,.b,.a,.Z,.R,.m,.N,.m,.b,.m,.N,.b,.m,.b,.N,.b,.a,.Z,.R,.m,.N,.m,.b,.a,.Z] (k := ?_)
 refine AW.ret (endQ_ret (.cons (.tmp 4) (.cons (.tmp 5) .nil)) ?_)
 refine ⟨fun _ => 0, rfl, nodup_of rfl, ?_⟩
 intro r hr
 cases hr
theorem mul_3_con : Con Tryz.prog 277 [.v (.int .u64 1), .v (.int .u64 3)] [] (Ret (.t [.v (.int .u64 0), .v (.int .u64 3)]) []) := by
 refine ob Tryz.func277 Tryz.ntmps277 ?_
 refine go [.R,.a,.a,.Z] (k := ?_)
 refine AW.seq ?_
 refine AW.cond rfl (fun c1 => (by cases c1)) (fun c1 => ?_)
 try simp only [cnd] at c1
 refine go [.J,.R,.m,.N,.m] (k := ?_)
 refine sp (Stp.callR rfl (by decide) Tryz.call343 rfl rfl mul64_3_con (nodup_of rfl) rfl rfl) ?_
 refine go [.N,.m,.e,.e,.N,.a,.a,.Z,.R,.m,.N,.m,.a,.a,.Z] (k := ?_)
 refine AW.ret (endQ_ret (.cons (.tmp 4) (.cons (.tmp 5) .nil)) ?_)
 refine ⟨fun _ => 0, rfl, nodup_of rfl, ?_⟩
 intro r hr
 cases hr
theorem rep_3_con (v : Int) : Con Tryz.prog 165 [.h base [], .v (iv 3)] [.rt base .ro (tr [v])] (Ret (.h 0 []) [(0, .row, tr (List.replicate 3 v))]) := by
 refine ob Tryz.func165 Tryz.ntmps165 ?_
 refine go [.R,.a,.Z,.R2,.m,.b,.Z] (k := ?_)
 refine AW.cond rfl (fun c1 => (by exfalso; first | (cases c1; done) | (simp at c1; done) | (simp only [cnd] at c1; omega))) (fun c1 => ?_)
 try simp only [cnd] at c1
 refine go [.J,.R,.m,.N,.h] (k := ?_)
 refine qq (Qt.convI rfl rfl Tryz.underlying302) ?_
 refine go [.m,.N] (k := ?_)
 refine qq (Qt.convI rfl rfl Tryz.underlying302) ?_
 refine sp (Stp.callR rfl (by decide) Tryz.call277 rfl rfl mul_3_con (nodup_of rfl) rfl rfl) ?_
 refine go [.N,.m,.e,.e,.N,.a,.a,.Z,.R2,.m,.N,.b,.m] (k := ?_)
 apply AWL.cut 2
 ·intro Kg2
  refine AWL.splitF 23 rfl (fun g2 => ?_) (fun g2 => ?_)
  ·refine go [.m,.N,.b] (k := ?_)
   exact wjT 25 [24, 25] (ifF g2 _ undef) Kg2
  ·refine go [.x,.x] (k := ?_)
   exact wjF 25 [24, 25] (ifT g2 undef _) Kg2
 refine qq (Qt.pickOr rfl rfl rfl) ?_
 refine go [.Z] (k := ?_)
 refine AW.cond rfl (fun c3 => (by exfalso; first | (cases c3; done) | (simp at c3; done) | (simp only [cnd] at c3; omega))) (fun c3 => ?_)
 try simp only [cnd] at c3
 refine go [.J,.R,.m,.N] (k := ?_)
 refine qq (Qt.convI rfl rfl Tryz.underlying3) ?_
 refine AWL.weak (Weak.slot (d := 29) (v' := iv ((3 : Nat) : Int)) rfl (by rfl)) ?_
 refine go [.N] (k := ?_)
 refine sp (Stp.makeSlice rfl (by decide) (by decide) rfl rfl (by omega) (by omega) (by omega)) ?_
 refine go [.N,.a,.Z,.R,.m,.m,.N] (k := ?_)
 refine sp (Stp.copy rfl (by decide) rfl rfl (by decide) rfl (fun _ _ _ _ _ h => by cases h <;> rfl) rfl (by first | omega | simp) (by first | omega | simp)) ?_
 refine go [.N,.a,.Z] (k := ?_)
 refine AW.seq (AW.block ?_)
 refine AW.weak (L' := [.sl 8 (.v (iv (1 : Nat))), .sl 7 (.h 30 []), .rt 30 .row (repT v 3 (1 : Nat))]) (Weak.sim ⟨rfl, rfl, ⟨_, rfl, rep_zero (by omega) rfl⟩, trivial⟩ rfl rfl) ?_
 refine AW.loop (fun i : RepI 3 => [.sl 8 (.v (iv i.k)), .sl 7 (.h 30 []), .rt 30 .row (repT v 3 i.k)]) (fun i => 3 - i.k) ⟨1, by omega, by omega⟩ ?_
 intro i
 have hle := i.le
 refine go [.R2,.m,.m,.N,.h,.b,.Z] (k := ?_)
 refine cd (fun c4 => ?_) fun c4 => ?_
 ·try simp only [cnd] at c4
  have hp := i.pos
  refine jd (AW.block ?_)
  refine go [.D [0, 1, 2, 3, 4, 5, 6, 8],.t 0,.m,.N,.t 1,.m,.t 2,.m] (k := ?_)
  refine tk 3 rfl (Qt.sliceH rfl rfl rfl sl27 sz3 (by decide) (slB_so rfl rfl) slB_no (by first | omega | (simp only [Int.toNat_natCast]; omega)) (by first | omega | (simp only [Int.toNat_natCast]; omega))) ?_
  refine go [.N,.t 4,.m,.t 5,.m] (k := ?_)
  refine tk 6 rfl (Qt.sliceH rfl rfl rfl sl27 sz3 (by decide) slB_no (slB_so rfl rfl) (by first | omega | (simp only [Int.toNat_natCast]; omega)) (by first | omega | (simp only [Int.toNat_natCast]; omega))) ?_
  refine go [.N] (k := ?_)
  refine a1 7 [0] [6, 3, 5, 4, 2, 1] rfl rfl (Stp.copy rfl (by decide) rfl rfl (by decide) rfl (fun _ _ _ _ _ h => by cases h <;> rfl) rfl (by first | omega | simp) (by first | omega | simp)) ?_
  refine go [.N,.g,.m,.N,.t 8,.b] (k := ?_)
  refine a1 9 [] [8, 7, 6, 5, 4, 3, 2, 1, 0] rfl rfl (Stp.q rfl (by decide) Qt.assign) ?_
  refine go [.N,.Z] (k := ?_)
  refine ⟨⟨i.k + min i.k (3 - i.k), by omega, by omega⟩, Weak.sim ⟨(by simp only [slotL, reduceIte, Nat.reduceEqDiff, Nat.sub_zero]; congr 2), rfl, ⟨_, rfl, (by simp only [Nat.sub_zero, Nat.zero_add]; exact rep_step (v := v) (n := i.k) (c := 3) (by omega) i.pos)⟩, trivial⟩ rfl rfl, ?_⟩
  show 3 - (i.k + min i.k (3 - i.k)) < 3 - i.k
  omega
 try simp only [cnd] at c4
 refine AW.exit ?_
 dsimp only [thenQ, blockQ, reduceIte]
 refine go [.R,.m,.a,.Z] (k := ?_)
 refine AW.rep 30 (tr (List.replicate 3 v)) rfl (by rw [show i.k = 3 by omega]; exact rep_full) ?_
 refine rt1 4 ?_
 refine ⟨fun _ => 30, rfl, nodup_of rfl, ?_⟩
 intro r hr
 cases List.mem_singleton.1 hr
 exact ⟨by simp, rootL_mem rfl⟩
theorem mul64_4_con : Con Tryz.prog 343 [.v (.int .u64 1), .v (.int .u64 4)] [] (Ret (.t [.v (.int .u64 0), .v (.int .u64 4)]) []) := by
 refine ob Tryz.func343 Tryz.ntmps343 ?_
 refine go [.R,.a,.a,.Z,.R,.m,.N,.b,.a,.Z,.R,.m,.N,.b,.a,.Z,.R,.m,.N,.b,.a,.Z,.R,.m,.N,.b,.a,.Z,.R,.m,.N,.m,.b,.a,.Z,.R,.m,.N,.m,.b,.m,.N,.b,.b,.a,.Z,.R,.m,.N,.b,.a,.Z,.R,.m,.N,.b,.a,.Z,.R,.m,.N,.m,.m,.b,.N,.b,.a,.Z,.R,.m,.N,.m,.b,.m,.N,.b,.m,.b,.N,.b,.a,.Z,.R,.m,.N,.m,.b,.a,.Z] (k := ?_)
 refine AW.ret (endQ_ret (.cons (.tmp 4) (.cons (.tmp 5) .nil)) ?_)
 refine ⟨fun _ => 0, rfl, nodup_of rfl, ?_⟩
 intro r hr
 cases hr
theorem mul_4_con : Con Tryz.prog 277 [.v (.int .u64 1), .v (.int .u64 4)] [] (Ret (.t [.v (.int .u64 0), .v (.int .u64 4)]) []) := by
 refine ob Tryz.func277 Tryz.ntmps277 ?_
 refine go [.R,.a,.a,.Z] (k := ?_)
 refine AW.seq ?_
 refine AW.cond rfl (fun c1 => (by cases c1)) (fun c1 => ?_)
 try simp only [cnd] at c1
 refine go [.J,.R,.m,.N,.m] (k := ?_)
 refine sp (Stp.callR rfl (by decide) Tryz.call343 rfl rfl mul64_4_con (nodup_of rfl) rfl rfl) ?_
 refine go [.N,.m,.e,.e,.N,.a,.a,.Z,.R,.m,.N,.m,.a,.a,.Z] (k := ?_)
 refine AW.ret (endQ_ret (.cons (.tmp 4) (.cons (.tmp 5) .nil)) ?_)
 refine ⟨fun _ => 0, rfl, nodup_of rfl, ?_⟩
 intro r hr
 cases hr
theorem rep_4_con (v : Int) : Con Tryz.prog 165 [.h base [], .v (iv 4)] [.rt base .ro (tr [v])] (Ret (.h 0 []) [(0, .row, tr (List.replicate 4 v))]) := by
 refine ob Tryz.func165 Tryz.ntmps165 ?_
 refine go [.R,.a,.Z,.R2,.m,.b,.Z] (k := ?_)
 refine AW.cond rfl (fun c1 => (by exfalso; first | (cases c1; done) | (simp at c1; done) | (simp only [cnd] at c1; omega))) (fun c1 => ?_)
 try simp only [cnd] at c1
 refine go [.J,.R,.m,.N,.h] (k := ?_)
 refine qq (Qt.convI rfl rfl Tryz.underlying302) ?_
 refine go [.m,.N] (k := ?_)
 refine qq (Qt.convI rfl rfl Tryz.underlying302) ?_
 refine sp (Stp.callR rfl (by decide) Tryz.call277 rfl rfl mul_4_con (nodup_of rfl) rfl rfl) ?_
 refine go [.N,.m,.e,.e,.N,.a,.a,.Z,.R2,.m,.N,.b,.m] (k := ?_)
 apply AWL.cut 2
 ·intro Kg2
  refine AWL.splitF 23 rfl (fun g2 => ?_) (fun g2 => ?_)
  ·refine go [.m,.N,.b] (k := ?_)
   exact wjT 25 [24, 25] (ifF g2 _ undef) Kg2
  ·refine go [.x,.x] (k := ?_)
   exact wjF 25 [24, 25] (ifT g2 undef _) Kg2
 refine qq (Qt.pickOr rfl rfl rfl) ?_
 refine go [.Z] (k := ?_)
 refine AW.cond rfl (fun c3 => (by exfalso; first | (cases c3; done) | (simp at c3; done) | (simp only [cnd] at c3; omega))) (fun c3 => ?_)
 try simp only [cnd] at c3
 refine go [.J,.R,.m,.N] (k := ?_)
 refine qq (Qt.convI rfl rfl Tryz.underlying3) ?_
 refine AWL.weak (Weak.slot (d := 29) (v' := iv ((4 : Nat) : Int)) rfl (by rfl)) ?_
 refine go [.N] (k := ?_)
 refine sp (Stp.makeSlice rfl (by decide) (by decide) rfl rfl (by omega) (by omega) (by omega)) ?_
 refine go [.N,.a,.Z,.R,.m,.m,.N] (k := ?_)
 refine sp (Stp.copy rfl (by decide) rfl rfl (by decide) rfl (fun _ _ _ _ _ h => by cases h <;> rfl) rfl (by first | omega | simp) (by first | omega | simp)) ?_
 refine go [.N,.a,.Z] (k := ?_)
 refine AW.seq (AW.block ?_)
 refine AW.weak (L' := [.sl 8 (.v (iv (1 : Nat))), .sl 7 (.h 30 []), .rt 30 .row (repT v 4 (1 : Nat))]) (Weak.sim ⟨rfl, rfl, ⟨_, rfl, rep_zero (by omega) rfl⟩, trivial⟩ rfl rfl) ?_
 refine AW.loop (fun i : RepI 4 => [.sl 8 (.v (iv i.k)), .sl 7 (.h 30 []), .rt 30 .row (repT v 4 i.k)]) (fun i => 4 - i.k) ⟨1, by omega, by omega⟩ ?_
 intro i
 have hle := i.le
 refine go [.R2,.m,.m,.N,.h,.b,.Z] (k := ?_)
 refine cd (fun c4 => ?_) fun c4 => ?_
 ·try simp only [cnd] at c4
  have hp := i.pos
  refine jd (AW.block ?_)
  refine go [.D [0, 1, 2, 3, 4, 5, 6, 8],.t 0,.m,.N,.t 1,.m,.t 2,.m] (k := ?_)
  refine tk 3 rfl (Qt.sliceH rfl rfl rfl sl27 sz3 (by decide) (slB_so rfl rfl) slB_no (by first | omega | (simp only [Int.toNat_natCast]; omega)) (by first | omega | (simp only [Int.toNat_natCast]; omega))) ?_
  refine go [.N,.t 4,.m,.t 5,.m] (k := ?_)
  refine tk 6 rfl (Qt.sliceH rfl rfl rfl sl27 sz3 (by decide) slB_no (slB_so rfl rfl) (by first | omega | (simp only [Int.toNat_natCast]; omega)) (by first | omega | (simp only [Int.toNat_natCast]; omega))) ?_
  refine go [.N] (k := ?_)
  refine a1 7 [0] [6, 3, 5, 4, 2, 1] rfl rfl (Stp.copy rfl (by decide) rfl rfl (by decide) rfl (fun _ _ _ _ _ h => by cases h <;> rfl) rfl (by first | omega | simp) (by first | omega | simp)) ?_
  refine go [.N,.g,.m,.N,.t 8,.b] (k := ?_)
  refine a1 9 [] [8, 7, 6, 5, 4, 3, 2, 1, 0] rfl rfl (Stp.q rfl (by decide) Qt.assign) ?_
  refine go [.N,.Z] (k := ?_)
  refine ⟨⟨i.k + min i.k (4 - i.k), by omega, by omega⟩, Weak.sim ⟨(by simp only [slotL, reduceIte, Nat.reduceEqDiff, Nat.sub_zero]; congr 2), rfl, ⟨_, rfl, (by simp only [Nat.sub_zero, Nat.zero_add]; exact rep_step (v := v) (n := i.k) (c := 4) (by omega) i.pos)⟩, trivial⟩ rfl rfl, ?_⟩
  show 4 - (i.k + min i.k (4 - i.k)) < 4 - i.k
  omega
 try simp only [cnd] at c4
 refine AW.exit ?_
 dsimp only [thenQ, blockQ, reduceIte]
 refine go [.R,.m,.a,.Z] (k := ?_)
 refine AW.rep 30 (tr (List.replicate 4 v)) rfl (by rw [show i.k = 4 by omega]; exact rep_full) ?_
 refine rt1 4 ?_
 refine ⟨fun _ => 30, rfl, nodup_of rfl, ?_⟩
 intro r hr
 cases List.mem_singleton.1 hr
 exact ⟨by simp, rootL_mem rfl⟩
end Go.Proofs.YthjfgpkjooaahaaGreat.VM

