/- Contracts. No conditions. -/
import Derived.Test.YthjfgpkjooaahaaGreatCLN
import Derived.Test.YthjfgpkjooaahaaGreatVmD
set_option linter.all false
set_option maxHeartbeats 8000000
set_option maxRecDepth 10000
namespace Go.Proofs.YthjfgpkjooaahaaGreat.VM
open Go Go.RowKit Go.Proofs
theorem nil0_sim {n : Nat} {f g : Nat → Nat → T} : (T.s n 0 f).sim (T.s n 0 g) := ⟨_, rfl, fun k c hk _ => absurd hk (by omega)⟩
theorem l14None_con (u : DUnix) (hw : Mk.wt u ≤ 1048576) : Con Tryz.prog 142 [.g [.v (iv u.Next), .v (iv u.Tick), .h base [], .h (base + 1) [], .h (base + 2) [], .h (base + 3) [], .h (base + 4) [], .h (base + 5) [], .h (base + 6) []]] [.rt base .ro (tr u.Progs), .rt (base + 1) .ro (tr u.Procs), .rt (base + 2) .ro (tr u.Opens), .rt (base + 3) .ro (tr u.Pipes), .rt (base + 4) .ro (tr u.Files), .rt (base + 5) .ro (tr u.Ready), .rt (base + 6) .ro (tr u.Out)] (Ret (.g [.v (iv (procD u 0).Next), .v (iv (procD u 0).Tick), .h 0 [], .h 1 [], .h 2 [], .h 3 [], .h 4 [], .h 5 [], .h 6 [], .v (.bool (procD u 0).Ready.Used), .h 7 [], .v (iv (procD u 0).Ready.Head), .v (iv (procD u 0).Ready.Len), .h 8 []]) [(0, .row, tr (procD u 0).Progs), (1, .row, tr (procD u 0).Slots), (2, .row, tr (procD u 0).Ram), (3, .row, tr (procD u 0).Map), (4, .row, tr (procD u 0).Opens), (5, .row, tr (procD u 0).Pipes), (6, .row, tr (procD u 0).Files), (7, .row, tr (procD u 0).Ready.Buf), (8, .row, tr (procD u 0).Out)]) := by
 refine ob Tryz.func142 Tryz.ntmps142 ?_
 have hwu : Mk.wt u.Progs + Mk.wt u.Procs + Mk.wt u.Opens + Mk.wt u.Pipes + Mk.wt u.Files + Mk.wt u.Ready + Mk.wt u.Out ≤ 1048576 := hw
 have hw2 := wt_ints u.Out
 refine go [.R,.B,.N,.A,.Z] (k := ?_)
 refine AW.seq ?_
 refine go [.D [0, 1, 2, 3, 4, 5, 12, 14, 15, 17],.t 0,.f,.N,.t 1,.l,.t 2,.f,.t 3,.l,.N,.t 4,.f,.t 5,.l,.t 14,.f,.N,.t 15,.l] (k := ?_)
 refine AWA.flag 14 14 (.h 14 []) .row (tr noneD.Map) rfl rfl (fun x8 e8 => ?_)
 refine AWA.flag 15 15 (.h 15 []) .row (tr noneD.Opens) rfl rfl (fun x9 e9 => ?_)
 refine AWA.flag 16 16 (.h 16 []) .row (tr noneD.Files) rfl rfl (fun x10 e10 => ?_)
 refine AWA.flag 19 19 (.h 19 []) .row (T.s 1 0 fun _ _ => T.j) rfl rfl (fun x13 e13 => ?_)
 refine AWA.flag 3 3 (.p 3 [] 14 0 0) .box ((T.s 14 1 fun _ c => [T.v (iv 0), T.v (iv 0), T.s 1 0 fun _ _ => T.j, T.s 11 0 fun _ _ => T.j, T.s 1 0 fun _ _ => T.j, T.s 1 0 fun _ _ => T.j, T.s 5 0 fun _ _ => T.j, T.s 4 0 fun _ _ => T.j, T.s 2 0 fun _ _ => T.j, T.v (.bool false), T.s 1 0 fun _ _ => T.j, T.v (iv 0), T.v (iv 0), T.s 1 0 fun _ _ => T.j].getD c T.j)) rfl rfl (fun x18 e18 => ?_)
 refine go [.N] (k := ?_)
 refine AWA.setS #[true, true, true, true, true, true, false, false, x8, x9, x10, false, false, x13, true, true, false, false, x18, false] (by rw [e8, e9, e10, e13, e18]; decide +kernel) ?_
 clear e8 e9 e10 e13 e18
 refine AWA.setS #[true, true, true, true, true, true, false, false, x8, x9, x10, false, false, x13, true, true, false, false, x18, false] rfl ?_
 revert x8 x9 x10 x13 x18
 refine free5 ?_
 intro x8 x9 x10 x13 x18 h8 h9 h10 h13 h18
 refine AWA.anyF [8, 9, 10, 13, 18, 6] rfl (amg5 (fun x8 x9 x10 x13 x18 => #[true, true, true, true, true, true, false, false, x8, x9, x10, false, false, x13, true, true, false, false, x18, false]) _ x8 x9 x10 x13 x18 (by decide +kernel)) ⟨fun f8 => ?_, fun f9 => ?_, fun f10 => ?_, fun f13 => ?_, fun f18 => ?_, fun fj => ?_, trivial⟩
 ·obtain rfl : x8 = false := f8
  refine AWA.arm 8 [0, 1, 2, 3, 4, 5, 14, 15] [] rfl rfl rfl (by decide +kernel) (by decide +kernel) (by decide +kernel) (Stp.makeSlice rfl (by decide) (by decide) rfl rfl (by omega) (by omega) (by omega)) ?_
  refine go [.N,.g,.f,.g,.l,.g,.f,.N,.g,.l,.g,.f,.g,.l,.N,.g,.f,.g,.l,.N] (k := ?_)
  refine AWA.rep 14 (tr noneD.Map) rfl (simb_rep 16) ?_
  refine go [.N] (k := ?_)
  exact fu (h8 rfl)
 ·obtain rfl : x9 = false := f9
  refine AWA.arm 9 [0, 1, 2, 3, 4, 5, 14, 15] [] rfl rfl rfl (by decide +kernel) (by decide +kernel) (by decide +kernel) (Stp.makeSlice rfl (by decide) (by decide) rfl rfl (by omega) (by omega) (by omega)) ?_
  refine go [.N,.g,.f,.g,.l,.g,.f,.N,.g,.l,.g,.f,.g,.l,.N,.g,.f,.g,.l,.N] (k := ?_)
  refine AWA.rep 15 (tr noneD.Opens) rfl (rep_sim noOpenD _ 8 (fun c hc => match c, hc with | 0, _ => tsr | 1, _ => tsr | 2, _ => tsr | 3, _ => tsr | 4, _ => tsr | c + 5, hc => absurd hc (by simp only [En.n]; omega))) ?_
  refine go [.N] (k := ?_)
  exact fu (h9 rfl)
 ·obtain rfl : x10 = false := f10
  refine AWA.arm 10 [0, 1, 2, 3, 4, 5, 14, 15] [] rfl rfl rfl (by decide +kernel) (by decide +kernel) (by decide +kernel) (Stp.makeSlice rfl (by decide) (by decide) rfl rfl (by omega) (by omega) (by omega)) ?_
  refine go [.N,.g,.f,.g,.l,.g,.f,.N,.g,.l,.g,.f,.g,.l,.N,.g,.f,.g,.l,.N] (k := ?_)
  refine AWA.rep 16 (tr noneD.Files) rfl (rep_sim noFileD _ 6 (fun c hc => match c, hc with | 0, _ => tsr | 1, _ => sim_nil | c + 2, hc => absurd hc (by simp only [En.n]; omega))) ?_
  refine go [.N] (k := ?_)
  exact fu (h10 rfl)
 ·obtain rfl : x13 = false := f13
  refine AWA.arm 13 [0, 1, 2, 3, 4, 5, 14, 15] [] rfl rfl rfl (by decide +kernel) (by decide +kernel) (by decide +kernel) sS ?_
  refine go [.N,.g,.f,.g,.l,.g,.f,.N,.g,.l,.g,.f,.g,.l,.N,.g,.f,.g,.l,.N] (k := ?_)
  refine AWA.rep 19 (T.s 1 0 fun _ _ => T.j) rfl nil0_sim ?_
  refine go [.N] (k := ?_)
  exact fu (h13 rfl)
 ·obtain rfl : x18 = false := f18
  refine AWA.arm 18 [0, 1, 2, 3, 4, 5, 14, 15] [] rfl rfl rfl (by decide +kernel) (by decide +kernel) (by decide +kernel) sA ?_
  refine go [.N,.g,.f,.g,.l,.g,.f,.N,.g,.l,.g,.f,.g,.l,.N,.g,.f,.g,.l,.N] (k := ?_)
  exact fu (h18 rfl)
 clear fj h8 h9 h10 h13 h18
 refine AWA.arm 6 [0, 1, 2, 3, 14, 15] [5, 4] rfl rfl rfl (by decide +kernel) (by decide +kernel) (by decide +kernel) (Stp.callR rfl (by decide) Tryz.call178 rfl rfl (l6CopyProgs_con _ (by omega)) (nodup_of rfl) rfl rfl) ?_
 refine go [.N,.g,.f,.g,.l,.g,.f,.N,.g,.l,.g,.f,.g,.l,.N] (k := ?_)
 refine AWA.setS #[true, true, true, true, true, true, true, false, x8, x9, x10, false, false, x13, true, true, false, false, x18, false] rfl ?_
 revert x8 x9 x10 x13 x18
 refine free5 ?_
 intro x8 x9 x10 x13 x18 h8 h9 h10 h13 h18
 refine AWA.anyF [8, 9, 10, 13, 18, 7] rfl (amg5 (fun x8 x9 x10 x13 x18 => #[true, true, true, true, true, true, true, false, x8, x9, x10, false, false, x13, true, true, false, false, x18, false]) _ x8 x9 x10 x13 x18 (by decide +kernel)) ⟨fun f8 => ?_, fun f9 => ?_, fun f10 => ?_, fun f13 => ?_, fun f18 => ?_, fun fj => ?_, trivial⟩
 ·obtain rfl : x8 = false := f8
  refine AWA.arm 8 [0, 1, 2, 3, 14, 15] [] rfl rfl rfl (by decide +kernel) (by decide +kernel) (by decide +kernel) (Stp.makeSlice rfl (by decide) (by decide) rfl rfl (by omega) (by omega) (by omega)) ?_
  refine go [.N,.g,.f,.g,.l,.g,.f,.N,.g,.l,.g,.f,.g,.l,.N] (k := ?_)
  refine AWA.rep 14 (tr noneD.Map) rfl (simb_rep 16) ?_
  refine go [.N] (k := ?_)
  exact fu (h8 rfl)
 ·obtain rfl : x9 = false := f9
  refine AWA.arm 9 [0, 1, 2, 3, 14, 15] [] rfl rfl rfl (by decide +kernel) (by decide +kernel) (by decide +kernel) (Stp.makeSlice rfl (by decide) (by decide) rfl rfl (by omega) (by omega) (by omega)) ?_
  refine go [.N,.g,.f,.g,.l,.g,.f,.N,.g,.l,.g,.f,.g,.l,.N] (k := ?_)
  refine AWA.rep 15 (tr noneD.Opens) rfl (rep_sim noOpenD _ 8 (fun c hc => match c, hc with | 0, _ => tsr | 1, _ => tsr | 2, _ => tsr | 3, _ => tsr | 4, _ => tsr | c + 5, hc => absurd hc (by simp only [En.n]; omega))) ?_
  refine go [.N] (k := ?_)
  exact fu (h9 rfl)
 ·obtain rfl : x10 = false := f10
  refine AWA.arm 10 [0, 1, 2, 3, 14, 15] [] rfl rfl rfl (by decide +kernel) (by decide +kernel) (by decide +kernel) (Stp.makeSlice rfl (by decide) (by decide) rfl rfl (by omega) (by omega) (by omega)) ?_
  refine go [.N,.g,.f,.g,.l,.g,.f,.N,.g,.l,.g,.f,.g,.l,.N] (k := ?_)
  refine AWA.rep 16 (tr noneD.Files) rfl (rep_sim noFileD _ 6 (fun c hc => match c, hc with | 0, _ => tsr | 1, _ => sim_nil | c + 2, hc => absurd hc (by simp only [En.n]; omega))) ?_
  refine go [.N] (k := ?_)
  exact fu (h10 rfl)
 ·obtain rfl : x13 = false := f13
  refine AWA.arm 13 [0, 1, 2, 3, 14, 15] [] rfl rfl rfl (by decide +kernel) (by decide +kernel) (by decide +kernel) sS ?_
  refine go [.N,.g,.f,.g,.l,.g,.f,.N,.g,.l,.g,.f,.g,.l,.N] (k := ?_)
  refine AWA.rep 19 (T.s 1 0 fun _ _ => T.j) rfl nil0_sim ?_
  refine go [.N] (k := ?_)
  exact fu (h13 rfl)
 ·obtain rfl : x18 = false := f18
  refine AWA.arm 18 [0, 1, 2, 3, 14, 15] [] rfl rfl rfl (by decide +kernel) (by decide +kernel) (by decide +kernel) sA ?_
  refine go [.N,.g,.f,.g,.l,.g,.f,.N,.g,.l,.g,.f,.g,.l,.N] (k := ?_)
  exact fu (h18 rfl)
 clear fj h8 h9 h10 h13 h18
 refine AWA.arm 7 [0, 1, 2, 3, 14, 15] [6, 5, 4] rfl rfl rfl (by decide +kernel) (by decide +kernel) (by decide +kernel) (Stp.callR rfl (by decide) Tryz.call145 rfl rfl (l6ZerosN_con 64 (by omega)) (nodup_of rfl) rfl rfl) ?_
 refine go [.N,.g,.f,.g,.l,.g,.f,.N,.g,.l,.g,.f,.g,.l,.N] (k := ?_)
 refine AWA.setS #[true, true, true, true, true, true, true, true, x8, x9, x10, false, false, x13, true, true, false, false, x18, false] rfl ?_
 revert x8 x9 x10 x13 x18
 refine free5 ?_
 intro x8 x9 x10 x13 x18 h8 h9 h10 h13 h18
 refine AWA.anyF [8, 9, 10, 13, 18, 11] rfl (amg5 (fun x8 x9 x10 x13 x18 => #[true, true, true, true, true, true, true, true, x8, x9, x10, false, false, x13, true, true, false, false, x18, false]) _ x8 x9 x10 x13 x18 (by decide +kernel)) ⟨fun f8 => ?_, fun f9 => ?_, fun f10 => ?_, fun f13 => ?_, fun f18 => ?_, fun fj => ?_, trivial⟩
 ·obtain rfl : x8 = false := f8
  refine AWA.arm 8 [0, 1, 2, 3, 14, 15] [] rfl rfl rfl (by decide +kernel) (by decide +kernel) (by decide +kernel) (Stp.makeSlice rfl (by decide) (by decide) rfl rfl (by omega) (by omega) (by omega)) ?_
  refine go [.N,.g,.f,.g,.l,.g,.f,.N,.g,.l,.g,.f,.g,.l,.N] (k := ?_)
  refine AWA.rep 14 (tr noneD.Map) rfl (simb_rep 16) ?_
  refine go [.N] (k := ?_)
  exact fu (h8 rfl)
 ·obtain rfl : x9 = false := f9
  refine AWA.arm 9 [0, 1, 2, 3, 14, 15] [] rfl rfl rfl (by decide +kernel) (by decide +kernel) (by decide +kernel) (Stp.makeSlice rfl (by decide) (by decide) rfl rfl (by omega) (by omega) (by omega)) ?_
  refine go [.N,.g,.f,.g,.l,.g,.f,.N,.g,.l,.g,.f,.g,.l,.N] (k := ?_)
  refine AWA.rep 15 (tr noneD.Opens) rfl (rep_sim noOpenD _ 8 (fun c hc => match c, hc with | 0, _ => tsr | 1, _ => tsr | 2, _ => tsr | 3, _ => tsr | 4, _ => tsr | c + 5, hc => absurd hc (by simp only [En.n]; omega))) ?_
  refine go [.N] (k := ?_)
  exact fu (h9 rfl)
 ·obtain rfl : x10 = false := f10
  refine AWA.arm 10 [0, 1, 2, 3, 14, 15] [] rfl rfl rfl (by decide +kernel) (by decide +kernel) (by decide +kernel) (Stp.makeSlice rfl (by decide) (by decide) rfl rfl (by omega) (by omega) (by omega)) ?_
  refine go [.N,.g,.f,.g,.l,.g,.f,.N,.g,.l,.g,.f,.g,.l,.N] (k := ?_)
  refine AWA.rep 16 (tr noneD.Files) rfl (rep_sim noFileD _ 6 (fun c hc => match c, hc with | 0, _ => tsr | 1, _ => sim_nil | c + 2, hc => absurd hc (by simp only [En.n]; omega))) ?_
  refine go [.N] (k := ?_)
  exact fu (h10 rfl)
 ·obtain rfl : x13 = false := f13
  refine AWA.arm 13 [0, 1, 2, 3, 14, 15] [] rfl rfl rfl (by decide +kernel) (by decide +kernel) (by decide +kernel) sS ?_
  refine go [.N,.g,.f,.g,.l,.g,.f,.N,.g,.l,.g,.f,.g,.l,.N] (k := ?_)
  refine AWA.rep 19 (T.s 1 0 fun _ _ => T.j) rfl nil0_sim ?_
  refine go [.N] (k := ?_)
  exact fu (h13 rfl)
 ·obtain rfl : x18 = false := f18
  refine AWA.arm 18 [0, 1, 2, 3, 14, 15] [] rfl rfl rfl (by decide +kernel) (by decide +kernel) (by decide +kernel) sA ?_
  refine go [.N,.g,.f,.g,.l,.g,.f,.N,.g,.l,.g,.f,.g,.l,.N] (k := ?_)
  exact fu (h18 rfl)
 clear fj h8 h9 h10 h13 h18
 refine AWA.arm 11 [0, 1, 2, 3, 14, 15] [7, 6, 5, 4] rfl rfl rfl (by decide +kernel) (by decide +kernel) (by decide +kernel) (Stp.callR rfl (by decide) Tryz.call145 rfl rfl (l6ZerosN_con 6 (by omega)) (nodup_of rfl) rfl rfl) ?_
 refine go [.N,.g,.f,.g,.l,.g,.f,.N,.g,.l,.g,.f,.g,.l,.N] (k := ?_)
 refine AWA.setS #[true, true, true, true, true, true, true, true, x8, x9, x10, true, false, x13, true, true, false, false, x18, false] rfl ?_
 refine AWA.take 12 rfl rfl rfl (rdk5 (fun x8 x9 x10 x13 x18 => #[true, true, true, true, true, true, true, true, x8, x9, x10, true, false, x13, true, true, false, false, x18, false]) _ x8 x9 x10 x13 x18 (by decide +kernel)) (.on rfl rfl (Qt.build rfl)) ?_
 refine go [.N] (k := ?_)
 refine AWA.setS #[true, true, true, true, true, true, true, true, x8, x9, x10, true, true, x13, true, true, false, false, x18, false] rfl ?_
 revert x8 x9 x10 x13 x18
 refine free5 ?_
 intro x8 x9 x10 x13 x18 h8 h9 h10 h13 h18
 refine AWA.need (x13) (fun hn => ?_) (fun hn => ?_)
 ·refine AWA.anyF [8, 9, 10, 13, 18] rfl (amongN hn (chk5 (p := fun x8 x9 x10 x13 x18 => (x13) || amongB _ #[true, true, true, true, true, true, true, true, x8, x9, x10, true, true, x13, true, true, false, false, x18, false] [8, 9, 10, 13, 18]) (by decide +kernel) x8 x9 x10 x13 x18)) ⟨fun f8 => ?_, fun f9 => ?_, fun f10 => ?_, fun f13 => ?_, fun f18 => ?_, trivial⟩
  ·obtain rfl : x8 = false := f8
   refine AWA.arm 8 [0, 1, 2, 3, 12, 14, 15] [] rfl rfl rfl (by decide +kernel) (by decide +kernel) (by decide +kernel) (Stp.makeSlice rfl (by decide) (by decide) rfl rfl (by omega) (by omega) (by omega)) ?_
   refine go [.N,.g,.f,.g,.l,.g,.f,.N,.g,.l,.g,.u,.g,.f,.N,.g,.l,.N] (k := ?_)
   refine AWA.rep 14 (tr noneD.Map) rfl (simb_rep 16) ?_
   refine go [.N] (k := ?_)
   exact fu (h8 rfl)
  ·obtain rfl : x9 = false := f9
   refine AWA.arm 9 [0, 1, 2, 3, 12, 14, 15] [] rfl rfl rfl (by decide +kernel) (by decide +kernel) (by decide +kernel) (Stp.makeSlice rfl (by decide) (by decide) rfl rfl (by omega) (by omega) (by omega)) ?_
   refine go [.N,.g,.f,.g,.l,.g,.f,.N,.g,.l,.g,.u,.g,.f,.N,.g,.l,.N] (k := ?_)
   refine AWA.rep 15 (tr noneD.Opens) rfl (rep_sim noOpenD _ 8 (fun c hc => match c, hc with | 0, _ => tsr | 1, _ => tsr | 2, _ => tsr | 3, _ => tsr | 4, _ => tsr | c + 5, hc => absurd hc (by simp only [En.n]; omega))) ?_
   refine go [.N] (k := ?_)
   exact fu (h9 rfl)
  ·obtain rfl : x10 = false := f10
   refine AWA.arm 10 [0, 1, 2, 3, 12, 14, 15] [] rfl rfl rfl (by decide +kernel) (by decide +kernel) (by decide +kernel) (Stp.makeSlice rfl (by decide) (by decide) rfl rfl (by omega) (by omega) (by omega)) ?_
   refine go [.N,.g,.f,.g,.l,.g,.f,.N,.g,.l,.g,.u,.g,.f,.N,.g,.l,.N] (k := ?_)
   refine AWA.rep 16 (tr noneD.Files) rfl (rep_sim noFileD _ 6 (fun c hc => match c, hc with | 0, _ => tsr | 1, _ => sim_nil | c + 2, hc => absurd hc (by simp only [En.n]; omega))) ?_
   refine go [.N] (k := ?_)
   exact fu (h10 rfl)
  ·obtain rfl : x13 = false := f13
   refine AWA.arm 13 [0, 1, 2, 3, 12, 14, 15] [] rfl rfl rfl (by decide +kernel) (by decide +kernel) (by decide +kernel) sS ?_
   refine go [.N,.g,.f,.g,.l,.g,.f,.N,.g,.l,.g,.u,.g,.f,.N,.g,.l,.N] (k := ?_)
   refine AWA.rep 19 (T.s 1 0 fun _ _ => T.j) rfl nil0_sim ?_
   refine go [.N] (k := ?_)
   exact fu (h13 rfl)
  ·obtain rfl : x18 = false := f18
   refine AWA.arm 18 [0, 1, 2, 3, 12, 14, 15] [] rfl rfl rfl (by decide +kernel) (by decide +kernel) (by decide +kernel) sA ?_
   refine go [.N,.g,.f,.g,.l,.g,.f,.N,.g,.l,.g,.u,.g,.f,.N,.g,.l,.N] (k := ?_)
   exact fu (h18 rfl)
 obtain rfl := hn
 clear h8 h9 h10 h13 h18
 refine go [.N] (k := ?_)
 refine AWA.setS #[true, true, true, true, true, true, true, true, x8, x9, x10, true, true, true, true, true, false, false, x18, false] rfl ?_
 revert x8 x9 x10 x18
 refine free4 ?_
 intro x8 x9 x10 x18 h8 h9 h10 h18
 refine AWA.anyF [8, 9, 10, 18, 16] rfl (amg4 (fun x8 x9 x10 x18 => #[true, true, true, true, true, true, true, true, x8, x9, x10, true, true, true, true, true, false, false, x18, false]) _ x8 x9 x10 x18 (by decide +kernel)) ⟨fun f8 => ?_, fun f9 => ?_, fun f10 => ?_, fun f18 => ?_, fun fj => ?_, trivial⟩
 ·obtain rfl : x8 = false := f8
  refine AWA.arm 8 [0, 1, 2, 3, 12, 14, 15] [] rfl rfl rfl (by decide +kernel) (by decide +kernel) (by decide +kernel) (Stp.makeSlice rfl (by decide) (by decide) rfl rfl (by omega) (by omega) (by omega)) ?_
  refine go [.N,.g,.f,.g,.l,.g,.f,.N,.g,.l,.g,.u,.g,.f,.N,.g,.l,.N] (k := ?_)
  refine AWA.rep 14 (tr noneD.Map) rfl (simb_rep 16) ?_
  refine go [.N] (k := ?_)
  exact fu (h8 rfl)
 ·obtain rfl : x9 = false := f9
  refine AWA.arm 9 [0, 1, 2, 3, 12, 14, 15] [] rfl rfl rfl (by decide +kernel) (by decide +kernel) (by decide +kernel) (Stp.makeSlice rfl (by decide) (by decide) rfl rfl (by omega) (by omega) (by omega)) ?_
  refine go [.N,.g,.f,.g,.l,.g,.f,.N,.g,.l,.g,.u,.g,.f,.N,.g,.l,.N] (k := ?_)
  refine AWA.rep 15 (tr noneD.Opens) rfl (rep_sim noOpenD _ 8 (fun c hc => match c, hc with | 0, _ => tsr | 1, _ => tsr | 2, _ => tsr | 3, _ => tsr | 4, _ => tsr | c + 5, hc => absurd hc (by simp only [En.n]; omega))) ?_
  refine go [.N] (k := ?_)
  exact fu (h9 rfl)
 ·obtain rfl : x10 = false := f10
  refine AWA.arm 10 [0, 1, 2, 3, 12, 14, 15] [] rfl rfl rfl (by decide +kernel) (by decide +kernel) (by decide +kernel) (Stp.makeSlice rfl (by decide) (by decide) rfl rfl (by omega) (by omega) (by omega)) ?_
  refine go [.N,.g,.f,.g,.l,.g,.f,.N,.g,.l,.g,.u,.g,.f,.N,.g,.l,.N] (k := ?_)
  refine AWA.rep 16 (tr noneD.Files) rfl (rep_sim noFileD _ 6 (fun c hc => match c, hc with | 0, _ => tsr | 1, _ => sim_nil | c + 2, hc => absurd hc (by simp only [En.n]; omega))) ?_
  refine go [.N] (k := ?_)
  exact fu (h10 rfl)
 ·obtain rfl : x18 = false := f18
  refine AWA.arm 18 [0, 1, 2, 3, 12, 14, 15] [] rfl rfl rfl (by decide +kernel) (by decide +kernel) (by decide +kernel) sA ?_
  refine go [.N,.g,.f,.g,.l,.g,.f,.N,.g,.l,.g,.u,.g,.f,.N,.g,.l,.N] (k := ?_)
  exact fu (h18 rfl)
 clear fj h8 h9 h10 h18
 refine AWA.arm 16 [0, 1, 2, 3, 12] [15, 13, 11, 14, 7, 6, 5, 4] rfl rfl rfl (by decide +kernel) (by decide +kernel) (by decide +kernel) (by first | exact Stp.appendC rfl (by decide) (by decide) rfl rfl (by omega) | exact Stp.appendM rfl (by decide) (by decide) rfl rfl rfl (by omega)) ?_
 refine go [.N,.g,.f,.g,.l,.g,.f,.N,.g,.l,.g,.u,.N] (k := ?_)
 refine AWA.rep 22 (tr u.Out) rfl (app_nil (α := Int)) ?_
 refine go [.N] (k := ?_)
 refine AWA.setS #[true, true, true, true, true, true, true, true, x8, x9, x10, true, true, true, true, true, true, false, x18, false] rfl ?_
 revert x8 x9 x10 x18
 refine free4 ?_
 intro x8 x9 x10 x18 h8 h9 h10 h18
 refine AWA.need (x8 && x9 && x10) (fun hn => ?_) (fun hn => ?_)
 ·refine AWA.anyF [8, 9, 10, 18] rfl (amongN hn (chk4 (p := fun x8 x9 x10 x18 => (x8 && x9 && x10) || amongB _ #[true, true, true, true, true, true, true, true, x8, x9, x10, true, true, true, true, true, true, false, x18, false] [8, 9, 10, 18]) (by decide +kernel) x8 x9 x10 x18)) ⟨fun f8 => ?_, fun f9 => ?_, fun f10 => ?_, fun f18 => ?_, trivial⟩
  ·obtain rfl : x8 = false := f8
   refine AWA.arm 8 [0, 1, 2, 3, 12] [] rfl rfl rfl (by decide +kernel) (by decide +kernel) (by decide +kernel) (Stp.makeSlice rfl (by decide) (by decide) rfl rfl (by omega) (by omega) (by omega)) ?_
   refine go [.N,.g,.f,.g,.l,.g,.f,.N,.g,.l,.g,.u,.N] (k := ?_)
   refine AWA.rep 14 (tr noneD.Map) rfl (simb_rep 16) ?_
   refine go [.N] (k := ?_)
   exact fu (h8 rfl)
  ·obtain rfl : x9 = false := f9
   refine AWA.arm 9 [0, 1, 2, 3, 12] [] rfl rfl rfl (by decide +kernel) (by decide +kernel) (by decide +kernel) (Stp.makeSlice rfl (by decide) (by decide) rfl rfl (by omega) (by omega) (by omega)) ?_
   refine go [.N,.g,.f,.g,.l,.g,.f,.N,.g,.l,.g,.u,.N] (k := ?_)
   refine AWA.rep 15 (tr noneD.Opens) rfl (rep_sim noOpenD _ 8 (fun c hc => match c, hc with | 0, _ => tsr | 1, _ => tsr | 2, _ => tsr | 3, _ => tsr | 4, _ => tsr | c + 5, hc => absurd hc (by simp only [En.n]; omega))) ?_
   refine go [.N] (k := ?_)
   exact fu (h9 rfl)
  ·obtain rfl : x10 = false := f10
   refine AWA.arm 10 [0, 1, 2, 3, 12] [] rfl rfl rfl (by decide +kernel) (by decide +kernel) (by decide +kernel) (Stp.makeSlice rfl (by decide) (by decide) rfl rfl (by omega) (by omega) (by omega)) ?_
   refine go [.N,.g,.f,.g,.l,.g,.f,.N,.g,.l,.g,.u,.N] (k := ?_)
   refine AWA.rep 16 (tr noneD.Files) rfl (rep_sim noFileD _ 6 (fun c hc => match c, hc with | 0, _ => tsr | 1, _ => sim_nil | c + 2, hc => absurd hc (by simp only [En.n]; omega))) ?_
   refine go [.N] (k := ?_)
   exact fu (h10 rfl)
  ·obtain rfl : x18 = false := f18
   refine AWA.arm 18 [0, 1, 2, 3, 12] [] rfl rfl rfl (by decide +kernel) (by decide +kernel) (by decide +kernel) sA ?_
   refine go [.N,.g,.f,.g,.l,.g,.f,.N,.g,.l,.g,.u,.N] (k := ?_)
   exact fu (h18 rfl)
 simp only [Bool.and_eq_true] at hn
 obtain ⟨⟨rfl, rfl⟩, rfl⟩ := hn
 clear h8 h9 h10 h18
 refine go [.N] (k := ?_)
 refine AWA.setS #[true, true, true, true, true, true, true, true, true, true, true, true, true, true, true, true, true, false, x18, false] rfl ?_
 refine AWA.take 17 rfl rfl rfl (rdk1 (fun x18 => #[true, true, true, true, true, true, true, true, true, true, true, true, true, true, true, true, true, false, x18, false]) _ x18 (by decide +kernel)) (.on rfl rfl bd2) ?_
 refine go [.N] (k := ?_)
 refine AWA.setS #[true, true, true, true, true, true, true, true, true, true, true, true, true, true, true, true, true, true, x18, false] rfl ?_
 revert x18
 refine free1 ?_
 intro x18 h18
 refine AWA.need (x18) (fun hn => ?_) (fun hn => ?_)
 ·refine AWA.anyF [18] rfl (amongN hn (chk1 (p := fun x18 => (x18) || amongB _ #[true, true, true, true, true, true, true, true, true, true, true, true, true, true, true, true, true, true, x18, false] [18]) (by decide +kernel) x18)) ⟨fun f18 => ?_, trivial⟩
  ·obtain rfl : x18 = false := f18
   refine AWA.arm 18 [0, 1, 2, 3, 12, 17] [] rfl rfl rfl (by decide +kernel) (by decide +kernel) (by decide +kernel) sA ?_
   refine go [.N,.g,.f,.g,.l,.g,.f,.N,.g,.l,.g,.u] (k := ?_)
   refine ae rfl bd2 ?_
   refine go [.N] (k := ?_)
   exact fu (h18 rfl)
 obtain rfl := hn
 clear h18
 refine go [.N,.o 19 [],.s,.N,.Z,.R2,.a,.Z] (k := ?_)
 refine AW.block ?_
 refine AW.weak (Weak.hoist 3 3 32 rfl (by decide) rfl rfl rfl) ?_
 refine nw ?_
 refine AW.weak (Weak.hoist 3 7 43 rfl (by decide) rfl rfl rfl) ?_
 refine nw ?_
 refine AW.weak (L' := [.sl 4 (.v (iv (0 : Nat))), .sl 3 (.p 3 [] 14 0 0), .sl 2 (.p 2 [] 14 0 0), .rt 3 .box (T.s 14 1 fun _ c => [T.v (iv u.Next), T.v (iv u.Tick), T.j, T.j, T.j, T.j, T.j, T.j, T.j, T.v (.bool false), T.j, T.v (iv 0), T.v (iv 0), T.j].getD c T.j), .rt 2 .box (T.s 14 1 fun _ c => [T.v (iv 0), T.v (iv 0), T.s 1 0 fun _ _ => T.j, T.s 11 0 fun _ _ => T.j, T.s 1 0 fun _ _ => T.j, T.s 1 0 fun _ _ => T.j, T.s 5 0 fun _ _ => T.j, T.s 4 0 fun _ _ => T.j, T.s 2 0 fun _ _ => T.j, T.v (.bool false), T.s 1 0 fun _ _ => T.j, T.v (iv 0), T.v (iv 0), T.s 1 0 fun _ _ => T.j].getD c T.j), .al 3 2 (.h 12 []), .al 3 3 (.h 32 []), .al 3 4 (.h 13 []), .al 3 5 (.h 14 []), .al 3 6 (.h 15 []), .al 3 7 (.h 43 []), .al 3 8 (.h 16 []), .al 3 10 (.h 17 []), .al 3 13 (.h 22 []), .rt 12 .row (tr u.Progs), .rt 32 .row (tr (List.replicate (0 : Nat) noSlotD)), .rt 13 .row (tr noneD.Ram), .rt 14 .row (tr noneD.Map), .rt 15 .row (tr noneD.Opens), .rt 43 .row (tr (List.replicate 0 (ringD false 4 [] 0))), .rt 16 .row (tr noneD.Files), .rt 17 .row (tr noneD.Ready.Buf), .rt 22 .row (tr u.Out)]) (Weak.sim ⟨rfl, rfl, rfl, ⟨_, rfl, (scA_sim (n := 14) (fun c hc => match c, hc with | 0, _ => tsr | 1, _ => tsr | 2, _ => tsr | 3, _ => tsr | 4, _ => tsr | 5, _ => tsr | 6, _ => tsr | 7, _ => tsr | 8, _ => tsr | 9, _ => tsr | 10, _ => tsr | 11, _ => tsr | 12, _ => tsr | 13, _ => tsr | c + 14, hc => absurd hc (by omega)))⟩, ⟨_, rfl, (scA_sim (n := 14) (fun c hc => match c, hc with | 0, _ => tsr | 1, _ => tsr | 2, _ => tsr | 3, _ => tsr | 4, _ => tsr | 5, _ => tsr | 6, _ => tsr | 7, _ => tsr | 8, _ => tsr | 9, _ => tsr | 10, _ => tsr | 11, _ => tsr | 12, _ => tsr | 13, _ => tsr | c + 14, hc => absurd hc (by omega)))⟩, ⟨rfl, rfl⟩, ⟨rfl, rfl⟩, ⟨rfl, rfl⟩, ⟨rfl, rfl⟩, ⟨rfl, rfl⟩, ⟨rfl, rfl⟩, ⟨rfl, rfl⟩, ⟨rfl, rfl⟩, ⟨rfl, rfl⟩, Rf rfl, ⟨_, rfl, sim_nil⟩, Rf rfl, Rf rfl, Rf rfl, ⟨_, rfl, sim_nil⟩, Rf rfl, Rf rfl, Rf rfl, trivial⟩ rfl rfl) ?_
 refine AW.loop (fun i : KInv 6 => [.sl 4 (.v (iv i.k)), .sl 3 (.p 3 [] 14 0 0), .sl 2 (.p 2 [] 14 0 0), .rt 3 .box (T.s 14 1 fun _ c => [T.v (iv u.Next), T.v (iv u.Tick), T.j, T.j, T.j, T.j, T.j, T.j, T.j, T.v (.bool false), T.j, T.v (iv 0), T.v (iv 0), T.j].getD c T.j), .rt 2 .box (T.s 14 1 fun _ c => [T.v (iv 0), T.v (iv 0), T.s 1 0 fun _ _ => T.j, T.s 11 0 fun _ _ => T.j, T.s 1 0 fun _ _ => T.j, T.s 1 0 fun _ _ => T.j, T.s 5 0 fun _ _ => T.j, T.s 4 0 fun _ _ => T.j, T.s 2 0 fun _ _ => T.j, T.v (.bool false), T.s 1 0 fun _ _ => T.j, T.v (iv 0), T.v (iv 0), T.s 1 0 fun _ _ => T.j].getD c T.j), .al 3 2 (.h 12 []), .al 3 3 (.h 32 []), .al 3 4 (.h 13 []), .al 3 5 (.h 14 []), .al 3 6 (.h 15 []), .al 3 7 (.h 43 []), .al 3 8 (.h 16 []), .al 3 10 (.h 17 []), .al 3 13 (.h 22 []), .rt 12 .row (tr u.Progs), .rt 32 .row (tr (List.replicate i.k noSlotD)), .rt 13 .row (tr noneD.Ram), .rt 14 .row (tr noneD.Map), .rt 15 .row (tr noneD.Opens), .rt 43 .row (tr (List.replicate 0 (ringD false 4 [] 0))), .rt 16 .row (tr noneD.Files), .rt 17 .row (tr noneD.Ready.Buf), .rt 22 .row (tr u.Out)]) (fun i => 6 - i.k) ⟨0, Nat.zero_le _⟩ ?_
 intro i
 have hle := i.le
 refine go [.R2,.m,.b,.Z] (k := ?_)
 refine cd (fun c1 => ?_) fun c1 => ?_
 ·try simp only [cnd] at c1
  refine jd (AW.seq (AW.block ?_))
  refine go [.D [0, 1, 5],.t 0,.f,.N,.t 1,.l] (k := ?_)
  refine a1 2 [0, 1] [] rfl rfl (Stp.callR rfl (by decide) Tryz.call251 rfl rfl l13NoSlot_con (nodup_of rfl) rfl rfl) ?_
  refine go [.N,.g,.f,.N,.g,.l,.N,.O 3 [0, 1] [2],.S,.N,.g,.f,.N,.g,.l,.N] (k := ?_)
  refine AWA.rep 31 (tr [noSlotD]) rfl (row1_sim (α := DASlot) (fun c hc => match c, hc with | 0, _ => tsr | 1, _ => tsr | 2, _ => tsr | 3, _ => tsr | 4, _ => tsr | 5, _ => tsr | 6, _ => tsr | 7, _ => tsr | 8, _ => tsr | 9, _ => tsr | 10, _ => tsr | c + 11, hc => absurd hc (by simp only [En.n]; omega))) ?_
  refine go [.N] (k := ?_)
  refine a1 4 [] [3, 2, 1, 0] rfl rfl (Stp.appendM rfl (by decide) (by decide) rfl rfl rfl (by simp only [List.length_cons, List.length_nil, List.length_replicate]; omega)) ?_
  refine go [.N] (k := ?_)
  refine AWA.rep 32 (tr (List.replicate (i.k + 1) noSlotD)) rfl (by rw [repS]; exact app_sim (l := List.replicate i.k noSlotD) (l' := [noSlotD]) rfl (fun _ _ _ _ => rfl) (fun _ _ _ _ => rfl)) ?_
  refine go [.N,.t 5,.f,.O 6 [] [5, 4, 3, 2, 1, 0],.s,.N,.Z,.R1,.m,.b,.a,.Z] (k := ?_)
  refine ⟨⟨i.k + 1, by omega⟩, Weak.sim ⟨st1, rfl, rfl, ⟨_, rfl, (scA_sim (n := 14) (fun c hc => match c, hc with | 0, _ => tsr | 1, _ => tsr | 2, _ => tsr | 3, _ => tsr | 4, _ => tsr | 5, _ => tsr | 6, _ => tsr | 7, _ => tsr | 8, _ => tsr | 9, _ => tsr | 10, _ => tsr | 11, _ => tsr | 12, _ => tsr | 13, _ => tsr | c + 14, hc => absurd hc (by omega)))⟩, Rf rfl, ⟨rfl, rfl⟩, ⟨rfl, rfl⟩, ⟨rfl, rfl⟩, ⟨rfl, rfl⟩, ⟨rfl, rfl⟩, ⟨rfl, rfl⟩, ⟨rfl, rfl⟩, ⟨rfl, rfl⟩, ⟨rfl, rfl⟩, Rf rfl, Rf rfl, Rf rfl, Rf rfl, Rf rfl, Rf rfl, Rf rfl, Rf rfl, Rf rfl, trivial⟩ rfl rfl, ?_⟩
  show 6 - (i.k + 1) < 6 - i.k
  omega
 try simp only [cnd] at c1
 refine AW.exit ?_
 dsimp only [thenQ, blockQ, reduceIte]
 refine go [.R2,.a,.Z] (k := ?_)
 refine AW.block ?_
 refine AW.rep 32 (tr (List.replicate 6 noSlotD)) rfl (by rw [show i.k = 6 by omega]; exact tsr) ?_
 refine AW.weak (L' := [.sl 5 (.v (iv (0 : Nat))), .sl 3 (.p 3 [] 14 0 0), .sl 2 (.p 2 [] 14 0 0), .rt 3 .box (T.s 14 1 fun _ c => [T.v (iv u.Next), T.v (iv u.Tick), T.j, T.j, T.j, T.j, T.j, T.j, T.j, T.v (.bool false), T.j, T.v (iv 0), T.v (iv 0), T.j].getD c T.j), .rt 2 .box (T.s 14 1 fun _ c => [T.v (iv 0), T.v (iv 0), T.s 1 0 fun _ _ => T.j, T.s 11 0 fun _ _ => T.j, T.s 1 0 fun _ _ => T.j, T.s 1 0 fun _ _ => T.j, T.s 5 0 fun _ _ => T.j, T.s 4 0 fun _ _ => T.j, T.s 2 0 fun _ _ => T.j, T.v (.bool false), T.s 1 0 fun _ _ => T.j, T.v (iv 0), T.v (iv 0), T.s 1 0 fun _ _ => T.j].getD c T.j), .al 3 2 (.h 12 []), .al 3 3 (.h 32 []), .al 3 4 (.h 13 []), .al 3 5 (.h 14 []), .al 3 6 (.h 15 []), .al 3 7 (.h 43 []), .al 3 8 (.h 16 []), .al 3 10 (.h 17 []), .al 3 13 (.h 22 []), .rt 12 .row (tr u.Progs), .rt 32 .row (tr (List.replicate 6 noSlotD)), .rt 13 .row (tr noneD.Ram), .rt 14 .row (tr noneD.Map), .rt 15 .row (tr noneD.Opens), .rt 43 .row (tr (List.replicate (0 : Nat) (ringD false 4 [] 0))), .rt 16 .row (tr noneD.Files), .rt 17 .row (tr noneD.Ready.Buf), .rt 22 .row (tr u.Out)]) (Weak.sim ⟨rfl, rfl, rfl, ⟨_, rfl, (scA_sim (n := 14) (fun c hc => match c, hc with | 0, _ => tsr | 1, _ => tsr | 2, _ => tsr | 3, _ => tsr | 4, _ => tsr | 5, _ => tsr | 6, _ => tsr | 7, _ => tsr | 8, _ => tsr | 9, _ => tsr | 10, _ => tsr | 11, _ => tsr | 12, _ => tsr | 13, _ => tsr | c + 14, hc => absurd hc (by omega)))⟩, ⟨_, rfl, (scA_sim (n := 14) (fun c hc => match c, hc with | 0, _ => tsr | 1, _ => tsr | 2, _ => tsr | 3, _ => tsr | 4, _ => tsr | 5, _ => tsr | 6, _ => tsr | 7, _ => tsr | 8, _ => tsr | 9, _ => tsr | 10, _ => tsr | 11, _ => tsr | 12, _ => tsr | 13, _ => tsr | c + 14, hc => absurd hc (by omega)))⟩, ⟨rfl, rfl⟩, ⟨rfl, rfl⟩, ⟨rfl, rfl⟩, ⟨rfl, rfl⟩, ⟨rfl, rfl⟩, ⟨rfl, rfl⟩, ⟨rfl, rfl⟩, ⟨rfl, rfl⟩, ⟨rfl, rfl⟩, Rf rfl, Rf rfl, Rf rfl, Rf rfl, Rf rfl, Rf rfl, Rf rfl, Rf rfl, Rf rfl, trivial⟩ rfl rfl) ?_
 refine AW.loop (fun i : KInv 3 => [.sl 5 (.v (iv i.k)), .sl 3 (.p 3 [] 14 0 0), .sl 2 (.p 2 [] 14 0 0), .rt 3 .box (T.s 14 1 fun _ c => [T.v (iv u.Next), T.v (iv u.Tick), T.j, T.j, T.j, T.j, T.j, T.j, T.j, T.v (.bool false), T.j, T.v (iv 0), T.v (iv 0), T.j].getD c T.j), .rt 2 .box (T.s 14 1 fun _ c => [T.v (iv 0), T.v (iv 0), T.s 1 0 fun _ _ => T.j, T.s 11 0 fun _ _ => T.j, T.s 1 0 fun _ _ => T.j, T.s 1 0 fun _ _ => T.j, T.s 5 0 fun _ _ => T.j, T.s 4 0 fun _ _ => T.j, T.s 2 0 fun _ _ => T.j, T.v (.bool false), T.s 1 0 fun _ _ => T.j, T.v (iv 0), T.v (iv 0), T.s 1 0 fun _ _ => T.j].getD c T.j), .al 3 2 (.h 12 []), .al 3 3 (.h 32 []), .al 3 4 (.h 13 []), .al 3 5 (.h 14 []), .al 3 6 (.h 15 []), .al 3 7 (.h 43 []), .al 3 8 (.h 16 []), .al 3 10 (.h 17 []), .al 3 13 (.h 22 []), .rt 12 .row (tr u.Progs), .rt 32 .row (tr (List.replicate 6 noSlotD)), .rt 13 .row (tr noneD.Ram), .rt 14 .row (tr noneD.Map), .rt 15 .row (tr noneD.Opens), .rt 43 .row (tr (List.replicate i.k (ringD false 4 [] 0))), .rt 16 .row (tr noneD.Files), .rt 17 .row (tr noneD.Ready.Buf), .rt 22 .row (tr u.Out)]) (fun i => 3 - i.k) ⟨0, Nat.zero_le _⟩ ?_
 intro i
 have hle := i.le
 refine go [.R2,.m,.N,.b,.Z] (k := ?_)
 refine cd (fun c2 => ?_) fun c2 => ?_
 ·try simp only [cnd] at c2
  refine jd (AW.seq (AW.block ?_))
  refine go [.D [0, 1, 3, 6],.t 0,.f,.t 1,.l,.N] (k := ?_)
  refine a1 2 [0, 1] [] rfl rfl (Stp.callR rfl (by decide) Tryz.call145 rfl rfl (l6ZerosN_con 4 (by omega)) (nodup_of rfl) rfl rfl) ?_
  refine go [.N,.g,.f,.N,.g,.l,.N,.t 3,.u,.O 4 [0, 1] [3, 2],.S,.N,.g,.f,.N,.g,.l,.N] (k := ?_)
  refine AWA.rep 42 (tr [ringD false 4 [] 0]) rfl (row1_sim (α := DARing) (fun c hc => match c, hc with | 0, _ => tsr | 1, _ => tsr | 2, _ => tsr | 3, _ => tsr | c + 4, hc => absurd hc (by simp only [En.n]; omega))) ?_
  refine go [.N] (k := ?_)
  refine a1 5 [] [4, 2, 1, 3, 0] rfl rfl (Stp.appendM rfl (by decide) (by decide) rfl rfl rfl (by simp only [List.length_cons, List.length_nil, List.length_replicate]; omega)) ?_
  refine go [.N] (k := ?_)
  refine AWA.rep 43 (tr (List.replicate (i.k + 1) (ringD false 4 [] 0))) rfl (by rw [repS]; exact app_sim (l := List.replicate i.k (ringD false 4 [] 0)) (l' := [(ringD false 4 [] 0)]) rfl (fun _ _ _ _ => rfl) (fun _ _ _ _ => rfl)) ?_
  refine go [.N,.t 6,.f,.O 7 [] [6, 5, 4, 3, 2, 1, 0],.s,.N,.Z,.R1,.m,.b,.a,.Z] (k := ?_)
  refine ⟨⟨i.k + 1, by omega⟩, Weak.sim ⟨st1, rfl, rfl, ⟨_, rfl, (scA_sim (n := 14) (fun c hc => match c, hc with | 0, _ => tsr | 1, _ => tsr | 2, _ => tsr | 3, _ => tsr | 4, _ => tsr | 5, _ => tsr | 6, _ => tsr | 7, _ => tsr | 8, _ => tsr | 9, _ => tsr | 10, _ => tsr | 11, _ => tsr | 12, _ => tsr | 13, _ => tsr | c + 14, hc => absurd hc (by omega)))⟩, Rf rfl, ⟨rfl, rfl⟩, ⟨rfl, rfl⟩, ⟨rfl, rfl⟩, ⟨rfl, rfl⟩, ⟨rfl, rfl⟩, ⟨rfl, rfl⟩, ⟨rfl, rfl⟩, ⟨rfl, rfl⟩, ⟨rfl, rfl⟩, Rf rfl, Rf rfl, Rf rfl, Rf rfl, Rf rfl, Rf rfl, Rf rfl, Rf rfl, Rf rfl, trivial⟩ rfl rfl, ?_⟩
  show 3 - (i.k + 1) < 3 - i.k
  omega
 try simp only [cnd] at c2
 refine AW.rep 43 (tr (List.replicate 3 (ringD false 4 [] 0))) rfl (by rw [show i.k = 3 by omega]; exact tsr) ?_
 refine AW.exit ?_
 dsimp only [thenQ, blockQ, reduceIte]
 refine go [.R,.G,.N,.s,.Z] (k := ?_)
 refine AW.ret (endQ_ret (.cons (.cellG 2 40 rfl rfl rfl ag40 sz40 (by decide)) .nil) ?_)
 refine ⟨fun i => if i = 0 then 12 else if i = 1 then 32 else if i = 2 then 13 else if i = 3 then 14 else if i = 4 then 15 else if i = 5 then 43 else if i = 6 then 16 else if i = 7 then 17 else 22, rfl, nodup_of rfl, ?_⟩
 intro r hr
 simp only [List.mem_cons, List.not_mem_nil, or_false] at hr
 rcases hr with rfl | rfl | rfl | rfl | rfl | rfl | rfl | rfl | rfl <;> exact ⟨by simp, rootL_mem rfl⟩
end Go.Proofs.YthjfgpkjooaahaaGreat.VM

