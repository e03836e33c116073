/- Contracts. No conditions. -/
import Derived.Test.YthjfgpkjooaahaaGreatCLD
import Derived.Test.YthjfgpkjooaahaaGreatCLT
import Derived.Test.YthjfgpkjooaahaaGreatCLO
import Derived.Test.YthjfgpkjooaahaaGreatCLP
import Derived.Test.YthjfgpkjooaahaaGreatVmD
set_option linter.all false
set_option maxHeartbeats 8000000
set_option maxRecDepth 10000
namespace Go.Proofs.YthjfgpkjooaahaaGreat.VM
open Go Go.RowKit Go.Proofs
theorem rep_sim {α : Type} [En α] (a : α) (zs : List T) (n : Nat) (h : ∀ c, c < En.n α → (zs.getD c .j).sim ((En.cs a).getD c .j)) : (T.s (En.n α) n fun _ j => zs.getD j .j).sim (tr (List.replicate n a)) := by
 refine ⟨fun k c => (En.cs ((List.replicate n a).getD k En.dflt)).getD c .j, by simp only [tr, List.length_replicate], fun k c hk hc => ?_⟩
 show T.sim _ ((En.cs ((List.replicate n a).getD k En.dflt)).getD c .j)
 rw [show (List.replicate n a).getD k En.dflt = a by simp [List.getD_eq_getElem?_getD, List.getElem?_replicate, hk]]
 exact h c hc
theorem repS {α : Type} (a : α) (k : Nat) : List.replicate (k + 1) a = List.replicate k a ++ [a] := List.replicate_succ'
theorem simb_rep (n : Nat) : (T.s 1 n fun _ j => [T.v (.bool false)].getD j .j).sim (tr (List.replicate n false)) := rep_sim false _ n (fun c hc => match c, hc with | 0, _ => tsr | c + 1, hc => absurd hc (by simp only [En.n]; omega))
theorem noArrays_con : Con Tryz.prog 44 [] [] (Ret (.g [.v (iv noneD.Next), .v (iv noneD.Tick), .h 0 [], .h 1 [], .h 2 [], .h 3 [], .h 4 [], .h 5 [], .h 6 [], .v (.bool noneD.Ready.Used), .h 7 [], .v (iv noneD.Ready.Head), .v (iv noneD.Ready.Len), .h 8 []]) [(0, .row, tr noneD.Progs), (1, .row, tr noneD.Slots), (2, .row, tr noneD.Ram), (3, .row, tr noneD.Map), (4, .row, tr noneD.Opens), (5, .row, tr noneD.Pipes), (6, .row, tr noneD.Files), (7, .row, tr noneD.Ready.Buf), (8, .row, tr noneD.Out)]) := by
 refine ob Tryz.func44 Tryz.ntmps44 ?_
 refine go [.R,.A,.Z] (k := ?_)
 refine AW.seq ?_
 refine go [.D [5, 6]] (k := ?_)
 refine AWA.flag 2 2 (.h 2 []) .row (tr noneD.Ram) rfl rfl (fun x0 e0 => ?_)
 refine AWA.flag 3 3 (.h 3 []) .row (tr noneD.Map) rfl rfl (fun x1 e1 => ?_)
 refine AWA.flag 4 4 (.h 4 []) .row (tr noneD.Opens) rfl rfl (fun x2 e2 => ?_)
 refine AWA.flag 5 5 (.h 5 []) .row (tr noneD.Files) rfl rfl (fun x3 e3 => ?_)
 refine AWA.flag 6 6 (.h 6 []) .row (tr noneD.Ready.Buf) rfl rfl (fun x4 e4 => ?_)
 refine AWA.flag 1 1 (.p 1 [] 14 0 0) .box ((T.s 14 1 fun _ c => [T.v (iv 0), T.v (iv 0), T.s 1 0 fun _ _ => T.j, T.s 11 0 fun _ _ => T.j, T.s 1 0 fun _ _ => T.j, T.s 1 0 fun _ _ => T.j, T.s 5 0 fun _ _ => T.j, T.s 4 0 fun _ _ => T.j, T.s 2 0 fun _ _ => T.j, T.v (.bool false), T.s 1 0 fun _ _ => T.j, T.v (iv 0), T.v (iv 0), T.s 1 0 fun _ _ => T.j].getD c T.j)) rfl rfl (fun x7 e7 => ?_)
 refine go [.N] (k := ?_)
 refine AWA.setS #[x0, x1, x2, x3, x4, false, false, x7, false] (by rw [e0, e1, e2, e3, e4, e7]; decide +kernel) ?_
 clear e0 e1 e2 e3 e4 e7
 refine AWA.setS #[x0, x1, x2, x3, x4, false, false, x7, false] rfl ?_
 revert x0 x1 x2 x3 x4 x7
 refine free6 ?_
 intro x0 x1 x2 x3 x4 x7 h0 h1 h2 h3 h4 h7
 refine AWA.need (x4) (fun hn => ?_) (fun hn => ?_)
 ·refine AWA.anyF [0, 1, 2, 3, 4, 7] rfl (amongN hn (chk6 (p := fun x0 x1 x2 x3 x4 x7 => (x4) || amongB _ #[x0, x1, x2, x3, x4, false, false, x7, false] [0, 1, 2, 3, 4, 7]) (by decide +kernel) x0 x1 x2 x3 x4 x7)) ⟨fun f0 => ?_, fun f1 => ?_, fun f2 => ?_, fun f3 => ?_, fun f4 => ?_, fun f7 => ?_, trivial⟩
  ·obtain rfl : x0 = false := f0
   refine AWA.arm 0 [] [] rfl rfl rfl (by decide +kernel) (by decide +kernel) (by decide +kernel) (Stp.makeSlice rfl (by decide) (by decide) rfl rfl (by omega) (by omega) (by omega)) ?_
   refine go [.N] (k := ?_)
   refine AWA.rep 2 (tr noneD.Ram) rfl (simz_rep 64) ?_
   refine go [.N] (k := ?_)
   exact fu (h0 rfl)
  ·obtain rfl : x1 = false := f1
   refine AWA.arm 1 [] [] rfl rfl rfl (by decide +kernel) (by decide +kernel) (by decide +kernel) (Stp.makeSlice rfl (by decide) (by decide) rfl rfl (by omega) (by omega) (by omega)) ?_
   refine go [.N] (k := ?_)
   refine AWA.rep 3 (tr noneD.Map) rfl (simb_rep 16) ?_
   refine go [.N] (k := ?_)
   exact fu (h1 rfl)
  ·obtain rfl : x2 = false := f2
   refine AWA.arm 2 [] [] rfl rfl rfl (by decide +kernel) (by decide +kernel) (by decide +kernel) (Stp.makeSlice rfl (by decide) (by decide) rfl rfl (by omega) (by omega) (by omega)) ?_
   refine go [.N] (k := ?_)
   refine AWA.rep 4 (tr noneD.Opens) rfl (rep_sim noOpenD _ 8 (fun c hc => match c, hc with | 0, _ => tsr | 1, _ => tsr | 2, _ => tsr | 3, _ => tsr | 4, _ => tsr | c + 5, hc => absurd hc (by simp only [En.n]; omega))) ?_
   refine go [.N] (k := ?_)
   exact fu (h2 rfl)
  ·obtain rfl : x3 = false := f3
   refine AWA.arm 3 [] [] rfl rfl rfl (by decide +kernel) (by decide +kernel) (by decide +kernel) (Stp.makeSlice rfl (by decide) (by decide) rfl rfl (by omega) (by omega) (by omega)) ?_
   refine go [.N] (k := ?_)
   refine AWA.rep 5 (tr noneD.Files) rfl (rep_sim noFileD _ 6 (fun c hc => match c, hc with | 0, _ => tsr | 1, _ => sim_nil | c + 2, hc => absurd hc (by simp only [En.n]; omega))) ?_
   refine go [.N] (k := ?_)
   exact fu (h3 rfl)
  ·obtain rfl : x4 = false := f4
   refine AWA.arm 4 [] [] rfl rfl rfl (by decide +kernel) (by decide +kernel) (by decide +kernel) (Stp.makeSlice rfl (by decide) (by decide) rfl rfl (by omega) (by omega) (by omega)) ?_
   refine go [.N] (k := ?_)
   refine AWA.rep 6 (tr noneD.Ready.Buf) rfl (simz_rep 6) ?_
   refine go [.N] (k := ?_)
   exact fu (h4 rfl)
  ·obtain rfl : x7 = false := f7
   refine AWA.arm 7 [] [] rfl rfl rfl (by decide +kernel) (by decide +kernel) (by decide +kernel) sA ?_
   refine go [.N] (k := ?_)
   exact fu (h7 rfl)
 obtain rfl := hn
 clear h0 h1 h2 h3 h4 h7
 refine go [.N] (k := ?_)
 refine AWA.setS #[x0, x1, x2, x3, true, false, false, x7, false] rfl ?_
 refine AWA.take 5 rfl rfl rfl (rdk5 (fun x0 x1 x2 x3 x7 => #[x0, x1, x2, x3, true, false, false, x7, false]) _ x0 x1 x2 x3 x7 (by decide +kernel)) (.on rfl rfl (Qt.build rfl)) ?_
 refine go [.N] (k := ?_)
 refine AWA.setS #[x0, x1, x2, x3, true, true, false, x7, false] rfl ?_
 revert x0 x1 x2 x3 x7
 refine free5 ?_
 intro x0 x1 x2 x3 x7 h0 h1 h2 h3 h7
 refine AWA.need (x0 && x1 && x2 && x3) (fun hn => ?_) (fun hn => ?_)
 ·refine AWA.anyF [0, 1, 2, 3, 7] rfl (amongN hn (chk5 (p := fun x0 x1 x2 x3 x7 => (x0 && x1 && x2 && x3) || amongB _ #[x0, x1, x2, x3, true, true, false, x7, false] [0, 1, 2, 3, 7]) (by decide +kernel) x0 x1 x2 x3 x7)) ⟨fun f0 => ?_, fun f1 => ?_, fun f2 => ?_, fun f3 => ?_, fun f7 => ?_, trivial⟩
  ·obtain rfl : x0 = false := f0
   refine AWA.arm 0 [5] [] rfl rfl rfl (by decide +kernel) (by decide +kernel) (by decide +kernel) (Stp.makeSlice rfl (by decide) (by decide) rfl rfl (by omega) (by omega) (by omega)) ?_
   refine go [.N,.g,.u,.N] (k := ?_)
   refine AWA.rep 2 (tr noneD.Ram) rfl (simz_rep 64) ?_
   refine go [.N] (k := ?_)
   exact fu (h0 rfl)
  ·obtain rfl : x1 = false := f1
   refine AWA.arm 1 [5] [] rfl rfl rfl (by decide +kernel) (by decide +kernel) (by decide +kernel) (Stp.makeSlice rfl (by decide) (by decide) rfl rfl (by omega) (by omega) (by omega)) ?_
   refine go [.N,.g,.u,.N] (k := ?_)
   refine AWA.rep 3 (tr noneD.Map) rfl (simb_rep 16) ?_
   refine go [.N] (k := ?_)
   exact fu (h1 rfl)
  ·obtain rfl : x2 = false := f2
   refine AWA.arm 2 [5] [] rfl rfl rfl (by decide +kernel) (by decide +kernel) (by decide +kernel) (Stp.makeSlice rfl (by decide) (by decide) rfl rfl (by omega) (by omega) (by omega)) ?_
   refine go [.N,.g,.u,.N] (k := ?_)
   refine AWA.rep 4 (tr noneD.Opens) rfl (rep_sim noOpenD _ 8 (fun c hc => match c, hc with | 0, _ => tsr | 1, _ => tsr | 2, _ => tsr | 3, _ => tsr | 4, _ => tsr | c + 5, hc => absurd hc (by simp only [En.n]; omega))) ?_
   refine go [.N] (k := ?_)
   exact fu (h2 rfl)
  ·obtain rfl : x3 = false := f3
   refine AWA.arm 3 [5] [] rfl rfl rfl (by decide +kernel) (by decide +kernel) (by decide +kernel) (Stp.makeSlice rfl (by decide) (by decide) rfl rfl (by omega) (by omega) (by omega)) ?_
   refine go [.N,.g,.u,.N] (k := ?_)
   refine AWA.rep 5 (tr noneD.Files) rfl (rep_sim noFileD _ 6 (fun c hc => match c, hc with | 0, _ => tsr | 1, _ => sim_nil | c + 2, hc => absurd hc (by simp only [En.n]; omega))) ?_
   refine go [.N] (k := ?_)
   exact fu (h3 rfl)
  ·obtain rfl : x7 = false := f7
   refine AWA.arm 7 [5] [] rfl rfl rfl (by decide +kernel) (by decide +kernel) (by decide +kernel) sA ?_
   refine go [.N,.g,.u,.N] (k := ?_)
   exact fu (h7 rfl)
 simp only [Bool.and_eq_true] at hn
 obtain ⟨⟨⟨rfl, rfl⟩, rfl⟩, rfl⟩ := hn
 clear h0 h1 h2 h3 h7
 refine go [.N] (k := ?_)
 refine AWA.setS #[true, true, true, true, true, true, false, x7, false] rfl ?_
 refine AWA.take 6 rfl rfl rfl (rdk1 (fun x7 => #[true, true, true, true, true, true, false, x7, false]) _ x7 (by decide +kernel)) (.on rfl rfl (Qt.build rfl)) ?_
 refine go [.N] (k := ?_)
 refine AWA.setS #[true, true, true, true, true, true, true, x7, false] rfl ?_
 revert x7
 refine free1 ?_
 intro x7 h7
 refine AWA.need (x7) (fun hn => ?_) (fun hn => ?_)
 ·refine AWA.anyF [7] rfl (amongN hn (chk1 (p := fun x7 => (x7) || amongB _ #[true, true, true, true, true, true, true, x7, false] [7]) (by decide +kernel) x7)) ⟨fun f7 => ?_, trivial⟩
  ·obtain rfl : x7 = false := f7
   refine AWA.arm 7 [5, 6] [] rfl rfl rfl (by decide +kernel) (by decide +kernel) (by decide +kernel) sA ?_
   refine go [.N,.g,.u,.g,.u,.N] (k := ?_)
   exact fu (h7 rfl)
 obtain rfl := hn
 clear h7
 refine go [.N,.o 8 [],.s,.N,.Z,.R2,.m,.Z] (k := ?_)
 refine AW.block ?_
 refine AW.weak (Weak.hoist 1 3 15 rfl (by decide) rfl rfl rfl) ?_
 refine AW.weak (Weak.hoist 1 7 25 rfl (by decide) rfl rfl rfl) ?_
 refine AW.weak (L' := [.sl 9 (.v (iv (0 : Nat))), .sl 1 (.p 1 [] 14 0 0), .sl 0 (.p 0 [] 14 0 0), .rt 1 .box (T.s 14 1 fun _ c => [T.v (iv 0), T.v (iv 0), T.s 1 0 fun _ _ => T.j, T.j, T.j, T.j, T.j, T.j, T.j, T.v (.bool false), T.j, T.v (iv 0), T.v (iv 0), T.s 1 0 fun _ _ => T.j].getD c T.j), .rt 0 .box (T.s 14 1 fun _ c => [T.v (iv 0), T.v (iv 0), T.s 1 0 fun _ _ => T.j, T.s 11 0 fun _ _ => T.j, T.s 1 0 fun _ _ => T.j, T.s 1 0 fun _ _ => T.j, T.s 5 0 fun _ _ => T.j, T.s 4 0 fun _ _ => T.j, T.s 2 0 fun _ _ => T.j, T.v (.bool false), T.s 1 0 fun _ _ => T.j, T.v (iv 0), T.v (iv 0), T.s 1 0 fun _ _ => T.j].getD c T.j), .al 1 3 (.h 15 []), .al 1 4 (.h 2 []), .al 1 5 (.h 3 []), .al 1 6 (.h 4 []), .al 1 7 (.h 25 []), .al 1 8 (.h 5 []), .al 1 10 (.h 6 []), .rt 15 .row (tr (List.replicate (0 : Nat) noSlotD)), .rt 2 .row (tr noneD.Ram), .rt 3 .row (tr noneD.Map), .rt 4 .row (tr noneD.Opens), .rt 25 .row (tr (List.replicate 0 (ringD false 4 [] 0))), .rt 5 .row (tr noneD.Files), .rt 6 .row (tr noneD.Ready.Buf)]) (Weak.sim ⟨rfl, rfl, rfl, ⟨_, rfl, (scA_sim (n := 14) (fun c hc => match c, hc with | 0, _ => tsr | 1, _ => tsr | 2, _ => tsr | 3, _ => tsr | 4, _ => tsr | 5, _ => tsr | 6, _ => tsr | 7, _ => tsr | 8, _ => tsr | 9, _ => tsr | 10, _ => tsr | 11, _ => tsr | 12, _ => tsr | 13, _ => tsr | c + 14, hc => absurd hc (by omega)))⟩, ⟨_, rfl, (scA_sim (n := 14) (fun c hc => match c, hc with | 0, _ => tsr | 1, _ => tsr | 2, _ => tsr | 3, _ => tsr | 4, _ => tsr | 5, _ => tsr | 6, _ => tsr | 7, _ => tsr | 8, _ => tsr | 9, _ => tsr | 10, _ => tsr | 11, _ => tsr | 12, _ => tsr | 13, _ => tsr | c + 14, hc => absurd hc (by omega)))⟩, ⟨rfl, rfl⟩, ⟨rfl, rfl⟩, ⟨rfl, rfl⟩, ⟨rfl, rfl⟩, ⟨rfl, rfl⟩, ⟨rfl, rfl⟩, ⟨rfl, rfl⟩, ⟨_, rfl, sim_nil⟩, Rf rfl, Rf rfl, Rf rfl, ⟨_, rfl, sim_nil⟩, Rf rfl, Rf rfl, trivial⟩ rfl rfl) ?_
 refine AW.loop (fun i : KInv 6 => [.sl 9 (.v (iv i.k)), .sl 1 (.p 1 [] 14 0 0), .sl 0 (.p 0 [] 14 0 0), .rt 1 .box (T.s 14 1 fun _ c => [T.v (iv 0), T.v (iv 0), T.s 1 0 fun _ _ => T.j, T.j, T.j, T.j, T.j, T.j, T.j, T.v (.bool false), T.j, T.v (iv 0), T.v (iv 0), T.s 1 0 fun _ _ => T.j].getD c T.j), .rt 0 .box (T.s 14 1 fun _ c => [T.v (iv 0), T.v (iv 0), T.s 1 0 fun _ _ => T.j, T.s 11 0 fun _ _ => T.j, T.s 1 0 fun _ _ => T.j, T.s 1 0 fun _ _ => T.j, T.s 5 0 fun _ _ => T.j, T.s 4 0 fun _ _ => T.j, T.s 2 0 fun _ _ => T.j, T.v (.bool false), T.s 1 0 fun _ _ => T.j, T.v (iv 0), T.v (iv 0), T.s 1 0 fun _ _ => T.j].getD c T.j), .al 1 3 (.h 15 []), .al 1 4 (.h 2 []), .al 1 5 (.h 3 []), .al 1 6 (.h 4 []), .al 1 7 (.h 25 []), .al 1 8 (.h 5 []), .al 1 10 (.h 6 []), .rt 15 .row (tr (List.replicate i.k noSlotD)), .rt 2 .row (tr noneD.Ram), .rt 3 .row (tr noneD.Map), .rt 4 .row (tr noneD.Opens), .rt 25 .row (tr (List.replicate 0 (ringD false 4 [] 0))), .rt 5 .row (tr noneD.Files), .rt 6 .row (tr noneD.Ready.Buf)]) (fun i => 6 - i.k) ⟨0, Nat.zero_le _⟩ ?_
 intro i
 have hle := i.le
 refine go [.R,.b,.Z] (k := ?_)
 refine AW.seq ?_
 refine cd (fun c1 => ?_) fun c1 => ?_
 ·try simp only [cnd] at c1
  refine jd (AW.seq (AW.block ?_))
  refine go [.D [0, 1, 5],.t 0,.f,.N,.t 1,.l] (k := ?_)
  refine a1 2 [0, 1] [] rfl rfl (Stp.callR rfl (by decide) Tryz.call163 rfl rfl noSlot_con (nodup_of rfl) rfl rfl) ?_
  refine go [.N,.g,.f,.N,.g,.l,.N,.O 3 [0, 1] [2],.S,.N,.g,.f,.N,.g,.l,.N] (k := ?_)
  refine AWA.rep 14 (tr [noSlotD]) rfl (row1_sim (α := DASlot) (fun c hc => match c, hc with | 0, _ => tsr | 1, _ => tsr | 2, _ => tsr | 3, _ => tsr | 4, _ => tsr | 5, _ => tsr | 6, _ => tsr | 7, _ => tsr | 8, _ => tsr | 9, _ => tsr | 10, _ => tsr | c + 11, hc => absurd hc (by simp only [En.n]; omega))) ?_
  refine go [.N] (k := ?_)
  refine a1 4 [] [3, 2, 1, 0] rfl rfl (Stp.appendM rfl (by decide) (by decide) rfl rfl rfl (by simp only [List.length_cons, List.length_nil, List.length_replicate]; omega)) ?_
  refine go [.N] (k := ?_)
  refine AWA.rep 15 (tr (List.replicate (i.k + 1) noSlotD)) rfl (by rw [repS]; exact app_sim (l := List.replicate i.k noSlotD) (l' := [noSlotD]) rfl (fun _ _ _ _ => rfl) (fun _ _ _ _ => rfl)) ?_
  refine go [.N,.t 5,.f,.O 6 [] [5, 4, 3, 2, 1, 0],.s,.N,.Z,.R1,.b,.m,.Z] (k := ?_)
  refine ⟨⟨i.k + 1, by omega⟩, Weak.sim ⟨st1, rfl, rfl, ⟨_, rfl, (scA_sim (n := 14) (fun c hc => match c, hc with | 0, _ => tsr | 1, _ => tsr | 2, _ => tsr | 3, _ => tsr | 4, _ => tsr | 5, _ => tsr | 6, _ => tsr | 7, _ => tsr | 8, _ => tsr | 9, _ => tsr | 10, _ => tsr | 11, _ => tsr | 12, _ => tsr | 13, _ => tsr | c + 14, hc => absurd hc (by omega)))⟩, Rf rfl, ⟨rfl, rfl⟩, ⟨rfl, rfl⟩, ⟨rfl, rfl⟩, ⟨rfl, rfl⟩, ⟨rfl, rfl⟩, ⟨rfl, rfl⟩, ⟨rfl, rfl⟩, Rf rfl, Rf rfl, Rf rfl, Rf rfl, Rf rfl, Rf rfl, Rf rfl, trivial⟩ rfl rfl, ?_⟩
  show 6 - (i.k + 1) < 6 - i.k
  omega
 try simp only [cnd] at c1
 refine AW.exit ?_
 dsimp only [thenQ, blockQ, reduceIte]
 refine go [.R2,.m,.Z] (k := ?_)
 refine AW.block ?_
 refine AW.rep 15 (tr (List.replicate 6 noSlotD)) rfl (by rw [show i.k = 6 by omega]; exact tsr) ?_
 refine AW.weak (L' := [.sl 18 (.v (iv (0 : Nat))), .sl 1 (.p 1 [] 14 0 0), .sl 0 (.p 0 [] 14 0 0), .rt 1 .box (T.s 14 1 fun _ c => [T.v (iv 0), T.v (iv 0), T.s 1 0 fun _ _ => T.j, T.j, T.j, T.j, T.j, T.j, T.j, T.v (.bool false), T.j, T.v (iv 0), T.v (iv 0), T.s 1 0 fun _ _ => T.j].getD c T.j), .rt 0 .box (T.s 14 1 fun _ c => [T.v (iv 0), T.v (iv 0), T.s 1 0 fun _ _ => T.j, T.s 11 0 fun _ _ => T.j, T.s 1 0 fun _ _ => T.j, T.s 1 0 fun _ _ => T.j, T.s 5 0 fun _ _ => T.j, T.s 4 0 fun _ _ => T.j, T.s 2 0 fun _ _ => T.j, T.v (.bool false), T.s 1 0 fun _ _ => T.j, T.v (iv 0), T.v (iv 0), T.s 1 0 fun _ _ => T.j].getD c T.j), .al 1 3 (.h 15 []), .al 1 4 (.h 2 []), .al 1 5 (.h 3 []), .al 1 6 (.h 4 []), .al 1 7 (.h 25 []), .al 1 8 (.h 5 []), .al 1 10 (.h 6 []), .rt 15 .row (tr (List.replicate 6 noSlotD)), .rt 2 .row (tr noneD.Ram), .rt 3 .row (tr noneD.Map), .rt 4 .row (tr noneD.Opens), .rt 25 .row (tr (List.replicate (0 : Nat) (ringD false 4 [] 0))), .rt 5 .row (tr noneD.Files), .rt 6 .row (tr noneD.Ready.Buf)]) (Weak.sim ⟨rfl, rfl, rfl, ⟨_, rfl, (scA_sim (n := 14) (fun c hc => match c, hc with | 0, _ => tsr | 1, _ => tsr | 2, _ => tsr | 3, _ => tsr | 4, _ => tsr | 5, _ => tsr | 6, _ => tsr | 7, _ => tsr | 8, _ => tsr | 9, _ => tsr | 10, _ => tsr | 11, _ => tsr | 12, _ => tsr | 13, _ => tsr | c + 14, hc => absurd hc (by omega)))⟩, ⟨_, rfl, (scA_sim (n := 14) (fun c hc => match c, hc with | 0, _ => tsr | 1, _ => tsr | 2, _ => tsr | 3, _ => tsr | 4, _ => tsr | 5, _ => tsr | 6, _ => tsr | 7, _ => tsr | 8, _ => tsr | 9, _ => tsr | 10, _ => tsr | 11, _ => tsr | 12, _ => tsr | 13, _ => tsr | c + 14, hc => absurd hc (by omega)))⟩, ⟨rfl, rfl⟩, ⟨rfl, rfl⟩, ⟨rfl, rfl⟩, ⟨rfl, rfl⟩, ⟨rfl, rfl⟩, ⟨rfl, rfl⟩, ⟨rfl, rfl⟩, Rf rfl, Rf rfl, Rf rfl, Rf rfl, Rf rfl, Rf rfl, Rf rfl, trivial⟩ rfl rfl) ?_
 refine AW.loop (fun i : KInv 3 => [.sl 18 (.v (iv i.k)), .sl 1 (.p 1 [] 14 0 0), .sl 0 (.p 0 [] 14 0 0), .rt 1 .box (T.s 14 1 fun _ c => [T.v (iv 0), T.v (iv 0), T.s 1 0 fun _ _ => T.j, T.j, T.j, T.j, T.j, T.j, T.j, T.v (.bool false), T.j, T.v (iv 0), T.v (iv 0), T.s 1 0 fun _ _ => T.j].getD c T.j), .rt 0 .box (T.s 14 1 fun _ c => [T.v (iv 0), T.v (iv 0), T.s 1 0 fun _ _ => T.j, T.s 11 0 fun _ _ => T.j, T.s 1 0 fun _ _ => T.j, T.s 1 0 fun _ _ => T.j, T.s 5 0 fun _ _ => T.j, T.s 4 0 fun _ _ => T.j, T.s 2 0 fun _ _ => T.j, T.v (.bool false), T.s 1 0 fun _ _ => T.j, T.v (iv 0), T.v (iv 0), T.s 1 0 fun _ _ => T.j].getD c T.j), .al 1 3 (.h 15 []), .al 1 4 (.h 2 []), .al 1 5 (.h 3 []), .al 1 6 (.h 4 []), .al 1 7 (.h 25 []), .al 1 8 (.h 5 []), .al 1 10 (.h 6 []), .rt 15 .row (tr (List.replicate 6 noSlotD)), .rt 2 .row (tr noneD.Ram), .rt 3 .row (tr noneD.Map), .rt 4 .row (tr noneD.Opens), .rt 25 .row (tr (List.replicate i.k (ringD false 4 [] 0))), .rt 5 .row (tr noneD.Files), .rt 6 .row (tr noneD.Ready.Buf)]) (fun i => 3 - i.k) ⟨0, Nat.zero_le _⟩ ?_
 intro i
 have hle := i.le
 refine go [.R,.b,.Z] (k := ?_)
 refine AW.seq ?_
 refine cd (fun c2 => ?_) fun c2 => ?_
 ·try simp only [cnd] at c2
  refine jd (AW.seq (AW.block ?_))
  refine go [.D [0, 1, 3, 6],.t 0,.f,.N,.t 1,.l] (k := ?_)
  refine a1 2 [0, 1] [] rfl rfl (Stp.makeSlice rfl (by decide) (by decide) rfl rfl (by omega) (by omega) (by omega)) ?_
  refine go [.N,.g,.f,.N,.g,.l,.N,.t 3,.u,.O 4 [0, 1] [3, 2],.S,.N,.g,.f,.N,.g,.l,.N] (k := ?_)
  refine AWA.rep 24 (tr [ringD false 4 [] 0]) rfl (row1_sim (α := DARing) (fun c hc => match c, hc with | 0, _ => tsr | 1, _ => (simz_rep 4) | 2, _ => tsr | 3, _ => tsr | c + 4, hc => absurd hc (by simp only [En.n]; omega))) ?_
  refine go [.N] (k := ?_)
  refine a1 5 [] [4, 1, 3, 0, 2] rfl rfl (Stp.appendM rfl (by decide) (by decide) rfl rfl rfl (by simp only [List.length_cons, List.length_nil, List.length_replicate]; omega)) ?_
  refine go [.N] (k := ?_)
  refine AWA.rep 25 (tr (List.replicate (i.k + 1) (ringD false 4 [] 0))) rfl (by rw [repS]; exact app_sim (l := List.replicate i.k (ringD false 4 [] 0)) (l' := [(ringD false 4 [] 0)]) rfl (fun _ _ _ _ => rfl) (fun _ _ _ _ => rfl)) ?_
  refine go [.N,.t 6,.f,.O 7 [] [6, 5, 4, 3, 2, 1, 0],.s,.N,.Z,.R1,.b,.m,.Z] (k := ?_)
  refine ⟨⟨i.k + 1, by omega⟩, Weak.sim ⟨st1, rfl, rfl, ⟨_, rfl, (scA_sim (n := 14) (fun c hc => match c, hc with | 0, _ => tsr | 1, _ => tsr | 2, _ => tsr | 3, _ => tsr | 4, _ => tsr | 5, _ => tsr | 6, _ => tsr | 7, _ => tsr | 8, _ => tsr | 9, _ => tsr | 10, _ => tsr | 11, _ => tsr | 12, _ => tsr | 13, _ => tsr | c + 14, hc => absurd hc (by omega)))⟩, Rf rfl, ⟨rfl, rfl⟩, ⟨rfl, rfl⟩, ⟨rfl, rfl⟩, ⟨rfl, rfl⟩, ⟨rfl, rfl⟩, ⟨rfl, rfl⟩, ⟨rfl, rfl⟩, Rf rfl, Rf rfl, Rf rfl, Rf rfl, Rf rfl, Rf rfl, Rf rfl, trivial⟩ rfl rfl, ?_⟩
  show 3 - (i.k + 1) < 3 - i.k
  omega
 try simp only [cnd] at c2
 refine AW.rep 25 (tr (List.replicate 3 (ringD false 4 [] 0))) rfl (by rw [show i.k = 3 by omega]; exact tsr) ?_
 refine AW.weak (Weak.hoist 1 2 900 rfl (by decide) rfl rfl rfl) ?_
 refine AW.rep 900 (tr ([] : List (List DIns))) rfl sim_nil ?_
 refine AW.weak (Weak.hoist 1 13 901 rfl (by decide) rfl rfl rfl) ?_
 refine AW.rep 901 (tr ([] : List Int)) rfl sim_nil ?_
 refine AW.weak (L' := [.sl 1 (.p 1 [] 14 0 0), .sl 0 (.p 0 [] 14 0 0), .rt 1 .box (T.s 14 1 fun _ c => [T.v (iv 0), T.v (iv 0), T.j, T.j, T.j, T.j, T.j, T.j, T.j, T.v (.bool false), T.j, T.v (iv 0), T.v (iv 0), T.j].getD c T.j), .rt 0 .box (T.s 14 1 fun _ c => [T.v (iv 0), T.v (iv 0), T.s 1 0 fun _ _ => T.j, T.s 11 0 fun _ _ => T.j, T.s 1 0 fun _ _ => T.j, T.s 1 0 fun _ _ => T.j, T.s 5 0 fun _ _ => T.j, T.s 4 0 fun _ _ => T.j, T.s 2 0 fun _ _ => T.j, T.v (.bool false), T.s 1 0 fun _ _ => T.j, T.v (iv 0), T.v (iv 0), T.s 1 0 fun _ _ => T.j].getD c T.j), .al 1 2 (.h 900 []), .al 1 3 (.h 15 []), .al 1 4 (.h 2 []), .al 1 5 (.h 3 []), .al 1 6 (.h 4 []), .al 1 7 (.h 25 []), .al 1 8 (.h 5 []), .al 1 10 (.h 6 []), .al 1 13 (.h 901 []), .rt 900 .row (tr noneD.Progs), .rt 15 .row (tr noneD.Slots), .rt 2 .row (tr noneD.Ram), .rt 3 .row (tr noneD.Map), .rt 4 .row (tr noneD.Opens), .rt 25 .row (tr noneD.Pipes), .rt 5 .row (tr noneD.Files), .rt 6 .row (tr noneD.Ready.Buf), .rt 901 .row (tr noneD.Out)]) (Weak.sim ⟨rfl, rfl, ⟨_, rfl, (scA_sim (n := 14) (fun c hc => match c, hc with | 0, _ => tsr | 1, _ => tsr | 2, _ => tsr | 3, _ => tsr | 4, _ => tsr | 5, _ => tsr | 6, _ => tsr | 7, _ => tsr | 8, _ => tsr | 9, _ => tsr | 10, _ => tsr | 11, _ => tsr | 12, _ => tsr | 13, _ => tsr | c + 14, hc => absurd hc (by omega)))⟩, ⟨_, rfl, (scA_sim (n := 14) (fun c hc => match c, hc with | 0, _ => tsr | 1, _ => tsr | 2, _ => tsr | 3, _ => tsr | 4, _ => tsr | 5, _ => tsr | 6, _ => tsr | 7, _ => tsr | 8, _ => tsr | 9, _ => tsr | 10, _ => tsr | 11, _ => tsr | 12, _ => tsr | 13, _ => tsr | c + 14, hc => absurd hc (by omega)))⟩, ⟨rfl, rfl⟩, ⟨rfl, rfl⟩, ⟨rfl, rfl⟩, ⟨rfl, rfl⟩, ⟨rfl, rfl⟩, ⟨rfl, rfl⟩, ⟨rfl, rfl⟩, ⟨rfl, rfl⟩, ⟨rfl, rfl⟩, Rf rfl, Rf rfl, Rf rfl, Rf rfl, Rf rfl, Rf rfl, Rf rfl, Rf rfl, Rf rfl, trivial⟩ rfl rfl) ?_
 refine AW.exit ?_
 dsimp only [thenQ, blockQ, reduceIte]
 refine go [.R,.G,.N,.s,.Z] (k := ?_)
 refine AW.ret (endQ_ret (.cons (.cellG 0 40 rfl rfl rfl ag40 sz40 (by decide)) .nil) ?_)
 refine ⟨fun i => if i = 0 then 900 else if i = 1 then 15 else if i = 2 then 2 else if i = 3 then 3 else if i = 4 then 4 else if i = 5 then 25 else if i = 6 then 5 else if i = 7 then 6 else 901, rfl, nodup_of rfl, ?_⟩
 intro r hr
 simp only [List.mem_cons, List.not_mem_nil, or_false] at hr
 rcases hr with rfl | rfl | rfl | rfl | rfl | rfl | rfl | rfl | rfl <;> exact ⟨by simp, rootL_mem rfl⟩
end Go.Proofs.YthjfgpkjooaahaaGreat.VM

