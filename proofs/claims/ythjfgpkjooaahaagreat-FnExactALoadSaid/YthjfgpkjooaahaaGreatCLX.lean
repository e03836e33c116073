/- Contracts. No conditions. -/
import Derived.Test.YthjfgpkjooaahaaGreatCLV
import Derived.Test.YthjfgpkjooaahaaGreatCUF
import Derived.Test.YthjfgpkjooaahaaGreatCLN
set_option linter.all false
set_option maxHeartbeats 8000000
set_option maxRecDepth 10000
namespace Go.Proofs.YthjfgpkjooaahaaGreat.VM
open Go Go.RowKit Go.Proofs
theorem ALoadI_con (u : DUnix) (hw : Mk.wt u ≤ 1048576) : Con Tryz.prog 10 [.g [.v (iv u.Next), .v (iv u.Tick), .h base [], .h (base + 1) [], .h (base + 2) [], .h (base + 3) [], .h (base + 4) [], .h (base + 5) [], .h (base + 6) []]] [.rt base .ro (tr u.Progs), .rt (base + 1) .ro (tr u.Procs), .rt (base + 2) .ro (tr u.Opens), .rt (base + 3) .ro (tr u.Pipes), .rt (base + 4) .ro (tr u.Files), .rt (base + 5) .ro (tr u.Ready), .rt (base + 6) .ro (tr u.Out)] (Ret (.t [.g [.v (iv (loadR u).Next), .v (iv (loadR u).Tick), .h 0 [], .h 1 [], .h 2 [], .h 3 [], .h 4 [], .h 5 [], .h 6 [], .v (.bool (loadR u).Ready.Used), .h 7 [], .v (iv (loadR u).Ready.Head), .v (iv (loadR u).Ready.Len), .h 8 []], .v (.bool (unixOk u))]) [(0, .row, tr (loadR u).Progs), (1, .row, tr (loadR u).Slots), (2, .row, tr (loadR u).Ram), (3, .row, tr (loadR u).Map), (4, .row, tr (loadR u).Opens), (5, .row, tr (loadR u).Pipes), (6, .row, tr (loadR u).Files), (7, .row, tr (loadR u).Ready.Buf), (8, .row, tr (loadR u).Out)]) := by
 refine ob Tryz.func10 Tryz.ntmps10 ?_
 refine AW.len (base + 1) [] rfl (by simp [Okp]) rfl (fun hl1 => ?_)
 refine AW.len (base + 2) [] rfl (by simp [Okp]) rfl (fun hl2 => ?_)
 refine AW.len (base + 3) [] rfl (by simp [Okp]) rfl (fun hl3 => ?_)
 refine AW.len (base + 4) [] rfl (by simp [Okp]) rfl (fun hl4 => ?_)
 refine AW.len (base + 5) [] rfl (by simp [Okp]) rfl (fun hl5 => ?_)
 have hwu : Mk.wt u.Progs + Mk.wt u.Procs + Mk.wt u.Opens + Mk.wt u.Pipes + Mk.wt u.Files + Mk.wt u.Ready + Mk.wt u.Out ≤ 1048576 := hw
 have hw2 := wt_ints u.Out
 refine go [.R,.B,.N,.A,.N,.a,.Z,.R2,.G] (k := ?_)
 refine cv Tryz.call43 rfl rfl (UnixOkI_con u (unixB_of hw)) ?_
 refine go [.N,.n,.Z] (k := ?_)
 refine cd (fun c1 => ?_) fun c1 => ?_
 ·have k1 := c1
  try simp only [cnd] at c1
  have hU : unixOk u = false := by simpa using k1
  refine go [.R,.u,.s,.N,.a,.Z] (k := ?_)
  refine AW.weak (Weak.hoist 2 2 902 rfl (by decide) rfl rfl rfl) ?_
  refine nw ?_
  refine AW.rep 902 (tr ([] : List (List DIns))) rfl sim_nil ?_
  refine AW.weak (Weak.hoist 2 3 903 rfl (by decide) rfl rfl rfl) ?_
  refine nw ?_
  refine AW.rep 903 (tr ([] : List DASlot)) rfl sim_nil ?_
  refine AW.weak (Weak.hoist 2 4 904 rfl (by decide) rfl rfl rfl) ?_
  refine nw ?_
  refine AW.rep 904 (tr ([] : List Int)) rfl sim_nil ?_
  refine AW.weak (Weak.hoist 2 5 905 rfl (by decide) rfl rfl rfl) ?_
  refine nw ?_
  refine AW.rep 905 (tr ([] : List Bool)) rfl sim_nil ?_
  refine AW.weak (Weak.hoist 2 6 906 rfl (by decide) rfl rfl rfl) ?_
  refine nw ?_
  refine AW.rep 906 (tr ([] : List DAOpen)) rfl sim_nil ?_
  refine AW.weak (Weak.hoist 2 7 907 rfl (by decide) rfl rfl rfl) ?_
  refine nw ?_
  refine AW.rep 907 (tr ([] : List DARing)) rfl sim_nil ?_
  refine AW.weak (Weak.hoist 2 8 908 rfl (by decide) rfl rfl rfl) ?_
  refine nw ?_
  refine AW.rep 908 (tr ([] : List DAFile)) rfl sim_nil ?_
  refine AW.weak (Weak.hoist 2 10 909 rfl (by decide) rfl rfl rfl) ?_
  refine nw ?_
  refine AW.rep 909 (tr ([] : List Int)) rfl sim_nil ?_
  refine AW.weak (Weak.hoist 2 13 910 rfl (by decide) rfl rfl rfl) ?_
  refine nw ?_
  refine AW.rep 910 (tr ([] : List Int)) rfl sim_nil ?_
  refine AW.ret (endQ_ret (.cons (.cellG 2 40 rfl rfl rfl ag40 sz40 (by decide)) (.cons (.tmp 3) .nil)) ?_)
  rw [loadR_f hU, hU]
  refine ⟨fun i => if i = 0 then 902 else if i = 1 then 903 else if i = 2 then 904 else if i = 3 then 905 else if i = 4 then 906 else if i = 5 then 907 else if i = 6 then 908 else if i = 7 then 909 else 910, rfl, nodup_of rfl, ?_⟩
  intro r hr
  simp only [List.mem_cons, List.not_mem_nil, or_false] at hr
  rcases hr with rfl | rfl | rfl | rfl | rfl | rfl | rfl | rfl | rfl <;> exact ⟨by simp, rootL_mem rfl⟩
 have k1 := c1
 try simp only [cnd] at c1
 have hU : unixOk u = true := by simpa using k1
 have hL := loadF_of hU
 have h1 := hL.procs
 have h2 := hL.opens
 have h3 := hL.pipes
 have h4 := hL.files
 have h5 := hL.ready
 refine go [.J,.R] (k := ?_)
 refine sp (Stp.callR rfl (by decide) Tryz.call44 rfl rfl noArrays_con (nodup_of rfl) rfl rfl) ?_
 refine go [.N,.A,.N,.s,.Z] (k := ?_)
 refine AW.seq ?_
 refine go [.D [0, 1, 2, 3, 4, 5, 7, 8, 10, 12, 14, 16],.t 0,.f,.N,.t 1,.l,.t 2,.f,.t 3,.l,.N,.t 4,.f,.t 5,.l,.t 7,.f,.N,.t 8,.l] (k := ?_)
 refine a1 6 [0, 1, 2, 3, 7, 8] [5, 4] rfl rfl (Stp.callR rfl (by decide) Tryz.call45 rfl rfl (cloneProgs_con _ (by omega)) (nodup_of rfl) rfl rfl) ?_
 refine go [.N,.g,.f,.N,.g,.l,.N,.g,.f,.N,.g,.l,.N,.g,.f,.N,.g,.l,.N] (k := ?_)
 refine a1 9 [0, 1, 2, 3] [8, 6, 7, 5, 4] rfl rfl (Stp.callR rfl (by decide) Tryz.call46 rfl rfl (cloneI_con _ (by omega)) (nodup_of rfl) rfl rfl) ?_
 refine go [.N,.g,.f,.N,.g,.l,.N,.g,.f,.N,.g,.l,.N,.t 10,.f,.O 11 [2, 3] [10, 9, 6, 1, 0, 8, 5, 7, 4],.s,.N,.g,.f,.N,.g,.l,.N,.t 12,.f,.O 13 [] [12, 11, 10, 9, 6, 3, 2, 1, 0, 8, 5, 7, 4],.s,.N,.t 14,.f,.O 15 [] [14, 13, 12, 11, 10, 9, 6, 5, 4, 3, 2, 1, 0, 8, 7],.s,.N,.t 16,.f,.O 17 [] [16, 15, 14, 13, 12, 11, 10, 9, 8, 7, 6, 5, 4, 3, 2, 1, 0],.s,.N,.Z,.R2,.f,.l,.h,.N,.m,.Z] (k := ?_)
 refine AW.block ?_
 refine AW.weak (Weak.sink 30 4 2 rfl (by decide) rfl rfl rfl rfl) ?_
 refine nw ?_
 refine AW.weak (Weak.sink 1023 4 3 rfl (by decide) rfl rfl rfl rfl) ?_
 refine nw ?_
 refine AW.weak (Weak.sink 2023 4 4 rfl (by decide) rfl rfl rfl rfl) ?_
 refine nw ?_
 refine AW.weak (Weak.sink 3023 4 5 rfl (by decide) rfl rfl rfl rfl) ?_
 refine nw ?_
 refine AW.weak (Weak.sink 4023 4 6 rfl (by decide) rfl rfl rfl rfl) ?_
 refine nw ?_
 refine AW.weak (Weak.sink 5023 4 7 rfl (by decide) rfl rfl rfl rfl) ?_
 refine nw ?_
 refine AW.weak (Weak.sink 6023 4 8 rfl (by decide) rfl rfl rfl rfl) ?_
 refine nw ?_
 refine AW.weak (Weak.sink 7023 4 10 rfl (by decide) rfl rfl rfl rfl) ?_
 refine nw ?_
 refine AW.weak (Weak.sink 33 4 13 rfl (by decide) rfl rfl rfl rfl) ?_
 refine nw ?_
 refine AW.rep 4 (T.s 14 1 fun _ c => [T.v (iv (procD u 0).Next), T.v (iv (procD u 0).Tick), tr (procD u 0).Progs, tr (procD u 0).Slots, tr (procD u 0).Ram, tr (procD u 0).Map, tr (procD u 0).Opens, tr (procD u 0).Pipes, tr (procD u 0).Files, T.v (.bool (procD u 0).Ready.Used), tr (procD u 0).Ready.Buf, T.v (iv (procD u 0).Ready.Head), T.v (iv (procD u 0).Ready.Len), tr (procD u 0).Out].getD c T.j) rfl (scA_sim (n := 14) (fun c hc => match c, hc with | 0, _ => tsr | 1, _ => tsr | 2, _ => tsr | 3, _ => tsr | 4, _ => tsr | 5, _ => tsr | 6, _ => tsr | 7, _ => tsr | 8, _ => tsr | 9, _ => tsr | 10, _ => tsr | 11, _ => tsr | 12, _ => tsr | 13, _ => tsr | c + 14, hc => absurd hc (by omega))) ?_
 refine AW.weak (L' := [.sl 41 (.v (iv (0 : Nat))), .sl 2 (.p 2 [] 14 0 0), .sl 4 (.p 4 [] 14 0 0), .sl 3 (.v (.bool false)), .rt 1 .box (T.s 9 1 fun k c => ([(T.v (iv u.Next), none), (T.v (iv u.Tick), none), (T.j, none), (T.j, none), (T.j, none), (T.j, none), (T.j, none), (T.j, none), (T.j, none)].getD (k * 9 + c) (T.j, none)).fst), .al 1 2 (.h base []), .al 1 3 (.h (base + 1) []), .al 1 4 (.h (base + 2) []), .al 1 5 (.h (base + 3) []), .al 1 6 (.h (base + 4) []), .al 1 7 (.h (base + 5) []), .al 1 8 (.h (base + 6) []), .rt base .ro (tr u.Progs), .rt (base + 1) .ro (tr u.Procs), .rt (base + 2) .ro (tr u.Opens), .rt (base + 3) .ro (tr u.Pipes), .rt (base + 4) .ro (tr u.Files), .rt (base + 5) .ro (tr u.Ready), .rt (base + 6) .ro (tr u.Out), .sl 1 (.p 1 [] 9 0 0), .sl 39 (.h (base + 1) []), .sl 40 (.v (iv u.Procs.length)), .rt 2 .box (T.s 14 1 fun _ c => [T.v (iv 0), T.v (iv 0), T.s 1 0 fun _ _ => T.j, T.s 11 0 fun _ _ => T.j, T.s 1 0 fun _ _ => T.j, T.s 1 0 fun _ _ => T.j, T.s 5 0 fun _ _ => T.j, T.s 4 0 fun _ _ => T.j, T.s 2 0 fun _ _ => T.j, T.v (.bool false), T.s 1 0 fun _ _ => T.j, T.v (iv 0), T.v (iv 0), T.s 1 0 fun _ _ => T.j].getD c T.j), .rt 4 .box (T.s 14 1 fun _ c => [T.v (iv (procD u (0 : Nat)).Next), T.v (iv (procD u (0 : Nat)).Tick), tr (procD u (0 : Nat)).Progs, tr (procD u (0 : Nat)).Slots, tr (procD u (0 : Nat)).Ram, tr (procD u (0 : Nat)).Map, tr (procD u (0 : Nat)).Opens, tr (procD u (0 : Nat)).Pipes, tr (procD u (0 : Nat)).Files, T.v (.bool (procD u (0 : Nat)).Ready.Used), tr (procD u (0 : Nat)).Ready.Buf, T.v (iv (procD u (0 : Nat)).Ready.Head), T.v (iv (procD u (0 : Nat)).Ready.Len), tr (procD u (0 : Nat)).Out].getD c T.j)]) (Weak.sim ⟨rfl, rfl, rfl, rfl, Rf rfl, ⟨rfl, rfl⟩, ⟨rfl, rfl⟩, ⟨rfl, rfl⟩, ⟨rfl, rfl⟩, ⟨rfl, rfl⟩, ⟨rfl, rfl⟩, ⟨rfl, rfl⟩, Rf rfl, Rf rfl, Rf rfl, Rf rfl, Rf rfl, Rf rfl, Rf rfl, rfl, rfl, rfl, ⟨_, rfl, (scA_sim (n := 14) (fun c hc => match c, hc with | 0, _ => tsr | 1, _ => tsr | 2, _ => tsr | 3, _ => tsr | 4, _ => tsr | 5, _ => tsr | 6, _ => tsr | 7, _ => tsr | 8, _ => tsr | 9, _ => tsr | 10, _ => tsr | 11, _ => tsr | 12, _ => tsr | 13, _ => tsr | c + 14, hc => absurd hc (by omega)))⟩, ⟨_, rfl, (scA_sim (n := 14) (fun c hc => match c, hc with | 0, _ => tsr | 1, _ => tsr | 2, _ => tsr | 3, _ => tsr | 4, _ => tsr | 5, _ => tsr | 6, _ => tsr | 7, _ => tsr | 8, _ => tsr | 9, _ => tsr | 10, _ => tsr | 11, _ => tsr | 12, _ => tsr | 13, _ => tsr | c + 14, hc => absurd hc (by omega)))⟩, trivial⟩ rfl rfl) ?_
 refine AW.loop (fun i : KInv u.Procs.length => [.sl 41 (.v (iv i.k)), .sl 2 (.p 2 [] 14 0 0), .sl 4 (.p 4 [] 14 0 0), .sl 3 (.v (.bool false)), .rt 1 .box (T.s 9 1 fun k c => ([(T.v (iv u.Next), none), (T.v (iv u.Tick), none), (T.j, none), (T.j, none), (T.j, none), (T.j, none), (T.j, none), (T.j, none), (T.j, none)].getD (k * 9 + c) (T.j, none)).fst), .al 1 2 (.h base []), .al 1 3 (.h (base + 1) []), .al 1 4 (.h (base + 2) []), .al 1 5 (.h (base + 3) []), .al 1 6 (.h (base + 4) []), .al 1 7 (.h (base + 5) []), .al 1 8 (.h (base + 6) []), .rt base .ro (tr u.Progs), .rt (base + 1) .ro (tr u.Procs), .rt (base + 2) .ro (tr u.Opens), .rt (base + 3) .ro (tr u.Pipes), .rt (base + 4) .ro (tr u.Files), .rt (base + 5) .ro (tr u.Ready), .rt (base + 6) .ro (tr u.Out), .sl 1 (.p 1 [] 9 0 0), .sl 39 (.h (base + 1) []), .sl 40 (.v (iv u.Procs.length)), .rt 2 .box (T.s 14 1 fun _ c => [T.v (iv 0), T.v (iv 0), T.s 1 0 fun _ _ => T.j, T.s 11 0 fun _ _ => T.j, T.s 1 0 fun _ _ => T.j, T.s 1 0 fun _ _ => T.j, T.s 5 0 fun _ _ => T.j, T.s 4 0 fun _ _ => T.j, T.s 2 0 fun _ _ => T.j, T.v (.bool false), T.s 1 0 fun _ _ => T.j, T.v (iv 0), T.v (iv 0), T.s 1 0 fun _ _ => T.j].getD c T.j), .rt 4 .box (T.s 14 1 fun _ c => [T.v (iv (procD u i.k).Next), T.v (iv (procD u i.k).Tick), tr (procD u i.k).Progs, tr (procD u i.k).Slots, tr (procD u i.k).Ram, tr (procD u i.k).Map, tr (procD u i.k).Opens, tr (procD u i.k).Pipes, tr (procD u i.k).Files, T.v (.bool (procD u i.k).Ready.Used), tr (procD u i.k).Ready.Buf, T.v (iv (procD u i.k).Ready.Head), T.v (iv (procD u i.k).Ready.Len), tr (procD u i.k).Out].getD c T.j)]) (fun i => u.Procs.length - i.k) ⟨0, Nat.zero_le _⟩ ?_
 intro i
 have hle := i.le
 refine go [.R,.b,.Z] (k := ?_)
 refine AW.seq ?_
 refine cd (fun c2 => ?_) fun c2 => ?_
 ·try simp only [cnd] at c2
  have hme : (u.Procs.getD i.k En.dflt).Mem.length = (atP u i.k).Mem.length := rfl
  have hik := wt_ge (show i.k < u.Procs.length by omega)
  have hik2 : Mk.wt (u.Procs.getD i.k En.dflt) = Mk.wt (u.Procs.getD i.k En.dflt).Cpu.Regs + Mk.wt (u.Procs.getD i.k En.dflt).Mem + Mk.wt (u.Procs.getD i.k En.dflt).Fds := rfl
  have hik3 := wt_ints (u.Procs.getD i.k En.dflt).Cpu.Regs
  have hik4 := wt_ints (u.Procs.getD i.k En.dflt).Fds
  have hsl := slotsD_len (u := u) (i := i.k) (by omega)
  have hsl2 : (pagD u i.k 0).Slots.length = 6 := hsl
  have hmm : (atP u i.k).Mem.length ≤ 12 ∧ (atP u i.k).Mem.length % 4 = 0 := hL.mem i.k (by omega)
  refine jd (AW.seq (AW.block (sr ?_)))
  refine go [.m,.N,.i,.G,.A,.N,.a,.s,.Z] (k := ?_)
  refine AW.seq ?_
  refine go [.D [0, 1, 2, 3, 4, 5, 6, 7, 8, 9, 10, 11, 12, 13, 14, 15, 16, 17, 20, 21, 23],.t 0,.f,.N,.t 1,.l,.t 2,.f,.t 3,.l,.N,.t 4,.f,.t 5,.l,.t 6,.f,.N,.t 7,.l,.t 8,.f,.t 9,.f,.N,.t 10,.l,.t 11,.f,.t 12,.l,.N,.t 13,.f,.t 14,.l,.t 15,.f,.N,.t 16,.f,.t 17,.l,.t 20,.f,.N,.t 21,.l] (k := ?_)
  apply AWA.cutS #[true, true, true, true, true, true, true, true, true, true, true, true, true, true, true, true, true, true, true, true, true, true, true, true, true, false] [0, 1, 2, 3, 4, 5, 6, 7, 8, 9, 10, 11, 12, 13, 14, 23]
  ·intro K8_2
   apply AWA.cutS #[true, true, true, true, true, true, true, true, true, true, true, true, true, true, true, true, true, true, true, true, true, true, false, false, true, false] [0, 1, 2, 3, 4, 5, 6, 7, 8, 9, 10, 11, 12, 13, 14, 20, 21]
   ·intro K8_1
    apply AWA.cutS #[true, true, true, true, true, true, true, true, true, true, true, true, true, true, true, true, true, true, true, false, true, true, false, false, true, false] [0, 1, 2, 3, 4, 5, 6, 7, 8, 9, 10, 11, 12, 13, 14, 20, 21]
    ·intro K8_0
     refine AWA.anyL [18, 24] (by decide +kernel) rfl ⟨?_, ?_, trivial⟩
     ·refine AWA.arm 18 [0, 1, 2, 3, 4, 5, 6, 7, 8, 9, 10, 11, 12, 13, 14, 20, 21] [17, 16, 15] rfl rfl rfl (by decide +kernel) (by decide +kernel) (by decide +kernel) (Stp.callR rfl (by decide) Tryz.call46 rfl rfl (cloneI_con _ (by omega)) (nodup_of rfl) rfl rfl) ?_
      refine go [.N,.g,.f,.g,.l,.g,.f,.N,.g,.l,.g,.f,.g,.l,.N,.g,.f,.g,.l,.g,.f,.N,.g,.f,.g,.l,.g,.f,.N,.g,.l,.g,.f,.g,.l,.N,.g,.f,.g,.l,.N] (k := ?_)
      refine AWA.anyL [19, 24] (by decide +kernel) rfl ⟨?_, ?_, trivial⟩
      ·refine AWA.arm 19 [0, 1, 2, 3, 4, 5, 6, 7, 8, 9, 10, 11, 12, 13, 14, 20, 21] [18, 17, 16, 15] rfl rfl rfl (by decide +kernel) (by decide +kernel) (by decide +kernel) (Stp.callR rfl (by decide) Tryz.call47 rfl rfl noPt_con (nodup_of rfl) rfl rfl) ?_
       refine go [.N,.g,.f,.g,.l,.g,.f,.N,.g,.l,.g,.f,.g,.l,.N,.g,.f,.g,.l,.g,.f,.N,.g,.f,.g,.l,.g,.f,.N,.g,.l,.g,.f,.g,.l,.N,.g,.f,.g,.l,.N] (k := ?_)
       refine AWA.anyL [22, 24] (by decide +kernel) rfl ⟨?_, ?_, trivial⟩
       ·refine AWA.arm 22 [0, 1, 2, 3, 4, 5, 6, 7, 8, 9, 10, 11, 12, 13, 14] [21, 19, 20, 18, 17, 16, 15] rfl rfl rfl (by decide +kernel) (by decide +kernel) (by decide +kernel) (Stp.callR rfl (by decide) Tryz.call46 rfl rfl (cloneI_con _ (by omega)) (nodup_of rfl) rfl rfl) ?_
        refine go [.N,.g,.f,.g,.l,.g,.f,.N,.g,.l,.g,.f,.g,.l,.N,.g,.f,.g,.l,.g,.f,.N,.g,.f,.g,.l,.g,.f,.N,.g,.l,.g,.f,.g,.l,.N] (k := ?_)
        refine AWA.take 23 rfl rfl rfl (by decide +kernel) (.on rfl rfl bd2) ?_
        refine AWA.one 24 [0, 1, 2, 3, 4, 5, 6, 7, 8, 9, 10, 11, 12, 13, 14, 23] [] (by decide +kernel) rfl rfl rfl (by decide +kernel) (by decide +kernel) (by decide +kernel) sA ?_
        refine go [.N,.g,.f,.g,.l,.g,.f,.N,.g,.l,.g,.f,.g,.l,.N,.g,.f,.g,.l,.g,.f,.N,.g,.f,.g,.l,.g,.f,.N,.g,.l,.g,.f,.g,.l,.N] (k := ?_)
        refine ae rfl bd2 ?_
        refine go [.N] (k := ?_)
        exact auR K8_2
       ·refine AWA.arm 24 [0, 1, 2, 3, 4, 5, 6, 7, 8, 9, 10, 11, 12, 13, 14, 20, 21] [] rfl rfl rfl (by decide +kernel) (by decide +kernel) (by decide +kernel) sA ?_
        refine go [.N,.g,.f,.g,.l,.g,.f,.N,.g,.l,.g,.f,.g,.l,.N,.g,.f,.g,.l,.g,.f,.N,.g,.f,.g,.l,.g,.f,.N,.g,.l,.g,.f,.g,.l,.N,.g,.f,.g,.l,.N] (k := ?_)
        exact auR K8_1
      ·refine AWA.arm 24 [0, 1, 2, 3, 4, 5, 6, 7, 8, 9, 10, 11, 12, 13, 14, 20, 21] [] rfl rfl rfl (by decide +kernel) (by decide +kernel) (by decide +kernel) sA ?_
       refine go [.N,.g,.f,.g,.l,.g,.f,.N,.g,.l,.g,.f,.g,.l,.N,.g,.f,.g,.l,.g,.f,.N,.g,.f,.g,.l,.g,.f,.N,.g,.l,.g,.f,.g,.l,.N,.g,.f,.g,.l,.N] (k := ?_)
       exact auR K8_0
     ·refine AWA.arm 24 [0, 1, 2, 3, 4, 5, 6, 7, 8, 9, 10, 11, 12, 13, 14, 15, 16, 17, 20, 21] [] rfl rfl rfl (by decide +kernel) (by decide +kernel) (by decide +kernel) sA ?_
      refine go [.N,.g,.f,.g,.l,.g,.f,.N,.g,.l,.g,.f,.g,.l,.N,.g,.f,.g,.l,.g,.f,.N,.g,.f,.g,.l,.g,.f,.N,.g,.l,.g,.f,.g,.l,.N,.g,.f,.g,.f,.g,.l,.N,.g,.f,.g,.l,.N] (k := ?_)
      refine AWA.one 18 [0, 1, 2, 3, 4, 5, 6, 7, 8, 9, 10, 11, 12, 13, 14, 20, 21] [17, 16, 15] (by decide +kernel) rfl rfl rfl (by decide +kernel) (by decide +kernel) (by decide +kernel) (Stp.callR rfl (by decide) Tryz.call46 rfl rfl (cloneI_con _ (by omega)) (nodup_of rfl) rfl rfl) ?_
      refine go [.N,.g,.f,.g,.l,.g,.f,.N,.g,.l,.g,.f,.g,.l,.N,.g,.f,.g,.l,.g,.f,.N,.g,.f,.g,.l,.g,.f,.N,.g,.l,.g,.f,.g,.l,.N,.g,.f,.g,.l,.N] (k := ?_)
      exact auP K8_0
    ·refine AWA.one 19 [0, 1, 2, 3, 4, 5, 6, 7, 8, 9, 10, 11, 12, 13, 14, 20, 21] [18, 17, 16, 15] (by decide +kernel) rfl rfl rfl (by decide +kernel) (by decide +kernel) (by decide +kernel) (Stp.callR rfl (by decide) Tryz.call47 rfl rfl noPt_con (nodup_of rfl) rfl rfl) ?_
     refine go [.N,.g,.f,.g,.l,.g,.f,.N,.g,.l,.g,.f,.g,.l,.N,.g,.f,.g,.l,.g,.f,.N,.g,.f,.g,.l,.g,.f,.N,.g,.l,.g,.f,.g,.l,.N,.g,.f,.g,.l,.N] (k := ?_)
     exact auP K8_1
   ·refine AWA.one 22 [0, 1, 2, 3, 4, 5, 6, 7, 8, 9, 10, 11, 12, 13, 14] [21, 19, 20, 18, 17, 16, 15] (by decide +kernel) rfl rfl rfl (by decide +kernel) (by decide +kernel) (by decide +kernel) (Stp.callR rfl (by decide) Tryz.call46 rfl rfl (cloneI_con _ (by omega)) (nodup_of rfl) rfl rfl) ?_
    refine go [.N,.g,.f,.g,.l,.g,.f,.N,.g,.l,.g,.f,.g,.l,.N,.g,.f,.g,.l,.g,.f,.N,.g,.f,.g,.l,.g,.f,.N,.g,.l,.g,.f,.g,.l,.N] (k := ?_)
    refine AWA.take 23 rfl rfl rfl (by decide +kernel) (.on rfl rfl bd2) ?_
    refine go [.N] (k := ?_)
    exact auP K8_2
  ·refine AWA.one 25 [] [24, 23, 22, 21, 20, 19, 18, 17, 16, 15, 14, 13, 12, 11, 10, 9, 8, 7, 6, 5, 4, 3, 2, 1, 0] (by decide +kernel) rfl rfl rfl (by decide +kernel) (by decide +kernel) (by decide +kernel) (by first | exact Stp.storeA rfl rfl rfl rfl (by decide) rfl | exact Stp.store rfl rfl (by simp) rfl rfl rfl (by decide) rfl) ?_
   refine go [.N,.Z,.R2,.a,.Z] (k := ?_)
   refine AW.block ?_
   refine AW.weak (L' := (.sl 8 (.v (iv (0 : Nat))) :: .sl 5 (.v (iv i.k)) :: .sl 41 (.v (iv i.k)) :: .sl 6 (.p 6 [] 10 0 0) :: .sl 7 (.p 7 [] 11 0 0) :: .sl 2 (.p 2 [] 14 0 0) :: .sl 4 (.p 4 [] 14 0 0) :: .sl 3 (.v (.bool false)) :: .rt 1 .box (T.s 9 1 fun k c => ([(T.v (iv u.Next), none), (T.v (iv u.Tick), none), (T.j, none), (T.j, none), (T.j, none), (T.j, none), (T.j, none), (T.j, none), (T.j, none)].getD (k * 9 + c) (T.j, none)).fst) :: .al 1 2 (.h base []) :: .al 1 3 (.h (base + 1) []) :: .al 1 4 (.h (base + 2) []) :: .al 1 5 (.h (base + 3) []) :: .al 1 6 (.h (base + 4) []) :: .al 1 7 (.h (base + 5) []) :: .al 1 8 (.h (base + 6) []) :: .rt base .ro (tr u.Progs) :: .rt (base + 1) .ro (tr u.Procs) :: .rt (base + 2) .ro (tr u.Opens) :: .rt (base + 3) .ro (tr u.Pipes) :: .rt (base + 4) .ro (tr u.Files) :: .rt (base + 5) .ro (tr u.Ready) :: .rt (base + 6) .ro (tr u.Out) :: .sl 1 (.p 1 [] 9 0 0) :: .sl 39 (.h (base + 1) []) :: .sl 40 (.v (iv u.Procs.length)) :: .rt 2 .box (T.s 14 1 fun _ c => [T.v (iv 0), T.v (iv 0), T.s 1 0 fun _ _ => T.j, T.s 11 0 fun _ _ => T.j, T.s 1 0 fun _ _ => T.j, T.s 1 0 fun _ _ => T.j, T.s 5 0 fun _ _ => T.j, T.s 4 0 fun _ _ => T.j, T.s 2 0 fun _ _ => T.j, T.v (.bool false), T.s 1 0 fun _ _ => T.j, T.v (iv 0), T.v (iv 0), T.s 1 0 fun _ _ => T.j].getD c T.j) :: .rt 4 .box (T.s 14 1 fun _ c => [T.v (iv (pagD u i.k (0 : Nat)).Next), T.v (iv (pagD u i.k (0 : Nat)).Tick), tr (pagD u i.k (0 : Nat)).Progs, tr (pagD u i.k (0 : Nat)).Slots, tr (pagD u i.k (0 : Nat)).Ram, tr (pagD u i.k (0 : Nat)).Map, tr (pagD u i.k (0 : Nat)).Opens, tr (pagD u i.k (0 : Nat)).Pipes, tr (pagD u i.k (0 : Nat)).Files, T.v (.bool (pagD u i.k (0 : Nat)).Ready.Used), tr (pagD u i.k (0 : Nat)).Ready.Buf, T.v (iv (pagD u i.k (0 : Nat)).Ready.Head), T.v (iv (pagD u i.k (0 : Nat)).Ready.Len), tr (pagD u i.k (0 : Nat)).Out].getD c T.j) :: .rt 6 .box (T.s 10 1 fun _ c => [T.v (iv (u.Procs.getD i.k En.dflt).Pid), T.v (iv (u.Procs.getD i.k En.dflt).Parent), T.v (iv (u.Procs.getD i.k En.dflt).State), T.v (iv (u.Procs.getD i.k En.dflt).Prog), T.v (iv (u.Procs.getD i.k En.dflt).Cpu.Pc), T.j, T.j, T.j, T.v (iv (u.Procs.getD i.k En.dflt).Until), T.v (iv (u.Procs.getD i.k En.dflt).Code)].getD c T.j) :: .al 6 6 (.h (base + 1) [(10, i.k, 6)]) :: .rt 7 .box (T.s 11 1 fun _ c => [T.v (.bool true), T.v (iv (u.Procs.getD i.k En.dflt).Pid), T.v (iv (u.Procs.getD i.k En.dflt).Parent), T.v (iv (u.Procs.getD i.k En.dflt).State), T.v (iv (u.Procs.getD i.k En.dflt).Prog), T.v (iv (u.Procs.getD i.k En.dflt).Cpu.Pc), T.v (iv (u.Procs.getD i.k En.dflt).Until), T.v (iv (u.Procs.getD i.k En.dflt).Code), T.j, T.j, T.j].getD c T.j) :: .al 7 8 (.h 64 []) :: .al 7 9 (.h 65 []) :: .al 7 10 (.h 68 []) :: .rt 64 .row (tr (u.Procs.getD i.k En.dflt).Cpu.Regs) :: .rt 65 .row (tr (ptA (pagesU u.Procs i.k) (0 : Nat))) :: .rt 68 .row (tr (u.Procs.getD i.k En.dflt).Fds) :: [])) (Weak.sim ⟨rfl, rfl, rfl, rfl, rfl, rfl, rfl, rfl, Rf rfl, ⟨rfl, rfl⟩, ⟨rfl, rfl⟩, ⟨rfl, rfl⟩, ⟨rfl, rfl⟩, ⟨rfl, rfl⟩, ⟨rfl, rfl⟩, ⟨rfl, rfl⟩, Rf rfl, Rf rfl, Rf rfl, Rf rfl, Rf rfl, Rf rfl, Rf rfl, rfl, rfl, rfl, ⟨_, rfl, (scA_sim (n := 14) (fun c hc => match c, hc with | 0, _ => tsr | 1, _ => tsr | 2, _ => tsr | 3, _ => tsr | 4, _ => tsr | 5, _ => tsr | 6, _ => tsr | 7, _ => tsr | 8, _ => tsr | 9, _ => tsr | 10, _ => tsr | 11, _ => tsr | 12, _ => tsr | 13, _ => tsr | c + 14, hc => absurd hc (by omega)))⟩, ⟨_, rfl, by rw [pag_0]; exact (scA_sim (n := 14) (fun c hc => match c, hc with | 0, _ => tsr | 1, _ => tsr | 2, _ => tsr | 3, _ => tsr | 4, _ => tsr | 5, _ => tsr | 6, _ => tsr | 7, _ => tsr | 8, _ => tsr | 9, _ => tsr | 10, _ => tsr | 11, _ => tsr | 12, _ => tsr | 13, _ => tsr | c + 14, hc => absurd hc (by omega)))⟩, ⟨_, rfl, (scA_sim (n := 10) (fun c hc => match c, hc with | 0, _ => tsr | 1, _ => tsr | 2, _ => tsr | 3, _ => tsr | 4, _ => tsr | 5, _ => tsr | 6, _ => tsr | 7, _ => tsr | 8, _ => tsr | 9, _ => tsr | c + 10, hc => absurd hc (by omega)))⟩, ⟨rfl, rfl⟩, ⟨_, rfl, (scA_sim (n := 11) (fun c hc => match c, hc with | 0, _ => tsr | 1, _ => tsr | 2, _ => tsr | 3, _ => tsr | 4, _ => tsr | 5, _ => tsr | 6, _ => tsr | 7, _ => tsr | 8, _ => tsr | 9, _ => tsr | 10, _ => tsr | c + 11, hc => absurd hc (by omega)))⟩, ⟨rfl, rfl⟩, ⟨rfl, rfl⟩, ⟨rfl, rfl⟩, Rf rfl, Rf rfl, Rf rfl, trivial⟩ rfl rfl) ?_
   refine AW.loop (fun j : KInv ((atP u i.k).Mem.length / 4) => (.sl 8 (.v (iv j.k)) :: .sl 5 (.v (iv i.k)) :: .sl 41 (.v (iv i.k)) :: .sl 6 (.p 6 [] 10 0 0) :: .sl 7 (.p 7 [] 11 0 0) :: .sl 2 (.p 2 [] 14 0 0) :: .sl 4 (.p 4 [] 14 0 0) :: .sl 3 (.v (.bool false)) :: .rt 1 .box (T.s 9 1 fun k c => ([(T.v (iv u.Next), none), (T.v (iv u.Tick), none), (T.j, none), (T.j, none), (T.j, none), (T.j, none), (T.j, none), (T.j, none), (T.j, none)].getD (k * 9 + c) (T.j, none)).fst) :: .al 1 2 (.h base []) :: .al 1 3 (.h (base + 1) []) :: .al 1 4 (.h (base + 2) []) :: .al 1 5 (.h (base + 3) []) :: .al 1 6 (.h (base + 4) []) :: .al 1 7 (.h (base + 5) []) :: .al 1 8 (.h (base + 6) []) :: .rt base .ro (tr u.Progs) :: .rt (base + 1) .ro (tr u.Procs) :: .rt (base + 2) .ro (tr u.Opens) :: .rt (base + 3) .ro (tr u.Pipes) :: .rt (base + 4) .ro (tr u.Files) :: .rt (base + 5) .ro (tr u.Ready) :: .rt (base + 6) .ro (tr u.Out) :: .sl 1 (.p 1 [] 9 0 0) :: .sl 39 (.h (base + 1) []) :: .sl 40 (.v (iv u.Procs.length)) :: .rt 2 .box (T.s 14 1 fun _ c => [T.v (iv 0), T.v (iv 0), T.s 1 0 fun _ _ => T.j, T.s 11 0 fun _ _ => T.j, T.s 1 0 fun _ _ => T.j, T.s 1 0 fun _ _ => T.j, T.s 5 0 fun _ _ => T.j, T.s 4 0 fun _ _ => T.j, T.s 2 0 fun _ _ => T.j, T.v (.bool false), T.s 1 0 fun _ _ => T.j, T.v (iv 0), T.v (iv 0), T.s 1 0 fun _ _ => T.j].getD c T.j) :: .rt 4 .box (T.s 14 1 fun _ c => [T.v (iv (pagD u i.k j.k).Next), T.v (iv (pagD u i.k j.k).Tick), tr (pagD u i.k j.k).Progs, tr (pagD u i.k j.k).Slots, tr (pagD u i.k j.k).Ram, tr (pagD u i.k j.k).Map, tr (pagD u i.k j.k).Opens, tr (pagD u i.k j.k).Pipes, tr (pagD u i.k j.k).Files, T.v (.bool (pagD u i.k j.k).Ready.Used), tr (pagD u i.k j.k).Ready.Buf, T.v (iv (pagD u i.k j.k).Ready.Head), T.v (iv (pagD u i.k j.k).Ready.Len), tr (pagD u i.k j.k).Out].getD c T.j) :: .rt 6 .box (T.s 10 1 fun _ c => [T.v (iv (u.Procs.getD i.k En.dflt).Pid), T.v (iv (u.Procs.getD i.k En.dflt).Parent), T.v (iv (u.Procs.getD i.k En.dflt).State), T.v (iv (u.Procs.getD i.k En.dflt).Prog), T.v (iv (u.Procs.getD i.k En.dflt).Cpu.Pc), T.j, T.j, T.j, T.v (iv (u.Procs.getD i.k En.dflt).Until), T.v (iv (u.Procs.getD i.k En.dflt).Code)].getD c T.j) :: .al 6 6 (.h (base + 1) [(10, i.k, 6)]) :: .rt 7 .box (T.s 11 1 fun _ c => [T.v (.bool true), T.v (iv (u.Procs.getD i.k En.dflt).Pid), T.v (iv (u.Procs.getD i.k En.dflt).Parent), T.v (iv (u.Procs.getD i.k En.dflt).State), T.v (iv (u.Procs.getD i.k En.dflt).Prog), T.v (iv (u.Procs.getD i.k En.dflt).Cpu.Pc), T.v (iv (u.Procs.getD i.k En.dflt).Until), T.v (iv (u.Procs.getD i.k En.dflt).Code), T.j, T.j, T.j].getD c T.j) :: .al 7 8 (.h 64 []) :: .al 7 9 (.h 65 []) :: .al 7 10 (.h 68 []) :: .rt 64 .row (tr (u.Procs.getD i.k En.dflt).Cpu.Regs) :: .rt 65 .row (tr (ptA (pagesU u.Procs i.k) j.k)) :: .rt 68 .row (tr (u.Procs.getD i.k En.dflt).Fds) :: [])) (fun j => (atP u i.k).Mem.length / 4 - j.k) ⟨0, Nat.zero_le _⟩ ?_
   intro j
   have hlej := j.le
   refine go [.R2,.m,.N] (k := ?_)
   refine qq (Qt.binOp rfl rfl (by first | exact pbMul (by omega) | rfl)) ?_
   refine go [.f,.l,.N,.h,.b,.Z] (k := ?_)
   refine cd (fun c3 => ?_) fun c3 => ?_
   ·have k3 := c3
    try simp only [cnd] at c3
    have hjm : 4 * j.k < (atP u i.k).Mem.length := by have hk := k3; first | omega | (simp only [decide_eq_true_eq] at hk; omega)
    have hpl := pages_lt hL (show i.k < u.Procs.length by omega) hjm
    have hptl := ptA_len (t := pagesU u.Procs i.k) (k := j.k) (by omega)
    refine jd (AW.seq (AW.block ?_))
    refine go [.D [0, 1, 2, 3, 4, 5, 6, 7, 8, 9, 10, 12],.t 0,.f,.N,.t 1,.l,.t 2,.m,.t 3,.f,.N,.t 4,.l,.t 5,.m] (k := ?_)
    refine tk 6 rfl (Qt.binOp rfl rfl (by first | exact pbMul (by omega) | rfl)) ?_
    refine go [.N,.t 7,.m,.t 8,.b] (k := ?_)
    refine tk 9 rfl (Qt.binOp rfl rfl (by first | exact pbMul (by omega) | rfl)) ?_
    refine go [.N] (k := ?_)
    refine tk 10 rfl (Qt.sliceH rfl rfl rfl SlI.sl SzI.ok (by decide) (slB_sn rfl (by omega)) (slB_sn rfl (by omega)) (by omega) (by omega)) ?_
    refine AWA.weak (Weak.viewAQ 88 900 rfl rfl ⟨rfl, by omega, by decide, trivial⟩ rfl (.inr (by omega)) rfl (by decide)) ?_
    refine go [.N] (k := ?_)
    refine AWA.rep 900 (tr (((atP u i.k).Mem.drop (4 * j.k)).take 4)) rfl (by rw [show 4 * j.k = j.k * 4 by omega]; exact view_w (by omega) (by show _ ≤ (atP u i.k).Mem.length; omega)) ?_
    refine go [.N] (k := ?_)
    refine a1 11 [0, 1, 2] [10, 9, 6, 4, 8, 5, 3, 7] rfl rfl (Stp.callH rfl (by decide) Tryz.call48 rfl (aTake_con u hL i.k j.k (by omega) hjm) rfl rfl rfl (nodup_of rfl) rfl rfl) ?_
    refine go [.N,.g,.f,.N,.g,.l,.N,.g,.m,.N,.t 12,.i,.O 13 [] [12, 11, 10, 9, 8, 7, 6, 5, 4, 3, 2, 1, 0],.s,.N] (k := ?_)
    refine AWA.rep 65 (tr (ptA (pagesU u.Procs i.k) (j.k + 1))) rfl (by rw [← ptA_set (t := pagesU u.Procs i.k) (k := j.k) (by omega)]; exact (set_sim (fun k c hk => by simp only [upd_app, hk, false_and, if_false]; try rfl) (fun c hc => match c, hc with | 0, _ => (by simp only [upd_app, eq_self, and_self, if_true]; exact tsr) | c + 1, hc => absurd hc (by simp only [En.n]; omega)))) ?_
    refine go [.N,.Z,.R1,.m,.b,.a,.Z] (k := ?_)
    refine ⟨⟨j.k + 1, by omega⟩, Weak.sim ⟨st1, rfl, rfl, rfl, rfl, rfl, rfl, rfl, Rf rfl, ⟨rfl, rfl⟩, ⟨rfl, rfl⟩, ⟨rfl, rfl⟩, ⟨rfl, rfl⟩, ⟨rfl, rfl⟩, ⟨rfl, rfl⟩, ⟨rfl, rfl⟩, Rf rfl, Rf rfl, Rf rfl, Rf rfl, Rf rfl, Rf rfl, Rf rfl, rfl, rfl, rfl, ⟨_, rfl, (scA_sim (n := 14) (fun c hc => match c, hc with | 0, _ => tsr | 1, _ => tsr | 2, _ => tsr | 3, _ => tsr | 4, _ => tsr | 5, _ => tsr | 6, _ => tsr | 7, _ => tsr | 8, _ => tsr | 9, _ => tsr | 10, _ => tsr | 11, _ => tsr | 12, _ => tsr | 13, _ => tsr | c + 14, hc => absurd hc (by omega)))⟩, ⟨_, rfl, (scA_sim (n := 14) (fun c hc => match c, hc with | 0, _ => tsr | 1, _ => tsr | 2, _ => tsr | 3, _ => tsr | 4, _ => tsr | 5, _ => tsr | 6, _ => tsr | 7, _ => tsr | 8, _ => tsr | 9, _ => tsr | 10, _ => tsr | 11, _ => tsr | 12, _ => tsr | 13, _ => tsr | c + 14, hc => absurd hc (by omega)))⟩, ⟨_, rfl, (scA_sim (n := 10) (fun c hc => match c, hc with | 0, _ => tsr | 1, _ => tsr | 2, _ => tsr | 3, _ => tsr | 4, _ => tsr | 5, _ => tsr | 6, _ => tsr | 7, _ => tsr | 8, _ => tsr | 9, _ => tsr | c + 10, hc => absurd hc (by omega)))⟩, ⟨rfl, rfl⟩, ⟨_, rfl, (scA_sim (n := 11) (fun c hc => match c, hc with | 0, _ => tsr | 1, _ => tsr | 2, _ => tsr | 3, _ => tsr | 4, _ => tsr | 5, _ => tsr | 6, _ => tsr | 7, _ => tsr | 8, _ => tsr | 9, _ => tsr | 10, _ => tsr | c + 11, hc => absurd hc (by omega)))⟩, ⟨rfl, rfl⟩, ⟨rfl, rfl⟩, ⟨rfl, rfl⟩, Rf rfl, Rf rfl, Rf rfl, trivial⟩ rfl rfl, ?_⟩
    show (atP u i.k).Mem.length / 4 - (j.k + 1) < (atP u i.k).Mem.length / 4 - j.k
    omega
   have k3 := c3
   try simp only [cnd] at c3
   have hsl3 : (pagD u i.k j.k).Slots.length = 6 := hsl
   refine AW.exit ?_
   dsimp only [thenQ, blockQ, reduceIte]
   refine go [.R1,.f,.N,.l,.m,.G,.N,.i] (k := ?_)
   refine sp (Stp.store rfl rfl (by simp) rfl rfl rfl (by decide) (by simp only [stCells, stOk, neM, menM, zpos, List.all_cons, List.all_nil, go_sem, reduceIte, Nat.reduceEqDiff, Nat.reduceBEq, reduceCtorEq, Bool.not_false, Bool.not_true]; rfl)) ?_
   refine AWL.rep 4 (T.s 14 1 fun _ c => [T.v (iv (procD u (i.k + 1)).Next), T.v (iv (procD u (i.k + 1)).Tick), tr (procD u (i.k + 1)).Progs, tr (procD u (i.k + 1)).Slots, tr (procD u (i.k + 1)).Ram, tr (procD u (i.k + 1)).Map, tr (procD u (i.k + 1)).Opens, tr (procD u (i.k + 1)).Pipes, tr (procD u (i.k + 1)).Files, T.v (.bool (procD u (i.k + 1)).Ready.Used), tr (procD u (i.k + 1)).Ready.Buf, T.v (iv (procD u (i.k + 1)).Ready.Head), T.v (iv (procD u (i.k + 1)).Ready.Len), tr (procD u (i.k + 1)).Out].getD c T.j) rfl (scA_sim (n := 14) (fun c hc => match c, hc with | 0, _ => tsr | 1, _ => tsr | 2, _ => tsr | 3, _ => (by rw [← pag_end (i := i.k) (j := j.k) hL (by omega) (by omega)]; exact (by simp only [upd_app, eq_self, and_true, true_and, if_true]; exact (set_sim (α := DASlot) (l := (slotsD u i.k)) (i := i.k) (a := (slotD (atP u i.k) (pagesU u.Procs i.k) j.k)) (fun k c hk => by simp only [upd_app, hk, false_and, if_false]; rfl) (fun c hc => match c, hc with | 0, _ => (by simp only [upd_app, eq_self, and_true, and_false, Nat.reduceEqDiff, if_true, if_false]; exact tsr) | 1, _ => (by simp only [upd_app, eq_self, and_true, and_false, Nat.reduceEqDiff, if_true, if_false]; exact tsr) | 2, _ => (by simp only [upd_app, eq_self, and_true, and_false, Nat.reduceEqDiff, if_true, if_false]; exact tsr) | 3, _ => (by simp only [upd_app, eq_self, and_true, and_false, Nat.reduceEqDiff, if_true, if_false]; exact tsr) | 4, _ => (by simp only [upd_app, eq_self, and_true, and_false, Nat.reduceEqDiff, if_true, if_false]; exact tsr) | 5, _ => (by simp only [upd_app, eq_self, and_true, and_false, Nat.reduceEqDiff, if_true, if_false]; exact tsr) | 6, _ => (by simp only [upd_app, eq_self, and_true, and_false, Nat.reduceEqDiff, if_true, if_false]; exact tsr) | 7, _ => (by simp only [upd_app, eq_self, and_true, and_false, Nat.reduceEqDiff, if_true, if_false]; exact tsr) | 8, _ => (by simp only [upd_app, eq_self, and_true, and_false, Nat.reduceEqDiff, if_true, if_false]; exact tsr) | 9, _ => (by simp only [upd_app, eq_self, and_true, and_false, Nat.reduceEqDiff, if_true, if_false]; exact tsr) | 10, _ => (by simp only [upd_app, eq_self, and_true, and_false, Nat.reduceEqDiff, if_true, if_false]; exact tsr) | c + 11, hc => absurd hc (by simp only [En.n]; omega))))) | 4, _ => (by rw [← pag_end (i := i.k) (j := j.k) hL (by omega) (by omega)]; exact tsr) | 5, _ => (by rw [← pag_end (i := i.k) (j := j.k) hL (by omega) (by omega)]; exact tsr) | 6, _ => tsr | 7, _ => tsr | 8, _ => tsr | 9, _ => tsr | 10, _ => tsr | 11, _ => tsr | 12, _ => tsr | 13, _ => tsr | c + 14, hc => absurd hc (by omega))) ?_
   refine go [.Z,.R1,.b,.N,.m,.Z] (k := ?_)
   refine ⟨⟨i.k + 1, by omega⟩, Weak.sim ⟨st1, rfl, rfl, rfl, Rf rfl, ⟨rfl, rfl⟩, ⟨rfl, rfl⟩, ⟨rfl, rfl⟩, ⟨rfl, rfl⟩, ⟨rfl, rfl⟩, ⟨rfl, rfl⟩, ⟨rfl, rfl⟩, Rf rfl, Rf rfl, Rf rfl, Rf rfl, Rf rfl, Rf rfl, Rf rfl, rfl, rfl, rfl, ⟨_, rfl, (scA_sim (n := 14) (fun c hc => match c, hc with | 0, _ => tsr | 1, _ => tsr | 2, _ => tsr | 3, _ => tsr | 4, _ => tsr | 5, _ => tsr | 6, _ => tsr | 7, _ => tsr | 8, _ => tsr | 9, _ => tsr | 10, _ => tsr | 11, _ => tsr | 12, _ => tsr | 13, _ => tsr | c + 14, hc => absurd hc (by omega)))⟩, ⟨_, rfl, (scA_sim (n := 14) (fun c hc => match c, hc with | 0, _ => tsr | 1, _ => tsr | 2, _ => tsr | 3, _ => tsr | 4, _ => tsr | 5, _ => tsr | 6, _ => tsr | 7, _ => tsr | 8, _ => tsr | 9, _ => tsr | 10, _ => tsr | 11, _ => tsr | 12, _ => tsr | 13, _ => tsr | c + 14, hc => absurd hc (by omega)))⟩, trivial⟩ rfl rfl, ?_⟩
   show u.Procs.length - (i.k + 1) < u.Procs.length - i.k
   omega
 try simp only [cnd] at c2
 refine AW.exit ?_
 dsimp only [thenQ, blockQ, reduceIte]
 refine go [.R2,.f,.l,.N,.h,.m,.Z] (k := ?_)
 refine AW.block ?_
 refine AW.weak (L' := [.sl 100 (.v (iv (0 : Nat))), .sl 2 (.p 2 [] 14 0 0), .sl 4 (.p 4 [] 14 0 0), .sl 3 (.v (.bool false)), .rt 1 .box (T.s 9 1 fun k c => ([(T.v (iv u.Next), none), (T.v (iv u.Tick), none), (T.j, none), (T.j, none), (T.j, none), (T.j, none), (T.j, none), (T.j, none), (T.j, none)].getD (k * 9 + c) (T.j, none)).fst), .al 1 2 (.h base []), .al 1 3 (.h (base + 1) []), .al 1 4 (.h (base + 2) []), .al 1 5 (.h (base + 3) []), .al 1 6 (.h (base + 4) []), .al 1 7 (.h (base + 5) []), .al 1 8 (.h (base + 6) []), .rt base .ro (tr u.Progs), .rt (base + 1) .ro (tr u.Procs), .rt (base + 2) .ro (tr u.Opens), .rt (base + 3) .ro (tr u.Pipes), .rt (base + 4) .ro (tr u.Files), .rt (base + 5) .ro (tr u.Ready), .rt (base + 6) .ro (tr u.Out), .sl 1 (.p 1 [] 9 0 0), .sl 98 (.h (base + 2) []), .sl 99 (.v (iv u.Opens.length)), .rt 2 .box (T.s 14 1 fun _ c => [T.v (iv 0), T.v (iv 0), T.s 1 0 fun _ _ => T.j, T.s 11 0 fun _ _ => T.j, T.s 1 0 fun _ _ => T.j, T.s 1 0 fun _ _ => T.j, T.s 5 0 fun _ _ => T.j, T.s 4 0 fun _ _ => T.j, T.s 2 0 fun _ _ => T.j, T.v (.bool false), T.s 1 0 fun _ _ => T.j, T.v (iv 0), T.v (iv 0), T.s 1 0 fun _ _ => T.j].getD c T.j), .rt 4 .box (T.s 14 1 fun _ c => [T.v (iv (opD u (0 : Nat)).Next), T.v (iv (opD u (0 : Nat)).Tick), tr (opD u (0 : Nat)).Progs, tr (opD u (0 : Nat)).Slots, tr (opD u (0 : Nat)).Ram, tr (opD u (0 : Nat)).Map, tr (opD u (0 : Nat)).Opens, tr (opD u (0 : Nat)).Pipes, tr (opD u (0 : Nat)).Files, T.v (.bool (opD u (0 : Nat)).Ready.Used), tr (opD u (0 : Nat)).Ready.Buf, T.v (iv (opD u (0 : Nat)).Ready.Head), T.v (iv (opD u (0 : Nat)).Ready.Len), tr (opD u (0 : Nat)).Out].getD c T.j)]) (Weak.sim ⟨rfl, rfl, rfl, rfl, Rf rfl, ⟨rfl, rfl⟩, ⟨rfl, rfl⟩, ⟨rfl, rfl⟩, ⟨rfl, rfl⟩, ⟨rfl, rfl⟩, ⟨rfl, rfl⟩, ⟨rfl, rfl⟩, Rf rfl, Rf rfl, Rf rfl, Rf rfl, Rf rfl, Rf rfl, Rf rfl, rfl, rfl, rfl, ⟨_, rfl, (scA_sim (n := 14) (fun c hc => match c, hc with | 0, _ => tsr | 1, _ => tsr | 2, _ => tsr | 3, _ => tsr | 4, _ => tsr | 5, _ => tsr | 6, _ => tsr | 7, _ => tsr | 8, _ => tsr | 9, _ => tsr | 10, _ => tsr | 11, _ => tsr | 12, _ => tsr | 13, _ => tsr | c + 14, hc => absurd hc (by omega)))⟩, ⟨_, rfl, by rw [show i.k = u.Procs.length by omega]; exact (scA_sim (n := 14) (fun c hc => match c, hc with | 0, _ => tsr | 1, _ => tsr | 2, _ => tsr | 3, _ => tsr | 4, _ => tsr | 5, _ => tsr | 6, _ => tsr | 7, _ => tsr | 8, _ => tsr | 9, _ => tsr | 10, _ => tsr | 11, _ => tsr | 12, _ => tsr | 13, _ => tsr | c + 14, hc => absurd hc (by omega)))⟩, trivial⟩ rfl rfl) ?_
 refine AW.loop (fun i : KInv u.Opens.length => [.sl 100 (.v (iv i.k)), .sl 2 (.p 2 [] 14 0 0), .sl 4 (.p 4 [] 14 0 0), .sl 3 (.v (.bool false)), .rt 1 .box (T.s 9 1 fun k c => ([(T.v (iv u.Next), none), (T.v (iv u.Tick), none), (T.j, none), (T.j, none), (T.j, none), (T.j, none), (T.j, none), (T.j, none), (T.j, none)].getD (k * 9 + c) (T.j, none)).fst), .al 1 2 (.h base []), .al 1 3 (.h (base + 1) []), .al 1 4 (.h (base + 2) []), .al 1 5 (.h (base + 3) []), .al 1 6 (.h (base + 4) []), .al 1 7 (.h (base + 5) []), .al 1 8 (.h (base + 6) []), .rt base .ro (tr u.Progs), .rt (base + 1) .ro (tr u.Procs), .rt (base + 2) .ro (tr u.Opens), .rt (base + 3) .ro (tr u.Pipes), .rt (base + 4) .ro (tr u.Files), .rt (base + 5) .ro (tr u.Ready), .rt (base + 6) .ro (tr u.Out), .sl 1 (.p 1 [] 9 0 0), .sl 98 (.h (base + 2) []), .sl 99 (.v (iv u.Opens.length)), .rt 2 .box (T.s 14 1 fun _ c => [T.v (iv 0), T.v (iv 0), T.s 1 0 fun _ _ => T.j, T.s 11 0 fun _ _ => T.j, T.s 1 0 fun _ _ => T.j, T.s 1 0 fun _ _ => T.j, T.s 5 0 fun _ _ => T.j, T.s 4 0 fun _ _ => T.j, T.s 2 0 fun _ _ => T.j, T.v (.bool false), T.s 1 0 fun _ _ => T.j, T.v (iv 0), T.v (iv 0), T.s 1 0 fun _ _ => T.j].getD c T.j), .rt 4 .box (T.s 14 1 fun _ c => [T.v (iv (opD u i.k).Next), T.v (iv (opD u i.k).Tick), tr (opD u i.k).Progs, tr (opD u i.k).Slots, tr (opD u i.k).Ram, tr (opD u i.k).Map, tr (opD u i.k).Opens, tr (opD u i.k).Pipes, tr (opD u i.k).Files, T.v (.bool (opD u i.k).Ready.Used), tr (opD u i.k).Ready.Buf, T.v (iv (opD u i.k).Ready.Head), T.v (iv (opD u i.k).Ready.Len), tr (opD u i.k).Out].getD c T.j)]) (fun i => u.Opens.length - i.k) ⟨0, Nat.zero_le _⟩ ?_
 intro i
 have hle := i.le
 refine go [.R,.b,.Z] (k := ?_)
 refine AW.seq ?_
 refine cd (fun c4 => ?_) fun c4 => ?_
 ·try simp only [cnd] at c4
  have hox := hL.open_ i.k (by omega)
  have hol : (opD u i.k).Opens.length = 8 := opensD_len
  refine jd (AW.seq (AW.block (sr ?_)))
  refine go [.i,.N,.G,.A,.N,.s,.Z,.R1,.f,.N,.l,.f,.l,.N,.f,.l,.f,.N,.l,.f,.l,.N,.f,.l,.u,.N,.i,.s,.N] (k := ?_)
  refine AWL.rep 4 (T.s 14 1 fun _ c => [T.v (iv (opD u (i.k + 1)).Next), T.v (iv (opD u (i.k + 1)).Tick), tr (opD u (i.k + 1)).Progs, tr (opD u (i.k + 1)).Slots, tr (opD u (i.k + 1)).Ram, tr (opD u (i.k + 1)).Map, tr (opD u (i.k + 1)).Opens, tr (opD u (i.k + 1)).Pipes, tr (opD u (i.k + 1)).Files, T.v (.bool (opD u (i.k + 1)).Ready.Used), tr (opD u (i.k + 1)).Ready.Buf, T.v (iv (opD u (i.k + 1)).Ready.Head), T.v (iv (opD u (i.k + 1)).Ready.Len), tr (opD u (i.k + 1)).Out].getD c T.j) rfl (scA_sim (n := 14) (fun c hc => match c, hc with | 0, _ => tsr | 1, _ => tsr | 2, _ => tsr | 3, _ => tsr | 4, _ => tsr | 5, _ => tsr | 6, _ => (by show T.sim _ (tr (opensD u (i.k + 1))); rw [opensD_next (by omega)]; exact (by simp only [upd_app, eq_self, and_true, true_and, if_true]; exact (set_sim (α := DAOpen) (l := (opensD u i.k)) (i := (u.Opens.getD i.k En.dflt).Id.toNat) (a := (openD (u.Opens.getD i.k En.dflt))) (fun k c hk => by simp only [upd_app, hk, false_and, if_false]; rfl) (fun c hc => match c, hc with | 0, _ => (by simp only [upd_app, eq_self, and_true, and_false, Nat.reduceEqDiff, if_true, if_false]; exact tsr) | 1, _ => (by simp only [upd_app, eq_self, and_true, and_false, Nat.reduceEqDiff, if_true, if_false]; exact tsr) | 2, _ => (by simp only [upd_app, eq_self, and_true, and_false, Nat.reduceEqDiff, if_true, if_false]; exact tsr) | 3, _ => (by simp only [upd_app, eq_self, and_true, and_false, Nat.reduceEqDiff, if_true, if_false]; exact tsr) | 4, _ => (by simp only [upd_app, eq_self, and_true, and_false, Nat.reduceEqDiff, if_true, if_false]; exact tsr) | c + 5, hc => absurd hc (by simp only [En.n]; omega))))) | 7, _ => tsr | 8, _ => tsr | 9, _ => tsr | 10, _ => tsr | 11, _ => tsr | 12, _ => tsr | 13, _ => tsr | c + 14, hc => absurd hc (by omega))) ?_
  refine go [.Z,.R1,.b,.N,.m,.Z] (k := ?_)
  refine ⟨⟨i.k + 1, by omega⟩, Weak.sim ⟨st1, rfl, rfl, rfl, Rf rfl, ⟨rfl, rfl⟩, ⟨rfl, rfl⟩, ⟨rfl, rfl⟩, ⟨rfl, rfl⟩, ⟨rfl, rfl⟩, ⟨rfl, rfl⟩, ⟨rfl, rfl⟩, Rf rfl, Rf rfl, Rf rfl, Rf rfl, Rf rfl, Rf rfl, Rf rfl, rfl, rfl, rfl, ⟨_, rfl, (scA_sim (n := 14) (fun c hc => match c, hc with | 0, _ => tsr | 1, _ => tsr | 2, _ => tsr | 3, _ => tsr | 4, _ => tsr | 5, _ => tsr | 6, _ => tsr | 7, _ => tsr | 8, _ => tsr | 9, _ => tsr | 10, _ => tsr | 11, _ => tsr | 12, _ => tsr | 13, _ => tsr | c + 14, hc => absurd hc (by omega)))⟩, ⟨_, rfl, (scA_sim (n := 14) (fun c hc => match c, hc with | 0, _ => tsr | 1, _ => tsr | 2, _ => tsr | 3, _ => tsr | 4, _ => tsr | 5, _ => tsr | 6, _ => tsr | 7, _ => tsr | 8, _ => tsr | 9, _ => tsr | 10, _ => tsr | 11, _ => tsr | 12, _ => tsr | 13, _ => tsr | c + 14, hc => absurd hc (by omega)))⟩, trivial⟩ rfl rfl, ?_⟩
  show u.Opens.length - (i.k + 1) < u.Opens.length - i.k
  omega
 try simp only [cnd] at c4
 refine AW.exit ?_
 dsimp only [thenQ, blockQ, reduceIte]
 refine go [.R2,.f,.l,.N,.h,.m,.Z] (k := ?_)
 refine AW.block ?_
 refine AW.weak (L' := [.sl 122 (.v (iv (0 : Nat))), .sl 2 (.p 2 [] 14 0 0), .sl 4 (.p 4 [] 14 0 0), .sl 3 (.v (.bool false)), .rt 1 .box (T.s 9 1 fun k c => ([(T.v (iv u.Next), none), (T.v (iv u.Tick), none), (T.j, none), (T.j, none), (T.j, none), (T.j, none), (T.j, none), (T.j, none), (T.j, none)].getD (k * 9 + c) (T.j, none)).fst), .al 1 2 (.h base []), .al 1 3 (.h (base + 1) []), .al 1 4 (.h (base + 2) []), .al 1 5 (.h (base + 3) []), .al 1 6 (.h (base + 4) []), .al 1 7 (.h (base + 5) []), .al 1 8 (.h (base + 6) []), .rt base .ro (tr u.Progs), .rt (base + 1) .ro (tr u.Procs), .rt (base + 2) .ro (tr u.Opens), .rt (base + 3) .ro (tr u.Pipes), .rt (base + 4) .ro (tr u.Files), .rt (base + 5) .ro (tr u.Ready), .rt (base + 6) .ro (tr u.Out), .sl 1 (.p 1 [] 9 0 0), .sl 120 (.h (base + 3) []), .sl 121 (.v (iv u.Pipes.length)), .rt 2 .box (T.s 14 1 fun _ c => [T.v (iv 0), T.v (iv 0), T.s 1 0 fun _ _ => T.j, T.s 11 0 fun _ _ => T.j, T.s 1 0 fun _ _ => T.j, T.s 1 0 fun _ _ => T.j, T.s 5 0 fun _ _ => T.j, T.s 4 0 fun _ _ => T.j, T.s 2 0 fun _ _ => T.j, T.v (.bool false), T.s 1 0 fun _ _ => T.j, T.v (iv 0), T.v (iv 0), T.s 1 0 fun _ _ => T.j].getD c T.j), .rt 4 .box (T.s 14 1 fun _ c => [T.v (iv (piD u (0 : Nat)).Next), T.v (iv (piD u (0 : Nat)).Tick), tr (piD u (0 : Nat)).Progs, tr (piD u (0 : Nat)).Slots, tr (piD u (0 : Nat)).Ram, tr (piD u (0 : Nat)).Map, tr (piD u (0 : Nat)).Opens, tr (piD u (0 : Nat)).Pipes, tr (piD u (0 : Nat)).Files, T.v (.bool (piD u (0 : Nat)).Ready.Used), tr (piD u (0 : Nat)).Ready.Buf, T.v (iv (piD u (0 : Nat)).Ready.Head), T.v (iv (piD u (0 : Nat)).Ready.Len), tr (piD u (0 : Nat)).Out].getD c T.j)]) (Weak.sim ⟨rfl, rfl, rfl, rfl, Rf rfl, ⟨rfl, rfl⟩, ⟨rfl, rfl⟩, ⟨rfl, rfl⟩, ⟨rfl, rfl⟩, ⟨rfl, rfl⟩, ⟨rfl, rfl⟩, ⟨rfl, rfl⟩, Rf rfl, Rf rfl, Rf rfl, Rf rfl, Rf rfl, Rf rfl, Rf rfl, rfl, rfl, rfl, ⟨_, rfl, (scA_sim (n := 14) (fun c hc => match c, hc with | 0, _ => tsr | 1, _ => tsr | 2, _ => tsr | 3, _ => tsr | 4, _ => tsr | 5, _ => tsr | 6, _ => tsr | 7, _ => tsr | 8, _ => tsr | 9, _ => tsr | 10, _ => tsr | 11, _ => tsr | 12, _ => tsr | 13, _ => tsr | c + 14, hc => absurd hc (by omega)))⟩, ⟨_, rfl, by rw [show i.k = u.Opens.length by omega]; exact (scA_sim (n := 14) (fun c hc => match c, hc with | 0, _ => tsr | 1, _ => tsr | 2, _ => tsr | 3, _ => tsr | 4, _ => tsr | 5, _ => tsr | 6, _ => tsr | 7, _ => tsr | 8, _ => tsr | 9, _ => tsr | 10, _ => tsr | 11, _ => tsr | 12, _ => tsr | 13, _ => tsr | c + 14, hc => absurd hc (by omega)))⟩, trivial⟩ rfl rfl) ?_
 refine AW.loop (fun i : KInv u.Pipes.length => [.sl 122 (.v (iv i.k)), .sl 2 (.p 2 [] 14 0 0), .sl 4 (.p 4 [] 14 0 0), .sl 3 (.v (.bool false)), .rt 1 .box (T.s 9 1 fun k c => ([(T.v (iv u.Next), none), (T.v (iv u.Tick), none), (T.j, none), (T.j, none), (T.j, none), (T.j, none), (T.j, none), (T.j, none), (T.j, none)].getD (k * 9 + c) (T.j, none)).fst), .al 1 2 (.h base []), .al 1 3 (.h (base + 1) []), .al 1 4 (.h (base + 2) []), .al 1 5 (.h (base + 3) []), .al 1 6 (.h (base + 4) []), .al 1 7 (.h (base + 5) []), .al 1 8 (.h (base + 6) []), .rt base .ro (tr u.Progs), .rt (base + 1) .ro (tr u.Procs), .rt (base + 2) .ro (tr u.Opens), .rt (base + 3) .ro (tr u.Pipes), .rt (base + 4) .ro (tr u.Files), .rt (base + 5) .ro (tr u.Ready), .rt (base + 6) .ro (tr u.Out), .sl 1 (.p 1 [] 9 0 0), .sl 120 (.h (base + 3) []), .sl 121 (.v (iv u.Pipes.length)), .rt 2 .box (T.s 14 1 fun _ c => [T.v (iv 0), T.v (iv 0), T.s 1 0 fun _ _ => T.j, T.s 11 0 fun _ _ => T.j, T.s 1 0 fun _ _ => T.j, T.s 1 0 fun _ _ => T.j, T.s 5 0 fun _ _ => T.j, T.s 4 0 fun _ _ => T.j, T.s 2 0 fun _ _ => T.j, T.v (.bool false), T.s 1 0 fun _ _ => T.j, T.v (iv 0), T.v (iv 0), T.s 1 0 fun _ _ => T.j].getD c T.j), .rt 4 .box (T.s 14 1 fun _ c => [T.v (iv (piD u i.k).Next), T.v (iv (piD u i.k).Tick), tr (piD u i.k).Progs, tr (piD u i.k).Slots, tr (piD u i.k).Ram, tr (piD u i.k).Map, tr (piD u i.k).Opens, tr (piD u i.k).Pipes, tr (piD u i.k).Files, T.v (.bool (piD u i.k).Ready.Used), tr (piD u i.k).Ready.Buf, T.v (iv (piD u i.k).Ready.Head), T.v (iv (piD u i.k).Ready.Len), tr (piD u i.k).Out].getD c T.j)]) (fun i => u.Pipes.length - i.k) ⟨0, Nat.zero_le _⟩ ?_
 intro i
 have hle := i.le
 refine go [.R,.b,.Z] (k := ?_)
 refine AW.seq ?_
 refine cd (fun c5 => ?_) fun c5 => ?_
 ·try simp only [cnd] at c5
  have hpx := hL.pipe i.k (by omega)
  have hol : (piD u i.k).Pipes.length = 3 := pipesD_len
  have hom : ∀ m, (pjD u i.k m).Pipes.length = 3 := fun m => (List.length_set ..).trans pipesD_len
  refine jd (AW.seq (AW.block (sr ?_)))
  refine go [.i,.N,.G,.A,.N,.s,.Z,.R,.f,.N,.l,.f,.l,.N,.i,.f,.s,.N] (k := ?_)
  refine AWL.rep 4 (T.s 14 1 fun _ c => [T.v (iv (pjD u i.k 0).Next), T.v (iv (pjD u i.k 0).Tick), tr (pjD u i.k 0).Progs, tr (pjD u i.k 0).Slots, tr (pjD u i.k 0).Ram, tr (pjD u i.k 0).Map, tr (pjD u i.k 0).Opens, tr (pjD u i.k 0).Pipes, tr (pjD u i.k 0).Files, T.v (.bool (pjD u i.k 0).Ready.Used), tr (pjD u i.k 0).Ready.Buf, T.v (iv (pjD u i.k 0).Ready.Head), T.v (iv (pjD u i.k 0).Ready.Len), tr (pjD u i.k 0).Out].getD c T.j) rfl (scA_sim (n := 14) (fun c hc => match c, hc with | 0, _ => tsr | 1, _ => tsr | 2, _ => tsr | 3, _ => tsr | 4, _ => tsr | 5, _ => tsr | 6, _ => tsr | 7, _ => (by rw [← pipe_used hL (by omega)]; exact (by simp only [upd_app, eq_self, and_true, true_and, if_true]; exact (set_sim (α := DARing) (l := (pipesD u i.k)) (i := (u.Pipes.getD i.k En.dflt).Id.toNat) (a := { (pipesD u i.k).getD (u.Pipes.getD i.k En.dflt).Id.toNat En.dflt with Used := true }) (fun k c hk => by simp only [upd_app, hk, false_and, if_false]; rfl) (fun c hc => match c, hc with | 0, _ => (by simp only [upd_app, eq_self, and_true, and_false, Nat.reduceEqDiff, if_true, if_false]; exact tsr) | 1, _ => (by simp only [upd_app, eq_self, and_true, and_false, Nat.reduceEqDiff, if_true, if_false]; exact tsr) | 2, _ => (by simp only [upd_app, eq_self, and_true, and_false, Nat.reduceEqDiff, if_true, if_false]; exact tsr) | 3, _ => (by simp only [upd_app, eq_self, and_true, and_false, Nat.reduceEqDiff, if_true, if_false]; exact tsr) | c + 4, hc => absurd hc (by simp only [En.n]; omega))))) | 8, _ => tsr | 9, _ => tsr | 10, _ => tsr | 11, _ => tsr | 12, _ => tsr | 13, _ => tsr | c + 14, hc => absurd hc (by omega))) ?_
  refine go [.Z,.R,.f,.N,.l,.h,.m,.Z] (k := ?_)
  refine AW.block ?_
  refine AW.weak (L' := (.sl 135 (.v (iv (0 : Nat))) :: .sl 122 (.v (iv i.k)) :: .sl 134 (.v (iv (u.Pipes.getD i.k En.dflt).Data.length)) :: .sl 133 (.h (base + 3) [(2, i.k, 1)]) :: .sl 12 (.p 12 [] 2 0 0) :: .sl 2 (.p 2 [] 14 0 0) :: .sl 4 (.p 4 [] 14 0 0) :: .sl 3 (.v (.bool false)) :: .rt 1 .box (T.s 9 1 fun k c => ([(T.v (iv u.Next), none), (T.v (iv u.Tick), none), (T.j, none), (T.j, none), (T.j, none), (T.j, none), (T.j, none), (T.j, none), (T.j, none)].getD (k * 9 + c) (T.j, none)).fst) :: .al 1 2 (.h base []) :: .al 1 3 (.h (base + 1) []) :: .al 1 4 (.h (base + 2) []) :: .al 1 5 (.h (base + 3) []) :: .al 1 6 (.h (base + 4) []) :: .al 1 7 (.h (base + 5) []) :: .al 1 8 (.h (base + 6) []) :: .rt base .ro (tr u.Progs) :: .rt (base + 1) .ro (tr u.Procs) :: .rt (base + 2) .ro (tr u.Opens) :: .rt (base + 3) .ro (tr u.Pipes) :: .rt (base + 4) .ro (tr u.Files) :: .rt (base + 5) .ro (tr u.Ready) :: .rt (base + 6) .ro (tr u.Out) :: .sl 1 (.p 1 [] 9 0 0) :: .sl 120 (.h (base + 3) []) :: .sl 121 (.v (iv u.Pipes.length)) :: .rt 2 .box (T.s 14 1 fun _ c => [T.v (iv 0), T.v (iv 0), T.s 1 0 fun _ _ => T.j, T.s 11 0 fun _ _ => T.j, T.s 1 0 fun _ _ => T.j, T.s 1 0 fun _ _ => T.j, T.s 5 0 fun _ _ => T.j, T.s 4 0 fun _ _ => T.j, T.s 2 0 fun _ _ => T.j, T.v (.bool false), T.s 1 0 fun _ _ => T.j, T.v (iv 0), T.v (iv 0), T.s 1 0 fun _ _ => T.j].getD c T.j) :: .rt 4 .box (T.s 14 1 fun _ c => [T.v (iv (pjD u i.k (0 : Nat)).Next), T.v (iv (pjD u i.k (0 : Nat)).Tick), tr (pjD u i.k (0 : Nat)).Progs, tr (pjD u i.k (0 : Nat)).Slots, tr (pjD u i.k (0 : Nat)).Ram, tr (pjD u i.k (0 : Nat)).Map, tr (pjD u i.k (0 : Nat)).Opens, tr (pjD u i.k (0 : Nat)).Pipes, tr (pjD u i.k (0 : Nat)).Files, T.v (.bool (pjD u i.k (0 : Nat)).Ready.Used), tr (pjD u i.k (0 : Nat)).Ready.Buf, T.v (iv (pjD u i.k (0 : Nat)).Ready.Head), T.v (iv (pjD u i.k (0 : Nat)).Ready.Len), tr (pjD u i.k (0 : Nat)).Out].getD c T.j) :: .rt 12 .box (T.s 2 1 fun _ c => [T.v (iv (u.Pipes.getD i.k En.dflt).Id), T.j].getD c T.j) :: [])) (Weak.sim ⟨rfl, rfl, rfl, rfl, rfl, rfl, rfl, rfl, Rf rfl, ⟨rfl, rfl⟩, ⟨rfl, rfl⟩, ⟨rfl, rfl⟩, ⟨rfl, rfl⟩, ⟨rfl, rfl⟩, ⟨rfl, rfl⟩, ⟨rfl, rfl⟩, Rf rfl, Rf rfl, Rf rfl, Rf rfl, Rf rfl, Rf rfl, Rf rfl, rfl, rfl, rfl, ⟨_, rfl, (scA_sim (n := 14) (fun c hc => match c, hc with | 0, _ => tsr | 1, _ => tsr | 2, _ => tsr | 3, _ => tsr | 4, _ => tsr | 5, _ => tsr | 6, _ => tsr | 7, _ => tsr | 8, _ => tsr | 9, _ => tsr | 10, _ => tsr | 11, _ => tsr | 12, _ => tsr | 13, _ => tsr | c + 14, hc => absurd hc (by omega)))⟩, ⟨_, rfl, (scA_sim (n := 14) (fun c hc => match c, hc with | 0, _ => tsr | 1, _ => tsr | 2, _ => tsr | 3, _ => tsr | 4, _ => tsr | 5, _ => tsr | 6, _ => tsr | 7, _ => tsr | 8, _ => tsr | 9, _ => tsr | 10, _ => tsr | 11, _ => tsr | 12, _ => tsr | 13, _ => tsr | c + 14, hc => absurd hc (by omega)))⟩, ⟨_, rfl, (scA_sim (n := 2) (fun c hc => match c, hc with | 0, _ => tsr | 1, _ => tsr | c + 2, hc => absurd hc (by omega)))⟩, trivial⟩ rfl rfl) ?_
  refine AW.loop (fun j : KInv (u.Pipes.getD i.k En.dflt).Data.length => (.sl 135 (.v (iv j.k)) :: .sl 122 (.v (iv i.k)) :: .sl 134 (.v (iv (u.Pipes.getD i.k En.dflt).Data.length)) :: .sl 133 (.h (base + 3) [(2, i.k, 1)]) :: .sl 12 (.p 12 [] 2 0 0) :: .sl 2 (.p 2 [] 14 0 0) :: .sl 4 (.p 4 [] 14 0 0) :: .sl 3 (.v (.bool false)) :: .rt 1 .box (T.s 9 1 fun k c => ([(T.v (iv u.Next), none), (T.v (iv u.Tick), none), (T.j, none), (T.j, none), (T.j, none), (T.j, none), (T.j, none), (T.j, none), (T.j, none)].getD (k * 9 + c) (T.j, none)).fst) :: .al 1 2 (.h base []) :: .al 1 3 (.h (base + 1) []) :: .al 1 4 (.h (base + 2) []) :: .al 1 5 (.h (base + 3) []) :: .al 1 6 (.h (base + 4) []) :: .al 1 7 (.h (base + 5) []) :: .al 1 8 (.h (base + 6) []) :: .rt base .ro (tr u.Progs) :: .rt (base + 1) .ro (tr u.Procs) :: .rt (base + 2) .ro (tr u.Opens) :: .rt (base + 3) .ro (tr u.Pipes) :: .rt (base + 4) .ro (tr u.Files) :: .rt (base + 5) .ro (tr u.Ready) :: .rt (base + 6) .ro (tr u.Out) :: .sl 1 (.p 1 [] 9 0 0) :: .sl 120 (.h (base + 3) []) :: .sl 121 (.v (iv u.Pipes.length)) :: .rt 2 .box (T.s 14 1 fun _ c => [T.v (iv 0), T.v (iv 0), T.s 1 0 fun _ _ => T.j, T.s 11 0 fun _ _ => T.j, T.s 1 0 fun _ _ => T.j, T.s 1 0 fun _ _ => T.j, T.s 5 0 fun _ _ => T.j, T.s 4 0 fun _ _ => T.j, T.s 2 0 fun _ _ => T.j, T.v (.bool false), T.s 1 0 fun _ _ => T.j, T.v (iv 0), T.v (iv 0), T.s 1 0 fun _ _ => T.j].getD c T.j) :: .rt 4 .box (T.s 14 1 fun _ c => [T.v (iv (pjD u i.k j.k).Next), T.v (iv (pjD u i.k j.k).Tick), tr (pjD u i.k j.k).Progs, tr (pjD u i.k j.k).Slots, tr (pjD u i.k j.k).Ram, tr (pjD u i.k j.k).Map, tr (pjD u i.k j.k).Opens, tr (pjD u i.k j.k).Pipes, tr (pjD u i.k j.k).Files, T.v (.bool (pjD u i.k j.k).Ready.Used), tr (pjD u i.k j.k).Ready.Buf, T.v (iv (pjD u i.k j.k).Ready.Head), T.v (iv (pjD u i.k j.k).Ready.Len), tr (pjD u i.k j.k).Out].getD c T.j) :: .rt 12 .box (T.s 2 1 fun _ c => [T.v (iv (u.Pipes.getD i.k En.dflt).Id), T.j].getD c T.j) :: [])) (fun j => (u.Pipes.getD i.k En.dflt).Data.length - j.k) ⟨0, Nat.zero_le _⟩ ?_
  intro j
  have hlej := j.le
  refine go [.R,.b,.Z] (k := ?_)
  refine AW.seq ?_
  refine cd (fun c6 => ?_) fun c6 => ?_
  ·try simp only [cnd] at c6
   have homj := hom j.k
   have hlt : (u.Pipes.getD i.k En.dflt).Id.toNat < (pjD u i.k (j.k + 1)).Pipes.length := by have := hom (j.k + 1); omega
   refine jd (AW.seq (AW.block (sr ?_)))
   refine go [.i,.N,.l,.a,.Z,.R1,.f,.N,.l,.f,.l,.N,.i,.m] (k := ?_)
   refine sp (Stp.callH rfl (by decide) Tryz.call49 rfl (aPut_con u hL i.k j.k (by omega) (by omega)) rfl rfl rfl (nodup_of rfl) rfl rfl) ?_
   refine AWL.nrm (by simp only [go_sem, reduceIte, Nat.reduceEqDiff, Nat.reduceBEq, reduceCtorEq, hlt, tr]; rfl) ?_
   refine AWL.rep 4 (T.s 14 1 fun _ c => [T.v (iv (pjD u i.k (j.k + 1)).Next), T.v (iv (pjD u i.k (j.k + 1)).Tick), tr (pjD u i.k (j.k + 1)).Progs, tr (pjD u i.k (j.k + 1)).Slots, tr (pjD u i.k (j.k + 1)).Ram, tr (pjD u i.k (j.k + 1)).Map, tr (pjD u i.k (j.k + 1)).Opens, tr (pjD u i.k (j.k + 1)).Pipes, tr (pjD u i.k (j.k + 1)).Files, T.v (.bool (pjD u i.k (j.k + 1)).Ready.Used), tr (pjD u i.k (j.k + 1)).Ready.Buf, T.v (iv (pjD u i.k (j.k + 1)).Ready.Head), T.v (iv (pjD u i.k (j.k + 1)).Ready.Len), tr (pjD u i.k (j.k + 1)).Out].getD c T.j) rfl (scA_sim (n := 14) (fun c hc => match c, hc with | 0, _ => tsr | 1, _ => tsr | 2, _ => tsr | 3, _ => tsr | 4, _ => tsr | 5, _ => tsr | 6, _ => tsr | 7, _ => tsr | 8, _ => tsr | 9, _ => tsr | 10, _ => tsr | 11, _ => tsr | 12, _ => tsr | 13, _ => tsr | c + 14, hc => absurd hc (by omega))) ?_
   refine go [.Z,.R1,.b,.N,.m,.Z] (k := ?_)
   refine ⟨⟨j.k + 1, by omega⟩, Weak.sim ⟨st1, rfl, rfl, rfl, rfl, rfl, rfl, rfl, Rf rfl, ⟨rfl, rfl⟩, ⟨rfl, rfl⟩, ⟨rfl, rfl⟩, ⟨rfl, rfl⟩, ⟨rfl, rfl⟩, ⟨rfl, rfl⟩, ⟨rfl, rfl⟩, Rf rfl, Rf rfl, Rf rfl, Rf rfl, Rf rfl, Rf rfl, Rf rfl, rfl, rfl, rfl, ⟨_, rfl, (scA_sim (n := 14) (fun c hc => match c, hc with | 0, _ => tsr | 1, _ => tsr | 2, _ => tsr | 3, _ => tsr | 4, _ => tsr | 5, _ => tsr | 6, _ => tsr | 7, _ => tsr | 8, _ => tsr | 9, _ => tsr | 10, _ => tsr | 11, _ => tsr | 12, _ => tsr | 13, _ => tsr | c + 14, hc => absurd hc (by omega)))⟩, ⟨_, rfl, (scA_sim (n := 14) (fun c hc => match c, hc with | 0, _ => tsr | 1, _ => tsr | 2, _ => tsr | 3, _ => tsr | 4, _ => tsr | 5, _ => tsr | 6, _ => tsr | 7, _ => tsr | 8, _ => tsr | 9, _ => tsr | 10, _ => tsr | 11, _ => tsr | 12, _ => tsr | 13, _ => tsr | c + 14, hc => absurd hc (by omega)))⟩, ⟨_, rfl, (scA_sim (n := 2) (fun c hc => match c, hc with | 0, _ => tsr | 1, _ => tsr | c + 2, hc => absurd hc (by omega)))⟩, trivial⟩ rfl rfl, ?_⟩
   show (u.Pipes.getD i.k En.dflt).Data.length - (j.k + 1) < (u.Pipes.getD i.k En.dflt).Data.length - j.k
   omega
  try simp only [cnd] at c6
  refine AW.exit ?_
  dsimp only [thenQ, blockQ, reduceIte]
  refine go [.R1,.b,.m,.Z] (k := ?_)
  refine ⟨⟨i.k + 1, by omega⟩, Weak.sim ⟨st1, rfl, rfl, rfl, Rf rfl, ⟨rfl, rfl⟩, ⟨rfl, rfl⟩, ⟨rfl, rfl⟩, ⟨rfl, rfl⟩, ⟨rfl, rfl⟩, ⟨rfl, rfl⟩, ⟨rfl, rfl⟩, Rf rfl, Rf rfl, Rf rfl, Rf rfl, Rf rfl, Rf rfl, Rf rfl, rfl, rfl, rfl, ⟨_, rfl, (scA_sim (n := 14) (fun c hc => match c, hc with | 0, _ => tsr | 1, _ => tsr | 2, _ => tsr | 3, _ => tsr | 4, _ => tsr | 5, _ => tsr | 6, _ => tsr | 7, _ => tsr | 8, _ => tsr | 9, _ => tsr | 10, _ => tsr | 11, _ => tsr | 12, _ => tsr | 13, _ => tsr | c + 14, hc => absurd hc (by omega)))⟩, ⟨_, rfl, by rw [← pipe_end (i := i.k) (j := j.k) (by omega) (by omega)]; exact (scA_sim (n := 14) (fun c hc => match c, hc with | 0, _ => tsr | 1, _ => tsr | 2, _ => tsr | 3, _ => tsr | 4, _ => tsr | 5, _ => tsr | 6, _ => tsr | 7, _ => tsr | 8, _ => tsr | 9, _ => tsr | 10, _ => tsr | 11, _ => tsr | 12, _ => tsr | 13, _ => tsr | c + 14, hc => absurd hc (by omega)))⟩, trivial⟩ rfl rfl, ?_⟩
  show u.Pipes.length - (i.k + 1) < u.Pipes.length - i.k
  omega
 try simp only [cnd] at c5
 refine AW.exit ?_
 dsimp only [thenQ, blockQ, reduceIte]
 refine go [.R2,.f,.N,.l,.h,.m,.Z] (k := ?_)
 refine AW.block ?_
 refine AW.weak (L' := [.sl 151 (.v (iv (0 : Nat))), .sl 2 (.p 2 [] 14 0 0), .sl 4 (.p 4 [] 14 0 0), .sl 3 (.v (.bool false)), .rt 1 .box (T.s 9 1 fun k c => ([(T.v (iv u.Next), none), (T.v (iv u.Tick), none), (T.j, none), (T.j, none), (T.j, none), (T.j, none), (T.j, none), (T.j, none), (T.j, none)].getD (k * 9 + c) (T.j, none)).fst), .al 1 2 (.h base []), .al 1 3 (.h (base + 1) []), .al 1 4 (.h (base + 2) []), .al 1 5 (.h (base + 3) []), .al 1 6 (.h (base + 4) []), .al 1 7 (.h (base + 5) []), .al 1 8 (.h (base + 6) []), .rt base .ro (tr u.Progs), .rt (base + 1) .ro (tr u.Procs), .rt (base + 2) .ro (tr u.Opens), .rt (base + 3) .ro (tr u.Pipes), .rt (base + 4) .ro (tr u.Files), .rt (base + 5) .ro (tr u.Ready), .rt (base + 6) .ro (tr u.Out), .sl 1 (.p 1 [] 9 0 0), .sl 149 (.h (base + 4) []), .sl 150 (.v (iv u.Files.length)), .rt 2 .box (T.s 14 1 fun _ c => [T.v (iv 0), T.v (iv 0), T.s 1 0 fun _ _ => T.j, T.s 11 0 fun _ _ => T.j, T.s 1 0 fun _ _ => T.j, T.s 1 0 fun _ _ => T.j, T.s 5 0 fun _ _ => T.j, T.s 4 0 fun _ _ => T.j, T.s 2 0 fun _ _ => T.j, T.v (.bool false), T.s 1 0 fun _ _ => T.j, T.v (iv 0), T.v (iv 0), T.s 1 0 fun _ _ => T.j].getD c T.j), .rt 4 .box (T.s 14 1 fun _ c => [T.v (iv (fiD u (0 : Nat)).Next), T.v (iv (fiD u (0 : Nat)).Tick), tr (fiD u (0 : Nat)).Progs, tr (fiD u (0 : Nat)).Slots, tr (fiD u (0 : Nat)).Ram, tr (fiD u (0 : Nat)).Map, tr (fiD u (0 : Nat)).Opens, tr (fiD u (0 : Nat)).Pipes, tr (fiD u (0 : Nat)).Files, T.v (.bool (fiD u (0 : Nat)).Ready.Used), tr (fiD u (0 : Nat)).Ready.Buf, T.v (iv (fiD u (0 : Nat)).Ready.Head), T.v (iv (fiD u (0 : Nat)).Ready.Len), tr (fiD u (0 : Nat)).Out].getD c T.j)]) (Weak.sim ⟨rfl, rfl, rfl, rfl, Rf rfl, ⟨rfl, rfl⟩, ⟨rfl, rfl⟩, ⟨rfl, rfl⟩, ⟨rfl, rfl⟩, ⟨rfl, rfl⟩, ⟨rfl, rfl⟩, ⟨rfl, rfl⟩, Rf rfl, Rf rfl, Rf rfl, Rf rfl, Rf rfl, Rf rfl, Rf rfl, rfl, rfl, rfl, ⟨_, rfl, (scA_sim (n := 14) (fun c hc => match c, hc with | 0, _ => tsr | 1, _ => tsr | 2, _ => tsr | 3, _ => tsr | 4, _ => tsr | 5, _ => tsr | 6, _ => tsr | 7, _ => tsr | 8, _ => tsr | 9, _ => tsr | 10, _ => tsr | 11, _ => tsr | 12, _ => tsr | 13, _ => tsr | c + 14, hc => absurd hc (by omega)))⟩, ⟨_, rfl, by rw [show i.k = u.Pipes.length by omega]; exact (scA_sim (n := 14) (fun c hc => match c, hc with | 0, _ => tsr | 1, _ => tsr | 2, _ => tsr | 3, _ => tsr | 4, _ => tsr | 5, _ => tsr | 6, _ => tsr | 7, _ => tsr | 8, _ => tsr | 9, _ => tsr | 10, _ => tsr | 11, _ => tsr | 12, _ => tsr | 13, _ => tsr | c + 14, hc => absurd hc (by omega)))⟩, trivial⟩ rfl rfl) ?_
 refine AW.loop (fun i : KInv u.Files.length => [.sl 151 (.v (iv i.k)), .sl 2 (.p 2 [] 14 0 0), .sl 4 (.p 4 [] 14 0 0), .sl 3 (.v (.bool false)), .rt 1 .box (T.s 9 1 fun k c => ([(T.v (iv u.Next), none), (T.v (iv u.Tick), none), (T.j, none), (T.j, none), (T.j, none), (T.j, none), (T.j, none), (T.j, none), (T.j, none)].getD (k * 9 + c) (T.j, none)).fst), .al 1 2 (.h base []), .al 1 3 (.h (base + 1) []), .al 1 4 (.h (base + 2) []), .al 1 5 (.h (base + 3) []), .al 1 6 (.h (base + 4) []), .al 1 7 (.h (base + 5) []), .al 1 8 (.h (base + 6) []), .rt base .ro (tr u.Progs), .rt (base + 1) .ro (tr u.Procs), .rt (base + 2) .ro (tr u.Opens), .rt (base + 3) .ro (tr u.Pipes), .rt (base + 4) .ro (tr u.Files), .rt (base + 5) .ro (tr u.Ready), .rt (base + 6) .ro (tr u.Out), .sl 1 (.p 1 [] 9 0 0), .sl 149 (.h (base + 4) []), .sl 150 (.v (iv u.Files.length)), .rt 2 .box (T.s 14 1 fun _ c => [T.v (iv 0), T.v (iv 0), T.s 1 0 fun _ _ => T.j, T.s 11 0 fun _ _ => T.j, T.s 1 0 fun _ _ => T.j, T.s 1 0 fun _ _ => T.j, T.s 5 0 fun _ _ => T.j, T.s 4 0 fun _ _ => T.j, T.s 2 0 fun _ _ => T.j, T.v (.bool false), T.s 1 0 fun _ _ => T.j, T.v (iv 0), T.v (iv 0), T.s 1 0 fun _ _ => T.j].getD c T.j), .rt 4 .box (T.s 14 1 fun _ c => [T.v (iv (fiD u i.k).Next), T.v (iv (fiD u i.k).Tick), tr (fiD u i.k).Progs, tr (fiD u i.k).Slots, tr (fiD u i.k).Ram, tr (fiD u i.k).Map, tr (fiD u i.k).Opens, tr (fiD u i.k).Pipes, tr (fiD u i.k).Files, T.v (.bool (fiD u i.k).Ready.Used), tr (fiD u i.k).Ready.Buf, T.v (iv (fiD u i.k).Ready.Head), T.v (iv (fiD u i.k).Ready.Len), tr (fiD u i.k).Out].getD c T.j)]) (fun i => u.Files.length - i.k) ⟨0, Nat.zero_le _⟩ ?_
 intro i
 have hle := i.le
 refine go [.R,.b,.Z] (k := ?_)
 refine AW.seq ?_
 refine cd (fun c7 => ?_) fun c7 => ?_
 ·try simp only [cnd] at c7
  have hfx := hL.file i.k (by omega)
  have hol : (fiD u i.k).Files.length = 6 := filesD_len
  refine jd (AW.seq (AW.block (sr ?_)))
  refine go [.i,.N,.G,.A,.N,.s,.Z,.D [0, 1, 2, 3, 4, 5, 7, 8],.t 0,.f,.N,.t 1,.l,.t 2,.f,.t 3,.l,.N,.t 4,.f,.t 5,.l] (k := ?_)
  refine a1 6 [0, 1, 2, 3] [5, 4] rfl rfl (Stp.callR rfl (by decide) Tryz.call46 rfl rfl (cloneI_con _ (by omega)) (nodup_of rfl) rfl rfl) ?_
  refine go [.N,.g,.f,.N,.g,.l,.N,.g,.f,.N,.g,.l,.N,.t 7,.u,.t 8,.i,.O 9 [] [8, 7, 6, 5, 4, 3, 2, 1, 0],.s,.N] (k := ?_)
  refine AWA.rep 4 (T.s 14 1 fun _ c => [T.v (iv (fiD u (i.k + 1)).Next), T.v (iv (fiD u (i.k + 1)).Tick), tr (fiD u (i.k + 1)).Progs, tr (fiD u (i.k + 1)).Slots, tr (fiD u (i.k + 1)).Ram, tr (fiD u (i.k + 1)).Map, tr (fiD u (i.k + 1)).Opens, tr (fiD u (i.k + 1)).Pipes, tr (fiD u (i.k + 1)).Files, T.v (.bool (fiD u (i.k + 1)).Ready.Used), tr (fiD u (i.k + 1)).Ready.Buf, T.v (iv (fiD u (i.k + 1)).Ready.Head), T.v (iv (fiD u (i.k + 1)).Ready.Len), tr (fiD u (i.k + 1)).Out].getD c T.j) rfl (scA_sim (n := 14) (fun c hc => match c, hc with | 0, _ => tsr | 1, _ => tsr | 2, _ => tsr | 3, _ => tsr | 4, _ => tsr | 5, _ => tsr | 6, _ => tsr | 7, _ => tsr | 8, _ => (by show T.sim _ (tr (filesD u (i.k + 1))); rw [filesD_next (by omega)]; exact (by simp only [upd_app, eq_self, and_true, true_and, if_true]; exact (set_sim (α := DAFile) (l := (filesD u i.k)) (i := (u.Files.getD i.k En.dflt).Name.toNat) (a := (fileD (u.Files.getD i.k En.dflt))) (fun k c hk => by simp only [upd_app, hk, false_and, if_false]; rfl) (fun c hc => match c, hc with | 0, _ => (by simp only [upd_app, eq_self, and_true, and_false, Nat.reduceEqDiff, if_true, if_false]; exact tsr) | 1, _ => (by simp only [upd_app, eq_self, and_true, and_false, Nat.reduceEqDiff, if_true, if_false]; exact tsr) | c + 2, hc => absurd hc (by simp only [En.n]; omega))))) | 9, _ => tsr | 10, _ => tsr | 11, _ => tsr | 12, _ => tsr | 13, _ => tsr | c + 14, hc => absurd hc (by omega))) ?_
  refine go [.N,.Z,.R1,.b,.m,.Z] (k := ?_)
  refine ⟨⟨i.k + 1, by omega⟩, Weak.sim ⟨st1, rfl, rfl, rfl, Rf rfl, ⟨rfl, rfl⟩, ⟨rfl, rfl⟩, ⟨rfl, rfl⟩, ⟨rfl, rfl⟩, ⟨rfl, rfl⟩, ⟨rfl, rfl⟩, ⟨rfl, rfl⟩, Rf rfl, Rf rfl, Rf rfl, Rf rfl, Rf rfl, Rf rfl, Rf rfl, rfl, rfl, rfl, ⟨_, rfl, (scA_sim (n := 14) (fun c hc => match c, hc with | 0, _ => tsr | 1, _ => tsr | 2, _ => tsr | 3, _ => tsr | 4, _ => tsr | 5, _ => tsr | 6, _ => tsr | 7, _ => tsr | 8, _ => tsr | 9, _ => tsr | 10, _ => tsr | 11, _ => tsr | 12, _ => tsr | 13, _ => tsr | c + 14, hc => absurd hc (by omega)))⟩, ⟨_, rfl, (scA_sim (n := 14) (fun c hc => match c, hc with | 0, _ => tsr | 1, _ => tsr | 2, _ => tsr | 3, _ => tsr | 4, _ => tsr | 5, _ => tsr | 6, _ => tsr | 7, _ => tsr | 8, _ => tsr | 9, _ => tsr | 10, _ => tsr | 11, _ => tsr | 12, _ => tsr | 13, _ => tsr | c + 14, hc => absurd hc (by omega)))⟩, trivial⟩ rfl rfl, ?_⟩
  show u.Files.length - (i.k + 1) < u.Files.length - i.k
  omega
 try simp only [cnd] at c7
 refine AW.exit ?_
 dsimp only [thenQ, blockQ, reduceIte]
 refine go [.R2,.f,.N,.l,.h,.m,.Z] (k := ?_)
 refine AW.block ?_
 refine AW.weak (L' := [.sl 168 (.v (iv (0 : Nat))), .sl 2 (.p 2 [] 14 0 0), .sl 4 (.p 4 [] 14 0 0), .sl 3 (.v (.bool false)), .sl 166 (.h (base + 5) []), .sl 167 (.v (iv u.Ready.length)), .rt base .ro (tr u.Progs), .rt (base + 1) .ro (tr u.Procs), .rt (base + 2) .ro (tr u.Opens), .rt (base + 3) .ro (tr u.Pipes), .rt (base + 4) .ro (tr u.Files), .rt (base + 5) .ro (tr u.Ready), .rt (base + 6) .ro (tr u.Out), .rt 2 .box (T.s 14 1 fun _ c => [T.v (iv 0), T.v (iv 0), T.s 1 0 fun _ _ => T.j, T.s 11 0 fun _ _ => T.j, T.s 1 0 fun _ _ => T.j, T.s 1 0 fun _ _ => T.j, T.s 5 0 fun _ _ => T.j, T.s 4 0 fun _ _ => T.j, T.s 2 0 fun _ _ => T.j, T.v (.bool false), T.s 1 0 fun _ _ => T.j, T.v (iv 0), T.v (iv 0), T.s 1 0 fun _ _ => T.j].getD c T.j), .rt 4 .box (T.s 14 1 fun _ c => [T.v (iv (rdD u (0 : Nat)).Next), T.v (iv (rdD u (0 : Nat)).Tick), tr (rdD u (0 : Nat)).Progs, tr (rdD u (0 : Nat)).Slots, tr (rdD u (0 : Nat)).Ram, tr (rdD u (0 : Nat)).Map, tr (rdD u (0 : Nat)).Opens, tr (rdD u (0 : Nat)).Pipes, tr (rdD u (0 : Nat)).Files, T.v (.bool (rdD u (0 : Nat)).Ready.Used), tr (rdD u (0 : Nat)).Ready.Buf, T.v (iv (rdD u (0 : Nat)).Ready.Head), T.v (iv (rdD u (0 : Nat)).Ready.Len), tr (rdD u (0 : Nat)).Out].getD c T.j)]) (Weak.sim ⟨rfl, rfl, rfl, rfl, rfl, rfl, Rf rfl, Rf rfl, Rf rfl, Rf rfl, Rf rfl, Rf rfl, Rf rfl, ⟨_, rfl, (scA_sim (n := 14) (fun c hc => match c, hc with | 0, _ => tsr | 1, _ => tsr | 2, _ => tsr | 3, _ => tsr | 4, _ => tsr | 5, _ => tsr | 6, _ => tsr | 7, _ => tsr | 8, _ => tsr | 9, _ => tsr | 10, _ => tsr | 11, _ => tsr | 12, _ => tsr | 13, _ => tsr | c + 14, hc => absurd hc (by omega)))⟩, ⟨_, rfl, by rw [show i.k = u.Files.length by omega]; exact (scA_sim (n := 14) (fun c hc => match c, hc with | 0, _ => tsr | 1, _ => tsr | 2, _ => tsr | 3, _ => tsr | 4, _ => tsr | 5, _ => tsr | 6, _ => tsr | 7, _ => tsr | 8, _ => tsr | 9, _ => tsr | 10, _ => tsr | 11, _ => tsr | 12, _ => tsr | 13, _ => tsr | c + 14, hc => absurd hc (by omega)))⟩, trivial⟩ rfl rfl) ?_
 refine AW.loop (fun i : KInv u.Ready.length => [.sl 168 (.v (iv i.k)), .sl 2 (.p 2 [] 14 0 0), .sl 4 (.p 4 [] 14 0 0), .sl 3 (.v (.bool false)), .sl 166 (.h (base + 5) []), .sl 167 (.v (iv u.Ready.length)), .rt base .ro (tr u.Progs), .rt (base + 1) .ro (tr u.Procs), .rt (base + 2) .ro (tr u.Opens), .rt (base + 3) .ro (tr u.Pipes), .rt (base + 4) .ro (tr u.Files), .rt (base + 5) .ro (tr u.Ready), .rt (base + 6) .ro (tr u.Out), .rt 2 .box (T.s 14 1 fun _ c => [T.v (iv 0), T.v (iv 0), T.s 1 0 fun _ _ => T.j, T.s 11 0 fun _ _ => T.j, T.s 1 0 fun _ _ => T.j, T.s 1 0 fun _ _ => T.j, T.s 5 0 fun _ _ => T.j, T.s 4 0 fun _ _ => T.j, T.s 2 0 fun _ _ => T.j, T.v (.bool false), T.s 1 0 fun _ _ => T.j, T.v (iv 0), T.v (iv 0), T.s 1 0 fun _ _ => T.j].getD c T.j), .rt 4 .box (T.s 14 1 fun _ c => [T.v (iv (rdD u i.k).Next), T.v (iv (rdD u i.k).Tick), tr (rdD u i.k).Progs, tr (rdD u i.k).Slots, tr (rdD u i.k).Ram, tr (rdD u i.k).Map, tr (rdD u i.k).Opens, tr (rdD u i.k).Pipes, tr (rdD u i.k).Files, T.v (.bool (rdD u i.k).Ready.Used), tr (rdD u i.k).Ready.Buf, T.v (iv (rdD u i.k).Ready.Head), T.v (iv (rdD u i.k).Ready.Len), tr (rdD u i.k).Out].getD c T.j)]) (fun i => u.Ready.length - i.k) ⟨0, Nat.zero_le _⟩ ?_
 intro i
 have hle := i.le
 refine go [.R,.b,.Z] (k := ?_)
 refine AW.seq ?_
 refine cd (fun c8 => ?_) fun c8 => ?_
 ·try simp only [cnd] at c8
  refine jd (AW.seq (AW.block (sr ?_)))
  refine go [.i,.N,.l,.a,.Z,.R1,.f,.N,.m] (k := ?_)
  refine sp (Stp.callH rfl (by decide) Tryz.call49 rfl (aReady_con u hL i.k (by omega)) rfl rfl rfl (nodup_of rfl) rfl rfl) ?_
  refine go [.N] (k := ?_)
  refine AWL.rep 4 (T.s 14 1 fun _ c => [T.v (iv (rdD u (i.k + 1)).Next), T.v (iv (rdD u (i.k + 1)).Tick), tr (rdD u (i.k + 1)).Progs, tr (rdD u (i.k + 1)).Slots, tr (rdD u (i.k + 1)).Ram, tr (rdD u (i.k + 1)).Map, tr (rdD u (i.k + 1)).Opens, tr (rdD u (i.k + 1)).Pipes, tr (rdD u (i.k + 1)).Files, T.v (.bool (rdD u (i.k + 1)).Ready.Used), tr (rdD u (i.k + 1)).Ready.Buf, T.v (iv (rdD u (i.k + 1)).Ready.Head), T.v (iv (rdD u (i.k + 1)).Ready.Len), tr (rdD u (i.k + 1)).Out].getD c T.j) rfl (scA_sim (n := 14) (fun c hc => match c, hc with | 0, _ => tsr | 1, _ => tsr | 2, _ => tsr | 3, _ => tsr | 4, _ => tsr | 5, _ => tsr | 6, _ => tsr | 7, _ => tsr | 8, _ => tsr | 9, _ => tsr | 10, _ => tsr | 11, _ => tsr | 12, _ => tsr | 13, _ => tsr | c + 14, hc => absurd hc (by omega))) ?_
  refine go [.Z,.R1,.b,.N,.m,.Z] (k := ?_)
  refine ⟨⟨i.k + 1, by omega⟩, Weak.sim ⟨st1, rfl, rfl, rfl, rfl, rfl, Rf rfl, Rf rfl, Rf rfl, Rf rfl, Rf rfl, Rf rfl, Rf rfl, ⟨_, rfl, (scA_sim (n := 14) (fun c hc => match c, hc with | 0, _ => tsr | 1, _ => tsr | 2, _ => tsr | 3, _ => tsr | 4, _ => tsr | 5, _ => tsr | 6, _ => tsr | 7, _ => tsr | 8, _ => tsr | 9, _ => tsr | 10, _ => tsr | 11, _ => tsr | 12, _ => tsr | 13, _ => tsr | c + 14, hc => absurd hc (by omega)))⟩, ⟨_, rfl, (scA_sim (n := 14) (fun c hc => match c, hc with | 0, _ => tsr | 1, _ => tsr | 2, _ => tsr | 3, _ => tsr | 4, _ => tsr | 5, _ => tsr | 6, _ => tsr | 7, _ => tsr | 8, _ => tsr | 9, _ => tsr | 10, _ => tsr | 11, _ => tsr | 12, _ => tsr | 13, _ => tsr | c + 14, hc => absurd hc (by omega)))⟩, trivial⟩ rfl rfl, ?_⟩
  show u.Ready.length - (i.k + 1) < u.Ready.length - i.k
  omega
 try simp only [cnd] at c8
 rw [show i.k = u.Ready.length by omega]
 refine AW.weak (Weak.hoist 4 2 910 rfl (by decide) rfl rfl rfl) ?_
 refine nw ?_
 refine AW.weak (Weak.hoist 4 3 911 rfl (by decide) rfl rfl rfl) ?_
 refine nw ?_
 refine AW.weak (Weak.hoist 4 4 912 rfl (by decide) rfl rfl rfl) ?_
 refine nw ?_
 refine AW.weak (Weak.hoist 4 5 913 rfl (by decide) rfl rfl rfl) ?_
 refine nw ?_
 refine AW.weak (Weak.hoist 4 6 914 rfl (by decide) rfl rfl rfl) ?_
 refine nw ?_
 refine AW.weak (Weak.hoist 4 7 915 rfl (by decide) rfl rfl rfl) ?_
 refine nw ?_
 refine AW.weak (Weak.hoist 4 8 916 rfl (by decide) rfl rfl rfl) ?_
 refine nw ?_
 refine AW.weak (Weak.hoist 4 10 917 rfl (by decide) rfl rfl rfl) ?_
 refine nw ?_
 refine AW.weak (Weak.hoist 4 13 918 rfl (by decide) rfl rfl rfl) ?_
 refine nw ?_
 refine AW.exit ?_
 dsimp only [thenQ, blockQ, reduceIte]
 refine go [.R,.G,.s,.N,.a,.Z] (k := ?_)
 refine AW.ret (endQ_ret (.cons (.cellG 2 40 rfl rfl rfl ag40 sz40 (by decide)) (.cons (.tmp 3) .nil)) ?_)
 rw [loadR_t hU, hU]
 refine ⟨fun i => if i = 0 then 910 else if i = 1 then 911 else if i = 2 then 912 else if i = 3 then 913 else if i = 4 then 914 else if i = 5 then 915 else if i = 6 then 916 else if i = 7 then 917 else 918, rfl, nodup_of rfl, ?_⟩
 intro r hr
 simp only [List.mem_cons, List.not_mem_nil, or_false] at hr
 rcases hr with rfl | rfl | rfl | rfl | rfl | rfl | rfl | rfl | rfl <;> exact ⟨by simp, rootL_mem rfl⟩
theorem ALoadS_con (u : DUnix) (hw : Mk.wt u ≤ 1048576) : Con Tryz.prog 8 [.g [.v (iv u.Next), .v (iv u.Tick), .h base [], .h (base + 1) [], .h (base + 2) [], .h (base + 3) [], .h (base + 4) [], .h (base + 5) [], .h (base + 6) []]] [.rt base .ro (tr u.Progs), .rt (base + 1) .ro (tr u.Procs), .rt (base + 2) .ro (tr u.Opens), .rt (base + 3) .ro (tr u.Pipes), .rt (base + 4) .ro (tr u.Files), .rt (base + 5) .ro (tr u.Ready), .rt (base + 6) .ro (tr u.Out)] (Ret (.t [.g [.v (iv (loadR u).Next), .v (iv (loadR u).Tick), .h 0 [], .h 1 [], .h 2 [], .h 3 [], .h 4 [], .h 5 [], .h 6 [], .v (.bool (loadR u).Ready.Used), .h 7 [], .v (iv (loadR u).Ready.Head), .v (iv (loadR u).Ready.Len), .h 8 []], .v (.bool (unixOk u))]) [(0, .row, tr (loadR u).Progs), (1, .row, tr (loadR u).Slots), (2, .row, tr (loadR u).Ram), (3, .row, tr (loadR u).Map), (4, .row, tr (loadR u).Opens), (5, .row, tr (loadR u).Pipes), (6, .row, tr (loadR u).Files), (7, .row, tr (loadR u).Ready.Buf), (8, .row, tr (loadR u).Out)]) := by
 refine ob Tryz.func8 Tryz.ntmps8 ?_
 refine go [.R,.B,.N,.A,.N,.a,.Z,.R2,.G] (k := ?_)
 refine cv Tryz.call35 rfl rfl (UnixOkS_con u (unixB_of hw)) ?_
 refine go [.N,.n,.Z] (k := ?_)
 refine cd (fun c1 => ?_) fun c1 => ?_
 ·have k1 := c1
  try simp only [cnd] at c1
  have hU : unixOk u = false := by simpa using k1
  refine go [.R,.u,.s,.N,.a,.Z] (k := ?_)
  refine AW.weak (Weak.hoist 2 2 902 rfl (by decide) rfl rfl rfl) ?_
  refine nw ?_
  refine AW.rep 902 (tr ([] : List (List DIns))) rfl sim_nil ?_
  refine AW.weak (Weak.hoist 2 3 903 rfl (by decide) rfl rfl rfl) ?_
  refine nw ?_
  refine AW.rep 903 (tr ([] : List DASlot)) rfl sim_nil ?_
  refine AW.weak (Weak.hoist 2 4 904 rfl (by decide) rfl rfl rfl) ?_
  refine nw ?_
  refine AW.rep 904 (tr ([] : List Int)) rfl sim_nil ?_
  refine AW.weak (Weak.hoist 2 5 905 rfl (by decide) rfl rfl rfl) ?_
  refine nw ?_
  refine AW.rep 905 (tr ([] : List Bool)) rfl sim_nil ?_
  refine AW.weak (Weak.hoist 2 6 906 rfl (by decide) rfl rfl rfl) ?_
  refine nw ?_
  refine AW.rep 906 (tr ([] : List DAOpen)) rfl sim_nil ?_
  refine AW.weak (Weak.hoist 2 7 907 rfl (by decide) rfl rfl rfl) ?_
  refine nw ?_
  refine AW.rep 907 (tr ([] : List DARing)) rfl sim_nil ?_
  refine AW.weak (Weak.hoist 2 8 908 rfl (by decide) rfl rfl rfl) ?_
  refine nw ?_
  refine AW.rep 908 (tr ([] : List DAFile)) rfl sim_nil ?_
  refine AW.weak (Weak.hoist 2 10 909 rfl (by decide) rfl rfl rfl) ?_
  refine nw ?_
  refine AW.rep 909 (tr ([] : List Int)) rfl sim_nil ?_
  refine AW.weak (Weak.hoist 2 13 910 rfl (by decide) rfl rfl rfl) ?_
  refine nw ?_
  refine AW.rep 910 (tr ([] : List Int)) rfl sim_nil ?_
  refine AW.ret (endQ_ret (.cons (.cellG 2 40 rfl rfl rfl ag40 sz40 (by decide)) (.cons (.tmp 3) .nil)) ?_)
  rw [loadR_f hU, hU]
  refine ⟨fun i => if i = 0 then 902 else if i = 1 then 903 else if i = 2 then 904 else if i = 3 then 905 else if i = 4 then 906 else if i = 5 then 907 else if i = 6 then 908 else if i = 7 then 909 else 910, rfl, nodup_of rfl, ?_⟩
  intro r hr
  simp only [List.mem_cons, List.not_mem_nil, or_false] at hr
  rcases hr with rfl | rfl | rfl | rfl | rfl | rfl | rfl | rfl | rfl <;> exact ⟨by simp, rootL_mem rfl⟩
 have k1 := c1
 try simp only [cnd] at c1
 have hU : unixOk u = true := by simpa using k1
 have hL := loadF_of hU
 refine go [.J,.R,.G] (k := ?_)
 refine sp (Stp.callR rfl (by decide) Tryz.call36 rfl rfl (l14Load_con u hL hw) (nodup_of rfl) rfl rfl) ?_
 refine go [.N,.s,.N,.a,.Z] (k := ?_)
 refine AW.ret (endQ_ret (.cons (.cellG 2 40 rfl rfl rfl ag40 sz40 (by decide)) (.cons (.tmp 3) .nil)) ?_)
 rw [loadR_t hU, hU]
 refine ⟨fun i => if i = 0 then 9 else if i = 1 then 1009 else if i = 2 then 2009 else if i = 3 then 3009 else if i = 4 then 4009 else if i = 5 then 5009 else if i = 6 then 6009 else if i = 7 then 7009 else 8009, rfl, nodup_of rfl, ?_⟩
 intro r hr
 simp only [List.mem_cons, List.not_mem_nil, or_false] at hr
 rcases hr with rfl | rfl | rfl | rfl | rfl | rfl | rfl | rfl | rfl <;> exact ⟨by simp, rootL_mem rfl⟩
end Go.Proofs.YthjfgpkjooaahaaGreat.VM

