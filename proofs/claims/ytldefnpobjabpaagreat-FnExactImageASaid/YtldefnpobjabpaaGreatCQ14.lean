/- Contracts. No conditions. -/
import Derived.Test.YtldefnpobjabpaaGreatCQ11
set_option linter.all false
set_option maxHeartbeats 8000000
set_option maxRecDepth 10000
namespace Go.Proofs.YtldefnpobjabpaaGreat.VM
open Go Go.RowKit Go.Proofs
theorem AbsAI_con (a : DArrays) (hw : Mk.wt a ≤ 1048576) : Con Tryz.prog 10 [.g [.v (iv a.Next), .v (iv a.Tick), .h base [], .h (base + 1) [], .h (base + 2) [], .h (base + 3) [], .h (base + 4) [], .h (base + 5) [], .h (base + 6) [], .v (.bool a.Ready.Used), .h (base + 7) [], .v (iv a.Ready.Head), .v (iv a.Ready.Len), .h (base + 8) []]] [.rt base .ro (tr a.Progs), .rt (base + 1) .ro (tr a.Slots), .rt (base + 2) .ro (tr a.Ram), .rt (base + 3) .ro (tr a.Map), .rt (base + 4) .ro (tr a.Opens), .rt (base + 5) .ro (tr a.Pipes), .rt (base + 6) .ro (tr a.Files), .rt (base + 7) .ro (tr a.Ready.Buf), .rt (base + 8) .ro (tr a.Out)] (Ret (.g [.v (iv (absA a).Next), .v (iv (absA a).Tick), .h 0 [], .h 1 [], .h 2 [], .h 3 [], .h 4 [], .h 5 [], .h 6 []]) [(0, .row, tr (absA a).Progs), (1, .row, tr (absA a).Procs), (2, .row, tr (absA a).Opens), (3, .row, tr (absA a).Pipes), (4, .row, tr (absA a).Files), (5, .row, tr (absA a).Ready), (6, .row, tr (absA a).Out)]) := by
 refine ob Tryz.func10 Tryz.ntmps10 ?_
 refine AW.len (base + 1) [] rfl (by simp [Okp]) rfl (fun hl1 => ?_)
 refine AW.len (base + 4) [] rfl (by simp [Okp]) rfl (fun hl4 => ?_)
 refine AW.len (base + 5) [] rfl (by simp [Okp]) rfl (fun hl5 => ?_)
 refine AW.len (base + 6) [] rfl (by simp [Okp]) rfl (fun hl6 => ?_)
 refine go [.R,.B,.N,.A,.Z,.R2,.G,.N] (k := ?_)
 refine cv Tryz.call43 rfl rfl (shapeAI_con a) ?_
 refine go [.N,.n,.Z] (k := ?_)
 refine cd (fun c1 => ?_) fun c1 => ?_
 ·have k1 := c1
  try simp only [cnd] at c1
  have hsh : shapeA a = false := by first | exact c1 | simpa using k1
  refine go [.R,.u,.s,.Z] (k := ?_)
  refine AW.weak (Weak.hoist 2 2 902 rfl (by decide) rfl rfl rfl) ?_
  refine AW.rep 902 (tr ([] : List (List DIns))) rfl sim_nil ?_
  refine AW.weak (Weak.hoist 2 3 903 rfl (by decide) rfl rfl rfl) ?_
  refine AW.rep 903 (tr ([] : List DProc)) rfl sim_nil ?_
  refine AW.weak (Weak.hoist 2 4 904 rfl (by decide) rfl rfl rfl) ?_
  refine AW.rep 904 (tr ([] : List DOpen)) rfl sim_nil ?_
  refine AW.weak (Weak.hoist 2 5 905 rfl (by decide) rfl rfl rfl) ?_
  refine AW.rep 905 (tr ([] : List DPipe)) rfl sim_nil ?_
  refine AW.weak (Weak.hoist 2 6 906 rfl (by decide) rfl rfl rfl) ?_
  refine AW.rep 906 (tr ([] : List DFile)) rfl sim_nil ?_
  refine AW.weak (Weak.hoist 2 7 907 rfl (by decide) rfl rfl rfl) ?_
  refine AW.rep 907 (tr ([] : List Int)) rfl sim_nil ?_
  refine AW.weak (Weak.hoist 2 8 908 rfl (by decide) rfl rfl rfl) ?_
  refine AW.rep 908 (tr ([] : List Int)) rfl sim_nil ?_
  refine AW.ret (endQ_ret (.cons (.cellG 2 40 rfl rfl rfl ag40 sz40 (by decide)) .nil) ?_)
  rw [absA_f hsh]
  refine ⟨fun i => if i = 0 then 902 else if i = 1 then 903 else if i = 2 then 904 else if i = 3 then 905 else if i = 4 then 906 else if i = 5 then 907 else 908, rfl, nodup_of rfl, ?_⟩
  intro r hr
  simp only [List.mem_cons, List.not_mem_nil, or_false] at hr
  rcases hr with rfl | rfl | rfl | rfl | rfl | rfl | rfl <;> exact ⟨by simp, rootL_mem rfl⟩
 have k1 := c1
 try simp only [cnd] at c1
 have hsh : shapeA a = true := by first | exact c1 | simpa using k1
 have hS := shpA hsh
 have hwu : Mk.wt a.Progs + Mk.wt a.Slots + Mk.wt a.Ram + Mk.wt a.Map + Mk.wt a.Opens + Mk.wt a.Pipes + Mk.wt a.Files + Mk.wt a.Ready.Buf + Mk.wt a.Out ≤ 1048576 := hw
 have hw1 := wt_len a.Files
 have hw2 := wt_ints a.Out
 have hs1 := hS.slots
 have hs2 := hS.ram
 have hs3 := hS.opens
 have hs4 := hS.pipes
 have hs5 := hS.files
 refine jd (AW.seq ?_)
 refine go [.D [0, 1, 2, 3, 4, 5, 7, 8, 10, 11, 13],.t 0,.f,.N,.t 1,.l,.t 2,.f,.t 3,.l,.N,.t 4,.f,.t 5,.l,.t 7,.f,.N,.t 8,.G,.t 10,.f,.t 11,.l,.N] (k := ?_)
 apply AWA.cutS #[true, true, true, true, true, true, true, true, true, true, true, true, true, true, true, false] [0, 1, 2, 3, 13]
 ·intro K3_2
  apply AWA.cutS #[true, true, true, true, true, true, true, true, true, true, true, true, false, false, true, false] [0, 1, 2, 3, 10, 11]
  ·intro K3_1
   apply AWA.cutS #[true, true, true, true, true, true, true, true, true, false, true, true, false, false, true, false] [0, 1, 2, 3, 7, 8, 10, 11]
   ·intro K3_0
    refine AWA.anyL [6, 14] (by decide +kernel) rfl ⟨?_, ?_, trivial⟩
    ·refine AWA.arm 6 [0, 1, 2, 3, 7, 8, 10, 11] [5, 4] rfl rfl rfl (by decide +kernel) (by decide +kernel) (by decide +kernel) (Stp.callR rfl (by decide) Tryz.call44 rfl rfl (cloneProgs_con _ (by omega)) (nodup_of rfl) rfl rfl) ?_
     refine go [.N,.g,.f,.g,.l,.g,.f,.N,.g,.l,.g,.f,.g,.G,.N,.g,.f,.g,.l,.N] (k := ?_)
     refine AWA.anyL [9, 14] (by decide +kernel) rfl ⟨?_, ?_, trivial⟩
     ·refine AWA.arm 9 [0, 1, 2, 3, 10, 11] [8, 6, 7, 5, 4] rfl rfl rfl (by decide +kernel) (by decide +kernel) (by decide +kernel) (Stp.callR rfl (by decide) Tryz.call45 rfl rfl (dataOf_con a.Ready 6 (by omega) hS.ready) (nodup_of rfl) rfl rfl) ?_
      refine go [.N,.g,.f,.g,.l,.g,.f,.N,.g,.l,.g,.f,.g,.l,.N] (k := ?_)
      refine AWA.anyL [12, 14] (by decide +kernel) rfl ⟨?_, ?_, trivial⟩
      ·refine AWA.arm 12 [0, 1, 2, 3] [11, 9, 10, 8, 6, 7, 5, 4] rfl rfl rfl (by decide +kernel) (by decide +kernel) (by decide +kernel) (Stp.callR rfl (by decide) Tryz.call46 rfl rfl (cloneI_con _ (by omega)) (nodup_of rfl) rfl rfl) ?_
       refine go [.N,.g,.f,.g,.l,.g,.f,.N,.g,.l,.N] (k := ?_)
       refine AWA.take 13 rfl rfl rfl (by decide +kernel) (.on rfl rfl (Qt.build rfl)) ?_
       refine AWA.one 14 [0, 1, 2, 3, 13] [] (by decide +kernel) rfl rfl rfl (by decide +kernel) (by decide +kernel) (by decide +kernel) sA ?_
       refine go [.N,.g,.f,.g,.l,.g,.f,.N,.g,.l,.g,.u,.N] (k := ?_)
       exact auR K3_2
      ·refine AWA.arm 14 [0, 1, 2, 3, 10, 11] [] rfl rfl rfl (by decide +kernel) (by decide +kernel) (by decide +kernel) sA ?_
       refine go [.N,.g,.f,.g,.l,.g,.f,.N,.g,.l,.g,.f,.g,.l,.N] (k := ?_)
       exact auR K3_1
     ·refine AWA.arm 14 [0, 1, 2, 3, 7, 8, 10, 11] [] rfl rfl rfl (by decide +kernel) (by decide +kernel) (by decide +kernel) sA ?_
      refine go [.N,.g,.f,.g,.l,.g,.f,.N,.g,.l,.g,.f,.g,.G,.N,.g,.f,.g,.l,.N] (k := ?_)
      exact auR K3_0
    ·refine AWA.arm 14 [0, 1, 2, 3, 4, 5, 7, 8, 10, 11] [] rfl rfl rfl (by decide +kernel) (by decide +kernel) (by decide +kernel) sA ?_
     refine go [.N,.g,.f,.g,.l,.g,.f,.N,.g,.l,.g,.f,.g,.l,.N,.g,.f,.g,.G,.g,.f,.N,.g,.l,.N] (k := ?_)
     refine AWA.one 6 [0, 1, 2, 3, 7, 8, 10, 11] [5, 4] (by decide +kernel) rfl rfl rfl (by decide +kernel) (by decide +kernel) (by decide +kernel) (Stp.callR rfl (by decide) Tryz.call44 rfl rfl (cloneProgs_con _ (by omega)) (nodup_of rfl) rfl rfl) ?_
     refine go [.N,.g,.f,.g,.l,.g,.f,.N,.g,.l,.g,.f,.g,.G,.N,.g,.f,.g,.l,.N] (k := ?_)
     exact auP K3_0
   ·refine AWA.one 9 [0, 1, 2, 3, 10, 11] [8, 6, 7, 5, 4] (by decide +kernel) rfl rfl rfl (by decide +kernel) (by decide +kernel) (by decide +kernel) (Stp.callR rfl (by decide) Tryz.call45 rfl rfl (dataOf_con a.Ready 6 (by omega) hS.ready) (nodup_of rfl) rfl rfl) ?_
    refine go [.N,.g,.f,.g,.l,.g,.f,.N,.g,.l,.g,.f,.g,.l,.N] (k := ?_)
    exact auP K3_1
  ·refine AWA.one 12 [0, 1, 2, 3] [11, 9, 10, 8, 6, 7, 5, 4] (by decide +kernel) rfl rfl rfl (by decide +kernel) (by decide +kernel) (by decide +kernel) (Stp.callR rfl (by decide) Tryz.call46 rfl rfl (cloneI_con _ (by omega)) (nodup_of rfl) rfl rfl) ?_
   refine go [.N,.g,.f,.g,.l,.g,.f,.N,.g,.l,.N] (k := ?_)
   refine AWA.take 13 rfl rfl rfl (by decide +kernel) (.on rfl rfl (Qt.build rfl)) ?_
   refine go [.N] (k := ?_)
   exact auP K3_2
 ·refine AWA.one 15 [] [14, 13, 12, 11, 10, 9, 8, 7, 6, 5, 4, 3, 2, 1, 0] (by decide +kernel) rfl rfl rfl (by decide +kernel) (by decide +kernel) (by decide +kernel) (by first | exact Stp.storeA rfl rfl rfl rfl (by decide) rfl | exact Stp.store rfl rfl (by simp) rfl rfl rfl (by decide) rfl) ?_
  refine go [.N,.Z,.R2,.f,.l,.h,.N,.m,.Z] (k := ?_)
  refine AW.block ?_
  refine AW.weak (Weak.hoist 3 3 70 rfl (by decide) rfl rfl rfl) ?_
  refine AW.weak (Weak.hoist 3 4 99 rfl (by decide) rfl rfl rfl) ?_
  refine AW.weak (Weak.hoist 3 5 119 rfl (by decide) rfl rfl rfl) ?_
  refine AW.weak (Weak.hoist 3 6 140 rfl (by decide) rfl rfl rfl) ?_
  refine AW.weak (L' := (.sl 33 (.v (iv (0 : Nat))) :: .sl 2 (.p 2 [] 9 0 0) :: .sl 3 (.p 3 [] 9 0 0) :: .rt 1 .box (T.s 14 1 fun k c => ([(T.v (iv a.Next), none), (T.v (iv a.Tick), none), (T.j, none), (T.j, none), (T.j, none), (T.j, none), (T.j, none), (T.j, none), (T.j, none), (T.v (Value.bool a.Ready.Used), none), (T.j, none), (T.v (iv a.Ready.Head), none), (T.v (iv a.Ready.Len), none), (T.j, none)].getD (k * 14 + c) (T.j, none)).fst) :: .al 1 2 (.h base []) :: .al 1 3 (.h (base + 1) []) :: .al 1 4 (.h (base + 2) []) :: .al 1 5 (.h (base + 3) []) :: .al 1 6 (.h (base + 4) []) :: .al 1 7 (.h (base + 5) []) :: .al 1 8 (.h (base + 6) []) :: .al 1 10 (.h (base + 7) []) :: .al 1 13 (.h (base + 8) []) :: .rt base .ro (tr a.Progs) :: .rt (base + 1) .ro (tr a.Slots) :: .rt (base + 2) .ro (tr a.Ram) :: .rt (base + 3) .ro (tr a.Map) :: .rt (base + 4) .ro (tr a.Opens) :: .rt (base + 5) .ro (tr a.Pipes) :: .rt (base + 6) .ro (tr a.Files) :: .rt (base + 7) .ro (tr a.Ready.Buf) :: .rt (base + 8) .ro (tr a.Out) :: .sl 1 (.p 1 [] 14 0 0) :: .sl 31 (.h (base + 1) []) :: .sl 32 (.v (iv a.Slots.length)) :: .rt 2 .box (T.s 9 1 fun _ c => [T.v (iv 0), T.v (iv 0), T.s 1 0 fun _ _ => T.j, T.s 10 0 fun _ _ => T.j, T.s 5 0 fun _ _ => T.j, T.s 2 0 fun _ _ => T.j, T.s 2 0 fun _ _ => T.j, T.s 1 0 fun _ _ => T.j, T.s 1 0 fun _ _ => T.j].getD c T.j) :: .rt 3 .box (T.s 9 1 fun _ c => [T.v (iv a.Next), T.v (iv a.Tick), T.j, T.j, T.j, T.j, T.j, T.j, T.j].getD c T.j) :: .al 3 2 (.h 22 []) :: .al 3 3 (.h 70 []) :: .al 3 4 (.h 99 []) :: .al 3 5 (.h 119 []) :: .al 3 6 (.h 140 []) :: .al 3 7 (.h 25 []) :: .al 3 8 (.h 28 []) :: .rt 22 .row (tr a.Progs) :: .rt 70 .row (tr (procsK a (0 : Nat))) :: .rt 99 .row (tr (opensK a 0)) :: .rt 119 .row (tr (pipesK a 0)) :: .rt 140 .row (tr (filesK a 0)) :: .rt 25 .row (tr (dataL a.Ready)) :: .rt 28 .row (tr a.Out) :: [])) (Weak.sim ⟨rfl, rfl, rfl, Rf rfl, ⟨rfl, rfl⟩, ⟨rfl, rfl⟩, ⟨rfl, rfl⟩, ⟨rfl, rfl⟩, ⟨rfl, rfl⟩, ⟨rfl, rfl⟩, ⟨rfl, rfl⟩, ⟨rfl, rfl⟩, ⟨rfl, rfl⟩, Rf rfl, Rf rfl, Rf rfl, Rf rfl, Rf rfl, Rf rfl, Rf rfl, Rf rfl, Rf rfl, rfl, rfl, rfl, ⟨_, rfl, (sc_sim (n := 9) (fun c hc => match c, hc with | 0, _ => tsr | 1, _ => tsr | 2, _ => tsr | 3, _ => tsr | 4, _ => tsr | 5, _ => tsr | 6, _ => tsr | 7, _ => tsr | 8, _ => tsr | c + 9, hc => absurd hc (by omega)))⟩, ⟨_, rfl, (sc_sim (n := 9) (fun c hc => match c, hc with | 0, _ => tsr | 1, _ => tsr | 2, _ => tsr | 3, _ => tsr | 4, _ => tsr | 5, _ => tsr | 6, _ => tsr | 7, _ => tsr | 8, _ => tsr | c + 9, hc => absurd hc (by omega)))⟩, ⟨rfl, rfl⟩, ⟨rfl, rfl⟩, ⟨rfl, rfl⟩, ⟨rfl, rfl⟩, ⟨rfl, rfl⟩, ⟨rfl, rfl⟩, ⟨rfl, rfl⟩, Rf rfl, ⟨_, rfl, sim_nil⟩, ⟨_, rfl, sim_nil⟩, ⟨_, rfl, sim_nil⟩, ⟨_, rfl, sim_nil⟩, Rf rfl, Rf rfl, trivial⟩ rfl rfl) ?_
  refine AW.loop (fun i : KInv a.Slots.length => (.sl 33 (.v (iv i.k)) :: .sl 2 (.p 2 [] 9 0 0) :: .sl 3 (.p 3 [] 9 0 0) :: .rt 1 .box (T.s 14 1 fun k c => ([(T.v (iv a.Next), none), (T.v (iv a.Tick), none), (T.j, none), (T.j, none), (T.j, none), (T.j, none), (T.j, none), (T.j, none), (T.j, none), (T.v (Value.bool a.Ready.Used), none), (T.j, none), (T.v (iv a.Ready.Head), none), (T.v (iv a.Ready.Len), none), (T.j, none)].getD (k * 14 + c) (T.j, none)).fst) :: .al 1 2 (.h base []) :: .al 1 3 (.h (base + 1) []) :: .al 1 4 (.h (base + 2) []) :: .al 1 5 (.h (base + 3) []) :: .al 1 6 (.h (base + 4) []) :: .al 1 7 (.h (base + 5) []) :: .al 1 8 (.h (base + 6) []) :: .al 1 10 (.h (base + 7) []) :: .al 1 13 (.h (base + 8) []) :: .rt base .ro (tr a.Progs) :: .rt (base + 1) .ro (tr a.Slots) :: .rt (base + 2) .ro (tr a.Ram) :: .rt (base + 3) .ro (tr a.Map) :: .rt (base + 4) .ro (tr a.Opens) :: .rt (base + 5) .ro (tr a.Pipes) :: .rt (base + 6) .ro (tr a.Files) :: .rt (base + 7) .ro (tr a.Ready.Buf) :: .rt (base + 8) .ro (tr a.Out) :: .sl 1 (.p 1 [] 14 0 0) :: .sl 31 (.h (base + 1) []) :: .sl 32 (.v (iv a.Slots.length)) :: .rt 2 .box (T.s 9 1 fun _ c => [T.v (iv 0), T.v (iv 0), T.s 1 0 fun _ _ => T.j, T.s 10 0 fun _ _ => T.j, T.s 5 0 fun _ _ => T.j, T.s 2 0 fun _ _ => T.j, T.s 2 0 fun _ _ => T.j, T.s 1 0 fun _ _ => T.j, T.s 1 0 fun _ _ => T.j].getD c T.j) :: .rt 3 .box (T.s 9 1 fun _ c => [T.v (iv a.Next), T.v (iv a.Tick), T.j, T.j, T.j, T.j, T.j, T.j, T.j].getD c T.j) :: .al 3 2 (.h 22 []) :: .al 3 3 (.h 70 []) :: .al 3 4 (.h 99 []) :: .al 3 5 (.h 119 []) :: .al 3 6 (.h 140 []) :: .al 3 7 (.h 25 []) :: .al 3 8 (.h 28 []) :: .rt 22 .row (tr a.Progs) :: .rt 70 .row (tr (procsK a i.k)) :: .rt 99 .row (tr (opensK a 0)) :: .rt 119 .row (tr (pipesK a 0)) :: .rt 140 .row (tr (filesK a 0)) :: .rt 25 .row (tr (dataL a.Ready)) :: .rt 28 .row (tr a.Out) :: [])) (fun i => a.Slots.length - i.k) ⟨0, Nat.zero_le _⟩ ?_
  intro i
  have hle := i.le
  have hkl := procsK_le (a := a) i.k
  refine go [.R,.b,.Z] (k := ?_)
  refine AW.seq ?_
  refine cd (fun c2 => ?_) fun c2 => ?_
  ·try simp only [cnd] at c2
   refine jd (AW.seq (AW.block (sr ?_)))
   refine go [.i,.N,.G,.A,.N,.s,.Z,.R,.f,.N,.l,.Z] (k := ?_)
   refine cd (fun c3 => ?_) fun c3 => ?_
   ·have k3 := c3
    try simp only [cnd] at c3
    have hU : (a.Slots.getD i.k En.dflt).Used = true := by first | exact c3 | exact k3 | simpa using k3
    have hsl := hS.slot i.k (by omega)
    have htw := tw_le (a.Slots.getD i.k En.dflt).Pt
    refine go [.D [0, 1, 2, 3, 4, 5, 6, 7, 8, 9, 10, 11, 12, 13, 15, 16, 17, 18, 19, 22, 23, 25, 26, 27, 28, 29, 32],.t 0,.f,.t 1,.l,.N,.t 2,.f,.t 3,.l,.t 4,.f,.N,.t 5,.l,.t 6,.f,.t 7,.l,.N,.t 8,.f,.t 9,.l,.t 10,.f,.N,.t 11,.l,.t 12,.f,.t 13,.l,.N,.t 16,.f,.t 17,.l,.t 18,.f,.N,.t 19,.l,.t 22,.f,.t 23,.l,.N,.t 25,.f,.t 26,.l,.t 27,.f,.N,.t 28,.l] (k := ?_)
    refine a1 14 [0, 1, 2, 3, 4, 5, 6, 7, 8, 9, 10, 11, 16, 17, 18, 19, 22, 23, 25, 26, 27, 28] [13, 12] rfl rfl (Stp.callR rfl (by decide) Tryz.call46 rfl rfl (cloneI_con _ (by omega)) (nodup_of rfl) rfl rfl) ?_
    refine go [.N,.g,.f,.N,.g,.l,.N,.g,.f,.N,.g,.l,.N,.g,.f,.N,.g,.l,.N,.g,.f,.N,.g,.l,.N,.g,.f,.N,.g,.l,.N,.g,.f,.N,.g,.l,.N,.g,.f,.N,.g,.l,.N,.g,.f,.N,.g,.l,.N,.g,.f,.N,.g,.l,.N,.g,.f,.N,.g,.l,.N,.g,.f,.N,.g,.l,.N,.t 15,.u] (k := ?_)
    refine a1 20 [0, 1, 2, 3, 4, 5, 6, 7, 8, 9, 10, 11, 15, 16, 17, 22, 23, 25, 26, 27, 28] [19, 14, 18, 13, 12] rfl rfl (Stp.callR rfl (by decide) Tryz.call48 rfl rfl (pagesOf_con (a.Slots.getD i.k En.dflt).Pt (by omega)) (nodup_of rfl) rfl rfl) ?_
    refine go [.N,.g,.f,.N,.g,.l,.N,.g,.f,.N,.g,.l,.N,.g,.f,.N,.g,.l,.N,.g,.f,.N,.g,.l,.N,.g,.f,.N,.g,.l,.N,.g,.f,.N,.g,.l,.N,.g,.u,.N,.g,.f,.N,.g,.l,.N,.g,.f,.N,.g,.l,.N,.g,.f,.N,.g,.l,.N,.g,.f,.N,.g,.l,.N] (k := ?_)
    refine a1 21 [0, 1, 2, 3, 4, 5, 6, 7, 8, 9, 10, 11, 15, 22, 23, 25, 26, 27, 28] [20, 17, 19, 14, 16, 18, 13, 12] rfl rfl (Stp.callR rfl (by decide) Tryz.call47 rfl rfl (memOf_con a.Ram ((a.Slots.getD i.k En.dflt).Pt.takeWhile isFr) hs2 (tw_bd _) (by omega)) (nodup_of rfl) rfl rfl) ?_
    refine go [.N,.g,.f,.N,.g,.l,.N,.g,.f,.N,.g,.l,.N,.g,.f,.N,.g,.l,.N,.g,.f,.N,.g,.l,.N,.g,.f,.N,.g,.l,.N,.g,.f,.N,.g,.l,.N,.g,.u,.N,.g,.f,.N,.g,.l,.N,.g,.f,.N,.g,.l,.N,.g,.f,.N,.g,.l,.N] (k := ?_)
    refine AWA.rep 60 (tr (memK a.Ram (a.Slots.getD i.k En.dflt).Pt (pagesN (a.Slots.getD i.k En.dflt).Pt))) rfl (by rw [memK_pages]; exact tsr) ?_
    refine go [.N] (k := ?_)
    refine a1 24 [0, 1, 2, 3, 4, 5, 6, 7, 8, 9, 10, 11, 15, 25, 26, 27, 28] [23, 21, 22, 20, 17, 19, 14, 16, 18, 13, 12] rfl rfl (Stp.callR rfl (by decide) Tryz.call46 rfl rfl (cloneI_con _ (by omega)) (nodup_of rfl) rfl rfl) ?_
    refine go [.N,.g,.f,.N,.g,.l,.N,.g,.f,.N,.g,.l,.N,.g,.f,.N,.g,.l,.N,.g,.f,.N,.g,.l,.N,.g,.f,.N,.g,.l,.N,.g,.f,.N,.g,.l,.N,.g,.u,.N,.g,.f,.N,.g,.l,.N,.g,.f,.N,.g,.l,.N,.t 29,.u,.N,.O 30 [0, 1] [29, 28, 26, 24, 21, 15, 9, 7, 5, 3, 27, 25, 23, 20, 17, 14, 11, 8, 6, 4, 2, 22, 19, 16, 13, 10, 18, 12],.S,.N,.g,.f,.N,.g,.l,.N] (k := ?_)
    refine AWA.rep 69 (tr [(procP a (a.Slots.getD i.k En.dflt))]) rfl (row1_sim (α := DProc) (fun c hc => match c, hc with | 0, _ => tsr | 1, _ => tsr | 2, _ => tsr | 3, _ => tsr | 4, _ => tsr | 5, _ => tsr | 6, _ => tsr | 7, _ => tsr | 8, _ => tsr | 9, _ => tsr | c + 10, hc => absurd hc (by simp only [En.n]; omega))) ?_
    refine go [.N] (k := ?_)
    refine a1 31 [] [30, 24, 1, 29, 23, 21, 0, 28, 26, 15, 9, 7, 5, 3, 22, 20, 17, 27, 25, 14, 11, 8, 6, 4, 2, 19, 16, 13, 10, 18, 12] rfl rfl (Stp.appendM rfl (by decide) (by decide) rfl rfl rfl (by simp only [List.length_cons, List.length_nil, List.length_append]; omega)) ?_
    refine go [.N] (k := ?_)
    refine AWA.rep 70 (tr (procsK a (i.k + 1))) rfl (by rw [procsK_t hU]; exact app_sim (l := procsK a i.k) (l' := [procP a (a.Slots.getD i.k En.dflt)]) rfl (fun _ _ _ _ => rfl) (fun _ _ _ _ => rfl)) ?_
    refine go [.N,.t 32,.f,.O 33 [] [32, 31, 30, 29, 28, 27, 26, 25, 24, 23, 22, 21, 20, 19, 18, 17, 16, 15, 14, 13, 12, 11, 10, 9, 8, 7, 6, 5, 4, 3, 2, 1, 0],.s,.N,.Z,.R1,.b,.m,.Z] (k := ?_)
    refine ⟨⟨i.k + 1, by omega⟩, Weak.sim ⟨st1, rfl, rfl, Rf rfl, ⟨rfl, rfl⟩, ⟨rfl, rfl⟩, ⟨rfl, rfl⟩, ⟨rfl, rfl⟩, ⟨rfl, rfl⟩, ⟨rfl, rfl⟩, ⟨rfl, rfl⟩, ⟨rfl, rfl⟩, ⟨rfl, rfl⟩, Rf rfl, Rf rfl, Rf rfl, Rf rfl, Rf rfl, Rf rfl, Rf rfl, Rf rfl, Rf rfl, rfl, rfl, rfl, Rf rfl, ⟨_, rfl, (sc_sim (n := 9) (fun c hc => match c, hc with | 0, _ => tsr | 1, _ => tsr | 2, _ => tsr | 3, _ => tsr | 4, _ => tsr | 5, _ => tsr | 6, _ => tsr | 7, _ => tsr | 8, _ => tsr | c + 9, hc => absurd hc (by omega)))⟩, ⟨rfl, rfl⟩, ⟨rfl, rfl⟩, ⟨rfl, rfl⟩, ⟨rfl, rfl⟩, ⟨rfl, rfl⟩, ⟨rfl, rfl⟩, ⟨rfl, rfl⟩, Rf rfl, Rf rfl, Rf rfl, Rf rfl, Rf rfl, Rf rfl, Rf rfl, trivial⟩ rfl rfl, ?_⟩
    show a.Slots.length - (i.k + 1) < a.Slots.length - i.k
    omega
   have k3 := c3
   try simp only [cnd] at c3
   have hU : (a.Slots.getD i.k En.dflt).Used = false := by first | exact c3 | exact k3 | simpa using k3
   refine go [.J,.R1,.b,.N] (k := ?_)
   refine AWL.rep 70 (tr (procsK a (i.k + 1))) rfl (by rw [procsK_f hU]; exact tsr) ?_
   refine go [.N,.m,.Z] (k := ?_)
   refine ⟨⟨i.k + 1, by omega⟩, Weak.sim ⟨st1, rfl, rfl, Rf rfl, ⟨rfl, rfl⟩, ⟨rfl, rfl⟩, ⟨rfl, rfl⟩, ⟨rfl, rfl⟩, ⟨rfl, rfl⟩, ⟨rfl, rfl⟩, ⟨rfl, rfl⟩, ⟨rfl, rfl⟩, ⟨rfl, rfl⟩, Rf rfl, Rf rfl, Rf rfl, Rf rfl, Rf rfl, Rf rfl, Rf rfl, Rf rfl, Rf rfl, rfl, rfl, rfl, Rf rfl, ⟨_, rfl, (sc_sim (n := 9) (fun c hc => match c, hc with | 0, _ => tsr | 1, _ => tsr | 2, _ => tsr | 3, _ => tsr | 4, _ => tsr | 5, _ => tsr | 6, _ => tsr | 7, _ => tsr | 8, _ => tsr | c + 9, hc => absurd hc (by omega)))⟩, ⟨rfl, rfl⟩, ⟨rfl, rfl⟩, ⟨rfl, rfl⟩, ⟨rfl, rfl⟩, ⟨rfl, rfl⟩, ⟨rfl, rfl⟩, ⟨rfl, rfl⟩, Rf rfl, Rf rfl, Rf rfl, Rf rfl, Rf rfl, Rf rfl, Rf rfl, trivial⟩ rfl rfl, ?_⟩
   show a.Slots.length - (i.k + 1) < a.Slots.length - i.k
   omega
  try simp only [cnd] at c2
  have hpl := procsK_le (a := a) a.Slots.length
  refine AW.rep 70 (tr (procsK a a.Slots.length)) rfl (by rw [show i.k = a.Slots.length by omega]; exact tsr) ?_
  refine AW.exit ?_
  dsimp only [thenQ, blockQ, reduceIte]
  refine go [.R,.f,.l,.N] (k := ?_)
  refine sp (Stp.callH rfl (by decide) Tryz.call49 rfl (sortProcs_con (procsK a a.Slots.length) (by omega)) rfl rfl rfl (nodup_of rfl) rfl rfl) ?_
  refine go [.Z,.R2,.f,.N,.l,.h,.m,.Z] (k := ?_)
  refine AW.block ?_
  refine AW.weak (L' := (.sl 79 (.v (iv (0 : Nat))) :: .sl 2 (.p 2 [] 9 0 0) :: .sl 3 (.p 3 [] 9 0 0) :: .rt 1 .box (T.s 14 1 fun k c => ([(T.v (iv a.Next), none), (T.v (iv a.Tick), none), (T.j, none), (T.j, none), (T.j, none), (T.j, none), (T.j, none), (T.j, none), (T.j, none), (T.v (Value.bool a.Ready.Used), none), (T.j, none), (T.v (iv a.Ready.Head), none), (T.v (iv a.Ready.Len), none), (T.j, none)].getD (k * 14 + c) (T.j, none)).fst) :: .al 1 2 (.h base []) :: .al 1 3 (.h (base + 1) []) :: .al 1 4 (.h (base + 2) []) :: .al 1 5 (.h (base + 3) []) :: .al 1 6 (.h (base + 4) []) :: .al 1 7 (.h (base + 5) []) :: .al 1 8 (.h (base + 6) []) :: .al 1 10 (.h (base + 7) []) :: .al 1 13 (.h (base + 8) []) :: .rt base .ro (tr a.Progs) :: .rt (base + 1) .ro (tr a.Slots) :: .rt (base + 2) .ro (tr a.Ram) :: .rt (base + 3) .ro (tr a.Map) :: .rt (base + 4) .ro (tr a.Opens) :: .rt (base + 5) .ro (tr a.Pipes) :: .rt (base + 6) .ro (tr a.Files) :: .rt (base + 7) .ro (tr a.Ready.Buf) :: .rt (base + 8) .ro (tr a.Out) :: .sl 1 (.p 1 [] 14 0 0) :: .sl 77 (.h (base + 4) []) :: .sl 78 (.v (iv a.Opens.length)) :: .rt 2 .box (T.s 9 1 fun _ c => [T.v (iv 0), T.v (iv 0), T.s 1 0 fun _ _ => T.j, T.s 10 0 fun _ _ => T.j, T.s 5 0 fun _ _ => T.j, T.s 2 0 fun _ _ => T.j, T.s 2 0 fun _ _ => T.j, T.s 1 0 fun _ _ => T.j, T.s 1 0 fun _ _ => T.j].getD c T.j) :: .rt 3 .box (T.s 9 1 fun _ c => [T.v (iv a.Next), T.v (iv a.Tick), T.j, T.j, T.j, T.j, T.j, T.j, T.j].getD c T.j) :: .al 3 2 (.h 22 []) :: .al 3 3 (.h 70 []) :: .al 3 4 (.h 99 []) :: .al 3 5 (.h 119 []) :: .al 3 6 (.h 140 []) :: .al 3 7 (.h 25 []) :: .al 3 8 (.h 28 []) :: .rt 22 .row (tr a.Progs) :: .rt 70 .row (tr (sortK DProc.Pid (procsK a a.Slots.length))) :: .rt 99 .row (tr (opensK a (0 : Nat))) :: .rt 119 .row (tr (pipesK a 0)) :: .rt 140 .row (tr (filesK a 0)) :: .rt 25 .row (tr (dataL a.Ready)) :: .rt 28 .row (tr a.Out) :: [])) (Weak.sim ⟨rfl, rfl, rfl, Rf rfl, ⟨rfl, rfl⟩, ⟨rfl, rfl⟩, ⟨rfl, rfl⟩, ⟨rfl, rfl⟩, ⟨rfl, rfl⟩, ⟨rfl, rfl⟩, ⟨rfl, rfl⟩, ⟨rfl, rfl⟩, ⟨rfl, rfl⟩, Rf rfl, Rf rfl, Rf rfl, Rf rfl, Rf rfl, Rf rfl, Rf rfl, Rf rfl, Rf rfl, rfl, rfl, rfl, ⟨_, rfl, (sc_sim (n := 9) (fun c hc => match c, hc with | 0, _ => tsr | 1, _ => tsr | 2, _ => tsr | 3, _ => tsr | 4, _ => tsr | 5, _ => tsr | 6, _ => tsr | 7, _ => tsr | 8, _ => tsr | c + 9, hc => absurd hc (by omega)))⟩, ⟨_, rfl, (sc_sim (n := 9) (fun c hc => match c, hc with | 0, _ => tsr | 1, _ => tsr | 2, _ => tsr | 3, _ => tsr | 4, _ => tsr | 5, _ => tsr | 6, _ => tsr | 7, _ => tsr | 8, _ => tsr | c + 9, hc => absurd hc (by omega)))⟩, ⟨rfl, rfl⟩, ⟨rfl, rfl⟩, ⟨rfl, rfl⟩, ⟨rfl, rfl⟩, ⟨rfl, rfl⟩, ⟨rfl, rfl⟩, ⟨rfl, rfl⟩, Rf rfl, Rf rfl, Rf rfl, Rf rfl, Rf rfl, Rf rfl, Rf rfl, trivial⟩ rfl rfl) ?_
  refine AW.loop (fun i : KInv a.Opens.length => (.sl 79 (.v (iv i.k)) :: .sl 2 (.p 2 [] 9 0 0) :: .sl 3 (.p 3 [] 9 0 0) :: .rt 1 .box (T.s 14 1 fun k c => ([(T.v (iv a.Next), none), (T.v (iv a.Tick), none), (T.j, none), (T.j, none), (T.j, none), (T.j, none), (T.j, none), (T.j, none), (T.j, none), (T.v (Value.bool a.Ready.Used), none), (T.j, none), (T.v (iv a.Ready.Head), none), (T.v (iv a.Ready.Len), none), (T.j, none)].getD (k * 14 + c) (T.j, none)).fst) :: .al 1 2 (.h base []) :: .al 1 3 (.h (base + 1) []) :: .al 1 4 (.h (base + 2) []) :: .al 1 5 (.h (base + 3) []) :: .al 1 6 (.h (base + 4) []) :: .al 1 7 (.h (base + 5) []) :: .al 1 8 (.h (base + 6) []) :: .al 1 10 (.h (base + 7) []) :: .al 1 13 (.h (base + 8) []) :: .rt base .ro (tr a.Progs) :: .rt (base + 1) .ro (tr a.Slots) :: .rt (base + 2) .ro (tr a.Ram) :: .rt (base + 3) .ro (tr a.Map) :: .rt (base + 4) .ro (tr a.Opens) :: .rt (base + 5) .ro (tr a.Pipes) :: .rt (base + 6) .ro (tr a.Files) :: .rt (base + 7) .ro (tr a.Ready.Buf) :: .rt (base + 8) .ro (tr a.Out) :: .sl 1 (.p 1 [] 14 0 0) :: .sl 77 (.h (base + 4) []) :: .sl 78 (.v (iv a.Opens.length)) :: .rt 2 .box (T.s 9 1 fun _ c => [T.v (iv 0), T.v (iv 0), T.s 1 0 fun _ _ => T.j, T.s 10 0 fun _ _ => T.j, T.s 5 0 fun _ _ => T.j, T.s 2 0 fun _ _ => T.j, T.s 2 0 fun _ _ => T.j, T.s 1 0 fun _ _ => T.j, T.s 1 0 fun _ _ => T.j].getD c T.j) :: .rt 3 .box (T.s 9 1 fun _ c => [T.v (iv a.Next), T.v (iv a.Tick), T.j, T.j, T.j, T.j, T.j, T.j, T.j].getD c T.j) :: .al 3 2 (.h 22 []) :: .al 3 3 (.h 70 []) :: .al 3 4 (.h 99 []) :: .al 3 5 (.h 119 []) :: .al 3 6 (.h 140 []) :: .al 3 7 (.h 25 []) :: .al 3 8 (.h 28 []) :: .rt 22 .row (tr a.Progs) :: .rt 70 .row (tr (sortK DProc.Pid (procsK a a.Slots.length))) :: .rt 99 .row (tr (opensK a i.k)) :: .rt 119 .row (tr (pipesK a 0)) :: .rt 140 .row (tr (filesK a 0)) :: .rt 25 .row (tr (dataL a.Ready)) :: .rt 28 .row (tr a.Out) :: [])) (fun i => a.Opens.length - i.k) ⟨0, Nat.zero_le _⟩ ?_
  intro i
  have hle := i.le
  have hkl := opensK_le (a := a) i.k
  refine go [.R,.b,.Z] (k := ?_)
  refine AW.seq ?_
  refine cd (fun c4 => ?_) fun c4 => ?_
  ·try simp only [cnd] at c4
   refine jd (AW.seq (AW.block (sr ?_)))
   refine go [.m,.N,.i,.G,.A,.N,.a,.s,.Z,.R,.f,.N,.l,.Z] (k := ?_)
   refine cd (fun c5 => ?_) fun c5 => ?_
   ·have k5 := c5
    try simp only [cnd] at c5
    have hU : (a.Opens.getD i.k En.dflt).Used = true := by first | exact c5 | exact k5 | simpa using k5
    refine go [.R1,.f,.l,.N,.m,.f,.l,.N,.f,.l,.f,.N,.l,.f,.l,.N,.u,.S,.N] (k := ?_)
    refine AWL.rep 98 (tr [(openP i.k (a.Opens.getD i.k En.dflt))]) rfl (row1_sim (α := DOpen) (fun c hc => match c, hc with | 0, _ => tsr | 1, _ => tsr | 2, _ => tsr | 3, _ => tsr | 4, _ => tsr | c + 5, hc => absurd hc (by simp only [En.n]; omega))) ?_
    refine go [.N] (k := ?_)
    refine sp (Stp.appendM rfl (by decide) (by decide) rfl rfl rfl (by simp only [List.length_cons, List.length_nil, List.length_append]; omega)) ?_
    refine go [.N] (k := ?_)
    refine AWL.rep 99 (tr (opensK a (i.k + 1))) rfl (by rw [opensK_t hU]; exact app_sim (l := opensK a i.k) (l' := [openP i.k (a.Opens.getD i.k En.dflt)]) rfl (fun _ _ _ _ => rfl) (fun _ _ _ _ => rfl)) ?_
    refine go [.N,.f,.s,.Z,.R1,.b,.N,.m,.Z] (k := ?_)
    refine ⟨⟨i.k + 1, by omega⟩, Weak.sim ⟨st1, rfl, rfl, Rf rfl, ⟨rfl, rfl⟩, ⟨rfl, rfl⟩, ⟨rfl, rfl⟩, ⟨rfl, rfl⟩, ⟨rfl, rfl⟩, ⟨rfl, rfl⟩, ⟨rfl, rfl⟩, ⟨rfl, rfl⟩, ⟨rfl, rfl⟩, Rf rfl, Rf rfl, Rf rfl, Rf rfl, Rf rfl, Rf rfl, Rf rfl, Rf rfl, Rf rfl, rfl, rfl, rfl, Rf rfl, ⟨_, rfl, (sc_sim (n := 9) (fun c hc => match c, hc with | 0, _ => tsr | 1, _ => tsr | 2, _ => tsr | 3, _ => tsr | 4, _ => tsr | 5, _ => tsr | 6, _ => tsr | 7, _ => tsr | 8, _ => tsr | c + 9, hc => absurd hc (by omega)))⟩, ⟨rfl, rfl⟩, ⟨rfl, rfl⟩, ⟨rfl, rfl⟩, ⟨rfl, rfl⟩, ⟨rfl, rfl⟩, ⟨rfl, rfl⟩, ⟨rfl, rfl⟩, Rf rfl, Rf rfl, Rf rfl, Rf rfl, Rf rfl, Rf rfl, Rf rfl, trivial⟩ rfl rfl, ?_⟩
    show a.Opens.length - (i.k + 1) < a.Opens.length - i.k
    omega
   have k5 := c5
   try simp only [cnd] at c5
   have hU : (a.Opens.getD i.k En.dflt).Used = false := by first | exact c5 | exact k5 | simpa using k5
   refine go [.J,.R1,.b,.N] (k := ?_)
   refine AWL.rep 99 (tr (opensK a (i.k + 1))) rfl (by rw [opensK_f hU]; exact tsr) ?_
   refine go [.N,.m,.Z] (k := ?_)
   refine ⟨⟨i.k + 1, by omega⟩, Weak.sim ⟨st1, rfl, rfl, Rf rfl, ⟨rfl, rfl⟩, ⟨rfl, rfl⟩, ⟨rfl, rfl⟩, ⟨rfl, rfl⟩, ⟨rfl, rfl⟩, ⟨rfl, rfl⟩, ⟨rfl, rfl⟩, ⟨rfl, rfl⟩, ⟨rfl, rfl⟩, Rf rfl, Rf rfl, Rf rfl, Rf rfl, Rf rfl, Rf rfl, Rf rfl, Rf rfl, Rf rfl, rfl, rfl, rfl, Rf rfl, ⟨_, rfl, (sc_sim (n := 9) (fun c hc => match c, hc with | 0, _ => tsr | 1, _ => tsr | 2, _ => tsr | 3, _ => tsr | 4, _ => tsr | 5, _ => tsr | 6, _ => tsr | 7, _ => tsr | 8, _ => tsr | c + 9, hc => absurd hc (by omega)))⟩, ⟨rfl, rfl⟩, ⟨rfl, rfl⟩, ⟨rfl, rfl⟩, ⟨rfl, rfl⟩, ⟨rfl, rfl⟩, ⟨rfl, rfl⟩, ⟨rfl, rfl⟩, Rf rfl, Rf rfl, Rf rfl, Rf rfl, Rf rfl, Rf rfl, Rf rfl, trivial⟩ rfl rfl, ?_⟩
   show a.Opens.length - (i.k + 1) < a.Opens.length - i.k
   omega
  try simp only [cnd] at c4
  refine AW.exit ?_
  dsimp only [thenQ, blockQ, reduceIte]
  refine go [.R2,.f,.l,.N,.h,.m,.Z] (k := ?_)
  refine AW.block ?_
  refine AW.rep 99 (tr (opensK a a.Opens.length)) rfl (by rw [show i.k = a.Opens.length by omega]; exact tsr) ?_
  refine AW.weak (L' := (.sl 105 (.v (iv (0 : Nat))) :: .sl 2 (.p 2 [] 9 0 0) :: .sl 3 (.p 3 [] 9 0 0) :: .rt 1 .box (T.s 14 1 fun k c => ([(T.v (iv a.Next), none), (T.v (iv a.Tick), none), (T.j, none), (T.j, none), (T.j, none), (T.j, none), (T.j, none), (T.j, none), (T.j, none), (T.v (Value.bool a.Ready.Used), none), (T.j, none), (T.v (iv a.Ready.Head), none), (T.v (iv a.Ready.Len), none), (T.j, none)].getD (k * 14 + c) (T.j, none)).fst) :: .al 1 2 (.h base []) :: .al 1 3 (.h (base + 1) []) :: .al 1 4 (.h (base + 2) []) :: .al 1 5 (.h (base + 3) []) :: .al 1 6 (.h (base + 4) []) :: .al 1 7 (.h (base + 5) []) :: .al 1 8 (.h (base + 6) []) :: .al 1 10 (.h (base + 7) []) :: .al 1 13 (.h (base + 8) []) :: .rt base .ro (tr a.Progs) :: .rt (base + 1) .ro (tr a.Slots) :: .rt (base + 2) .ro (tr a.Ram) :: .rt (base + 3) .ro (tr a.Map) :: .rt (base + 4) .ro (tr a.Opens) :: .rt (base + 5) .ro (tr a.Pipes) :: .rt (base + 6) .ro (tr a.Files) :: .rt (base + 7) .ro (tr a.Ready.Buf) :: .rt (base + 8) .ro (tr a.Out) :: .sl 1 (.p 1 [] 14 0 0) :: .sl 103 (.h (base + 5) []) :: .sl 104 (.v (iv a.Pipes.length)) :: .rt 2 .box (T.s 9 1 fun _ c => [T.v (iv 0), T.v (iv 0), T.s 1 0 fun _ _ => T.j, T.s 10 0 fun _ _ => T.j, T.s 5 0 fun _ _ => T.j, T.s 2 0 fun _ _ => T.j, T.s 2 0 fun _ _ => T.j, T.s 1 0 fun _ _ => T.j, T.s 1 0 fun _ _ => T.j].getD c T.j) :: .rt 3 .box (T.s 9 1 fun _ c => [T.v (iv a.Next), T.v (iv a.Tick), T.j, T.j, T.j, T.j, T.j, T.j, T.j].getD c T.j) :: .al 3 2 (.h 22 []) :: .al 3 3 (.h 70 []) :: .al 3 4 (.h 99 []) :: .al 3 5 (.h 119 []) :: .al 3 6 (.h 140 []) :: .al 3 7 (.h 25 []) :: .al 3 8 (.h 28 []) :: .rt 22 .row (tr a.Progs) :: .rt 70 .row (tr (sortK DProc.Pid (procsK a a.Slots.length))) :: .rt 99 .row (tr (opensK a a.Opens.length)) :: .rt 119 .row (tr (pipesK a (0 : Nat))) :: .rt 140 .row (tr (filesK a 0)) :: .rt 25 .row (tr (dataL a.Ready)) :: .rt 28 .row (tr a.Out) :: [])) (Weak.sim ⟨rfl, rfl, rfl, Rf rfl, ⟨rfl, rfl⟩, ⟨rfl, rfl⟩, ⟨rfl, rfl⟩, ⟨rfl, rfl⟩, ⟨rfl, rfl⟩, ⟨rfl, rfl⟩, ⟨rfl, rfl⟩, ⟨rfl, rfl⟩, ⟨rfl, rfl⟩, Rf rfl, Rf rfl, Rf rfl, Rf rfl, Rf rfl, Rf rfl, Rf rfl, Rf rfl, Rf rfl, rfl, rfl, rfl, ⟨_, rfl, (sc_sim (n := 9) (fun c hc => match c, hc with | 0, _ => tsr | 1, _ => tsr | 2, _ => tsr | 3, _ => tsr | 4, _ => tsr | 5, _ => tsr | 6, _ => tsr | 7, _ => tsr | 8, _ => tsr | c + 9, hc => absurd hc (by omega)))⟩, ⟨_, rfl, (sc_sim (n := 9) (fun c hc => match c, hc with | 0, _ => tsr | 1, _ => tsr | 2, _ => tsr | 3, _ => tsr | 4, _ => tsr | 5, _ => tsr | 6, _ => tsr | 7, _ => tsr | 8, _ => tsr | c + 9, hc => absurd hc (by omega)))⟩, ⟨rfl, rfl⟩, ⟨rfl, rfl⟩, ⟨rfl, rfl⟩, ⟨rfl, rfl⟩, ⟨rfl, rfl⟩, ⟨rfl, rfl⟩, ⟨rfl, rfl⟩, Rf rfl, Rf rfl, Rf rfl, Rf rfl, Rf rfl, Rf rfl, Rf rfl, trivial⟩ rfl rfl) ?_
  refine AW.loop (fun i : KInv a.Pipes.length => (.sl 105 (.v (iv i.k)) :: .sl 2 (.p 2 [] 9 0 0) :: .sl 3 (.p 3 [] 9 0 0) :: .rt 1 .box (T.s 14 1 fun k c => ([(T.v (iv a.Next), none), (T.v (iv a.Tick), none), (T.j, none), (T.j, none), (T.j, none), (T.j, none), (T.j, none), (T.j, none), (T.j, none), (T.v (Value.bool a.Ready.Used), none), (T.j, none), (T.v (iv a.Ready.Head), none), (T.v (iv a.Ready.Len), none), (T.j, none)].getD (k * 14 + c) (T.j, none)).fst) :: .al 1 2 (.h base []) :: .al 1 3 (.h (base + 1) []) :: .al 1 4 (.h (base + 2) []) :: .al 1 5 (.h (base + 3) []) :: .al 1 6 (.h (base + 4) []) :: .al 1 7 (.h (base + 5) []) :: .al 1 8 (.h (base + 6) []) :: .al 1 10 (.h (base + 7) []) :: .al 1 13 (.h (base + 8) []) :: .rt base .ro (tr a.Progs) :: .rt (base + 1) .ro (tr a.Slots) :: .rt (base + 2) .ro (tr a.Ram) :: .rt (base + 3) .ro (tr a.Map) :: .rt (base + 4) .ro (tr a.Opens) :: .rt (base + 5) .ro (tr a.Pipes) :: .rt (base + 6) .ro (tr a.Files) :: .rt (base + 7) .ro (tr a.Ready.Buf) :: .rt (base + 8) .ro (tr a.Out) :: .sl 1 (.p 1 [] 14 0 0) :: .sl 103 (.h (base + 5) []) :: .sl 104 (.v (iv a.Pipes.length)) :: .rt 2 .box (T.s 9 1 fun _ c => [T.v (iv 0), T.v (iv 0), T.s 1 0 fun _ _ => T.j, T.s 10 0 fun _ _ => T.j, T.s 5 0 fun _ _ => T.j, T.s 2 0 fun _ _ => T.j, T.s 2 0 fun _ _ => T.j, T.s 1 0 fun _ _ => T.j, T.s 1 0 fun _ _ => T.j].getD c T.j) :: .rt 3 .box (T.s 9 1 fun _ c => [T.v (iv a.Next), T.v (iv a.Tick), T.j, T.j, T.j, T.j, T.j, T.j, T.j].getD c T.j) :: .al 3 2 (.h 22 []) :: .al 3 3 (.h 70 []) :: .al 3 4 (.h 99 []) :: .al 3 5 (.h 119 []) :: .al 3 6 (.h 140 []) :: .al 3 7 (.h 25 []) :: .al 3 8 (.h 28 []) :: .rt 22 .row (tr a.Progs) :: .rt 70 .row (tr (sortK DProc.Pid (procsK a a.Slots.length))) :: .rt 99 .row (tr (opensK a a.Opens.length)) :: .rt 119 .row (tr (pipesK a i.k)) :: .rt 140 .row (tr (filesK a 0)) :: .rt 25 .row (tr (dataL a.Ready)) :: .rt 28 .row (tr a.Out) :: [])) (fun i => a.Pipes.length - i.k) ⟨0, Nat.zero_le _⟩ ?_
  intro i
  have hle := i.le
  have hkl := pipesK_le (a := a) i.k
  refine go [.R,.b,.Z] (k := ?_)
  refine AW.seq ?_
  refine cd (fun c6 => ?_) fun c6 => ?_
  ·try simp only [cnd] at c6
   refine jd (AW.seq (AW.block (sr ?_)))
   refine go [.m,.N,.i,.G,.A,.N,.a,.s,.Z,.R,.f,.N,.l,.Z] (k := ?_)
   refine cd (fun c7 => ?_) fun c7 => ?_
   ·have k7 := c7
    try simp only [cnd] at c7
    have hU : (a.Pipes.getD i.k En.dflt).Used = true := by first | exact c7 | exact k7 | simpa using k7
    refine go [.D [0, 1, 2, 3, 5, 8],.t 0,.f,.t 1,.l,.N,.t 2,.m,.t 3,.G] (k := ?_)
    refine a1 4 [0, 1, 2] [3] rfl rfl (Stp.callR rfl (by decide) Tryz.call45 rfl rfl (dataOf_con (a.Pipes.getD i.k En.dflt) 4 (by omega) (hS.pipe i.k (by omega))) (nodup_of rfl) rfl rfl) ?_
    refine go [.N,.g,.f,.N,.g,.l,.N,.g,.m,.N,.t 5,.u,.O 6 [0, 1] [5, 4, 2, 3],.S,.N,.g,.f,.N,.g,.l,.N] (k := ?_)
    refine AWA.rep 118 (tr [(pipeP i.k (a.Pipes.getD i.k En.dflt))]) rfl (row1_sim (α := DPipe) (fun c hc => match c, hc with | 0, _ => tsr | 1, _ => tsr | c + 2, hc => absurd hc (by simp only [En.n]; omega))) ?_
    refine go [.N] (k := ?_)
    refine a1 7 [] [6, 4, 1, 5, 3, 0, 2] rfl rfl (Stp.appendM rfl (by decide) (by decide) rfl rfl rfl (by simp only [List.length_cons, List.length_nil, List.length_append]; omega)) ?_
    refine go [.N] (k := ?_)
    refine AWA.rep 119 (tr (pipesK a (i.k + 1))) rfl (by rw [pipesK_t hU]; exact app_sim (l := pipesK a i.k) (l' := [pipeP i.k (a.Pipes.getD i.k En.dflt)]) rfl (fun _ _ _ _ => rfl) (fun _ _ _ _ => rfl)) ?_
    refine go [.N,.t 8,.f,.O 9 [] [8, 7, 6, 5, 4, 3, 2, 1, 0],.s,.N,.Z,.R1,.b,.m,.Z] (k := ?_)
    refine ⟨⟨i.k + 1, by omega⟩, Weak.sim ⟨st1, rfl, rfl, Rf rfl, ⟨rfl, rfl⟩, ⟨rfl, rfl⟩, ⟨rfl, rfl⟩, ⟨rfl, rfl⟩, ⟨rfl, rfl⟩, ⟨rfl, rfl⟩, ⟨rfl, rfl⟩, ⟨rfl, rfl⟩, ⟨rfl, rfl⟩, Rf rfl, Rf rfl, Rf rfl, Rf rfl, Rf rfl, Rf rfl, Rf rfl, Rf rfl, Rf rfl, rfl, rfl, rfl, Rf rfl, ⟨_, rfl, (sc_sim (n := 9) (fun c hc => match c, hc with | 0, _ => tsr | 1, _ => tsr | 2, _ => tsr | 3, _ => tsr | 4, _ => tsr | 5, _ => tsr | 6, _ => tsr | 7, _ => tsr | 8, _ => tsr | c + 9, hc => absurd hc (by omega)))⟩, ⟨rfl, rfl⟩, ⟨rfl, rfl⟩, ⟨rfl, rfl⟩, ⟨rfl, rfl⟩, ⟨rfl, rfl⟩, ⟨rfl, rfl⟩, ⟨rfl, rfl⟩, Rf rfl, Rf rfl, Rf rfl, Rf rfl, Rf rfl, Rf rfl, Rf rfl, trivial⟩ rfl rfl, ?_⟩
    show a.Pipes.length - (i.k + 1) < a.Pipes.length - i.k
    omega
   have k7 := c7
   try simp only [cnd] at c7
   have hU : (a.Pipes.getD i.k En.dflt).Used = false := by first | exact c7 | exact k7 | simpa using k7
   refine go [.J,.R1,.b,.N] (k := ?_)
   refine AWL.rep 119 (tr (pipesK a (i.k + 1))) rfl (by rw [pipesK_f hU]; exact tsr) ?_
   refine go [.N,.m,.Z] (k := ?_)
   refine ⟨⟨i.k + 1, by omega⟩, Weak.sim ⟨st1, rfl, rfl, Rf rfl, ⟨rfl, rfl⟩, ⟨rfl, rfl⟩, ⟨rfl, rfl⟩, ⟨rfl, rfl⟩, ⟨rfl, rfl⟩, ⟨rfl, rfl⟩, ⟨rfl, rfl⟩, ⟨rfl, rfl⟩, ⟨rfl, rfl⟩, Rf rfl, Rf rfl, Rf rfl, Rf rfl, Rf rfl, Rf rfl, Rf rfl, Rf rfl, Rf rfl, rfl, rfl, rfl, Rf rfl, ⟨_, rfl, (sc_sim (n := 9) (fun c hc => match c, hc with | 0, _ => tsr | 1, _ => tsr | 2, _ => tsr | 3, _ => tsr | 4, _ => tsr | 5, _ => tsr | 6, _ => tsr | 7, _ => tsr | 8, _ => tsr | c + 9, hc => absurd hc (by omega)))⟩, ⟨rfl, rfl⟩, ⟨rfl, rfl⟩, ⟨rfl, rfl⟩, ⟨rfl, rfl⟩, ⟨rfl, rfl⟩, ⟨rfl, rfl⟩, ⟨rfl, rfl⟩, Rf rfl, Rf rfl, Rf rfl, Rf rfl, Rf rfl, Rf rfl, Rf rfl, trivial⟩ rfl rfl, ?_⟩
   show a.Pipes.length - (i.k + 1) < a.Pipes.length - i.k
   omega
  try simp only [cnd] at c6
  refine AW.exit ?_
  dsimp only [thenQ, blockQ, reduceIte]
  refine go [.R2,.f,.l,.N,.h,.m,.Z] (k := ?_)
  refine AW.block ?_
  refine AW.rep 119 (tr (pipesK a a.Pipes.length)) rfl (by rw [show i.k = a.Pipes.length by omega]; exact tsr) ?_
  refine AW.weak (L' := (.sl 125 (.v (iv (0 : Nat))) :: .sl 2 (.p 2 [] 9 0 0) :: .sl 3 (.p 3 [] 9 0 0) :: .sl 123 (.h (base + 6) []) :: .sl 124 (.v (iv a.Files.length)) :: .rt base .ro (tr a.Progs) :: .rt (base + 1) .ro (tr a.Slots) :: .rt (base + 2) .ro (tr a.Ram) :: .rt (base + 3) .ro (tr a.Map) :: .rt (base + 4) .ro (tr a.Opens) :: .rt (base + 5) .ro (tr a.Pipes) :: .rt (base + 6) .ro (tr a.Files) :: .rt (base + 7) .ro (tr a.Ready.Buf) :: .rt (base + 8) .ro (tr a.Out) :: .rt 2 .box (T.s 9 1 fun _ c => [T.v (iv 0), T.v (iv 0), T.s 1 0 fun _ _ => T.j, T.s 10 0 fun _ _ => T.j, T.s 5 0 fun _ _ => T.j, T.s 2 0 fun _ _ => T.j, T.s 2 0 fun _ _ => T.j, T.s 1 0 fun _ _ => T.j, T.s 1 0 fun _ _ => T.j].getD c T.j) :: .rt 3 .box (T.s 9 1 fun _ c => [T.v (iv a.Next), T.v (iv a.Tick), T.j, T.j, T.j, T.j, T.j, T.j, T.j].getD c T.j) :: .al 3 2 (.h 22 []) :: .al 3 3 (.h 70 []) :: .al 3 4 (.h 99 []) :: .al 3 5 (.h 119 []) :: .al 3 6 (.h 140 []) :: .al 3 7 (.h 25 []) :: .al 3 8 (.h 28 []) :: .rt 22 .row (tr a.Progs) :: .rt 70 .row (tr (sortK DProc.Pid (procsK a a.Slots.length))) :: .rt 99 .row (tr (opensK a a.Opens.length)) :: .rt 119 .row (tr (pipesK a a.Pipes.length)) :: .rt 140 .row (tr (filesK a (0 : Nat))) :: .rt 25 .row (tr (dataL a.Ready)) :: .rt 28 .row (tr a.Out) :: [])) (Weak.sim ⟨rfl, rfl, rfl, rfl, rfl, Rf rfl, Rf rfl, Rf rfl, Rf rfl, Rf rfl, Rf rfl, Rf rfl, Rf rfl, Rf rfl, ⟨_, rfl, (sc_sim (n := 9) (fun c hc => match c, hc with | 0, _ => tsr | 1, _ => tsr | 2, _ => tsr | 3, _ => tsr | 4, _ => tsr | 5, _ => tsr | 6, _ => tsr | 7, _ => tsr | 8, _ => tsr | c + 9, hc => absurd hc (by omega)))⟩, ⟨_, rfl, (sc_sim (n := 9) (fun c hc => match c, hc with | 0, _ => tsr | 1, _ => tsr | 2, _ => tsr | 3, _ => tsr | 4, _ => tsr | 5, _ => tsr | 6, _ => tsr | 7, _ => tsr | 8, _ => tsr | c + 9, hc => absurd hc (by omega)))⟩, ⟨rfl, rfl⟩, ⟨rfl, rfl⟩, ⟨rfl, rfl⟩, ⟨rfl, rfl⟩, ⟨rfl, rfl⟩, ⟨rfl, rfl⟩, ⟨rfl, rfl⟩, Rf rfl, Rf rfl, Rf rfl, Rf rfl, Rf rfl, Rf rfl, Rf rfl, trivial⟩ rfl rfl) ?_
  refine AW.loop (fun i : KInv a.Files.length => (.sl 125 (.v (iv i.k)) :: .sl 2 (.p 2 [] 9 0 0) :: .sl 3 (.p 3 [] 9 0 0) :: .sl 123 (.h (base + 6) []) :: .sl 124 (.v (iv a.Files.length)) :: .rt base .ro (tr a.Progs) :: .rt (base + 1) .ro (tr a.Slots) :: .rt (base + 2) .ro (tr a.Ram) :: .rt (base + 3) .ro (tr a.Map) :: .rt (base + 4) .ro (tr a.Opens) :: .rt (base + 5) .ro (tr a.Pipes) :: .rt (base + 6) .ro (tr a.Files) :: .rt (base + 7) .ro (tr a.Ready.Buf) :: .rt (base + 8) .ro (tr a.Out) :: .rt 2 .box (T.s 9 1 fun _ c => [T.v (iv 0), T.v (iv 0), T.s 1 0 fun _ _ => T.j, T.s 10 0 fun _ _ => T.j, T.s 5 0 fun _ _ => T.j, T.s 2 0 fun _ _ => T.j, T.s 2 0 fun _ _ => T.j, T.s 1 0 fun _ _ => T.j, T.s 1 0 fun _ _ => T.j].getD c T.j) :: .rt 3 .box (T.s 9 1 fun _ c => [T.v (iv a.Next), T.v (iv a.Tick), T.j, T.j, T.j, T.j, T.j, T.j, T.j].getD c T.j) :: .al 3 2 (.h 22 []) :: .al 3 3 (.h 70 []) :: .al 3 4 (.h 99 []) :: .al 3 5 (.h 119 []) :: .al 3 6 (.h 140 []) :: .al 3 7 (.h 25 []) :: .al 3 8 (.h 28 []) :: .rt 22 .row (tr a.Progs) :: .rt 70 .row (tr (sortK DProc.Pid (procsK a a.Slots.length))) :: .rt 99 .row (tr (opensK a a.Opens.length)) :: .rt 119 .row (tr (pipesK a a.Pipes.length)) :: .rt 140 .row (tr (filesK a i.k)) :: .rt 25 .row (tr (dataL a.Ready)) :: .rt 28 .row (tr a.Out) :: [])) (fun i => a.Files.length - i.k) ⟨0, Nat.zero_le _⟩ ?_
  intro i
  have hle := i.le
  have hkl := filesK_le (a := a) i.k
  refine go [.R,.b,.Z] (k := ?_)
  refine AW.seq ?_
  refine cd (fun c8 => ?_) fun c8 => ?_
  ·try simp only [cnd] at c8
   refine jd (AW.seq (AW.block (sr ?_)))
   refine go [.m,.N,.i,.G,.A,.N,.a,.s,.Z,.R,.f,.N,.l,.Z] (k := ?_)
   refine cd (fun c9 => ?_) fun c9 => ?_
   ·have k9 := c9
    try simp only [cnd] at c9
    have hU : (a.Files.getD i.k En.dflt).Used = true := by first | exact c9 | exact k9 | simpa using k9
    have hik := wt_ge (show i.k < a.Files.length by omega)
    have hik2 : Mk.wt (a.Files.getD i.k En.dflt) = (a.Files.getD i.k En.dflt).Data.length := wt_ints _
    refine go [.D [0, 1, 2, 3, 4, 6, 9],.t 0,.f,.t 1,.l,.N,.t 2,.m,.t 3,.f,.t 4,.l,.N] (k := ?_)
    refine a1 5 [0, 1, 2] [4, 3] rfl rfl (Stp.callR rfl (by decide) Tryz.call46 rfl rfl (cloneI_con _ (by omega)) (nodup_of rfl) rfl rfl) ?_
    refine go [.N,.g,.f,.N,.g,.l,.N,.g,.m,.N,.t 6,.u,.O 7 [0, 1] [6, 5, 2, 4, 3],.S,.N,.g,.f,.N,.g,.l,.N] (k := ?_)
    refine AWA.rep 139 (tr [(fileP i.k (a.Files.getD i.k En.dflt))]) rfl (row1_sim (α := DFile) (fun c hc => match c, hc with | 0, _ => tsr | 1, _ => tsr | c + 2, hc => absurd hc (by simp only [En.n]; omega))) ?_
    refine go [.N] (k := ?_)
    refine a1 8 [] [7, 5, 1, 6, 4, 0, 2, 3] rfl rfl (Stp.appendM rfl (by decide) (by decide) rfl rfl rfl (by simp only [List.length_cons, List.length_nil, List.length_append]; omega)) ?_
    refine go [.N] (k := ?_)
    refine AWA.rep 140 (tr (filesK a (i.k + 1))) rfl (by rw [filesK_t hU]; exact app_sim (l := filesK a i.k) (l' := [fileP i.k (a.Files.getD i.k En.dflt)]) rfl (fun _ _ _ _ => rfl) (fun _ _ _ _ => rfl)) ?_
    refine go [.N,.t 9,.f,.O 10 [] [9, 8, 7, 6, 5, 4, 3, 2, 1, 0],.s,.N,.Z,.R1,.b,.m,.Z] (k := ?_)
    refine ⟨⟨i.k + 1, by omega⟩, Weak.sim ⟨st1, rfl, rfl, rfl, rfl, Rf rfl, Rf rfl, Rf rfl, Rf rfl, Rf rfl, Rf rfl, Rf rfl, Rf rfl, Rf rfl, Rf rfl, ⟨_, rfl, (sc_sim (n := 9) (fun c hc => match c, hc with | 0, _ => tsr | 1, _ => tsr | 2, _ => tsr | 3, _ => tsr | 4, _ => tsr | 5, _ => tsr | 6, _ => tsr | 7, _ => tsr | 8, _ => tsr | c + 9, hc => absurd hc (by omega)))⟩, ⟨rfl, rfl⟩, ⟨rfl, rfl⟩, ⟨rfl, rfl⟩, ⟨rfl, rfl⟩, ⟨rfl, rfl⟩, ⟨rfl, rfl⟩, ⟨rfl, rfl⟩, Rf rfl, Rf rfl, Rf rfl, Rf rfl, Rf rfl, Rf rfl, Rf rfl, trivial⟩ rfl rfl, ?_⟩
    show a.Files.length - (i.k + 1) < a.Files.length - i.k
    omega
   have k9 := c9
   try simp only [cnd] at c9
   have hU : (a.Files.getD i.k En.dflt).Used = false := by first | exact c9 | exact k9 | simpa using k9
   refine go [.J,.R1,.b,.N] (k := ?_)
   refine AWL.rep 140 (tr (filesK a (i.k + 1))) rfl (by rw [filesK_f hU]; exact tsr) ?_
   refine go [.N,.m,.Z] (k := ?_)
   refine ⟨⟨i.k + 1, by omega⟩, Weak.sim ⟨st1, rfl, rfl, rfl, rfl, Rf rfl, Rf rfl, Rf rfl, Rf rfl, Rf rfl, Rf rfl, Rf rfl, Rf rfl, Rf rfl, Rf rfl, ⟨_, rfl, (sc_sim (n := 9) (fun c hc => match c, hc with | 0, _ => tsr | 1, _ => tsr | 2, _ => tsr | 3, _ => tsr | 4, _ => tsr | 5, _ => tsr | 6, _ => tsr | 7, _ => tsr | 8, _ => tsr | c + 9, hc => absurd hc (by omega)))⟩, ⟨rfl, rfl⟩, ⟨rfl, rfl⟩, ⟨rfl, rfl⟩, ⟨rfl, rfl⟩, ⟨rfl, rfl⟩, ⟨rfl, rfl⟩, ⟨rfl, rfl⟩, Rf rfl, Rf rfl, Rf rfl, Rf rfl, Rf rfl, Rf rfl, Rf rfl, trivial⟩ rfl rfl, ?_⟩
   show a.Files.length - (i.k + 1) < a.Files.length - i.k
   omega
  try simp only [cnd] at c8
  refine AW.rep 140 (tr (filesK a a.Files.length)) rfl (by rw [show i.k = a.Files.length by omega]; exact tsr) ?_
  refine AW.exit ?_
  dsimp only [thenQ, blockQ, reduceIte]
  refine go [.R,.G,.s,.Z] (k := ?_)
  refine AW.ret (endQ_ret (.cons (.cellG 2 40 rfl rfl rfl ag40 sz40 (by decide)) .nil) ?_)
  rw [absA_t hsh]
  refine ⟨fun i => if i = 0 then 22 else if i = 1 then 70 else if i = 2 then 99 else if i = 3 then 119 else if i = 4 then 140 else if i = 5 then 25 else 28, rfl, nodup_of rfl, ?_⟩
  intro r hr
  simp only [List.mem_cons, List.not_mem_nil, or_false] at hr
  rcases hr with rfl | rfl | rfl | rfl | rfl | rfl | rfl <;> exact ⟨by simp, rootL_mem rfl⟩
end Go.Proofs.YtldefnpobjabpaaGreat.VM

