/- Contracts. No conditions. -/
import Derived.Test.YtldefnpobjabpaaGreatCQ11
set_option linter.all false
set_option maxHeartbeats 8000000
set_option maxRecDepth 10000
namespace Go.Proofs.YtldefnpobjabpaaGreat.VM
open Go Go.RowKit Go.Proofs
theorem l12Abs_con (a : DArrays) (hS : ShpA a) (hw : Mk.wt a ≤ 1048576) : Con Tryz.prog 34 [.g [.v (iv a.Next), .v (iv a.Tick), .h base [], .h (base + 1) [], .h (base + 2) [], .h (base + 3) [], .h (base + 4) [], .h (base + 5) [], .h (base + 6) [], .v (.bool a.Ready.Used), .h (base + 7) [], .v (iv a.Ready.Head), .v (iv a.Ready.Len), .h (base + 8) []]] [.rt base .ro (tr a.Progs), .rt (base + 1) .ro (tr a.Slots), .rt (base + 2) .ro (tr a.Ram), .rt (base + 3) .ro (tr a.Map), .rt (base + 4) .ro (tr a.Opens), .rt (base + 5) .ro (tr a.Pipes), .rt (base + 6) .ro (tr a.Files), .rt (base + 7) .ro (tr a.Ready.Buf), .rt (base + 8) .ro (tr a.Out)] (Ret (.g [.v (iv (absU a).Next), .v (iv (absU a).Tick), .h 0 [], .h 1 [], .h 2 [], .h 3 [], .h 4 [], .h 5 [], .h 6 []]) [(0, .row, tr (absU a).Progs), (1, .row, tr (absU a).Procs), (2, .row, tr (absU a).Opens), (3, .row, tr (absU a).Pipes), (4, .row, tr (absU a).Files), (5, .row, tr (absU a).Ready), (6, .row, tr (absU a).Out)]) := by
 refine ob Tryz.func34 Tryz.ntmps34 ?_
 refine AW.len (base + 6) [] rfl (by simp [Okp]) rfl (fun hl6 => ?_)
 have hwu : Mk.wt a.Progs + Mk.wt a.Slots + Mk.wt a.Ram + Mk.wt a.Map + Mk.wt a.Opens + Mk.wt a.Pipes + Mk.wt a.Files + Mk.wt a.Ready.Buf + Mk.wt a.Out ≤ 1048576 := hw
 have hw1 := wt_len a.Files
 have hw2 := wt_ints a.Out
 have hs1 := hS.slots
 have hs2 := hS.ram
 have hs3 := hS.opens
 have hs4 := hS.pipes
 have hs5 := hS.files
 refine go [.R,.B,.N,.A,.Z] (k := ?_)
 refine AW.seq ?_
 refine go [.D [0, 1, 2, 3, 4, 5, 7, 8, 11, 12, 14],.t 0,.f,.N,.t 1,.l,.t 2,.f,.t 3,.l,.N,.t 4,.f,.t 5,.l,.t 7,.f,.N,.t 8,.G,.t 11,.f,.t 12,.l,.N] (k := ?_)
 apply AWA.cutS #[true, true, true, true, true, true, true, true, true, true, true, true, true, true, true, true, false] [0, 1, 2, 3, 14]
 ·intro K1_7
  apply AWA.cutS #[true, true, true, true, true, true, true, true, true, true, true, true, true, false, false, true, false] [0, 1, 2, 3, 11, 12]
  ·intro K1_6
   apply AWA.cutS #[true, true, true, true, true, true, true, true, true, false, true, true, true, false, false, true, false] [0, 1, 2, 3, 7, 8, 11, 12]
   ·intro K1_5
    apply AWA.cutS #[true, true, true, true, true, true, true, true, true, true, false, true, true, false, false, true, false] [0, 1, 2, 3, 11, 12]
    ·intro K1_4
     apply AWA.cutS #[true, true, true, true, true, true, true, true, true, true, true, true, true, false, false, false, false] [0, 1, 2, 3, 11, 12]
     ·intro K1_3
      apply AWA.cutS #[true, true, true, true, true, true, false, true, true, false, true, true, true, false, false, true, false] [0, 1, 2, 3, 4, 5, 7, 8, 11, 12]
      ·intro K1_2
       apply AWA.cutS #[true, true, true, true, true, true, true, true, true, false, false, true, true, false, false, true, false] [0, 1, 2, 3, 7, 8, 11, 12]
       ·intro K1_1
        apply AWA.cutS #[true, true, true, true, true, true, true, true, true, false, true, true, true, false, false, false, false] [0, 1, 2, 3, 7, 8, 11, 12]
        ·intro K1_0
         refine AWA.anyL [6, 10, 15] (by decide +kernel) rfl ⟨?_, ?_, ?_, trivial⟩
         ·refine AWA.arm 6 [0, 1, 2, 3, 7, 8, 11, 12] [5, 4] rfl rfl rfl (by decide +kernel) (by decide +kernel) (by decide +kernel) (Stp.callR rfl (by decide) Tryz.call113 rfl rfl (l6CopyProgs_con _ (by omega)) (nodup_of rfl) rfl rfl) ?_
          refine go [.N,.g,.f,.g,.l,.g,.f,.N,.g,.l,.g,.f,.g,.G,.N,.g,.f,.g,.l,.N] (k := ?_)
          refine AWA.anyL [9, 10, 15] (by decide +kernel) rfl ⟨?_, ?_, ?_, trivial⟩
          ·refine AWA.arm 9 [0, 1, 2, 3, 11, 12] [8, 6, 7, 5, 4] rfl rfl rfl (by decide +kernel) (by decide +kernel) (by decide +kernel) (Stp.callR rfl (by decide) Tryz.call114 rfl rfl (l12Go_con a.Ready 6 (by omega) hS.ready) (nodup_of rfl) rfl rfl) ?_
           refine go [.N,.g,.f,.g,.l,.g,.f,.N,.g,.l,.g,.f,.g,.l,.N] (k := ?_)
           refine AWA.anyL [10, 15] (by decide +kernel) rfl ⟨?_, ?_, trivial⟩
           ·refine AWA.arm 10 [0, 1, 2, 3, 11, 12] [] rfl rfl rfl (by decide +kernel) (by decide +kernel) (by decide +kernel) sS ?_
            refine go [.N,.g,.f,.g,.l,.g,.f,.N,.g,.l,.g,.f,.g,.l,.N] (k := ?_)
            exact auR K1_3
           ·refine AWA.arm 15 [0, 1, 2, 3, 11, 12] [] rfl rfl rfl (by decide +kernel) (by decide +kernel) (by decide +kernel) sA ?_
            refine go [.N,.g,.f,.g,.l,.g,.f,.N,.g,.l,.g,.f,.g,.l,.N] (k := ?_)
            exact auR K1_4
          ·refine AWA.arm 10 [0, 1, 2, 3, 7, 8, 11, 12] [] rfl rfl rfl (by decide +kernel) (by decide +kernel) (by decide +kernel) sS ?_
           refine go [.N,.g,.f,.g,.l,.g,.f,.N,.g,.l,.g,.f,.g,.G,.N,.g,.f,.g,.l,.N] (k := ?_)
           exact auR K1_0
          ·refine AWA.arm 15 [0, 1, 2, 3, 7, 8, 11, 12] [] rfl rfl rfl (by decide +kernel) (by decide +kernel) (by decide +kernel) sA ?_
           refine go [.N,.g,.f,.g,.l,.g,.f,.N,.g,.l,.g,.f,.g,.G,.N,.g,.f,.g,.l,.N] (k := ?_)
           exact auR K1_1
         ·refine AWA.arm 10 [0, 1, 2, 3, 4, 5, 7, 8, 11, 12] [] rfl rfl rfl (by decide +kernel) (by decide +kernel) (by decide +kernel) sS ?_
          refine go [.N,.g,.f,.g,.l,.g,.f,.N,.g,.l,.g,.f,.g,.l,.N,.g,.f,.g,.G,.g,.f,.N,.g,.l,.N] (k := ?_)
          refine AWA.anyL [6, 15] (by decide +kernel) rfl ⟨?_, ?_, trivial⟩
          ·refine AWA.arm 6 [0, 1, 2, 3, 7, 8, 11, 12] [5, 4] rfl rfl rfl (by decide +kernel) (by decide +kernel) (by decide +kernel) (Stp.callR rfl (by decide) Tryz.call113 rfl rfl (l6CopyProgs_con _ (by omega)) (nodup_of rfl) rfl rfl) ?_
           refine go [.N,.g,.f,.g,.l,.g,.f,.N,.g,.l,.g,.f,.g,.G,.N,.g,.f,.g,.l,.N] (k := ?_)
           exact auP K1_0
          ·refine AWA.arm 15 [0, 1, 2, 3, 4, 5, 7, 8, 11, 12] [] rfl rfl rfl (by decide +kernel) (by decide +kernel) (by decide +kernel) sA ?_
           refine go [.N,.g,.f,.g,.l,.g,.f,.N,.g,.l,.g,.f,.g,.l,.N,.g,.f,.g,.G,.g,.f,.N,.g,.l,.N] (k := ?_)
           exact auR K1_2
         ·refine AWA.arm 15 [0, 1, 2, 3, 4, 5, 7, 8, 11, 12] [] rfl rfl rfl (by decide +kernel) (by decide +kernel) (by decide +kernel) sA ?_
          refine go [.N,.g,.f,.g,.l,.g,.f,.N,.g,.l,.g,.f,.g,.l,.N,.g,.f,.g,.G,.g,.f,.N,.g,.l,.N] (k := ?_)
          refine AWA.anyL [6, 10] (by decide +kernel) rfl ⟨?_, ?_, trivial⟩
          ·refine AWA.arm 6 [0, 1, 2, 3, 7, 8, 11, 12] [5, 4] rfl rfl rfl (by decide +kernel) (by decide +kernel) (by decide +kernel) (Stp.callR rfl (by decide) Tryz.call113 rfl rfl (l6CopyProgs_con _ (by omega)) (nodup_of rfl) rfl rfl) ?_
           refine go [.N,.g,.f,.g,.l,.g,.f,.N,.g,.l,.g,.f,.g,.G,.N,.g,.f,.g,.l,.N] (k := ?_)
           exact auP K1_1
          ·refine AWA.arm 10 [0, 1, 2, 3, 4, 5, 7, 8, 11, 12] [] rfl rfl rfl (by decide +kernel) (by decide +kernel) (by decide +kernel) sS ?_
           refine go [.N,.g,.f,.g,.l,.g,.f,.N,.g,.l,.g,.f,.g,.l,.N,.g,.f,.g,.G,.g,.f,.N,.g,.l,.N] (k := ?_)
           exact auP K1_2
        ·refine AWA.anyL [9, 15] (by decide +kernel) rfl ⟨?_, ?_, trivial⟩
         ·refine AWA.arm 9 [0, 1, 2, 3, 11, 12] [8, 6, 7, 5, 4] rfl rfl rfl (by decide +kernel) (by decide +kernel) (by decide +kernel) (Stp.callR rfl (by decide) Tryz.call114 rfl rfl (l12Go_con a.Ready 6 (by omega) hS.ready) (nodup_of rfl) rfl rfl) ?_
          refine go [.N,.g,.f,.g,.l,.g,.f,.N,.g,.l,.g,.f,.g,.l,.N] (k := ?_)
          exact auP K1_3
         ·refine AWA.arm 15 [0, 1, 2, 3, 7, 8, 11, 12] [] rfl rfl rfl (by decide +kernel) (by decide +kernel) (by decide +kernel) sA ?_
          refine go [.N,.g,.f,.g,.l,.g,.f,.N,.g,.l,.g,.f,.g,.G,.N,.g,.f,.g,.l,.N] (k := ?_)
          exact auR K1_5
       ·refine AWA.anyL [9, 10] (by decide +kernel) rfl ⟨?_, ?_, trivial⟩
        ·refine AWA.arm 9 [0, 1, 2, 3, 11, 12] [8, 6, 7, 5, 4] rfl rfl rfl (by decide +kernel) (by decide +kernel) (by decide +kernel) (Stp.callR rfl (by decide) Tryz.call114 rfl rfl (l12Go_con a.Ready 6 (by omega) hS.ready) (nodup_of rfl) rfl rfl) ?_
         refine go [.N,.g,.f,.g,.l,.g,.f,.N,.g,.l,.g,.f,.g,.l,.N] (k := ?_)
         exact auP K1_4
        ·refine AWA.arm 10 [0, 1, 2, 3, 7, 8, 11, 12] [] rfl rfl rfl (by decide +kernel) (by decide +kernel) (by decide +kernel) sS ?_
         refine go [.N,.g,.f,.g,.l,.g,.f,.N,.g,.l,.g,.f,.g,.G,.N,.g,.f,.g,.l,.N] (k := ?_)
         exact auP K1_5
      ·refine AWA.one 6 [0, 1, 2, 3, 7, 8, 11, 12] [5, 4] (by decide +kernel) rfl rfl rfl (by decide +kernel) (by decide +kernel) (by decide +kernel) (Stp.callR rfl (by decide) Tryz.call113 rfl rfl (l6CopyProgs_con _ (by omega)) (nodup_of rfl) rfl rfl) ?_
       refine go [.N,.g,.f,.g,.l,.g,.f,.N,.g,.l,.g,.f,.g,.G,.N,.g,.f,.g,.l,.N] (k := ?_)
       exact auP K1_5
     ·refine AWA.anyL [13, 15] (by decide +kernel) rfl ⟨?_, ?_, trivial⟩
      ·refine AWA.arm 13 [0, 1, 2, 3] [12, 10, 9, 11, 8, 6, 7, 5, 4] rfl rfl rfl (by decide +kernel) (by decide +kernel) (by decide +kernel) (by first | exact Stp.appendC rfl (by decide) (by decide) rfl rfl (by omega) | exact Stp.appendM rfl (by decide) (by decide) rfl rfl rfl (by omega)) ?_
       refine go [.N,.g,.f,.g,.l,.g,.f,.N,.g,.l,.N] (k := ?_)
       refine AWA.rep 22 (tr a.Out) rfl (app_nil (α := Int)) ?_
       refine go [.N] (k := ?_)
       refine AWA.take 14 rfl rfl rfl (by decide +kernel) (.on rfl rfl (Qt.build rfl)) ?_
       refine AWA.one 15 [0, 1, 2, 3, 14] [] (by decide +kernel) rfl rfl rfl (by decide +kernel) (by decide +kernel) (by decide +kernel) sA ?_
       refine go [.N,.g,.f,.g,.l,.g,.f,.N,.g,.l,.g,.u,.N] (k := ?_)
       exact auR K1_7
      ·refine AWA.arm 15 [0, 1, 2, 3, 11, 12] [] rfl rfl rfl (by decide +kernel) (by decide +kernel) (by decide +kernel) sA ?_
       refine go [.N,.g,.f,.g,.l,.g,.f,.N,.g,.l,.g,.f,.g,.l,.N] (k := ?_)
       exact auR K1_6
    ·refine AWA.one 10 [0, 1, 2, 3, 11, 12] [] (by decide +kernel) rfl rfl rfl (by decide +kernel) (by decide +kernel) (by decide +kernel) sS ?_
     refine go [.N,.g,.f,.g,.l,.g,.f,.N,.g,.l,.g,.f,.g,.l,.N] (k := ?_)
     exact auP K1_6
   ·refine AWA.one 9 [0, 1, 2, 3, 11, 12] [8, 6, 7, 5, 4] (by decide +kernel) rfl rfl rfl (by decide +kernel) (by decide +kernel) (by decide +kernel) (Stp.callR rfl (by decide) Tryz.call114 rfl rfl (l12Go_con a.Ready 6 (by omega) hS.ready) (nodup_of rfl) rfl rfl) ?_
    refine go [.N,.g,.f,.g,.l,.g,.f,.N,.g,.l,.g,.f,.g,.l,.N] (k := ?_)
    exact auP K1_6
  ·refine AWA.one 13 [0, 1, 2, 3] [12, 10, 9, 11, 8, 6, 7, 5, 4] (by decide +kernel) rfl rfl rfl (by decide +kernel) (by decide +kernel) (by decide +kernel) (by first | exact Stp.appendC rfl (by decide) (by decide) rfl rfl (by omega) | exact Stp.appendM rfl (by decide) (by decide) rfl rfl rfl (by omega)) ?_
   refine go [.N,.g,.f,.g,.l,.g,.f,.N,.g,.l,.N] (k := ?_)
   refine AWA.rep 22 (tr a.Out) rfl (app_nil (α := Int)) ?_
   refine go [.N] (k := ?_)
   refine AWA.take 14 rfl rfl rfl (by decide +kernel) (.on rfl rfl (Qt.build rfl)) ?_
   refine go [.N] (k := ?_)
   exact auP K1_7
 ·refine AWA.one 16 [] [15, 14, 13, 12, 11, 10, 9, 8, 7, 6, 5, 4, 3, 2, 1, 0] (by decide +kernel) rfl rfl rfl (by decide +kernel) (by decide +kernel) (by decide +kernel) (by first | exact Stp.storeA rfl rfl rfl rfl (by decide) rfl | exact Stp.store rfl rfl (by simp) rfl rfl rfl (by decide) rfl) ?_
  refine go [.N,.Z,.R2,.a,.Z] (k := ?_)
  refine AW.block ?_
  refine AW.weak (Weak.hoist 3 3 46 rfl (by decide) rfl rfl rfl) ?_
  refine AW.weak (Weak.hoist 3 4 75 rfl (by decide) rfl rfl rfl) ?_
  refine AW.weak (Weak.hoist 3 5 101 rfl (by decide) rfl rfl rfl) ?_
  refine AW.weak (Weak.hoist 3 6 129 rfl (by decide) rfl rfl rfl) ?_
  refine AW.weak (L' := (.sl 4 (.v (iv (0 : Nat))) :: .sl 2 (.p 2 [] 9 0 0) :: .sl 3 (.p 3 [] 9 0 0) :: .rt 1 .box (T.s 14 1 fun k c => ([(T.v (iv a.Next), none), (T.v (iv a.Tick), none), (T.j, none), (T.j, none), (T.j, none), (T.j, none), (T.j, none), (T.j, none), (T.j, none), (T.v (Value.bool a.Ready.Used), none), (T.j, none), (T.v (iv a.Ready.Head), none), (T.v (iv a.Ready.Len), none), (T.j, none)].getD (k * 14 + c) (T.j, none)).fst) :: .al 1 2 (.h base []) :: .al 1 3 (.h (base + 1) []) :: .al 1 4 (.h (base + 2) []) :: .al 1 5 (.h (base + 3) []) :: .al 1 6 (.h (base + 4) []) :: .al 1 7 (.h (base + 5) []) :: .al 1 8 (.h (base + 6) []) :: .al 1 10 (.h (base + 7) []) :: .al 1 13 (.h (base + 8) []) :: .rt base .ro (tr a.Progs) :: .rt (base + 1) .ro (tr a.Slots) :: .rt (base + 2) .ro (tr a.Ram) :: .rt (base + 3) .ro (tr a.Map) :: .rt (base + 4) .ro (tr a.Opens) :: .rt (base + 5) .ro (tr a.Pipes) :: .rt (base + 6) .ro (tr a.Files) :: .rt (base + 7) .ro (tr a.Ready.Buf) :: .rt (base + 8) .ro (tr a.Out) :: .sl 1 (.p 1 [] 14 0 0) :: .rt 2 .box (T.s 9 1 fun _ c => [T.v (iv 0), T.v (iv 0), T.s 1 0 fun _ _ => T.j, T.s 10 0 fun _ _ => T.j, T.s 5 0 fun _ _ => T.j, T.s 2 0 fun _ _ => T.j, T.s 2 0 fun _ _ => T.j, T.s 1 0 fun _ _ => T.j, T.s 1 0 fun _ _ => T.j].getD c T.j) :: .rt 3 .box (T.s 9 1 fun _ c => [T.v (iv a.Next), T.v (iv a.Tick), T.j, T.j, T.j, T.j, T.j, T.j, T.j].getD c T.j) :: .al 3 2 (.h 15 []) :: .al 3 3 (.h 46 []) :: .al 3 4 (.h 75 []) :: .al 3 5 (.h 101 []) :: .al 3 6 (.h 129 []) :: .al 3 7 (.h 18 []) :: .al 3 8 (.h 22 []) :: .rt 15 .row (tr a.Progs) :: .rt 46 .row (tr (sortK DProc.Pid (procsK a (0 : Nat)))) :: .rt 75 .row (tr (opensK a 0)) :: .rt 101 .row (tr (pipesK a 0)) :: .rt 129 .row (tr (filesK a 0)) :: .rt 18 .row (tr (dataL a.Ready)) :: .rt 22 .row (tr a.Out) :: [])) (Weak.sim ⟨rfl, rfl, rfl, Rf rfl, ⟨rfl, rfl⟩, ⟨rfl, rfl⟩, ⟨rfl, rfl⟩, ⟨rfl, rfl⟩, ⟨rfl, rfl⟩, ⟨rfl, rfl⟩, ⟨rfl, rfl⟩, ⟨rfl, rfl⟩, ⟨rfl, rfl⟩, Rf rfl, Rf rfl, Rf rfl, Rf rfl, Rf rfl, Rf rfl, Rf rfl, Rf rfl, Rf rfl, rfl, ⟨_, rfl, (sc_sim (n := 9) (fun c hc => match c, hc with | 0, _ => tsr | 1, _ => tsr | 2, _ => tsr | 3, _ => tsr | 4, _ => tsr | 5, _ => tsr | 6, _ => tsr | 7, _ => tsr | 8, _ => tsr | c + 9, hc => absurd hc (by omega)))⟩, ⟨_, rfl, (sc_sim (n := 9) (fun c hc => match c, hc with | 0, _ => tsr | 1, _ => tsr | 2, _ => tsr | 3, _ => tsr | 4, _ => tsr | 5, _ => tsr | 6, _ => tsr | 7, _ => tsr | 8, _ => tsr | c + 9, hc => absurd hc (by omega)))⟩, ⟨rfl, rfl⟩, ⟨rfl, rfl⟩, ⟨rfl, rfl⟩, ⟨rfl, rfl⟩, ⟨rfl, rfl⟩, ⟨rfl, rfl⟩, ⟨rfl, rfl⟩, Rf rfl, ⟨_, rfl, sim_nil⟩, ⟨_, rfl, sim_nil⟩, ⟨_, rfl, sim_nil⟩, ⟨_, rfl, sim_nil⟩, Rf rfl, Rf rfl, trivial⟩ rfl rfl) ?_
  refine AW.loop (fun i : KInv a.Slots.length => (.sl 4 (.v (iv i.k)) :: .sl 2 (.p 2 [] 9 0 0) :: .sl 3 (.p 3 [] 9 0 0) :: .rt 1 .box (T.s 14 1 fun k c => ([(T.v (iv a.Next), none), (T.v (iv a.Tick), none), (T.j, none), (T.j, none), (T.j, none), (T.j, none), (T.j, none), (T.j, none), (T.j, none), (T.v (Value.bool a.Ready.Used), none), (T.j, none), (T.v (iv a.Ready.Head), none), (T.v (iv a.Ready.Len), none), (T.j, none)].getD (k * 14 + c) (T.j, none)).fst) :: .al 1 2 (.h base []) :: .al 1 3 (.h (base + 1) []) :: .al 1 4 (.h (base + 2) []) :: .al 1 5 (.h (base + 3) []) :: .al 1 6 (.h (base + 4) []) :: .al 1 7 (.h (base + 5) []) :: .al 1 8 (.h (base + 6) []) :: .al 1 10 (.h (base + 7) []) :: .al 1 13 (.h (base + 8) []) :: .rt base .ro (tr a.Progs) :: .rt (base + 1) .ro (tr a.Slots) :: .rt (base + 2) .ro (tr a.Ram) :: .rt (base + 3) .ro (tr a.Map) :: .rt (base + 4) .ro (tr a.Opens) :: .rt (base + 5) .ro (tr a.Pipes) :: .rt (base + 6) .ro (tr a.Files) :: .rt (base + 7) .ro (tr a.Ready.Buf) :: .rt (base + 8) .ro (tr a.Out) :: .sl 1 (.p 1 [] 14 0 0) :: .rt 2 .box (T.s 9 1 fun _ c => [T.v (iv 0), T.v (iv 0), T.s 1 0 fun _ _ => T.j, T.s 10 0 fun _ _ => T.j, T.s 5 0 fun _ _ => T.j, T.s 2 0 fun _ _ => T.j, T.s 2 0 fun _ _ => T.j, T.s 1 0 fun _ _ => T.j, T.s 1 0 fun _ _ => T.j].getD c T.j) :: .rt 3 .box (T.s 9 1 fun _ c => [T.v (iv a.Next), T.v (iv a.Tick), T.j, T.j, T.j, T.j, T.j, T.j, T.j].getD c T.j) :: .al 3 2 (.h 15 []) :: .al 3 3 (.h 46 []) :: .al 3 4 (.h 75 []) :: .al 3 5 (.h 101 []) :: .al 3 6 (.h 129 []) :: .al 3 7 (.h 18 []) :: .al 3 8 (.h 22 []) :: .rt 15 .row (tr a.Progs) :: .rt 46 .row (tr (sortK DProc.Pid (procsK a i.k))) :: .rt 75 .row (tr (opensK a 0)) :: .rt 101 .row (tr (pipesK a 0)) :: .rt 129 .row (tr (filesK a 0)) :: .rt 18 .row (tr (dataL a.Ready)) :: .rt 22 .row (tr a.Out) :: [])) (fun i => a.Slots.length - i.k) ⟨0, Nat.zero_le _⟩ ?_
  intro i
  have hle := i.le
  have hkl := procsK_le (a := a) i.k
  refine go [.R2,.m,.f,.N,.l,.h,.b,.Z] (k := ?_)
  refine cd (fun c1 => ?_) fun c1 => ?_
  ·try simp only [cnd] at c1
   refine jd (AW.seq (AW.block (sr ?_)))
   refine go [.f,.N,.l,.m,.i,.N,.f,.l,.Z] (k := ?_)
   refine cd (fun c2 => ?_) fun c2 => ?_
   ·have k2 := c2
    try simp only [cnd] at c2
    have hU : (a.Slots.getD i.k En.dflt).Used = true := by first | exact c2 | exact k2 | simpa using k2
    refine go [.D [0, 1, 2, 3, 4, 5, 6, 7, 10],.t 0,.f,.N,.t 1,.l,.t 2,.G,.t 3,.f,.N,.t 4,.l,.t 5,.m,.t 6,.i,.N,.t 7,.G] (k := ?_)
    refine a1 8 [0, 1] [7, 2, 6, 5, 4, 3] rfl rfl (Stp.callR rfl (by decide) Tryz.call116 rfl rfl (l12Proc_con a (a.Slots.getD i.k En.dflt) hs2 (by have := hS.slot i.k (by omega); omega) (by have := hS.slot i.k (by omega); omega) (by have := hS.slot i.k (by omega); omega)) (nodup_of rfl) rfl rfl) ?_
    refine go [.N,.g,.f,.N,.g,.l,.N] (k := ?_)
    refine a1 9 [] [8, 1, 7, 2, 0, 6, 5, 4, 3] rfl rfl (Stp.callH rfl (by decide) Tryz.call115 rfl (l12Sort_con (sortK DProc.Pid (procsK a i.k)) (procP a (a.Slots.getD i.k En.dflt)) (by rw [sortK_len]; omega)) rfl rfl rfl (nodup_of rfl) rfl rfl) ?_
    refine go [.N] (k := ?_)
    refine AWA.rep 46 (tr (sortK DProc.Pid (procsK a (i.k + 1)))) rfl (by rw [procsK_t hU, sortK_snoc]; exact tsr) ?_
    refine go [.N,.t 10,.f,.O 11 [] [10, 9, 8, 7, 6, 5, 4, 3, 2, 1, 0],.s,.N,.Z,.R1,.m,.b,.a,.Z] (k := ?_)
    refine ⟨⟨i.k + 1, by omega⟩, Weak.sim ⟨st1, rfl, rfl, Rf rfl, ⟨rfl, rfl⟩, ⟨rfl, rfl⟩, ⟨rfl, rfl⟩, ⟨rfl, rfl⟩, ⟨rfl, rfl⟩, ⟨rfl, rfl⟩, ⟨rfl, rfl⟩, ⟨rfl, rfl⟩, ⟨rfl, rfl⟩, Rf rfl, Rf rfl, Rf rfl, Rf rfl, Rf rfl, Rf rfl, Rf rfl, Rf rfl, Rf rfl, rfl, Rf rfl, ⟨_, rfl, (sc_sim (n := 9) (fun c hc => match c, hc with | 0, _ => tsr | 1, _ => tsr | 2, _ => tsr | 3, _ => tsr | 4, _ => tsr | 5, _ => tsr | 6, _ => tsr | 7, _ => tsr | 8, _ => tsr | c + 9, hc => absurd hc (by omega)))⟩, ⟨rfl, rfl⟩, ⟨rfl, rfl⟩, ⟨rfl, rfl⟩, ⟨rfl, rfl⟩, ⟨rfl, rfl⟩, ⟨rfl, rfl⟩, ⟨rfl, rfl⟩, Rf rfl, Rf rfl, Rf rfl, Rf rfl, Rf rfl, Rf rfl, Rf rfl, trivial⟩ rfl rfl, ?_⟩
    show a.Slots.length - (i.k + 1) < a.Slots.length - i.k
    omega
   have k2 := c2
   try simp only [cnd] at c2
   have hU : (a.Slots.getD i.k En.dflt).Used = false := by first | exact c2 | exact k2 | simpa using k2
   refine go [.J,.R1,.m,.N] (k := ?_)
   refine AWL.rep 46 (tr (sortK DProc.Pid (procsK a (i.k + 1)))) rfl (by rw [procsK_f hU]; exact tsr) ?_
   refine go [.N,.b,.a,.Z] (k := ?_)
   refine ⟨⟨i.k + 1, by omega⟩, Weak.sim ⟨st1, rfl, rfl, Rf rfl, ⟨rfl, rfl⟩, ⟨rfl, rfl⟩, ⟨rfl, rfl⟩, ⟨rfl, rfl⟩, ⟨rfl, rfl⟩, ⟨rfl, rfl⟩, ⟨rfl, rfl⟩, ⟨rfl, rfl⟩, ⟨rfl, rfl⟩, Rf rfl, Rf rfl, Rf rfl, Rf rfl, Rf rfl, Rf rfl, Rf rfl, Rf rfl, Rf rfl, rfl, Rf rfl, ⟨_, rfl, (sc_sim (n := 9) (fun c hc => match c, hc with | 0, _ => tsr | 1, _ => tsr | 2, _ => tsr | 3, _ => tsr | 4, _ => tsr | 5, _ => tsr | 6, _ => tsr | 7, _ => tsr | 8, _ => tsr | c + 9, hc => absurd hc (by omega)))⟩, ⟨rfl, rfl⟩, ⟨rfl, rfl⟩, ⟨rfl, rfl⟩, ⟨rfl, rfl⟩, ⟨rfl, rfl⟩, ⟨rfl, rfl⟩, ⟨rfl, rfl⟩, Rf rfl, Rf rfl, Rf rfl, Rf rfl, Rf rfl, Rf rfl, Rf rfl, trivial⟩ rfl rfl, ?_⟩
   show a.Slots.length - (i.k + 1) < a.Slots.length - i.k
   omega
  try simp only [cnd] at c1
  refine AW.exit ?_
  dsimp only [thenQ, blockQ, reduceIte]
  refine go [.R2,.a,.Z] (k := ?_)
  refine AW.block ?_
  refine AW.rep 46 (tr (sortK DProc.Pid (procsK a a.Slots.length))) rfl (by rw [show i.k = a.Slots.length by omega]; exact tsr) ?_
  refine AW.weak (L' := (.sl 5 (.v (iv (0 : Nat))) :: .sl 2 (.p 2 [] 9 0 0) :: .sl 3 (.p 3 [] 9 0 0) :: .rt 1 .box (T.s 14 1 fun k c => ([(T.v (iv a.Next), none), (T.v (iv a.Tick), none), (T.j, none), (T.j, none), (T.j, none), (T.j, none), (T.j, none), (T.j, none), (T.j, none), (T.v (Value.bool a.Ready.Used), none), (T.j, none), (T.v (iv a.Ready.Head), none), (T.v (iv a.Ready.Len), none), (T.j, none)].getD (k * 14 + c) (T.j, none)).fst) :: .al 1 2 (.h base []) :: .al 1 3 (.h (base + 1) []) :: .al 1 4 (.h (base + 2) []) :: .al 1 5 (.h (base + 3) []) :: .al 1 6 (.h (base + 4) []) :: .al 1 7 (.h (base + 5) []) :: .al 1 8 (.h (base + 6) []) :: .al 1 10 (.h (base + 7) []) :: .al 1 13 (.h (base + 8) []) :: .rt base .ro (tr a.Progs) :: .rt (base + 1) .ro (tr a.Slots) :: .rt (base + 2) .ro (tr a.Ram) :: .rt (base + 3) .ro (tr a.Map) :: .rt (base + 4) .ro (tr a.Opens) :: .rt (base + 5) .ro (tr a.Pipes) :: .rt (base + 6) .ro (tr a.Files) :: .rt (base + 7) .ro (tr a.Ready.Buf) :: .rt (base + 8) .ro (tr a.Out) :: .sl 1 (.p 1 [] 14 0 0) :: .rt 2 .box (T.s 9 1 fun _ c => [T.v (iv 0), T.v (iv 0), T.s 1 0 fun _ _ => T.j, T.s 10 0 fun _ _ => T.j, T.s 5 0 fun _ _ => T.j, T.s 2 0 fun _ _ => T.j, T.s 2 0 fun _ _ => T.j, T.s 1 0 fun _ _ => T.j, T.s 1 0 fun _ _ => T.j].getD c T.j) :: .rt 3 .box (T.s 9 1 fun _ c => [T.v (iv a.Next), T.v (iv a.Tick), T.j, T.j, T.j, T.j, T.j, T.j, T.j].getD c T.j) :: .al 3 2 (.h 15 []) :: .al 3 3 (.h 46 []) :: .al 3 4 (.h 75 []) :: .al 3 5 (.h 101 []) :: .al 3 6 (.h 129 []) :: .al 3 7 (.h 18 []) :: .al 3 8 (.h 22 []) :: .rt 15 .row (tr a.Progs) :: .rt 46 .row (tr (sortK DProc.Pid (procsK a a.Slots.length))) :: .rt 75 .row (tr (opensK a (0 : Nat))) :: .rt 101 .row (tr (pipesK a 0)) :: .rt 129 .row (tr (filesK a 0)) :: .rt 18 .row (tr (dataL a.Ready)) :: .rt 22 .row (tr a.Out) :: [])) (Weak.sim ⟨rfl, rfl, rfl, Rf rfl, ⟨rfl, rfl⟩, ⟨rfl, rfl⟩, ⟨rfl, rfl⟩, ⟨rfl, rfl⟩, ⟨rfl, rfl⟩, ⟨rfl, rfl⟩, ⟨rfl, rfl⟩, ⟨rfl, rfl⟩, ⟨rfl, rfl⟩, Rf rfl, Rf rfl, Rf rfl, Rf rfl, Rf rfl, Rf rfl, Rf rfl, Rf rfl, Rf rfl, rfl, ⟨_, rfl, (sc_sim (n := 9) (fun c hc => match c, hc with | 0, _ => tsr | 1, _ => tsr | 2, _ => tsr | 3, _ => tsr | 4, _ => tsr | 5, _ => tsr | 6, _ => tsr | 7, _ => tsr | 8, _ => tsr | c + 9, hc => absurd hc (by omega)))⟩, ⟨_, rfl, (sc_sim (n := 9) (fun c hc => match c, hc with | 0, _ => tsr | 1, _ => tsr | 2, _ => tsr | 3, _ => tsr | 4, _ => tsr | 5, _ => tsr | 6, _ => tsr | 7, _ => tsr | 8, _ => tsr | c + 9, hc => absurd hc (by omega)))⟩, ⟨rfl, rfl⟩, ⟨rfl, rfl⟩, ⟨rfl, rfl⟩, ⟨rfl, rfl⟩, ⟨rfl, rfl⟩, ⟨rfl, rfl⟩, ⟨rfl, rfl⟩, Rf rfl, Rf rfl, Rf rfl, Rf rfl, Rf rfl, Rf rfl, Rf rfl, trivial⟩ rfl rfl) ?_
  refine AW.loop (fun i : KInv a.Opens.length => (.sl 5 (.v (iv i.k)) :: .sl 2 (.p 2 [] 9 0 0) :: .sl 3 (.p 3 [] 9 0 0) :: .rt 1 .box (T.s 14 1 fun k c => ([(T.v (iv a.Next), none), (T.v (iv a.Tick), none), (T.j, none), (T.j, none), (T.j, none), (T.j, none), (T.j, none), (T.j, none), (T.j, none), (T.v (Value.bool a.Ready.Used), none), (T.j, none), (T.v (iv a.Ready.Head), none), (T.v (iv a.Ready.Len), none), (T.j, none)].getD (k * 14 + c) (T.j, none)).fst) :: .al 1 2 (.h base []) :: .al 1 3 (.h (base + 1) []) :: .al 1 4 (.h (base + 2) []) :: .al 1 5 (.h (base + 3) []) :: .al 1 6 (.h (base + 4) []) :: .al 1 7 (.h (base + 5) []) :: .al 1 8 (.h (base + 6) []) :: .al 1 10 (.h (base + 7) []) :: .al 1 13 (.h (base + 8) []) :: .rt base .ro (tr a.Progs) :: .rt (base + 1) .ro (tr a.Slots) :: .rt (base + 2) .ro (tr a.Ram) :: .rt (base + 3) .ro (tr a.Map) :: .rt (base + 4) .ro (tr a.Opens) :: .rt (base + 5) .ro (tr a.Pipes) :: .rt (base + 6) .ro (tr a.Files) :: .rt (base + 7) .ro (tr a.Ready.Buf) :: .rt (base + 8) .ro (tr a.Out) :: .sl 1 (.p 1 [] 14 0 0) :: .rt 2 .box (T.s 9 1 fun _ c => [T.v (iv 0), T.v (iv 0), T.s 1 0 fun _ _ => T.j, T.s 10 0 fun _ _ => T.j, T.s 5 0 fun _ _ => T.j, T.s 2 0 fun _ _ => T.j, T.s 2 0 fun _ _ => T.j, T.s 1 0 fun _ _ => T.j, T.s 1 0 fun _ _ => T.j].getD c T.j) :: .rt 3 .box (T.s 9 1 fun _ c => [T.v (iv a.Next), T.v (iv a.Tick), T.j, T.j, T.j, T.j, T.j, T.j, T.j].getD c T.j) :: .al 3 2 (.h 15 []) :: .al 3 3 (.h 46 []) :: .al 3 4 (.h 75 []) :: .al 3 5 (.h 101 []) :: .al 3 6 (.h 129 []) :: .al 3 7 (.h 18 []) :: .al 3 8 (.h 22 []) :: .rt 15 .row (tr a.Progs) :: .rt 46 .row (tr (sortK DProc.Pid (procsK a a.Slots.length))) :: .rt 75 .row (tr (opensK a i.k)) :: .rt 101 .row (tr (pipesK a 0)) :: .rt 129 .row (tr (filesK a 0)) :: .rt 18 .row (tr (dataL a.Ready)) :: .rt 22 .row (tr a.Out) :: [])) (fun i => a.Opens.length - i.k) ⟨0, Nat.zero_le _⟩ ?_
  intro i
  have hle := i.le
  have hkl := opensK_le (a := a) i.k
  refine go [.R2,.m,.N,.f,.l,.h,.N,.b,.Z] (k := ?_)
  refine cd (fun c3 => ?_) fun c3 => ?_
  ·try simp only [cnd] at c3
   refine jd (AW.seq (AW.block (sr ?_)))
   refine go [.f,.l,.N,.m,.i,.G,.N,.A,.N,.s,.Z,.R,.f,.N,.l,.Z] (k := ?_)
   refine cd (fun c4 => ?_) fun c4 => ?_
   ·have k4 := c4
    try simp only [cnd] at c4
    have hU : (a.Opens.getD i.k En.dflt).Used = true := by first | exact c4 | exact k4 | simpa using k4
    refine go [.R1,.f,.l,.N,.m,.f,.l,.N,.f,.l,.f,.N,.l,.f,.l,.N,.u,.S,.N] (k := ?_)
    refine AWL.rep 74 (tr [(openP i.k (a.Opens.getD i.k En.dflt))]) rfl (row1_sim (α := DOpen) (fun c hc => match c, hc with | 0, _ => tsr | 1, _ => tsr | 2, _ => tsr | 3, _ => tsr | 4, _ => tsr | c + 5, hc => absurd hc (by simp only [En.n]; omega))) ?_
    refine go [.N] (k := ?_)
    refine sp (Stp.appendM rfl (by decide) (by decide) rfl rfl rfl (by simp only [List.length_cons, List.length_nil, List.length_append]; omega)) ?_
    refine go [.N] (k := ?_)
    refine AWL.rep 75 (tr (opensK a (i.k + 1))) rfl (by rw [opensK_t hU]; exact app_sim (l := opensK a i.k) (l' := [openP i.k (a.Opens.getD i.k En.dflt)]) rfl (fun _ _ _ _ => rfl) (fun _ _ _ _ => rfl)) ?_
    refine go [.N,.f,.s,.Z,.R1,.m,.N,.b,.a,.Z] (k := ?_)
    refine ⟨⟨i.k + 1, by omega⟩, Weak.sim ⟨st1, rfl, rfl, Rf rfl, ⟨rfl, rfl⟩, ⟨rfl, rfl⟩, ⟨rfl, rfl⟩, ⟨rfl, rfl⟩, ⟨rfl, rfl⟩, ⟨rfl, rfl⟩, ⟨rfl, rfl⟩, ⟨rfl, rfl⟩, ⟨rfl, rfl⟩, Rf rfl, Rf rfl, Rf rfl, Rf rfl, Rf rfl, Rf rfl, Rf rfl, Rf rfl, Rf rfl, rfl, Rf rfl, ⟨_, rfl, (sc_sim (n := 9) (fun c hc => match c, hc with | 0, _ => tsr | 1, _ => tsr | 2, _ => tsr | 3, _ => tsr | 4, _ => tsr | 5, _ => tsr | 6, _ => tsr | 7, _ => tsr | 8, _ => tsr | c + 9, hc => absurd hc (by omega)))⟩, ⟨rfl, rfl⟩, ⟨rfl, rfl⟩, ⟨rfl, rfl⟩, ⟨rfl, rfl⟩, ⟨rfl, rfl⟩, ⟨rfl, rfl⟩, ⟨rfl, rfl⟩, Rf rfl, Rf rfl, Rf rfl, Rf rfl, Rf rfl, Rf rfl, Rf rfl, trivial⟩ rfl rfl, ?_⟩
    show a.Opens.length - (i.k + 1) < a.Opens.length - i.k
    omega
   have k4 := c4
   try simp only [cnd] at c4
   have hU : (a.Opens.getD i.k En.dflt).Used = false := by first | exact c4 | exact k4 | simpa using k4
   refine go [.J,.R1,.m,.N] (k := ?_)
   refine AWL.rep 75 (tr (opensK a (i.k + 1))) rfl (by rw [opensK_f hU]; exact tsr) ?_
   refine go [.N,.b,.a,.Z] (k := ?_)
   refine ⟨⟨i.k + 1, by omega⟩, Weak.sim ⟨st1, rfl, rfl, Rf rfl, ⟨rfl, rfl⟩, ⟨rfl, rfl⟩, ⟨rfl, rfl⟩, ⟨rfl, rfl⟩, ⟨rfl, rfl⟩, ⟨rfl, rfl⟩, ⟨rfl, rfl⟩, ⟨rfl, rfl⟩, ⟨rfl, rfl⟩, Rf rfl, Rf rfl, Rf rfl, Rf rfl, Rf rfl, Rf rfl, Rf rfl, Rf rfl, Rf rfl, rfl, Rf rfl, ⟨_, rfl, (sc_sim (n := 9) (fun c hc => match c, hc with | 0, _ => tsr | 1, _ => tsr | 2, _ => tsr | 3, _ => tsr | 4, _ => tsr | 5, _ => tsr | 6, _ => tsr | 7, _ => tsr | 8, _ => tsr | c + 9, hc => absurd hc (by omega)))⟩, ⟨rfl, rfl⟩, ⟨rfl, rfl⟩, ⟨rfl, rfl⟩, ⟨rfl, rfl⟩, ⟨rfl, rfl⟩, ⟨rfl, rfl⟩, ⟨rfl, rfl⟩, Rf rfl, Rf rfl, Rf rfl, Rf rfl, Rf rfl, Rf rfl, Rf rfl, trivial⟩ rfl rfl, ?_⟩
   show a.Opens.length - (i.k + 1) < a.Opens.length - i.k
   omega
  try simp only [cnd] at c3
  refine AW.exit ?_
  dsimp only [thenQ, blockQ, reduceIte]
  refine go [.R2,.a,.Z] (k := ?_)
  refine AW.block ?_
  refine AW.rep 75 (tr (opensK a a.Opens.length)) rfl (by rw [show i.k = a.Opens.length by omega]; exact tsr) ?_
  refine AW.weak (L' := (.sl 7 (.v (iv (0 : Nat))) :: .sl 2 (.p 2 [] 9 0 0) :: .sl 3 (.p 3 [] 9 0 0) :: .rt 1 .box (T.s 14 1 fun k c => ([(T.v (iv a.Next), none), (T.v (iv a.Tick), none), (T.j, none), (T.j, none), (T.j, none), (T.j, none), (T.j, none), (T.j, none), (T.j, none), (T.v (Value.bool a.Ready.Used), none), (T.j, none), (T.v (iv a.Ready.Head), none), (T.v (iv a.Ready.Len), none), (T.j, none)].getD (k * 14 + c) (T.j, none)).fst) :: .al 1 2 (.h base []) :: .al 1 3 (.h (base + 1) []) :: .al 1 4 (.h (base + 2) []) :: .al 1 5 (.h (base + 3) []) :: .al 1 6 (.h (base + 4) []) :: .al 1 7 (.h (base + 5) []) :: .al 1 8 (.h (base + 6) []) :: .al 1 10 (.h (base + 7) []) :: .al 1 13 (.h (base + 8) []) :: .rt base .ro (tr a.Progs) :: .rt (base + 1) .ro (tr a.Slots) :: .rt (base + 2) .ro (tr a.Ram) :: .rt (base + 3) .ro (tr a.Map) :: .rt (base + 4) .ro (tr a.Opens) :: .rt (base + 5) .ro (tr a.Pipes) :: .rt (base + 6) .ro (tr a.Files) :: .rt (base + 7) .ro (tr a.Ready.Buf) :: .rt (base + 8) .ro (tr a.Out) :: .sl 1 (.p 1 [] 14 0 0) :: .rt 2 .box (T.s 9 1 fun _ c => [T.v (iv 0), T.v (iv 0), T.s 1 0 fun _ _ => T.j, T.s 10 0 fun _ _ => T.j, T.s 5 0 fun _ _ => T.j, T.s 2 0 fun _ _ => T.j, T.s 2 0 fun _ _ => T.j, T.s 1 0 fun _ _ => T.j, T.s 1 0 fun _ _ => T.j].getD c T.j) :: .rt 3 .box (T.s 9 1 fun _ c => [T.v (iv a.Next), T.v (iv a.Tick), T.j, T.j, T.j, T.j, T.j, T.j, T.j].getD c T.j) :: .al 3 2 (.h 15 []) :: .al 3 3 (.h 46 []) :: .al 3 4 (.h 75 []) :: .al 3 5 (.h 101 []) :: .al 3 6 (.h 129 []) :: .al 3 7 (.h 18 []) :: .al 3 8 (.h 22 []) :: .rt 15 .row (tr a.Progs) :: .rt 46 .row (tr (sortK DProc.Pid (procsK a a.Slots.length))) :: .rt 75 .row (tr (opensK a a.Opens.length)) :: .rt 101 .row (tr (pipesK a (0 : Nat))) :: .rt 129 .row (tr (filesK a 0)) :: .rt 18 .row (tr (dataL a.Ready)) :: .rt 22 .row (tr a.Out) :: [])) (Weak.sim ⟨rfl, rfl, rfl, Rf rfl, ⟨rfl, rfl⟩, ⟨rfl, rfl⟩, ⟨rfl, rfl⟩, ⟨rfl, rfl⟩, ⟨rfl, rfl⟩, ⟨rfl, rfl⟩, ⟨rfl, rfl⟩, ⟨rfl, rfl⟩, ⟨rfl, rfl⟩, Rf rfl, Rf rfl, Rf rfl, Rf rfl, Rf rfl, Rf rfl, Rf rfl, Rf rfl, Rf rfl, rfl, ⟨_, rfl, (sc_sim (n := 9) (fun c hc => match c, hc with | 0, _ => tsr | 1, _ => tsr | 2, _ => tsr | 3, _ => tsr | 4, _ => tsr | 5, _ => tsr | 6, _ => tsr | 7, _ => tsr | 8, _ => tsr | c + 9, hc => absurd hc (by omega)))⟩, ⟨_, rfl, (sc_sim (n := 9) (fun c hc => match c, hc with | 0, _ => tsr | 1, _ => tsr | 2, _ => tsr | 3, _ => tsr | 4, _ => tsr | 5, _ => tsr | 6, _ => tsr | 7, _ => tsr | 8, _ => tsr | c + 9, hc => absurd hc (by omega)))⟩, ⟨rfl, rfl⟩, ⟨rfl, rfl⟩, ⟨rfl, rfl⟩, ⟨rfl, rfl⟩, ⟨rfl, rfl⟩, ⟨rfl, rfl⟩, ⟨rfl, rfl⟩, Rf rfl, Rf rfl, Rf rfl, Rf rfl, Rf rfl, Rf rfl, Rf rfl, trivial⟩ rfl rfl) ?_
  refine AW.loop (fun i : KInv a.Pipes.length => (.sl 7 (.v (iv i.k)) :: .sl 2 (.p 2 [] 9 0 0) :: .sl 3 (.p 3 [] 9 0 0) :: .rt 1 .box (T.s 14 1 fun k c => ([(T.v (iv a.Next), none), (T.v (iv a.Tick), none), (T.j, none), (T.j, none), (T.j, none), (T.j, none), (T.j, none), (T.j, none), (T.j, none), (T.v (Value.bool a.Ready.Used), none), (T.j, none), (T.v (iv a.Ready.Head), none), (T.v (iv a.Ready.Len), none), (T.j, none)].getD (k * 14 + c) (T.j, none)).fst) :: .al 1 2 (.h base []) :: .al 1 3 (.h (base + 1) []) :: .al 1 4 (.h (base + 2) []) :: .al 1 5 (.h (base + 3) []) :: .al 1 6 (.h (base + 4) []) :: .al 1 7 (.h (base + 5) []) :: .al 1 8 (.h (base + 6) []) :: .al 1 10 (.h (base + 7) []) :: .al 1 13 (.h (base + 8) []) :: .rt base .ro (tr a.Progs) :: .rt (base + 1) .ro (tr a.Slots) :: .rt (base + 2) .ro (tr a.Ram) :: .rt (base + 3) .ro (tr a.Map) :: .rt (base + 4) .ro (tr a.Opens) :: .rt (base + 5) .ro (tr a.Pipes) :: .rt (base + 6) .ro (tr a.Files) :: .rt (base + 7) .ro (tr a.Ready.Buf) :: .rt (base + 8) .ro (tr a.Out) :: .sl 1 (.p 1 [] 14 0 0) :: .rt 2 .box (T.s 9 1 fun _ c => [T.v (iv 0), T.v (iv 0), T.s 1 0 fun _ _ => T.j, T.s 10 0 fun _ _ => T.j, T.s 5 0 fun _ _ => T.j, T.s 2 0 fun _ _ => T.j, T.s 2 0 fun _ _ => T.j, T.s 1 0 fun _ _ => T.j, T.s 1 0 fun _ _ => T.j].getD c T.j) :: .rt 3 .box (T.s 9 1 fun _ c => [T.v (iv a.Next), T.v (iv a.Tick), T.j, T.j, T.j, T.j, T.j, T.j, T.j].getD c T.j) :: .al 3 2 (.h 15 []) :: .al 3 3 (.h 46 []) :: .al 3 4 (.h 75 []) :: .al 3 5 (.h 101 []) :: .al 3 6 (.h 129 []) :: .al 3 7 (.h 18 []) :: .al 3 8 (.h 22 []) :: .rt 15 .row (tr a.Progs) :: .rt 46 .row (tr (sortK DProc.Pid (procsK a a.Slots.length))) :: .rt 75 .row (tr (opensK a a.Opens.length)) :: .rt 101 .row (tr (pipesK a i.k)) :: .rt 129 .row (tr (filesK a 0)) :: .rt 18 .row (tr (dataL a.Ready)) :: .rt 22 .row (tr a.Out) :: [])) (fun i => a.Pipes.length - i.k) ⟨0, Nat.zero_le _⟩ ?_
  intro i
  have hle := i.le
  have hkl := pipesK_le (a := a) i.k
  refine go [.R2,.m,.N,.f,.l,.h,.N,.b,.Z] (k := ?_)
  refine cd (fun c5 => ?_) fun c5 => ?_
  ·try simp only [cnd] at c5
   refine jd (AW.seq (AW.block (sr ?_)))
   refine go [.f,.l,.N,.m,.i,.f,.N,.l,.Z] (k := ?_)
   refine cd (fun c6 => ?_) fun c6 => ?_
   ·have k6 := c6
    try simp only [cnd] at c6
    have hU : (a.Pipes.getD i.k En.dflt).Used = true := by first | exact c6 | exact k6 | simpa using k6
    refine go [.D [0, 1, 2, 3, 4, 5, 6, 7, 9, 12],.t 0,.f,.t 1,.l,.N,.t 2,.m,.t 3,.f,.t 4,.l,.N,.t 5,.m,.t 6,.i,.t 7,.G,.N] (k := ?_)
    refine a1 8 [0, 1, 2] [7, 6, 5, 4, 3] rfl rfl (Stp.callR rfl (by decide) Tryz.call114 rfl rfl (l12Go_con (a.Pipes.getD i.k En.dflt) 4 (by omega) (hS.pipe i.k (by omega))) (nodup_of rfl) rfl rfl) ?_
    refine go [.N,.g,.f,.N,.g,.l,.N,.g,.m,.N,.t 9,.u,.O 10 [0, 1] [9, 8, 2, 7, 6, 5, 4, 3],.S,.N,.g,.f,.N,.g,.l,.N] (k := ?_)
    refine AWA.rep 100 (tr [(pipeP i.k (a.Pipes.getD i.k En.dflt))]) rfl (row1_sim (α := DPipe) (fun c hc => match c, hc with | 0, _ => tsr | 1, _ => tsr | c + 2, hc => absurd hc (by simp only [En.n]; omega))) ?_
    refine go [.N] (k := ?_)
    refine a1 11 [] [10, 8, 1, 9, 7, 0, 2, 6, 5, 4, 3] rfl rfl (Stp.appendM rfl (by decide) (by decide) rfl rfl rfl (by simp only [List.length_cons, List.length_nil, List.length_append]; omega)) ?_
    refine go [.N] (k := ?_)
    refine AWA.rep 101 (tr (pipesK a (i.k + 1))) rfl (by rw [pipesK_t hU]; exact app_sim (l := pipesK a i.k) (l' := [pipeP i.k (a.Pipes.getD i.k En.dflt)]) rfl (fun _ _ _ _ => rfl) (fun _ _ _ _ => rfl)) ?_
    refine go [.N,.t 12,.f,.O 13 [] [12, 11, 10, 9, 8, 7, 6, 5, 4, 3, 2, 1, 0],.s,.N,.Z,.R1,.m,.b,.a,.Z] (k := ?_)
    refine ⟨⟨i.k + 1, by omega⟩, Weak.sim ⟨st1, rfl, rfl, Rf rfl, ⟨rfl, rfl⟩, ⟨rfl, rfl⟩, ⟨rfl, rfl⟩, ⟨rfl, rfl⟩, ⟨rfl, rfl⟩, ⟨rfl, rfl⟩, ⟨rfl, rfl⟩, ⟨rfl, rfl⟩, ⟨rfl, rfl⟩, Rf rfl, Rf rfl, Rf rfl, Rf rfl, Rf rfl, Rf rfl, Rf rfl, Rf rfl, Rf rfl, rfl, Rf rfl, ⟨_, rfl, (sc_sim (n := 9) (fun c hc => match c, hc with | 0, _ => tsr | 1, _ => tsr | 2, _ => tsr | 3, _ => tsr | 4, _ => tsr | 5, _ => tsr | 6, _ => tsr | 7, _ => tsr | 8, _ => tsr | c + 9, hc => absurd hc (by omega)))⟩, ⟨rfl, rfl⟩, ⟨rfl, rfl⟩, ⟨rfl, rfl⟩, ⟨rfl, rfl⟩, ⟨rfl, rfl⟩, ⟨rfl, rfl⟩, ⟨rfl, rfl⟩, Rf rfl, Rf rfl, Rf rfl, Rf rfl, Rf rfl, Rf rfl, Rf rfl, trivial⟩ rfl rfl, ?_⟩
    show a.Pipes.length - (i.k + 1) < a.Pipes.length - i.k
    omega
   have k6 := c6
   try simp only [cnd] at c6
   have hU : (a.Pipes.getD i.k En.dflt).Used = false := by first | exact c6 | exact k6 | simpa using k6
   refine go [.J,.R1,.m,.N] (k := ?_)
   refine AWL.rep 101 (tr (pipesK a (i.k + 1))) rfl (by rw [pipesK_f hU]; exact tsr) ?_
   refine go [.N,.b,.a,.Z] (k := ?_)
   refine ⟨⟨i.k + 1, by omega⟩, Weak.sim ⟨st1, rfl, rfl, Rf rfl, ⟨rfl, rfl⟩, ⟨rfl, rfl⟩, ⟨rfl, rfl⟩, ⟨rfl, rfl⟩, ⟨rfl, rfl⟩, ⟨rfl, rfl⟩, ⟨rfl, rfl⟩, ⟨rfl, rfl⟩, ⟨rfl, rfl⟩, Rf rfl, Rf rfl, Rf rfl, Rf rfl, Rf rfl, Rf rfl, Rf rfl, Rf rfl, Rf rfl, rfl, Rf rfl, ⟨_, rfl, (sc_sim (n := 9) (fun c hc => match c, hc with | 0, _ => tsr | 1, _ => tsr | 2, _ => tsr | 3, _ => tsr | 4, _ => tsr | 5, _ => tsr | 6, _ => tsr | 7, _ => tsr | 8, _ => tsr | c + 9, hc => absurd hc (by omega)))⟩, ⟨rfl, rfl⟩, ⟨rfl, rfl⟩, ⟨rfl, rfl⟩, ⟨rfl, rfl⟩, ⟨rfl, rfl⟩, ⟨rfl, rfl⟩, ⟨rfl, rfl⟩, Rf rfl, Rf rfl, Rf rfl, Rf rfl, Rf rfl, Rf rfl, Rf rfl, trivial⟩ rfl rfl, ?_⟩
   show a.Pipes.length - (i.k + 1) < a.Pipes.length - i.k
   omega
  try simp only [cnd] at c5
  refine AW.exit ?_
  dsimp only [thenQ, blockQ, reduceIte]
  refine go [.R2,.a,.Z] (k := ?_)
  refine AW.block ?_
  refine AW.rep 101 (tr (pipesK a a.Pipes.length)) rfl (by rw [show i.k = a.Pipes.length by omega]; exact tsr) ?_
  refine AW.weak (L' := (.sl 8 (.v (iv (0 : Nat))) :: .sl 2 (.p 2 [] 9 0 0) :: .sl 3 (.p 3 [] 9 0 0) :: .rt 1 .box (T.s 14 1 fun k c => ([(T.v (iv a.Next), none), (T.v (iv a.Tick), none), (T.j, none), (T.j, none), (T.j, none), (T.j, none), (T.j, none), (T.j, none), (T.j, none), (T.v (Value.bool a.Ready.Used), none), (T.j, none), (T.v (iv a.Ready.Head), none), (T.v (iv a.Ready.Len), none), (T.j, none)].getD (k * 14 + c) (T.j, none)).fst) :: .al 1 2 (.h base []) :: .al 1 3 (.h (base + 1) []) :: .al 1 4 (.h (base + 2) []) :: .al 1 5 (.h (base + 3) []) :: .al 1 6 (.h (base + 4) []) :: .al 1 7 (.h (base + 5) []) :: .al 1 8 (.h (base + 6) []) :: .al 1 10 (.h (base + 7) []) :: .al 1 13 (.h (base + 8) []) :: .rt base .ro (tr a.Progs) :: .rt (base + 1) .ro (tr a.Slots) :: .rt (base + 2) .ro (tr a.Ram) :: .rt (base + 3) .ro (tr a.Map) :: .rt (base + 4) .ro (tr a.Opens) :: .rt (base + 5) .ro (tr a.Pipes) :: .rt (base + 6) .ro (tr a.Files) :: .rt (base + 7) .ro (tr a.Ready.Buf) :: .rt (base + 8) .ro (tr a.Out) :: .sl 1 (.p 1 [] 14 0 0) :: .rt 2 .box (T.s 9 1 fun _ c => [T.v (iv 0), T.v (iv 0), T.s 1 0 fun _ _ => T.j, T.s 10 0 fun _ _ => T.j, T.s 5 0 fun _ _ => T.j, T.s 2 0 fun _ _ => T.j, T.s 2 0 fun _ _ => T.j, T.s 1 0 fun _ _ => T.j, T.s 1 0 fun _ _ => T.j].getD c T.j) :: .rt 3 .box (T.s 9 1 fun _ c => [T.v (iv a.Next), T.v (iv a.Tick), T.j, T.j, T.j, T.j, T.j, T.j, T.j].getD c T.j) :: .al 3 2 (.h 15 []) :: .al 3 3 (.h 46 []) :: .al 3 4 (.h 75 []) :: .al 3 5 (.h 101 []) :: .al 3 6 (.h 129 []) :: .al 3 7 (.h 18 []) :: .al 3 8 (.h 22 []) :: .rt 15 .row (tr a.Progs) :: .rt 46 .row (tr (sortK DProc.Pid (procsK a a.Slots.length))) :: .rt 75 .row (tr (opensK a a.Opens.length)) :: .rt 101 .row (tr (pipesK a a.Pipes.length)) :: .rt 129 .row (tr (filesK a (0 : Nat))) :: .rt 18 .row (tr (dataL a.Ready)) :: .rt 22 .row (tr a.Out) :: [])) (Weak.sim ⟨rfl, rfl, rfl, Rf rfl, ⟨rfl, rfl⟩, ⟨rfl, rfl⟩, ⟨rfl, rfl⟩, ⟨rfl, rfl⟩, ⟨rfl, rfl⟩, ⟨rfl, rfl⟩, ⟨rfl, rfl⟩, ⟨rfl, rfl⟩, ⟨rfl, rfl⟩, Rf rfl, Rf rfl, Rf rfl, Rf rfl, Rf rfl, Rf rfl, Rf rfl, Rf rfl, Rf rfl, rfl, ⟨_, rfl, (sc_sim (n := 9) (fun c hc => match c, hc with | 0, _ => tsr | 1, _ => tsr | 2, _ => tsr | 3, _ => tsr | 4, _ => tsr | 5, _ => tsr | 6, _ => tsr | 7, _ => tsr | 8, _ => tsr | c + 9, hc => absurd hc (by omega)))⟩, ⟨_, rfl, (sc_sim (n := 9) (fun c hc => match c, hc with | 0, _ => tsr | 1, _ => tsr | 2, _ => tsr | 3, _ => tsr | 4, _ => tsr | 5, _ => tsr | 6, _ => tsr | 7, _ => tsr | 8, _ => tsr | c + 9, hc => absurd hc (by omega)))⟩, ⟨rfl, rfl⟩, ⟨rfl, rfl⟩, ⟨rfl, rfl⟩, ⟨rfl, rfl⟩, ⟨rfl, rfl⟩, ⟨rfl, rfl⟩, ⟨rfl, rfl⟩, Rf rfl, Rf rfl, Rf rfl, Rf rfl, Rf rfl, Rf rfl, Rf rfl, trivial⟩ rfl rfl) ?_
  refine AW.loop (fun i : KInv a.Files.length => (.sl 8 (.v (iv i.k)) :: .sl 2 (.p 2 [] 9 0 0) :: .sl 3 (.p 3 [] 9 0 0) :: .rt 1 .box (T.s 14 1 fun k c => ([(T.v (iv a.Next), none), (T.v (iv a.Tick), none), (T.j, none), (T.j, none), (T.j, none), (T.j, none), (T.j, none), (T.j, none), (T.j, none), (T.v (Value.bool a.Ready.Used), none), (T.j, none), (T.v (iv a.Ready.Head), none), (T.v (iv a.Ready.Len), none), (T.j, none)].getD (k * 14 + c) (T.j, none)).fst) :: .al 1 2 (.h base []) :: .al 1 3 (.h (base + 1) []) :: .al 1 4 (.h (base + 2) []) :: .al 1 5 (.h (base + 3) []) :: .al 1 6 (.h (base + 4) []) :: .al 1 7 (.h (base + 5) []) :: .al 1 8 (.h (base + 6) []) :: .al 1 10 (.h (base + 7) []) :: .al 1 13 (.h (base + 8) []) :: .rt base .ro (tr a.Progs) :: .rt (base + 1) .ro (tr a.Slots) :: .rt (base + 2) .ro (tr a.Ram) :: .rt (base + 3) .ro (tr a.Map) :: .rt (base + 4) .ro (tr a.Opens) :: .rt (base + 5) .ro (tr a.Pipes) :: .rt (base + 6) .ro (tr a.Files) :: .rt (base + 7) .ro (tr a.Ready.Buf) :: .rt (base + 8) .ro (tr a.Out) :: .sl 1 (.p 1 [] 14 0 0) :: .rt 2 .box (T.s 9 1 fun _ c => [T.v (iv 0), T.v (iv 0), T.s 1 0 fun _ _ => T.j, T.s 10 0 fun _ _ => T.j, T.s 5 0 fun _ _ => T.j, T.s 2 0 fun _ _ => T.j, T.s 2 0 fun _ _ => T.j, T.s 1 0 fun _ _ => T.j, T.s 1 0 fun _ _ => T.j].getD c T.j) :: .rt 3 .box (T.s 9 1 fun _ c => [T.v (iv a.Next), T.v (iv a.Tick), T.j, T.j, T.j, T.j, T.j, T.j, T.j].getD c T.j) :: .al 3 2 (.h 15 []) :: .al 3 3 (.h 46 []) :: .al 3 4 (.h 75 []) :: .al 3 5 (.h 101 []) :: .al 3 6 (.h 129 []) :: .al 3 7 (.h 18 []) :: .al 3 8 (.h 22 []) :: .rt 15 .row (tr a.Progs) :: .rt 46 .row (tr (sortK DProc.Pid (procsK a a.Slots.length))) :: .rt 75 .row (tr (opensK a a.Opens.length)) :: .rt 101 .row (tr (pipesK a a.Pipes.length)) :: .rt 129 .row (tr (filesK a i.k)) :: .rt 18 .row (tr (dataL a.Ready)) :: .rt 22 .row (tr a.Out) :: [])) (fun i => a.Files.length - i.k) ⟨0, Nat.zero_le _⟩ ?_
  intro i
  have hle := i.le
  have hkl := filesK_le (a := a) i.k
  refine go [.R2,.m,.N,.f,.l,.h,.N,.b,.Z] (k := ?_)
  refine cd (fun c7 => ?_) fun c7 => ?_
  ·try simp only [cnd] at c7
   refine jd (AW.seq (AW.block (sr ?_)))
   refine go [.f,.l,.N,.m,.i,.f,.N,.l,.Z] (k := ?_)
   refine cd (fun c8 => ?_) fun c8 => ?_
   ·have k8 := c8
    try simp only [cnd] at c8
    have hU : (a.Files.getD i.k En.dflt).Used = true := by first | exact c8 | exact k8 | simpa using k8
    have hik := wt_ge (show i.k < a.Files.length by omega)
    have hik2 : Mk.wt (a.Files.getD i.k En.dflt) = (a.Files.getD i.k En.dflt).Data.length := wt_ints _
    refine go [.D [0, 1, 2, 4, 5, 6, 7, 8, 9, 11, 14],.t 0,.f,.t 1,.l,.N,.t 2,.m,.t 4,.f,.t 5,.l,.N,.t 6,.m,.t 7,.i,.t 8,.f,.N,.t 9,.l,.o 3 [0, 1, 2, 4, 5, 6, 7, 8, 9],.S,.N,.g,.f,.N,.g,.l,.N,.g,.m,.N,.g,.f,.N,.g,.l,.N,.g,.m,.N,.g,.i,.N,.g,.f,.N,.g,.l,.N] (k := ?_)
    refine a1 10 [0, 1, 2] [9, 3, 8, 7, 6, 5, 4] rfl rfl (by first | exact Stp.appendC rfl (by decide) (by decide) rfl rfl (by omega) | exact Stp.appendM rfl (by decide) (by decide) rfl rfl rfl (by omega)) ?_
    refine go [.N,.g,.f,.N,.g,.l,.N,.g,.m,.N] (k := ?_)
    refine AWA.rep 126 (tr (a.Files.getD i.k En.dflt).Data) rfl (app_nil (α := Int)) ?_
    refine go [.N,.t 11,.u,.O 12 [0, 1] [11, 10, 2, 9, 3, 8, 7, 6, 5, 4],.S,.N,.g,.f,.N,.g,.l,.N] (k := ?_)
    refine AWA.rep 128 (tr [(fileP i.k (a.Files.getD i.k En.dflt))]) rfl (row1_sim (α := DFile) (fun c hc => match c, hc with | 0, _ => tsr | 1, _ => tsr | c + 2, hc => absurd hc (by simp only [En.n]; omega))) ?_
    refine go [.N] (k := ?_)
    refine a1 13 [] [12, 10, 1, 11, 9, 3, 0, 2, 8, 7, 6, 5, 4] rfl rfl (Stp.appendM rfl (by decide) (by decide) rfl rfl rfl (by simp only [List.length_cons, List.length_nil, List.length_append]; omega)) ?_
    refine go [.N] (k := ?_)
    refine AWA.rep 129 (tr (filesK a (i.k + 1))) rfl (by rw [filesK_t hU]; exact app_sim (l := filesK a i.k) (l' := [fileP i.k (a.Files.getD i.k En.dflt)]) rfl (fun _ _ _ _ => rfl) (fun _ _ _ _ => rfl)) ?_
    refine go [.N,.t 14,.f,.O 15 [] [14, 13, 12, 11, 10, 9, 8, 7, 6, 5, 4, 3, 2, 1, 0],.s,.N,.Z,.R1,.m,.b,.a,.Z] (k := ?_)
    refine ⟨⟨i.k + 1, by omega⟩, Weak.sim ⟨st1, rfl, rfl, Rf rfl, ⟨rfl, rfl⟩, ⟨rfl, rfl⟩, ⟨rfl, rfl⟩, ⟨rfl, rfl⟩, ⟨rfl, rfl⟩, ⟨rfl, rfl⟩, ⟨rfl, rfl⟩, ⟨rfl, rfl⟩, ⟨rfl, rfl⟩, Rf rfl, Rf rfl, Rf rfl, Rf rfl, Rf rfl, Rf rfl, Rf rfl, Rf rfl, Rf rfl, rfl, Rf rfl, ⟨_, rfl, (sc_sim (n := 9) (fun c hc => match c, hc with | 0, _ => tsr | 1, _ => tsr | 2, _ => tsr | 3, _ => tsr | 4, _ => tsr | 5, _ => tsr | 6, _ => tsr | 7, _ => tsr | 8, _ => tsr | c + 9, hc => absurd hc (by omega)))⟩, ⟨rfl, rfl⟩, ⟨rfl, rfl⟩, ⟨rfl, rfl⟩, ⟨rfl, rfl⟩, ⟨rfl, rfl⟩, ⟨rfl, rfl⟩, ⟨rfl, rfl⟩, Rf rfl, Rf rfl, Rf rfl, Rf rfl, Rf rfl, Rf rfl, Rf rfl, trivial⟩ rfl rfl, ?_⟩
    show a.Files.length - (i.k + 1) < a.Files.length - i.k
    omega
   have k8 := c8
   try simp only [cnd] at c8
   have hU : (a.Files.getD i.k En.dflt).Used = false := by first | exact c8 | exact k8 | simpa using k8
   refine go [.J,.R1,.m,.N] (k := ?_)
   refine AWL.rep 129 (tr (filesK a (i.k + 1))) rfl (by rw [filesK_f hU]; exact tsr) ?_
   refine go [.N,.b,.a,.Z] (k := ?_)
   refine ⟨⟨i.k + 1, by omega⟩, Weak.sim ⟨st1, rfl, rfl, Rf rfl, ⟨rfl, rfl⟩, ⟨rfl, rfl⟩, ⟨rfl, rfl⟩, ⟨rfl, rfl⟩, ⟨rfl, rfl⟩, ⟨rfl, rfl⟩, ⟨rfl, rfl⟩, ⟨rfl, rfl⟩, ⟨rfl, rfl⟩, Rf rfl, Rf rfl, Rf rfl, Rf rfl, Rf rfl, Rf rfl, Rf rfl, Rf rfl, Rf rfl, rfl, Rf rfl, ⟨_, rfl, (sc_sim (n := 9) (fun c hc => match c, hc with | 0, _ => tsr | 1, _ => tsr | 2, _ => tsr | 3, _ => tsr | 4, _ => tsr | 5, _ => tsr | 6, _ => tsr | 7, _ => tsr | 8, _ => tsr | c + 9, hc => absurd hc (by omega)))⟩, ⟨rfl, rfl⟩, ⟨rfl, rfl⟩, ⟨rfl, rfl⟩, ⟨rfl, rfl⟩, ⟨rfl, rfl⟩, ⟨rfl, rfl⟩, ⟨rfl, rfl⟩, Rf rfl, Rf rfl, Rf rfl, Rf rfl, Rf rfl, Rf rfl, Rf rfl, trivial⟩ rfl rfl, ?_⟩
   show a.Files.length - (i.k + 1) < a.Files.length - i.k
   omega
  try simp only [cnd] at c7
  refine AW.rep 129 (tr (filesK a a.Files.length)) rfl (by rw [show i.k = a.Files.length by omega]; exact tsr) ?_
  refine AW.exit ?_
  dsimp only [thenQ, blockQ, reduceIte]
  refine go [.R,.G,.N,.s,.Z] (k := ?_)
  refine AW.ret (endQ_ret (.cons (.cellG 2 40 rfl rfl rfl ag40 sz40 (by decide)) .nil) ?_)
  refine ⟨fun i => if i = 0 then 15 else if i = 1 then 46 else if i = 2 then 75 else if i = 3 then 101 else if i = 4 then 129 else if i = 5 then 18 else 22, rfl, nodup_of rfl, ?_⟩
  intro r hr
  simp only [List.mem_cons, List.not_mem_nil, or_false] at hr
  rcases hr with rfl | rfl | rfl | rfl | rfl | rfl | rfl <;> exact ⟨by simp, rootL_mem rfl⟩
end Go.Proofs.YtldefnpobjabpaaGreat.VM

