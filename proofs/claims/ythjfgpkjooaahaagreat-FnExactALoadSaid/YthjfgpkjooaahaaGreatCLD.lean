/- Contracts. No conditions. -/
import Derived.Test.YthjfgpkjooaahaaGreatCLB
import Derived.Test.YthjfgpkjooaahaaGreatCLE
set_option linter.all false
set_option maxHeartbeats 8000000
set_option maxRecDepth 10000
namespace Go.Proofs.YthjfgpkjooaahaaGreat.VM
open Go Go.RowKit Go.Proofs
theorem simz_rep (n : Nat) : (T.s 1 n fun _ j => [T.v (iv 0)].getD j .j).sim (tr (List.replicate n (0 : Int))) := by
 refine ⟨fun k c => (En.cs ((List.replicate n (0 : Int)).getD k En.dflt)).getD c .j, by simp only [tr, List.length_replicate]; rfl, fun k c hk hc => ?_⟩
 match c, hc with
 | 0, _ =>
  show T.sim (.v (iv 0)) (.v (iv ((List.replicate n (0 : Int)).getD k En.dflt)))
  rw [show (List.replicate n (0 : Int)).getD k En.dflt = 0 by simp [List.getD_eq_getElem?_getD, List.getElem?_replicate, hk]]
  exact tsr
 | c + 1, hc => exact absurd hc (by omega)
theorem l6ZerosN_con (n : Nat) (h : n ≤ 64) : Con Tryz.prog 145 [.v (iv (n : Nat))] [] (Ret (.h 0 []) [(0, .row, tr (List.replicate n (0 : Int)))]) := by
 refine ob Tryz.func145 Tryz.ntmps145 ?_
 refine go [.R,.a,.Z,.R,.m] (k := ?_)
 refine sp (Stp.makeSlice rfl (by decide) (by decide) rfl rfl (by omega) (by omega) (by omega)) ?_
 refine go [.N,.a,.Z] (k := ?_)
 refine AW.rep 4 (tr (List.replicate n (0 : Int))) rfl (simz_rep n) ?_
 refine rt1 2 ?_
 refine ⟨fun _ => 4, rfl, nodup_of rfl, ?_⟩
 intro r hr
 cases List.mem_singleton.1 hr
 exact ⟨by simp, rootL_mem rfl⟩
theorem l13NoSlot_con : Con Tryz.prog 251 [] [] (Ret (.g [.v (.bool noSlotD.Used), .v (iv noSlotD.Pid), .v (iv noSlotD.Parent), .v (iv noSlotD.State), .v (iv noSlotD.Prog), .v (iv noSlotD.Pc), .v (iv noSlotD.Until), .v (iv noSlotD.Code), .h 0 [], .h 1 [], .h 2 []]) [(0, .row, tr noSlotD.Regs), (1, .row, tr noSlotD.Pt), (2, .row, tr noSlotD.Fds)]) := by
 refine ob Tryz.func251 Tryz.ntmps251 ?_
 refine go [.R,.A,.Z,.R] (k := ?_)
 refine sp (Stp.callR rfl (by decide) Tryz.call145 rfl rfl (l6ZerosN_con 4 (by omega)) (nodup_of rfl) rfl rfl) ?_
 refine go [.N] (k := ?_)
 refine sp (Stp.buildSlice (ys := [.v (iv (-1)), .v (iv (-1)), .v (iv (-1))]) rfl (by decide) (by decide) rfl (by decide) rfl rfl rfl (nodup_of rfl)) ?_
 refine go [.N] (k := ?_)
 refine AWL.rep 2 (tr (List.replicate 3 (-1 : Int))) rfl (sim_row1 rfl rfl rfl (fun k hk => match k, hk with | 0, _ => rfl | 1, _ => rfl | 2, _ => rfl | k + 3, hk => absurd hk (by show ¬ k + 3 < 3; omega))) ?_
 refine go [.N] (k := ?_)
 refine sp (Stp.buildSlice (ys := [.v (iv (-1)), .v (iv (-1)), .v (iv (-1)), .v (iv (-1))]) rfl (by decide) (by decide) rfl (by decide) rfl rfl rfl (nodup_of rfl)) ?_
 refine go [.N] (k := ?_)
 refine AWL.rep 3 (tr (List.replicate 4 (-1 : Int))) rfl (sim_row1 rfl rfl rfl (fun k hk => match k, hk with | 0, _ => rfl | 1, _ => rfl | 2, _ => rfl | 3, _ => rfl | k + 4, hk => absurd hk (by show ¬ k + 4 < 4; omega))) ?_
 refine go [.N,.u,.s,.Z] (k := ?_)
 refine AW.ret (endQ_ret (.cons (.cellG 0 108 rfl rfl rfl ag108 sz108 (by decide)) .nil) ?_)
 refine ⟨fun i => if i = 0 then 1 else if i = 1 then 2 else 3, rfl, nodup_of rfl, ?_⟩
 intro r hr
 simp only [List.mem_cons, List.not_mem_nil, or_false] at hr
 rcases hr with rfl | rfl | rfl <;> exact ⟨by simp, rootL_mem rfl⟩
theorem noPt_con : Con Tryz.prog 47 [] [] (Ret (.h 0 []) [(0, .row, tr (List.replicate 3 (-1 : Int)))]) := by
 refine ob Tryz.func47 Tryz.ntmps47 ?_
 refine go [.R,.a,.Z,.R,.S] (k := ?_)
 refine AWL.rep 1 (tr [(-1 : Int)]) rfl (sim_row1 rfl rfl rfl (fun k hk => match k, hk with | 0, _ => rfl | k + 1, hk => absurd hk (by show ¬ k + 1 < 1; omega))) ?_
 refine go [.N] (k := ?_)
 refine sp (Stp.callR rfl (by decide) Tryz.call165 rfl rfl (rep_3_con (-1)) (nodup_of rfl) rfl rfl) ?_
 refine go [.N,.a,.Z] (k := ?_)
 refine rt1 0 ?_
 refine ⟨fun _ => 2, rfl, nodup_of rfl, ?_⟩
 intro r hr
 cases List.mem_singleton.1 hr
 exact ⟨by simp, rootL_mem rfl⟩
theorem noFds_con : Con Tryz.prog 276 [] [] (Ret (.h 0 []) [(0, .row, tr (List.replicate 4 (-1 : Int)))]) := by
 refine ob Tryz.func276 Tryz.ntmps276 ?_
 refine go [.R,.a,.Z,.R,.S] (k := ?_)
 refine AWL.rep 1 (tr [(-1 : Int)]) rfl (sim_row1 rfl rfl rfl (fun k hk => match k, hk with | 0, _ => rfl | k + 1, hk => absurd hk (by show ¬ k + 1 < 1; omega))) ?_
 refine go [.N] (k := ?_)
 refine sp (Stp.callR rfl (by decide) Tryz.call165 rfl rfl (rep_4_con (-1)) (nodup_of rfl) rfl rfl) ?_
 refine go [.N,.a,.Z] (k := ?_)
 refine rt1 0 ?_
 refine ⟨fun _ => 2, rfl, nodup_of rfl, ?_⟩
 intro r hr
 cases List.mem_singleton.1 hr
 exact ⟨by simp, rootL_mem rfl⟩
theorem noSlot_con : Con Tryz.prog 163 [] [] (Ret (.g [.v (.bool noSlotD.Used), .v (iv noSlotD.Pid), .v (iv noSlotD.Parent), .v (iv noSlotD.State), .v (iv noSlotD.Prog), .v (iv noSlotD.Pc), .v (iv noSlotD.Until), .v (iv noSlotD.Code), .h 0 [], .h 1 [], .h 2 []]) [(0, .row, tr noSlotD.Regs), (1, .row, tr noSlotD.Pt), (2, .row, tr noSlotD.Fds)]) := by
 refine ob Tryz.func163 Tryz.ntmps163 ?_
 refine go [.R,.A,.Z] (k := ?_)
 refine AW.seq ?_
 refine go [.D [3]] (k := ?_)
 apply AWA.cutS #[true, true, true, true, false] [3]
 ·intro K1_1
  apply AWA.cutS #[true, true, false, false, false] []
  ·intro K1_0
   refine AWA.anyL [0, 1] (by decide +kernel) rfl ⟨?_, ?_, trivial⟩
   ·refine AWA.arm 0 [] [] rfl rfl rfl (by decide +kernel) (by decide +kernel) (by decide +kernel) (Stp.makeSlice rfl (by decide) (by decide) rfl rfl (by omega) (by omega) (by omega)) ?_
    refine go [.N] (k := ?_)
    refine AWA.one 1 [] [] (by decide +kernel) rfl rfl rfl (by decide +kernel) (by decide +kernel) (by decide +kernel) (Stp.callR rfl (by decide) Tryz.call47 rfl rfl noPt_con (nodup_of rfl) rfl rfl) ?_
    refine go [.N] (k := ?_)
    exact auR K1_0
   ·refine AWA.arm 1 [] [] rfl rfl rfl (by decide +kernel) (by decide +kernel) (by decide +kernel) (Stp.callR rfl (by decide) Tryz.call47 rfl rfl noPt_con (nodup_of rfl) rfl rfl) ?_
    refine go [.N] (k := ?_)
    refine AWA.anyL [0, 2] (by decide +kernel) rfl ⟨?_, ?_, trivial⟩
    ·refine AWA.arm 0 [] [] rfl rfl rfl (by decide +kernel) (by decide +kernel) (by decide +kernel) (Stp.makeSlice rfl (by decide) (by decide) rfl rfl (by omega) (by omega) (by omega)) ?_
     refine go [.N] (k := ?_)
     exact auP K1_0
    ·refine AWA.arm 2 [] [1] rfl rfl rfl (by decide +kernel) (by decide +kernel) (by decide +kernel) (Stp.callR rfl (by decide) Tryz.call276 rfl rfl noFds_con (nodup_of rfl) rfl rfl) ?_
     refine go [.N] (k := ?_)
     refine AWA.one 0 [] [] (by decide +kernel) rfl rfl rfl (by decide +kernel) (by decide +kernel) (by decide +kernel) (Stp.makeSlice rfl (by decide) (by decide) rfl rfl (by omega) (by omega) (by omega)) ?_
     refine go [.N] (k := ?_)
     refine AWA.take 3 rfl rfl rfl (by decide +kernel) (.on rfl rfl (Qt.build rfl)) ?_
     refine go [.N] (k := ?_)
     exact auR K1_1
  ·refine AWA.one 2 [] [1] (by decide +kernel) rfl rfl rfl (by decide +kernel) (by decide +kernel) (by decide +kernel) (Stp.callR rfl (by decide) Tryz.call276 rfl rfl noFds_con (nodup_of rfl) rfl rfl) ?_
   refine go [.N] (k := ?_)
   refine AWA.take 3 rfl rfl rfl (by decide +kernel) (.on rfl rfl (Qt.build rfl)) ?_
   refine go [.N] (k := ?_)
   exact auP K1_1
 ·refine AWA.one 4 [] [3, 2, 1, 0] (by decide +kernel) rfl rfl rfl (by decide +kernel) (by decide +kernel) (by decide +kernel) (by first | exact Stp.storeA rfl rfl rfl rfl (by decide) rfl | exact Stp.store rfl rfl (by simp) rfl rfl rfl (by decide) rfl) ?_
  refine go [.N,.Z] (k := ?_)
  refine AW.rep 1 (tr (List.replicate 4 (0 : Int))) rfl (simz_rep 4) ?_
  refine AW.ret (endQ_ret (.cons (.cellG 0 108 rfl rfl rfl ag108 sz108 (by decide)) .nil) ?_)
  refine ⟨fun i => if i = 0 then 1 else if i = 1 then 2 else 3, rfl, nodup_of rfl, ?_⟩
  intro r hr
  simp only [List.mem_cons, List.not_mem_nil, or_false] at hr
  rcases hr with rfl | rfl | rfl <;> exact ⟨by simp, rootL_mem rfl⟩
end Go.Proofs.YthjfgpkjooaahaaGreat.VM

