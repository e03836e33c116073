/- Contracts of functions of the program. No conditions beyond those that each states. -/
import Derived.Test.YtfbefcmeghpalaaCLA
set_option linter.all false
namespace Go.Proofs.Ytfbefcmeghpalaa.VM
open Go Go.RowKit Go.Proofs
set_option maxHeartbeats 8000000 in
set_option maxRecDepth 10000 in
theorem BootS_con (l : List (List DIns)) (hw : Mk.wt l ≤ 1048576) : Con Try.prog 15 [.h base []] [.rt base .ro (tr l)] (Ret (.t [.g [.v (iv (bootU l).Next), .v (iv (bootU l).Tick), .h 0 [], .h 1 [], .h 2 [], .h 3 [], .h 4 [], .h 5 [], .h 6 []], .v (.bool (progsOk l))]) [(0, .row, tr (bootU l).Progs), (1, .row, tr (bootU l).Procs), (2, .row, tr (bootU l).Opens), (3, .row, tr (bootU l).Pipes), (4, .row, tr (bootU l).Files), (5, .row, tr (bootU l).Ready), (6, .row, tr (bootU l).Out)]) := by
 refine Con.of_body Try.func15 rfl (by simp) ?_
 rw [Try.ntmps15]
 refine AW.len (base) [] rfl (by simp [Okp]) rfl (fun hl => ?_)
 have hbd := rowsG_bd hw
 refine AW.seq (AW.region ?_)
 refine sp (Stp.alloc rfl (by decide) (by decide)) ?_
 refine nm ?_
 refine qq Qt.assign ?_
 refine nl ?_
 refine AW.seq (AW.seq (AW.region ?_))
 refine qq Qt.move ?_
 refine cv Try.call39 rfl rfl (l6Progs_con l) ?_
 refine nm ?_
 refine qq (Qt.notB rfl) ?_
 refine nl ?_
 refine AW.cond rfl (fun c1 => ?_) (fun c1 => ?_)
 ·have k1 := c1
  try simp only [cnd] at c1
  refine AW.seq (AW.region ?_)
  refine qq (Qt.build rfl) ?_
  refine ss ?_
  refine nm ?_
  refine qq Qt.assign ?_
  refine nl ?_
  refine AW.weak (Weak.hoist 2 2 902 rfl (by decide) rfl rfl rfl) ?_
  refine AW.rep 902 (tr ([] : List (List DIns))) rfl sim_nil ?_
  refine AW.weak (Weak.hoist 2 3 903 rfl (by decide) rfl rfl rfl) ?_
  refine AW.rep 903 (tr ([] : List DProc)) rfl sim_nil ?_
  refine AW.weak (Weak.hoist 2 4 904 rfl (by decide) rfl rfl rfl) ?_
  refine AW.rep 904 (tr ([] : List DOpen)) rfl sim_nil ?_
  refine AW.weak (Weak.hoist 2 5 905 rfl (by decide) rfl rfl rfl) ?_
  refine AW.rep 905 (tr ([] : List DPipe)) rfl sim_nil ?_
  refine AW.weak (Weak.hoist 2 6 906 rfl (by decide) rfl rfl rfl) ?_
  refine AW.rep 906 (tr ([] : List DFile)) rfl sim_nil ?_
  refine AW.weak (Weak.hoist 2 7 907 rfl (by decide) rfl rfl rfl) ?_
  refine AW.rep 907 (tr ([] : List Int)) rfl sim_nil ?_
  refine AW.weak (Weak.hoist 2 8 908 rfl (by decide) rfl rfl rfl) ?_
  refine AW.rep 908 (tr ([] : List Int)) rfl sim_nil ?_
  refine AW.ret (endQ_ret (.cons (.cellG 2 45 rfl rfl rfl ag45 sz45 (by decide)) (.cons (.tmp 3) .nil)) ?_)
  have hb : progsOk l = false := by first | (simp only [progsOk]; grind) | grind
  rw [show bootU l = zeroU from if_neg (by rw [hb]; decide), hb]
  refine ⟨fun i => if i = 0 then 902 else if i = 1 then 903 else if i = 2 then 904 else if i = 3 then 905 else if i = 4 then 906 else if i = 5 then 907 else 908, rfl, nodup_of rfl, ?_⟩
  intro r hr
  simp only [List.mem_cons, List.not_mem_nil, or_false] at hr
  rcases hr with rfl | rfl | rfl | rfl | rfl | rfl | rfl <;> exact ⟨by simp, rootL_mem rfl⟩
 have k1 := c1
 try simp only [cnd] at c1
 refine jd (AW.seq (AW.region ?_))
 refine sp (Stp.buildSlice rfl (by decide) (by decide) rfl (by decide) rfl rfl rfl (nodup_of rfl)) ?_
 refine nm ?_
 refine qq (Qt.build rfl) ?_
 refine sp (Stp.buildSlice rfl (by decide) (by decide) rfl (by decide) rfl rfl rfl (nodup_of rfl)) ?_
 refine nm ?_
 refine qq (Qt.build rfl) ?_
 refine sp (Stp.alloc rfl (by decide) (by decide)) ?_
 refine nm ?_
 refine ss ?_
 refine nl ?_
 refine AW.seq (AW.seq (AW.region ?_))
 refine qq Qt.assign ?_
 refine nl ?_
 refine AW.block ?_
 refine AW.weak (Weak.hoist 4 2 29 rfl (by decide) rfl rfl rfl) ?_
 refine AW.weak (Weak.hoist 4 5 905 rfl (by decide) rfl rfl rfl) ?_
 refine AW.rep 905 (tr ([] : List DPipe)) rfl sim_nil ?_
 refine AW.weak (Weak.hoist 4 6 906 rfl (by decide) rfl rfl rfl) ?_
 refine AW.rep 906 (tr ([] : List DFile)) rfl sim_nil ?_
 refine AW.weak (Weak.hoist 4 8 908 rfl (by decide) rfl rfl rfl) ?_
 refine AW.rep 908 (tr ([] : List Int)) rfl sim_nil ?_
 refine AW.rep 12 (tr [(⟨0, 1, 0, 0, 2⟩ : DOpen)]) rfl (sim_one (fun c hc => match c, hc with | 0, _ => T.sim_refl _ | 1, _ => T.sim_refl _ | 2, _ => T.sim_refl _ | 3, _ => T.sim_refl _ | 4, _ => T.sim_refl _ | c + 5, hc => absurd hc (by simp only [En.n]; omega))) ?_
 refine AW.rep 10 (tr [(1 : Int)]) rfl (sim_one (fun c hc => match c, hc with | 0, _ => rfl | c + 1, hc => absurd hc (by simp only [En.n]; omega))) ?_
 refine AW.weak (L' := [.sl 5 (.v (iv (0 : Nat))), .sl 4 (.p 4 [] 9 0 0), .sl 2 (.p 2 [] 9 0 0), .sl 0 (.h base []), .rt base .ro (tr l), .rt 4 .box (T.s 9 1 fun _ c => [T.v (iv 2), T.v (iv 0), .j, T.s 10 0 fun _ _ => T.j, .j, .j, .j, .j, .j].getD c T.j), .rt 2 .box (T.s 9 1 fun _ c => [T.v (iv 0), T.v (iv 0), T.s 1 0 fun _ _ => T.j, T.s 10 0 fun _ _ => T.j, T.s 5 0 fun _ _ => T.j, T.s 2 0 fun _ _ => T.j, T.s 2 0 fun _ _ => T.j, T.s 1 0 fun _ _ => T.j, T.s 1 0 fun _ _ => T.j].getD c T.j), .al 4 2 (.h 29 []), .rt 29 .row (tr (l.take (0 : Nat))), .al 4 4 (.h 12 []), .rt 12 .row (tr [(⟨0, 1, 0, 0, 2⟩ : DOpen)]), .al 4 5 (.h 905 []), .rt 905 .row (tr ([] : List DPipe)), .al 4 6 (.h 906 []), .rt 906 .row (tr ([] : List DFile)), .al 4 7 (.h 10 []), .rt 10 .row (tr [(1 : Int)]), .al 4 8 (.h 908 []), .rt 908 .row (tr ([] : List Int))]) (Weak.sim ⟨rfl, rfl, rfl, rfl, Rf rfl, ⟨_, rfl, (T.sim_of (fun k c hk hc => by
 obtain rfl : k = 0 := by omega
 match c, hc with | 0, _ => rfl | 1, _ => rfl | 2, _ => rfl | 3, _ => rfl | 4, _ => rfl | 5, _ => rfl | 6, _ => rfl | 7, _ => rfl | 8, _ => rfl | c + 9, hc => exact absurd hc (by omega)))⟩, Rf rfl, ⟨rfl, rfl⟩, ⟨_, rfl, sim_nil⟩, ⟨rfl, rfl⟩, Rf rfl, ⟨rfl, rfl⟩, Rf rfl, ⟨rfl, rfl⟩, Rf rfl, ⟨rfl, rfl⟩, Rf rfl, ⟨rfl, rfl⟩, Rf rfl, trivial⟩ rfl rfl) ?_
 refine AW.loop (fun i : KInv l.length => [.sl 5 (.v (iv i.k)), .sl 4 (.p 4 [] 9 0 0), .sl 2 (.p 2 [] 9 0 0), .sl 0 (.h base []), .rt base .ro (tr l), .rt 4 .box (T.s 9 1 fun _ c => [T.v (iv 2), T.v (iv 0), .j, T.s 10 0 fun _ _ => T.j, .j, .j, .j, .j, .j].getD c T.j), .rt 2 .box (T.s 9 1 fun _ c => [T.v (iv 0), T.v (iv 0), T.s 1 0 fun _ _ => T.j, T.s 10 0 fun _ _ => T.j, T.s 5 0 fun _ _ => T.j, T.s 2 0 fun _ _ => T.j, T.s 2 0 fun _ _ => T.j, T.s 1 0 fun _ _ => T.j, T.s 1 0 fun _ _ => T.j].getD c T.j), .al 4 2 (.h 29 []), .rt 29 .row (tr (l.take i.k)), .al 4 4 (.h 12 []), .rt 12 .row (tr [(⟨0, 1, 0, 0, 2⟩ : DOpen)]), .al 4 5 (.h 905 []), .rt 905 .row (tr ([] : List DPipe)), .al 4 6 (.h 906 []), .rt 906 .row (tr ([] : List DFile)), .al 4 7 (.h 10 []), .rt 10 .row (tr [(1 : Int)]), .al 4 8 (.h 908 []), .rt 908 .row (tr ([] : List Int))]) (fun i => l.length - i.k) ⟨0, Nat.zero_le _⟩ ?_
 intro i
 have hle := i.le
 refine AW.seq (AW.seq (AW.region ?_))
 refine qq Qt.move ?_
 refine nm ?_
 refine qq Qt.move ?_
 refine qq (Qt.lenH rfl rfl rfl sl39) ?_
 refine qq (Qt.binOp rfl rfl rfl) ?_
 refine nl ?_
 refine AW.cond rfl (fun c2 => ?_) (fun c2 => ?_)
 ·have k2 := c2
  try simp only [cnd] at c2
  have hik := hbd.2 i.k (by omega)
  have htl : (l.take i.k).length ≤ 1048576 := by rw [List.length_take]; omega
  refine jd (AW.seq (AW.block ?_))
  refine AW.draw [0, 1, 3, 4, 5, 6, 10] rfl (by decide +kernel) ?_
  refine tk 0 rfl (fA fl45_2) ?_
  refine na ?_
  refine tk 1 rfl (Qt.load1 rfl rfl rfl ag39) ?_
  refine tk 3 rfl Qt.move ?_
  refine tk 4 rfl Qt.move ?_
  refine na ?_
  refine tk 5 rfl (Qt.indexAddr rfl rfl rfl rfl sl39 sz73 (by decide) (by first | omega | simp)) ?_
  refine tk 6 rfl (Qt.load1 rfl rfl rfl ag73) ?_
  refine a1 2 [0, 1, 3, 4, 5, 6] [] rfl rfl (Stp.buildSlice rfl (by decide) (by decide) rfl (by decide) rfl rfl rfl (nodup_of rfl)) ?_
  refine na ?_
  refine AWA.againE rfl rfl (by decide +kernel) (.on rfl rfl (fA fl45_2)) rfl ?_
  refine AWA.againE rfl rfl (by decide +kernel) (.on rfl rfl (Qt.load1 rfl rfl rfl ag39)) rfl ?_
  refine AWA.againE rfl rfl (by decide +kernel) (.on rfl rfl Qt.move) rfl ?_
  refine AWA.againE rfl rfl (by decide +kernel) (.on rfl rfl Qt.move) rfl ?_
  refine AWA.againE rfl rfl (by decide +kernel) (.on rfl rfl (Qt.indexAddr rfl rfl rfl rfl sl39 sz73 (by decide) (by first | omega | simp))) rfl ?_
  refine AWA.againE rfl rfl (by decide +kernel) (.on rfl rfl (Qt.load1 rfl rfl rfl ag73)) rfl ?_
  refine na ?_
  refine a1 7 [0, 1] [6, 2, 5, 4, 3] rfl rfl (by first | exact Stp.appendC rfl (by decide) (by decide) rfl rfl (by omega) | exact Stp.appendM rfl (by decide) (by decide) rfl rfl rfl (by omega)) ?_
  refine na ?_
  refine AWA.againE rfl rfl (by decide +kernel) (.on rfl rfl (fA fl45_2)) rfl ?_
  refine AWA.againE rfl rfl (by decide +kernel) (.on rfl rfl (Qt.load1 rfl rfl rfl ag39)) rfl ?_
  refine na ?_
  refine AWA.rep 27 (tr (l.getD i.k En.dflt)) rfl (app_nil (α := DIns)) ?_
  refine na ?_
  refine a1 8 [0, 1] [7, 6, 2, 5, 4, 3] rfl rfl (Stp.buildSlice rfl (by decide) (by decide) rfl (by decide) rfl rfl rfl (nodup_of rfl)) ?_
  refine na ?_
  refine AWA.againE rfl rfl (by decide +kernel) (.on rfl rfl (fA fl45_2)) rfl ?_
  refine AWA.againE rfl rfl (by decide +kernel) (.on rfl rfl (Qt.load1 rfl rfl rfl ag39)) rfl ?_
  refine na ?_
  refine a1 9 [] [8, 7, 1, 6, 2, 0, 5, 4, 3] rfl rfl (Stp.appendM rfl (by decide) (by decide) rfl rfl rfl (by omega)) ?_
  refine na ?_
  refine na ?_
  refine tk 10 rfl (fA fl45_2) ?_
  refine a1 11 [] [10, 9, 8, 7, 6, 5, 4, 3, 2, 1, 0] rfl rfl (by first | exact Stp.storeA rfl rfl rfl rfl (by decide) rfl | exact Stp.store rfl rfl (by simp) rfl rfl rfl (by decide) rfl) ?_
  refine na ?_
  refine na ?_
  refine nz ?_
  refine AW.region ?_
  refine qq Qt.move ?_
  refine qq (Qt.binOp rfl rfl (by first | exact pbAdd (by omega) | rfl)) ?_
  refine qq Qt.assign ?_
  refine nl ?_
  refine ⟨⟨i.k + 1, by omega⟩, Weak.sim ⟨st1, rfl, rfl, rfl, Rf rfl, ⟨_, rfl, (T.sim_of (fun k c hk hc => by
   obtain rfl : k = 0 := by omega
   match c, hc with | 0, _ => rfl | 1, _ => rfl | 2, _ => rfl | 3, _ => rfl | 4, _ => rfl | 5, _ => rfl | 6, _ => rfl | 7, _ => rfl | 8, _ => rfl | c + 9, hc => exact absurd hc (by omega)))⟩, Rf rfl, ⟨rfl, rfl⟩, ⟨_, rfl, app_rowG (by omega) rfl⟩, ⟨rfl, rfl⟩, Rf rfl, ⟨rfl, rfl⟩, Rf rfl, ⟨rfl, rfl⟩, Rf rfl, ⟨rfl, rfl⟩, Rf rfl, ⟨rfl, rfl⟩, Rf rfl, trivial⟩ rfl rfl, ?_⟩
  show l.length - (i.k + 1) < l.length - i.k
  omega
 have k2 := c2
 try simp only [cnd] at c2
 refine AW.exit ?_
 dsimp only [thenQ, blockQ, reduceIte]
 refine AW.seq (AW.region ?_)
 refine sp (Stp.callR rfl (by decide) Try.call40 rfl rfl l6Zeros_con (nodup_of rfl) rfl rfl) ?_
 refine nm ?_
 refine qq (Qt.build rfl) ?_
 refine sp (Stp.callR rfl (by decide) Try.call40 rfl rfl l6Zeros_con (nodup_of rfl) rfl rfl) ?_
 refine nm ?_
 refine sp (Stp.buildSlice (ys := [.v (iv 0), .v (iv 0), .v (iv (-1)), .v (iv (-1))]) rfl (by decide) (by decide) rfl (by decide) rfl rfl rfl (nodup_of rfl)) ?_
 refine nm ?_
 refine qq (Qt.build rfl) ?_
 refine sp (Stp.buildSlice rfl (by decide) (by decide) rfl (by decide) rfl rfl rfl (nodup_of rfl)) ?_
 refine nm ?_
 refine qq (fA fl45_3) ?_
 refine ss ?_
 refine nl ?_
 refine AW.seq (AW.region ?_)
 refine qq (Qt.loadG rfl rfl rfl ag45 sz45 (by decide)) ?_
 refine nm ?_
 refine ss ?_
 refine nm ?_
 refine qq Qt.assign ?_
 refine nl ?_
 refine AW.rep 29 (tr l) rfl (by rw [List.take_of_length_le (by omega)]; exact T.sim_refl _) ?_
 refine AW.rep 36 (tr [(⟨1, 0, 1, 0, ⟨0, [0, 0, 0, 0]⟩, [0, 0, 0, 0], [0, 0, -1, -1], 0, 0⟩ : DProc)]) rfl (sim_one (fun c hc => match c, hc with | 0, _ => T.sim_refl _ | 1, _ => T.sim_refl _ | 2, _ => T.sim_refl _ | 3, _ => T.sim_refl _ | 4, _ => T.sim_refl _ | 5, _ => T.sim_refl _ | 6, _ => T.sim_refl _ | 7, _ => fds2 rfl rfl rfl rfl | 8, _ => T.sim_refl _ | 9, _ => T.sim_refl _ | c + 10, hc => absurd hc (by simp only [En.n]; omega))) ?_
 refine AW.ret (endQ_ret (.cons (.cellG 2 45 rfl rfl rfl ag45 sz45 (by decide)) (.cons (.tmp 3) .nil)) ?_)
 have hb : progsOk l = true := by first | (simp only [progsOk]; grind) | grind
 rw [show bootU l = _ from if_pos hb, hb]
 refine ⟨fun i => if i = 0 then 29 else if i = 1 then 36 else if i = 2 then 12 else if i = 3 then 905 else if i = 4 then 906 else if i = 5 then 10 else 908, rfl, nodup_of rfl, ?_⟩
 intro r hr
 simp only [List.mem_cons, List.not_mem_nil, or_false] at hr
 rcases hr with rfl | rfl | rfl | rfl | rfl | rfl | rfl <;> exact ⟨by simp, rootL_mem rfl⟩
end Go.Proofs.Ytfbefcmeghpalaa.VM
