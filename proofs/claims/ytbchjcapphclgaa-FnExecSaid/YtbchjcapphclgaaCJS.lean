/- Contracts of functions of the program. No conditions beyond those that each states. -/
import Derived.Test.YtbchjcapphclgaaCJR
set_option linter.all false
namespace Go.Proofs.Ytbchjcapphclgaa.VM
open Go Go.RowKit Go.Proofs
set_option maxHeartbeats 4000000 in
set_option maxRecDepth 10000 in
theorem cloneI_con (l : List Int) (hs : l.length ≤ 4194304) : Con Try.prog 49 [.h base []] [.rt base .ro (tr l)] (Ret (.h 0 []) [(0, .row, tr l)]) := by
 refine Con.of_body Try.func49 rfl (by simp) ?_
 rw [Try.ntmps49]
 refine AW.seq (AW.region ?_)
 refine qq Qt.assign ?_
 refine nl ?_
 refine AW.seq (AW.seq (AW.region ?_))
 refine qq Qt.move ?_
 refine AWL.nilTest rfl rfl rfl (by decide) rfl rfl rfl sl34 ?_
 intro b1 hb1
 refine nl ?_
 refine AW.cond rfl (fun c2 => ?_) (fun c2 => ?_)
 ·have k2 := c2
  try simp only [cnd] at c2
  refine AW.seq (AW.region ?_)
  refine qq Qt.assign ?_
  refine nl ?_
  have hl0 : l = [] := List.eq_nil_of_length_eq_zero (hb1 c2)
  subst hl0
  refine AW.nilRow 2 900 1 (by omega) rfl rfl (by decide) ?_
  refine AW.rep 900 (tr ([] : List Int)) rfl sim_nil ?_
  refine AW.ret (endQ_ret (.cons (.tmp 2) .nil) ?_)
  refine ⟨fun _ => 900, rfl, nodup_of rfl, ?_⟩
  intro r hr
  cases List.mem_singleton.1 hr
  exact ⟨by simp, rootL_mem rfl⟩
 have k2 := c2
 try simp only [cnd] at c2
 refine jd (AW.seq (AW.region ?_))
 refine sp (Stp.buildSlice rfl (by decide) (by decide) rfl (by decide) rfl rfl rfl (nodup_of rfl)) ?_
 refine nm ?_
 refine qq Qt.move ?_
 refine sp (by first | exact Stp.appendC rfl (by decide) (by decide) rfl rfl (by omega) | exact Stp.appendM rfl (by decide) (by decide) rfl rfl rfl (by omega)) ?_
 refine nm ?_
 refine qq Qt.assign ?_
 refine nl ?_
 refine AW.rep 7 (tr l) rfl (app_nil (α := Int)) ?_
 refine AW.ret (endQ_ret (.cons (.tmp 2) .nil) ?_)
 refine ⟨fun _ => 7, rfl, nodup_of rfl, ?_⟩
 intro r hr
 cases List.mem_singleton.1 hr
 exact ⟨by simp, rootL_mem rfl⟩
set_option maxHeartbeats 4000000 in
set_option maxRecDepth 10000 in
theorem cloneCpu_con (c : DCpu) (hs : c.Regs.length ≤ 4194304) : Con Try.prog 32 [.g [.v (iv c.Pc), .h base []]] [.rt base .ro (tr c.Regs)] (Ret (.g [.v (iv c.Pc), .h 0 []]) [(0, .row, tr c.Regs)]) := by
 refine Con.of_body Try.func32 rfl (by simp) ?_
 rw [Try.ntmps32]
 refine AW.seq (AW.region ?_)
 refine sp (Stp.boxB rfl (by decide) (by decide) rfl rfl rfl rfl) ?_
 refine nm ?_
 refine sp (Stp.alloc rfl (by decide) (by decide)) ?_
 refine nl ?_
 refine AW.seq ?_
 refine AW.draw [0, 1, 2, 3, 5] rfl (by decide +kernel) ?_
 refine tk 0 rfl (fA fl36_0) ?_
 refine na ?_
 refine tk 1 rfl (Qt.load1 rfl rfl rfl ag3) ?_
 refine tk 2 rfl (fA fl36_1) ?_
 refine tk 3 rfl (Qt.load1 rfl rfl rfl ag34) ?_
 refine na ?_
 refine a1 4 [0, 1] [3, 2] rfl rfl (Stp.callR rfl (by decide) Try.call49 rfl rfl (cloneI_con _ (by omega)) (nodup_of rfl) rfl rfl) ?_
 refine na ?_
 refine AWA.againE rfl rfl (by decide +kernel) (.on rfl rfl (fA fl36_0)) rfl ?_
 refine AWA.againE rfl rfl (by decide +kernel) (.on rfl rfl (Qt.load1 rfl rfl rfl ag3)) rfl ?_
 refine na ?_
 refine tk 5 rfl (Qt.build rfl) ?_
 refine a1 6 [] [5, 4, 3, 2, 1, 0] rfl rfl (by first | exact Stp.storeA rfl rfl rfl rfl (by decide) rfl | exact Stp.store rfl rfl (by simp) rfl rfl rfl (by decide) rfl) ?_
 refine na ?_
 refine na ?_
 refine nz ?_
 refine AW.ret (endQ_ret (.cons (.cellG 2 36 rfl rfl rfl ag36 sz36 (by decide)) .nil) ?_)
 refine ⟨fun _ => 7, rfl, nodup_of rfl, ?_⟩
 intro r hr
 cases List.mem_singleton.1 hr
 exact ⟨by simp, rootL_mem rfl⟩
set_option maxHeartbeats 4000000 in
set_option maxRecDepth 10000 in
theorem ExecI_con (p : List DIns) (c : DCpu) (mem : List Int) : Con Try.prog 14 [.h base [], .g [.v (iv c.Pc), .h (base + 1) []], .h (base + 2) []] [.rt base .ro (tr p), .rt (base + 1) .ro (tr c.Regs), .rt (base + 2) .ro (tr mem)] (Ret (.t [.g [.v (iv (execM p c mem).1.Pc), .h 0 []], .g [.v (iv (execM p c mem).2.Kind), .v (iv (execM p c mem).2.Addr), .v (iv (execM p c mem).2.Val), .v (iv (execM p c mem).2.Sys)]]) [(0, .row, tr (execM p c mem).1.Regs)]) := by
 refine Con.of_body Try.func14 rfl (by simp) ?_
 rw [Try.ntmps14]
 refine AW.len base [] rfl (by simp [Okp]) rfl (fun hl => ?_)
 refine AW.len (base + 1) [] rfl (by simp [Okp]) rfl (fun hcl => ?_)
 refine AW.len (base + 2) [] rfl (by simp [Okp]) rfl (fun hml => ?_)
 refine AW.seq (AW.region ?_)
 refine sp (Stp.boxB rfl (by decide) (by decide) rfl rfl rfl rfl) ?_
 refine nm ?_
 refine sp (Stp.alloc rfl (by decide) (by decide)) ?_
 refine nm ?_
 refine sp (Stp.alloc rfl (by decide) (by decide)) ?_
 refine nl ?_
 refine AW.seq (AW.region ?_)
 refine qq (Qt.build rfl) ?_
 refine nm ?_
 refine sp (Stp.alloc rfl (by decide) (by decide)) ?_
 refine nm ?_
 refine ss ?_
 refine nl ?_
 refine AW.seq (AW.seq (AW.region ?_))
 refine qq Qt.move ?_
 refine nm ?_
 refine cv Try.call29 rfl rfl (ProgOkI_con _) ?_
 refine nm ?_
 refine qq (Qt.notB rfl) ?_
 refine qq Qt.move ?_
 apply AWL.cut 3
 ·intro Kg1
  refine AWL.splitF 18 rfl (fun g1 => ?_) (fun g1 => ?_)
  ·refine qg (nF g1) (Qt.loadG rfl rfl rfl ag36 sz36 (by decide)) ?_
   refine nm ?_
   refine AWL.step rfl (nF g1) (Stp.callV rfl (by decide) Try.call30 rfl rfl (CpuOkI_con _ _ hcl)) ?_
   refine nm ?_
   refine qg (nF g1) (Qt.notB rfl) ?_
   exact wj 21 [19, 20, 21] (ifF g1 _ undef) (by simp only [go_sem, Int.reduceToNat, Nat.reduceLT, reduceIte, Nat.reduceEqDiff, Nat.reduceAdd, Nat.reduceMul, Nat.reduceBEq, reduceCtorEq]; rfl) Kg1
  ·refine og (nT g1) ?_
   refine og (nT g1) ?_
   refine og (nT g1) ?_
   exact wj 21 [19, 20, 21] (ifT g1 undef _) (by simp only [go_sem, Int.reduceToNat, Nat.reduceLT, reduceIte, Nat.reduceEqDiff, Nat.reduceAdd, Nat.reduceMul, Nat.reduceBEq, reduceCtorEq]) Kg1
 refine qq (Qt.pickOr rfl rfl rfl) ?_
 refine qq Qt.move ?_
 refine nm ?_
 apply AWL.cut 3
 ·intro Kg2
  refine AWL.splitF 23 rfl (fun g2 => ?_) (fun g2 => ?_)
  ·refine qg (nF g2) Qt.move ?_
   refine qg (nF g2) (Qt.lenH rfl rfl rfl sl34) ?_
   refine qg (nF g2) (Qt.binOp rfl rfl rfl) ?_
   refine nm ?_
   exact wj 26 [24, 25, 26] (ifF g2 _ undef) (by simp only [go_sem, Int.reduceToNat, Nat.reduceLT, reduceIte, Nat.reduceEqDiff, Nat.reduceAdd, Nat.reduceMul, Nat.reduceBEq, reduceCtorEq]; rfl) Kg2
  ·refine og (nT g2) ?_
   refine og (nT g2) ?_
   refine og (nT g2) ?_
   exact wj 26 [24, 25, 26] (ifT g2 undef _) (by simp only [go_sem, Int.reduceToNat, Nat.reduceLT, reduceIte, Nat.reduceEqDiff, Nat.reduceAdd, Nat.reduceMul, Nat.reduceBEq, reduceCtorEq]) Kg2
 refine qq (Qt.pickOr rfl rfl rfl) ?_
 refine qq Qt.move ?_
 apply AWL.cut 3
 ·intro Kg3
  refine AWL.splitF 28 rfl (fun g3 => ?_) (fun g3 => ?_)
  ·refine qg (nF g3) Qt.move ?_
   refine nm ?_
   refine AWL.step rfl (nF g3) (Stp.callV rfl (by decide) Try.call31 rfl rfl (wordsOk_con _ hml)) ?_
   refine nm ?_
   refine qg (nF g3) (Qt.notB rfl) ?_
   exact wj 31 [29, 30, 31] (ifF g3 _ undef) (by simp only [go_sem, Int.reduceToNat, Nat.reduceLT, reduceIte, Nat.reduceEqDiff, Nat.reduceAdd, Nat.reduceMul, Nat.reduceBEq, reduceCtorEq]; rfl) Kg3
  ·refine og (nT g3) ?_
   refine og (nT g3) ?_
   refine og (nT g3) ?_
   exact wj 31 [29, 30, 31] (ifT g3 undef _) (by simp only [go_sem, Int.reduceToNat, Nat.reduceLT, reduceIte, Nat.reduceEqDiff, Nat.reduceAdd, Nat.reduceMul, Nat.reduceBEq, reduceCtorEq]) Kg3
 refine qq (Qt.pickOr rfl rfl rfl) ?_
 refine nl ?_
 refine AW.cond rfl (fun c4 => ?_) (fun c4 => ?_)
 ·have k4 := c4
  have hx : execOk p c mem = false := (execOk_eq p c mem).trans (congrArg not c4)
  have hm : execM p c mem = (⟨0, []⟩, didFault) := by unfold execM; rw [hx]; rfl
  refine AW.seq ?_
  refine AW.draw [0, 1] rfl (by decide +kernel) ?_
  refine tk 0 rfl (Qt.build rfl) ?_
  refine na ?_
  refine tk 1 rfl (Qt.loadG rfl rfl rfl ag40 sz40 (by decide)) ?_
  refine a1 2 [1] [0] rfl rfl (by first | exact Stp.storeA rfl rfl rfl rfl (by decide) rfl | exact Stp.store rfl rfl (by simp) rfl rfl rfl (by decide) rfl) ?_
  refine na ?_
  refine AWA.againE rfl rfl (by decide +kernel) (.on rfl rfl (Qt.loadG rfl rfl rfl ag40 sz40 (by decide))) rfl ?_
  refine na ?_
  refine a1 3 [] [2, 1, 0] rfl rfl (by first | exact Stp.storeA rfl rfl rfl rfl (by decide) rfl | exact Stp.store rfl rfl (by simp) rfl rfl rfl (by decide) rfl) ?_
  refine na ?_
  refine na ?_
  refine nz ?_
  refine AW.ext 6 1 900 rfl (by decide) rfl rfl (by decide) ?_
  refine AW.rep 900 (tr (execM p c mem).1.Regs) rfl (by rw [hm]; exact sim_nil) ?_
  refine AW.ret (endQ_ret (.cons (.cellG 6 36 rfl rfl rfl ag36 sz36 (by decide)) (.cons (.cellG 7 40 rfl rfl rfl ag40 sz40 (by decide)) .nil)) ?_)
  rw [hm]
  refine ⟨fun _ => 900, rfl, nodup_of rfl, ?_⟩
  intro r hr
  cases List.mem_singleton.1 hr
  exact ⟨by simp, rootL_mem rfl⟩
 have k4 := c4
 have hx : execOk p c mem = true := (execOk_eq p c mem).trans (congrArg not c4)
 have hm : execM p c mem = execC p c mem := if_pos hx
 obtain ⟨hpc, hrl, hrr, hii⟩ := execFacts hx
 refine jd (AW.seq (AW.seq (AW.region ?_)))
 refine qq (fA fl36_0) ?_
 refine qq (Qt.load1 rfl rfl rfl ag3) ?_
 refine qq Qt.move ?_
 refine nm ?_
 refine qq (Qt.lenH rfl rfl rfl sl33) ?_
 refine qq (Qt.binOp rfl rfl rfl) ?_
 refine nl ?_
 refine AW.cond rfl (fun c5 => ?_) (fun c5 => ?_)
 ·have k5 := c5
  try simp only [cnd] at c5
  refine AW.seq ?_
  refine AW.draw [0, 2] rfl (by decide +kernel) ?_
  refine tk 0 rfl (Qt.loadG rfl rfl rfl ag36 sz36 (by decide)) ?_
  refine na ?_
  refine tk 2 rfl (Qt.loadG rfl rfl rfl ag40 sz40 (by decide)) ?_
  refine a1 1 [2] [0] rfl rfl (Stp.callR rfl (by decide) Try.call32 rfl rfl (cloneCpu_con _ (by omega)) (nodup_of rfl) rfl rfl) ?_
  refine na ?_
  refine AWA.againE rfl rfl (by decide +kernel) (.on rfl rfl (Qt.loadG rfl rfl rfl ag40 sz40 (by decide))) rfl ?_
  refine na ?_
  refine a1 3 [2] [1, 0] rfl rfl (by first | exact Stp.storeA rfl rfl rfl rfl (by decide) rfl | exact Stp.store rfl rfl (by simp) rfl rfl rfl (by decide) rfl) ?_
  refine na ?_
  refine AWA.againE rfl rfl (by decide +kernel) (.on rfl rfl (Qt.loadG rfl rfl rfl ag40 sz40 (by decide))) rfl ?_
  refine na ?_
  refine a1 4 [] [3, 2, 1, 0] rfl rfl (by first | exact Stp.storeA rfl rfl rfl rfl (by decide) rfl | exact Stp.store rfl rfl (by simp) rfl rfl rfl (by decide) rfl) ?_
  refine na ?_
  refine na ?_
  refine nz ?_
  refine AW.ret (endQ_ret (.cons (.cellG 6 36 rfl rfl rfl ag36 sz36 (by decide)) (.cons (.cellG 7 40 rfl rfl rfl ag40 sz40 (by decide)) .nil)) ?_)
  rw [hm, show execC p c mem = (c, didFault) from if_pos (by omega)]
  refine ⟨fun _ => 41, rfl, nodup_of rfl, ?_⟩
  intro r hr
  cases List.mem_singleton.1 hr
  exact ⟨by simp, rootL_mem rfl⟩
 have k5 := c5
 try simp only [cnd] at c5
 have hi := hii c.Pc.toNat (by omega)
 obtain ⟨hop1, hop2, hA, hB, hC⟩ := insFacts hi
 have hRA := hrr (p.getD c.Pc.toNat En.dflt).A.toNat
 have hRB := hrr (p.getD c.Pc.toNat En.dflt).B.toNat
 have hRC := hrr (p.getD c.Pc.toNat En.dflt).C.toNat
 have hE : execC p c mem = core (p.getD c.Pc.toNat En.dflt) c mem := if_neg (by omega)
 refine jd (AW.seq (AW.region ?_))
 refine qq Qt.move ?_
 refine qq (fA fl36_0) ?_
 refine qq (Qt.load1 rfl rfl rfl ag3) ?_
 refine nm ?_
 refine qq (Qt.indexAddr rfl rfl rfl rfl sl33 sz45 (by decide) (by omega)) ?_
 refine qq (Qt.loadG rfl rfl rfl ag45 sz45 (by decide)) ?_
 refine sp (Stp.alloc rfl (by decide) (by decide)) ?_
 refine nm ?_
 refine ss ?_
 refine nl ?_
 refine AW.seq (AW.region ?_)
 refine qq (Qt.loadG rfl rfl rfl ag36 sz36 (by decide)) ?_
 refine nm ?_
 refine sp (Stp.callR rfl (by decide) Try.call32 rfl rfl (cloneCpu_con _ (by omega)) (nodup_of rfl) rfl rfl) ?_
 refine nm ?_
 refine sp (Stp.alloc rfl (by decide) (by decide)) ?_
 refine nm ?_
 refine ss ?_
 refine nl ?_
 refine AW.seq (AW.region ?_)
 refine qq (fA fl36_0) ?_
 refine nm ?_
 refine qq (Qt.load1 rfl rfl rfl ag3) ?_
 refine qq (Qt.binOp rfl rfl (by first | exact pbAdd (by omega) | rfl)) ?_
 refine qq (fA fl36_0) ?_
 refine nm ?_
 refine ss ?_
 refine nl ?_
 refine AW.seq (AW.region ?_)
 refine qq (Qt.build rfl) ?_
 refine nm ?_
 refine sp (Stp.alloc rfl (by decide) (by decide)) ?_
 refine nm ?_
 refine ss ?_
 refine nl ?_
 refine AW.seq (AW.seq (AW.region ?_))
 refine qq (fA fl45_0) ?_
 refine nm ?_
 refine qq (Qt.load1 rfl rfl rfl ag3) ?_
 refine nl ?_
 refine AW.block (AW.seq (AW.region ?_))
 refine qq (Qt.binOp rfl rfl rfl) ?_
 refine qq Qt.assign ?_
 refine nl ?_
 refine AW.cond rfl (fun c6 => ?_) (fun c6 => ?_)
 ·have k6 := c6
  try simp only [cnd] at c6
  refine AW.region ?_
  refine qq (fA fl36_1) ?_
  refine nm ?_
  refine qq (Qt.load1 rfl rfl rfl ag34) ?_
  refine qq (fA fl45_1) ?_
  refine qq (Qt.load1 rfl rfl rfl ag3) ?_
  refine nm ?_
  refine qq (fA fl45_2) ?_
  refine qq (Qt.load1 rfl rfl rfl ag3) ?_
  refine qq (Qt.indexAddr rfl rfl rfl rfl sl34 sz3 (by decide) (by omega)) ?_
  refine nm ?_
  refine ss ?_
  refine nl ?_
  refine AW.seq ?_
  refine AW.draw [0, 1] rfl (by decide +kernel) ?_
  refine tk 0 rfl (Qt.loadG rfl rfl rfl ag36 sz36 (by decide)) ?_
  refine na ?_
  refine tk 1 rfl (Qt.loadG rfl rfl rfl ag40 sz40 (by decide)) ?_
  refine a1 2 [1] [0] rfl rfl (by first | exact Stp.storeA rfl rfl rfl rfl (by decide) rfl | exact Stp.store rfl rfl (by simp) rfl rfl rfl (by decide) rfl) ?_
  refine na ?_
  refine AWA.againE rfl rfl (by decide +kernel) (.on rfl rfl (Qt.loadG rfl rfl rfl ag40 sz40 (by decide))) rfl ?_
  refine na ?_
  refine a1 3 [] [2, 1, 0] rfl rfl (by first | exact Stp.storeA rfl rfl rfl rfl (by decide) rfl | exact Stp.store rfl rfl (by simp) rfl rfl rfl (by decide) rfl) ?_
  refine na ?_
  refine na ?_
  refine nz ?_
  refine AW.rep 49 (tr (c.Regs.set (p.getD c.Pc.toNat En.dflt).A.toNat (p.getD c.Pc.toNat En.dflt).B)) rfl (set_sim (fun k c hk => by simp only [upd_app, hk, false_and, if_false]; try rfl) (fun c hc => match c, hc with | 0, _ => (by simp only [upd_app, eq_self, and_self, if_true]; exact T.sim_refl _) | c + 1, hc => absurd hc (by simp only [En.n]; omega))) ?_
  refine AW.ret (endQ_ret (.cons (.cellG 6 36 rfl rfl rfl ag36 sz36 (by decide)) (.cons (.cellG 7 40 rfl rfl rfl ag40 sz40 (by decide)) .nil)) ?_)
  rw [hm, show execC p c mem = (⟨c.Pc + 1, c.Regs.set (p.getD c.Pc.toNat En.dflt).A.toNat (p.getD c.Pc.toNat En.dflt).B⟩, didNone) from hE.trans (by unfold core; repeat (first | rw [if_pos (by omega)] | rw [if_neg (by omega)]))]
  refine ⟨fun _ => 49, rfl, nodup_of rfl, ?_⟩
  intro r hr
  cases List.mem_singleton.1 hr
  exact ⟨by simp, rootL_mem rfl⟩
 have k6 := c6
 try simp only [cnd] at c6
 refine AW.seq (AW.seq (AW.region ?_))
 refine qq (Qt.binOp rfl rfl rfl) ?_
 refine qq Qt.assign ?_
 refine nl ?_
 refine AW.cond rfl (fun c7 => ?_) (fun c7 => ?_)
 ·have k7 := c7
  try simp only [cnd] at c7
  refine jd ?_
  refine AW.condT rfl k7 ?_
  refine AW.seq ?_
  refine AW.draw [0, 1, 2, 3, 4, 5, 6, 7, 8, 9, 10, 11, 12, 13] rfl (by decide +kernel) ?_
  refine tk 0 rfl (fA fl36_1) ?_
  refine na ?_
  refine tk 1 rfl (Qt.load1 rfl rfl rfl ag34) ?_
  refine tk 2 rfl (fA fl45_2) ?_
  refine tk 3 rfl (Qt.load1 rfl rfl rfl ag3) ?_
  refine na ?_
  refine tk 4 rfl (Qt.indexAddr rfl rfl rfl rfl sl34 sz3 (by decide) (by omega)) ?_
  refine tk 5 rfl (Qt.load1 rfl rfl rfl ag3) ?_
  refine tk 6 rfl (fA fl36_1) ?_
  refine na ?_
  refine tk 7 rfl (Qt.load1 rfl rfl rfl ag34) ?_
  refine tk 8 rfl (fA fl45_3) ?_
  refine tk 9 rfl (Qt.load1 rfl rfl rfl ag3) ?_
  refine na ?_
  refine tk 10 rfl (Qt.indexAddr rfl rfl rfl rfl sl34 sz3 (by decide) (by omega)) ?_
  refine tk 11 rfl (Qt.load1 rfl rfl rfl ag3) ?_
  refine tk 12 rfl (Qt.binOp rfl rfl (by first | exact pbAdd (by omega) | rfl)) ?_
  refine na ?_
  refine tk 13 rfl Qt.assign ?_
  refine nz ?_
  refine AW.seq (AW.seq (AW.region ?_))
  refine qq (fA fl45_0) ?_
  refine qq (Qt.load1 rfl rfl rfl ag3) ?_
  refine nm ?_
  refine qq (Qt.binOp rfl rfl rfl) ?_
  refine nl ?_
  refine AW.cond rfl (fun c8 => ?_) (fun c8 => ?_)
  ·have k8 := c8
   try simp only [cnd] at c8
   refine AW.draw [0, 1, 2, 3, 4, 5, 6, 7, 8, 9, 10, 11, 12, 13] rfl (by decide +kernel) ?_
   refine tk 0 rfl (fA fl36_1) ?_
   refine tk 1 rfl (Qt.load1 rfl rfl rfl ag34) ?_
   refine na ?_
   refine tk 2 rfl (fA fl45_2) ?_
   refine tk 3 rfl (Qt.load1 rfl rfl rfl ag3) ?_
   refine tk 4 rfl (Qt.indexAddr rfl rfl rfl rfl sl34 sz3 (by decide) (by omega)) ?_
   refine na ?_
   refine tk 5 rfl (Qt.load1 rfl rfl rfl ag3) ?_
   refine tk 6 rfl (fA fl36_1) ?_
   refine tk 7 rfl (Qt.load1 rfl rfl rfl ag34) ?_
   refine na ?_
   refine tk 8 rfl (fA fl45_3) ?_
   refine tk 9 rfl (Qt.load1 rfl rfl rfl ag3) ?_
   refine tk 10 rfl (Qt.indexAddr rfl rfl rfl rfl sl34 sz3 (by decide) (by omega)) ?_
   refine na ?_
   refine tk 11 rfl (Qt.load1 rfl rfl rfl ag3) ?_
   refine tk 12 rfl (Qt.binOp rfl rfl (by first | exact pbSub (by omega) | rfl)) ?_
   refine tk 13 rfl Qt.assign ?_
   refine na ?_
   refine nz ?_
   refine AW.seq (AW.seq (AW.region ?_))
   refine qq Qt.move ?_
   refine cv Try.call33 rfl rfl (isWord_con _) ?_
   refine nm ?_
   refine qq (Qt.notB rfl) ?_
   refine nl ?_
   refine AW.cond rfl (fun c9 => ?_) (fun c9 => ?_)
   ·have k9 := c9
    try simp only [cnd] at c9
    refine AW.seq ?_
    refine AW.draw [0, 2] rfl (by decide +kernel) ?_
    refine tk 0 rfl (Qt.loadG rfl rfl rfl ag36 sz36 (by decide)) ?_
    refine tk 2 rfl (Qt.loadG rfl rfl rfl ag40 sz40 (by decide)) ?_
    refine na ?_
    refine a1 1 [2] [0] rfl rfl (Stp.callR rfl (by decide) Try.call32 rfl rfl (cloneCpu_con _ (by omega)) (nodup_of rfl) rfl rfl) ?_
    refine na ?_
    refine AWA.againE rfl rfl (by decide +kernel) (.on rfl rfl (Qt.loadG rfl rfl rfl ag40 sz40 (by decide))) rfl ?_
    refine na ?_
    refine a1 3 [2] [1, 0] rfl rfl (by first | exact Stp.storeA rfl rfl rfl rfl (by decide) rfl | exact Stp.store rfl rfl (by simp) rfl rfl rfl (by decide) rfl) ?_
    refine na ?_
    refine AWA.againE rfl rfl (by decide +kernel) (.on rfl rfl (Qt.loadG rfl rfl rfl ag40 sz40 (by decide))) rfl ?_
    refine na ?_
    refine a1 4 [] [3, 2, 1, 0] rfl rfl (by first | exact Stp.storeA rfl rfl rfl rfl (by decide) rfl | exact Stp.store rfl rfl (by simp) rfl rfl rfl (by decide) rfl) ?_
    refine na ?_
    refine na ?_
    refine nz ?_
    refine AW.ret (endQ_ret (.cons (.cellG 6 36 rfl rfl rfl ag36 sz36 (by decide)) (.cons (.cellG 7 40 rfl rfl rfl ag40 sz40 (by decide)) .nil)) ?_)
    exfalso; omega
   have k9 := c9
   try simp only [cnd] at c9
   refine jd (AW.region ?_)
   refine qq (fA fl36_1) ?_
   refine qq (Qt.load1 rfl rfl rfl ag34) ?_
   refine qq (fA fl45_1) ?_
   refine nm ?_
   refine qq (Qt.load1 rfl rfl rfl ag3) ?_
   refine qq Qt.move ?_
   refine qq (Qt.indexAddr rfl rfl rfl rfl sl34 sz3 (by decide) (by omega)) ?_
   refine nm ?_
   refine ss ?_
   refine nl ?_
   refine AW.seq ?_
   refine AW.draw [0, 1] rfl (by decide +kernel) ?_
   refine tk 0 rfl (Qt.loadG rfl rfl rfl ag36 sz36 (by decide)) ?_
   refine na ?_
   refine tk 1 rfl (Qt.loadG rfl rfl rfl ag40 sz40 (by decide)) ?_
   refine a1 2 [1] [0] rfl rfl (by first | exact Stp.storeA rfl rfl rfl rfl (by decide) rfl | exact Stp.store rfl rfl (by simp) rfl rfl rfl (by decide) rfl) ?_
   refine na ?_
   refine AWA.againE rfl rfl (by decide +kernel) (.on rfl rfl (Qt.loadG rfl rfl rfl ag40 sz40 (by decide))) rfl ?_
   refine na ?_
   refine a1 3 [] [2, 1, 0] rfl rfl (by first | exact Stp.storeA rfl rfl rfl rfl (by decide) rfl | exact Stp.store rfl rfl (by simp) rfl rfl rfl (by decide) rfl) ?_
   refine na ?_
   refine na ?_
   refine nz ?_
   refine AW.ret (endQ_ret (.cons (.cellG 6 36 rfl rfl rfl ag36 sz36 (by decide)) (.cons (.cellG 7 40 rfl rfl rfl ag40 sz40 (by decide)) .nil)) ?_)
   exfalso; omega
  have k8 := c8
  try simp only [cnd] at c8
  refine jd (AW.seq (AW.seq (AW.region ?_)))
  refine qq Qt.move ?_
  refine cv Try.call33 rfl rfl (isWord_con _) ?_
  refine nm ?_
  refine qq (Qt.notB rfl) ?_
  refine nl ?_
  refine AW.cond rfl (fun c10 => ?_) (fun c10 => ?_)
  ·have k10 := c10
   try simp only [cnd] at c10
   refine AW.seq ?_
   refine AW.draw [0, 2] rfl (by decide +kernel) ?_
   refine tk 0 rfl (Qt.loadG rfl rfl rfl ag36 sz36 (by decide)) ?_
   refine tk 2 rfl (Qt.loadG rfl rfl rfl ag40 sz40 (by decide)) ?_
   refine na ?_
   refine a1 1 [2] [0] rfl rfl (Stp.callR rfl (by decide) Try.call32 rfl rfl (cloneCpu_con _ (by omega)) (nodup_of rfl) rfl rfl) ?_
   refine na ?_
   refine AWA.againE rfl rfl (by decide +kernel) (.on rfl rfl (Qt.loadG rfl rfl rfl ag40 sz40 (by decide))) rfl ?_
   refine na ?_
   refine a1 3 [2] [1, 0] rfl rfl (by first | exact Stp.storeA rfl rfl rfl rfl (by decide) rfl | exact Stp.store rfl rfl (by simp) rfl rfl rfl (by decide) rfl) ?_
   refine na ?_
   refine AWA.againE rfl rfl (by decide +kernel) (.on rfl rfl (Qt.loadG rfl rfl rfl ag40 sz40 (by decide))) rfl ?_
   refine na ?_
   refine a1 4 [] [3, 2, 1, 0] rfl rfl (by first | exact Stp.storeA rfl rfl rfl rfl (by decide) rfl | exact Stp.store rfl rfl (by simp) rfl rfl rfl (by decide) rfl) ?_
   refine na ?_
   refine na ?_
   refine nz ?_
   refine AW.ret (endQ_ret (.cons (.cellG 6 36 rfl rfl rfl ag36 sz36 (by decide)) (.cons (.cellG 7 40 rfl rfl rfl ag40 sz40 (by decide)) .nil)) ?_)
   rw [hm, show execC p c mem = (c, didFault) from hE.trans (by unfold core; repeat (first | rw [if_pos (by omega)] | rw [if_neg (by omega)]))]
   refine ⟨fun _ => 102, rfl, nodup_of rfl, ?_⟩
   intro r hr
   cases List.mem_singleton.1 hr
   exact ⟨by simp, rootL_mem rfl⟩
  have k10 := c10
  try simp only [cnd] at c10
  refine jd (AW.region ?_)
  refine qq (fA fl36_1) ?_
  refine qq (Qt.load1 rfl rfl rfl ag34) ?_
  refine qq (fA fl45_1) ?_
  refine nm ?_
  refine qq (Qt.load1 rfl rfl rfl ag3) ?_
  refine qq Qt.move ?_
  refine qq (Qt.indexAddr rfl rfl rfl rfl sl34 sz3 (by decide) (by omega)) ?_
  refine nm ?_
  refine ss ?_
  refine nl ?_
  refine AW.seq ?_
  refine AW.draw [0, 1] rfl (by decide +kernel) ?_
  refine tk 0 rfl (Qt.loadG rfl rfl rfl ag36 sz36 (by decide)) ?_
  refine na ?_
  refine tk 1 rfl (Qt.loadG rfl rfl rfl ag40 sz40 (by decide)) ?_
  refine a1 2 [1] [0] rfl rfl (by first | exact Stp.storeA rfl rfl rfl rfl (by decide) rfl | exact Stp.store rfl rfl (by simp) rfl rfl rfl (by decide) rfl) ?_
  refine na ?_
  refine AWA.againE rfl rfl (by decide +kernel) (.on rfl rfl (Qt.loadG rfl rfl rfl ag40 sz40 (by decide))) rfl ?_
  refine na ?_
  refine a1 3 [] [2, 1, 0] rfl rfl (by first | exact Stp.storeA rfl rfl rfl rfl (by decide) rfl | exact Stp.store rfl rfl (by simp) rfl rfl rfl (by decide) rfl) ?_
  refine na ?_
  refine na ?_
  refine nz ?_
  refine AW.rep 49 (tr (c.Regs.set (p.getD c.Pc.toNat En.dflt).A.toNat ((c.Regs.getD (p.getD c.Pc.toNat En.dflt).B.toNat En.dflt) + (c.Regs.getD (p.getD c.Pc.toNat En.dflt).C.toNat En.dflt)))) rfl (set_sim (fun k c hk => by simp only [upd_app, hk, false_and, if_false]; try rfl) (fun c hc => match c, hc with | 0, _ => (by simp only [upd_app, eq_self, and_self, if_true]; exact T.sim_refl _) | c + 1, hc => absurd hc (by simp only [En.n]; omega))) ?_
  refine AW.ret (endQ_ret (.cons (.cellG 6 36 rfl rfl rfl ag36 sz36 (by decide)) (.cons (.cellG 7 40 rfl rfl rfl ag40 sz40 (by decide)) .nil)) ?_)
  rw [hm, show execC p c mem = (⟨c.Pc + 1, c.Regs.set (p.getD c.Pc.toNat En.dflt).A.toNat ((c.Regs.getD (p.getD c.Pc.toNat En.dflt).B.toNat En.dflt) + (c.Regs.getD (p.getD c.Pc.toNat En.dflt).C.toNat En.dflt))⟩, didNone) from hE.trans (by unfold core; repeat (first | rw [if_pos (by omega)] | rw [if_neg (by omega)]))]
  refine ⟨fun _ => 49, rfl, nodup_of rfl, ?_⟩
  intro r hr
  cases List.mem_singleton.1 hr
  exact ⟨by simp, rootL_mem rfl⟩
 have k7 := c7
 try simp only [cnd] at c7
 refine AW.region ?_
 refine qq (Qt.binOp rfl rfl rfl) ?_
 refine qq Qt.assign ?_
 refine nl ?_
 refine AW.cond rfl (fun c11 => ?_) (fun c11 => ?_)
 ·have k11 := c11
  try simp only [cnd] at c11
  refine AW.seq ?_
  refine AW.draw [0, 1, 2, 3, 4, 5, 6, 7, 8, 9, 10, 11, 12, 13] rfl (by decide +kernel) ?_
  refine tk 0 rfl (fA fl36_1) ?_
  refine na ?_
  refine tk 1 rfl (Qt.load1 rfl rfl rfl ag34) ?_
  refine tk 2 rfl (fA fl45_2) ?_
  refine tk 3 rfl (Qt.load1 rfl rfl rfl ag3) ?_
  refine na ?_
  refine tk 4 rfl (Qt.indexAddr rfl rfl rfl rfl sl34 sz3 (by decide) (by omega)) ?_
  refine tk 5 rfl (Qt.load1 rfl rfl rfl ag3) ?_
  refine tk 6 rfl (fA fl36_1) ?_
  refine na ?_
  refine tk 7 rfl (Qt.load1 rfl rfl rfl ag34) ?_
  refine tk 8 rfl (fA fl45_3) ?_
  refine tk 9 rfl (Qt.load1 rfl rfl rfl ag3) ?_
  refine na ?_
  refine tk 10 rfl (Qt.indexAddr rfl rfl rfl rfl sl34 sz3 (by decide) (by omega)) ?_
  refine tk 11 rfl (Qt.load1 rfl rfl rfl ag3) ?_
  refine tk 12 rfl (Qt.binOp rfl rfl (by first | exact pbAdd (by omega) | rfl)) ?_
  refine na ?_
  refine tk 13 rfl Qt.assign ?_
  refine nz ?_
  refine AW.seq (AW.seq (AW.region ?_))
  refine qq (fA fl45_0) ?_
  refine qq (Qt.load1 rfl rfl rfl ag3) ?_
  refine nm ?_
  refine qq (Qt.binOp rfl rfl rfl) ?_
  refine nl ?_
  refine AW.cond rfl (fun c12 => ?_) (fun c12 => ?_)
  ·have k12 := c12
   try simp only [cnd] at c12
   refine AW.draw [0, 1, 2, 3, 4, 5, 6, 7, 8, 9, 10, 11, 12, 13] rfl (by decide +kernel) ?_
   refine tk 0 rfl (fA fl36_1) ?_
   refine tk 1 rfl (Qt.load1 rfl rfl rfl ag34) ?_
   refine na ?_
   refine tk 2 rfl (fA fl45_2) ?_
   refine tk 3 rfl (Qt.load1 rfl rfl rfl ag3) ?_
   refine tk 4 rfl (Qt.indexAddr rfl rfl rfl rfl sl34 sz3 (by decide) (by omega)) ?_
   refine na ?_
   refine tk 5 rfl (Qt.load1 rfl rfl rfl ag3) ?_
   refine tk 6 rfl (fA fl36_1) ?_
   refine tk 7 rfl (Qt.load1 rfl rfl rfl ag34) ?_
   refine na ?_
   refine tk 8 rfl (fA fl45_3) ?_
   refine tk 9 rfl (Qt.load1 rfl rfl rfl ag3) ?_
   refine tk 10 rfl (Qt.indexAddr rfl rfl rfl rfl sl34 sz3 (by decide) (by omega)) ?_
   refine na ?_
   refine tk 11 rfl (Qt.load1 rfl rfl rfl ag3) ?_
   refine tk 12 rfl (Qt.binOp rfl rfl (by first | exact pbSub (by omega) | rfl)) ?_
   refine tk 13 rfl Qt.assign ?_
   refine na ?_
   refine nz ?_
   refine AW.seq (AW.seq (AW.region ?_))
   refine qq Qt.move ?_
   refine cv Try.call33 rfl rfl (isWord_con _) ?_
   refine nm ?_
   refine qq (Qt.notB rfl) ?_
   refine nl ?_
   refine AW.cond rfl (fun c13 => ?_) (fun c13 => ?_)
   ·have k13 := c13
    try simp only [cnd] at c13
    refine AW.seq ?_
    refine AW.draw [0, 2] rfl (by decide +kernel) ?_
    refine tk 0 rfl (Qt.loadG rfl rfl rfl ag36 sz36 (by decide)) ?_
    refine tk 2 rfl (Qt.loadG rfl rfl rfl ag40 sz40 (by decide)) ?_
    refine na ?_
    refine a1 1 [2] [0] rfl rfl (Stp.callR rfl (by decide) Try.call32 rfl rfl (cloneCpu_con _ (by omega)) (nodup_of rfl) rfl rfl) ?_
    refine na ?_
    refine AWA.againE rfl rfl (by decide +kernel) (.on rfl rfl (Qt.loadG rfl rfl rfl ag40 sz40 (by decide))) rfl ?_
    refine na ?_
    refine a1 3 [2] [1, 0] rfl rfl (by first | exact Stp.storeA rfl rfl rfl rfl (by decide) rfl | exact Stp.store rfl rfl (by simp) rfl rfl rfl (by decide) rfl) ?_
    refine na ?_
    refine AWA.againE rfl rfl (by decide +kernel) (.on rfl rfl (Qt.loadG rfl rfl rfl ag40 sz40 (by decide))) rfl ?_
    refine na ?_
    refine a1 4 [] [3, 2, 1, 0] rfl rfl (by first | exact Stp.storeA rfl rfl rfl rfl (by decide) rfl | exact Stp.store rfl rfl (by simp) rfl rfl rfl (by decide) rfl) ?_
    refine na ?_
    refine na ?_
    refine nz ?_
    refine AW.ret (endQ_ret (.cons (.cellG 6 36 rfl rfl rfl ag36 sz36 (by decide)) (.cons (.cellG 7 40 rfl rfl rfl ag40 sz40 (by decide)) .nil)) ?_)
    rw [hm, show execC p c mem = (c, didFault) from hE.trans (by unfold core; repeat (first | rw [if_pos (by omega)] | rw [if_neg (by omega)]))]
    refine ⟨fun _ => 102, rfl, nodup_of rfl, ?_⟩
    intro r hr
    cases List.mem_singleton.1 hr
    exact ⟨by simp, rootL_mem rfl⟩
   have k13 := c13
   try simp only [cnd] at c13
   refine jd (AW.region ?_)
   refine qq (fA fl36_1) ?_
   refine qq (Qt.load1 rfl rfl rfl ag34) ?_
   refine qq (fA fl45_1) ?_
   refine nm ?_
   refine qq (Qt.load1 rfl rfl rfl ag3) ?_
   refine qq Qt.move ?_
   refine qq (Qt.indexAddr rfl rfl rfl rfl sl34 sz3 (by decide) (by omega)) ?_
   refine nm ?_
   refine ss ?_
   refine nl ?_
   refine AW.seq ?_
   refine AW.draw [0, 1] rfl (by decide +kernel) ?_
   refine tk 0 rfl (Qt.loadG rfl rfl rfl ag36 sz36 (by decide)) ?_
   refine na ?_
   refine tk 1 rfl (Qt.loadG rfl rfl rfl ag40 sz40 (by decide)) ?_
   refine a1 2 [1] [0] rfl rfl (by first | exact Stp.storeA rfl rfl rfl rfl (by decide) rfl | exact Stp.store rfl rfl (by simp) rfl rfl rfl (by decide) rfl) ?_
   refine na ?_
   refine AWA.againE rfl rfl (by decide +kernel) (.on rfl rfl (Qt.loadG rfl rfl rfl ag40 sz40 (by decide))) rfl ?_
   refine na ?_
   refine a1 3 [] [2, 1, 0] rfl rfl (by first | exact Stp.storeA rfl rfl rfl rfl (by decide) rfl | exact Stp.store rfl rfl (by simp) rfl rfl rfl (by decide) rfl) ?_
   refine na ?_
   refine na ?_
   refine nz ?_
   refine AW.rep 49 (tr (c.Regs.set (p.getD c.Pc.toNat En.dflt).A.toNat ((c.Regs.getD (p.getD c.Pc.toNat En.dflt).B.toNat En.dflt) - (c.Regs.getD (p.getD c.Pc.toNat En.dflt).C.toNat En.dflt)))) rfl (set_sim (fun k c hk => by simp only [upd_app, hk, false_and, if_false]; try rfl) (fun c hc => match c, hc with | 0, _ => (by simp only [upd_app, eq_self, and_self, if_true]; exact T.sim_refl _) | c + 1, hc => absurd hc (by simp only [En.n]; omega))) ?_
   refine AW.ret (endQ_ret (.cons (.cellG 6 36 rfl rfl rfl ag36 sz36 (by decide)) (.cons (.cellG 7 40 rfl rfl rfl ag40 sz40 (by decide)) .nil)) ?_)
   rw [hm, show execC p c mem = (⟨c.Pc + 1, c.Regs.set (p.getD c.Pc.toNat En.dflt).A.toNat ((c.Regs.getD (p.getD c.Pc.toNat En.dflt).B.toNat En.dflt) - (c.Regs.getD (p.getD c.Pc.toNat En.dflt).C.toNat En.dflt))⟩, didNone) from hE.trans (by unfold core; repeat (first | rw [if_pos (by omega)] | rw [if_neg (by omega)]))]
   refine ⟨fun _ => 49, rfl, nodup_of rfl, ?_⟩
   intro r hr
   cases List.mem_singleton.1 hr
   exact ⟨by simp, rootL_mem rfl⟩
  have k12 := c12
  try simp only [cnd] at c12
  refine jd (AW.seq (AW.seq (AW.region ?_)))
  refine qq Qt.move ?_
  refine cv Try.call33 rfl rfl (isWord_con _) ?_
  refine nm ?_
  refine qq (Qt.notB rfl) ?_
  refine nl ?_
  refine AW.cond rfl (fun c14 => ?_) (fun c14 => ?_)
  ·have k14 := c14
   try simp only [cnd] at c14
   refine AW.seq ?_
   refine AW.draw [0, 2] rfl (by decide +kernel) ?_
   refine tk 0 rfl (Qt.loadG rfl rfl rfl ag36 sz36 (by decide)) ?_
   refine tk 2 rfl (Qt.loadG rfl rfl rfl ag40 sz40 (by decide)) ?_
   refine na ?_
   refine a1 1 [2] [0] rfl rfl (Stp.callR rfl (by decide) Try.call32 rfl rfl (cloneCpu_con _ (by omega)) (nodup_of rfl) rfl rfl) ?_
   refine na ?_
   refine AWA.againE rfl rfl (by decide +kernel) (.on rfl rfl (Qt.loadG rfl rfl rfl ag40 sz40 (by decide))) rfl ?_
   refine na ?_
   refine a1 3 [2] [1, 0] rfl rfl (by first | exact Stp.storeA rfl rfl rfl rfl (by decide) rfl | exact Stp.store rfl rfl (by simp) rfl rfl rfl (by decide) rfl) ?_
   refine na ?_
   refine AWA.againE rfl rfl (by decide +kernel) (.on rfl rfl (Qt.loadG rfl rfl rfl ag40 sz40 (by decide))) rfl ?_
   refine na ?_
   refine a1 4 [] [3, 2, 1, 0] rfl rfl (by first | exact Stp.storeA rfl rfl rfl rfl (by decide) rfl | exact Stp.store rfl rfl (by simp) rfl rfl rfl (by decide) rfl) ?_
   refine na ?_
   refine na ?_
   refine nz ?_
   refine AW.ret (endQ_ret (.cons (.cellG 6 36 rfl rfl rfl ag36 sz36 (by decide)) (.cons (.cellG 7 40 rfl rfl rfl ag40 sz40 (by decide)) .nil)) ?_)
   exfalso; omega
  have k14 := c14
  try simp only [cnd] at c14
  refine jd (AW.region ?_)
  refine qq (fA fl36_1) ?_
  refine qq (Qt.load1 rfl rfl rfl ag34) ?_
  refine qq (fA fl45_1) ?_
  refine nm ?_
  refine qq (Qt.load1 rfl rfl rfl ag3) ?_
  refine qq Qt.move ?_
  refine qq (Qt.indexAddr rfl rfl rfl rfl sl34 sz3 (by decide) (by omega)) ?_
  refine nm ?_
  refine ss ?_
  refine nl ?_
  refine AW.seq ?_
  refine AW.draw [0, 1] rfl (by decide +kernel) ?_
  refine tk 0 rfl (Qt.loadG rfl rfl rfl ag36 sz36 (by decide)) ?_
  refine na ?_
  refine tk 1 rfl (Qt.loadG rfl rfl rfl ag40 sz40 (by decide)) ?_
  refine a1 2 [1] [0] rfl rfl (by first | exact Stp.storeA rfl rfl rfl rfl (by decide) rfl | exact Stp.store rfl rfl (by simp) rfl rfl rfl (by decide) rfl) ?_
  refine na ?_
  refine AWA.againE rfl rfl (by decide +kernel) (.on rfl rfl (Qt.loadG rfl rfl rfl ag40 sz40 (by decide))) rfl ?_
  refine na ?_
  refine a1 3 [] [2, 1, 0] rfl rfl (by first | exact Stp.storeA rfl rfl rfl rfl (by decide) rfl | exact Stp.store rfl rfl (by simp) rfl rfl rfl (by decide) rfl) ?_
  refine na ?_
  refine na ?_
  refine nz ?_
  refine AW.ret (endQ_ret (.cons (.cellG 6 36 rfl rfl rfl ag36 sz36 (by decide)) (.cons (.cellG 7 40 rfl rfl rfl ag40 sz40 (by decide)) .nil)) ?_)
  exfalso; omega
 have k11 := c11
 try simp only [cnd] at c11
 refine AW.seq (AW.seq (AW.region ?_))
 refine qq (Qt.binOp rfl rfl rfl) ?_
 refine qq Qt.assign ?_
 refine nl ?_
 refine AW.cond rfl (fun c15 => ?_) (fun c15 => ?_)
 ·have k15 := c15
  try simp only [cnd] at c15
  refine jd ?_
  refine AW.condT rfl k15 ?_
  refine AW.seq (AW.region ?_)
  refine qq (fA fl36_1) ?_
  refine nm ?_
  refine qq (Qt.load1 rfl rfl rfl ag34) ?_
  refine qq (fA fl45_2) ?_
  refine qq (Qt.load1 rfl rfl rfl ag3) ?_
  refine nm ?_
  refine qq (Qt.indexAddr rfl rfl rfl rfl sl34 sz3 (by decide) (by omega)) ?_
  refine qq (Qt.load1 rfl rfl rfl ag3) ?_
  refine qq Qt.assign ?_
  refine nl ?_
  refine AW.seq (AW.seq (AW.region ?_))
  refine qq Qt.move ?_
  refine nm ?_
  refine qq Qt.move ?_
  refine qq (Qt.lenH rfl rfl rfl sl34) ?_
  refine qq (Qt.binOp rfl rfl (by first | exact pbSub (by omega) | rfl)) ?_
  refine nm ?_
  refine cv Try.call34 rfl rfl (in_con _ _ _) ?_
  refine nm ?_
  refine qq (Qt.notB rfl) ?_
  refine nl ?_
  refine AW.cond rfl (fun c16 => ?_) (fun c16 => ?_)
  ·have k16 := c16
   try simp only [cnd] at c16
   refine AW.seq ?_
   refine AW.draw [0, 2] rfl (by decide +kernel) ?_
   refine tk 0 rfl (Qt.loadG rfl rfl rfl ag36 sz36 (by decide)) ?_
   refine tk 2 rfl (Qt.loadG rfl rfl rfl ag40 sz40 (by decide)) ?_
   refine na ?_
   refine a1 1 [2] [0] rfl rfl (Stp.callR rfl (by decide) Try.call32 rfl rfl (cloneCpu_con _ (by omega)) (nodup_of rfl) rfl rfl) ?_
   refine na ?_
   refine AWA.againE rfl rfl (by decide +kernel) (.on rfl rfl (Qt.loadG rfl rfl rfl ag40 sz40 (by decide))) rfl ?_
   refine na ?_
   refine a1 3 [2] [1, 0] rfl rfl (by first | exact Stp.storeA rfl rfl rfl rfl (by decide) rfl | exact Stp.store rfl rfl (by simp) rfl rfl rfl (by decide) rfl) ?_
   refine na ?_
   refine AWA.againE rfl rfl (by decide +kernel) (.on rfl rfl (Qt.loadG rfl rfl rfl ag40 sz40 (by decide))) rfl ?_
   refine na ?_
   refine a1 4 [] [3, 2, 1, 0] rfl rfl (by first | exact Stp.storeA rfl rfl rfl rfl (by decide) rfl | exact Stp.store rfl rfl (by simp) rfl rfl rfl (by decide) rfl) ?_
   refine na ?_
   refine na ?_
   refine nz ?_
   refine AW.ret (endQ_ret (.cons (.cellG 6 36 rfl rfl rfl ag36 sz36 (by decide)) (.cons (.cellG 7 40 rfl rfl rfl ag40 sz40 (by decide)) .nil)) ?_)
   rw [hm, show execC p c mem = (c, didFault) from hE.trans (by unfold core; repeat (first | rw [if_pos (by omega)] | rw [if_neg (by omega)]))]
   refine ⟨fun _ => 126, rfl, nodup_of rfl, ?_⟩
   intro r hr
   cases List.mem_singleton.1 hr
   exact ⟨by simp, rootL_mem rfl⟩
  have k16 := c16
  try simp only [cnd] at c16
  refine jd (AW.seq (AW.region ?_))
  refine qq (fA fl45_0) ?_
  refine qq (Qt.load1 rfl rfl rfl ag3) ?_
  refine qq (Qt.binOp rfl rfl rfl) ?_
  refine nl ?_
  refine AW.cond rfl (fun c17 => ?_) (fun c17 => ?_)
  ·have k17 := c17
   try simp only [cnd] at c17
   refine AW.draw [0, 1, 2, 3, 4, 5, 6, 7, 8] rfl (by decide +kernel) ?_
   refine tk 0 rfl (fA fl36_1) ?_
   refine na ?_
   refine tk 1 rfl (Qt.load1 rfl rfl rfl ag34) ?_
   refine tk 2 rfl (fA fl45_1) ?_
   refine tk 3 rfl (Qt.load1 rfl rfl rfl ag3) ?_
   refine na ?_
   refine tk 4 rfl Qt.move ?_
   refine tk 5 rfl Qt.move ?_
   refine tk 6 rfl (Qt.indexAddr rfl rfl rfl rfl sl34 sz3 (by decide) (by omega)) ?_
   refine na ?_
   refine tk 7 rfl (Qt.load1 rfl rfl rfl ag3) ?_
   refine tk 8 rfl (Qt.indexAddr rfl rfl rfl rfl sl34 sz3 (by decide) (by omega)) ?_
   refine a1 9 [] [8, 7, 6, 5, 4, 3, 2, 1, 0] rfl rfl (by first | exact Stp.storeA rfl rfl rfl rfl (by decide) rfl | exact Stp.store rfl rfl (by simp) rfl rfl rfl (by decide) rfl) ?_
   refine na ?_
   refine na ?_
   refine nz ?_
   refine AW.seq ?_
   refine AW.draw [0, 1] rfl (by decide +kernel) ?_
   refine tk 0 rfl (Qt.loadG rfl rfl rfl ag36 sz36 (by decide)) ?_
   refine tk 1 rfl (Qt.loadG rfl rfl rfl ag40 sz40 (by decide)) ?_
   refine a1 2 [1] [0] rfl rfl (by first | exact Stp.storeA rfl rfl rfl rfl (by decide) rfl | exact Stp.store rfl rfl (by simp) rfl rfl rfl (by decide) rfl) ?_
   refine na ?_
   refine AWA.againE rfl rfl (by decide +kernel) (.on rfl rfl (Qt.loadG rfl rfl rfl ag40 sz40 (by decide))) rfl ?_
   refine na ?_
   refine a1 3 [] [2, 1, 0] rfl rfl (by first | exact Stp.storeA rfl rfl rfl rfl (by decide) rfl | exact Stp.store rfl rfl (by simp) rfl rfl rfl (by decide) rfl) ?_
   refine na ?_
   refine na ?_
   refine nz ?_
   refine AW.rep 49 (tr (c.Regs.set (p.getD c.Pc.toNat En.dflt).A.toNat (mem.getD (c.Regs.getD (p.getD c.Pc.toNat En.dflt).B.toNat En.dflt).toNat En.dflt))) rfl (set_sim (fun k c hk => by simp only [upd_app, hk, false_and, if_false]; try rfl) (fun c hc => match c, hc with | 0, _ => (by simp only [upd_app, eq_self, and_self, if_true]; exact T.sim_refl _) | c + 1, hc => absurd hc (by simp only [En.n]; omega))) ?_
   refine AW.ret (endQ_ret (.cons (.cellG 6 36 rfl rfl rfl ag36 sz36 (by decide)) (.cons (.cellG 7 40 rfl rfl rfl ag40 sz40 (by decide)) .nil)) ?_)
   rw [hm, show execC p c mem = (⟨c.Pc + 1, c.Regs.set (p.getD c.Pc.toNat En.dflt).A.toNat (mem.getD (c.Regs.getD (p.getD c.Pc.toNat En.dflt).B.toNat En.dflt).toNat En.dflt)⟩, didNone) from hE.trans (by unfold core; repeat (first | rw [if_pos (by omega)] | rw [if_neg (by omega)]))]
   refine ⟨fun _ => 49, rfl, nodup_of rfl, ?_⟩
   intro r hr
   cases List.mem_singleton.1 hr
   exact ⟨by simp, rootL_mem rfl⟩
  have k17 := c17
  try simp only [cnd] at c17
  refine AW.draw [0, 1, 2, 3, 4, 5, 6, 7, 9] rfl (by decide +kernel) ?_
  refine tk 0 rfl Qt.move ?_
  refine tk 1 rfl (fA fl36_1) ?_
  refine tk 2 rfl (Qt.load1 rfl rfl rfl ag34) ?_
  refine na ?_
  refine tk 3 rfl (fA fl45_1) ?_
  refine tk 4 rfl (Qt.load1 rfl rfl rfl ag3) ?_
  refine tk 5 rfl (Qt.indexAddr rfl rfl rfl rfl sl34 sz3 (by decide) (by omega)) ?_
  refine na ?_
  refine tk 6 rfl (Qt.load1 rfl rfl rfl ag3) ?_
  refine tk 7 rfl (fA fl40_1) ?_
  refine a1 8 [1, 2, 3, 4, 5, 6] [7, 0] rfl rfl (by first | exact Stp.storeA rfl rfl rfl rfl (by decide) rfl | exact Stp.store rfl rfl (by simp) rfl rfl rfl (by decide) rfl) ?_
  refine na ?_
  refine AWA.againE rfl rfl (by decide +kernel) (.on rfl rfl (fA fl36_1)) rfl ?_
  refine AWA.againE rfl rfl (by decide +kernel) (.on rfl rfl (Qt.load1 rfl rfl rfl ag34)) rfl ?_
  refine AWA.againE rfl rfl (by decide +kernel) (.on rfl rfl (fA fl45_1)) rfl ?_
  refine AWA.againE rfl rfl (by decide +kernel) (.on rfl rfl (Qt.load1 rfl rfl rfl ag3)) rfl ?_
  refine AWA.againE rfl rfl (by decide +kernel) (.on rfl rfl (Qt.indexAddr rfl rfl rfl rfl sl34 sz3 (by decide) (by omega))) rfl ?_
  refine AWA.againE rfl rfl (by decide +kernel) (.on rfl rfl (Qt.load1 rfl rfl rfl ag3)) rfl ?_
  refine na ?_
  refine tk 9 rfl (fA fl40_2) ?_
  refine a1 10 [] [9, 8, 7, 6, 5, 4, 3, 2, 1, 0] rfl rfl (by first | exact Stp.storeA rfl rfl rfl rfl (by decide) rfl | exact Stp.store rfl rfl (by simp) rfl rfl rfl (by decide) rfl) ?_
  refine na ?_
  refine na ?_
  refine nz ?_
  refine AW.seq ?_
  refine AW.draw [0, 1] rfl (by decide +kernel) ?_
  refine tk 0 rfl (Qt.loadG rfl rfl rfl ag36 sz36 (by decide)) ?_
  refine tk 1 rfl (Qt.loadG rfl rfl rfl ag40 sz40 (by decide)) ?_
  refine a1 2 [1] [0] rfl rfl (by first | exact Stp.storeA rfl rfl rfl rfl (by decide) rfl | exact Stp.store rfl rfl (by simp) rfl rfl rfl (by decide) rfl) ?_
  refine na ?_
  refine AWA.againE rfl rfl (by decide +kernel) (.on rfl rfl (Qt.loadG rfl rfl rfl ag40 sz40 (by decide))) rfl ?_
  refine na ?_
  refine a1 3 [] [2, 1, 0] rfl rfl (by first | exact Stp.storeA rfl rfl rfl rfl (by decide) rfl | exact Stp.store rfl rfl (by simp) rfl rfl rfl (by decide) rfl) ?_
  refine na ?_
  refine na ?_
  refine nz ?_
  refine AW.ret (endQ_ret (.cons (.cellG 6 36 rfl rfl rfl ag36 sz36 (by decide)) (.cons (.cellG 7 40 rfl rfl rfl ag40 sz40 (by decide)) .nil)) ?_)
  exfalso; omega
 have k15 := c15
 try simp only [cnd] at c15
 refine AW.region ?_
 refine qq (Qt.binOp rfl rfl rfl) ?_
 refine qq Qt.assign ?_
 refine nl ?_
 refine AW.cond rfl (fun c18 => ?_) (fun c18 => ?_)
 ·have k18 := c18
  try simp only [cnd] at c18
  refine AW.seq (AW.region ?_)
  refine qq (fA fl36_1) ?_
  refine nm ?_
  refine qq (Qt.load1 rfl rfl rfl ag34) ?_
  refine qq (fA fl45_2) ?_
  refine qq (Qt.load1 rfl rfl rfl ag3) ?_
  refine nm ?_
  refine qq (Qt.indexAddr rfl rfl rfl rfl sl34 sz3 (by decide) (by omega)) ?_
  refine qq (Qt.load1 rfl rfl rfl ag3) ?_
  refine qq Qt.assign ?_
  refine nl ?_
  refine AW.seq (AW.seq (AW.region ?_))
  refine qq Qt.move ?_
  refine nm ?_
  refine qq Qt.move ?_
  refine qq (Qt.lenH rfl rfl rfl sl34) ?_
  refine qq (Qt.binOp rfl rfl (by first | exact pbSub (by omega) | rfl)) ?_
  refine nm ?_
  refine cv Try.call34 rfl rfl (in_con _ _ _) ?_
  refine nm ?_
  refine qq (Qt.notB rfl) ?_
  refine nl ?_
  refine AW.cond rfl (fun c19 => ?_) (fun c19 => ?_)
  ·have k19 := c19
   try simp only [cnd] at c19
   refine AW.seq ?_
   refine AW.draw [0, 2] rfl (by decide +kernel) ?_
   refine tk 0 rfl (Qt.loadG rfl rfl rfl ag36 sz36 (by decide)) ?_
   refine tk 2 rfl (Qt.loadG rfl rfl rfl ag40 sz40 (by decide)) ?_
   refine na ?_
   refine a1 1 [2] [0] rfl rfl (Stp.callR rfl (by decide) Try.call32 rfl rfl (cloneCpu_con _ (by omega)) (nodup_of rfl) rfl rfl) ?_
   refine na ?_
   refine AWA.againE rfl rfl (by decide +kernel) (.on rfl rfl (Qt.loadG rfl rfl rfl ag40 sz40 (by decide))) rfl ?_
   refine na ?_
   refine a1 3 [2] [1, 0] rfl rfl (by first | exact Stp.storeA rfl rfl rfl rfl (by decide) rfl | exact Stp.store rfl rfl (by simp) rfl rfl rfl (by decide) rfl) ?_
   refine na ?_
   refine AWA.againE rfl rfl (by decide +kernel) (.on rfl rfl (Qt.loadG rfl rfl rfl ag40 sz40 (by decide))) rfl ?_
   refine na ?_
   refine a1 4 [] [3, 2, 1, 0] rfl rfl (by first | exact Stp.storeA rfl rfl rfl rfl (by decide) rfl | exact Stp.store rfl rfl (by simp) rfl rfl rfl (by decide) rfl) ?_
   refine na ?_
   refine na ?_
   refine nz ?_
   refine AW.ret (endQ_ret (.cons (.cellG 6 36 rfl rfl rfl ag36 sz36 (by decide)) (.cons (.cellG 7 40 rfl rfl rfl ag40 sz40 (by decide)) .nil)) ?_)
   rw [hm, show execC p c mem = (c, didFault) from hE.trans (by unfold core; repeat (first | rw [if_pos (by omega)] | rw [if_neg (by omega)]))]
   refine ⟨fun _ => 126, rfl, nodup_of rfl, ?_⟩
   intro r hr
   cases List.mem_singleton.1 hr
   exact ⟨by simp, rootL_mem rfl⟩
  have k19 := c19
  try simp only [cnd] at c19
  refine jd (AW.seq (AW.region ?_))
  refine qq (fA fl45_0) ?_
  refine qq (Qt.load1 rfl rfl rfl ag3) ?_
  refine qq (Qt.binOp rfl rfl rfl) ?_
  refine nl ?_
  refine AW.cond rfl (fun c20 => ?_) (fun c20 => ?_)
  ·have k20 := c20
   try simp only [cnd] at c20
   refine AW.draw [0, 1, 2, 3, 4, 5, 6, 7, 8] rfl (by decide +kernel) ?_
   refine tk 0 rfl (fA fl36_1) ?_
   refine na ?_
   refine tk 1 rfl (Qt.load1 rfl rfl rfl ag34) ?_
   refine tk 2 rfl (fA fl45_1) ?_
   refine tk 3 rfl (Qt.load1 rfl rfl rfl ag3) ?_
   refine na ?_
   refine tk 4 rfl Qt.move ?_
   refine tk 5 rfl Qt.move ?_
   refine tk 6 rfl (Qt.indexAddr rfl rfl rfl rfl sl34 sz3 (by decide) (by omega)) ?_
   refine na ?_
   refine tk 7 rfl (Qt.load1 rfl rfl rfl ag3) ?_
   refine tk 8 rfl (Qt.indexAddr rfl rfl rfl rfl sl34 sz3 (by decide) (by omega)) ?_
   refine a1 9 [] [8, 7, 6, 5, 4, 3, 2, 1, 0] rfl rfl (by first | exact Stp.storeA rfl rfl rfl rfl (by decide) rfl | exact Stp.store rfl rfl (by simp) rfl rfl rfl (by decide) rfl) ?_
   refine na ?_
   refine na ?_
   refine nz ?_
   refine AW.seq ?_
   refine AW.draw [0, 1] rfl (by decide +kernel) ?_
   refine tk 0 rfl (Qt.loadG rfl rfl rfl ag36 sz36 (by decide)) ?_
   refine tk 1 rfl (Qt.loadG rfl rfl rfl ag40 sz40 (by decide)) ?_
   refine a1 2 [1] [0] rfl rfl (by first | exact Stp.storeA rfl rfl rfl rfl (by decide) rfl | exact Stp.store rfl rfl (by simp) rfl rfl rfl (by decide) rfl) ?_
   refine na ?_
   refine AWA.againE rfl rfl (by decide +kernel) (.on rfl rfl (Qt.loadG rfl rfl rfl ag40 sz40 (by decide))) rfl ?_
   refine na ?_
   refine a1 3 [] [2, 1, 0] rfl rfl (by first | exact Stp.storeA rfl rfl rfl rfl (by decide) rfl | exact Stp.store rfl rfl (by simp) rfl rfl rfl (by decide) rfl) ?_
   refine na ?_
   refine na ?_
   refine nz ?_
   refine AW.ret (endQ_ret (.cons (.cellG 6 36 rfl rfl rfl ag36 sz36 (by decide)) (.cons (.cellG 7 40 rfl rfl rfl ag40 sz40 (by decide)) .nil)) ?_)
   exfalso; omega
  have k20 := c20
  try simp only [cnd] at c20
  refine AW.draw [0, 1, 2, 3, 4, 5, 6, 7, 9] rfl (by decide +kernel) ?_
  refine tk 0 rfl Qt.move ?_
  refine tk 1 rfl (fA fl36_1) ?_
  refine tk 2 rfl (Qt.load1 rfl rfl rfl ag34) ?_
  refine na ?_
  refine tk 3 rfl (fA fl45_1) ?_
  refine tk 4 rfl (Qt.load1 rfl rfl rfl ag3) ?_
  refine tk 5 rfl (Qt.indexAddr rfl rfl rfl rfl sl34 sz3 (by decide) (by omega)) ?_
  refine na ?_
  refine tk 6 rfl (Qt.load1 rfl rfl rfl ag3) ?_
  refine tk 7 rfl (fA fl40_1) ?_
  refine a1 8 [1, 2, 3, 4, 5, 6] [7, 0] rfl rfl (by first | exact Stp.storeA rfl rfl rfl rfl (by decide) rfl | exact Stp.store rfl rfl (by simp) rfl rfl rfl (by decide) rfl) ?_
  refine na ?_
  refine AWA.againE rfl rfl (by decide +kernel) (.on rfl rfl (fA fl36_1)) rfl ?_
  refine AWA.againE rfl rfl (by decide +kernel) (.on rfl rfl (Qt.load1 rfl rfl rfl ag34)) rfl ?_
  refine AWA.againE rfl rfl (by decide +kernel) (.on rfl rfl (fA fl45_1)) rfl ?_
  refine AWA.againE rfl rfl (by decide +kernel) (.on rfl rfl (Qt.load1 rfl rfl rfl ag3)) rfl ?_
  refine AWA.againE rfl rfl (by decide +kernel) (.on rfl rfl (Qt.indexAddr rfl rfl rfl rfl sl34 sz3 (by decide) (by omega))) rfl ?_
  refine AWA.againE rfl rfl (by decide +kernel) (.on rfl rfl (Qt.load1 rfl rfl rfl ag3)) rfl ?_
  refine na ?_
  refine tk 9 rfl (fA fl40_2) ?_
  refine a1 10 [] [9, 8, 7, 6, 5, 4, 3, 2, 1, 0] rfl rfl (by first | exact Stp.storeA rfl rfl rfl rfl (by decide) rfl | exact Stp.store rfl rfl (by simp) rfl rfl rfl (by decide) rfl) ?_
  refine na ?_
  refine na ?_
  refine nz ?_
  refine AW.seq ?_
  refine AW.draw [0, 1] rfl (by decide +kernel) ?_
  refine tk 0 rfl (Qt.loadG rfl rfl rfl ag36 sz36 (by decide)) ?_
  refine tk 1 rfl (Qt.loadG rfl rfl rfl ag40 sz40 (by decide)) ?_
  refine a1 2 [1] [0] rfl rfl (by first | exact Stp.storeA rfl rfl rfl rfl (by decide) rfl | exact Stp.store rfl rfl (by simp) rfl rfl rfl (by decide) rfl) ?_
  refine na ?_
  refine AWA.againE rfl rfl (by decide +kernel) (.on rfl rfl (Qt.loadG rfl rfl rfl ag40 sz40 (by decide))) rfl ?_
  refine na ?_
  refine a1 3 [] [2, 1, 0] rfl rfl (by first | exact Stp.storeA rfl rfl rfl rfl (by decide) rfl | exact Stp.store rfl rfl (by simp) rfl rfl rfl (by decide) rfl) ?_
  refine na ?_
  refine na ?_
  refine nz ?_
  refine AW.ret (endQ_ret (.cons (.cellG 6 36 rfl rfl rfl ag36 sz36 (by decide)) (.cons (.cellG 7 40 rfl rfl rfl ag40 sz40 (by decide)) .nil)) ?_)
  rw [hm, show execC p c mem = (⟨c.Pc + 1, c.Regs⟩, ⟨0, (c.Regs.getD (p.getD c.Pc.toNat En.dflt).B.toNat En.dflt), (c.Regs.getD (p.getD c.Pc.toNat En.dflt).A.toNat En.dflt), 0⟩) from hE.trans (by unfold core; repeat (first | rw [if_pos (by omega)] | rw [if_neg (by omega)]))]
  refine ⟨fun _ => 49, rfl, nodup_of rfl, ?_⟩
  intro r hr
  cases List.mem_singleton.1 hr
  exact ⟨by simp, rootL_mem rfl⟩
 have k18 := c18
 try simp only [cnd] at c18
 refine AW.seq (AW.region ?_)
 refine qq (Qt.binOp rfl rfl rfl) ?_
 refine qq Qt.assign ?_
 refine nl ?_
 refine AW.cond rfl (fun c21 => ?_) (fun c21 => ?_)
 ·have k21 := c21
  try simp only [cnd] at c21
  refine AW.region ?_
  refine qq (fA fl45_1) ?_
  refine nm ?_
  refine qq (Qt.load1 rfl rfl rfl ag3) ?_
  refine qq (fA fl36_0) ?_
  refine ss ?_
  refine nl ?_
  refine AW.seq ?_
  refine AW.draw [0, 1] rfl (by decide +kernel) ?_
  refine tk 0 rfl (Qt.loadG rfl rfl rfl ag36 sz36 (by decide)) ?_
  refine na ?_
  refine tk 1 rfl (Qt.loadG rfl rfl rfl ag40 sz40 (by decide)) ?_
  refine a1 2 [1] [0] rfl rfl (by first | exact Stp.storeA rfl rfl rfl rfl (by decide) rfl | exact Stp.store rfl rfl (by simp) rfl rfl rfl (by decide) rfl) ?_
  refine na ?_
  refine AWA.againE rfl rfl (by decide +kernel) (.on rfl rfl (Qt.loadG rfl rfl rfl ag40 sz40 (by decide))) rfl ?_
  refine na ?_
  refine a1 3 [] [2, 1, 0] rfl rfl (by first | exact Stp.storeA rfl rfl rfl rfl (by decide) rfl | exact Stp.store rfl rfl (by simp) rfl rfl rfl (by decide) rfl) ?_
  refine na ?_
  refine na ?_
  refine nz ?_
  refine AW.ret (endQ_ret (.cons (.cellG 6 36 rfl rfl rfl ag36 sz36 (by decide)) (.cons (.cellG 7 40 rfl rfl rfl ag40 sz40 (by decide)) .nil)) ?_)
  rw [hm, show execC p c mem = (⟨(p.getD c.Pc.toNat En.dflt).A, c.Regs⟩, didNone) from hE.trans (by unfold core; repeat (first | rw [if_pos (by omega)] | rw [if_neg (by omega)]))]
  refine ⟨fun _ => 49, rfl, nodup_of rfl, ?_⟩
  intro r hr
  cases List.mem_singleton.1 hr
  exact ⟨by simp, rootL_mem rfl⟩
 have k21 := c21
 try simp only [cnd] at c21
 refine AW.seq (AW.region ?_)
 refine qq (Qt.binOp rfl rfl rfl) ?_
 refine qq Qt.assign ?_
 refine nl ?_
 refine AW.cond rfl (fun c22 => ?_) (fun c22 => ?_)
 ·have k22 := c22
  try simp only [cnd] at c22
  refine AW.seq (AW.region ?_)
  refine qq (fA fl36_1) ?_
  refine nm ?_
  refine qq (Qt.load1 rfl rfl rfl ag34) ?_
  refine qq (fA fl45_1) ?_
  refine qq (Qt.load1 rfl rfl rfl ag3) ?_
  refine nm ?_
  refine qq (Qt.indexAddr rfl rfl rfl rfl sl34 sz3 (by decide) (by omega)) ?_
  refine qq (Qt.load1 rfl rfl rfl ag3) ?_
  refine qq (Qt.binOp rfl rfl rfl) ?_
  refine nl ?_
  refine AW.cond rfl (fun c23 => ?_) (fun c23 => ?_)
  ·have k23 := c23
   try simp only [cnd] at c23
   refine AW.region ?_
   refine qq (fA fl45_2) ?_
   refine nm ?_
   refine qq (Qt.load1 rfl rfl rfl ag3) ?_
   refine qq (fA fl36_0) ?_
   refine ss ?_
   refine nl ?_
   refine AW.seq ?_
   refine AW.draw [0, 1] rfl (by decide +kernel) ?_
   refine tk 0 rfl (Qt.loadG rfl rfl rfl ag36 sz36 (by decide)) ?_
   refine na ?_
   refine tk 1 rfl (Qt.loadG rfl rfl rfl ag40 sz40 (by decide)) ?_
   refine a1 2 [1] [0] rfl rfl (by first | exact Stp.storeA rfl rfl rfl rfl (by decide) rfl | exact Stp.store rfl rfl (by simp) rfl rfl rfl (by decide) rfl) ?_
   refine na ?_
   refine AWA.againE rfl rfl (by decide +kernel) (.on rfl rfl (Qt.loadG rfl rfl rfl ag40 sz40 (by decide))) rfl ?_
   refine na ?_
   refine a1 3 [] [2, 1, 0] rfl rfl (by first | exact Stp.storeA rfl rfl rfl rfl (by decide) rfl | exact Stp.store rfl rfl (by simp) rfl rfl rfl (by decide) rfl) ?_
   refine na ?_
   refine na ?_
   refine nz ?_
   refine AW.ret (endQ_ret (.cons (.cellG 6 36 rfl rfl rfl ag36 sz36 (by decide)) (.cons (.cellG 7 40 rfl rfl rfl ag40 sz40 (by decide)) .nil)) ?_)
   rw [hm, show execC p c mem = (⟨(p.getD c.Pc.toNat En.dflt).B, c.Regs⟩, didNone) from hE.trans (by unfold core; repeat (first | rw [if_pos (by omega)] | rw [if_neg (by omega)]))]
   refine ⟨fun _ => 49, rfl, nodup_of rfl, ?_⟩
   intro r hr
   cases List.mem_singleton.1 hr
   exact ⟨by simp, rootL_mem rfl⟩
  have k23 := c23
  try simp only [cnd] at c23
  refine jd (AW.seq ?_)
  refine AW.draw [0, 1] rfl (by decide +kernel) ?_
  refine tk 0 rfl (Qt.loadG rfl rfl rfl ag36 sz36 (by decide)) ?_
  refine tk 1 rfl (Qt.loadG rfl rfl rfl ag40 sz40 (by decide)) ?_
  refine a1 2 [1] [0] rfl rfl (by first | exact Stp.storeA rfl rfl rfl rfl (by decide) rfl | exact Stp.store rfl rfl (by simp) rfl rfl rfl (by decide) rfl) ?_
  refine na ?_
  refine AWA.againE rfl rfl (by decide +kernel) (.on rfl rfl (Qt.loadG rfl rfl rfl ag40 sz40 (by decide))) rfl ?_
  refine na ?_
  refine a1 3 [] [2, 1, 0] rfl rfl (by first | exact Stp.storeA rfl rfl rfl rfl (by decide) rfl | exact Stp.store rfl rfl (by simp) rfl rfl rfl (by decide) rfl) ?_
  refine na ?_
  refine na ?_
  refine nz ?_
  refine AW.ret (endQ_ret (.cons (.cellG 6 36 rfl rfl rfl ag36 sz36 (by decide)) (.cons (.cellG 7 40 rfl rfl rfl ag40 sz40 (by decide)) .nil)) ?_)
  rw [hm, show execC p c mem = (⟨c.Pc + 1, c.Regs⟩, didNone) from hE.trans (by unfold core; repeat (first | rw [if_pos (by omega)] | rw [if_neg (by omega)]))]
  refine ⟨fun _ => 49, rfl, nodup_of rfl, ?_⟩
  intro r hr
  cases List.mem_singleton.1 hr
  exact ⟨by simp, rootL_mem rfl⟩
 have k22 := c22
 try simp only [cnd] at c22
 refine AW.seq (AW.region ?_)
 refine qq (Qt.binOp rfl rfl rfl) ?_
 refine qq Qt.assign ?_
 refine nl ?_
 refine AW.cond rfl (fun c24 => ?_) (fun c24 => ?_)
 ·have k24 := c24
  try simp only [cnd] at c24
  refine AW.draw [0, 1, 2, 4] rfl (by decide +kernel) ?_
  refine tk 0 rfl (fA fl45_1) ?_
  refine na ?_
  refine tk 1 rfl (Qt.load1 rfl rfl rfl ag3) ?_
  refine tk 2 rfl (fA fl40_0) ?_
  refine a1 3 [0, 1] [2] rfl rfl (by first | exact Stp.storeA rfl rfl rfl rfl (by decide) rfl | exact Stp.store rfl rfl (by simp) rfl rfl rfl (by decide) rfl) ?_
  refine na ?_
  refine AWA.againE rfl rfl (by decide +kernel) (.on rfl rfl (fA fl45_1)) rfl ?_
  refine AWA.againE rfl rfl (by decide +kernel) (.on rfl rfl (Qt.load1 rfl rfl rfl ag3)) rfl ?_
  refine na ?_
  refine tk 4 rfl (fA fl40_3) ?_
  refine a1 5 [] [4, 3, 2, 1, 0] rfl rfl (by first | exact Stp.storeA rfl rfl rfl rfl (by decide) rfl | exact Stp.store rfl rfl (by simp) rfl rfl rfl (by decide) rfl) ?_
  refine na ?_
  refine na ?_
  refine nz ?_
  refine AW.seq ?_
  refine AW.draw [0, 1] rfl (by decide +kernel) ?_
  refine tk 0 rfl (Qt.loadG rfl rfl rfl ag36 sz36 (by decide)) ?_
  refine tk 1 rfl (Qt.loadG rfl rfl rfl ag40 sz40 (by decide)) ?_
  refine a1 2 [1] [0] rfl rfl (by first | exact Stp.storeA rfl rfl rfl rfl (by decide) rfl | exact Stp.store rfl rfl (by simp) rfl rfl rfl (by decide) rfl) ?_
  refine na ?_
  refine AWA.againE rfl rfl (by decide +kernel) (.on rfl rfl (Qt.loadG rfl rfl rfl ag40 sz40 (by decide))) rfl ?_
  refine na ?_
  refine a1 3 [] [2, 1, 0] rfl rfl (by first | exact Stp.storeA rfl rfl rfl rfl (by decide) rfl | exact Stp.store rfl rfl (by simp) rfl rfl rfl (by decide) rfl) ?_
  refine na ?_
  refine na ?_
  refine nz ?_
  refine AW.ret (endQ_ret (.cons (.cellG 6 36 rfl rfl rfl ag36 sz36 (by decide)) (.cons (.cellG 7 40 rfl rfl rfl ag40 sz40 (by decide)) .nil)) ?_)
  rw [hm, show execC p c mem = (⟨c.Pc + 1, c.Regs⟩, ⟨1, -1, 0, (p.getD c.Pc.toNat En.dflt).A⟩) from hE.trans (by unfold core; repeat (first | rw [if_pos (by omega)] | rw [if_neg (by omega)]))]
  refine ⟨fun _ => 49, rfl, nodup_of rfl, ?_⟩
  intro r hr
  cases List.mem_singleton.1 hr
  exact ⟨by simp, rootL_mem rfl⟩
 have k24 := c24
 try simp only [cnd] at c24
 refine jd (AW.seq ?_)
 refine AW.draw [0, 1] rfl (by decide +kernel) ?_
 refine tk 0 rfl (Qt.loadG rfl rfl rfl ag36 sz36 (by decide)) ?_
 refine tk 1 rfl (Qt.loadG rfl rfl rfl ag40 sz40 (by decide)) ?_
 refine a1 2 [1] [0] rfl rfl (by first | exact Stp.storeA rfl rfl rfl rfl (by decide) rfl | exact Stp.store rfl rfl (by simp) rfl rfl rfl (by decide) rfl) ?_
 refine na ?_
 refine AWA.againE rfl rfl (by decide +kernel) (.on rfl rfl (Qt.loadG rfl rfl rfl ag40 sz40 (by decide))) rfl ?_
 refine na ?_
 refine a1 3 [] [2, 1, 0] rfl rfl (by first | exact Stp.storeA rfl rfl rfl rfl (by decide) rfl | exact Stp.store rfl rfl (by simp) rfl rfl rfl (by decide) rfl) ?_
 refine na ?_
 refine na ?_
 refine nz ?_
 refine AW.ret (endQ_ret (.cons (.cellG 6 36 rfl rfl rfl ag36 sz36 (by decide)) (.cons (.cellG 7 40 rfl rfl rfl ag40 sz40 (by decide)) .nil)) ?_)
 exfalso; omega
end Go.Proofs.Ytbchjcapphclgaa.VM
