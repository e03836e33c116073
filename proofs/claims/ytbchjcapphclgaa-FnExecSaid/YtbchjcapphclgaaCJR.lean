/- Contracts of functions of the program. No conditions beyond those that each states. -/
import Derived.Test.YtbchjcapphclgaaCJQ
set_option linter.all false
namespace Go.Proofs.Ytbchjcapphclgaa.VM
open Go Go.RowKit Go.Proofs

def cpuOk (c : DCpu) : Bool := decide (0 ≤ c.Pc) && decide (c.Pc ≤ 40) && (c.Regs.length == 4 && c.Regs.all word)
def execOk (p : List DIns) (c : DCpu) (mem : List Int) : Bool := progOk p && cpuOk c && decide (mem.length ≤ 64) && mem.all word
def execM (p : List DIns) (c : DCpu) (mem : List Int) : DCpu × DDid := if execOk p c mem then execC p c mem else (⟨0, []⟩, didFault)
theorem execFacts {p : List DIns} {c : DCpu} {mem : List Int} (h : execOk p c mem = true) : 0 ≤ c.Pc ∧ c.Regs.length = 4 ∧ (∀ k, -1000000 ≤ c.Regs.getD k En.dflt ∧ c.Regs.getD k En.dflt ≤ 1000000) ∧ (∀ k, k < p.length → insOk (p.getD k En.dflt) = true) := by
 simp only [execOk, progOk, cpuOk, Bool.and_eq_true, decide_eq_true_eq, beq_iff_eq] at h
 obtain ⟨⟨⟨⟨_, h1⟩, ⟨h2, _⟩, h3, h4⟩, _⟩, _⟩ := h
 refine ⟨h2, h3, fun k => ?_, fun k hk => ?_⟩
 ·by_cases hk : k < c.Regs.length
  ·have := List.all_eq_true.1 h4 c.Regs[k] (List.getElem_mem hk)
   simp only [word, Bool.and_eq_true, decide_eq_true_eq] at this
   simpa [hk] using this
  ·have : c.Regs.getD k En.dflt = 0 := by simp [List.getD_eq_getElem?_getD, List.getElem?_eq_none (by omega : c.Regs.length ≤ k)]; rfl
   omega
 ·have := List.all_eq_true.1 h1 p[k] (List.getElem_mem hk)
  simpa [hk] using this


theorem execOk_eq (p : List DIns) (c : DCpu) (mem : List Int) : execOk p c mem = !(((!progOk p || !(decide (0 ≤ c.Pc) && decide (c.Pc ≤ 40) && (c.Regs.length == 4 && c.Regs.all word))) || decide ((mem.length : Int) > 64)) || !mem.all word) := by
 have e : decide (mem.length ≤ 64) = !decide ((mem.length : Int) > 64) := by
  rw [Bool.eq_iff_iff]; simp; omega
 simp only [execOk, cpuOk, Bool.not_or, Bool.not_not, e]

set_option maxHeartbeats 4000000 in
set_option maxRecDepth 10000 in
theorem ExecS_con (p : List DIns) (c : DCpu) (mem : List Int) : Con Try.prog 15 [.h base [], .g [.v (iv c.Pc), .h (base + 1) []], .h (base + 2) []] [.rt base .ro (tr p), .rt (base + 1) .ro (tr c.Regs), .rt (base + 2) .ro (tr mem)] (Ret (.t [.g [.v (iv (execM p c mem).1.Pc), .h 0 []], .g [.v (iv (execM p c mem).2.Kind), .v (iv (execM p c mem).2.Addr), .v (iv (execM p c mem).2.Val), .v (iv (execM p c mem).2.Sys)]]) [(0, .row, tr (execM p c mem).1.Regs)]) := by
 refine Con.of_body Try.func15 rfl (by simp) ?_
 rw [Try.ntmps15]
 refine AW.len base [] rfl (by simp [Okp]) rfl (fun hl => ?_)
 refine AW.len (base + 1) [] rfl (by simp [Okp]) rfl (fun hcl => ?_)
 refine AW.len (base + 2) [] rfl (by simp [Okp]) rfl (fun hml => ?_)
 refine AW.seq (AW.region ?_)
 refine sp (Stp.boxB rfl (by decide) (by decide) rfl rfl rfl rfl) ?_
 refine nm ?_
 refine sp (Stp.alloc rfl (by decide) (by decide)) ?_
 refine nm ?_
 refine sp (Stp.alloc rfl (by decide) (by decide)) ?_
 refine nl ?_
 refine AW.seq (AW.seq (AW.region ?_))
 refine qq Qt.move ?_
 refine nm ?_
 refine cv Try.call35 rfl rfl (ProgOkS_con _) ?_
 refine nm ?_
 refine qq (Qt.notB rfl) ?_
 refine qq Qt.move ?_
 apply AWL.cut 3
 ·intro Kg1
  refine AWL.splitF 13 rfl (fun g1 => ?_) (fun g1 => ?_)
  ·refine qg (nF g1) (Qt.loadG rfl rfl rfl ag36 sz36 (by decide)) ?_
   refine nm ?_
   refine AWL.step rfl (nF g1) (Stp.callV rfl (by decide) Try.call17 rfl rfl (CpuOkS_con _ _ hcl)) ?_
   refine nm ?_
   refine qg (nF g1) (Qt.notB rfl) ?_
   exact wj 16 [14, 15, 16] (ifF g1 _ undef) (by simp only [go_sem, Int.reduceToNat, Nat.reduceLT, reduceIte, Nat.reduceEqDiff, Nat.reduceAdd, Nat.reduceMul, Nat.reduceBEq, reduceCtorEq]; rfl) Kg1
  ·refine og (nT g1) ?_
   refine og (nT g1) ?_
   refine og (nT g1) ?_
   exact wj 16 [14, 15, 16] (ifT g1 undef _) (by simp only [go_sem, Int.reduceToNat, Nat.reduceLT, reduceIte, Nat.reduceEqDiff, Nat.reduceAdd, Nat.reduceMul, Nat.reduceBEq, reduceCtorEq]) Kg1
 refine qq (Qt.pickOr rfl rfl rfl) ?_
 refine qq Qt.move ?_
 refine nm ?_
 apply AWL.cut 3
 ·intro Kg2
  refine AWL.splitF 18 rfl (fun g2 => ?_) (fun g2 => ?_)
  ·refine qg (nF g2) Qt.move ?_
   refine qg (nF g2) (Qt.lenH rfl rfl rfl sl34) ?_
   refine qg (nF g2) (Qt.binOp rfl rfl rfl) ?_
   refine nm ?_
   exact wj 21 [19, 20, 21] (ifF g2 _ undef) (by simp only [go_sem, Int.reduceToNat, Nat.reduceLT, reduceIte, Nat.reduceEqDiff, Nat.reduceAdd, Nat.reduceMul, Nat.reduceBEq, reduceCtorEq]; rfl) Kg2
  ·refine og (nT g2) ?_
   refine og (nT g2) ?_
   refine og (nT g2) ?_
   exact wj 21 [19, 20, 21] (ifT g2 undef _) (by simp only [go_sem, Int.reduceToNat, Nat.reduceLT, reduceIte, Nat.reduceEqDiff, Nat.reduceAdd, Nat.reduceMul, Nat.reduceBEq, reduceCtorEq]) Kg2
 refine qq (Qt.pickOr rfl rfl rfl) ?_
 refine qq Qt.move ?_
 apply AWL.cut 3
 ·intro Kg3
  refine AWL.splitF 23 rfl (fun g3 => ?_) (fun g3 => ?_)
  ·refine qg (nF g3) Qt.move ?_
   refine nm ?_
   refine AWL.step rfl (nF g3) (Stp.callV rfl (by decide) Try.call36 rfl rfl (l5Words_con _ hml)) ?_
   refine nm ?_
   refine qg (nF g3) (Qt.notB rfl) ?_
   exact wj 26 [24, 25, 26] (ifF g3 _ undef) (by simp only [go_sem, Int.reduceToNat, Nat.reduceLT, reduceIte, Nat.reduceEqDiff, Nat.reduceAdd, Nat.reduceMul, Nat.reduceBEq, reduceCtorEq]; rfl) Kg3
  ·refine og (nT g3) ?_
   refine og (nT g3) ?_
   refine og (nT g3) ?_
   exact wj 26 [24, 25, 26] (ifT g3 undef _) (by simp only [go_sem, Int.reduceToNat, Nat.reduceLT, reduceIte, Nat.reduceEqDiff, Nat.reduceAdd, Nat.reduceMul, Nat.reduceBEq, reduceCtorEq]) Kg3
 refine qq (Qt.pickOr rfl rfl rfl) ?_
 refine nl ?_
 refine AW.cond rfl (fun c4 => ?_) (fun c4 => ?_)
 ·have k4 := c4
  have hx : execOk p c mem = false := (execOk_eq p c mem).trans (congrArg not c4)
  have hm : execM p c mem = (⟨0, []⟩, didFault) := by unfold execM; rw [hx]; rfl
  refine AW.seq (AW.region ?_)
  refine qq (Qt.build rfl) ?_
  refine nm ?_
  refine qq (Qt.build rfl) ?_
  refine ss ?_
  refine nm ?_
  refine ss ?_
  refine nl ?_
  refine AW.ext 6 1 900 rfl (by decide) rfl rfl (by decide) ?_
  refine AW.rep 900 (tr (execM p c mem).1.Regs) rfl (by rw [hm]; exact sim_nil) ?_
  refine AW.ret (endQ_ret (.cons (.cellG 6 36 rfl rfl rfl ag36 sz36 (by decide)) (.cons (.cellG 7 40 rfl rfl rfl ag40 sz40 (by decide)) .nil)) ?_)
  rw [hm]
  refine ⟨fun _ => 900, rfl, nodup_of rfl, ?_⟩
  intro r hr
  cases List.mem_singleton.1 hr
  exact ⟨by simp, rootL_mem rfl⟩
 have k4 := c4
 have hx : execOk p c mem = true := (execOk_eq p c mem).trans (congrArg not c4)
 have hm : execM p c mem = execC p c mem := if_pos hx
 obtain ⟨hpc, hrl, hrr, hii⟩ := execFacts hx
 refine jd (AW.seq ?_)
 refine AW.draw [0, 1, 2, 4, 5, 7, 8, 10, 11, 12] rfl (by decide +kernel) ?_
 refine tk 0 rfl Qt.move ?_
 refine na ?_
 refine tk 1 rfl (fA fl36_0) ?_
 refine tk 2 rfl (Qt.load1 rfl rfl rfl ag3) ?_
 refine tk 4 rfl (fA fl36_1) ?_
 refine na ?_
 refine tk 5 rfl (Qt.load1 rfl rfl rfl ag34) ?_
 refine tk 8 rfl Qt.move ?_
 apply AWA.cutS #[true, true, true, true, true, true, true, true, true, true, true, true, true, true, true, false, false] [10, 11, 12]
 ·intro K3_9
  apply AWA.cutS #[true, true, true, true, true, true, true, true, true, true, true, true, true, false, true, false, false] [10, 11, 12]
  ·intro K3_8
   apply AWA.cutS #[true, true, true, true, true, true, true, true, true, true, true, true, true, true, false, false, false] [10, 11, 12]
   ·intro K3_7
    apply AWA.cutS #[true, true, true, true, true, true, true, true, true, false, false, false, false, true, true, false, false] [0, 1, 2, 7, 8]
    ·intro K3_6
     apply AWA.cutS #[true, true, true, true, true, true, true, true, true, false, false, false, false, false, true, false, false] [0, 1, 2, 7, 8]
     ·intro K3_5
      apply AWA.cutS #[true, true, true, true, true, true, true, true, true, false, false, false, false, true, false, false, false] [0, 1, 2, 7, 8]
      ·intro K3_4
       apply AWA.cutS #[true, true, true, true, true, true, false, false, true, false, false, false, false, true, true, false, false] [0, 1, 2, 4, 5, 8]
       ·intro K3_3
        apply AWA.cutS #[true, true, true, false, true, true, false, false, true, false, false, false, false, true, true, false, false] [0, 1, 2, 4, 5, 8]
        ·intro K3_2
         apply AWA.cutS #[true, true, true, true, true, true, false, false, true, false, false, false, false, false, true, false, false] [0, 1, 2, 4, 5, 8]
         ·intro K3_1
          apply AWA.cutS #[true, true, true, true, true, true, false, false, true, false, false, false, false, true, false, false, false] [0, 1, 2, 4, 5, 8]
          ·intro K3_0
           refine AWA.anyL [3, 13, 14] (by decide +kernel) rfl ⟨?_, ?_, ?_, trivial⟩
           ·refine AWA.arm 3 [0, 1, 2, 4, 5, 8] [] rfl rfl rfl (by decide +kernel) (by decide +kernel) (by decide +kernel) (Stp.buildSlice rfl (by decide) (by decide) rfl (by decide) rfl rfl rfl (nodup_of rfl)) ?_
            refine na ?_
            refine AWA.againE rfl rfl (by decide +kernel) (.on rfl rfl Qt.move) rfl ?_
            refine AWA.againE rfl rfl (by decide +kernel) (.on rfl rfl (fA fl36_0)) rfl ?_
            refine AWA.againE rfl rfl (by decide +kernel) (.on rfl rfl (Qt.load1 rfl rfl rfl ag3)) rfl ?_
            refine na ?_
            refine AWA.againE rfl rfl (by decide +kernel) (.on rfl rfl (fA fl36_1)) rfl ?_
            refine AWA.againE rfl rfl (by decide +kernel) (.on rfl rfl (Qt.load1 rfl rfl rfl ag34)) rfl ?_
            refine AWA.againE rfl rfl (by decide +kernel) (.on rfl rfl Qt.move) rfl ?_
            refine na ?_
            refine AWA.anyL [6, 13, 14] (by decide +kernel) rfl ⟨?_, ?_, ?_, trivial⟩
            ·refine AWA.arm 6 [0, 1, 2, 8] [5, 3, 4] rfl rfl rfl (by decide +kernel) (by decide +kernel) (by decide +kernel) (by first | exact Stp.appendC rfl (by decide) (by decide) rfl rfl (by omega) | exact Stp.appendM rfl (by decide) (by decide) rfl rfl rfl (by omega)) ?_
             refine na ?_
             refine AWA.againE rfl rfl (by decide +kernel) (.on rfl rfl Qt.move) rfl ?_
             refine AWA.againE rfl rfl (by decide +kernel) (.on rfl rfl (fA fl36_0)) rfl ?_
             refine AWA.againE rfl rfl (by decide +kernel) (.on rfl rfl (Qt.load1 rfl rfl rfl ag3)) rfl ?_
             refine na ?_
             refine AWA.againE rfl rfl (by decide +kernel) (.on rfl rfl Qt.move) rfl ?_
             refine na ?_
             refine AWA.rep 37 (tr c.Regs) rfl (app_nil (α := Int)) ?_
             refine na ?_
             refine AWA.take 7 rfl rfl rfl (by decide +kernel) (.on rfl rfl (Qt.build rfl)) ?_
             refine AWA.anyL [9, 13, 14] (by decide +kernel) rfl ⟨?_, ?_, ?_, trivial⟩
             ·refine AWA.arm 9 [] [8, 7, 6, 0, 2, 5, 3, 1, 4] rfl rfl rfl (by decide +kernel) (by decide +kernel) (by decide +kernel) (Stp.callH rfl (by decide) Try.call37 rfl (l5Exec_con p c mem hpc hrl hrr hii) rfl rfl rfl (nodup_of rfl) rfl rfl) ?_
              refine na ?_
              refine AWA.take 10 rfl rfl rfl (by decide +kernel) (.on rfl rfl Qt.move) ?_
              refine AWA.take 11 rfl rfl rfl (by decide +kernel) (.on rfl rfl (Qt.extract rfl (of_decide_eq_true rfl))) ?_
              refine AWA.take 12 rfl rfl rfl (by decide +kernel) (.on rfl rfl (Qt.extract rfl (of_decide_eq_true rfl))) ?_
              refine na ?_
              refine AWA.anyL [13, 14] (by decide +kernel) rfl ⟨?_, ?_, trivial⟩
              ·refine AWA.arm 13 [10, 11, 12] [] rfl rfl rfl (by decide +kernel) (by decide +kernel) (by decide +kernel) (Stp.alloc rfl (by decide) (by decide)) ?_
               refine na ?_
               refine AWA.againE rfl rfl (by decide +kernel) (.on rfl rfl Qt.move) rfl ?_
               refine AWA.againE rfl rfl (by decide +kernel) (.on rfl rfl (Qt.extract rfl (of_decide_eq_true rfl))) rfl ?_
               refine AWA.againE rfl rfl (by decide +kernel) (.on rfl rfl (Qt.extract rfl (of_decide_eq_true rfl))) rfl ?_
               refine na ?_
               exact AWA.use (by decide +kernel) (by decide +kernel) Weak.refl K3_7
              ·refine AWA.arm 14 [10, 11, 12] [] rfl rfl rfl (by decide +kernel) (by decide +kernel) (by decide +kernel) (Stp.alloc rfl (by decide) (by decide)) ?_
               refine na ?_
               refine AWA.againE rfl rfl (by decide +kernel) (.on rfl rfl Qt.move) rfl ?_
               refine AWA.againE rfl rfl (by decide +kernel) (.on rfl rfl (Qt.extract rfl (of_decide_eq_true rfl))) rfl ?_
               refine AWA.againE rfl rfl (by decide +kernel) (.on rfl rfl (Qt.extract rfl (of_decide_eq_true rfl))) rfl ?_
               refine na ?_
               exact AWA.use (by decide +kernel) (by decide +kernel) Weak.refl K3_8
             ·refine AWA.arm 13 [0, 1, 2, 7, 8] [] rfl rfl rfl (by decide +kernel) (by decide +kernel) (by decide +kernel) (Stp.alloc rfl (by decide) (by decide)) ?_
              refine na ?_
              refine AWA.againE rfl rfl (by decide +kernel) (.on rfl rfl Qt.move) rfl ?_
              refine AWA.againE rfl rfl (by decide +kernel) (.on rfl rfl (fA fl36_0)) rfl ?_
              refine AWA.againE rfl rfl (by decide +kernel) (.on rfl rfl (Qt.load1 rfl rfl rfl ag3)) rfl ?_
              refine na ?_
              refine AWA.againE rfl rfl (by decide +kernel) (.on rfl rfl (Qt.build rfl)) rfl ?_
              refine AWA.againE rfl rfl (by decide +kernel) (.on rfl rfl Qt.move) rfl ?_
              refine na ?_
              exact AWA.use (by decide +kernel) (by decide +kernel) Weak.refl K3_4
             ·refine AWA.arm 14 [0, 1, 2, 7, 8] [] rfl rfl rfl (by decide +kernel) (by decide +kernel) (by decide +kernel) (Stp.alloc rfl (by decide) (by decide)) ?_
              refine na ?_
              refine AWA.againE rfl rfl (by decide +kernel) (.on rfl rfl Qt.move) rfl ?_
              refine AWA.againE rfl rfl (by decide +kernel) (.on rfl rfl (fA fl36_0)) rfl ?_
              refine AWA.againE rfl rfl (by decide +kernel) (.on rfl rfl (Qt.load1 rfl rfl rfl ag3)) rfl ?_
              refine na ?_
              refine AWA.againE rfl rfl (by decide +kernel) (.on rfl rfl (Qt.build rfl)) rfl ?_
              refine AWA.againE rfl rfl (by decide +kernel) (.on rfl rfl Qt.move) rfl ?_
              refine na ?_
              exact AWA.use (by decide +kernel) (by decide +kernel) Weak.refl K3_5
            ·refine AWA.arm 13 [0, 1, 2, 4, 5, 8] [] rfl rfl rfl (by decide +kernel) (by decide +kernel) (by decide +kernel) (Stp.alloc rfl (by decide) (by decide)) ?_
             refine na ?_
             refine AWA.againE rfl rfl (by decide +kernel) (.on rfl rfl Qt.move) rfl ?_
             refine AWA.againE rfl rfl (by decide +kernel) (.on rfl rfl (fA fl36_0)) rfl ?_
             refine AWA.againE rfl rfl (by decide +kernel) (.on rfl rfl (Qt.load1 rfl rfl rfl ag3)) rfl ?_
             refine na ?_
             refine AWA.againE rfl rfl (by decide +kernel) (.on rfl rfl (fA fl36_1)) rfl ?_
             refine AWA.againE rfl rfl (by decide +kernel) (.on rfl rfl (Qt.load1 rfl rfl rfl ag34)) rfl ?_
             refine AWA.againE rfl rfl (by decide +kernel) (.on rfl rfl Qt.move) rfl ?_
             refine na ?_
             exact AWA.use (by decide +kernel) (by decide +kernel) Weak.refl K3_0
            ·refine AWA.arm 14 [0, 1, 2, 4, 5, 8] [] rfl rfl rfl (by decide +kernel) (by decide +kernel) (by decide +kernel) (Stp.alloc rfl (by decide) (by decide)) ?_
             refine na ?_
             refine AWA.againE rfl rfl (by decide +kernel) (.on rfl rfl Qt.move) rfl ?_
             refine AWA.againE rfl rfl (by decide +kernel) (.on rfl rfl (fA fl36_0)) rfl ?_
             refine AWA.againE rfl rfl (by decide +kernel) (.on rfl rfl (Qt.load1 rfl rfl rfl ag3)) rfl ?_
             refine na ?_
             refine AWA.againE rfl rfl (by decide +kernel) (.on rfl rfl (fA fl36_1)) rfl ?_
             refine AWA.againE rfl rfl (by decide +kernel) (.on rfl rfl (Qt.load1 rfl rfl rfl ag34)) rfl ?_
             refine AWA.againE rfl rfl (by decide +kernel) (.on rfl rfl Qt.move) rfl ?_
             refine na ?_
             exact AWA.use (by decide +kernel) (by decide +kernel) Weak.refl K3_1
           ·refine AWA.arm 13 [0, 1, 2, 4, 5, 8] [] rfl rfl rfl (by decide +kernel) (by decide +kernel) (by decide +kernel) (Stp.alloc rfl (by decide) (by decide)) ?_
            refine na ?_
            refine AWA.againE rfl rfl (by decide +kernel) (.on rfl rfl Qt.move) rfl ?_
            refine AWA.againE rfl rfl (by decide +kernel) (.on rfl rfl (fA fl36_0)) rfl ?_
            refine AWA.againE rfl rfl (by decide +kernel) (.on rfl rfl (Qt.load1 rfl rfl rfl ag3)) rfl ?_
            refine na ?_
            refine AWA.againE rfl rfl (by decide +kernel) (.on rfl rfl (fA fl36_1)) rfl ?_
            refine AWA.againE rfl rfl (by decide +kernel) (.on rfl rfl (Qt.load1 rfl rfl rfl ag34)) rfl ?_
            refine AWA.againE rfl rfl (by decide +kernel) (.on rfl rfl Qt.move) rfl ?_
            refine na ?_
            refine AWA.anyL [3, 14] (by decide +kernel) rfl ⟨?_, ?_, trivial⟩
            ·refine AWA.arm 3 [0, 1, 2, 4, 5, 8] [] rfl rfl rfl (by decide +kernel) (by decide +kernel) (by decide +kernel) (Stp.buildSlice rfl (by decide) (by decide) rfl (by decide) rfl rfl rfl (nodup_of rfl)) ?_
             refine na ?_
             refine AWA.againE rfl rfl (by decide +kernel) (.on rfl rfl Qt.move) rfl ?_
             refine AWA.againE rfl rfl (by decide +kernel) (.on rfl rfl (fA fl36_0)) rfl ?_
             refine AWA.againE rfl rfl (by decide +kernel) (.on rfl rfl (Qt.load1 rfl rfl rfl ag3)) rfl ?_
             refine na ?_
             refine AWA.againE rfl rfl (by decide +kernel) (.on rfl rfl (fA fl36_1)) rfl ?_
             refine AWA.againE rfl rfl (by decide +kernel) (.on rfl rfl (Qt.load1 rfl rfl rfl ag34)) rfl ?_
             refine AWA.againE rfl rfl (by decide +kernel) (.on rfl rfl Qt.move) rfl ?_
             refine na ?_
             exact AWA.use (by decide +kernel) (by decide +kernel) (Weak.sim (by repeat (first | exact trivial | refine ⟨rfl, ?_⟩ | refine ⟨⟨_, rfl, T.sim_refl _⟩, ?_⟩ | refine ⟨⟨rfl, rfl⟩, ?_⟩)) rfl rfl) K3_0
            ·refine AWA.arm 14 [0, 1, 2, 4, 5, 8] [] rfl rfl rfl (by decide +kernel) (by decide +kernel) (by decide +kernel) (Stp.alloc rfl (by decide) (by decide)) ?_
             refine na ?_
             refine AWA.againE rfl rfl (by decide +kernel) (.on rfl rfl Qt.move) rfl ?_
             refine AWA.againE rfl rfl (by decide +kernel) (.on rfl rfl (fA fl36_0)) rfl ?_
             refine AWA.againE rfl rfl (by decide +kernel) (.on rfl rfl (Qt.load1 rfl rfl rfl ag3)) rfl ?_
             refine na ?_
             refine AWA.againE rfl rfl (by decide +kernel) (.on rfl rfl (fA fl36_1)) rfl ?_
             refine AWA.againE rfl rfl (by decide +kernel) (.on rfl rfl (Qt.load1 rfl rfl rfl ag34)) rfl ?_
             refine AWA.againE rfl rfl (by decide +kernel) (.on rfl rfl Qt.move) rfl ?_
             refine na ?_
             exact AWA.use (by decide +kernel) (by decide +kernel) Weak.refl K3_2
           ·refine AWA.arm 14 [0, 1, 2, 4, 5, 8] [] rfl rfl rfl (by decide +kernel) (by decide +kernel) (by decide +kernel) (Stp.alloc rfl (by decide) (by decide)) ?_
            refine na ?_
            refine AWA.againE rfl rfl (by decide +kernel) (.on rfl rfl Qt.move) rfl ?_
            refine AWA.againE rfl rfl (by decide +kernel) (.on rfl rfl (fA fl36_0)) rfl ?_
            refine AWA.againE rfl rfl (by decide +kernel) (.on rfl rfl (Qt.load1 rfl rfl rfl ag3)) rfl ?_
            refine na ?_
            refine AWA.againE rfl rfl (by decide +kernel) (.on rfl rfl (fA fl36_1)) rfl ?_
            refine AWA.againE rfl rfl (by decide +kernel) (.on rfl rfl (Qt.load1 rfl rfl rfl ag34)) rfl ?_
            refine AWA.againE rfl rfl (by decide +kernel) (.on rfl rfl Qt.move) rfl ?_
            refine na ?_
            refine AWA.anyL [3, 13] (by decide +kernel) rfl ⟨?_, ?_, trivial⟩
            ·refine AWA.arm 3 [0, 1, 2, 4, 5, 8] [] rfl rfl rfl (by decide +kernel) (by decide +kernel) (by decide +kernel) (Stp.buildSlice rfl (by decide) (by decide) rfl (by decide) rfl rfl rfl (nodup_of rfl)) ?_
             refine na ?_
             refine AWA.againE rfl rfl (by decide +kernel) (.on rfl rfl Qt.move) rfl ?_
             refine AWA.againE rfl rfl (by decide +kernel) (.on rfl rfl (fA fl36_0)) rfl ?_
             refine AWA.againE rfl rfl (by decide +kernel) (.on rfl rfl (Qt.load1 rfl rfl rfl ag3)) rfl ?_
             refine na ?_
             refine AWA.againE rfl rfl (by decide +kernel) (.on rfl rfl (fA fl36_1)) rfl ?_
             refine AWA.againE rfl rfl (by decide +kernel) (.on rfl rfl (Qt.load1 rfl rfl rfl ag34)) rfl ?_
             refine AWA.againE rfl rfl (by decide +kernel) (.on rfl rfl Qt.move) rfl ?_
             refine na ?_
             exact AWA.use (by decide +kernel) (by decide +kernel) (Weak.sim (by repeat (first | exact trivial | refine ⟨rfl, ?_⟩ | refine ⟨⟨_, rfl, T.sim_refl _⟩, ?_⟩ | refine ⟨⟨rfl, rfl⟩, ?_⟩)) rfl rfl) K3_1
            ·refine AWA.arm 13 [0, 1, 2, 4, 5, 8] [] rfl rfl rfl (by decide +kernel) (by decide +kernel) (by decide +kernel) (Stp.alloc rfl (by decide) (by decide)) ?_
             refine na ?_
             refine AWA.againE rfl rfl (by decide +kernel) (.on rfl rfl Qt.move) rfl ?_
             refine AWA.againE rfl rfl (by decide +kernel) (.on rfl rfl (fA fl36_0)) rfl ?_
             refine AWA.againE rfl rfl (by decide +kernel) (.on rfl rfl (Qt.load1 rfl rfl rfl ag3)) rfl ?_
             refine na ?_
             refine AWA.againE rfl rfl (by decide +kernel) (.on rfl rfl (fA fl36_1)) rfl ?_
             refine AWA.againE rfl rfl (by decide +kernel) (.on rfl rfl (Qt.load1 rfl rfl rfl ag34)) rfl ?_
             refine AWA.againE rfl rfl (by decide +kernel) (.on rfl rfl Qt.move) rfl ?_
             refine na ?_
             exact AWA.use (by decide +kernel) (by decide +kernel) (Weak.sim (by repeat (first | exact trivial | refine ⟨rfl, ?_⟩ | refine ⟨⟨_, rfl, T.sim_refl _⟩, ?_⟩ | refine ⟨⟨rfl, rfl⟩, ?_⟩)) rfl rfl) K3_2
          ·refine AWA.anyL [6, 14] (by decide +kernel) rfl ⟨?_, ?_, trivial⟩
           ·refine AWA.arm 6 [0, 1, 2, 8] [5, 3, 4] rfl rfl rfl (by decide +kernel) (by decide +kernel) (by decide +kernel) (by first | exact Stp.appendC rfl (by decide) (by decide) rfl rfl (by omega) | exact Stp.appendM rfl (by decide) (by decide) rfl rfl rfl (by omega)) ?_
            refine na ?_
            refine AWA.againE rfl rfl (by decide +kernel) (.on rfl rfl Qt.move) rfl ?_
            refine AWA.againE rfl rfl (by decide +kernel) (.on rfl rfl (fA fl36_0)) rfl ?_
            refine AWA.againE rfl rfl (by decide +kernel) (.on rfl rfl (Qt.load1 rfl rfl rfl ag3)) rfl ?_
            refine na ?_
            refine AWA.againE rfl rfl (by decide +kernel) (.on rfl rfl Qt.move) rfl ?_
            refine na ?_
            refine AWA.rep 37 (tr c.Regs) rfl (app_nil (α := Int)) ?_
            refine na ?_
            refine AWA.take 7 rfl rfl rfl (by decide +kernel) (.on rfl rfl (Qt.build rfl)) ?_
            refine na ?_
            exact AWA.use (by decide +kernel) (by decide +kernel) (Weak.sim (by repeat (first | exact trivial | refine ⟨rfl, ?_⟩ | refine ⟨⟨_, rfl, T.sim_refl _⟩, ?_⟩ | refine ⟨⟨rfl, rfl⟩, ?_⟩)) rfl rfl) K3_4
           ·refine AWA.arm 14 [0, 1, 2, 4, 5, 8] [] rfl rfl rfl (by decide +kernel) (by decide +kernel) (by decide +kernel) (Stp.alloc rfl (by decide) (by decide)) ?_
            refine na ?_
            refine AWA.againE rfl rfl (by decide +kernel) (.on rfl rfl Qt.move) rfl ?_
            refine AWA.againE rfl rfl (by decide +kernel) (.on rfl rfl (fA fl36_0)) rfl ?_
            refine AWA.againE rfl rfl (by decide +kernel) (.on rfl rfl (Qt.load1 rfl rfl rfl ag3)) rfl ?_
            refine na ?_
            refine AWA.againE rfl rfl (by decide +kernel) (.on rfl rfl (fA fl36_1)) rfl ?_
            refine AWA.againE rfl rfl (by decide +kernel) (.on rfl rfl (Qt.load1 rfl rfl rfl ag34)) rfl ?_
            refine AWA.againE rfl rfl (by decide +kernel) (.on rfl rfl Qt.move) rfl ?_
            refine na ?_
            exact AWA.use (by decide +kernel) (by decide +kernel) Weak.refl K3_3
         ·refine AWA.anyL [6, 13] (by decide +kernel) rfl ⟨?_, ?_, trivial⟩
          ·refine AWA.arm 6 [0, 1, 2, 8] [5, 3, 4] rfl rfl rfl (by decide +kernel) (by decide +kernel) (by decide +kernel) (by first | exact Stp.appendC rfl (by decide) (by decide) rfl rfl (by omega) | exact Stp.appendM rfl (by decide) (by decide) rfl rfl rfl (by omega)) ?_
           refine na ?_
           refine AWA.againE rfl rfl (by decide +kernel) (.on rfl rfl Qt.move) rfl ?_
           refine AWA.againE rfl rfl (by decide +kernel) (.on rfl rfl (fA fl36_0)) rfl ?_
           refine AWA.againE rfl rfl (by decide +kernel) (.on rfl rfl (Qt.load1 rfl rfl rfl ag3)) rfl ?_
           refine na ?_
           refine AWA.againE rfl rfl (by decide +kernel) (.on rfl rfl Qt.move) rfl ?_
           refine na ?_
           refine AWA.rep 37 (tr c.Regs) rfl (app_nil (α := Int)) ?_
           refine na ?_
           refine AWA.take 7 rfl rfl rfl (by decide +kernel) (.on rfl rfl (Qt.build rfl)) ?_
           refine na ?_
           exact AWA.use (by decide +kernel) (by decide +kernel) (Weak.sim (by repeat (first | exact trivial | refine ⟨rfl, ?_⟩ | refine ⟨⟨_, rfl, T.sim_refl _⟩, ?_⟩ | refine ⟨⟨rfl, rfl⟩, ?_⟩)) rfl rfl) K3_5
          ·refine AWA.arm 13 [0, 1, 2, 4, 5, 8] [] rfl rfl rfl (by decide +kernel) (by decide +kernel) (by decide +kernel) (Stp.alloc rfl (by decide) (by decide)) ?_
           refine na ?_
           refine AWA.againE rfl rfl (by decide +kernel) (.on rfl rfl Qt.move) rfl ?_
           refine AWA.againE rfl rfl (by decide +kernel) (.on rfl rfl (fA fl36_0)) rfl ?_
           refine AWA.againE rfl rfl (by decide +kernel) (.on rfl rfl (Qt.load1 rfl rfl rfl ag3)) rfl ?_
           refine na ?_
           refine AWA.againE rfl rfl (by decide +kernel) (.on rfl rfl (fA fl36_1)) rfl ?_
           refine AWA.againE rfl rfl (by decide +kernel) (.on rfl rfl (Qt.load1 rfl rfl rfl ag34)) rfl ?_
           refine AWA.againE rfl rfl (by decide +kernel) (.on rfl rfl Qt.move) rfl ?_
           refine na ?_
           exact AWA.use (by decide +kernel) (by decide +kernel) (Weak.sim (by repeat (first | exact trivial | refine ⟨rfl, ?_⟩ | refine ⟨⟨_, rfl, T.sim_refl _⟩, ?_⟩ | refine ⟨⟨rfl, rfl⟩, ?_⟩)) rfl rfl) K3_3
        ·refine AWA.one 3 [0, 1, 2, 4, 5, 8] [] (by decide +kernel) rfl rfl rfl (by decide +kernel) (by decide +kernel) (by decide +kernel) (Stp.buildSlice rfl (by decide) (by decide) rfl (by decide) rfl rfl rfl (nodup_of rfl)) ?_
         refine na ?_
         refine AWA.againE rfl rfl (by decide +kernel) (.on rfl rfl Qt.move) rfl ?_
         refine AWA.againE rfl rfl (by decide +kernel) (.on rfl rfl (fA fl36_0)) rfl ?_
         refine AWA.againE rfl rfl (by decide +kernel) (.on rfl rfl (Qt.load1 rfl rfl rfl ag3)) rfl ?_
         refine na ?_
         refine AWA.againE rfl rfl (by decide +kernel) (.on rfl rfl (fA fl36_1)) rfl ?_
         refine AWA.againE rfl rfl (by decide +kernel) (.on rfl rfl (Qt.load1 rfl rfl rfl ag34)) rfl ?_
         refine AWA.againE rfl rfl (by decide +kernel) (.on rfl rfl Qt.move) rfl ?_
         refine na ?_
         exact AWA.use (by decide +kernel) (by decide +kernel) (Weak.sim (by repeat (first | exact trivial | refine ⟨rfl, ?_⟩ | refine ⟨⟨_, rfl, T.sim_refl _⟩, ?_⟩ | refine ⟨⟨rfl, rfl⟩, ?_⟩)) rfl rfl) K3_3
       ·refine AWA.one 6 [0, 1, 2, 8] [5, 3, 4] (by decide +kernel) rfl rfl rfl (by decide +kernel) (by decide +kernel) (by decide +kernel) (by first | exact Stp.appendC rfl (by decide) (by decide) rfl rfl (by omega) | exact Stp.appendM rfl (by decide) (by decide) rfl rfl rfl (by omega)) ?_
        refine na ?_
        refine AWA.againE rfl rfl (by decide +kernel) (.on rfl rfl Qt.move) rfl ?_
        refine AWA.againE rfl rfl (by decide +kernel) (.on rfl rfl (fA fl36_0)) rfl ?_
        refine AWA.againE rfl rfl (by decide +kernel) (.on rfl rfl (Qt.load1 rfl rfl rfl ag3)) rfl ?_
        refine na ?_
        refine AWA.againE rfl rfl (by decide +kernel) (.on rfl rfl Qt.move) rfl ?_
        refine na ?_
        refine AWA.rep 37 (tr c.Regs) rfl (app_nil (α := Int)) ?_
        refine na ?_
        refine AWA.take 7 rfl rfl rfl (by decide +kernel) (.on rfl rfl (Qt.build rfl)) ?_
        refine na ?_
        exact AWA.use (by decide +kernel) (by decide +kernel) Weak.refl K3_6
      ·refine AWA.anyL [9, 14] (by decide +kernel) rfl ⟨?_, ?_, trivial⟩
       ·refine AWA.arm 9 [] [8, 7, 6, 0, 2, 5, 3, 1, 4] rfl rfl rfl (by decide +kernel) (by decide +kernel) (by decide +kernel) (Stp.callH rfl (by decide) Try.call37 rfl (l5Exec_con p c mem hpc hrl hrr hii) rfl rfl rfl (nodup_of rfl) rfl rfl) ?_
        refine na ?_
        refine AWA.take 10 rfl rfl rfl (by decide +kernel) (.on rfl rfl Qt.move) ?_
        refine AWA.take 11 rfl rfl rfl (by decide +kernel) (.on rfl rfl (Qt.extract rfl (of_decide_eq_true rfl))) ?_
        refine AWA.take 12 rfl rfl rfl (by decide +kernel) (.on rfl rfl (Qt.extract rfl (of_decide_eq_true rfl))) ?_
        refine na ?_
        refine na ?_
        exact AWA.use (by decide +kernel) (by decide +kernel) (Weak.sim (by repeat (first | exact trivial | refine ⟨rfl, ?_⟩ | refine ⟨⟨_, rfl, T.sim_refl _⟩, ?_⟩ | refine ⟨⟨rfl, rfl⟩, ?_⟩)) rfl rfl) K3_7
       ·refine AWA.arm 14 [0, 1, 2, 7, 8] [] rfl rfl rfl (by decide +kernel) (by decide +kernel) (by decide +kernel) (Stp.alloc rfl (by decide) (by decide)) ?_
        refine na ?_
        refine AWA.againE rfl rfl (by decide +kernel) (.on rfl rfl Qt.move) rfl ?_
        refine AWA.againE rfl rfl (by decide +kernel) (.on rfl rfl (fA fl36_0)) rfl ?_
        refine AWA.againE rfl rfl (by decide +kernel) (.on rfl rfl (Qt.load1 rfl rfl rfl ag3)) rfl ?_
        refine na ?_
        refine AWA.againE rfl rfl (by decide +kernel) (.on rfl rfl (Qt.build rfl)) rfl ?_
        refine AWA.againE rfl rfl (by decide +kernel) (.on rfl rfl Qt.move) rfl ?_
        refine na ?_
        exact AWA.use (by decide +kernel) (by decide +kernel) (Weak.sim (by repeat (first | exact trivial | refine ⟨rfl, ?_⟩ | refine ⟨⟨_, rfl, T.sim_refl _⟩, ?_⟩ | refine ⟨⟨rfl, rfl⟩, ?_⟩)) rfl rfl) K3_6
     ·refine AWA.anyL [9, 13] (by decide +kernel) rfl ⟨?_, ?_, trivial⟩
      ·refine AWA.arm 9 [] [8, 7, 6, 0, 2, 5, 3, 1, 4] rfl rfl rfl (by decide +kernel) (by decide +kernel) (by decide +kernel) (Stp.callH rfl (by decide) Try.call37 rfl (l5Exec_con p c mem hpc hrl hrr hii) rfl rfl rfl (nodup_of rfl) rfl rfl) ?_
       refine na ?_
       refine AWA.take 10 rfl rfl rfl (by decide +kernel) (.on rfl rfl Qt.move) ?_
       refine AWA.take 11 rfl rfl rfl (by decide +kernel) (.on rfl rfl (Qt.extract rfl (of_decide_eq_true rfl))) ?_
       refine AWA.take 12 rfl rfl rfl (by decide +kernel) (.on rfl rfl (Qt.extract rfl (of_decide_eq_true rfl))) ?_
       refine na ?_
       refine na ?_
       exact AWA.use (by decide +kernel) (by decide +kernel) (Weak.sim (by repeat (first | exact trivial | refine ⟨rfl, ?_⟩ | refine ⟨⟨_, rfl, T.sim_refl _⟩, ?_⟩ | refine ⟨⟨rfl, rfl⟩, ?_⟩)) rfl rfl) K3_8
      ·refine AWA.arm 13 [0, 1, 2, 7, 8] [] rfl rfl rfl (by decide +kernel) (by decide +kernel) (by decide +kernel) (Stp.alloc rfl (by decide) (by decide)) ?_
       refine na ?_
       refine AWA.againE rfl rfl (by decide +kernel) (.on rfl rfl Qt.move) rfl ?_
       refine AWA.againE rfl rfl (by decide +kernel) (.on rfl rfl (fA fl36_0)) rfl ?_
       refine AWA.againE rfl rfl (by decide +kernel) (.on rfl rfl (Qt.load1 rfl rfl rfl ag3)) rfl ?_
       refine na ?_
       refine AWA.againE rfl rfl (by decide +kernel) (.on rfl rfl (Qt.build rfl)) rfl ?_
       refine AWA.againE rfl rfl (by decide +kernel) (.on rfl rfl Qt.move) rfl ?_
       refine na ?_
       exact AWA.use (by decide +kernel) (by decide +kernel) (Weak.sim (by repeat (first | exact trivial | refine ⟨rfl, ?_⟩ | refine ⟨⟨_, rfl, T.sim_refl _⟩, ?_⟩ | refine ⟨⟨rfl, rfl⟩, ?_⟩)) rfl rfl) K3_6
    ·refine AWA.one 9 [] [8, 7, 6, 0, 2, 5, 3, 1, 4] (by decide +kernel) rfl rfl rfl (by decide +kernel) (by decide +kernel) (by decide +kernel) (Stp.callH rfl (by decide) Try.call37 rfl (l5Exec_con p c mem hpc hrl hrr hii) rfl rfl rfl (nodup_of rfl) rfl rfl) ?_
     refine na ?_
     refine AWA.take 10 rfl rfl rfl (by decide +kernel) (.on rfl rfl Qt.move) ?_
     refine AWA.take 11 rfl rfl rfl (by decide +kernel) (.on rfl rfl (Qt.extract rfl (of_decide_eq_true rfl))) ?_
     refine AWA.take 12 rfl rfl rfl (by decide +kernel) (.on rfl rfl (Qt.extract rfl (of_decide_eq_true rfl))) ?_
     refine na ?_
     refine na ?_
     exact AWA.use (by decide +kernel) (by decide +kernel) Weak.refl K3_9
   ·refine AWA.one 14 [10, 11, 12] [] (by decide +kernel) rfl rfl rfl (by decide +kernel) (by decide +kernel) (by decide +kernel) (Stp.alloc rfl (by decide) (by decide)) ?_
    refine na ?_
    refine AWA.againE rfl rfl (by decide +kernel) (.on rfl rfl Qt.move) rfl ?_
    refine AWA.againE rfl rfl (by decide +kernel) (.on rfl rfl (Qt.extract rfl (of_decide_eq_true rfl))) rfl ?_
    refine AWA.againE rfl rfl (by decide +kernel) (.on rfl rfl (Qt.extract rfl (of_decide_eq_true rfl))) rfl ?_
    refine na ?_
    exact AWA.use (by decide +kernel) (by decide +kernel) (Weak.sim (by repeat (first | exact trivial | refine ⟨rfl, ?_⟩ | refine ⟨⟨_, rfl, T.sim_refl _⟩, ?_⟩ | refine ⟨⟨rfl, rfl⟩, ?_⟩)) rfl rfl) K3_9
  ·refine AWA.one 13 [10, 11, 12] [] (by decide +kernel) rfl rfl rfl (by decide +kernel) (by decide +kernel) (by decide +kernel) (Stp.alloc rfl (by decide) (by decide)) ?_
   refine na ?_
   refine AWA.againE rfl rfl (by decide +kernel) (.on rfl rfl Qt.move) rfl ?_
   refine AWA.againE rfl rfl (by decide +kernel) (.on rfl rfl (Qt.extract rfl (of_decide_eq_true rfl))) rfl ?_
   refine AWA.againE rfl rfl (by decide +kernel) (.on rfl rfl (Qt.extract rfl (of_decide_eq_true rfl))) rfl ?_
   refine na ?_
   exact AWA.use (by decide +kernel) (by decide +kernel) (Weak.sim (by repeat (first | exact trivial | refine ⟨rfl, ?_⟩ | refine ⟨⟨_, rfl, T.sim_refl _⟩, ?_⟩ | refine ⟨⟨rfl, rfl⟩, ?_⟩)) rfl rfl) K3_9
 ·refine AWA.one 15 [12] [14, 13, 11, 10, 9, 8, 7, 6, 5, 4, 3, 2, 1, 0] (by decide +kernel) rfl rfl rfl (by decide +kernel) (by decide +kernel) (by decide +kernel) (by first | exact Stp.storeA rfl rfl rfl rfl (by decide) rfl | exact Stp.store rfl rfl (by simp) rfl rfl rfl (by decide) rfl) ?_
  refine na ?_
  refine AWA.againE rfl rfl (by decide +kernel) (.on rfl rfl (Qt.extract rfl (of_decide_eq_true rfl))) rfl ?_
  refine na ?_
  refine AWA.one 16 [] [15, 14, 13, 12, 11, 10, 9, 8, 7, 6, 5, 4, 3, 2, 1, 0] (by decide +kernel) rfl rfl rfl (by decide +kernel) (by decide +kernel) (by decide +kernel) (by first | exact Stp.storeA rfl rfl rfl rfl (by decide) rfl | exact Stp.store rfl rfl (by simp) rfl rfl rfl (by decide) rfl) ?_
  refine na ?_
  refine nz ?_
  refine AW.seq ?_
  refine AW.draw [0, 1] rfl (by decide +kernel) ?_
  refine tk 0 rfl (Qt.loadG rfl rfl rfl ag36 sz36 (by decide)) ?_
  refine na ?_
  refine tk 1 rfl (Qt.loadG rfl rfl rfl ag40 sz40 (by decide)) ?_
  refine a1 2 [1] [0] rfl rfl (by first | exact Stp.storeA rfl rfl rfl rfl (by decide) rfl | exact Stp.store rfl rfl (by simp) rfl rfl rfl (by decide) rfl) ?_
  refine na ?_
  refine AWA.againE rfl rfl (by decide +kernel) (.on rfl rfl (Qt.loadG rfl rfl rfl ag40 sz40 (by decide))) rfl ?_
  refine na ?_
  refine a1 3 [] [2, 1, 0] rfl rfl (by first | exact Stp.storeA rfl rfl rfl rfl (by decide) rfl | exact Stp.store rfl rfl (by simp) rfl rfl rfl (by decide) rfl) ?_
  refine na ?_
  refine na ?_
  refine nz ?_
  refine AW.ret (endQ_ret (.cons (.cellG 6 36 rfl rfl rfl ag36 sz36 (by decide)) (.cons (.cellG 7 40 rfl rfl rfl ag40 sz40 (by decide)) .nil)) ?_)
  rw [hm]
  refine ⟨fun _ => 37, rfl, nodup_of rfl, ?_⟩
  intro r hr
  cases List.mem_singleton.1 hr
  exact ⟨by simp, rootL_mem rfl⟩
end Go.Proofs.Ytbchjcapphclgaa.VM
