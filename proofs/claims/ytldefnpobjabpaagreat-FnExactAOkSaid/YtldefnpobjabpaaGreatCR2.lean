/- Contracts of functions of the program. No conditions beyond those that each states. -/
import Derived.Test.YtldefnpobjabpaaGreatCU9
import Derived.Test.YtldefnpobjabpaaGreatCQ12
import Derived.Test.YtldefnpobjabpaaGreatCR1
set_option linter.all false
set_option maxHeartbeats 8000000
set_option maxRecDepth 10000
namespace Go.Proofs.YtldefnpobjabpaaGreat.VM
open Go Go.RowKit Go.Proofs
theorem sim_rep (n : Nat) : (T.s 1 n fun _ j => [T.v (.bool false)].getD j .j).sim (tr (List.replicate n false)) := by
 refine ⟨fun k c => (En.cs ((List.replicate n false).getD k En.dflt)).getD c .j, by simp only [tr, List.length_replicate]; rfl, fun k c hk hc => ?_⟩
 match c, hc with
 | 0, _ =>
  show T.sim (.v (.bool false)) (.v (.bool ((List.replicate n false).getD k En.dflt)))
  rw [show (List.replicate n false).getD k En.dflt = false by simp [List.getD_eq_getElem?_getD, List.getElem?_replicate, hk]]
  exact T.sim_refl _
 | c + 1, hc => exact absurd hc (by omega)
theorem AOkS_con (a : DArrays) (hw : Mk.wt a ≤ 1048576) : Con Tryz.prog 16 [.g [.v (iv a.Next), .v (iv a.Tick), .h base [], .h (base + 1) [], .h (base + 2) [], .h (base + 3) [], .h (base + 4) [], .h (base + 5) [], .h (base + 6) [], .v (.bool a.Ready.Used), .h (base + 7) [], .v (iv a.Ready.Head), .v (iv a.Ready.Len), .h (base + 8) []]] [.rt base .ro (tr a.Progs), .rt (base + 1) .ro (tr a.Slots), .rt (base + 2) .ro (tr a.Ram), .rt (base + 3) .ro (tr a.Map), .rt (base + 4) .ro (tr a.Opens), .rt (base + 5) .ro (tr a.Pipes), .rt (base + 6) .ro (tr a.Files), .rt (base + 7) .ro (tr a.Ready.Buf), .rt (base + 8) .ro (tr a.Out)] (fun y _ => y = .v (.bool (aOk a))) := by
 refine ob Tryz.func16 Tryz.ntmps16 ?_
 refine AW.len (base + 1) [] rfl (by simp [Okp]) rfl (fun hl1 => ?_)
 refine AW.len (base + 3) [] rfl (by simp [Okp]) rfl (fun hl3 => ?_)
 refine sr ?_
 refine bx ?_
 refine nm ?_
 refine qn ?_
 refine sr2 ?_
 refine qG ag48 sz48 ?_
 refine cv Tryz.call33 rfl rfl (l12Shape_con a) ?_
 refine nm ?_
 refine qq (Qt.notB rfl) ?_
 refine qm ?_
 refine AWL.split 12 rfl (fun g1 => ?_) (fun g1 => ?_)
 ·have eg1 := g1
  try simp only [cnd] at eg1
  refine og (nT g1) ?_
  refine og (nT g1) ?_
  refine og (nT g1) ?_
  refine og (nT g1) ?_
  refine qq (Qt.pickT rfl g1) ?_
  refine nl ?_
  refine AW.cond rfl (fun c2 => ?_) (fun c2 => (by exfalso; first | (cases c2; done) | (simp at c2; done) | (simp only [cnd] at c2; omega)))
  try simp only [cnd] at c2
  have hsh : shapeA a = false := by simpa using g1
  refine sr ?_
  refine qr 2 ?_
  rw [show aOk a = false from aOk_shape hsh]
  rfl
 have eg1 := g1
 try simp only [cnd] at eg1
 refine qg (nF g1) (Qt.loadG rfl rfl rfl ag48 sz48 (by decide)) ?_
 have hsh : shapeA a = true := by simpa using g1
 have hS := shpA hsh
 have hs1 := hS.slots
 have hml := map_len hsh
 refine nm ?_
 refine AWL.step rfl (nF g1) (Stp.callR rfl (by decide) Tryz.call34 rfl rfl (l12Abs_con a (shpA hsh) hw) (nodup_of rfl) rfl rfl) ?_
 refine nm ?_
 refine AWL.step rfl (nF g1) (Stp.callV rfl (by decide) Tryz.call81 rfl rfl (UnixOkS_con (absU a) (unixB_abs (shpA hsh)))) ?_
 refine nm ?_
 refine qg (nF g1) (Qt.notB rfl) ?_
 refine qq (Qt.pickF rfl g1) ?_
 refine nc (fun c3 => ?_) fun c3 => ?_
 ·have k3 := c3
  try simp only [cnd] at c3
  have hU : unixOk (absU a) = false := by simpa using k3
  refine sr ?_
  refine qr 2 ?_
  rw [show aOk a = false from aOk_unix hU]
  rfl
 have k3 := c3
 try simp only [cnd] at c3
 have hU : unixOk (absU a) = true := by simpa using k3
 refine jd (sr ?_)
 refine sp (Stp.makeSlice rfl (by decide) (by decide) rfl rfl (by omega) (by omega) (by omega)) ?_
 refine nm ?_
 refine qn ?_
 refine sr2 ?_
 refine qn ?_
 refine AW.block ?_
 refine AW.loopW (fun i : UInv a => [.sl 4 (.v (iv i.k)), .sl 3 (.h 18 []), .rt 1 .box (T.s 14 1 fun k c => ([(T.v (iv a.Next), none), (T.v (iv a.Tick), none), (T.j, none), (T.j, none), (T.j, none), (T.j, none), (T.j, none), (T.j, none), (T.j, none), (T.v (Value.bool a.Ready.Used), none), (T.j, none), (T.v (iv a.Ready.Head), none), (T.v (iv a.Ready.Len), none), (T.j, none)].getD (k * 14 + c) (T.j, none)).fst), .al 1 2 (.h base []), .al 1 3 (.h (base + 1) []), .al 1 4 (.h (base + 2) []), .al 1 5 (.h (base + 3) []), .al 1 6 (.h (base + 4) []), .al 1 7 (.h (base + 5) []), .al 1 8 (.h (base + 6) []), .al 1 10 (.h (base + 7) []), .al 1 13 (.h (base + 8) []), .rt base .ro (tr a.Progs), .rt (base + 1) .ro (tr a.Slots), .rt (base + 2) .ro (tr a.Ram), .rt (base + 3) .ro (tr a.Map), .rt (base + 4) .ro (tr a.Opens), .rt (base + 5) .ro (tr a.Pipes), .rt (base + 6) .ro (tr a.Files), .rt (base + 7) .ro (tr a.Ready.Buf), .rt (base + 8) .ro (tr a.Out), .sl 1 (.p 1 [] 14 0 0), .rt 18 .row (tr i.u)]) (fun i => a.Slots.length - i.k) ⟨0, Nat.zero_le _, List.replicate 16 false, rfl, by simp⟩ (Weak.sim ⟨rfl, rfl, Rf rfl, ⟨rfl, rfl⟩, ⟨rfl, rfl⟩, ⟨rfl, rfl⟩, ⟨rfl, rfl⟩, ⟨rfl, rfl⟩, ⟨rfl, rfl⟩, ⟨rfl, rfl⟩, ⟨rfl, rfl⟩, ⟨rfl, rfl⟩, Rf rfl, Rf rfl, Rf rfl, Rf rfl, Rf rfl, Rf rfl, Rf rfl, Rf rfl, Rf rfl, rfl, ⟨_, rfl, sim_rep 16⟩, trivial⟩ rfl rfl) ?_
 intro i
 have hle := i.le
 have hln := i.ln
 refine sr2 ?_
 refine mn ?_
 refine qq (fA fl48_3) ?_
 refine ql ag42 ?_
 refine qh sl42 ?_
 refine nm ?_
 refine qb ?_
 refine nc (fun c4 => ?_) fun c4 => ?_
 ·try simp only [cnd] at c4
  have hsl := hS.slot i.k (by omega)
  have hpn := pagesN_le (a.Slots.getD i.k En.dflt).Pt
  refine jd (AW.seq (AW.block (sr ?_)))
  refine qq (fA fl48_3) ?_
  refine ql ag42 ?_
  refine nm ?_
  refine qm ?_
  refine qq (ix sl42 sz87) ?_
  refine qq (fA fl87_9) ?_
  refine nm ?_
  refine ql ag24 ?_
  refine qs' ?_
  refine mn ?_
  refine cv Tryz.call82 rfl rfl (l12Pages_con (a.Slots.getD i.k En.dflt).Pt (by omega)) ?_
  refine nm ?_
  refine qs' ?_
  refine qn ?_
  refine AW.block ?_
  refine AW.loopW (fun j : PInv (a.Slots.getD i.k En.dflt).Pt i.u => (.sl 7 (.v (iv j.k)) :: .sl 4 (.v (iv i.k)) :: .sl 5 (.h (base + 1) [(11, i.k, 9)]) :: .sl 6 (.v (iv (pagesN (a.Slots.getD i.k En.dflt).Pt : Nat))) :: .sl 3 (.h 18 []) :: .rt 1 .box (T.s 14 1 fun k c => ([(T.v (iv a.Next), none), (T.v (iv a.Tick), none), (T.j, none), (T.j, none), (T.j, none), (T.j, none), (T.j, none), (T.j, none), (T.j, none), (T.v (Value.bool a.Ready.Used), none), (T.j, none), (T.v (iv a.Ready.Head), none), (T.v (iv a.Ready.Len), none), (T.j, none)].getD (k * 14 + c) (T.j, none)).fst) :: .al 1 2 (.h base []) :: .al 1 3 (.h (base + 1) []) :: .al 1 4 (.h (base + 2) []) :: .al 1 5 (.h (base + 3) []) :: .al 1 6 (.h (base + 4) []) :: .al 1 7 (.h (base + 5) []) :: .al 1 8 (.h (base + 6) []) :: .al 1 10 (.h (base + 7) []) :: .al 1 13 (.h (base + 8) []) :: .rt base .ro (tr a.Progs) :: .rt (base + 1) .ro (tr a.Slots) :: .rt (base + 2) .ro (tr a.Ram) :: .rt (base + 3) .ro (tr a.Map) :: .rt (base + 4) .ro (tr a.Opens) :: .rt (base + 5) .ro (tr a.Pipes) :: .rt (base + 6) .ro (tr a.Files) :: .rt (base + 7) .ro (tr a.Ready.Buf) :: .rt (base + 8) .ro (tr a.Out) :: .sl 1 (.p 1 [] 14 0 0) :: .rt 18 .row (tr j.v) :: [])) (fun j => (a.Slots.getD i.k En.dflt).Pt.length - j.k) ⟨0, Nat.zero_le _, i.u, by simp [pgK], i.ln, fun x h1 h2 => absurd h2 (by omega)⟩ (Weak.sim ⟨rfl, rfl, rfl, rfl, rfl, Rf rfl, ⟨rfl, rfl⟩, ⟨rfl, rfl⟩, ⟨rfl, rfl⟩, ⟨rfl, rfl⟩, ⟨rfl, rfl⟩, ⟨rfl, rfl⟩, ⟨rfl, rfl⟩, ⟨rfl, rfl⟩, ⟨rfl, rfl⟩, Rf rfl, Rf rfl, Rf rfl, Rf rfl, Rf rfl, Rf rfl, Rf rfl, Rf rfl, Rf rfl, rfl, Rf rfl, trivial⟩ rfl rfl) ?_
  intro j
  have hlej := j.le
  have hjn := j.ln
  have hfr : j.k < pagesN (a.Slots.getD i.k En.dflt).Pt → 0 ≤ (a.Slots.getD i.k En.dflt).Pt.getD j.k En.dflt ∧ (a.Slots.getD i.k En.dflt).Pt.getD j.k En.dflt ≤ 15 := fun h => frm h
  refine sr2 ?_
  refine mn ?_
  refine qm ?_
  refine qh sl24 ?_
  refine qb ?_
  refine nc (fun c5 => ?_) fun c5 => ?_
  ·try simp only [cnd] at c5
   refine jd (AW.seq (AW.block (sr2 ?_)))
   refine mn ?_
   refine qm ?_
   refine qb ?_
   refine mn ?_
   apply AWL.cut 5
   ·intro Kg6
    refine AWL.split 43 rfl (fun g6 => ?_) (fun g6 => ?_)
    ·have eg6 := g6
     try simp only [cnd] at eg6
     refine qg g6 Qt.move ?_
     refine qg g6 Qt.move ?_
     refine qg g6 (ix sl24 sz3) ?_
     refine nm ?_
     refine qg g6 (Qt.load1 rfl rfl rfl ag3) ?_
     refine qg g6 (Qt.binOp rfl rfl rfl) ?_
     exact wj 48 [44, 45, 46, 47, 48] (ifT g6 _ undef) (by simp only [go_sem, reduceIte, Nat.reduceEqDiff, Nat.reduceBEq, reduceCtorEq]; rfl) Kg6
    ·refine og g6 ?_
     refine og g6 ?_
     refine og g6 ?_
     refine og g6 ?_
     refine nm ?_
     refine og g6 ?_
     exact wj 48 [44, 45, 46, 47, 48] (ifF g6 undef _) (by simp only [go_sem, reduceIte, Nat.reduceEqDiff, Nat.reduceBEq, reduceCtorEq]) Kg6
   refine qq (Qt.pickAnd rfl rfl rfl) ?_
   refine nm ?_
   refine qm ?_
   apply AWL.cut 12
   ·intro Kg7
    refine AWL.splitF 50 rfl (fun g7 => ?_) (fun g7 => ?_)
    ·have eg7 := g7
     try simp only [cnd] at eg7
     refine qg (nF g7) Qt.move ?_
     refine qg (nF g7) Qt.move ?_
     refine nm ?_
     refine qg (nF g7) (Qt.binOp rfl rfl rfl) ?_
     refine qg (nF g7) Qt.move ?_
     apply AWL.cut 7
     ·intro Kg8
      refine AWL.split 54 rfl (fun g8 => ?_) (fun g8 => ?_)
      ·have eg8 := g8
       try simp only [cnd] at eg8
       refine qg g8 Qt.move ?_
       refine nm ?_
       refine qg g8 Qt.move ?_
       refine qg g8 Qt.move ?_
       refine qg g8 (ix sl24 sz3) ?_
       refine nm ?_
       refine qg g8 (Qt.load1 rfl rfl rfl ag3) ?_
       refine qg g8 (Qt.indexAddr rfl rfl rfl rfl sl25 sz4 (by decide) (by have := hfr (by omega); omega)) ?_
       refine qg g8 (Qt.load1 rfl rfl rfl ag4) ?_
       refine nm ?_
       exact wj 61 [55, 56, 57, 58, 59, 60, 61] (ifT g8 _ undef) (by simp only [go_sem, reduceIte, Nat.reduceEqDiff, Nat.reduceBEq, reduceCtorEq]; rfl) Kg8
      ·refine og g8 ?_
       refine og g8 ?_
       refine og g8 ?_
       refine og g8 ?_
       refine nm ?_
       refine og g8 ?_
       refine og g8 ?_
       refine og g8 ?_
       exact wj 61 [55, 56, 57, 58, 59, 60, 61] (ifF g8 undef _) (by simp only [go_sem, reduceIte, Nat.reduceEqDiff, Nat.reduceBEq, reduceCtorEq]) Kg8
     refine qg (nF g7) (Qt.pickAnd rfl rfl rfl) ?_
     exact wj 62 [51, 52, 53, 54, 55, 56, 57, 58, 59, 60, 61, 62] (ifF g7 _ undef) (by simp only [go_sem, reduceIte, Nat.reduceEqDiff, Nat.reduceBEq, reduceCtorEq]; rfl) Kg7
    ·refine og (nT g7) ?_
     refine og (nT g7) ?_
     refine og (nT g7) ?_
     refine og (nT g7) ?_
     refine nm ?_
     refine og rfl ?_
     refine og rfl ?_
     refine og rfl ?_
     refine og rfl ?_
     refine nm ?_
     refine og rfl ?_
     refine og rfl ?_
     refine og rfl ?_
     refine og (nT g7) ?_
     exact wj 62 [51, 52, 53, 54, 55, 56, 57, 58, 59, 60, 61, 62] (ifT g7 undef _) (by simp only [go_sem, reduceIte, Nat.reduceEqDiff, Nat.reduceBEq, reduceCtorEq]) Kg7
   refine qq (Qt.pickOr rfl rfl rfl) ?_
   refine nc (fun c9 => ?_) fun c9 => ?_
   ·have k9 := c9
    try simp only [cnd] at c9
    have hbad : slotU i.u (a.Slots.getD i.k En.dflt) = none := by
     by_cases hc : j.k < pagesN (a.Slots.getD i.k En.dflt).Pt
     ·exact j.bad hc (by have hk := k9; simp only [hc, Int.ofNat_lt, ge_iff_le, decide_true, Bool.true_and, Nat.not_le.2 hc] at hk; grind)
     ·exact slot_tail (x := j.k) (by omega) (by omega) (by have hk := k9; grind)
    refine sr ?_
    refine qr 2 ?_
    rw [show aOk a = false from aOk_none (k := i.k + 1) ((used_next i.hu).trans hbad) (by omega)]
    rfl
   have k9 := c9
   try simp only [cnd] at c9
   refine jd (sr ?_)
   refine mn ?_
   refine qm ?_
   refine qb ?_
   refine nc (fun c10 => ?_) fun c10 => ?_
   ·try simp only [cnd] at c10
    have hun : j.v.getD ((a.Slots.getD i.k En.dflt).Pt.getD j.k En.dflt).toNat En.dflt = false := by grind
    refine AW.region ?_
    refine mn ?_
    refine qm ?_
    refine qm ?_
    refine qq (ix sl24 sz3) ?_
    refine nm ?_
    refine ql ag3 ?_
    refine qq (Qt.indexAddr rfl rfl rfl rfl sl25 sz4 (by decide) (by have := hfr (by omega); omega)) ?_
    refine ss ?_
    refine nl ?_
    refine AW.region ?_
    refine mn ?_
    refine ba ?_
    refine qn ?_
    refine ⟨⟨j.k + 1, by omega, j.v.set ((a.Slots.getD i.k En.dflt).Pt.getD j.k En.dflt).toNat true, j.mark (by omega) hun, by rw [List.length_set]; exact j.ln, fun x h1 h2 => absurd h1 (by omega)⟩, Weak.sim ⟨st1, rfl, rfl, rfl, rfl, Rf rfl, ⟨rfl, rfl⟩, ⟨rfl, rfl⟩, ⟨rfl, rfl⟩, ⟨rfl, rfl⟩, ⟨rfl, rfl⟩, ⟨rfl, rfl⟩, ⟨rfl, rfl⟩, ⟨rfl, rfl⟩, ⟨rfl, rfl⟩, Rf rfl, Rf rfl, Rf rfl, Rf rfl, Rf rfl, Rf rfl, Rf rfl, Rf rfl, Rf rfl, rfl, ⟨_, rfl, (set_sim (fun k c hk => by simp only [upd_app, hk, false_and, if_false]; try rfl) (fun c hc => match c, hc with | 0, _ => (by simp only [upd_app, eq_self, and_self, if_true]; exact T.sim_refl _) | c + 1, hc => absurd hc (by simp only [En.n]; omega)))⟩, trivial⟩ rfl rfl, ?_⟩
    show (a.Slots.getD i.k En.dflt).Pt.length - (j.k + 1) < (a.Slots.getD i.k En.dflt).Pt.length - j.k
    omega
   try simp only [cnd] at c10
   have htl : (a.Slots.getD i.k En.dflt).Pt.getD j.k En.dflt = -1 := by grind
   refine jd (AW.region ?_)
   refine mn ?_
   refine ba ?_
   refine qn ?_
   refine ⟨⟨j.k + 1, by omega, j.v, j.keep (by omega), j.ln, j.tail (by omega) htl⟩, Weak.sim ⟨st1, rfl, rfl, rfl, rfl, Rf rfl, ⟨rfl, rfl⟩, ⟨rfl, rfl⟩, ⟨rfl, rfl⟩, ⟨rfl, rfl⟩, ⟨rfl, rfl⟩, ⟨rfl, rfl⟩, ⟨rfl, rfl⟩, ⟨rfl, rfl⟩, ⟨rfl, rfl⟩, Rf rfl, Rf rfl, Rf rfl, Rf rfl, Rf rfl, Rf rfl, Rf rfl, Rf rfl, Rf rfl, rfl, Rf rfl, trivial⟩ rfl rfl, ?_⟩
   show (a.Slots.getD i.k En.dflt).Pt.length - (j.k + 1) < (a.Slots.getD i.k En.dflt).Pt.length - j.k
   omega
  try simp only [cnd] at c5
  refine AW.exit ?_
  dsimp only [thenQ, blockQ, reduceIte]
  refine AW.region ?_
  refine mn ?_
  refine ba ?_
  refine qn ?_
  refine ⟨⟨i.k + 1, by omega, j.v, (used_next i.hu).trans (j.full (by omega)), j.ln⟩, Weak.sim ⟨st1, rfl, Rf rfl, ⟨rfl, rfl⟩, ⟨rfl, rfl⟩, ⟨rfl, rfl⟩, ⟨rfl, rfl⟩, ⟨rfl, rfl⟩, ⟨rfl, rfl⟩, ⟨rfl, rfl⟩, ⟨rfl, rfl⟩, ⟨rfl, rfl⟩, Rf rfl, Rf rfl, Rf rfl, Rf rfl, Rf rfl, Rf rfl, Rf rfl, Rf rfl, Rf rfl, rfl, Rf rfl, trivial⟩ rfl rfl, ?_⟩
  show a.Slots.length - (i.k + 1) < a.Slots.length - i.k
  omega
 try simp only [cnd] at c4
 refine AW.exit ?_
 dsimp only [thenQ, blockQ, reduceIte]
 refine sr2 ?_
 refine qn ?_
 refine AW.block ?_
 refine AW.loopW (fun m : MInv i.u a.Map => [.sl 8 (.v (iv m.k)), .sl 3 (.h 18 []), .rt 1 .box (T.s 14 1 fun k c => ([(T.v (iv a.Next), none), (T.v (iv a.Tick), none), (T.j, none), (T.j, none), (T.j, none), (T.j, none), (T.j, none), (T.j, none), (T.j, none), (T.v (Value.bool a.Ready.Used), none), (T.j, none), (T.v (iv a.Ready.Head), none), (T.v (iv a.Ready.Len), none), (T.j, none)].getD (k * 14 + c) (T.j, none)).fst), .al 1 2 (.h base []), .al 1 3 (.h (base + 1) []), .al 1 4 (.h (base + 2) []), .al 1 5 (.h (base + 3) []), .al 1 6 (.h (base + 4) []), .al 1 7 (.h (base + 5) []), .al 1 8 (.h (base + 6) []), .al 1 10 (.h (base + 7) []), .al 1 13 (.h (base + 8) []), .rt base .ro (tr a.Progs), .rt (base + 1) .ro (tr a.Slots), .rt (base + 2) .ro (tr a.Ram), .rt (base + 3) .ro (tr a.Map), .rt (base + 4) .ro (tr a.Opens), .rt (base + 5) .ro (tr a.Pipes), .rt (base + 6) .ro (tr a.Files), .rt (base + 7) .ro (tr a.Ready.Buf), .rt (base + 8) .ro (tr a.Out), .sl 1 (.p 1 [] 14 0 0), .rt 18 .row (tr i.u)]) (fun m => 16 - m.k) ⟨0, by omega, fun x h => absurd h (by omega)⟩ (Weak.sim ⟨rfl, rfl, Rf rfl, ⟨rfl, rfl⟩, ⟨rfl, rfl⟩, ⟨rfl, rfl⟩, ⟨rfl, rfl⟩, ⟨rfl, rfl⟩, ⟨rfl, rfl⟩, ⟨rfl, rfl⟩, ⟨rfl, rfl⟩, ⟨rfl, rfl⟩, Rf rfl, Rf rfl, Rf rfl, Rf rfl, Rf rfl, Rf rfl, Rf rfl, Rf rfl, Rf rfl, rfl, Rf rfl, trivial⟩ rfl rfl) ?_
 intro m
 have hlem := m.le
 refine sr2 ?_
 refine mn ?_
 refine qb ?_
 refine nc (fun c11 => ?_) fun c11 => ?_
 ·try simp only [cnd] at c11
  refine jd (AW.seq (AW.block (AW.seq ?_)))
  refine AW.draw [0, 1, 2, 3, 4, 5, 6, 7, 8, 9] rfl (by decide +kernel) ?_
  refine tk 0 rfl Qt.move ?_
  refine tk 1 rfl Qt.move ?_
  refine na ?_
  refine tk 2 rfl (ix sl25 sz4) ?_
  refine tk 3 rfl (Qt.load1 rfl rfl rfl ag4) ?_
  refine tk 4 rfl (fA fl48_5) ?_
  refine na ?_
  refine tk 5 rfl (Qt.load1 rfl rfl rfl ag25) ?_
  refine tk 6 rfl Qt.move ?_
  refine tk 7 rfl (ix sl25 sz4) ?_
  refine na ?_
  refine tk 8 rfl (Qt.load1 rfl rfl rfl ag4) ?_
  refine tk 9 rfl (Qt.neB rfl rfl Tryz.underlying4) ?_
  refine nz ?_
  refine cd (fun c12 => ?_) fun c12 => ?_
  ·have k12 := c12
   try simp only [cnd] at c12
   have hkk : i.u.getD m.k En.dflt ≠ a.Map.getD m.k En.dflt := by simpa using k12
   have hne : ¬ i.u = a.Map := fun e => hkk (congrArg (fun l => l.getD m.k En.dflt) e)
   refine sr ?_
   refine qr 2 ?_
   rw [show aOk a = false from (aOk_some hsh hU (by rw [show a.Slots.length = i.k by omega]; exact i.hu)).trans (decide_eq_false hne)]
   rfl
  have k12 := c12
  try simp only [cnd] at c12
  refine jd (AW.region ?_)
  refine mn ?_
  refine ba ?_
  refine qn ?_
  refine ⟨⟨m.k + 1, by omega, m.next (by simpa using k12)⟩, Weak.sim ⟨st1, rfl, Rf rfl, ⟨rfl, rfl⟩, ⟨rfl, rfl⟩, ⟨rfl, rfl⟩, ⟨rfl, rfl⟩, ⟨rfl, rfl⟩, ⟨rfl, rfl⟩, ⟨rfl, rfl⟩, ⟨rfl, rfl⟩, ⟨rfl, rfl⟩, Rf rfl, Rf rfl, Rf rfl, Rf rfl, Rf rfl, Rf rfl, Rf rfl, Rf rfl, Rf rfl, rfl, Rf rfl, trivial⟩ rfl rfl, ?_⟩
  show 16 - (m.k + 1) < 16 - m.k
  omega
 try simp only [cnd] at c11
 refine AW.exit ?_
 dsimp only [thenQ, blockQ, reduceIte]
 refine sr ?_
 refine qr 2 ?_
 rw [show aOk a = true from (aOk_some hsh hU (by rw [show a.Slots.length = i.k by omega]; exact i.hu)).trans (decide_eq_true (m.full (by omega) i.ln hml))]
 rfl
end Go.Proofs.YtldefnpobjabpaaGreat.VM
