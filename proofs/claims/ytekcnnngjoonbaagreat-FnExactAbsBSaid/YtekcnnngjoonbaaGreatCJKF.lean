/- Contracts. No conditions. -/
import Derived.Test.YtekcnnngjoonbaaGreatCJCF
set_option linter.all false
set_option maxHeartbeats 8000000
set_option maxRecDepth 10000
namespace Go.Proofs.YtekcnnngjoonbaaGreat.VM
open Go Go.RowKit Go.Proofs
theorem insKFile_con (l : List CFile) (p : CFile) (hs : l.length ≤ 2000000) : Con Tryz.prog 101 [.h base [], .g [.v (iv p.f0), .v (.slice p.f1a p.f1l p.f1c)]] [.rt base .ro (tr l)] (Ret (.h 0 []) [(0, .row, tr (insK CFile.f0 l p))]) := by
 refine ob Tryz.func101 Tryz.ntmps101 ?_
 refine sr ?_
 refine sp (Stp.boxZ (List.replicate 2 .j) rfl (by decide) (by decide) rfl rfl (by rfl) rfl rfl) ?_
 refine nm ?_
 refine qs' ?_
 refine sp sS ?_
 refine nm ?_
 refine qs' ?_
 refine qn ?_
 refine sr2 ?_
 refine qn ?_
 refine AW.block ?_
 refine AW.renR 8 37 rfl (by decide) (by decide) ?_
 refine AW.loopW (fun i : KInv l.length => [.sl 7 (.v (iv i.k)), .sl 6 (.v (.bool (putN CFile.f0 l p i.k))), .sl 5 (.h 37 []), .sl 3 (.p 3 [] 2 0 0), .sl 0 (.h base []), .rt 3 .box (T.s 2 1 fun k c => ([(T.v (iv p.f0), none), (T.v (.slice p.f1a p.f1l p.f1c), none)].getD (k * 2 + c) (T.j, none)).fst), .rt base .ro (tr l), .rt 37 .row (tr (insN CFile.f0 l p i.k))]) (fun i => l.length - i.k) ⟨0, Nat.zero_le _⟩ (Weak.sim ⟨rfl, rfl, rfl, rfl, rfl, Rf rfl, Rf rfl, ⟨_, rfl, sim_nil⟩, trivial⟩ rfl rfl) ?_
 intro i
 have hle := i.le
 have hil := insN_len (key := CFile.f0) (l := l) (p := p) (k := i.k)
 refine sr2 ?_
 refine mn ?_
 refine qm ?_
 refine qh sl38 ?_
 refine qb ?_
 refine nc (fun c1 => ?_) fun c1 => ?_
 ·try simp only [cnd] at c1
  refine jd (AW.seq (AW.block (AW.seq (AW.seq ?_))))
  refine AW.draw [0, 1, 2, 3, 4, 5, 6, 7, 8, 9, 10, 11] rfl (by decide +kernel) ?_
  refine tk 0 rfl Qt.move ?_
  refine na ?_
  refine tk 1 rfl (Qt.notB rfl) ?_
  refine tk 2 rfl Qt.move ?_
  refine AWA.split 17 rfl (fun g2 => ?_) (fun g2 => ?_)
  ·refine tg 3 rfl g2 Qt.move ?_
   refine na ?_
   refine tg 4 rfl g2 Qt.move ?_
   refine tg 5 rfl g2 (ix sl38 sz96) ?_
   refine tg 6 rfl g2 (fA fl96_0) ?_
   refine na ?_
   refine tg 7 rfl g2 (Qt.load1 rfl rfl rfl ag3) ?_
   refine tg 8 rfl g2 (fA fl96_0) ?_
   refine tg 9 rfl g2 (Qt.load1 rfl rfl rfl ag3) ?_
   refine na ?_
   refine tg 10 rfl g2 (Qt.binOp rfl rfl rfl) ?_
   refine tk 11 rfl (Qt.pickT rfl g2) ?_
   refine nz ?_
   refine cd (fun c3 => ?_) fun c3 => ?_
   ·try simp only [cnd] at c3
    have hq : putN CFile.f0 l p i.k = false := by simpa using ‹(!putN CFile.f0 l p i.k) = true›
    have hc : CFile.f0 p < CFile.f0 (l.getD i.k En.dflt) := by have hk := c3; omega
    refine sr ?_
    refine mn ?_
    refine qG ag96 sz96 ?_
    refine sp (Stp.buildSliceZ (List.replicate 2 .j) rfl (by decide) (by decide) rfl (by decide) rfl (by rfl) rfl rfl (nodup_of rfl)) ?_
    refine nm ?_
    refine AWL.rep 29 (tr [p]) rfl (row1_sim (α := CFile) (fun c hc => match c, hc with | 0, _ => tsr | 1, _ => tsr | c + 2, hc => absurd hc (by simp only [En.n]; omega))) ?_
    refine nm ?_
    refine sp (Stp.appendM rfl (by decide) (by decide) rfl rfl rfl (by simp only [List.length_cons, List.length_nil, List.length_append]; omega)) ?_
    refine nm ?_
    refine AWL.rep 30 (tr (insN CFile.f0 l p i.k ++ [p])) rfl (app_sim (l := insN CFile.f0 l p i.k) (l' := [p]) rfl (fun _ _ _ _ => rfl) (fun _ _ _ _ => rfl)) ?_
    refine nm ?_
    refine qn ?_
    refine AW.region ?_
    refine qa ?_
    refine AWL.weak (Weak.slot (d := 6) (v' := .bool (putN CFile.f0 l p (i.k + 1))) rfl (congrArg Value.bool (by rw [putN_next (by omega), hq, decide_eq_true hc]; rfl))) ?_
    refine nl ?_
    refine AW.region ?_
    refine mn ?_
    refine qm ?_
    refine qm ?_
    refine qq (ix sl38 sz96) ?_
    refine nm ?_
    refine qG ag96 sz96 ?_
    refine sp (Stp.buildSliceZ (List.replicate 2 .j) rfl (by decide) (by decide) rfl (by decide) rfl (by rfl) rfl rfl (nodup_of rfl)) ?_
    refine nm ?_
    refine AWL.rep 36 (tr [(l.getD i.k En.dflt)]) rfl (row1_sim (α := CFile) (fun c hc => match c, hc with | 0, _ => tsr | 1, _ => tsr | c + 2, hc => absurd hc (by simp only [En.n]; omega))) ?_
    refine nm ?_
    refine sp (Stp.appendM rfl (by decide) (by decide) rfl rfl rfl (by simp only [List.length_cons, List.length_nil, List.length_append]; omega)) ?_
    refine nm ?_
    refine AWL.rep 37 (tr (insN CFile.f0 l p (i.k + 1))) rfl (by rw [insN_put (by omega) hq hc]; exact app_sim (l := insN CFile.f0 l p i.k ++ [p]) (l' := [(l.getD i.k En.dflt)]) rfl (fun _ _ _ _ => rfl) (fun _ _ _ _ => rfl)) ?_
    refine nm ?_
    refine qn ?_
    refine AW.region ?_
    refine qm ?_
    refine ba ?_
    refine nm ?_
    refine qn ?_
    refine ⟨⟨i.k + 1, by omega⟩, Weak.sim ⟨st1, rfl, rfl, rfl, rfl, Rf rfl, Rf rfl, Rf rfl, trivial⟩ rfl rfl, ?_⟩
    show l.length - (i.k + 1) < l.length - i.k
    omega
   try simp only [cnd] at c3
   have hq : putN CFile.f0 l p i.k = false := by simpa using ‹(!putN CFile.f0 l p i.k) = true›
   have hc : ¬ CFile.f0 p < CFile.f0 (l.getD i.k En.dflt) := by have hk := c3; omega
   refine jd (AW.region ?_)
   refine qm ?_
   refine mn ?_
   refine qm ?_
   refine qq (ix sl38 sz96) ?_
   refine qG ag96 sz96 ?_
   refine nm ?_
   refine sp (Stp.buildSliceZ (List.replicate 2 .j) rfl (by decide) (by decide) rfl (by decide) rfl (by rfl) rfl rfl (nodup_of rfl)) ?_
   refine nm ?_
   refine AWL.rep 36 (tr [(l.getD i.k En.dflt)]) rfl (row1_sim (α := CFile) (fun c hc => match c, hc with | 0, _ => tsr | 1, _ => tsr | c + 2, hc => absurd hc (by simp only [En.n]; omega))) ?_
   refine nm ?_
   refine sp (Stp.appendM rfl (by decide) (by decide) rfl rfl rfl (by simp only [List.length_cons, List.length_nil, List.length_append]; omega)) ?_
   refine nm ?_
   refine AWL.rep 37 (tr (insN CFile.f0 l p (i.k + 1))) rfl (by rw [insN_not (by omega) hq hc]; exact app_sim (l := insN CFile.f0 l p i.k) (l' := [(l.getD i.k En.dflt)]) rfl (fun _ _ _ _ => rfl) (fun _ _ _ _ => rfl)) ?_
   refine nm ?_
   refine qa ?_
   refine AWL.weak (Weak.slot (d := 6) (v' := .bool (putN CFile.f0 l p (i.k + 1))) rfl (congrArg Value.bool (by rw [putN_next (by omega), hq, decide_eq_false hc]; rfl))) ?_
   refine nl ?_
   refine AW.region ?_
   refine mn ?_
   refine ba ?_
   refine qn ?_
   refine ⟨⟨i.k + 1, by omega⟩, Weak.sim ⟨st1, rfl, rfl, rfl, rfl, Rf rfl, Rf rfl, Rf rfl, trivial⟩ rfl rfl, ?_⟩
   show l.length - (i.k + 1) < l.length - i.k
   omega
  refine tf 3 g2 ?_
  refine na ?_
  refine tf 4 g2 ?_
  refine tf 5 g2 ?_
  refine tf 6 g2 ?_
  refine na ?_
  refine tf 7 g2 ?_
  refine tf 8 g2 ?_
  refine tf 9 g2 ?_
  refine na ?_
  refine tf 10 g2 ?_
  refine tk 11 rfl (Qt.pickF rfl g2) ?_
  refine nz ?_
  refine AW.cond rfl (fun c4 => (by cases c4)) (fun c4 => ?_)
  try simp only [cnd] at c4
  have hq : putN CFile.f0 l p i.k = true := by simpa using ‹(!putN CFile.f0 l p i.k) = false›
  refine jd (AW.region ?_)
  refine mn ?_
  refine qm ?_
  refine qm ?_
  refine qq (ix sl38 sz96) ?_
  refine nm ?_
  refine qG ag96 sz96 ?_
  refine sp (Stp.buildSliceZ (List.replicate 2 .j) rfl (by decide) (by decide) rfl (by decide) rfl (by rfl) rfl rfl (nodup_of rfl)) ?_
  refine nm ?_
  refine AWL.rep 36 (tr [(l.getD i.k En.dflt)]) rfl (row1_sim (α := CFile) (fun c hc => match c, hc with | 0, _ => tsr | 1, _ => tsr | c + 2, hc => absurd hc (by simp only [En.n]; omega))) ?_
  refine nm ?_
  refine sp (Stp.appendM rfl (by decide) (by decide) rfl rfl rfl (by simp only [List.length_cons, List.length_nil, List.length_append]; omega)) ?_
  refine nm ?_
  refine AWL.rep 37 (tr (insN CFile.f0 l p (i.k + 1))) rfl (by rw [insN_old (by omega) hq]; exact app_sim (l := insN CFile.f0 l p i.k) (l' := [(l.getD i.k En.dflt)]) rfl (fun _ _ _ _ => rfl) (fun _ _ _ _ => rfl)) ?_
  refine nm ?_
  refine qa ?_
  refine AWL.weak (Weak.slot (d := 6) (v' := .bool (putN CFile.f0 l p (i.k + 1))) rfl (congrArg Value.bool (by rw [putN_next (by omega), hq]; rfl))) ?_
  refine nl ?_
  refine AW.region ?_
  refine mn ?_
  refine ba ?_
  refine qn ?_
  refine ⟨⟨i.k + 1, by omega⟩, Weak.sim ⟨st1, rfl, rfl, rfl, rfl, Rf rfl, Rf rfl, Rf rfl, trivial⟩ rfl rfl, ?_⟩
  show l.length - (i.k + 1) < l.length - i.k
  omega
 try simp only [cnd] at c1
 refine AW.exit ?_
 dsimp only [thenQ, blockQ, reduceIte]
 refine sr2 ?_
 refine mn ?_
 refine qq (Qt.notB rfl) ?_
 refine nc (fun c5 => ?_) fun c5 => ?_
 ·try simp only [cnd] at c5
  refine AW.region ?_
  refine qm ?_
  refine qG ag96 sz96 ?_
  refine nm ?_
  refine sp (Stp.buildSliceZ (List.replicate 2 .j) rfl (by decide) (by decide) rfl (by decide) rfl (by rfl) rfl rfl (nodup_of rfl)) ?_
  refine nm ?_
  refine AWL.rep 42 (tr [p]) rfl (row1_sim (α := CFile) (fun c hc => match c, hc with | 0, _ => tsr | 1, _ => tsr | c + 2, hc => absurd hc (by simp only [En.n]; omega))) ?_
  refine nm ?_
  refine sp (Stp.appendM rfl (by decide) (by decide) rfl rfl rfl (by simp only [List.length_cons, List.length_nil, List.length_append]; omega)) ?_
  refine nm ?_
  refine AWL.rep 43 (tr (insN CFile.f0 l p i.k ++ [p])) rfl (app_sim (l := insN CFile.f0 l p i.k) (l' := [p]) rfl (fun _ _ _ _ => rfl) (fun _ _ _ _ => rfl)) ?_
  refine nm ?_
  refine qs' ?_
  refine qm ?_
  refine qr 4 ?_
  rw [show insK CFile.f0 l p = insN CFile.f0 l p i.k ++ [p] from by rw [insN_end (k := i.k) (by omega) (by omega), if_neg (by simpa using c5)]]
  refine ⟨fun _ => 43, rfl, nodup_of rfl, ?_⟩
  intro r hr
  cases List.mem_singleton.1 hr
  exact ⟨by simp, rootL_mem rfl⟩
 try simp only [cnd] at c5
 refine jd (sr ?_)
 refine mn ?_
 refine qr 4 ?_
 rw [show insK CFile.f0 l p = insN CFile.f0 l p i.k from by rw [insN_end (k := i.k) (by omega) (by omega), if_pos (by simpa using c5)]]
 refine ⟨fun _ => 37, rfl, nodup_of rfl, ?_⟩
 intro r hr
 cases List.mem_singleton.1 hr
 exact ⟨by simp, rootL_mem rfl⟩
end Go.Proofs.YtekcnnngjoonbaaGreat.VM
