/- Contracts. No conditions. -/
import Derived.Test.YtekcnnngjoonbaaGreatCJCP
set_option linter.all false
set_option maxHeartbeats 8000000
set_option maxRecDepth 10000
namespace Go.Proofs.YtekcnnngjoonbaaGreat.VM
open Go Go.RowKit Go.Proofs
theorem insKProc_con (l : List CProc) (p : CProc) (hs : l.length ≤ 2000000) : Con Tryz.prog 96 [.h base [], .g [.v (iv p.f0), .v (iv p.f1), .v (iv p.f2), .v (iv p.f3), .v (iv p.f4), .v (.slice p.f5a p.f5l p.f5c), .v (.slice p.f6a p.f6l p.f6c), .v (.slice p.f7a p.f7l p.f7c), .v (iv p.f8), .v (iv p.f9)]] [.rt base .ro (tr l)] (Ret (.h 0 []) [(0, .row, tr (insK CProc.f0 l p))]) := by
 refine ob Tryz.func96 Tryz.ntmps96 ?_
 refine sr ?_
 refine sp (Stp.boxZ (List.replicate 10 .j) rfl (by decide) (by decide) rfl rfl (by rfl) rfl rfl) ?_
 refine nm ?_
 refine qs' ?_
 refine sp sS ?_
 refine nm ?_
 refine qs' ?_
 refine qn ?_
 refine sr2 ?_
 refine qn ?_
 refine AW.block ?_
 refine AW.renR 8 37 rfl (by decide) (by decide) ?_
 refine AW.loopW (fun i : KInv l.length => [.sl 7 (.v (iv i.k)), .sl 6 (.v (.bool (putN CProc.f0 l p i.k))), .sl 5 (.h 37 []), .sl 3 (.p 3 [] 10 0 0), .sl 0 (.h base []), .rt 3 .box (T.s 10 1 fun k c => ([(T.v (iv p.f0), none), (T.v (iv p.f1), none), (T.v (iv p.f2), none), (T.v (iv p.f3), none), (T.v (iv p.f4), none), (T.v (.slice p.f5a p.f5l p.f5c), none), (T.v (.slice p.f6a p.f6l p.f6c), none), (T.v (.slice p.f7a p.f7l p.f7c), none), (T.v (iv p.f8), none), (T.v (iv p.f9), none)].getD (k * 10 + c) (T.j, none)).fst), .rt base .ro (tr l), .rt 37 .row (tr (insN CProc.f0 l p i.k))]) (fun i => l.length - i.k) ⟨0, Nat.zero_le _⟩ (Weak.sim ⟨rfl, rfl, rfl, rfl, rfl, Rf rfl, Rf rfl, ⟨_, rfl, sim_nil⟩, trivial⟩ rfl rfl) ?_
 intro i
 have hle := i.le
 have hil := insN_len (key := CProc.f0) (l := l) (p := p) (k := i.k)
 refine sr2 ?_
 refine mn ?_
 refine qm ?_
 refine qh sl35 ?_
 refine qb ?_
 refine nc (fun c1 => ?_) fun c1 => ?_
 ·try simp only [cnd] at c1
  refine jd (AW.seq (AW.block (AW.seq (AW.seq ?_))))
  refine AW.draw [0, 1, 2, 3, 4, 5, 6, 7, 8, 9, 10, 11] rfl (by decide +kernel) ?_
  refine tk 0 rfl Qt.move ?_
  refine na ?_
  refine tk 1 rfl (Qt.notB rfl) ?_
  refine tk 2 rfl Qt.move ?_
  refine AWA.split 17 rfl (fun g2 => ?_) (fun g2 => ?_)
  ·refine tg 3 rfl g2 Qt.move ?_
   refine na ?_
   refine tg 4 rfl g2 Qt.move ?_
   refine tg 5 rfl g2 (ix sl35 sz81) ?_
   refine tg 6 rfl g2 (fA fl81_0) ?_
   refine na ?_
   refine tg 7 rfl g2 (Qt.load1 rfl rfl rfl ag3) ?_
   refine tg 8 rfl g2 (fA fl81_0) ?_
   refine tg 9 rfl g2 (Qt.load1 rfl rfl rfl ag3) ?_
   refine na ?_
   refine tg 10 rfl g2 (Qt.binOp rfl rfl rfl) ?_
   refine tk 11 rfl (Qt.pickT rfl g2) ?_
   refine nz ?_
   refine cd (fun c3 => ?_) fun c3 => ?_
   ·try simp only [cnd] at c3
    have hq : putN CProc.f0 l p i.k = false := by simpa using ‹(!putN CProc.f0 l p i.k) = true›
    have hc : CProc.f0 p < CProc.f0 (l.getD i.k En.dflt) := by have hk := c3; omega
    refine sr ?_
    refine mn ?_
    refine qG ag81 sz81 ?_
    refine sp (Stp.buildSliceZ (List.replicate 10 .j) rfl (by decide) (by decide) rfl (by decide) rfl (by rfl) rfl rfl (nodup_of rfl)) ?_
    refine nm ?_
    refine AWL.rep 29 (tr [p]) rfl (row1_sim (α := CProc) (fun c hc => match c, hc with | 0, _ => tsr | 1, _ => tsr | 2, _ => tsr | 3, _ => tsr | 4, _ => tsr | 5, _ => tsr | 6, _ => tsr | 7, _ => tsr | 8, _ => tsr | 9, _ => tsr | c + 10, hc => absurd hc (by simp only [En.n]; omega))) ?_
    refine nm ?_
    refine sp (Stp.appendM rfl (by decide) (by decide) rfl rfl rfl (by simp only [List.length_cons, List.length_nil, List.length_append]; omega)) ?_
    refine nm ?_
    refine AWL.rep 30 (tr (insN CProc.f0 l p i.k ++ [p])) rfl (app_sim (l := insN CProc.f0 l p i.k) (l' := [p]) rfl (fun _ _ _ _ => rfl) (fun _ _ _ _ => rfl)) ?_
    refine nm ?_
    refine qn ?_
    refine AW.region ?_
    refine qa ?_
    refine AWL.weak (Weak.slot (d := 6) (v' := .bool (putN CProc.f0 l p (i.k + 1))) rfl (congrArg Value.bool (by rw [putN_next (by omega), hq, decide_eq_true hc]; rfl))) ?_
    refine nl ?_
    refine AW.region ?_
    refine mn ?_
    refine qm ?_
    refine qm ?_
    refine qq (ix sl35 sz81) ?_
    refine nm ?_
    refine qG ag81 sz81 ?_
    refine sp (Stp.buildSliceZ (List.replicate 10 .j) rfl (by decide) (by decide) rfl (by decide) rfl (by rfl) rfl rfl (nodup_of rfl)) ?_
    refine nm ?_
    refine AWL.rep 36 (tr [(l.getD i.k En.dflt)]) rfl (row1_sim (α := CProc) (fun c hc => match c, hc with | 0, _ => tsr | 1, _ => tsr | 2, _ => tsr | 3, _ => tsr | 4, _ => tsr | 5, _ => tsr | 6, _ => tsr | 7, _ => tsr | 8, _ => tsr | 9, _ => tsr | c + 10, hc => absurd hc (by simp only [En.n]; omega))) ?_
    refine nm ?_
    refine sp (Stp.appendM rfl (by decide) (by decide) rfl rfl rfl (by simp only [List.length_cons, List.length_nil, List.length_append]; omega)) ?_
    refine nm ?_
    refine AWL.rep 37 (tr (insN CProc.f0 l p (i.k + 1))) rfl (by rw [insN_put (by omega) hq hc]; exact app_sim (l := insN CProc.f0 l p i.k ++ [p]) (l' := [(l.getD i.k En.dflt)]) rfl (fun _ _ _ _ => rfl) (fun _ _ _ _ => rfl)) ?_
    refine nm ?_
    refine qn ?_
    refine AW.region ?_
    refine qm ?_
    refine ba ?_
    refine nm ?_
    refine qn ?_
    refine ⟨⟨i.k + 1, by omega⟩, Weak.sim ⟨st1, rfl, rfl, rfl, rfl, Rf rfl, Rf rfl, Rf rfl, trivial⟩ rfl rfl, ?_⟩
    show l.length - (i.k + 1) < l.length - i.k
    omega
   try simp only [cnd] at c3
   have hq : putN CProc.f0 l p i.k = false := by simpa using ‹(!putN CProc.f0 l p i.k) = true›
   have hc : ¬ CProc.f0 p < CProc.f0 (l.getD i.k En.dflt) := by have hk := c3; omega
   refine jd (AW.region ?_)
   refine qm ?_
   refine mn ?_
   refine qm ?_
   refine qq (ix sl35 sz81) ?_
   refine qG ag81 sz81 ?_
   refine nm ?_
   refine sp (Stp.buildSliceZ (List.replicate 10 .j) rfl (by decide) (by decide) rfl (by decide) rfl (by rfl) rfl rfl (nodup_of rfl)) ?_
   refine nm ?_
   refine AWL.rep 36 (tr [(l.getD i.k En.dflt)]) rfl (row1_sim (α := CProc) (fun c hc => match c, hc with | 0, _ => tsr | 1, _ => tsr | 2, _ => tsr | 3, _ => tsr | 4, _ => tsr | 5, _ => tsr | 6, _ => tsr | 7, _ => tsr | 8, _ => tsr | 9, _ => tsr | c + 10, hc => absurd hc (by simp only [En.n]; omega))) ?_
   refine nm ?_
   refine sp (Stp.appendM rfl (by decide) (by decide) rfl rfl rfl (by simp only [List.length_cons, List.length_nil, List.length_append]; omega)) ?_
   refine nm ?_
   refine AWL.rep 37 (tr (insN CProc.f0 l p (i.k + 1))) rfl (by rw [insN_not (by omega) hq hc]; exact app_sim (l := insN CProc.f0 l p i.k) (l' := [(l.getD i.k En.dflt)]) rfl (fun _ _ _ _ => rfl) (fun _ _ _ _ => rfl)) ?_
   refine nm ?_
   refine qa ?_
   refine AWL.weak (Weak.slot (d := 6) (v' := .bool (putN CProc.f0 l p (i.k + 1))) rfl (congrArg Value.bool (by rw [putN_next (by omega), hq, decide_eq_false hc]; rfl))) ?_
   refine nl ?_
   refine AW.region ?_
   refine mn ?_
   refine ba ?_
   refine qn ?_
   refine ⟨⟨i.k + 1, by omega⟩, Weak.sim ⟨st1, rfl, rfl, rfl, rfl, Rf rfl, Rf rfl, Rf rfl, trivial⟩ rfl rfl, ?_⟩
   show l.length - (i.k + 1) < l.length - i.k
   omega
  refine tf 3 g2 ?_
  refine na ?_
  refine tf 4 g2 ?_
  refine tf 5 g2 ?_
  refine tf 6 g2 ?_
  refine na ?_
  refine tf 7 g2 ?_
  refine tf 8 g2 ?_
  refine tf 9 g2 ?_
  refine na ?_
  refine tf 10 g2 ?_
  refine tk 11 rfl (Qt.pickF rfl g2) ?_
  refine nz ?_
  refine AW.cond rfl (fun c4 => (by cases c4)) (fun c4 => ?_)
  try simp only [cnd] at c4
  have hq : putN CProc.f0 l p i.k = true := by simpa using ‹(!putN CProc.f0 l p i.k) = false›
  refine jd (AW.region ?_)
  refine mn ?_
  refine qm ?_
  refine qm ?_
  refine qq (ix sl35 sz81) ?_
  refine nm ?_
  refine qG ag81 sz81 ?_
  refine sp (Stp.buildSliceZ (List.replicate 10 .j) rfl (by decide) (by decide) rfl (by decide) rfl (by rfl) rfl rfl (nodup_of rfl)) ?_
  refine nm ?_
  refine AWL.rep 36 (tr [(l.getD i.k En.dflt)]) rfl (row1_sim (α := CProc) (fun c hc => match c, hc with | 0, _ => tsr | 1, _ => tsr | 2, _ => tsr | 3, _ => tsr | 4, _ => tsr | 5, _ => tsr | 6, _ => tsr | 7, _ => tsr | 8, _ => tsr | 9, _ => tsr | c + 10, hc => absurd hc (by simp only [En.n]; omega))) ?_
  refine nm ?_
  refine sp (Stp.appendM rfl (by decide) (by decide) rfl rfl rfl (by simp only [List.length_cons, List.length_nil, List.length_append]; omega)) ?_
  refine nm ?_
  refine AWL.rep 37 (tr (insN CProc.f0 l p (i.k + 1))) rfl (by rw [insN_old (by omega) hq]; exact app_sim (l := insN CProc.f0 l p i.k) (l' := [(l.getD i.k En.dflt)]) rfl (fun _ _ _ _ => rfl) (fun _ _ _ _ => rfl)) ?_
  refine nm ?_
  refine qa ?_
  refine AWL.weak (Weak.slot (d := 6) (v' := .bool (putN CProc.f0 l p (i.k + 1))) rfl (congrArg Value.bool (by rw [putN_next (by omega), hq]; rfl))) ?_
  refine nl ?_
  refine AW.region ?_
  refine mn ?_
  refine ba ?_
  refine qn ?_
  refine ⟨⟨i.k + 1, by omega⟩, Weak.sim ⟨st1, rfl, rfl, rfl, rfl, Rf rfl, Rf rfl, Rf rfl, trivial⟩ rfl rfl, ?_⟩
  show l.length - (i.k + 1) < l.length - i.k
  omega
 try simp only [cnd] at c1
 refine AW.exit ?_
 dsimp only [thenQ, blockQ, reduceIte]
 refine sr2 ?_
 refine mn ?_
 refine qq (Qt.notB rfl) ?_
 refine nc (fun c5 => ?_) fun c5 => ?_
 ·try simp only [cnd] at c5
  refine AW.region ?_
  refine qm ?_
  refine qG ag81 sz81 ?_
  refine nm ?_
  refine sp (Stp.buildSliceZ (List.replicate 10 .j) rfl (by decide) (by decide) rfl (by decide) rfl (by rfl) rfl rfl (nodup_of rfl)) ?_
  refine nm ?_
  refine AWL.rep 42 (tr [p]) rfl (row1_sim (α := CProc) (fun c hc => match c, hc with | 0, _ => tsr | 1, _ => tsr | 2, _ => tsr | 3, _ => tsr | 4, _ => tsr | 5, _ => tsr | 6, _ => tsr | 7, _ => tsr | 8, _ => tsr | 9, _ => tsr | c + 10, hc => absurd hc (by simp only [En.n]; omega))) ?_
  refine nm ?_
  refine sp (Stp.appendM rfl (by decide) (by decide) rfl rfl rfl (by simp only [List.length_cons, List.length_nil, List.length_append]; omega)) ?_
  refine nm ?_
  refine AWL.rep 43 (tr (insN CProc.f0 l p i.k ++ [p])) rfl (app_sim (l := insN CProc.f0 l p i.k) (l' := [p]) rfl (fun _ _ _ _ => rfl) (fun _ _ _ _ => rfl)) ?_
  refine nm ?_
  refine qs' ?_
  refine qm ?_
  refine qr 4 ?_
  rw [show insK CProc.f0 l p = insN CProc.f0 l p i.k ++ [p] from by rw [insN_end (k := i.k) (by omega) (by omega), if_neg (by simpa using c5)]]
  refine ⟨fun _ => 43, rfl, nodup_of rfl, ?_⟩
  intro r hr
  cases List.mem_singleton.1 hr
  exact ⟨by simp, rootL_mem rfl⟩
 try simp only [cnd] at c5
 refine jd (sr ?_)
 refine mn ?_
 refine qr 4 ?_
 rw [show insK CProc.f0 l p = insN CProc.f0 l p i.k from by rw [insN_end (k := i.k) (by omega) (by omega), if_pos (by simpa using c5)]]
 refine ⟨fun _ => 37, rfl, nodup_of rfl, ?_⟩
 intro r hr
 cases List.mem_singleton.1 hr
 exact ⟨by simp, rootL_mem rfl⟩
end Go.Proofs.YtekcnnngjoonbaaGreat.VM
