/- Contracts. No conditions. -/
import Derived.Test.YtekcnnngjoonbaaGreatCJCF
set_option linter.all false
set_option maxHeartbeats 8000000
set_option maxRecDepth 10000
namespace Go.Proofs.YtekcnnngjoonbaaGreat.VM
open Go Go.RowKit Go.Proofs
theorem insRFile_con (P X S : List CFile) (a b : Nat) (ha : a = P.length) (hb : b = a + X.length) (hl : (P ++ (X ++ S)).length ≤ 4611686018427387904) : Con Tryz.prog 176 [.h base [], .v (iv (a : Nat)), .v (iv (b : Nat)), .f 52 []] [.rt base .row (tr (P ++ (X ++ S)))] (RetW (.t []) [] [(base, tr (P ++ (sortK CFile.f0 X ++ S)))]) := by
 refine ob Tryz.func176 Tryz.ntmps176 ?_
 simp only [List.length_append] at hl
 refine sr ?_
 refine qm ?_
 refine ba ?_
 refine qn ?_
 refine AW.block ?_
 refine AW.weak (L' := [.sl 8 (.v (iv (a + 1 : Nat))), .sl 0 (.h base []), .sl 1 (.v (iv (a : Nat))), .sl 2 (.v (iv (b : Nat))), .sl 3 (.f 52 []), .rt base .row (tr (insR P X S CFile.f0 1))]) (Weak.sim ⟨xI7 (by omega), rfl, rfl, rfl, rfl, ⟨_, rfl, (by rw [insR_one (key := CFile.f0)]; exact tsr)⟩, trivial⟩ rfl rfl) ?_
 refine AW.loop (fun q : OI X.length => [.sl 8 (.v (iv (a + q.k : Nat))), .sl 0 (.h base []), .sl 1 (.v (iv (a : Nat))), .sl 2 (.v (iv (b : Nat))), .sl 3 (.f 52 []), .rt base .row (tr (insR P X S CFile.f0 q.k))]) (fun q => X.length - q.k) ⟨1, Nat.le_refl _, .inr rfl⟩ ?_
 intro q
 have hqk := q.k1
 refine sr2 ?_
 refine mn ?_
 refine qm ?_
 refine qb ?_
 refine nc (fun c1 => ?_) fun c1 => ?_
 ·have k1 := c1
  try simp only [cnd] at c1
  have hqlt : q.k < X.length := by omega
  refine jd (AW.seq (AW.block (sr ?_)))
  refine mn ?_
  refine qn ?_
  refine AW.block ?_
  refine AW.weak (L' := [.sl 9 (.v (iv ((a + q.k) : Nat))), .sl 8 (.v (iv (a + q.k : Nat))), .sl 0 (.h base []), .sl 1 (.v (iv (a : Nat))), .sl 2 (.v (iv (b : Nat))), .sl 3 (.f 52 []), .rt base .row (tr (wnd P (X.getD q.k En.dflt) (sortK CFile.f0 (X.take q.k)) (X.drop (q.k + 1) ++ S) q.k))]) (Weak.sim ⟨rfl, rfl, rfl, rfl, rfl, rfl, ⟨_, rfl, (by rw [insR_wnd hqlt]; exact tsr)⟩, trivial⟩ rfl rfl) ?_
  refine AW.loop (fun i : WI CFile.f0 P (X.getD q.k En.dflt) (sortK CFile.f0 (X.take q.k)) => [.sl 9 (.v (iv (i.j : Nat))), .sl 8 (.v (iv (a + q.k : Nat))), .sl 0 (.h base []), .sl 1 (.v (iv (a : Nat))), .sl 2 (.v (iv (b : Nat))), .sl 3 (.f 52 []), .rt base .row (tr (wnd P (X.getD q.k En.dflt) (sortK CFile.f0 (X.take q.k)) (X.drop (q.k + 1) ++ S) i.t))]) (fun i => i.j) ⟨q.k, a + q.k, by rw [sortK_len, List.length_take]; omega, by omega, fun y hy => by rw [List.drop_of_length_le (by rw [sortK_len, List.length_take]; omega)] at hy; cases hy⟩ ?_
  intro i
  have hjt : (((i.j : Nat) : Int) - 1).toNat = i.j - 1 := by omega
  have hej := i.ej
  have hil := i.le
  have hZl : (sortK CFile.f0 (X.take q.k)).length = q.k := by rw [sortK_len, List.length_take]; omega
  refine AW.seq (AW.seq ?_)
  refine AW.draw [0, 1, 2, 3, 4, 5, 6, 7, 8, 9, 10, 11, 12, 13, 15, 16] rfl (by decide +kernel) ?_
  refine tk 0 rfl Qt.move ?_
  refine tk 1 rfl Qt.move ?_
  refine na ?_
  refine tk 2 rfl (Qt.binOp rfl rfl rfl) ?_
  refine tk 3 rfl Qt.move ?_
  refine AWA.split 21 rfl (fun g2 => ?_) (fun g2 => ?_)
  ·refine tg 4 rfl g2 Qt.move ?_
   refine na ?_
   refine tg 5 rfl g2 Qt.move ?_
   refine tg 6 rfl g2 Qt.move ?_
   refine tg 7 rfl g2 (Qt.indexAddr rfl rfl rfl rfl sl38 sz96 (by decide) (by first | omega | (rw [wnd_len]; simp only [List.length_append, List.length_drop]; have hj0 : a < i.j := (by simpa using g2); omega))) ?_
   refine na ?_
   refine tg 8 rfl g2 (Qt.loadG rfl rfl rfl ag96 sz96 (by decide)) ?_
   refine tg 9 rfl g2 Qt.move ?_
   refine tg 10 rfl g2 Qt.move ?_
   refine na ?_
   refine tg 11 rfl g2 (Qt.binOp rfl rfl (by first | exact pbSub (by omega) | rfl)) ?_
   refine tg 12 rfl g2 (Qt.indexAddr rfl rfl rfl rfl sl38 sz96 (by decide) (by first | omega | (rw [wnd_len]; simp only [List.length_append, List.length_drop]; have hj0 : a < i.j := (by simpa using g2); omega))) ?_
   refine tg 13 rfl g2 (Qt.loadG rfl rfl rfl ag96 sz96 (by decide)) ?_
   refine na ?_
   have hj0 : a < i.j := by simpa using g2
   refine na ?_
   refine AWA.weak (Weak.toC 26 [.v (iv ((wnd P (X.getD q.k En.dflt) (sortK CFile.f0 (X.take q.k)) (X.drop (q.k + 1) ++ S) i.t).getD i.j En.dflt).f0), .c] rfl ⟨.inl rfl, .inr ⟨rfl, _, rfl, rfl⟩, trivial⟩) ?_
   refine AWA.weak (Weak.toC 31 [.v (iv ((wnd P (X.getD q.k En.dflt) (sortK CFile.f0 (X.take q.k)) (X.drop (q.k + 1) ++ S) i.t).getD (((i.j : Nat) : Int) - 1).toNat En.dflt).f0), .c] rfl ⟨.inl rfl, .inr ⟨rfl, _, rfl, rfl⟩, trivial⟩) ?_
   refine na ?_
   refine a1 14 [] [13, 8, 4, 3, 12, 7, 2, 11, 9, 6, 5, 1, 0, 10] rfl g2 (Stp.callV rfl (by decide) Tryz.call52 rfl rfl (cmpFile_con _ _)) ?_
   refine na ?_
   refine na ?_
   refine tg 15 rfl g2 (Qt.binOp rfl rfl rfl) ?_
   refine tk 16 rfl (Qt.pickT rfl g2) ?_
   refine nz ?_
   refine cd (fun c3 => ?_) fun c3 => ?_
   ·try simp only [cnd] at c3
    have hlt : CFile.f0 (X.getD q.k En.dflt) < CFile.f0 ((sortK CFile.f0 (X.take q.k)).getD (i.t - 1) En.dflt) := by
     have := cmpI_neg.1 c3
     rwa [wnd_get hil hej, wnd_prev hil (by omega) (by omega)] at this
    refine jd (AW.seq (AW.block ?_))
    refine AW.draw [0, 1, 2, 3, 4, 5, 6, 7, 8, 9, 10, 11, 12, 13, 14, 16] rfl (by decide +kernel) ?_
    refine tk 0 rfl Qt.move ?_
    refine na ?_
    refine tk 1 rfl Qt.move ?_
    refine tk 2 rfl Qt.move ?_
    refine tk 3 rfl Qt.move ?_
    refine na ?_
    refine tk 4 rfl (Qt.binOp rfl rfl (by first | exact pbSub (by omega) | rfl)) ?_
    refine tk 5 rfl Qt.move ?_
    refine tk 6 rfl Qt.move ?_
    refine na ?_
    refine tk 7 rfl (Qt.binOp rfl rfl (by first | exact pbSub (by omega) | rfl)) ?_
    refine tk 8 rfl (Qt.indexAddr rfl rfl rfl rfl sl38 sz96 (by decide) (by first | omega | (rw [wnd_len]; simp only [List.length_append, List.length_drop]; have hj0 : a < i.j := (by simpa using g2); omega))) ?_
    refine tk 9 rfl (Qt.loadG rfl rfl rfl ag96 sz96 (by decide)) ?_
    refine na ?_
    refine tk 10 rfl Qt.move ?_
    refine tk 11 rfl Qt.move ?_
    refine tk 12 rfl (Qt.indexAddr rfl rfl rfl rfl sl38 sz96 (by decide) (by first | omega | (rw [wnd_len]; simp only [List.length_append, List.length_drop]; have hj0 : a < i.j := (by simpa using g2); omega))) ?_
    refine na ?_
    refine tk 13 rfl (Qt.loadG rfl rfl rfl ag96 sz96 (by decide)) ?_
    refine tk 14 rfl (Qt.indexAddr rfl rfl rfl rfl sl38 sz96 (by decide) (by first | omega | (rw [wnd_len]; simp only [List.length_append, List.length_drop]; have hj0 : a < i.j := (by simpa using g2); omega))) ?_
    refine a1 15 [2, 3, 4] [14, 13, 9, 8, 7, 6, 5, 1, 0, 12, 11, 10] rfl rfl (Stp.storeZ [.v (.bool false), .v (.bool false)] rfl rfl (by simp) rfl (by rfl) rfl rfl (by decide) rfl) ?_
    refine na ?_
    refine ae rfl Qt.move ?_
    refine ae rfl Qt.move ?_
    refine ae rfl (Qt.binOp rfl rfl (by first | exact pbSub (by omega) | rfl)) ?_
    refine na ?_
    refine na ?_
    refine AWA.rep base (tr ((wnd P (X.getD q.k En.dflt) (sortK CFile.f0 (X.take q.k)) (X.drop (q.k + 1) ++ S) i.t).set i.j ((wnd P (X.getD q.k En.dflt) (sortK CFile.f0 (X.take q.k)) (X.drop (q.k + 1) ++ S) i.t).getD (((i.j : Nat) : Int) - 1).toNat En.dflt))) rfl (set_sim (fun k c hk => by simp only [upd_app, hk, false_and, if_false]; try rfl) (fun c hc => match c, hc with | 0, _ => (by simp only [upd_app, eq_self, and_self, and_true, and_false, if_true, if_false, Nat.reduceEqDiff]; exact tsr) | 1, _ => (by simp only [upd_app, eq_self, and_self, and_true, and_false, if_true, if_false, Nat.reduceEqDiff]; exact tsr) | c + 2, hc => absurd hc (by simp only [En.n]; omega))) ?_
    refine na ?_
    refine tk 16 rfl (Qt.indexAddr rfl rfl rfl rfl sl38 sz96 (by decide) (by rw [List.length_set, wnd_len]; simp only [sortK_len, List.length_append, List.length_drop, List.length_take]; omega)) ?_
    refine a1 17 [] [16, 15, 14, 13, 12, 11, 10, 9, 8, 7, 6, 5, 4, 3, 2, 1, 0] rfl rfl (Stp.storeZ [.v (.bool false), .v (.bool false)] rfl rfl (by simp) rfl (by rfl) rfl rfl (by decide) rfl) ?_
    refine na ?_
    refine na ?_
    refine na ?_
    refine AWA.rep base (tr (((wnd P (X.getD q.k En.dflt) (sortK CFile.f0 (X.take q.k)) (X.drop (q.k + 1) ++ S) i.t).set i.j ((wnd P (X.getD q.k En.dflt) (sortK CFile.f0 (X.take q.k)) (X.drop (q.k + 1) ++ S) i.t).getD (((i.j : Nat) : Int) - 1).toNat En.dflt)).set (((i.j : Nat) : Int) - 1).toNat ((wnd P (X.getD q.k En.dflt) (sortK CFile.f0 (X.take q.k)) (X.drop (q.k + 1) ++ S) i.t).getD i.j En.dflt))) rfl (set_sim (fun k c hk => by simp only [upd_app, hk, false_and, if_false]; try rfl) (fun c hc => match c, hc with | 0, _ => (by simp only [upd_app, eq_self, and_self, and_true, and_false, if_true, if_false, Nat.reduceEqDiff]; exact tsr) | 1, _ => (by simp only [upd_app, eq_self, and_self, and_true, and_false, if_true, if_false, Nat.reduceEqDiff]; exact tsr) | c + 2, hc => absurd hc (by simp only [En.n]; omega))) ?_
    refine na ?_
    refine nz ?_
    refine AW.region ?_
    refine qm ?_
    refine qq (Qt.binOp rfl rfl (by first | exact pbSub (by omega) | rfl)) ?_
    refine qn ?_
    have hsw := wnd_down (d := En.dflt) (P := P) (Y := (sortK CFile.f0 (X.take q.k))) (S := (X.drop (q.k + 1) ++ S)) (x := (X.getD q.k En.dflt)) (t := i.t - 1) (p := i.j) (q := (((i.j : Nat) : Int) - 1).toNat) (by omega) (by omega) (by omega)
    rw [show i.t - 1 + 1 = i.t by omega] at hsw
    refine ⟨⟨i.t - 1, i.j - 1, by omega, by omega, i.next (by omega) hlt⟩, Weak.sim ⟨xI7 (by show _ = ((i.j - 1 : Nat) : Int); omega), rfl, rfl, rfl, rfl, rfl, ⟨_, rfl, (by rw [← hsw]; exact tsr)⟩, trivial⟩ rfl rfl, ?_⟩
    show i.j - 1 < i.j
    omega
   try simp only [cnd] at c3
   have hlt : ¬ CFile.f0 (X.getD q.k En.dflt) < CFile.f0 ((sortK CFile.f0 (X.take q.k)).getD (i.t - 1) En.dflt) := by
    intro hc
    have := c3
    rw [wnd_get hil hej, wnd_prev hil (by omega) (by omega)] at this
    have := cmpI_neg.2 hc
    omega
   refine AW.exit ?_
   dsimp only [thenQ, blockQ, reduceIte]
   refine AW.region ?_
   refine mn ?_
   refine ba ?_
   refine qn ?_
   have hd := insR_next (S := S) hqlt i (.inr hlt)
   refine ⟨⟨q.k + 1, by omega, .inl (by omega)⟩, Weak.sim ⟨xI7 (by show _ = ((a + (q.k + 1) : Nat) : Int); omega), rfl, rfl, rfl, rfl, ⟨_, rfl, (by rw [← hd]; exact tsr)⟩, trivial⟩ rfl rfl, ?_⟩
   show X.length - (q.k + 1) < X.length - q.k
   omega
  refine tf 4 g2 ?_
  refine na ?_
  refine tf 5 g2 ?_
  refine tf 6 g2 ?_
  refine tf 7 g2 ?_
  refine na ?_
  refine tf 8 g2 ?_
  refine tf 9 g2 ?_
  refine tf 10 g2 ?_
  refine na ?_
  refine tf 11 g2 ?_
  refine tf 12 g2 ?_
  refine tf 13 g2 ?_
  refine na ?_
  refine o1 14 [] [13, 8, 4, 3, 12, 7, 2, 11, 9, 6, 5, 1, 0, 10] rfl g2 ?_
  refine na ?_
  refine na ?_
  refine tf 15 g2 ?_
  refine tk 16 rfl (Qt.pickF rfl g2) ?_
  refine nz ?_
  refine AW.cond rfl (fun c4 => (by exfalso; first | (cases c4; done) | (simp at c4; done) | (simp only [cnd] at c4; omega))) (fun c4 => ?_)
  try simp only [cnd] at c4
  refine AW.exit ?_
  dsimp only [thenQ, blockQ, reduceIte]
  refine AW.region ?_
  refine mn ?_
  refine ba ?_
  refine qn ?_
  have hge : ¬ a < i.j := by simpa using g2
  have hd := insR_next (S := S) hqlt i (.inl (by omega))
  refine ⟨⟨q.k + 1, by omega, .inl (by omega)⟩, Weak.sim ⟨xI7 (by show _ = ((a + (q.k + 1) : Nat) : Int); omega), rfl, rfl, rfl, rfl, ⟨_, rfl, (by rw [← hd]; exact tsr)⟩, trivial⟩ rfl rfl, ?_⟩
  show X.length - (q.k + 1) < X.length - q.k
  omega
 have k1 := c1
 try simp only [cnd] at c1
 refine AW.exit ?_
 dsimp only [thenQ, blockQ, reduceIte]
 have hf := insR_full (key := CFile.f0) (P := P) (X := X) (S := S) (k := q.k) (by omega)
 rw [← hf]
 refine ⟨.inr rfl, [], .nil, ?_⟩
 refine ⟨fun n => n, rfl, fun _ _ => rfl, List.nodup_nil, (by simp), ?_⟩
 intro p hp
 cases List.mem_singleton.1 hp
 exact rootL_mem rfl
end Go.Proofs.YtekcnnngjoonbaaGreat.VM
