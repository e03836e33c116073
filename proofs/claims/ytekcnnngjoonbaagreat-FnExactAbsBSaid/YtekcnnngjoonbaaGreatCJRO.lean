/- Contracts. No conditions. -/
import Derived.Test.YtekcnnngjoonbaaGreatCJWO
set_option linter.all false
set_option maxHeartbeats 8000000
set_option maxRecDepth 10000
namespace Go.Proofs.YtekcnnngjoonbaaGreat.VM
open Go Go.RowKit Go.Proofs
theorem swapROpen_con (P U M V S : List DOpen) (a b n : Nat) (ha : a = P.length) (hb : b = a + U.length + M.length) (hn : n = U.length) (hv : U.length = V.length) (hl : (P ++ (U ++ (M ++ (V ++ S)))).length ≤ 4611686018427387904) : Con Tryz.prog 245 [.h base [], .v (iv (a : Nat)), .v (iv (b : Nat)), .v (iv (n : Nat)), .f 47 []] [.rt base .row (tr (P ++ (U ++ (M ++ (V ++ S)))))] (RetW (.t []) [] [(base, tr (P ++ (V ++ (M ++ (U ++ S)))))]) := by
 refine ob Tryz.func245 Tryz.ntmps245 ?_
 simp only [List.length_append] at hl
 refine sr ?_
 refine qn ?_
 refine AW.block ?_
 refine AW.weak (L' := [.sl 10 (.v (iv ((0 : Nat) : Nat))), .sl 0 (.h base []), .sl 1 (.v (iv (a : Nat))), .sl 2 (.v (iv (b : Nat))), .sl 3 (.v (iv (n : Nat))), .rt base .row (tr (swR P U M V S (0 : Nat)))]) (Weak.sim ⟨rfl, rfl, rfl, rfl, rfl, ⟨_, rfl, (by rw [swR_zero]; exact tsr)⟩, trivial⟩ rfl rfl) ?_
 refine AW.loop (fun i : KInv n => [.sl 10 (.v (iv (i.k : Nat))), .sl 0 (.h base []), .sl 1 (.v (iv (a : Nat))), .sl 2 (.v (iv (b : Nat))), .sl 3 (.v (iv (n : Nat))), .rt base .row (tr (swR P U M V S i.k))]) (fun i => n - i.k) ⟨0, Nat.zero_le _⟩ ?_
 intro i
 have hle := i.le
 have hpt : (((a : Nat) : Int) + ((i.k : Nat) : Int)).toNat = a + i.k := by omega
 have hqt : (((b : Nat) : Int) + ((i.k : Nat) : Int)).toNat = b + i.k := by omega
 refine sr2 ?_
 refine qm ?_
 refine mn ?_
 refine qb ?_
 refine nc (fun c1 => ?_) fun c1 => ?_
 ·try simp only [cnd] at c1
  refine jd (AW.seq (AW.block ?_))
  refine AW.draw [0, 1, 2, 3, 4, 5, 6, 7, 8, 9, 10, 11, 12, 13, 14, 15, 16, 17, 18, 19, 20, 22] rfl (by decide +kernel) ?_
  refine tk 0 rfl Qt.move ?_
  refine tk 1 rfl Qt.move ?_
  refine na ?_
  refine tk 2 rfl Qt.move ?_
  refine tk 3 rfl (Qt.binOp rfl rfl (by first | exact pbAdd (by omega) | rfl)) ?_
  refine tk 4 rfl Qt.move ?_
  refine na ?_
  refine tk 5 rfl Qt.move ?_
  refine tk 6 rfl Qt.move ?_
  refine tk 7 rfl (Qt.binOp rfl rfl (by first | exact pbAdd (by omega) | rfl)) ?_
  refine na ?_
  refine tk 8 rfl Qt.move ?_
  refine tk 9 rfl Qt.move ?_
  refine tk 10 rfl Qt.move ?_
  refine na ?_
  refine tk 11 rfl (Qt.binOp rfl rfl (by first | exact pbAdd (by omega) | rfl)) ?_
  refine tk 12 rfl (Qt.indexAddr rfl rfl rfl rfl sl36 sz72 (by decide) (by first | omega | (rw [swR_len]; omega))) ?_
  refine tk 13 rfl (Qt.loadG rfl rfl rfl ag72 sz72 (by decide)) ?_
  refine na ?_
  refine tk 14 rfl Qt.move ?_
  refine tk 15 rfl Qt.move ?_
  refine tk 16 rfl Qt.move ?_
  refine na ?_
  refine tk 17 rfl (Qt.binOp rfl rfl (by first | exact pbAdd (by omega) | rfl)) ?_
  refine tk 18 rfl (Qt.indexAddr rfl rfl rfl rfl sl36 sz72 (by decide) (by first | omega | (rw [swR_len]; omega))) ?_
  refine tk 19 rfl (Qt.loadG rfl rfl rfl ag72 sz72 (by decide)) ?_
  refine na ?_
  refine tk 20 rfl (Qt.indexAddr rfl rfl rfl rfl sl36 sz72 (by decide) (by first | omega | (rw [swR_len]; omega))) ?_
  refine a1 21 [4, 5, 6, 7] [20, 19, 13, 12, 11, 10, 9, 8, 3, 2, 1, 0, 18, 17, 14, 16, 15] rfl rfl (Stp.storeZ [.v (.bool false), .v (.bool false), .v (.bool false), .v (.bool false), .v (.bool false)] rfl rfl (by simp) rfl (by rfl) rfl rfl (by decide) rfl) ?_
  refine na ?_
  refine ae rfl Qt.move ?_
  refine ae rfl Qt.move ?_
  refine ae rfl Qt.move ?_
  refine ae rfl (Qt.binOp rfl rfl (by first | exact pbAdd (by omega) | rfl)) ?_
  refine na ?_
  refine na ?_
  refine AWA.rep base (tr ((swR P U M V S i.k).set (((a : Nat) : Int) + ((i.k : Nat) : Int)).toNat ((swR P U M V S i.k).getD (((b : Nat) : Int) + ((i.k : Nat) : Int)).toNat En.dflt))) rfl (set_sim (fun k c hk => by simp only [upd_app, hk, false_and, if_false]; try rfl) (fun c hc => match c, hc with | 0, _ => (by simp only [upd_app, eq_self, and_self, and_true, and_false, if_true, if_false, Nat.reduceEqDiff]; exact tsr) | 1, _ => (by simp only [upd_app, eq_self, and_self, and_true, and_false, if_true, if_false, Nat.reduceEqDiff]; exact tsr) | 2, _ => (by simp only [upd_app, eq_self, and_self, and_true, and_false, if_true, if_false, Nat.reduceEqDiff]; exact tsr) | 3, _ => (by simp only [upd_app, eq_self, and_self, and_true, and_false, if_true, if_false, Nat.reduceEqDiff]; exact tsr) | 4, _ => (by simp only [upd_app, eq_self, and_self, and_true, and_false, if_true, if_false, Nat.reduceEqDiff]; exact tsr) | c + 5, hc => absurd hc (by simp only [En.n]; omega))) ?_
  refine na ?_
  refine tk 22 rfl (Qt.indexAddr rfl rfl rfl rfl sl36 sz72 (by decide) (by rw [List.length_set, swR_len]; omega)) ?_
  refine a1 23 [] [22, 21, 20, 19, 18, 17, 16, 15, 14, 13, 12, 11, 10, 9, 8, 7, 6, 5, 4, 3, 2, 1, 0] rfl rfl (Stp.storeZ [.v (.bool false), .v (.bool false), .v (.bool false), .v (.bool false), .v (.bool false)] rfl rfl (by simp) rfl (by rfl) rfl rfl (by decide) rfl) ?_
  refine na ?_
  refine na ?_
  refine na ?_
  refine AWA.rep base (tr (((swR P U M V S i.k).set (((a : Nat) : Int) + ((i.k : Nat) : Int)).toNat ((swR P U M V S i.k).getD (((b : Nat) : Int) + ((i.k : Nat) : Int)).toNat En.dflt)).set (((b : Nat) : Int) + ((i.k : Nat) : Int)).toNat ((swR P U M V S i.k).getD (((a : Nat) : Int) + ((i.k : Nat) : Int)).toNat En.dflt))) rfl (set_sim (fun k c hk => by simp only [upd_app, hk, false_and, if_false]; try rfl) (fun c hc => match c, hc with | 0, _ => (by simp only [upd_app, eq_self, and_self, and_true, and_false, if_true, if_false, Nat.reduceEqDiff]; exact tsr) | 1, _ => (by simp only [upd_app, eq_self, and_self, and_true, and_false, if_true, if_false, Nat.reduceEqDiff]; exact tsr) | 2, _ => (by simp only [upd_app, eq_self, and_self, and_true, and_false, if_true, if_false, Nat.reduceEqDiff]; exact tsr) | 3, _ => (by simp only [upd_app, eq_self, and_self, and_true, and_false, if_true, if_false, Nat.reduceEqDiff]; exact tsr) | 4, _ => (by simp only [upd_app, eq_self, and_self, and_true, and_false, if_true, if_false, Nat.reduceEqDiff]; exact tsr) | c + 5, hc => absurd hc (by simp only [En.n]; omega))) ?_
  refine na ?_
  refine nz ?_
  refine AW.region ?_
  refine qm ?_
  refine ba ?_
  refine qn ?_
  refine ⟨⟨i.k + 1, by omega⟩, Weak.sim ⟨st1, rfl, rfl, rfl, rfl, ⟨_, rfl, (by rw [← swR_step (d := En.dflt) (p := (((a : Nat) : Int) + ((i.k : Nat) : Int)).toNat) (q := (((b : Nat) : Int) + ((i.k : Nat) : Int)).toNat) (by omega) hv (by omega) (by omega)]; exact tsr)⟩, trivial⟩ rfl rfl, ?_⟩
  show n - (i.k + 1) < n - i.k
  omega
 try simp only [cnd] at c1
 refine AW.exit ?_
 dsimp only [thenQ, blockQ, reduceIte]
 have hf := swR_full (P := P) (M := M) (S := S) hv (i := i.k) (by omega)
 rw [← hf]
 refine ⟨.inr rfl, [], .nil, ?_⟩
 refine ⟨fun n => n, rfl, fun _ _ => rfl, List.nodup_nil, (by simp), ?_⟩
 intro p hp
 cases List.mem_singleton.1 hp
 exact rootL_mem rfl
theorem swapRZOpen_con (P U M V S : List DOpen) (xa xb xn : Int) (hxa : xa = (P.length : Nat)) (hxb : xb = (P.length + U.length + M.length : Nat)) (hxn : xn = (U.length : Nat)) (hv : U.length = V.length) (hl : (P ++ (U ++ (M ++ (V ++ S)))).length ≤ 4611686018427387904) : Con Tryz.prog 245 [.h base [], .v (iv xa), .v (iv xb), .v (iv xn), .f 47 []] [.rt base .row (tr (P ++ (U ++ (M ++ (V ++ S)))))] (RetW (.t []) [] [(base, tr (P ++ (V ++ (M ++ (U ++ S)))))]) := by
 subst hxa hxb hxn
 exact swapROpen_con P U M V S _ _ _ rfl rfl rfl hv hl
theorem rotOpen_con (P X Y S : List DOpen) (a m b : Nat) (ha : a = P.length) (hm : m = a + X.length) (hb : b = m + Y.length) (hx : 0 < X.length) (hy : 0 < Y.length) (hl : (P ++ (X ++ (Y ++ S))).length ≤ 4611686018427387904) : Con Tryz.prog 219 [.h base [], .v (iv (a : Nat)), .v (iv (m : Nat)), .v (iv (b : Nat)), .f 47 []] [.rt base .row (tr (P ++ (X ++ (Y ++ S))))] (RetW (.t []) [] [(base, tr (P ++ (Y ++ (X ++ S))))]) := by
 refine ob Tryz.func219 Tryz.ntmps219 ?_
 simp only [List.length_append] at hl
 have hTl : (P ++ (Y ++ (X ++ S))).length = P.length + Y.length + X.length + S.length := by simp only [List.length_append]; omega
 refine sr ?_
 refine qm ?_
 refine qm ?_
 refine qq (Qt.binOp rfl rfl (by first | exact pbSub (by omega) | rfl)) ?_
 refine nm ?_
 refine qs' ?_
 refine qm ?_
 refine mn ?_
 refine qq (Qt.binOp rfl rfl (by first | exact pbSub (by omega) | rfl)) ?_
 refine qn ?_
 refine AW.seq (AW.block ?_)
 refine AW.weak (L' := [.sl 10 (.v (iv (X.length : Nat))), .sl 11 (.v (iv (Y.length : Nat))), .sl 0 (.h base []), .sl 2 (.v (iv (m : Nat))), .sl 4 (.f 47 []), .rt base .row (tr (P ++ (X ++ (Y ++ S))))]) (Weak.sim ⟨xI7 (by omega), xI7 (by omega), rfl, rfl, rfl, Rf rfl, trivial⟩ rfl rfl) ?_
 refine AW.loop (fun i : RI (P ++ (Y ++ (X ++ S))) m => [.sl 10 (.v (iv (i.U.length : Nat))), .sl 11 (.v (iv (i.V.length : Nat))), .sl 0 (.h base []), .sl 2 (.v (iv (m : Nat))), .sl 4 (.f 47 []), .rt base .row (tr i.row)]) (fun i => i.U.length + i.V.length) ⟨P, X, Y, S, rfl, by omega, hx, hy⟩ ?_
 intro i
 have hiu := i.hu
 have hiv := i.hv
 have him := i.em
 have hil := i.len
 refine sr2 ?_
 refine mn ?_
 refine qm ?_
 refine qb ?_
 refine nc (fun c1 => ?_) fun c1 => ?_
 ·try simp only [cnd] at c1
  refine jd (AW.block (sr ?_))
  refine mn ?_
  refine qm ?_
  refine qb ?_
  refine nc (fun c2 => ?_) fun c2 => ?_
  ·try simp only [cnd] at c2
   have hc : i.V.length < i.U.length := by omega
   refine sr ?_
   refine mn ?_
   refine qm ?_
   refine qm ?_
   refine qq (Qt.binOp rfl rfl (by first | exact pbSub (by omega) | rfl)) ?_
   refine nm ?_
   refine qm ?_
   refine qm ?_
   refine mn ?_
   refine AWL.rep base (tr (i.P ++ (i.U.take i.V.length ++ (i.U.drop i.V.length ++ (i.V ++ i.S))))) rfl (by rw [i.a_pre]; exact tsr) ?_
   refine nm ?_
   refine sp (Stp.callH rfl (by decide) Tryz.call245 rfl (swapRZOpen_con i.P (i.U.take i.V.length) (i.U.drop i.V.length) i.V i.S _ _ _ (by omega) (by simp only [List.length_take, List.length_drop]; omega) (by simp only [List.length_take]; omega) (by simp only [List.length_take]; omega) (by simp only [List.length_append, List.length_take, List.length_drop]; omega)) rfl rfl rfl (nodup_of rfl) rfl rfl) ?_
   refine nl ?_
   refine AW.region ?_
   refine mn ?_
   refine qm ?_
   refine qq (Qt.binOp rfl rfl (by first | exact pbSub (by omega) | rfl)) ?_
   refine qn ?_
   refine ⟨i.a hc, Weak.sim ⟨xI7 (by show _ = (((i.a hc).U.length : Nat) : Int); simp only [RI.a, List.length_drop, List.length_take]; omega), xI7 (by show _ = (((i.a hc).V.length : Nat) : Int); simp only [RI.a, List.length_drop, List.length_take]; omega), rfl, rfl, rfl, ⟨_, rfl, (by rw [RI.a_row]; exact tsr)⟩, trivial⟩ rfl rfl, ?_⟩
   show (i.a hc).U.length + (i.a hc).V.length < i.U.length + i.V.length
   simp only [RI.a, List.length_drop, List.length_take]
   omega
  try simp only [cnd] at c2
  have hc : i.U.length < i.V.length := by omega
  refine sr ?_
  refine mn ?_
  refine qm ?_
  refine qm ?_
  refine qq (Qt.binOp rfl rfl (by first | exact pbSub (by omega) | rfl)) ?_
  refine nm ?_
  refine qm ?_
  refine qm ?_
  refine ba ?_
  refine nm ?_
  refine qm ?_
  refine qq (Qt.binOp rfl rfl (by first | exact pbSub (by omega) | rfl)) ?_
  refine mn ?_
  refine mn ?_
  refine AWL.rep base (tr (i.P ++ (i.U ++ (i.V.take (i.V.length - i.U.length) ++ (i.V.drop (i.V.length - i.U.length) ++ i.S))))) rfl (by rw [i.b_pre]; exact tsr) ?_
  refine nm ?_
  refine sp (Stp.callH rfl (by decide) Tryz.call245 rfl (swapRZOpen_con i.P i.U (i.V.take (i.V.length - i.U.length)) (i.V.drop (i.V.length - i.U.length)) i.S _ _ _ (by omega) (by simp only [List.length_take]; omega) rfl (by simp only [List.length_drop]; omega) (by simp only [List.length_append, List.length_take, List.length_drop]; omega)) rfl rfl rfl (nodup_of rfl) rfl rfl) ?_
  refine nl ?_
  refine AW.region ?_
  refine mn ?_
  refine qm ?_
  refine qq (Qt.binOp rfl rfl (by first | exact pbSub (by omega) | rfl)) ?_
  refine qn ?_
  refine ⟨i.b hc, Weak.sim ⟨xI7 (by show _ = (((i.b hc).U.length : Nat) : Int); simp only [RI.b, List.length_drop, List.length_take]; omega), xI7 (by show _ = (((i.b hc).V.length : Nat) : Int); simp only [RI.b, List.length_drop, List.length_take]; omega), rfl, rfl, rfl, ⟨_, rfl, (by rw [RI.b_row]; exact tsr)⟩, trivial⟩ rfl rfl, ?_⟩
  show (i.b hc).U.length + (i.b hc).V.length < i.U.length + i.V.length
  simp only [RI.b, List.length_drop, List.length_take]
  omega
 try simp only [cnd] at c1
 refine AW.exit ?_
 dsimp only [thenQ, blockQ, reduceIte]
 refine AW.region ?_
 refine mn ?_
 refine qm ?_
 refine qm ?_
 refine qq (Qt.binOp rfl rfl (by first | exact pbSub (by omega) | rfl)) ?_
 refine nm ?_
 refine qm ?_
 refine qm ?_
 refine mn ?_
 refine AWL.rep base (tr (i.P ++ (i.U ++ ([] ++ (i.V ++ i.S))))) rfl (by exact tsr) ?_
 refine nm ?_
 refine sp (Stp.callH rfl (by decide) Tryz.call245 rfl (swapRZOpen_con i.P i.U [] i.V i.S _ _ _ (by omega) (by simp only [List.length_nil]; omega) rfl (by omega) (by simp only [List.length_append, List.length_nil]; omega)) rfl rfl rfl (nodup_of rfl) rfl rfl) ?_
 refine nm ?_
 refine AWL.rep base (tr (P ++ (Y ++ (X ++ S)))) rfl (by show T.sim (tr (i.P ++ (i.V ++ (i.U ++ i.S)))) _; rw [i.eT]; exact tsr) ?_
 refine nl ?_
 refine ⟨.inr rfl, [], .nil, ?_⟩
 refine ⟨fun n => n, rfl, fun _ _ => rfl, List.nodup_nil, (by simp), ?_⟩
 intro p hp
 cases List.mem_singleton.1 hp
 exact rootL_mem rfl
theorem rotZOpen_con (P X Y S : List DOpen) (xa xm xb : Int) (hxa : xa = (P.length : Nat)) (hxm : xm = (P.length + X.length : Nat)) (hxb : xb = (P.length + X.length + Y.length : Nat)) (hx : 0 < X.length) (hy : 0 < Y.length) (hl : (P ++ (X ++ (Y ++ S))).length ≤ 4611686018427387904) : Con Tryz.prog 219 [.h base [], .v (iv xa), .v (iv xm), .v (iv xb), .f 47 []] [.rt base .row (tr (P ++ (X ++ (Y ++ S))))] (RetW (.t []) [] [(base, tr (P ++ (Y ++ (X ++ S))))]) := by
 subst hxa hxm hxb
 exact rotOpen_con P X Y S _ _ _ rfl rfl rfl hx hy hl
end Go.Proofs.YtekcnnngjoonbaaGreat.VM
