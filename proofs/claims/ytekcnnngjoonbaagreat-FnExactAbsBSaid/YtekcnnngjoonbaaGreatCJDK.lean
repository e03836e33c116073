/- Contracts. No conditions. -/
import Derived.Test.YtekcnnngjoonbaaGreatCJMK
set_option linter.all false
set_option maxHeartbeats 8000000
set_option maxRecDepth 10000
namespace Go.Proofs.YtekcnnngjoonbaaGreat.VM
open Go Go.RowKit Go.Proofs
theorem insRZPipe_con (P X S : List CPipe) (xa xb : Int) (hxa : xa = (P.length : Nat)) (hxb : xb = (P.length + X.length : Nat)) (hl : (P ++ (X ++ S)).length ≤ 4611686018427387904) : Con Tryz.prog 174 [.h base [], .v (iv xa), .v (iv xb), .f 50 []] [.rt base .row (tr (P ++ (X ++ S)))] (RetW (.t []) [] [(base, tr (P ++ (sortK CPipe.f0 X ++ S)))]) := by
 subst hxa hxb
 exact insRPipe_con P X S _ _ rfl rfl hl
theorem insREPipe_con (P X : List CPipe) (xa xb : Int) (hxa : xa = (P.length : Nat)) (hxb : xb = (P.length + X.length : Nat)) (hl : (P ++ X).length ≤ 4611686018427387904) : Con Tryz.prog 174 [.h base [], .v (iv xa), .v (iv xb), .f 50 []] [.rt base .row (tr (P ++ X))] (RetW (.t []) [] [(base, tr (P ++ sortK CPipe.f0 X))]) := by
 have h := insRZPipe_con P X [] xa xb hxa hxb (by rw [List.append_nil]; exact hl)
 rwa [List.append_nil, List.append_nil] at h
theorem symMPipe_con : ∀ n, SymOkPipe n
 | 0 => fun P X Y S xa xm xb _ _ _ h hx => absurd h (by omega)
 | n + 1 => fun P X Y S xa xm xb ha hm hb h hx hy hX hY hl => by
  subst ha hm hb
  exact symMPipe_step n (symMPipe_con n) P X Y S _ _ _ rfl rfl rfl h hx hy hX hY hl
theorem symMZPipe_con (P X Y S : List CPipe) (xa xm xb : Int) (ha : xa = (P.length : Nat)) (hm : xm = (P.length + X.length : Nat)) (hb : xb = (P.length + X.length + Y.length : Nat)) (hx : 0 < X.length) (hy : 0 < Y.length) (hX : Asc CPipe.f0 X) (hY : Asc CPipe.f0 Y) (hl : P.length + X.length + Y.length + S.length ≤ 2305843009213693952) : Con Tryz.prog 175 [.h base [], .v (iv xa), .v (iv xm), .v (iv xb), .f 50 []] [.rt base .row (tr (row4 P X Y S))] (RetW (.t []) [] [(base, tr (P ++ (sortK CPipe.f0 (X ++ Y) ++ S)))]) :=
 symMPipe_con (X.length + Y.length) P X Y S xa xm xb ha hm hb (Nat.le_refl _) hx hy hX hY hl
theorem stableNPipe_con (l : List CPipe) (hl : l.length ≤ 100000000) : Con Tryz.prog 122 [.h base [], .v (iv l.length), .f 50 []] [.rt base .row (tr l)] (RetW (.t []) [] [(base, tr (sortK CPipe.f0 l))]) := by
 refine ob Tryz.func122 Tryz.ntmps122 ?_
 refine sr ?_
 refine qs' ?_
 refine qm ?_
 refine qa ?_
 refine nm ?_
 refine qn ?_
 refine AW.seq (AW.block ?_)
 refine AW.weak (L' := [.sl 6 (.v (iv 20)), .sl 7 (.v (iv (0 : Nat))), .sl 8 (.v (iv (0 + 20 : Nat))), .sl 0 (.h base []), .sl 1 (.v (iv (l.length : Nat))), .sl 2 (.f 50 []), .rt base .row (tr ((blks CPipe.f0 20 l 0) ++ l.drop 0))]) (Weak.sim ⟨rfl, rfl, rfl, rfl, rfl, rfl, ⟨_, rfl, (by rw [List.drop_zero]; exact tsr)⟩, trivial⟩ rfl rfl) ?_
 refine AW.loop (fun i : BI 20 l.length => [.sl 6 (.v (iv 20)), .sl 7 (.v (iv (i.a : Nat))), .sl 8 (.v (iv (i.a + 20 : Nat))), .sl 0 (.h base []), .sl 1 (.v (iv (l.length : Nat))), .sl 2 (.f 50 []), .rt base .row (tr ((blks CPipe.f0 20 l i.k) ++ l.drop i.a))]) (fun i => l.length - i.a) ⟨0, 0, rfl, Nat.zero_le _⟩ ?_
 intro i
 have hia := i.le
 have hib := blks_lenI CPipe.f0 i
 have hid : (l.drop i.a).length = l.length - i.a := List.length_drop
 refine sr2 ?_
 refine qm ?_
 refine mn ?_
 refine qb ?_
 refine nc (fun c1 => ?_) fun c1 => ?_
 ·try simp only [cnd] at c1
  refine jd (AW.block (sr ?_))
  refine qm ?_
  refine mn ?_
  refine qm ?_
  refine mn ?_
  refine AWL.rep base (tr ((blks CPipe.f0 20 l i.k) ++ ((l.drop i.a).take 20 ++ l.drop (i.a + 20)))) rfl (rowSim (by rw [← List.drop_drop, List.take_append_drop])) ?_
  refine nm ?_
  refine sp (Stp.callH rfl (by decide) Tryz.call174 rfl (insRZPipe_con (blks CPipe.f0 20 l i.k) ((l.drop i.a).take 20) (l.drop (i.a + 20)) _ _ (by omega) (by rw [List.length_take]; omega) (by simp only [List.length_append, List.length_take, List.length_drop]; omega)) rfl rfl rfl (nodup_of rfl) rfl rfl) ?_
  refine ns ?_
  refine mn ?_
  refine qn ?_
  refine AW.region ?_
  refine qm ?_
  refine mn ?_
  refine ba ?_
  refine qn ?_
  refine ⟨⟨i.k + 1, i.a + 20, i.next, by omega⟩, Weak.sim ⟨rfl, rfl, xI7 (by show _ = ((i.a + 20 + 20 : Nat) : Int); omega), rfl, rfl, rfl, ⟨_, rfl, rowSim (by rw [blks_nextI CPipe.f0 i, List.append_assoc])⟩, trivial⟩ rfl rfl, ?_⟩
  show l.length - (i.a + 20) < l.length - i.a
  omega
 try simp only [cnd] at c1
 refine AW.exit ?_
 dsimp only [thenQ, blockQ, reduceIte]
 refine sr ?_
 refine mn ?_
 refine qm ?_
 refine qm ?_
 refine mn ?_
 refine sp (Stp.callH rfl (by decide) Tryz.call174 rfl (insREPipe_con (blks CPipe.f0 20 l i.k) (l.drop i.a) _ _ (by omega) (by omega) (by rw [List.length_append]; omega)) rfl rfl rfl (nodup_of rfl) rfl rfl) ?_
 have hin := i.next
 refine nm ?_
 refine AWL.rep base (tr (full CPipe.f0 20 l)) rfl (rowSim (by rw [← blks_full CPipe.f0 (k := i.k + 1) (by omega) (by omega), blks_nextI CPipe.f0 i, List.take_of_length_le (by omega)])) ?_
 refine nl ?_
 refine AW.block ?_
 refine AW.weak (L' := [.sl 6 (.v (iv (20 : Nat))), .sl 0 (.h base []), .sl 1 (.v (iv (l.length : Nat))), .sl 2 (.f 50 []), .rt base .row (tr (full CPipe.f0 20 l))]) (Weak.sim ⟨rfl, rfl, rfl, rfl, Rf rfl, trivial⟩ rfl rfl) ?_
 refine AW.loop (fun q : QI l.length => [.sl 6 (.v (iv (q.bs : Nat))), .sl 0 (.h base []), .sl 1 (.v (iv (l.length : Nat))), .sl 2 (.f 50 []), .rt base .row (tr (full CPipe.f0 q.bs l))]) (fun q => l.length - q.bs) ⟨20, by omega, by omega⟩ ?_
 intro q
 have hq1 := q.h1
 have hq2 := q.h2
 refine sr2 ?_
 refine mn ?_
 refine qm ?_
 refine qb ?_
 refine nc (fun c2 => ?_) fun c2 => ?_
 ·try simp only [cnd] at c2
  refine jd (AW.block (sr ?_))
  refine mn ?_
  refine qq (Qt.binOp rfl rfl (by first | exact pbMul (by omega) | rfl)) ?_
  refine qa ?_
  refine qn ?_
  refine AW.seq (AW.block ?_)
  refine AW.weak (L' := [.sl 6 (.v (iv (q.bs : Nat))), .sl 7 (.v (iv (0 : Nat))), .sl 8 (.v (iv (0 + (q.bs + q.bs) : Nat))), .sl 0 (.h base []), .sl 1 (.v (iv (l.length : Nat))), .sl 2 (.f 50 []), .rt base .row (tr ((blks CPipe.f0 (q.bs + q.bs) l 0) ++ (full CPipe.f0 q.bs (l.drop 0))))]) (Weak.sim ⟨rfl, rfl, xI7 (by omega), rfl, rfl, rfl, ⟨_, rfl, rowSim (by rw [List.drop_zero]; rfl)⟩, trivial⟩ rfl rfl) ?_
  refine AW.loop (fun w : BI (q.bs + q.bs) l.length => [.sl 6 (.v (iv (q.bs : Nat))), .sl 7 (.v (iv (w.a : Nat))), .sl 8 (.v (iv (w.a + (q.bs + q.bs) : Nat))), .sl 0 (.h base []), .sl 1 (.v (iv (l.length : Nat))), .sl 2 (.f 50 []), .rt base .row (tr ((blks CPipe.f0 (q.bs + q.bs) l w.k) ++ (full CPipe.f0 q.bs (l.drop w.a))))]) (fun w => l.length - w.a) ⟨0, 0, by simp, Nat.zero_le _⟩ ?_
  intro w
  have hwa := w.le
  have hwb := blks_lenI CPipe.f0 w
  have hwd : (l.drop w.a).length = l.length - w.a := List.length_drop
  refine sr2 ?_
  refine mn ?_
  refine qm ?_
  refine qb ?_
  refine nc (fun c3 => ?_) fun c3 => ?_
  ·try simp only [cnd] at c3
   have n1 : (sortK CPipe.f0 ((l.drop w.a).take q.bs)).length = q.bs := (by simp only [sortK_len, List.length_take, List.length_drop] <;> omega)
   have n2 : (sortK CPipe.f0 (((l.drop w.a).drop q.bs).take q.bs)).length = q.bs := (by simp only [sortK_len, List.length_take, List.length_drop] <;> omega)
   have n3 : (full CPipe.f0 q.bs ((l.drop w.a).drop (q.bs + q.bs))).length = l.length - w.a - (q.bs + q.bs) := by rw [full_len CPipe.f0 hq1, List.length_drop]; omega
   refine jd (AW.block (sr ?_))
   refine mn ?_
   refine qm ?_
   refine qm ?_
   refine mn ?_
   refine ba ?_
   refine qm ?_
   refine mn ?_
   refine AWL.rep base (tr (row4 (blks CPipe.f0 (q.bs + q.bs) l w.k) (sortK CPipe.f0 ((l.drop w.a).take q.bs)) (sortK CPipe.f0 (((l.drop w.a).drop q.bs).take q.bs)) (full CPipe.f0 q.bs ((l.drop w.a).drop (q.bs + q.bs))))) rfl (rowSim (by rw [full_two CPipe.f0 hq1]; rfl)) ?_
   refine nm ?_
   refine sp (Stp.callH rfl (by decide) Tryz.call175 rfl (symMZPipe_con (blks CPipe.f0 (q.bs + q.bs) l w.k) (sortK CPipe.f0 ((l.drop w.a).take q.bs)) (sortK CPipe.f0 (((l.drop w.a).drop q.bs).take q.bs)) (full CPipe.f0 q.bs ((l.drop w.a).drop (q.bs + q.bs))) _ _ _ (by omega) (by omega) (by omega) (by omega) (by omega) (sortK_asc _ _) (sortK_asc _ _) (by omega)) rfl rfl rfl (nodup_of rfl) rfl rfl) ?_
   refine ns ?_
   refine mn ?_
   refine qn ?_
   refine AW.region ?_
   refine qm ?_
   refine mn ?_
   refine qq (Qt.binOp rfl rfl (by first | exact pbMul (by omega) | rfl)) ?_
   refine ba ?_
   refine qn ?_
   refine ⟨⟨w.k + 1, w.a + (q.bs + q.bs), w.next, by omega⟩, Weak.sim ⟨rfl, rfl, xI7 (by show _ = ((w.a + (q.bs + q.bs) + (q.bs + q.bs) : Nat) : Int); omega), rfl, rfl, rfl, ⟨_, rfl, rowSim (by rw [merge_two, blks_nextI CPipe.f0 w, List.append_assoc, List.drop_drop])⟩, trivial⟩ rfl rfl, ?_⟩
   show l.length - (w.a + (q.bs + q.bs)) < l.length - w.a
   omega
  try simp only [cnd] at c3
  have hwn := w.next
  have hful : (full CPipe.f0 (q.bs + q.bs) l) = (blks CPipe.f0 (q.bs + q.bs) l w.k) ++ sortK CPipe.f0 (l.drop w.a) := by
   rw [← blks_full CPipe.f0 (k := w.k + 1) (by omega) (by omega), blks_nextI CPipe.f0 w, List.take_of_length_le (by omega)]
  refine AW.exit ?_
  dsimp only [thenQ, blockQ, reduceIte]
  refine sr2 ?_
  refine mn ?_
  refine qm ?_
  refine ba ?_
  refine qs' ?_
  refine mn ?_
  refine qm ?_
  refine qb ?_
  refine nc (fun c4 => ?_) fun c4 => ?_
  ·try simp only [cnd] at c4
   have n1 : (sortK CPipe.f0 ((l.drop w.a).take q.bs)).length = q.bs := (by simp only [sortK_len, List.length_take, List.length_drop] <;> omega)
   have n2 : (sortK CPipe.f0 ((l.drop w.a).drop q.bs)).length = l.length - w.a - q.bs := (by simp only [sortK_len, List.length_take, List.length_drop] <;> omega)
   refine AW.region ?_
   refine mn ?_
   refine qm ?_
   refine qm ?_
   refine mn ?_
   refine mn ?_
   refine AWL.rep base (tr (row4 (blks CPipe.f0 (q.bs + q.bs) l w.k) (sortK CPipe.f0 ((l.drop w.a).take q.bs)) (sortK CPipe.f0 ((l.drop w.a).drop q.bs)) [])) rfl (rowSim (by rw [full_cons CPipe.f0 hq1, full_small CPipe.f0 hq1 (by rw [List.length_drop]; omega)]; first | done | simp only [row4, List.append_nil])) ?_
   refine nm ?_
   refine sp (Stp.callH rfl (by decide) Tryz.call175 rfl (symMZPipe_con (blks CPipe.f0 (q.bs + q.bs) l w.k) (sortK CPipe.f0 ((l.drop w.a).take q.bs)) (sortK CPipe.f0 ((l.drop w.a).drop q.bs)) [] _ _ _ (by omega) (by omega) (by omega) (by omega) (by omega) (sortK_asc _ _) (sortK_asc _ _) (by simp only [List.length_nil]; omega)) rfl rfl rfl (nodup_of rfl) rfl rfl) ?_
   refine nl ?_
   refine AW.region ?_
   refine mn ?_
   refine qq (Qt.binOp rfl rfl (by first | exact pbMul (by omega) | rfl)) ?_
   refine qn ?_
   have hfin : (blks CPipe.f0 (q.bs + q.bs) l w.k) ++ sortK CPipe.f0 ((sortK CPipe.f0 ((l.drop w.a).take q.bs)) ++ (sortK CPipe.f0 ((l.drop w.a).drop q.bs))) = (full CPipe.f0 (q.bs + q.bs) l) := by rw [sort_sort, List.take_append_drop, hful]
   refine ⟨⟨q.bs + q.bs, by omega, by omega⟩, Weak.sim ⟨xI7 (by show _ = ((q.bs + q.bs : Nat) : Int); omega), rfl, rfl, rfl, ⟨_, rfl, rowSim hfin⟩, trivial⟩ rfl rfl, ?_⟩
   show l.length - (q.bs + q.bs) < l.length - q.bs
   omega
  try simp only [cnd] at c4
  refine jd (AW.region ?_)
  refine mn ?_
  refine qq (Qt.binOp rfl rfl (by first | exact pbMul (by omega) | rfl)) ?_
  refine qn ?_
  have hfin : (blks CPipe.f0 (q.bs + q.bs) l w.k) ++ (full CPipe.f0 q.bs (l.drop w.a)) = (full CPipe.f0 (q.bs + q.bs) l) := by rw [hful, full_small CPipe.f0 hq1 (by omega)]
  refine ⟨⟨q.bs + q.bs, by omega, by omega⟩, Weak.sim ⟨xI7 (by show _ = ((q.bs + q.bs : Nat) : Int); omega), rfl, rfl, rfl, ⟨_, rfl, rowSim hfin⟩, trivial⟩ rfl rfl, ?_⟩
  show l.length - (q.bs + q.bs) < l.length - q.bs
  omega
 try simp only [cnd] at c2
 refine AW.exit ?_
 dsimp only [thenQ, blockQ, reduceIte]
 have hf : (full CPipe.f0 q.bs l) = sortK CPipe.f0 l := full_small CPipe.f0 hq1 (by omega)
 rw [← hf]
 refine ⟨.inr rfl, [], .nil, ?_⟩
 refine ⟨fun n => n, rfl, fun _ _ => rfl, List.nodup_nil, (by simp), ?_⟩
 intro p hp
 cases List.mem_singleton.1 hp
 exact rootL_mem rfl
theorem sortPNPipe_con (l : List CPipe) (hl : l.length ≤ 100000000) : Con Tryz.prog 49 [.h base [], .f 50 []] [.rt base .row (tr l)] (RetW (.t []) [] [(base, tr (sortK CPipe.f0 l))]) := by
 refine ob Tryz.func49 Tryz.ntmps49 ?_
 refine AW.region ?_
 refine qm ?_
 refine qm ?_
 refine qh sl37 ?_
 refine nm ?_
 refine qm ?_
 refine sp (Stp.callH rfl (by decide) Tryz.call122 rfl (stableNPipe_con l hl) rfl rfl rfl (nodup_of rfl) rfl rfl) ?_
 refine nl ?_
 refine ⟨.inr rfl, [], .nil, ?_⟩
 refine ⟨fun n => n, rfl, fun _ _ => rfl, List.nodup_nil, (by simp), ?_⟩
 intro p hp
 cases List.mem_singleton.1 hp
 exact rootL_mem rfl
end Go.Proofs.YtekcnnngjoonbaaGreat.VM
