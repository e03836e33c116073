/- Contracts. No conditions. -/
import Derived.Test.YtekcnnngjoonbaaGreatCN5
import Derived.Test.YtekcnnngjoonbaaGreatCNG
import Derived.Test.YtekcnnngjoonbaaGreatCNR
set_option linter.all false
set_option maxHeartbeats 8000000
set_option maxRecDepth 10000
namespace Go.Proofs.YtekcnnngjoonbaaGreat.VM
open Go Go.RowKit Go.Proofs
theorem flat_len : ∀ l : List (List Int), l.flatten.length ≤ Mk.wt l
 | [] => Nat.zero_le _
 | x :: l => by
  have h := flat_len l
  have h2 := wt_ints x
  rw [wt_list] at h ⊢
  simp only [List.flatten_cons, List.length_append, List.length_cons, wtL, List.map_cons, List.foldr_cons] at h ⊢
  omega
theorem flat_next {l : List (List Int)} {k : Nat} (h : k < l.length) : (l.take (k + 1)).flatten = (l.take k).flatten ++ l.getD k En.dflt := by
 rw [take_snocG En.dflt h]
 simp
theorem flat_le (l : List (List Int)) (k : Nat) : (l.take k).flatten.length ≤ l.flatten.length := by
 conv => rhs; rw [← List.take_append_drop k l]
 rw [List.flatten_append, List.length_append]
 omega
theorem concat_con (l : List (List Int)) (hw : Mk.wt l ≤ 1048576) : Con Tryz.prog 43 [.h base []] [.rt base .ro (tr l)] (Ret (.h 0 []) [(0, .row, tr l.flatten)]) := by
 refine ob Tryz.func43 Tryz.ntmps43 ?_
 refine AW.len (base) [] rfl (by simp [Okp]) rfl (fun hl => ?_)
 have hfl := flat_len l
 refine sr ?_
 refine qs' ?_
 refine qn ?_
 refine sr2 ?_
 refine mn ?_
 refine qh sl25 ?_
 refine qm ?_
 refine nl ?_
 refine AW.block ?_
 refine AW.loopW (fun i : KInv l.length => [.sl 11 (.v (iv i.k)), .sl 10 (.v (iv l.length)), .sl 9 (.h base []), .sl 3 (.v (iv ((l.take i.k).flatten.length : Nat))), .sl 0 (.h base []), .rt base .ro (tr l)]) (fun i => l.length - i.k) ⟨0, Nat.zero_le _⟩ (Weak.sim ⟨rfl, rfl, rfl, rfl, rfl, Rf rfl, trivial⟩ rfl rfl) ?_
 intro i
 have hle := i.le
 refine sr ?_
 refine qb ?_
 refine nl ?_
 refine AW.seq ?_
 refine cd (fun c1 => ?_) fun c1 => ?_
 ·try simp only [cnd] at c1
  have hf1 := flat_le l (i.k + 1)
  rw [flat_next (show i.k < l.length by omega), List.length_append] at hf1
  refine jd (AW.seq (AW.block (sr ?_)))
  refine qq (ix sl25 sz24) ?_
  refine nm ?_
  refine ql ag24 ?_
  refine qs' ?_
  refine mn ?_
  refine qm ?_
  refine qh sl24 ?_
  refine ba ?_
  refine nm ?_
  refine qs' ?_
  refine qm ?_
  refine qb ?_
  refine nl ?_
  refine AW.cond rfl (fun c2 => (by exfalso; first | (cases c2; done) | (simp at c2; done) | (simp only [cnd] at c2; omega))) (fun c2 => ?_)
  try simp only [cnd] at c2
  refine jd (AW.region ?_)
  refine ba ?_
  refine nm ?_
  refine qm ?_
  refine nl ?_
  refine ⟨⟨i.k + 1, by omega⟩, Weak.sim ⟨st1, rfl, rfl, (by simp only [slotL, reduceIte, Nat.reduceEqDiff]; congr 2; rw [flat_next (by omega), List.length_append]; omega), rfl, Rf rfl, trivial⟩ rfl rfl, ?_⟩
  show l.length - (i.k + 1) < l.length - i.k
  omega
 try simp only [cnd] at c1
 refine AW.exit ?_
 dsimp only [thenQ, blockQ, reduceIte]
 refine sr ?_
 refine qm ?_
 refine sp (Stp.callH rfl (by decide) Tryz.call119 rfl (grow_con _ (by have := flat_le l i.k; omega)) rfl rfl rfl (nodup_of rfl) rfl rfl) ?_
 refine nm ?_
 refine qn ?_
 refine sr2 ?_
 refine qm ?_
 refine qh sl25 ?_
 refine nm ?_
 refine qm ?_
 refine nl ?_
 refine AW.block ?_
 refine AW.renR 24 33 rfl (by decide) (by decide) ?_
 refine AW.loopW (fun j : KInv l.length => [.sl 27 (.v (iv j.k)), .sl 26 (.v (iv l.length)), .sl 25 (.h base []), .sl 6 (.h 33 []), .rt base .ro (tr l), .rt 33 .row (tr (l.take j.k).flatten)]) (fun j => l.length - j.k) ⟨0, Nat.zero_le _⟩ (Weak.sim ⟨rfl, rfl, rfl, rfl, Rf rfl, ⟨_, rfl, sim_nil⟩, trivial⟩ rfl rfl) ?_
 intro j
 have hlej := j.le
 refine sr ?_
 refine qb ?_
 refine nl ?_
 refine AW.seq ?_
 refine cd (fun c3 => ?_) fun c3 => ?_
 ·try simp only [cnd] at c3
  have hf1 := flat_le l (j.k + 1)
  rw [flat_next (show j.k < l.length by omega), List.length_append] at hf1
  refine jd (AW.seq (AW.block (sr ?_)))
  refine qq (ix sl25 sz24) ?_
  refine nm ?_
  refine ql ag24 ?_
  refine qn ?_
  refine AW.region ?_
  refine mn ?_
  refine qm ?_
  refine sp (by first | exact Stp.appendC rfl (by decide) (by decide) rfl rfl (by omega) | exact Stp.appendM rfl (by decide) (by decide) rfl rfl rfl (by omega)) ?_
  refine nm ?_
  refine qn ?_
  refine AW.region ?_
  refine ba ?_
  refine qm ?_
  refine nl ?_
  refine ⟨⟨j.k + 1, by omega⟩, Weak.sim ⟨st1, rfl, rfl, rfl, Rf rfl, ⟨_, rfl, (by rw [flat_next (by omega)]; exact app_ints rfl (fun _ _ => rfl))⟩, trivial⟩ rfl rfl, ?_⟩
  show l.length - (j.k + 1) < l.length - j.k
  omega
 try simp only [cnd] at c3
 refine AW.exit ?_
 dsimp only [thenQ, blockQ, reduceIte]
 refine sr ?_
 refine mn ?_
 refine qr 2 ?_
 rw [show l.flatten = (l.take j.k).flatten from by rw [List.take_of_length_le (by omega)]]
 refine ⟨fun _ => 33, rfl, nodup_of rfl, ?_⟩
 intro r hr
 cases List.mem_singleton.1 hr
 exact ⟨by simp, rootL_mem rfl⟩
theorem reversed_con (l : List Int) (hs : l.length ≤ 4194304) : Con Tryz.prog 42 [.h base []] [.rt base .ro (tr l)] (Ret (.h 0 []) [(0, .row, tr l.reverse)]) := by
 refine ob Tryz.func42 Tryz.ntmps42 ?_
 refine sr ?_
 refine qs' ?_
 refine qm ?_
 refine sp (Stp.callR rfl (by decide) Tryz.call39 rfl rfl (cloneI_con _ (by omega)) (nodup_of rfl) rfl rfl) ?_
 refine nm ?_
 refine qs' ?_
 refine qm ?_
 refine sp (Stp.callH rfl (by decide) Tryz.call118 rfl (rev_con _ (by omega)) rfl rfl rfl (nodup_of rfl) rfl rfl) ?_
 refine ns ?_
 refine mn ?_
 refine qr 2 ?_
 refine ⟨fun _ => 5, rfl, nodup_of rfl, ?_⟩
 intro r hr
 cases List.mem_singleton.1 hr
 exact ⟨by simp, rootL_mem rfl⟩
theorem cloneO_con (l : List DOpen) (hs : l.length ≤ 4194304) : Con Tryz.prog 37 [.h base []] [.rt base .ro (tr l)] (Ret (.h 0 []) [(0, .row, tr l)]) := by
 refine ob Tryz.func37 Tryz.ntmps37 ?_
 refine sr ?_
 refine qn ?_
 refine sr2 ?_
 refine qm ?_
 refine AWL.nilTest rfl rfl rfl (by decide) rfl rfl rfl sl36 ?_
 intro b1 hb1
 refine nc (fun c2 => ?_) fun c2 => ?_
 ·try simp only [cnd] at c2
  refine sr ?_
  refine qn ?_
  have hl0 : l = [] := List.eq_nil_of_length_eq_zero (hb1 c2)
  subst hl0
  refine AW.nilRow 2 900 5 (by omega) rfl rfl (by decide) ?_
  refine AW.rep 900 (tr ([] : List DOpen)) rfl sim_nil ?_
  refine rt1 2 ?_
  refine ⟨fun _ => 900, rfl, nodup_of rfl, ?_⟩
  intro r hr
  cases List.mem_singleton.1 hr
  exact ⟨by simp, rootL_mem rfl⟩
 try simp only [cnd] at c2
 refine jd (sr ?_)
 refine sp sS ?_
 refine nm ?_
 refine qm ?_
 refine sp (by first | exact Stp.appendC rfl (by decide) (by decide) rfl rfl (by omega) | exact Stp.appendM rfl (by decide) (by decide) rfl rfl rfl (by omega)) ?_
 refine nm ?_
 refine qn ?_
 refine AW.rep 7 (tr l) rfl (app_nil (α := DOpen)) ?_
 refine rt1 2 ?_
 refine ⟨fun _ => 7, rfl, nodup_of rfl, ?_⟩
 intro r hr
 cases List.mem_singleton.1 hr
 exact ⟨by simp, rootL_mem rfl⟩
theorem cloneFiles_con (l : List DFile) (hw : Mk.wt l ≤ 1048576) : Con Tryz.prog 38 [.h base []] [.rt base .ro (tr l)] (Ret (.h 0 []) [(0, .row, tr l)]) := by
 refine ob Tryz.func38 Tryz.ntmps38 ?_
 refine AW.len (base) [] rfl (by simp [Okp]) rfl (fun hl => ?_)
 have hbd := wt_len l
 refine sr ?_
 refine qs' ?_
 refine qn ?_
 refine sr2 ?_
 refine mn ?_
 refine qh sl38 ?_
 refine qm ?_
 refine nl ?_
 refine AW.block ?_
 refine AW.nilRow 3 20 2 (by omega) rfl rfl (by decide) ?_
 refine AW.loopW (fun i : KInv l.length => [.sl 8 (.v (iv i.k)), .sl 7 (.v (iv l.length)), .sl 6 (.h base []), .sl 3 (.h 20 []), .rt base .ro (tr l), .rt 20 .row (tr (l.take i.k))]) (fun i => l.length - i.k) ⟨0, Nat.zero_le _⟩ (Weak.sim ⟨rfl, rfl, rfl, rfl, Rf rfl, ⟨_, rfl, sim_nil⟩, trivial⟩ rfl rfl) ?_
 intro i
 have hle := i.le
 refine sr ?_
 refine qb ?_
 refine nl ?_
 refine AW.seq ?_
 refine cd (fun c1 => ?_) fun c1 => ?_
 ·try simp only [cnd] at c1
  have hik := wt_ge (show i.k < l.length by omega)
  have hik2 : Mk.wt (l.getD i.k En.dflt) = (l.getD i.k En.dflt).Data.length := wt_ints _
  have htl : (l.take i.k).length ≤ 1048576 := by rw [List.length_take]; omega
  refine jd (AW.seq (AW.block (sr ?_)))
  refine qq (ix sl38 sz96) ?_
  refine nm ?_
  refine qG ag96 sz96 ?_
  refine sp sA ?_
  refine nm ?_
  refine ss ?_
  refine nl ?_
  refine AW.draw [0, 1, 2, 3, 4, 6] rfl (by decide +kernel) ?_
  refine tk 0 rfl Qt.move ?_
  refine na ?_
  refine tk 1 rfl (fA fl96_0) ?_
  refine tk 2 rfl (Qt.load1 rfl rfl rfl ag3) ?_
  refine tk 3 rfl (fA fl96_1) ?_
  refine na ?_
  refine tk 4 rfl (Qt.load1 rfl rfl rfl ag24) ?_
  refine a1 5 [0, 1, 2] [4, 3] rfl rfl (Stp.callR rfl (by decide) Tryz.call39 rfl rfl (cloneI_con _ (by omega)) (nodup_of rfl) rfl rfl) ?_
  refine na ?_
  refine na ?_
  refine ae rfl Qt.move ?_
  refine na ?_
  refine ae rfl (fA fl96_0) ?_
  refine na ?_
  refine ae rfl (Qt.load1 rfl rfl rfl ag3) ?_
  refine na ?_
  refine tk 6 rfl (Qt.build rfl) ?_
  refine a1 7 [0] [6, 5, 2, 4, 1, 3] rfl rfl sS ?_
  refine na ?_
  refine na ?_
  refine ae rfl Qt.move ?_
  refine na ?_
  refine AWA.rep 19 (tr [(l.getD i.k En.dflt)]) rfl (row1_sim (α := DFile) (fun c hc => match c, hc with | 0, _ => tsr | 1, _ => tsr | c + 2, hc => absurd hc (by simp only [En.n]; omega))) ?_
  refine na ?_
  refine a1 8 [] [7, 5, 0, 6, 4, 2, 3, 1] rfl rfl (Stp.appendM rfl (by decide) (by decide) rfl rfl rfl (by simp only [List.length_cons, List.length_nil]; omega)) ?_
  refine na ?_
  refine na ?_
  refine AWA.rep 20 (tr (l.take (i.k + 1))) rfl (by rw [take_snocG En.dflt (show i.k < l.length by omega)]; exact app_sim (l := l.take i.k) (l' := [l.getD i.k En.dflt]) rfl (fun _ _ _ _ => rfl) (fun _ _ _ _ => rfl)) ?_
  refine na ?_
  refine a1 9 [] [8, 7, 6, 5, 4, 3, 2, 1, 0] rfl rfl (Stp.q rfl (by decide) Qt.assign) ?_
  refine na ?_
  refine na ?_
  refine nz ?_
  refine AW.region ?_
  refine ba ?_
  refine qm ?_
  refine nl ?_
  refine ⟨⟨i.k + 1, by omega⟩, Weak.sim ⟨st1, rfl, rfl, rfl, Rf rfl, Rf rfl, trivial⟩ rfl rfl, ?_⟩
  show l.length - (i.k + 1) < l.length - i.k
  omega
 try simp only [cnd] at c1
 refine AW.exit ?_
 dsimp only [thenQ, blockQ, reduceIte]
 refine sr ?_
 refine mn ?_
 refine qn ?_
 refine AW.rep 20 (tr l) rfl (by rw [List.take_of_length_le (by omega)]; exact tsr) ?_
 refine rt1 2 ?_
 refine ⟨fun _ => 20, rfl, nodup_of rfl, ?_⟩
 intro r hr
 cases List.mem_singleton.1 hr
 exact ⟨by simp, rootL_mem rfl⟩
theorem cloneCpu_con (c : DCpu) (hs : c.Regs.length ≤ 4194304) : Con Tryz.prog 40 [.g [.v (iv c.Pc), .h base []]] [.rt base .ro (tr c.Regs)] (Ret (.g [.v (iv c.Pc), .h 0 []]) [(0, .row, tr c.Regs)]) := by
 refine ob Tryz.func40 Tryz.ntmps40 ?_
 refine sr ?_
 refine bx ?_
 refine nm ?_
 refine sp sA ?_
 refine nl ?_
 refine AW.seq ?_
 refine AW.draw [0, 1, 2, 3, 5] rfl (by decide +kernel) ?_
 refine tk 0 rfl (fA fl75_0) ?_
 refine na ?_
 refine tk 1 rfl (Qt.load1 rfl rfl rfl ag3) ?_
 refine tk 2 rfl (fA fl75_1) ?_
 refine tk 3 rfl (Qt.load1 rfl rfl rfl ag24) ?_
 refine na ?_
 refine a1 4 [0, 1] [3, 2] rfl rfl (Stp.callR rfl (by decide) Tryz.call39 rfl rfl (cloneI_con _ (by omega)) (nodup_of rfl) rfl rfl) ?_
 refine na ?_
 refine ae rfl (fA fl75_0) ?_
 refine ae rfl (Qt.load1 rfl rfl rfl ag3) ?_
 refine na ?_
 refine tk 5 rfl (Qt.build rfl) ?_
 refine a1 6 [] [5, 4, 3, 2, 1, 0] rfl rfl (by first | exact Stp.storeA rfl rfl rfl rfl (by decide) rfl | exact Stp.store rfl rfl (by simp) rfl rfl rfl (by decide) rfl) ?_
 refine na ?_
 refine na ?_
 refine nz ?_
 refine AW.ret (endQ_ret (.cons (.cellG 2 75 rfl rfl rfl ag75 sz75 (by decide)) .nil) ?_)
 refine ⟨fun _ => 7, rfl, nodup_of rfl, ?_⟩
 intro r hr
 cases List.mem_singleton.1 hr
 exact ⟨by simp, rootL_mem rfl⟩
end Go.Proofs.YtekcnnngjoonbaaGreat.VM
