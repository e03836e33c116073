/- Contracts of functions of the program. No conditions beyond those that each states. -/
import Derived.Test.YtfbefcmeghpalaaCMS
import Derived.Test.YtfbefcmeghpalaaCMF
set_option linter.all false
namespace Go.Proofs.Ytfbefcmeghpalaa.VM
open Go Go.RowKit Go.Proofs
theorem sim11 {f g : Nat → Nat → T} (h : (f 0 0).sim (g 0 0)) : (T.s 1 1 f).sim (T.s 1 1 g) := by
 refine ⟨g, rfl, fun k c hk hc => ?_⟩
 obtain rfl : k = 0 := by omega
 obtain rfl : c = 0 := by omega
 exact h
set_option maxHeartbeats 8000000 in
set_option maxRecDepth 10000 in
theorem free_con (S : List (List Int)) (k : Nat) (x : Int) (hk : k < S.length) (hs : (S.getD k En.dflt).Pairwise (· ≤ ·)) (hl : (S.getD k En.dflt).length ≤ 1000000) : Con Try.prog 31 [.p base [] 1 0 0, .v (iv k), .v (iv x)] [.rt base .row (T.s 1 1 fun _ _ => tr S)] (RetW (.t []) [] [(base, T.s 1 1 fun _ _ => tr (S.set k (insI (S.getD k En.dflt) ((S.getD k En.dflt).countP (· < x)) x)))]) := by
 refine Con.of_body Try.func31 rfl (by simp) ?_
 rw [Try.ntmps31]
 have hcp : (S.getD k En.dflt).countP (· < x) ≤ (S.getD k En.dflt).length := List.countP_le_length
 refine AW.seq (AW.region ?_)
 refine qq Qt.move ?_
 refine qq (Qt.nilCheck rfl) ?_
 refine qq (fA fl26_0) ?_
 refine nm ?_
 refine qq (Qt.load1 rfl rfl rfl ag24) ?_
 refine qq Qt.move ?_
 refine qq (Qt.indexAddr rfl rfl rfl rfl sl24 sz35 (by decide) (by first | omega | grind only)) ?_
 refine nm ?_
 refine qq (Qt.load1 rfl rfl rfl ag35) ?_
 refine qq Qt.move ?_
 refine sp (Stp.callR rfl (by decide) Try.call73 rfl rfl (search_con _ _ hs (by omega)) (nodup_of rfl) rfl rfl) ?_
 refine nm ?_
 refine qq Qt.move ?_
 refine qq (Qt.extract rfl (of_decide_eq_true rfl)) ?_
 refine qq (Qt.extract rfl (of_decide_eq_true rfl)) ?_
 refine nm ?_
 refine qq Qt.assign ?_
 refine qq Qt.assign ?_
 refine nl ?_
 refine AW.draw [0, 1, 2, 3, 4, 5, 6, 7, 8, 9, 10, 11, 12, 13, 16] rfl (by decide +kernel) ?_
 refine tk 0 rfl Qt.move ?_
 refine na ?_
 refine tk 1 rfl (Qt.nilCheck rfl) ?_
 refine tk 2 rfl (fA fl26_0) ?_
 refine tk 3 rfl (Qt.load1 rfl rfl rfl ag24) ?_
 refine na ?_
 refine tk 4 rfl Qt.move ?_
 refine tk 5 rfl Qt.move ?_
 refine tk 6 rfl (Qt.nilCheck rfl) ?_
 refine na ?_
 refine tk 7 rfl (fA fl26_0) ?_
 refine tk 8 rfl (Qt.load1 rfl rfl rfl ag24) ?_
 refine tk 9 rfl Qt.move ?_
 refine na ?_
 refine tk 10 rfl (Qt.indexAddr rfl rfl rfl rfl sl24 sz35 (by decide) (by first | omega | grind only)) ?_
 refine tk 11 rfl (Qt.load1 rfl rfl rfl ag35) ?_
 refine tk 12 rfl Qt.move ?_
 refine na ?_
 refine tk 13 rfl Qt.move ?_
 refine a1 14 [0, 1, 2, 3, 4, 5, 6, 7, 8, 9, 10, 11, 12] [13] rfl rfl (Stp.buildSlice rfl (by decide) (by decide) rfl (by decide) rfl rfl rfl (nodup_of rfl)) ?_
 refine na ?_
 refine na ?_
 refine AWA.againE rfl rfl (by decide +kernel) (.on rfl rfl Qt.move) rfl ?_
 refine na ?_
 refine AWA.againE rfl rfl (by decide +kernel) (.on rfl rfl (Qt.nilCheck rfl)) rfl ?_
 refine na ?_
 refine AWA.againE rfl rfl (by decide +kernel) (.on rfl rfl (fA fl26_0)) rfl ?_
 refine na ?_
 refine AWA.againE rfl rfl (by decide +kernel) (.on rfl rfl (Qt.load1 rfl rfl rfl ag24)) rfl ?_
 refine na ?_
 refine AWA.againE rfl rfl (by decide +kernel) (.on rfl rfl Qt.move) rfl ?_
 refine na ?_
 refine AWA.againE rfl rfl (by decide +kernel) (.on rfl rfl Qt.move) rfl ?_
 refine na ?_
 refine AWA.againE rfl rfl (by decide +kernel) (.on rfl rfl (Qt.nilCheck rfl)) rfl ?_
 refine na ?_
 refine AWA.againE rfl rfl (by decide +kernel) (.on rfl rfl (fA fl26_0)) rfl ?_
 refine na ?_
 refine AWA.againE rfl rfl (by decide +kernel) (.on rfl rfl (Qt.load1 rfl rfl rfl ag24)) rfl ?_
 refine na ?_
 refine AWA.againE rfl rfl (by decide +kernel) (.on rfl rfl Qt.move) rfl ?_
 refine na ?_
 refine AWA.againE rfl rfl (by decide +kernel) (.on rfl rfl (Qt.indexAddr rfl rfl rfl rfl sl24 sz35 (by decide) (by first | omega | grind only))) rfl ?_
 refine na ?_
 refine AWA.againE rfl rfl (by decide +kernel) (.on rfl rfl (Qt.load1 rfl rfl rfl ag35)) rfl ?_
 refine na ?_
 refine AWA.againE rfl rfl (by decide +kernel) (.on rfl rfl Qt.move) rfl ?_
 refine na ?_
 refine AWA.rep 34 (tr ([x] : List Int)) rfl (sim_row1 rfl rfl rfl (fun k hk => match k, hk with | 0, _ => rfl | k + 1, hk => absurd hk (by omega))) ?_
 refine na ?_
 refine a1 15 [0, 1, 2, 3, 4] [14, 12, 11, 13, 10, 9, 8, 7, 6, 5] rfl rfl (Stp.callH rfl (by decide) Try.call74 rfl (ins_con (S.getD k En.dflt) ((S.getD k En.dflt).countP (· < x)) x hcp hl) rfl rfl rfl (nodup_of rfl) rfl rfl) ?_
 refine na ?_ (by simp only [go_sem, keepN, T.isS, T.isJ, List.length_cons, List.length_nil, Bool.not_false, Bool.not_true, Int.reduceToNat, Nat.reduceLT, reduceIte, Nat.reduceEqDiff, Nat.reduceAdd, Nat.reduceMul, Nat.reduceBEq, reduceCtorEq]; rfl)
 refine AWA.rep base (T.s 1 1 fun _ _ => T.s 1 S.length (upd (fun i c => (En.cs (S.getD i En.dflt)).getD c .j) k 0 .j)) rfl (sim11 (T.sim_refl _)) ?_
 refine na ?_
 refine na ?_
 refine AWA.againE rfl rfl (by decide +kernel) (.on rfl rfl Qt.move) rfl ?_
 refine na ?_
 refine AWA.againE rfl rfl (by decide +kernel) (.on rfl rfl (Qt.nilCheck rfl)) rfl ?_
 refine na ?_
 refine AWA.againE rfl rfl (by decide +kernel) (.on rfl rfl (fA fl26_0)) rfl ?_
 refine na ?_
 refine AWA.againE rfl rfl (by decide +kernel) (.on rfl rfl (Qt.load1 rfl rfl rfl ag24)) rfl ?_
 refine na ?_
 refine AWA.againE rfl rfl (by decide +kernel) (.on rfl rfl Qt.move) rfl ?_
 refine na ?_
 refine tk 16 rfl (Qt.indexAddr rfl rfl rfl rfl sl24 sz35 (by decide) (by first | omega | grind only)) ?_
 refine a1 17 [] [16, 15, 14, 13, 12, 11, 10, 9, 8, 7, 6, 5, 4, 3, 2, 1, 0] rfl rfl (by first | exact Stp.storeA rfl rfl rfl rfl (by decide) rfl | exact Stp.store rfl rfl (by simp) rfl rfl rfl (by decide) rfl) ?_
 refine na ?_
 refine na ?_
 refine AWA.rep base (T.s 1 1 fun _ _ => tr (S.set k (insI (S.getD k En.dflt) ((S.getD k En.dflt).countP (· < x)) x))) rfl (sim11 (set_sim (fun i c hi => by simp only [upd_app, hi, false_and, if_false]; try rfl) (fun c hc => match c, hc with | 0, _ => (by simp only [upd_app, eq_self, and_self, if_true]; exact T.sim_refl _) | c + 1, hc => absurd hc (by simp only [En.n]; omega)))) ?_
 refine na ?_
 refine nz ?_
 refine ⟨.inr rfl, [], .nil, ?_⟩
 refine ⟨fun n => n, rfl, fun _ _ => rfl, List.nodup_nil, (by simp), ?_⟩
 intro p hp
 cases List.mem_singleton.1 hp
 exact rootL_mem rfl
end Go.Proofs.Ytfbefcmeghpalaa.VM
