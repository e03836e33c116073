/- Contracts of functions of the program. No conditions beyond those that each states. -/
import Derived.Test.YtfbefcmeghpalaaGreatCW3
set_option linter.all false
set_option maxHeartbeats 8000000
set_option maxRecDepth 10000
namespace Go.Proofs.YtfbefcmeghpalaaGreat.VM
open Go Go.RowKit Go.Proofs
theorem tyN49 : TyI Tryz.prog 49 [.v (.int .i64 0), .v (.int .i64 0), .v (.int .i64 0), .v (.int .i64 0), .v (.slice none 0 0)] := TyI.mk' (i := Tryz.t49) (by kernel_rfl) (by decide) (by decide) rfl (by decide) ⟨⟨rfl, rfl⟩, ⟨rfl, rfl⟩, ⟨rfl, rfl⟩, ⟨rfl, rfl⟩, ⟨rfl, rfl⟩, trivial⟩
theorem row1_sim {α : Type} [En α] {a : α} {f : Nat → Nat → T} (h : ∀ c, c < En.n α → (f 0 c).sim ((En.cs a).getD c .j)) : (T.s (En.n α) 1 f).sim (tr [a]) := by
 refine ⟨_, rfl, fun k c hk hc => ?_⟩
 obtain rfl : k = 0 := by omega
 exact h c hc
theorem doT_con (u : DUnix) (l : List DEff) (ek ea eb ec : Int) (hS : Shp u) (hl : l.length ≤ 1000) (hk : ek = 3 ∨ ek = 21 ∨ ek = 22 ∨ ek = 24) : Con Tryz.prog 92 [.p base [] 10 0 0, .g [.v (iv ek), .v (iv ea), .v (iv eb), .v (iv ec), .v (.slice none 0 0)]] [.rt base .row (T.s 10 1 fun _ c => [T.v (iv u.Next), T.v (iv u.Tick), tr u.Progs, tr u.Procs, tr u.Opens, tr u.Pipes, tr u.Files, tr u.Ready, tr u.Out, tr l].getD c T.j)] (RetW (.t []) [] [(base, (T.s 10 1 fun _ c => [T.v (iv (applyT u (eK ek ea eb ec)).1.Next), T.v (iv (applyT u (eK ek ea eb ec)).1.Tick), tr (applyT u (eK ek ea eb ec)).1.Progs, tr (applyT u (eK ek ea eb ec)).1.Procs, tr (applyT u (eK ek ea eb ec)).1.Opens, tr (applyT u (eK ek ea eb ec)).1.Pipes, tr (applyT u (eK ek ea eb ec)).1.Files, tr (applyT u (eK ek ea eb ec)).1.Ready, tr (applyT u (eK ek ea eb ec)).1.Out, tr (l ++ [eK ek ea eb ec])].getD c T.j))]) := by
 refine ob Tryz.func92 Tryz.ntmps92 ?_
 refine sr ?_
 refine sp (Stp.boxB (hT := tyN49) rfl (by decide) (by decide) rfl rfl rfl rfl) ?_
 refine nl ?_
 refine AW.seq ?_
 refine AW.draw [0, 1, 2, 3, 4, 5, 8, 9] rfl (by decide +kernel) ?_
 refine tk 0 rfl Qt.move ?_
 refine na ?_
 refine tk 1 rfl Qt.move ?_
 refine tk 2 rfl (Qt.nilCheck rfl) ?_
 refine tk 3 rfl (fA fl116_1) ?_
 refine na ?_
 refine tk 4 rfl (Qt.load1 rfl rfl rfl ag59) ?_
 refine tk 5 rfl (Qt.loadG rfl rfl rfl ag49 sz49 (by decide)) ?_
 refine a1 6 [0, 1, 2, 3, 4] [5] rfl rfl sS ?_
 refine na ?_
 refine na ?_
 refine ae rfl Qt.move ?_
 refine na ?_
 refine ae rfl Qt.move ?_
 refine na ?_
 refine ae rfl (Qt.nilCheck rfl) ?_
 refine na ?_
 refine ae rfl (fA fl116_1) ?_
 refine na ?_
 refine ae rfl (Qt.load1 rfl rfl rfl ag59) ?_
 refine na ?_
 refine AWA.rep 10 (tr [eK ek ea eb ec]) rfl (row1_sim (fun c hc => match c, hc with | 0, _ => rfl | 1, _ => rfl | 2, _ => rfl | 3, _ => rfl | 4, _ => sim_nil | c + 5, hc => absurd hc (by simp only [En.n]; omega))) ?_
 refine na ?_
 refine a1 7 [0] [6, 4, 5, 3, 2, 1] rfl rfl (Stp.appendM rfl (by decide) (by decide) rfl rfl rfl (by simp only [List.length_cons, List.length_nil]; omega)) ?_
 refine na ?_
 refine na ?_
 refine ae rfl Qt.move ?_
 refine na ?_
 refine AWA.rep 11 (tr (l ++ [eK ek ea eb ec])) rfl (app_sim (l := l) (l' := [eK ek ea eb ec]) rfl (fun _ _ _ _ => rfl) (fun _ _ _ _ => rfl)) ?_
 refine na ?_
 refine tk 8 rfl (Qt.nilCheck rfl) ?_
 refine tk 9 rfl (fA fl116_1) ?_
 refine a1 10 [] [9, 7, 6, 5, 4, 3, 2, 1, 0, 8] rfl rfl (by first | exact Stp.storeA rfl rfl rfl rfl (by decide) rfl | exact Stp.store rfl rfl (by simp) rfl rfl rfl (by decide) rfl) ?_
 refine na ?_
 refine na ?_
 refine AWA.rep base (T.s 10 1 fun _ c => [T.v (iv u.Next), T.v (iv u.Tick), tr u.Progs, tr u.Procs, tr u.Opens, tr u.Pipes, tr u.Files, tr u.Ready, tr u.Out, tr (l ++ [eK ek ea eb ec])].getD c T.j) rfl (sc_sim (n := 10) (fun c hc => match c, hc with | 0, _ => T.sim_refl _ | 1, _ => T.sim_refl _ | 2, _ => T.sim_refl _ | 3, _ => T.sim_refl _ | 4, _ => T.sim_refl _ | 5, _ => T.sim_refl _ | 6, _ => T.sim_refl _ | 7, _ => T.sim_refl _ | 8, _ => T.sim_refl _ | 9, _ => T.sim_refl _ | c + 10, hc => absurd hc (by omega))) ?_
 refine na ?_
 refine nz ?_
 refine AW.draw [0, 1, 2, 3] rfl (by decide +kernel) ?_
 refine tk 0 rfl Qt.move ?_
 refine tk 1 rfl (Qt.nilCheck rfl) ?_
 refine tk 2 rfl (fA fl116_0) ?_
 refine na ?_
 refine tk 3 rfl (Qt.loadG rfl rfl rfl ag49 sz49 (by decide)) ?_
 refine AWA.weak (Weak.nilG 17 4 901 1 (by decide) rfl rfl rfl (by decide)) ?_
 refine AWA.rep 901 (tr (eK ek ea eb ec).L) rfl sim_nil ?_
 refine na ?_
 refine a1 4 [] [3, 2, 1, 0] rfl rfl (Stp.callH rfl (by decide) Tryz.call74 rfl (applyToT10_con u (l ++ [eK ek ea eb ec]) (eK ek ea eb ec) hS hk) rfl rfl rfl (nodup_of rfl) rfl rfl) ?_
 refine na ?_
 refine na ?_
 refine nz ?_
 refine ⟨.inr rfl, [], .nil, ?_⟩
 refine ⟨fun n => n, rfl, fun _ _ => rfl, List.nodup_nil, (by simp), ?_⟩
 intro p hp
 cases List.mem_singleton.1 hp
 exact rootL_mem rfl
end Go.Proofs.YtfbefcmeghpalaaGreat.VM
