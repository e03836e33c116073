/- Contracts of functions of the program. No conditions beyond those that each states. -/
import Derived.Test.YtfbefcmeghpalaaGreatCV1
set_option linter.all false
set_option maxHeartbeats 8000000
set_option maxRecDepth 10000
namespace Go.Proofs.YtfbefcmeghpalaaGreat.VM
open Go Go.RowKit Go.Proofs
theorem heldIntS_con (a : List Int) (k : Int) (hk : 0 ≤ k) (hk2 : k + (Mk.cnt a : Nat) ≤ 4611686018427387904) : Con Tryz.prog 88 [.h base [], .v (iv k)] [.rt base .ro (tr (mkL a (k)))] (fun y _ => y = .v (iv (k + (Mk.cnt a : Nat)))) := by
 refine ob Tryz.func88 Tryz.ntmps88 ?_
 refine AW.weak (L' := [.sl 0 (.h base []), .sl 1 (.v (iv k)), .rt base .ro (trG a.length (mkF a k))]) (Weak.sim ⟨rfl, rfl, ⟨_, rfl, mkL_trG a k⟩, trivial⟩ rfl rfl) ?_
 refine AW.len base [] rfl (by simp [Okp]) rfl (fun hl => ?_)
 refine sr ?_
 refine qn ?_
 refine sr2 ?_
 refine qn ?_
 refine AW.block ?_
 refine AW.weak (L' := [.sl 5 (.v (iv (0 : Nat))), .sl 1 (.v (iv (k + (cumN Mk.cnt En.dflt a 0 : Nat)))), .sl 0 (.h base []), .rt base .ro (trG a.length (mkF a k))]) (Weak.sim ⟨rfl, (by simp only [slotL, reduceIte, Nat.reduceEqDiff]; show X.v (iv k) = _; simp [cumN]), rfl, Rf rfl, trivial⟩ rfl rfl) ?_
 refine AW.loop (fun i : KInv a.length => [.sl 5 (.v (iv i.k)), .sl 1 (.v (iv (k + (cumN Mk.cnt En.dflt a i.k : Nat)))), .sl 0 (.h base []), .rt base .ro (trG a.length (mkF a k))]) (fun i => a.length - i.k) ⟨0, Nat.zero_le _⟩ ?_
 intro i
 have hle := i.le
 refine sr2 ?_
 refine mn ?_
 refine qm ?_
 refine qh sl29 ?_
 refine qb ?_
 refine nc (fun c1 => ?_) fun c1 => ?_
 ·try simp only [cnd] at c1
  have hc1 := cumN_mono (c := Mk.cnt) (d := En.dflt) (l := a) (show i.k + 1 ≤ a.length by omega)
  simp only [cumN, cnt_int] at hc1
  simp only [cnt_list] at hk2
  refine jd (AW.seq (AW.block (sr2 ?_)))
  refine mn ?_
  refine qm ?_
  refine qq (ix sl29 sz3) ?_
  refine ql ag3 ?_
  refine nm ?_
  refine qm ?_
  refine qb ?_
  refine nc (fun c2 => ?_) fun c2 => ?_
  ·try simp only [cnd] at c2
   refine sr ?_
   refine qr 4 ?_
   first | (simp only [retX, slotL, reduceIte, Nat.reduceEqDiff]; rw [cnt_list, show cumN Mk.cnt En.dflt a i.k = cumN Mk.cnt En.dflt a a.length by rw [show i.k = a.length by omega]]; done) | (exfalso; first | (exact absurd rfl c2; done) | (simp [mkF, Mk.mark] at *; done) | (simp_all [mkF, Mk.mark]; done) | omega)
  try simp only [cnd] at c2
  refine jd (AW.region ?_)
  refine mn ?_
  refine ba ?_
  refine qn ?_
  refine AW.region ?_
  refine mn ?_
  refine ba ?_
  refine qn ?_
  refine ⟨⟨i.k + 1, by omega⟩, Weak.sim ⟨st1, (by simp only [slotL, reduceIte, Nat.reduceEqDiff]; congr 2; simp only [cumN, cnt_int]; omega), rfl, Rf rfl, trivial⟩ rfl rfl, ?_⟩
  show a.length - (i.k + 1) < a.length - i.k
  omega
 try simp only [cnd] at c1
 refine AW.exit ?_
 dsimp only [thenQ, blockQ, reduceIte]
 refine sr ?_
 refine mn ?_
 refine qr 4 ?_
 first | (simp only [retX, slotL, reduceIte, Nat.reduceEqDiff]; rw [cnt_list, show cumN Mk.cnt En.dflt a i.k = cumN Mk.cnt En.dflt a a.length by rw [show i.k = a.length by omega]]; done) | (exfalso; first | (exact absurd rfl c1; done) | (simp [mkF, Mk.mark] at *; done) | (simp_all [mkF, Mk.mark]; done) | omega)
theorem heldEffS_con (a : List DEff) (k : Int) (hk : 0 ≤ k) (hk2 : k + (Mk.cnt a : Nat) ≤ 4611686018427387904) : Con Tryz.prog 41 [.h base [], .v (iv k)] [.rt base .ro (tr (mkL a (k)))] (fun y _ => y = .v (iv (k + (Mk.cnt a : Nat)))) := by
 refine ob Tryz.func41 Tryz.ntmps41 ?_
 refine AW.weak (L' := [.sl 0 (.h base []), .sl 1 (.v (iv k)), .rt base .ro (trG a.length (mkF a k))]) (Weak.sim ⟨rfl, rfl, ⟨_, rfl, mkL_trG a k⟩, trivial⟩ rfl rfl) ?_
 refine AW.len base [] rfl (by simp [Okp]) rfl (fun hl => ?_)
 refine sr ?_
 refine qn ?_
 refine sr2 ?_
 refine qn ?_
 refine AW.block ?_
 refine AW.weak (L' := [.sl 5 (.v (iv (0 : Nat))), .sl 1 (.v (iv (k + (cumN Mk.cnt En.dflt a 0 : Nat)))), .sl 0 (.h base []), .rt base .ro (trG a.length (mkF a k))]) (Weak.sim ⟨rfl, (by simp only [slotL, reduceIte, Nat.reduceEqDiff]; show X.v (iv k) = _; simp [cumN]), rfl, Rf rfl, trivial⟩ rfl rfl) ?_
 refine AW.loop (fun i : KInv a.length => [.sl 5 (.v (iv i.k)), .sl 1 (.v (iv (k + (cumN Mk.cnt En.dflt a i.k : Nat)))), .sl 0 (.h base []), .rt base .ro (trG a.length (mkF a k))]) (fun i => a.length - i.k) ⟨0, Nat.zero_le _⟩ ?_
 intro i
 have hle := i.le
 refine sr2 ?_
 refine mn ?_
 refine qm ?_
 refine qh sl59 ?_
 refine qb ?_
 refine nc (fun c1 => ?_) fun c1 => ?_
 ·try simp only [cnd] at c1
  have hc1 := cumN_mono (c := Mk.cnt) (d := En.dflt) (l := a) (show i.k + 1 ≤ a.length by omega)
  simp only [cumN, cnt_Eff] at hc1
  simp only [cnt_list] at hk2
  refine jd (AW.seq (AW.block (sr2 ?_)))
  refine mn ?_
  refine qm ?_
  refine qq (ix sl59 sz49) ?_
  refine qq (fA fl49_0) ?_
  refine nm ?_
  refine ql ag3 ?_
  refine qm ?_
  refine qb ?_
  refine nc (fun c2 => ?_) fun c2 => ?_
  ·try simp only [cnd] at c2
   refine sr ?_
   refine qr 4 ?_
   first | (simp only [retX, slotL, reduceIte, Nat.reduceEqDiff]; rw [cnt_list, show cumN Mk.cnt En.dflt a i.k = cumN Mk.cnt En.dflt a a.length by rw [show i.k = a.length by omega]]; done) | (exfalso; first | (exact absurd rfl c2; done) | (simp [mkF, Mk.mark] at *; done) | (simp_all [mkF, Mk.mark]; done) | omega)
  try simp only [cnd] at c2
  refine jd (sr ?_)
  refine mn ?_
  refine ba ?_
  refine qn ?_
  refine sr2 ?_
  refine mn ?_
  refine qm ?_
  refine qq (ix sl59 sz49) ?_
  refine qq (fA fl49_1) ?_
  refine nm ?_
  refine ql ag3 ?_
  refine qm ?_
  refine qb ?_
  refine nc (fun c3 => ?_) fun c3 => ?_
  ·try simp only [cnd] at c3
   refine sr ?_
   refine qr 4 ?_
   first | (simp only [retX, slotL, reduceIte, Nat.reduceEqDiff]; rw [cnt_list, show cumN Mk.cnt En.dflt a i.k = cumN Mk.cnt En.dflt a a.length by rw [show i.k = a.length by omega]]; done) | (exfalso; first | (exact absurd rfl c3; done) | (simp [mkF, Mk.mark] at *; done) | (simp_all [mkF, Mk.mark]; done) | omega)
  try simp only [cnd] at c3
  refine jd (sr ?_)
  refine mn ?_
  refine ba ?_
  refine qn ?_
  refine sr2 ?_
  refine mn ?_
  refine qm ?_
  refine qq (ix sl59 sz49) ?_
  refine qq (fA fl49_2) ?_
  refine nm ?_
  refine ql ag3 ?_
  refine qm ?_
  refine qb ?_
  refine nc (fun c4 => ?_) fun c4 => ?_
  ·try simp only [cnd] at c4
   refine sr ?_
   refine qr 4 ?_
   first | (simp only [retX, slotL, reduceIte, Nat.reduceEqDiff]; rw [cnt_list, show cumN Mk.cnt En.dflt a i.k = cumN Mk.cnt En.dflt a a.length by rw [show i.k = a.length by omega]]; done) | (exfalso; first | (exact absurd rfl c4; done) | (simp [mkF, Mk.mark] at *; done) | (simp_all [mkF, Mk.mark]; done) | omega)
  try simp only [cnd] at c4
  refine jd (sr ?_)
  refine mn ?_
  refine ba ?_
  refine qn ?_
  refine sr2 ?_
  refine mn ?_
  refine qm ?_
  refine qq (ix sl59 sz49) ?_
  refine qq (fA fl49_3) ?_
  refine nm ?_
  refine ql ag3 ?_
  refine qm ?_
  refine qb ?_
  refine nc (fun c5 => ?_) fun c5 => ?_
  ·try simp only [cnd] at c5
   refine sr ?_
   refine qr 4 ?_
   first | (simp only [retX, slotL, reduceIte, Nat.reduceEqDiff]; rw [cnt_list, show cumN Mk.cnt En.dflt a i.k = cumN Mk.cnt En.dflt a a.length by rw [show i.k = a.length by omega]]; done) | (exfalso; first | (exact absurd rfl c5; done) | (simp [mkF, Mk.mark] at *; done) | (simp_all [mkF, Mk.mark]; done) | omega)
  try simp only [cnd] at c5
  refine jd (sr ?_)
  refine mn ?_
  refine ba ?_
  refine qs' ?_
  refine mn ?_
  refine qm ?_
  refine qq (ix sl59 sz49) ?_
  refine qq (fA fl49_4) ?_
  refine nm ?_
  refine ql ag29 ?_
  refine qm ?_
  refine cv Tryz.call88 rfl rfl (heldIntS_con _ _ (by omega) (by omega)) ?_
  refine nm ?_
  refine qs' ?_
  refine qm ?_
  refine qb ?_
  refine nc (fun c6 => ?_) fun c6 => ?_
  ·try simp only [cnd] at c6
   refine sr ?_
   refine qr 4 ?_
   first | (simp only [retX, slotL, reduceIte, Nat.reduceEqDiff]; rw [cnt_list, show cumN Mk.cnt En.dflt a i.k = cumN Mk.cnt En.dflt a a.length by rw [show i.k = a.length by omega]]; done) | (exfalso; first | (exact absurd rfl c6; done) | (simp [mkF, Mk.mark] at *; done) | (simp_all [mkF, Mk.mark]; done) | omega)
  try simp only [cnd] at c6
  refine jd (AW.region ?_)
  refine mn ?_
  refine ba ?_
  refine qn ?_
  refine ⟨⟨i.k + 1, by omega⟩, Weak.sim ⟨st1, (by simp only [slotL, reduceIte, Nat.reduceEqDiff]; congr 2; simp only [cumN, cnt_Eff]; omega), rfl, Rf rfl, trivial⟩ rfl rfl, ?_⟩
  show a.length - (i.k + 1) < a.length - i.k
  omega
 try simp only [cnd] at c1
 refine AW.exit ?_
 dsimp only [thenQ, blockQ, reduceIte]
 refine sr ?_
 refine mn ?_
 refine qr 4 ?_
 first | (simp only [retX, slotL, reduceIte, Nat.reduceEqDiff]; rw [cnt_list, show cumN Mk.cnt En.dflt a i.k = cumN Mk.cnt En.dflt a a.length by rw [show i.k = a.length by omega]]; done) | (exfalso; first | (exact absurd rfl c1; done) | (simp [mkF, Mk.mark] at *; done) | (simp_all [mkF, Mk.mark]; done) | omega)
end Go.Proofs.YtfbefcmeghpalaaGreat.VM
