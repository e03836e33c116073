/- Contracts of functions of the program. No conditions beyond those that each states. -/
import Derived.Test.YtfbefcmeghpalaaGreatCV1
set_option linter.all false
set_option maxHeartbeats 8000000
set_option maxRecDepth 10000
namespace Go.Proofs.YtfbefcmeghpalaaGreat.VM
open Go Go.RowKit Go.Proofs
theorem heldIntS_con (a : List Int) (k : Int) (hk : 0 ≤ k) (hk2 : k + (Mk.cnt a : Nat) ≤ 4611686018427387904) : Con Tryz.prog 88 [.h base [], .v (iv k)] [.rt base .ro (tr (mkL a (k)))] (fun y _ => y = .v (iv (k + (Mk.cnt a : Nat)))) := by
 refine ob Tryz.func88 Tryz.ntmps88 ?_
 refine AW.weak (L' := [.sl 0 (.h base []), .sl 1 (.v (iv k)), .rt base .ro (trG a.length (mkF a k))]) (Weak.sim ⟨rfl, rfl, ⟨_, rfl, mkL_trG a k⟩, trivial⟩ rfl rfl) ?_
 refine AW.len base [] rfl (by simp [Okp]) rfl (fun hl => ?_)
 refine sr ?_
 refine qn ?_
 refine sr2 ?_
 refine qn ?_
 refine AW.block ?_
 refine AW.weak (L' := [.sl 5 (.v (iv (0 : Nat))), .sl 1 (.v (iv (k + (cumN Mk.cnt En.dflt a 0 : Nat)))), .sl 0 (.h base []), .rt base .ro (trG a.length (mkF a k))]) (Weak.sim ⟨rfl, (by simp only [slotL, reduceIte, Nat.reduceEqDiff]; show X.v (iv k) = _; simp [cumN]), rfl, Rf rfl, trivial⟩ rfl rfl) ?_
 refine AW.loop (fun i : KInv a.length => [.sl 5 (.v (iv i.k)), .sl 1 (.v (iv (k + (cumN Mk.cnt En.dflt a i.k : Nat)))), .sl 0 (.h base []), .rt base .ro (trG a.length (mkF a k))]) (fun i => a.length - i.k) ⟨0, Nat.zero_le _⟩ ?_
 intro i
 have hle := i.le
 refine sr2 ?_
 refine mn ?_
 refine qm ?_
 refine qh sl29 ?_
 refine qb ?_
 refine nc (fun c1 => ?_) fun c1 => ?_
 ·try simp only [cnd] at c1
  have hc1 := cumN_mono (c := Mk.cnt) (d := En.dflt) (l := a) (show i.k + 1 ≤ a.length by omega)
  simp only [cumN, cnt_int] at hc1
  simp only [cnt_list] at hk2
  refine jd (AW.seq (AW.block (sr2 ?_)))
  refine mn ?_
  refine qm ?_
  refine qq (ix sl29 sz3) ?_
  refine ql ag3 ?_
  refine nm ?_
  refine qm ?_
  refine qb ?_
  refine nc (fun c2 => ?_) fun c2 => ?_
  ·try simp only [cnd] at c2
   refine sr ?_
   refine qr 4 ?_
   first | (simp only [retX, slotL, reduceIte, Nat.reduceEqDiff]; rw [cnt_list, show cumN Mk.cnt En.dflt a i.k = cumN Mk.cnt En.dflt a a.length by rw [show i.k = a.length by omega]]; done) | (exfalso; first | (exact absurd rfl c2; done) | (simp [mkF, Mk.mark] at *; done) | (simp_all [mkF, Mk.mark]; done) | omega)
  try simp only [cnd] at c2
  refine jd (AW.region ?_)
  refine mn ?_
  refine ba ?_
  refine qn ?_
  refine AW.region ?_
  refine mn ?_
  refine ba ?_
  refine qn ?_
  refine ⟨⟨i.k + 1, by omega⟩, Weak.sim ⟨st1, (by simp only [slotL, reduceIte, Nat.reduceEqDiff]; congr 2; simp only [cumN, cnt_int]; omega), rfl, Rf rfl, trivial⟩ rfl rfl, ?_⟩
  show a.length - (i.k + 1) < a.length - i.k
  omega
 try simp only [cnd] at c1
 refine AW.exit ?_
 dsimp only [thenQ, blockQ, reduceIte]
 refine sr ?_
 refine mn ?_
 refine qr 4 ?_
 first | (simp only [retX, slotL, reduceIte, Nat.reduceEqDiff]; rw [cnt_list, show cumN Mk.cnt En.dflt a i.k = cumN Mk.cnt En.dflt a a.length by rw [show i.k = a.length by omega]]; done) | (exfalso; first | (exact absurd rfl c1; done) | (simp [mkF, Mk.mark] at *; done) | (simp_all [mkF, Mk.mark]; done) | omega)
theorem heldInsS_con (a : List DIns) (k : Int) (hk : 0 ≤ k) (hk2 : k + (Mk.cnt a : Nat) ≤ 4611686018427387904) : Con Tryz.prog 173 [.h base [], .v (iv k)] [.rt base .ro (tr (mkL a (k)))] (fun y _ => y = .v (iv (k + (Mk.cnt a : Nat)))) := by
 refine ob Tryz.func173 Tryz.ntmps173 ?_
 refine AW.weak (L' := [.sl 0 (.h base []), .sl 1 (.v (iv k)), .rt base .ro (trG a.length (mkF a k))]) (Weak.sim ⟨rfl, rfl, ⟨_, rfl, mkL_trG a k⟩, trivial⟩ rfl rfl) ?_
 refine AW.len base [] rfl (by simp [Okp]) rfl (fun hl => ?_)
 refine sr ?_
 refine qn ?_
 refine sr2 ?_
 refine qn ?_
 refine AW.block ?_
 refine AW.weak (L' := [.sl 5 (.v (iv (0 : Nat))), .sl 1 (.v (iv (k + (cumN Mk.cnt En.dflt a 0 : Nat)))), .sl 0 (.h base []), .rt base .ro (trG a.length (mkF a k))]) (Weak.sim ⟨rfl, (by simp only [slotL, reduceIte, Nat.reduceEqDiff]; show X.v (iv k) = _; simp [cumN]), rfl, Rf rfl, trivial⟩ rfl rfl) ?_
 refine AW.loop (fun i : KInv a.length => [.sl 5 (.v (iv i.k)), .sl 1 (.v (iv (k + (cumN Mk.cnt En.dflt a i.k : Nat)))), .sl 0 (.h base []), .rt base .ro (trG a.length (mkF a k))]) (fun i => a.length - i.k) ⟨0, Nat.zero_le _⟩ ?_
 intro i
 have hle := i.le
 refine sr2 ?_
 refine mn ?_
 refine qm ?_
 refine qh sl65 ?_
 refine qb ?_
 refine nc (fun c1 => ?_) fun c1 => ?_
 ·try simp only [cnd] at c1
  have hc1 := cumN_mono (c := Mk.cnt) (d := En.dflt) (l := a) (show i.k + 1 ≤ a.length by omega)
  simp only [cumN, cnt_Ins] at hc1
  simp only [cnt_list] at hk2
  refine jd (AW.seq (AW.block (sr2 ?_)))
  refine mn ?_
  refine qm ?_
  refine qq (ix sl65 sz187) ?_
  refine qq (fA fl187_0) ?_
  refine nm ?_
  refine ql ag3 ?_
  refine qm ?_
  refine qb ?_
  refine nc (fun c2 => ?_) fun c2 => ?_
  ·try simp only [cnd] at c2
   refine sr ?_
   refine qr 4 ?_
   first | (simp only [retX, slotL, reduceIte, Nat.reduceEqDiff]; rw [cnt_list, show cumN Mk.cnt En.dflt a i.k = cumN Mk.cnt En.dflt a a.length by rw [show i.k = a.length by omega]]; done) | (exfalso; first | (exact absurd rfl c2; done) | (simp [mkF, Mk.mark] at *; done) | (simp_all [mkF, Mk.mark]; done) | omega)
  try simp only [cnd] at c2
  refine jd (sr ?_)
  refine mn ?_
  refine ba ?_
  refine qn ?_
  refine sr2 ?_
  refine mn ?_
  refine qm ?_
  refine qq (ix sl65 sz187) ?_
  refine qq (fA fl187_1) ?_
  refine nm ?_
  refine ql ag3 ?_
  refine qm ?_
  refine qb ?_
  refine nc (fun c3 => ?_) fun c3 => ?_
  ·try simp only [cnd] at c3
   refine sr ?_
   refine qr 4 ?_
   first | (simp only [retX, slotL, reduceIte, Nat.reduceEqDiff]; rw [cnt_list, show cumN Mk.cnt En.dflt a i.k = cumN Mk.cnt En.dflt a a.length by rw [show i.k = a.length by omega]]; done) | (exfalso; first | (exact absurd rfl c3; done) | (simp [mkF, Mk.mark] at *; done) | (simp_all [mkF, Mk.mark]; done) | omega)
  try simp only [cnd] at c3
  refine jd (sr ?_)
  refine mn ?_
  refine ba ?_
  refine qn ?_
  refine sr2 ?_
  refine mn ?_
  refine qm ?_
  refine qq (ix sl65 sz187) ?_
  refine qq (fA fl187_2) ?_
  refine nm ?_
  refine ql ag3 ?_
  refine qm ?_
  refine qb ?_
  refine nc (fun c4 => ?_) fun c4 => ?_
  ·try simp only [cnd] at c4
   refine sr ?_
   refine qr 4 ?_
   first | (simp only [retX, slotL, reduceIte, Nat.reduceEqDiff]; rw [cnt_list, show cumN Mk.cnt En.dflt a i.k = cumN Mk.cnt En.dflt a a.length by rw [show i.k = a.length by omega]]; done) | (exfalso; first | (exact absurd rfl c4; done) | (simp [mkF, Mk.mark] at *; done) | (simp_all [mkF, Mk.mark]; done) | omega)
  try simp only [cnd] at c4
  refine jd (sr ?_)
  refine mn ?_
  refine ba ?_
  refine qn ?_
  refine sr2 ?_
  refine mn ?_
  refine qm ?_
  refine qq (ix sl65 sz187) ?_
  refine qq (fA fl187_3) ?_
  refine nm ?_
  refine ql ag3 ?_
  refine qm ?_
  refine qb ?_
  refine nc (fun c5 => ?_) fun c5 => ?_
  ·try simp only [cnd] at c5
   refine sr ?_
   refine qr 4 ?_
   first | (simp only [retX, slotL, reduceIte, Nat.reduceEqDiff]; rw [cnt_list, show cumN Mk.cnt En.dflt a i.k = cumN Mk.cnt En.dflt a a.length by rw [show i.k = a.length by omega]]; done) | (exfalso; first | (exact absurd rfl c5; done) | (simp [mkF, Mk.mark] at *; done) | (simp_all [mkF, Mk.mark]; done) | omega)
  try simp only [cnd] at c5
  refine jd (AW.region ?_)
  refine mn ?_
  refine ba ?_
  refine qn ?_
  refine AW.region ?_
  refine mn ?_
  refine ba ?_
  refine qn ?_
  refine ⟨⟨i.k + 1, by omega⟩, Weak.sim ⟨st1, (by simp only [slotL, reduceIte, Nat.reduceEqDiff]; congr 2; simp only [cumN, cnt_Ins]; omega), rfl, Rf rfl, trivial⟩ rfl rfl, ?_⟩
  show a.length - (i.k + 1) < a.length - i.k
  omega
 try simp only [cnd] at c1
 refine AW.exit ?_
 dsimp only [thenQ, blockQ, reduceIte]
 refine sr ?_
 refine mn ?_
 refine qr 4 ?_
 first | (simp only [retX, slotL, reduceIte, Nat.reduceEqDiff]; rw [cnt_list, show cumN Mk.cnt En.dflt a i.k = cumN Mk.cnt En.dflt a a.length by rw [show i.k = a.length by omega]]; done) | (exfalso; first | (exact absurd rfl c1; done) | (simp [mkF, Mk.mark] at *; done) | (simp_all [mkF, Mk.mark]; done) | omega)
theorem heldInsSS_con (a : List (List DIns)) (k : Int) (hk : 0 ≤ k) (hk2 : k + (Mk.cnt a : Nat) ≤ 4611686018427387904) : Con Tryz.prog 83 [.h base [], .v (iv k)] [.rt base .ro (tr (mkL a (k)))] (fun y _ => y = .v (iv (k + (Mk.cnt a : Nat)))) := by
 refine ob Tryz.func83 Tryz.ntmps83 ?_
 refine AW.weak (L' := [.sl 0 (.h base []), .sl 1 (.v (iv k)), .rt base .ro (trG a.length (mkF a k))]) (Weak.sim ⟨rfl, rfl, ⟨_, rfl, mkL_trG a k⟩, trivial⟩ rfl rfl) ?_
 refine AW.len base [] rfl (by simp [Okp]) rfl (fun hl => ?_)
 refine sr ?_
 refine qn ?_
 refine sr2 ?_
 refine qn ?_
 refine AW.block ?_
 refine AW.weak (L' := [.sl 5 (.v (iv (0 : Nat))), .sl 1 (.v (iv (k + (cumN Mk.cnt En.dflt a 0 : Nat)))), .sl 0 (.h base []), .rt base .ro (trG a.length (mkF a k))]) (Weak.sim ⟨rfl, (by simp only [slotL, reduceIte, Nat.reduceEqDiff]; show X.v (iv k) = _; simp [cumN]), rfl, Rf rfl, trivial⟩ rfl rfl) ?_
 refine AW.loop (fun i : KInv a.length => [.sl 5 (.v (iv i.k)), .sl 1 (.v (iv (k + (cumN Mk.cnt En.dflt a i.k : Nat)))), .sl 0 (.h base []), .rt base .ro (trG a.length (mkF a k))]) (fun i => a.length - i.k) ⟨0, Nat.zero_le _⟩ ?_
 intro i
 have hle := i.le
 refine sr2 ?_
 refine mn ?_
 refine qm ?_
 refine qh sl24 ?_
 refine qb ?_
 refine nc (fun c1 => ?_) fun c1 => ?_
 ·try simp only [cnd] at c1
  have hc1 := cumN_mono (c := Mk.cnt) (d := En.dflt) (l := a) (show i.k + 1 ≤ a.length by omega)
  simp only [cumN] at hc1
  simp only [cnt_list] at hk2
  refine jd (AW.seq (AW.block (sr ?_)))
  refine mn ?_
  refine qm ?_
  refine qq (ix sl24 sz65) ?_
  refine ql ag65 ?_
  refine nm ?_
  refine qm ?_
  refine cv Tryz.call173 rfl rfl (heldInsS_con _ _ (by omega) (by omega)) ?_
  refine nm ?_
  refine qs' ?_
  refine qm ?_
  refine qb ?_
  refine nc (fun c2 => ?_) fun c2 => ?_
  ·try simp only [cnd] at c2
   refine sr ?_
   refine qr 4 ?_
   first | (simp only [retX, slotL, reduceIte, Nat.reduceEqDiff]; rw [cnt_list, show cumN Mk.cnt En.dflt a i.k = cumN Mk.cnt En.dflt a a.length by rw [show i.k = a.length by omega]]; done) | (exfalso; first | (exact absurd rfl c2; done) | (simp [mkF, Mk.mark] at *; done) | (simp_all [mkF, Mk.mark]; done) | omega)
  try simp only [cnd] at c2
  refine jd (AW.region ?_)
  refine mn ?_
  refine ba ?_
  refine qn ?_
  refine ⟨⟨i.k + 1, by omega⟩, Weak.sim ⟨st1, (by simp only [slotL, reduceIte, Nat.reduceEqDiff]; congr 2; simp only [cumN]; omega), rfl, Rf rfl, trivial⟩ rfl rfl, ?_⟩
  show a.length - (i.k + 1) < a.length - i.k
  omega
 try simp only [cnd] at c1
 refine AW.exit ?_
 dsimp only [thenQ, blockQ, reduceIte]
 refine sr ?_
 refine mn ?_
 refine qr 4 ?_
 first | (simp only [retX, slotL, reduceIte, Nat.reduceEqDiff]; rw [cnt_list, show cumN Mk.cnt En.dflt a i.k = cumN Mk.cnt En.dflt a a.length by rw [show i.k = a.length by omega]]; done) | (exfalso; first | (exact absurd rfl c1; done) | (simp [mkF, Mk.mark] at *; done) | (simp_all [mkF, Mk.mark]; done) | omega)
theorem heldProcS_con (a : List DProc) (k : Int) (hk : 0 ≤ k) (hk2 : k + (Mk.cnt a : Nat) ≤ 4611686018427387904) : Con Tryz.prog 84 [.h base [], .v (iv k)] [.rt base .ro (tr (mkL a (k)))] (fun y _ => y = .v (iv (k + (Mk.cnt a : Nat)))) := by
 refine ob Tryz.func84 Tryz.ntmps84 ?_
 refine AW.weak (L' := [.sl 0 (.h base []), .sl 1 (.v (iv k)), .rt base .ro (trG a.length (mkF a k))]) (Weak.sim ⟨rfl, rfl, ⟨_, rfl, mkL_trG a k⟩, trivial⟩ rfl rfl) ?_
 refine AW.len base [] rfl (by simp [Okp]) rfl (fun hl => ?_)
 refine sr ?_
 refine qn ?_
 refine sr2 ?_
 refine qn ?_
 refine AW.block ?_
 refine AW.weak (L' := [.sl 5 (.v (iv (0 : Nat))), .sl 1 (.v (iv (k + (cumN Mk.cnt En.dflt a 0 : Nat)))), .sl 0 (.h base []), .rt base .ro (trG a.length (mkF a k))]) (Weak.sim ⟨rfl, (by simp only [slotL, reduceIte, Nat.reduceEqDiff]; show X.v (iv k) = _; simp [cumN]), rfl, Rf rfl, trivial⟩ rfl rfl) ?_
 refine AW.loop (fun i : KInv a.length => [.sl 5 (.v (iv i.k)), .sl 1 (.v (iv (k + (cumN Mk.cnt En.dflt a i.k : Nat)))), .sl 0 (.h base []), .rt base .ro (trG a.length (mkF a k))]) (fun i => a.length - i.k) ⟨0, Nat.zero_le _⟩ ?_
 intro i
 have hle := i.le
 refine sr2 ?_
 refine mn ?_
 refine qm ?_
 refine qh sl25 ?_
 refine qb ?_
 refine nc (fun c1 => ?_) fun c1 => ?_
 ·try simp only [cnd] at c1
  have hc1 := cumN_mono (c := Mk.cnt) (d := En.dflt) (l := a) (show i.k + 1 ≤ a.length by omega)
  simp only [cumN, cnt_Proc] at hc1
  simp only [cnt_list] at hk2
  refine jd (AW.seq (AW.block (sr2 ?_)))
  refine mn ?_
  refine qm ?_
  refine qq (ix sl25 sz72) ?_
  refine qq (fA fl72_0) ?_
  refine nm ?_
  refine ql ag3 ?_
  refine qm ?_
  refine qb ?_
  refine nc (fun c2 => ?_) fun c2 => ?_
  ·try simp only [cnd] at c2
   refine sr ?_
   refine qr 4 ?_
   first | (simp only [retX, slotL, reduceIte, Nat.reduceEqDiff]; rw [cnt_list, show cumN Mk.cnt En.dflt a i.k = cumN Mk.cnt En.dflt a a.length by rw [show i.k = a.length by omega]]; done) | (exfalso; first | (exact absurd rfl c2; done) | (simp [mkF, Mk.mark] at *; done) | (simp_all [mkF, Mk.mark]; done) | omega)
  try simp only [cnd] at c2
  refine jd (sr ?_)
  refine mn ?_
  refine ba ?_
  refine qn ?_
  refine sr2 ?_
  refine mn ?_
  refine qm ?_
  refine qq (ix sl25 sz72) ?_
  refine qq (fA fl72_1) ?_
  refine nm ?_
  refine ql ag3 ?_
  refine qm ?_
  refine qb ?_
  refine nc (fun c3 => ?_) fun c3 => ?_
  ·try simp only [cnd] at c3
   refine sr ?_
   refine qr 4 ?_
   first | (simp only [retX, slotL, reduceIte, Nat.reduceEqDiff]; rw [cnt_list, show cumN Mk.cnt En.dflt a i.k = cumN Mk.cnt En.dflt a a.length by rw [show i.k = a.length by omega]]; done) | (exfalso; first | (exact absurd rfl c3; done) | (simp [mkF, Mk.mark] at *; done) | (simp_all [mkF, Mk.mark]; done) | omega)
  try simp only [cnd] at c3
  refine jd (sr ?_)
  refine mn ?_
  refine ba ?_
  refine qn ?_
  refine sr2 ?_
  refine mn ?_
  refine qm ?_
  refine qq (ix sl25 sz72) ?_
  refine qq (fA fl72_2) ?_
  refine nm ?_
  refine ql ag3 ?_
  refine qm ?_
  refine qb ?_
  refine nc (fun c4 => ?_) fun c4 => ?_
  ·try simp only [cnd] at c4
   refine sr ?_
   refine qr 4 ?_
   first | (simp only [retX, slotL, reduceIte, Nat.reduceEqDiff]; rw [cnt_list, show cumN Mk.cnt En.dflt a i.k = cumN Mk.cnt En.dflt a a.length by rw [show i.k = a.length by omega]]; done) | (exfalso; first | (exact absurd rfl c4; done) | (simp [mkF, Mk.mark] at *; done) | (simp_all [mkF, Mk.mark]; done) | omega)
  try simp only [cnd] at c4
  refine jd (sr ?_)
  refine mn ?_
  refine ba ?_
  refine qn ?_
  refine sr2 ?_
  refine mn ?_
  refine qm ?_
  refine qq (ix sl25 sz72) ?_
  refine qq (fA fl72_3) ?_
  refine nm ?_
  refine ql ag3 ?_
  refine qm ?_
  refine qb ?_
  refine nc (fun c5 => ?_) fun c5 => ?_
  ·try simp only [cnd] at c5
   refine sr ?_
   refine qr 4 ?_
   first | (simp only [retX, slotL, reduceIte, Nat.reduceEqDiff]; rw [cnt_list, show cumN Mk.cnt En.dflt a i.k = cumN Mk.cnt En.dflt a a.length by rw [show i.k = a.length by omega]]; done) | (exfalso; first | (exact absurd rfl c5; done) | (simp [mkF, Mk.mark] at *; done) | (simp_all [mkF, Mk.mark]; done) | omega)
  try simp only [cnd] at c5
  refine jd (sr ?_)
  refine mn ?_
  refine ba ?_
  refine qn ?_
  refine sr2 ?_
  refine mn ?_
  refine qm ?_
  refine qq (ix sl25 sz72) ?_
  refine qq (fA fl72_4) ?_
  refine nm ?_
  refine qq (fA fl70_0) ?_
  refine ql ag3 ?_
  refine mn ?_
  refine qb ?_
  refine nc (fun c6 => ?_) fun c6 => ?_
  ·try simp only [cnd] at c6
   refine sr ?_
   refine qr 4 ?_
   first | (simp only [retX, slotL, reduceIte, Nat.reduceEqDiff]; rw [cnt_list, show cumN Mk.cnt En.dflt a i.k = cumN Mk.cnt En.dflt a a.length by rw [show i.k = a.length by omega]]; done) | (exfalso; first | (exact absurd rfl c6; done) | (simp [mkF, Mk.mark] at *; done) | (simp_all [mkF, Mk.mark]; done) | omega)
  try simp only [cnd] at c6
  refine jd (sr ?_)
  refine mn ?_
  refine ba ?_
  refine qs' ?_
  refine mn ?_
  refine qm ?_
  refine qq (ix sl25 sz72) ?_
  refine qq (fA fl72_4) ?_
  refine nm ?_
  refine qq (fA fl70_1) ?_
  refine ql ag29 ?_
  refine mn ?_
  refine cv Tryz.call88 rfl rfl (heldIntS_con _ _ (by omega) (by omega)) ?_
  refine nm ?_
  refine qn ?_
  refine sr2 ?_
  refine qm ?_
  refine qb ?_
  refine nc (fun c7 => ?_) fun c7 => ?_
  ·try simp only [cnd] at c7
   refine sr ?_
   refine qr 4 ?_
   first | (simp only [retX, slotL, reduceIte, Nat.reduceEqDiff]; rw [cnt_list, show cumN Mk.cnt En.dflt a i.k = cumN Mk.cnt En.dflt a a.length by rw [show i.k = a.length by omega]]; done) | (exfalso; first | (exact absurd rfl c7; done) | (simp [mkF, Mk.mark] at *; done) | (simp_all [mkF, Mk.mark]; done) | omega)
  try simp only [cnd] at c7
  refine jd (sr ?_)
  refine mn ?_
  refine qm ?_
  refine qq (ix sl25 sz72) ?_
  refine qq (fA fl72_5) ?_
  refine nm ?_
  refine ql ag29 ?_
  refine qm ?_
  refine cv Tryz.call88 rfl rfl (heldIntS_con _ _ (by omega) (by omega)) ?_
  refine nm ?_
  refine qn ?_
  refine sr2 ?_
  refine qm ?_
  refine qb ?_
  refine nc (fun c8 => ?_) fun c8 => ?_
  ·try simp only [cnd] at c8
   refine sr ?_
   refine qr 4 ?_
   first | (simp only [retX, slotL, reduceIte, Nat.reduceEqDiff]; rw [cnt_list, show cumN Mk.cnt En.dflt a i.k = cumN Mk.cnt En.dflt a a.length by rw [show i.k = a.length by omega]]; done) | (exfalso; first | (exact absurd rfl c8; done) | (simp [mkF, Mk.mark] at *; done) | (simp_all [mkF, Mk.mark]; done) | omega)
  try simp only [cnd] at c8
  refine jd (sr ?_)
  refine mn ?_
  refine qm ?_
  refine qq (ix sl25 sz72) ?_
  refine qq (fA fl72_6) ?_
  refine nm ?_
  refine ql ag29 ?_
  refine qm ?_
  refine cv Tryz.call88 rfl rfl (heldIntS_con _ _ (by omega) (by omega)) ?_
  refine nm ?_
  refine qn ?_
  refine sr2 ?_
  refine qm ?_
  refine qb ?_
  refine nc (fun c9 => ?_) fun c9 => ?_
  ·try simp only [cnd] at c9
   refine sr ?_
   refine qr 4 ?_
   first | (simp only [retX, slotL, reduceIte, Nat.reduceEqDiff]; rw [cnt_list, show cumN Mk.cnt En.dflt a i.k = cumN Mk.cnt En.dflt a a.length by rw [show i.k = a.length by omega]]; done) | (exfalso; first | (exact absurd rfl c9; done) | (simp [mkF, Mk.mark] at *; done) | (simp_all [mkF, Mk.mark]; done) | omega)
  try simp only [cnd] at c9
  refine jd (sr2 ?_)
  refine mn ?_
  refine qm ?_
  refine qq (ix sl25 sz72) ?_
  refine qq (fA fl72_7) ?_
  refine nm ?_
  refine ql ag3 ?_
  refine qm ?_
  refine qb ?_
  refine nc (fun c10 => ?_) fun c10 => ?_
  ·try simp only [cnd] at c10
   refine sr ?_
   refine qr 4 ?_
   first | (simp only [retX, slotL, reduceIte, Nat.reduceEqDiff]; rw [cnt_list, show cumN Mk.cnt En.dflt a i.k = cumN Mk.cnt En.dflt a a.length by rw [show i.k = a.length by omega]]; done) | (exfalso; first | (exact absurd rfl c10; done) | (simp [mkF, Mk.mark] at *; done) | (simp_all [mkF, Mk.mark]; done) | omega)
  try simp only [cnd] at c10
  refine jd (sr ?_)
  refine mn ?_
  refine ba ?_
  refine qn ?_
  refine sr2 ?_
  refine mn ?_
  refine qm ?_
  refine qq (ix sl25 sz72) ?_
  refine qq (fA fl72_8) ?_
  refine nm ?_
  refine ql ag3 ?_
  refine qm ?_
  refine qb ?_
  refine nc (fun c11 => ?_) fun c11 => ?_
  ·try simp only [cnd] at c11
   refine sr ?_
   refine qr 4 ?_
   first | (simp only [retX, slotL, reduceIte, Nat.reduceEqDiff]; rw [cnt_list, show cumN Mk.cnt En.dflt a i.k = cumN Mk.cnt En.dflt a a.length by rw [show i.k = a.length by omega]]; done) | (exfalso; first | (exact absurd rfl c11; done) | (simp [mkF, Mk.mark] at *; done) | (simp_all [mkF, Mk.mark]; done) | omega)
  try simp only [cnd] at c11
  refine jd (AW.region ?_)
  refine mn ?_
  refine ba ?_
  refine qn ?_
  refine AW.region ?_
  refine mn ?_
  refine ba ?_
  refine qn ?_
  refine ⟨⟨i.k + 1, by omega⟩, Weak.sim ⟨st1, (by simp only [slotL, reduceIte, Nat.reduceEqDiff]; congr 2; simp only [cumN, cnt_Proc]; omega), rfl, Rf rfl, trivial⟩ rfl rfl, ?_⟩
  show a.length - (i.k + 1) < a.length - i.k
  omega
 try simp only [cnd] at c1
 refine AW.exit ?_
 dsimp only [thenQ, blockQ, reduceIte]
 refine sr ?_
 refine mn ?_
 refine qr 4 ?_
 first | (simp only [retX, slotL, reduceIte, Nat.reduceEqDiff]; rw [cnt_list, show cumN Mk.cnt En.dflt a i.k = cumN Mk.cnt En.dflt a a.length by rw [show i.k = a.length by omega]]; done) | (exfalso; first | (exact absurd rfl c1; done) | (simp [mkF, Mk.mark] at *; done) | (simp_all [mkF, Mk.mark]; done) | omega)
theorem heldOpenS_con (a : List DOpen) (k : Int) (hk : 0 ≤ k) (hk2 : k + (Mk.cnt a : Nat) ≤ 4611686018427387904) : Con Tryz.prog 85 [.h base [], .v (iv k)] [.rt base .ro (tr (mkL a (k)))] (fun y _ => y = .v (iv (k + (Mk.cnt a : Nat)))) := by
 refine ob Tryz.func85 Tryz.ntmps85 ?_
 refine AW.weak (L' := [.sl 0 (.h base []), .sl 1 (.v (iv k)), .rt base .ro (trG a.length (mkF a k))]) (Weak.sim ⟨rfl, rfl, ⟨_, rfl, mkL_trG a k⟩, trivial⟩ rfl rfl) ?_
 refine AW.len base [] rfl (by simp [Okp]) rfl (fun hl => ?_)
 refine sr ?_
 refine qn ?_
 refine sr2 ?_
 refine qn ?_
 refine AW.block ?_
 refine AW.weak (L' := [.sl 5 (.v (iv (0 : Nat))), .sl 1 (.v (iv (k + (cumN Mk.cnt En.dflt a 0 : Nat)))), .sl 0 (.h base []), .rt base .ro (trG a.length (mkF a k))]) (Weak.sim ⟨rfl, (by simp only [slotL, reduceIte, Nat.reduceEqDiff]; show X.v (iv k) = _; simp [cumN]), rfl, Rf rfl, trivial⟩ rfl rfl) ?_
 refine AW.loop (fun i : KInv a.length => [.sl 5 (.v (iv i.k)), .sl 1 (.v (iv (k + (cumN Mk.cnt En.dflt a i.k : Nat)))), .sl 0 (.h base []), .rt base .ro (trG a.length (mkF a k))]) (fun i => a.length - i.k) ⟨0, Nat.zero_le _⟩ ?_
 intro i
 have hle := i.le
 refine sr2 ?_
 refine mn ?_
 refine qm ?_
 refine qh sl26 ?_
 refine qb ?_
 refine nc (fun c1 => ?_) fun c1 => ?_
 ·try simp only [cnd] at c1
  have hc1 := cumN_mono (c := Mk.cnt) (d := En.dflt) (l := a) (show i.k + 1 ≤ a.length by omega)
  simp only [cumN, cnt_Open] at hc1
  simp only [cnt_list] at hk2
  refine jd (AW.seq (AW.block (sr2 ?_)))
  refine mn ?_
  refine qm ?_
  refine qq (ix sl26 sz130) ?_
  refine qq (fA fl130_0) ?_
  refine nm ?_
  refine ql ag3 ?_
  refine qm ?_
  refine qb ?_
  refine nc (fun c2 => ?_) fun c2 => ?_
  ·try simp only [cnd] at c2
   refine sr ?_
   refine qr 4 ?_
   first | (simp only [retX, slotL, reduceIte, Nat.reduceEqDiff]; rw [cnt_list, show cumN Mk.cnt En.dflt a i.k = cumN Mk.cnt En.dflt a a.length by rw [show i.k = a.length by omega]]; done) | (exfalso; first | (exact absurd rfl c2; done) | (simp [mkF, Mk.mark] at *; done) | (simp_all [mkF, Mk.mark]; done) | omega)
  try simp only [cnd] at c2
  refine jd (sr ?_)
  refine mn ?_
  refine ba ?_
  refine qn ?_
  refine sr2 ?_
  refine mn ?_
  refine qm ?_
  refine qq (ix sl26 sz130) ?_
  refine qq (fA fl130_1) ?_
  refine nm ?_
  refine ql ag3 ?_
  refine qm ?_
  refine qb ?_
  refine nc (fun c3 => ?_) fun c3 => ?_
  ·try simp only [cnd] at c3
   refine sr ?_
   refine qr 4 ?_
   first | (simp only [retX, slotL, reduceIte, Nat.reduceEqDiff]; rw [cnt_list, show cumN Mk.cnt En.dflt a i.k = cumN Mk.cnt En.dflt a a.length by rw [show i.k = a.length by omega]]; done) | (exfalso; first | (exact absurd rfl c3; done) | (simp [mkF, Mk.mark] at *; done) | (simp_all [mkF, Mk.mark]; done) | omega)
  try simp only [cnd] at c3
  refine jd (sr ?_)
  refine mn ?_
  refine ba ?_
  refine qn ?_
  refine sr2 ?_
  refine mn ?_
  refine qm ?_
  refine qq (ix sl26 sz130) ?_
  refine qq (fA fl130_2) ?_
  refine nm ?_
  refine ql ag3 ?_
  refine qm ?_
  refine qb ?_
  refine nc (fun c4 => ?_) fun c4 => ?_
  ·try simp only [cnd] at c4
   refine sr ?_
   refine qr 4 ?_
   first | (simp only [retX, slotL, reduceIte, Nat.reduceEqDiff]; rw [cnt_list, show cumN Mk.cnt En.dflt a i.k = cumN Mk.cnt En.dflt a a.length by rw [show i.k = a.length by omega]]; done) | (exfalso; first | (exact absurd rfl c4; done) | (simp [mkF, Mk.mark] at *; done) | (simp_all [mkF, Mk.mark]; done) | omega)
  try simp only [cnd] at c4
  refine jd (sr ?_)
  refine mn ?_
  refine ba ?_
  refine qn ?_
  refine sr2 ?_
  refine mn ?_
  refine qm ?_
  refine qq (ix sl26 sz130) ?_
  refine qq (fA fl130_3) ?_
  refine nm ?_
  refine ql ag3 ?_
  refine qm ?_
  refine qb ?_
  refine nc (fun c5 => ?_) fun c5 => ?_
  ·try simp only [cnd] at c5
   refine sr ?_
   refine qr 4 ?_
   first | (simp only [retX, slotL, reduceIte, Nat.reduceEqDiff]; rw [cnt_list, show cumN Mk.cnt En.dflt a i.k = cumN Mk.cnt En.dflt a a.length by rw [show i.k = a.length by omega]]; done) | (exfalso; first | (exact absurd rfl c5; done) | (simp [mkF, Mk.mark] at *; done) | (simp_all [mkF, Mk.mark]; done) | omega)
  try simp only [cnd] at c5
  refine jd (sr ?_)
  refine mn ?_
  refine ba ?_
  refine qn ?_
  refine sr2 ?_
  refine mn ?_
  refine qm ?_
  refine qq (ix sl26 sz130) ?_
  refine qq (fA fl130_4) ?_
  refine nm ?_
  refine ql ag3 ?_
  refine qm ?_
  refine qb ?_
  refine nc (fun c6 => ?_) fun c6 => ?_
  ·try simp only [cnd] at c6
   refine sr ?_
   refine qr 4 ?_
   first | (simp only [retX, slotL, reduceIte, Nat.reduceEqDiff]; rw [cnt_list, show cumN Mk.cnt En.dflt a i.k = cumN Mk.cnt En.dflt a a.length by rw [show i.k = a.length by omega]]; done) | (exfalso; first | (exact absurd rfl c6; done) | (simp [mkF, Mk.mark] at *; done) | (simp_all [mkF, Mk.mark]; done) | omega)
  try simp only [cnd] at c6
  refine jd (AW.region ?_)
  refine mn ?_
  refine ba ?_
  refine qn ?_
  refine AW.region ?_
  refine mn ?_
  refine ba ?_
  refine qn ?_
  refine ⟨⟨i.k + 1, by omega⟩, Weak.sim ⟨st1, (by simp only [slotL, reduceIte, Nat.reduceEqDiff]; congr 2; simp only [cumN, cnt_Open]; omega), rfl, Rf rfl, trivial⟩ rfl rfl, ?_⟩
  show a.length - (i.k + 1) < a.length - i.k
  omega
 try simp only [cnd] at c1
 refine AW.exit ?_
 dsimp only [thenQ, blockQ, reduceIte]
 refine sr ?_
 refine mn ?_
 refine qr 4 ?_
 first | (simp only [retX, slotL, reduceIte, Nat.reduceEqDiff]; rw [cnt_list, show cumN Mk.cnt En.dflt a i.k = cumN Mk.cnt En.dflt a a.length by rw [show i.k = a.length by omega]]; done) | (exfalso; first | (exact absurd rfl c1; done) | (simp [mkF, Mk.mark] at *; done) | (simp_all [mkF, Mk.mark]; done) | omega)
theorem heldPipeS_con (a : List DPipe) (k : Int) (hk : 0 ≤ k) (hk2 : k + (Mk.cnt a : Nat) ≤ 4611686018427387904) : Con Tryz.prog 86 [.h base [], .v (iv k)] [.rt base .ro (tr (mkL a (k)))] (fun y _ => y = .v (iv (k + (Mk.cnt a : Nat)))) := by
 refine ob Tryz.func86 Tryz.ntmps86 ?_
 refine AW.weak (L' := [.sl 0 (.h base []), .sl 1 (.v (iv k)), .rt base .ro (trG a.length (mkF a k))]) (Weak.sim ⟨rfl, rfl, ⟨_, rfl, mkL_trG a k⟩, trivial⟩ rfl rfl) ?_
 refine AW.len base [] rfl (by simp [Okp]) rfl (fun hl => ?_)
 refine sr ?_
 refine qn ?_
 refine sr2 ?_
 refine qn ?_
 refine AW.block ?_
 refine AW.weak (L' := [.sl 5 (.v (iv (0 : Nat))), .sl 1 (.v (iv (k + (cumN Mk.cnt En.dflt a 0 : Nat)))), .sl 0 (.h base []), .rt base .ro (trG a.length (mkF a k))]) (Weak.sim ⟨rfl, (by simp only [slotL, reduceIte, Nat.reduceEqDiff]; show X.v (iv k) = _; simp [cumN]), rfl, Rf rfl, trivial⟩ rfl rfl) ?_
 refine AW.loop (fun i : KInv a.length => [.sl 5 (.v (iv i.k)), .sl 1 (.v (iv (k + (cumN Mk.cnt En.dflt a i.k : Nat)))), .sl 0 (.h base []), .rt base .ro (trG a.length (mkF a k))]) (fun i => a.length - i.k) ⟨0, Nat.zero_le _⟩ ?_
 intro i
 have hle := i.le
 refine sr2 ?_
 refine mn ?_
 refine qm ?_
 refine qh sl27 ?_
 refine qb ?_
 refine nc (fun c1 => ?_) fun c1 => ?_
 ·try simp only [cnd] at c1
  have hc1 := cumN_mono (c := Mk.cnt) (d := En.dflt) (l := a) (show i.k + 1 ≤ a.length by omega)
  simp only [cumN, cnt_Pipe] at hc1
  simp only [cnt_list] at hk2
  refine jd (AW.seq (AW.block (sr2 ?_)))
  refine mn ?_
  refine qm ?_
  refine qq (ix sl27 sz153) ?_
  refine qq (fA fl153_0) ?_
  refine nm ?_
  refine ql ag3 ?_
  refine qm ?_
  refine qb ?_
  refine nc (fun c2 => ?_) fun c2 => ?_
  ·try simp only [cnd] at c2
   refine sr ?_
   refine qr 4 ?_
   first | (simp only [retX, slotL, reduceIte, Nat.reduceEqDiff]; rw [cnt_list, show cumN Mk.cnt En.dflt a i.k = cumN Mk.cnt En.dflt a a.length by rw [show i.k = a.length by omega]]; done) | (exfalso; first | (exact absurd rfl c2; done) | (simp [mkF, Mk.mark] at *; done) | (simp_all [mkF, Mk.mark]; done) | omega)
  try simp only [cnd] at c2
  refine jd (sr ?_)
  refine mn ?_
  refine ba ?_
  refine qs' ?_
  refine mn ?_
  refine qm ?_
  refine qq (ix sl27 sz153) ?_
  refine qq (fA fl153_1) ?_
  refine nm ?_
  refine ql ag29 ?_
  refine qm ?_
  refine cv Tryz.call88 rfl rfl (heldIntS_con _ _ (by omega) (by omega)) ?_
  refine nm ?_
  refine qs' ?_
  refine qm ?_
  refine qb ?_
  refine nc (fun c3 => ?_) fun c3 => ?_
  ·try simp only [cnd] at c3
   refine sr ?_
   refine qr 4 ?_
   first | (simp only [retX, slotL, reduceIte, Nat.reduceEqDiff]; rw [cnt_list, show cumN Mk.cnt En.dflt a i.k = cumN Mk.cnt En.dflt a a.length by rw [show i.k = a.length by omega]]; done) | (exfalso; first | (exact absurd rfl c3; done) | (simp [mkF, Mk.mark] at *; done) | (simp_all [mkF, Mk.mark]; done) | omega)
  try simp only [cnd] at c3
  refine jd (AW.region ?_)
  refine mn ?_
  refine ba ?_
  refine qn ?_
  refine ⟨⟨i.k + 1, by omega⟩, Weak.sim ⟨st1, (by simp only [slotL, reduceIte, Nat.reduceEqDiff]; congr 2; simp only [cumN, cnt_Pipe]; omega), rfl, Rf rfl, trivial⟩ rfl rfl, ?_⟩
  show a.length - (i.k + 1) < a.length - i.k
  omega
 try simp only [cnd] at c1
 refine AW.exit ?_
 dsimp only [thenQ, blockQ, reduceIte]
 refine sr ?_
 refine mn ?_
 refine qr 4 ?_
 first | (simp only [retX, slotL, reduceIte, Nat.reduceEqDiff]; rw [cnt_list, show cumN Mk.cnt En.dflt a i.k = cumN Mk.cnt En.dflt a a.length by rw [show i.k = a.length by omega]]; done) | (exfalso; first | (exact absurd rfl c1; done) | (simp [mkF, Mk.mark] at *; done) | (simp_all [mkF, Mk.mark]; done) | omega)
theorem heldFileS_con (a : List DFile) (k : Int) (hk : 0 ≤ k) (hk2 : k + (Mk.cnt a : Nat) ≤ 4611686018427387904) : Con Tryz.prog 87 [.h base [], .v (iv k)] [.rt base .ro (tr (mkL a (k)))] (fun y _ => y = .v (iv (k + (Mk.cnt a : Nat)))) := by
 refine ob Tryz.func87 Tryz.ntmps87 ?_
 refine AW.weak (L' := [.sl 0 (.h base []), .sl 1 (.v (iv k)), .rt base .ro (trG a.length (mkF a k))]) (Weak.sim ⟨rfl, rfl, ⟨_, rfl, mkL_trG a k⟩, trivial⟩ rfl rfl) ?_
 refine AW.len base [] rfl (by simp [Okp]) rfl (fun hl => ?_)
 refine sr ?_
 refine qn ?_
 refine sr2 ?_
 refine qn ?_
 refine AW.block ?_
 refine AW.weak (L' := [.sl 5 (.v (iv (0 : Nat))), .sl 1 (.v (iv (k + (cumN Mk.cnt En.dflt a 0 : Nat)))), .sl 0 (.h base []), .rt base .ro (trG a.length (mkF a k))]) (Weak.sim ⟨rfl, (by simp only [slotL, reduceIte, Nat.reduceEqDiff]; show X.v (iv k) = _; simp [cumN]), rfl, Rf rfl, trivial⟩ rfl rfl) ?_
 refine AW.loop (fun i : KInv a.length => [.sl 5 (.v (iv i.k)), .sl 1 (.v (iv (k + (cumN Mk.cnt En.dflt a i.k : Nat)))), .sl 0 (.h base []), .rt base .ro (trG a.length (mkF a k))]) (fun i => a.length - i.k) ⟨0, Nat.zero_le _⟩ ?_
 intro i
 have hle := i.le
 refine sr2 ?_
 refine mn ?_
 refine qm ?_
 refine qh sl28 ?_
 refine qb ?_
 refine nc (fun c1 => ?_) fun c1 => ?_
 ·try simp only [cnd] at c1
  have hc1 := cumN_mono (c := Mk.cnt) (d := En.dflt) (l := a) (show i.k + 1 ≤ a.length by omega)
  simp only [cumN, cnt_File] at hc1
  simp only [cnt_list] at hk2
  refine jd (AW.seq (AW.block (sr2 ?_)))
  refine mn ?_
  refine qm ?_
  refine qq (ix sl28 sz155) ?_
  refine qq (fA fl155_0) ?_
  refine nm ?_
  refine ql ag3 ?_
  refine qm ?_
  refine qb ?_
  refine nc (fun c2 => ?_) fun c2 => ?_
  ·try simp only [cnd] at c2
   refine sr ?_
   refine qr 4 ?_
   first | (simp only [retX, slotL, reduceIte, Nat.reduceEqDiff]; rw [cnt_list, show cumN Mk.cnt En.dflt a i.k = cumN Mk.cnt En.dflt a a.length by rw [show i.k = a.length by omega]]; done) | (exfalso; first | (exact absurd rfl c2; done) | (simp [mkF, Mk.mark] at *; done) | (simp_all [mkF, Mk.mark]; done) | omega)
  try simp only [cnd] at c2
  refine jd (sr ?_)
  refine mn ?_
  refine ba ?_
  refine qs' ?_
  refine mn ?_
  refine qm ?_
  refine qq (ix sl28 sz155) ?_
  refine qq (fA fl155_1) ?_
  refine nm ?_
  refine ql ag29 ?_
  refine qm ?_
  refine cv Tryz.call88 rfl rfl (heldIntS_con _ _ (by omega) (by omega)) ?_
  refine nm ?_
  refine qs' ?_
  refine qm ?_
  refine qb ?_
  refine nc (fun c3 => ?_) fun c3 => ?_
  ·try simp only [cnd] at c3
   refine sr ?_
   refine qr 4 ?_
   first | (simp only [retX, slotL, reduceIte, Nat.reduceEqDiff]; rw [cnt_list, show cumN Mk.cnt En.dflt a i.k = cumN Mk.cnt En.dflt a a.length by rw [show i.k = a.length by omega]]; done) | (exfalso; first | (exact absurd rfl c3; done) | (simp [mkF, Mk.mark] at *; done) | (simp_all [mkF, Mk.mark]; done) | omega)
  try simp only [cnd] at c3
  refine jd (AW.region ?_)
  refine mn ?_
  refine ba ?_
  refine qn ?_
  refine ⟨⟨i.k + 1, by omega⟩, Weak.sim ⟨st1, (by simp only [slotL, reduceIte, Nat.reduceEqDiff]; congr 2; simp only [cumN, cnt_File]; omega), rfl, Rf rfl, trivial⟩ rfl rfl, ?_⟩
  show a.length - (i.k + 1) < a.length - i.k
  omega
 try simp only [cnd] at c1
 refine AW.exit ?_
 dsimp only [thenQ, blockQ, reduceIte]
 refine sr ?_
 refine mn ?_
 refine qr 4 ?_
 first | (simp only [retX, slotL, reduceIte, Nat.reduceEqDiff]; rw [cnt_list, show cumN Mk.cnt En.dflt a i.k = cumN Mk.cnt En.dflt a a.length by rw [show i.k = a.length by omega]]; done) | (exfalso; first | (exact absurd rfl c1; done) | (simp [mkF, Mk.mark] at *; done) | (simp_all [mkF, Mk.mark]; done) | omega)
theorem heldUnix_con (a : DUnix) (k : Int) (hk : 0 ≤ k) (hk2 : k + (Mk.cnt a.Progs : Nat) + (Mk.cnt a.Procs : Nat) + (Mk.cnt a.Opens : Nat) + (Mk.cnt a.Pipes : Nat) + (Mk.cnt a.Files : Nat) + (Mk.cnt a.Ready : Nat) + (Mk.cnt a.Out : Nat) ≤ 4611686018427387904) : Con Tryz.prog 28 [.g [.v (iv a.Next), .v (iv a.Tick), .h base [], .h (base + 1) [], .h (base + 2) [], .h (base + 3) [], .h (base + 4) [], .h (base + 5) [], .h (base + 6) []], .v (iv k)] [.rt base .ro (tr (mkL a.Progs (k))), .rt (base + 1) .ro (tr (mkL a.Procs (k + (Mk.cnt a.Progs : Nat)))), .rt (base + 2) .ro (tr (mkL a.Opens (k + (Mk.cnt a.Progs : Nat) + (Mk.cnt a.Procs : Nat)))), .rt (base + 3) .ro (tr (mkL a.Pipes (k + (Mk.cnt a.Progs : Nat) + (Mk.cnt a.Procs : Nat) + (Mk.cnt a.Opens : Nat)))), .rt (base + 4) .ro (tr (mkL a.Files (k + (Mk.cnt a.Progs : Nat) + (Mk.cnt a.Procs : Nat) + (Mk.cnt a.Opens : Nat) + (Mk.cnt a.Pipes : Nat)))), .rt (base + 5) .ro (tr (mkL a.Ready (k + (Mk.cnt a.Progs : Nat) + (Mk.cnt a.Procs : Nat) + (Mk.cnt a.Opens : Nat) + (Mk.cnt a.Pipes : Nat) + (Mk.cnt a.Files : Nat)))), .rt (base + 6) .ro (tr (mkL a.Out (k + (Mk.cnt a.Progs : Nat) + (Mk.cnt a.Procs : Nat) + (Mk.cnt a.Opens : Nat) + (Mk.cnt a.Pipes : Nat) + (Mk.cnt a.Files : Nat) + (Mk.cnt a.Ready : Nat))))] (fun y _ => y = .v (iv (k + (Mk.cnt a.Progs : Nat) + (Mk.cnt a.Procs : Nat) + (Mk.cnt a.Opens : Nat) + (Mk.cnt a.Pipes : Nat) + (Mk.cnt a.Files : Nat) + (Mk.cnt a.Ready : Nat) + (Mk.cnt a.Out : Nat)))) := by
 refine ob Tryz.func28 Tryz.ntmps28 ?_
 refine sr ?_
 refine bx ?_
 refine nm ?_
 refine qs' ?_
 refine qq (fA fl31_2) ?_
 refine ql ag24 ?_
 refine nm ?_
 refine qm ?_
 refine cv Tryz.call83 rfl rfl (heldInsSS_con _ _ (by omega) (by omega)) ?_
 refine nm ?_
 refine qn ?_
 refine sr2 ?_
 refine qm ?_
 refine qb ?_
 refine nc (fun c1 => ?_) fun c1 => ?_
 ·try simp only [cnd] at c1
  refine sr ?_
  refine qr 4 ?_
  first | rfl | (exfalso; simp_all; done) | (exfalso; omega)
 try simp only [cnd] at c1
 refine jd (sr ?_)
 refine qq (fA fl31_3) ?_
 refine nm ?_
 refine ql ag25 ?_
 refine qm ?_
 refine cv Tryz.call84 rfl rfl (heldProcS_con _ _ (by omega) (by omega)) ?_
 refine nm ?_
 refine qn ?_
 refine sr2 ?_
 refine qm ?_
 refine qb ?_
 refine nc (fun c2 => ?_) fun c2 => ?_
 ·try simp only [cnd] at c2
  refine sr ?_
  refine qr 4 ?_
  first | rfl | (exfalso; simp_all; done) | (exfalso; omega)
 try simp only [cnd] at c2
 refine jd (sr ?_)
 refine qq (fA fl31_4) ?_
 refine nm ?_
 refine ql ag26 ?_
 refine qm ?_
 refine cv Tryz.call85 rfl rfl (heldOpenS_con _ _ (by omega) (by omega)) ?_
 refine nm ?_
 refine qn ?_
 refine sr2 ?_
 refine qm ?_
 refine qb ?_
 refine nc (fun c3 => ?_) fun c3 => ?_
 ·try simp only [cnd] at c3
  refine sr ?_
  refine qr 4 ?_
  first | rfl | (exfalso; simp_all; done) | (exfalso; omega)
 try simp only [cnd] at c3
 refine jd (sr ?_)
 refine qq (fA fl31_5) ?_
 refine nm ?_
 refine ql ag27 ?_
 refine qm ?_
 refine cv Tryz.call86 rfl rfl (heldPipeS_con _ _ (by omega) (by omega)) ?_
 refine nm ?_
 refine qn ?_
 refine sr2 ?_
 refine qm ?_
 refine qb ?_
 refine nc (fun c4 => ?_) fun c4 => ?_
 ·try simp only [cnd] at c4
  refine sr ?_
  refine qr 4 ?_
  first | rfl | (exfalso; simp_all; done) | (exfalso; omega)
 try simp only [cnd] at c4
 refine jd (sr ?_)
 refine qq (fA fl31_6) ?_
 refine nm ?_
 refine ql ag28 ?_
 refine qm ?_
 refine cv Tryz.call87 rfl rfl (heldFileS_con _ _ (by omega) (by omega)) ?_
 refine nm ?_
 refine qn ?_
 refine sr2 ?_
 refine qm ?_
 refine qb ?_
 refine nc (fun c5 => ?_) fun c5 => ?_
 ·try simp only [cnd] at c5
  refine sr ?_
  refine qr 4 ?_
  first | rfl | (exfalso; simp_all; done) | (exfalso; omega)
 try simp only [cnd] at c5
 refine jd (sr ?_)
 refine qq (fA fl31_7) ?_
 refine nm ?_
 refine ql ag29 ?_
 refine qm ?_
 refine cv Tryz.call88 rfl rfl (heldIntS_con _ _ (by omega) (by omega)) ?_
 refine nm ?_
 refine qn ?_
 refine sr2 ?_
 refine qm ?_
 refine qb ?_
 refine nc (fun c6 => ?_) fun c6 => ?_
 ·try simp only [cnd] at c6
  refine sr ?_
  refine qr 4 ?_
  first | rfl | (exfalso; simp_all; done) | (exfalso; omega)
 try simp only [cnd] at c6
 refine jd (sr ?_)
 refine qq (fA fl31_8) ?_
 refine nm ?_
 refine ql ag29 ?_
 refine qm ?_
 refine cv Tryz.call88 rfl rfl (heldIntS_con _ _ (by omega) (by omega)) ?_
 refine nm ?_
 refine qn ?_
 refine sr2 ?_
 refine qm ?_
 refine qb ?_
 refine nc (fun c7 => ?_) fun c7 => ?_
 ·try simp only [cnd] at c7
  refine sr ?_
  refine qr 4 ?_
  first | rfl | (exfalso; simp_all; done) | (exfalso; omega)
 try simp only [cnd] at c7
 refine jd (sr ?_)
 refine mn ?_
 refine qr 4 ?_
 first | rfl | (exfalso; simp_all; done) | (exfalso; omega)
end Go.Proofs.YtfbefcmeghpalaaGreat.VM
