/- Contracts of functions of the program. No conditions beyond those that each states. -/
import Derived.Test.YtlploojfcmcckaaDoorCK0
set_option linter.all false
set_option maxHeartbeats 8000000
set_option maxRecDepth 10000
namespace Go.Proofs.YtlploojfcmcckaaDoor.VM
open Go Go.RowKit Go.Proofs
structure DIns where
 Op : Int
 A : Int
 B : Int
 C : Int
deriving DecidableEq
instance : En DIns := ⟨4, by omega, fun a => [.v (iv a.Op), .v (iv a.A), .v (iv a.B), .v (iv a.C)], fun _ => rfl, fun a => En.fit a.Op ∧ En.fit a.A ∧ En.fit a.B ∧ En.fit a.C, ⟨0, 0, 0, 0⟩⟩
@[go_sem] theorem cs_Ins (a : DIns) : En.cs a = [.v (iv a.Op), .v (iv a.A), .v (iv a.B), .v (iv a.C)] := rfl
instance : Mk DIns := { wt := fun _ => 0, cnt := fun a => 1 + 1 + 1 + 1, mark := fun _ k => ⟨k, k + 1, k + 1 + 1, k + 1 + 1 + 1⟩, cnt_mk := fun a k => by simp [Mk.cnt_mk] }
theorem cnt_Ins (a : DIns) : Mk.cnt a = 1 + 1 + 1 + 1 := rfl
theorem eqIns_con (a b : DIns) : Con Tryd.prog 38 [.g [.v (iv a.Op), .v (iv a.A), .v (iv a.B), .v (iv a.C)], .g [.v (iv b.Op), .v (iv b.A), .v (iv b.B), .v (iv b.C)]] [] (fun y _ => y = .v (.bool (decide (a = b)))) := by
 refine ob Tryd.func38 Tryd.ntmps38 ?_
 refine sr ?_
 refine bx ?_
 refine nm ?_
 refine bx ?_
 refine nm ?_
 refine qn ?_
 refine sr2 ?_
 refine qq (fA fl53_0) ?_
 refine ql ag3 ?_
 refine nm ?_
 refine qq (fA fl53_0) ?_
 refine ql ag3 ?_
 refine qb ?_
 refine nc (fun c1 => ?_) fun c1 => ?_
 ·try simp only [cnd] at c1
  refine sr ?_
  refine qr 4 ?_
  simp only [retX, slotL, reduceIte, Nat.reduceEqDiff]
  cases a
  cases b
  simp_all
 try simp only [cnd] at c1
 refine jd (sr2 ?_)
 refine qq (fA fl53_1) ?_
 refine nm ?_
 refine ql ag3 ?_
 refine qq (fA fl53_1) ?_
 refine ql ag3 ?_
 refine nm ?_
 refine qb ?_
 refine nc (fun c2 => ?_) fun c2 => ?_
 ·try simp only [cnd] at c2
  refine sr ?_
  refine qr 4 ?_
  simp only [retX, slotL, reduceIte, Nat.reduceEqDiff]
  cases a
  cases b
  simp_all
 try simp only [cnd] at c2
 refine jd (sr2 ?_)
 refine qq (fA fl53_2) ?_
 refine nm ?_
 refine ql ag3 ?_
 refine qq (fA fl53_2) ?_
 refine ql ag3 ?_
 refine nm ?_
 refine qb ?_
 refine nc (fun c3 => ?_) fun c3 => ?_
 ·try simp only [cnd] at c3
  refine sr ?_
  refine qr 4 ?_
  simp only [retX, slotL, reduceIte, Nat.reduceEqDiff]
  cases a
  cases b
  simp_all
 try simp only [cnd] at c3
 refine jd (sr2 ?_)
 refine qq (fA fl53_3) ?_
 refine nm ?_
 refine ql ag3 ?_
 refine qq (fA fl53_3) ?_
 refine ql ag3 ?_
 refine nm ?_
 refine qb ?_
 refine nc (fun c4 => ?_) fun c4 => ?_
 ·try simp only [cnd] at c4
  refine sr ?_
  refine qr 4 ?_
  simp only [retX, slotL, reduceIte, Nat.reduceEqDiff]
  cases a
  cases b
  simp_all
 try simp only [cnd] at c4
 refine jd (sr ?_)
 refine qr 4 ?_
 simp only [retX, slotL, reduceIte, Nat.reduceEqDiff]
 cases a
 cases b
 simp_all
theorem eqInsS_con (a b : List DIns) : Con Tryd.prog 14 [.h base [], .h (base + 1) []] [.rt base .ro (tr a), .rt (base + 1) .ro (tr b)] (fun y _ => y = .v (.bool (decide (a = b)))) := by
 refine ob Tryd.func14 Tryd.ntmps14 ?_
 refine AW.len base [] rfl (by simp [Okp]) rfl (fun hl => ?_)
 refine AW.len (base + 1) [] rfl (by simp [Okp]) rfl (fun hl2 => ?_)
 refine sr ?_
 refine qn ?_
 refine sr2 ?_
 refine qm ?_
 refine qh sl27 ?_
 refine nm ?_
 refine qm ?_
 refine qh sl27 ?_
 refine qb ?_
 refine nc (fun c1 => ?_) fun c1 => ?_
 ·try simp only [cnd] at c1
  refine sr ?_
  refine qr 4 ?_
  simp only [retX, slotL, reduceIte, Nat.reduceEqDiff]
  rw [decide_eq_false (show a ≠ b from ne_of_len (by omega))]
 try simp only [cnd] at c1
 refine jd (sr2 ?_)
 refine qn ?_
 refine AW.block ?_
 refine AW.loopW (fun i : EqInv a b => [.sl 5 (.v (iv i.k)), .sl 0 (.h base []), .sl 1 (.h (base + 1) []), .rt base .ro (tr a), .rt (base + 1) .ro (tr b)]) (fun i => a.length - i.k) ⟨0, Nat.zero_le _, rfl⟩ (Weak.sim ⟨rfl, rfl, rfl, Rf rfl, Rf rfl, trivial⟩ rfl rfl) ?_
 intro i
 have hle := i.le
 refine sr2 ?_
 refine mn ?_
 refine qm ?_
 refine qh sl27 ?_
 refine qb ?_
 refine nc (fun c2 => ?_) fun c2 => ?_
 ·try simp only [cnd] at c2
  refine jd (AW.seq (AW.block (AW.seq ?_)))
  refine AW.draw [0, 1, 2, 3, 4, 5, 6, 7, 9] rfl (by decide +kernel) ?_
  refine tk 0 rfl Qt.move ?_
  refine na ?_
  refine tk 1 rfl Qt.move ?_
  refine tk 2 rfl (ix sl27 sz53) ?_
  refine tk 3 rfl (Qt.loadG rfl rfl rfl ag53 sz53 (by decide)) ?_
  refine na ?_
  refine tk 4 rfl Qt.move ?_
  refine tk 5 rfl Qt.move ?_
  refine tk 6 rfl (ix sl27 sz53) ?_
  refine na ?_
  refine tk 7 rfl (Qt.loadG rfl rfl rfl ag53 sz53 (by decide)) ?_
  refine a1 8 [] [7, 3, 6, 2, 5, 4, 1, 0] rfl rfl (Stp.callV rfl (by decide) Tryd.call38 rfl rfl (eqIns_con _ _)) ?_
  refine na ?_
  refine na ?_
  refine tk 9 rfl (Qt.notB rfl) ?_
  refine nz ?_
  refine cd (fun c3 => ?_) fun c3 => ?_
  ·try simp only [cnd] at c3
   refine sr ?_
   refine qr 4 ?_
   simp only [retX, slotL, reduceIte, Nat.reduceEqDiff]
   rw [decide_eq_false (show a ≠ b from i.stop En.dflt (by simpa using c3))]
  try simp only [cnd] at c3
  refine jd (AW.region ?_)
  refine mn ?_
  refine ba ?_
  refine qn ?_
  refine ⟨⟨i.k + 1, by omega, i.next En.dflt (by omega) (by omega) (by simpa using c3)⟩, Weak.sim ⟨st1, rfl, rfl, Rf rfl, Rf rfl, trivial⟩ rfl rfl, ?_⟩
  show a.length - (i.k + 1) < a.length - i.k
  omega
 try simp only [cnd] at c2
 refine AW.exit ?_
 dsimp only [thenQ, blockQ, reduceIte]
 refine sr ?_
 refine qr 4 ?_
 simp only [retX, slotL, reduceIte, Nat.reduceEqDiff]
 rw [decide_eq_true (show a = b from i.full (by omega) (by omega))]
theorem markInsS_con (a : List DIns) (k : Int) (hk : 0 ≤ k) (hk2 : k + (Mk.cnt a : Nat) ≤ 4611686018427387904) : Con Tryd.prog 29 [.h base [], .v (iv k)] [.rt base .row (tr a)] (RetW (.v (iv (k + (Mk.cnt a : Nat)))) [] [(base, tr (mkL a (k)))]) := by
 refine ob Tryd.func29 Tryd.ntmps29 ?_
 refine AW.len base [] rfl (by simp [Okp]) rfl (fun hl => ?_)
 refine sr ?_
 refine qn ?_
 refine sr2 ?_
 refine qn ?_
 refine AW.block ?_
 refine AW.weak (L' := [.sl 5 (.v (iv (0 : Nat))), .sl 1 (.v (iv (k + (cumN Mk.cnt En.dflt a 0 : Nat)))), .sl 0 (.h base []), .rt base .row (trMix 0 a.length (mkF a k) fun j => a.getD j En.dflt)]) (Weak.sim ⟨rfl, (by simp only [slotL, reduceIte, Nat.reduceEqDiff]; show X.v (iv k) = _; simp [cumN]), rfl, ⟨_, rfl, trMix_tr⟩, trivial⟩ rfl rfl) ?_
 refine AW.loop (fun i : KInv a.length => [.sl 5 (.v (iv i.k)), .sl 1 (.v (iv (k + (cumN Mk.cnt En.dflt a i.k : Nat)))), .sl 0 (.h base []), .rt base .row (trMix i.k a.length (mkF a k) fun j => a.getD j En.dflt)]) (fun i => a.length - i.k) ⟨0, Nat.zero_le _⟩ ?_
 intro i
 have hle := i.le
 refine sr2 ?_
 refine mn ?_
 refine qm ?_
 refine qh sl27 ?_
 refine qb ?_
 refine nc (fun c1 => ?_) fun c1 => ?_
 ·try simp only [cnd] at c1
  have hc1 := cumN_mono (c := Mk.cnt) (d := En.dflt) (l := a) (show i.k + 1 ≤ a.length by omega)
  simp only [cumN, cnt_Ins] at hc1
  simp only [cnt_list] at hk2
  refine jd (AW.seq (AW.block (sr ?_)))
  refine mn ?_
  refine qm ?_
  refine qm ?_
  refine qq (ix sl27 sz53) ?_
  refine nm ?_
  refine qq (fA fl53_0) ?_
  refine ss ?_
  refine ns ?_
  refine mn ?_
  refine ba ?_
  refine qs' ?_
  refine mn ?_
  refine qm ?_
  refine qm ?_
  refine qq (ix sl27 sz53) ?_
  refine nm ?_
  refine qq (fA fl53_1) ?_
  refine ss ?_
  refine ns ?_
  refine mn ?_
  refine ba ?_
  refine qs' ?_
  refine mn ?_
  refine qm ?_
  refine qm ?_
  refine qq (ix sl27 sz53) ?_
  refine nm ?_
  refine qq (fA fl53_2) ?_
  refine ss ?_
  refine ns ?_
  refine mn ?_
  refine ba ?_
  refine qs' ?_
  refine mn ?_
  refine qm ?_
  refine qm ?_
  refine qq (ix sl27 sz53) ?_
  refine nm ?_
  refine qq (fA fl53_3) ?_
  refine ss ?_
  refine nl ?_
  refine AW.region ?_
  refine mn ?_
  refine ba ?_
  refine qn ?_
  refine AW.region ?_
  refine mn ?_
  refine ba ?_
  refine qn ?_
  refine ⟨⟨i.k + 1, by omega⟩, Weak.sim ⟨st1, (by simp only [slotL, reduceIte, Nat.reduceEqDiff]; congr 2; simp only [cumN, cnt_Ins]; omega), rfl, ⟨_, rfl, trMix_next (fun i c hi => by simp only [upd_app, hi, false_and, if_false]; rfl) (fun c hc => match c, hc with | 0, _ => (by simp only [upd_app, eq_self, and_true, and_false, Nat.reduceEqDiff, if_true, if_false]; exact T.sim_refl _) | 1, _ => (by simp only [upd_app, eq_self, and_true, and_false, Nat.reduceEqDiff, if_true, if_false]; exact T.sim_refl _) | 2, _ => (by simp only [upd_app, eq_self, and_true, and_false, Nat.reduceEqDiff, if_true, if_false]; exact T.sim_refl _) | 3, _ => (by simp only [upd_app, eq_self, and_true, and_false, Nat.reduceEqDiff, if_true, if_false]; exact T.sim_refl _) | c + 4, hc => absurd hc (by simp only [En.n]; omega))⟩, trivial⟩ rfl rfl, ?_⟩
  show a.length - (i.k + 1) < a.length - i.k
  omega
 try simp only [cnd] at c1
 refine AW.exit ?_
 dsimp only [thenQ, blockQ, reduceIte]
 refine sr ?_
 refine mn ?_
 refine qn ?_
 refine AW.weak (L' := [.rt base .row (tr (mkL a k)), .sl 4 (.v (iv (k + (Mk.cnt a : Nat))))]) (Weak.sim ⟨⟨_, rfl, trMix_mk a k (by omega)⟩, (by simp only [slotL, reduceIte, Nat.reduceEqDiff]; rw [cnt_list, show cumN Mk.cnt En.dflt a i.k = cumN Mk.cnt En.dflt a a.length by rw [show i.k = a.length by omega]]), trivial⟩ rfl rfl) ?_
 refine rt1 4 ?_
 refine ⟨fun n => n, rfl, fun _ _ => rfl, List.nodup_nil, (by simp), ?_⟩
 intro p hp
 cases List.mem_singleton.1 hp
 exact rootL_mem rfl
theorem heldInsS_con (a : List DIns) (k : Int) (hk : 0 ≤ k) (hk2 : k + (Mk.cnt a : Nat) ≤ 4611686018427387904) : Con Tryd.prog 30 [.h base [], .v (iv k)] [.rt base .ro (tr (mkL a (k)))] (fun y _ => y = .v (iv (k + (Mk.cnt a : Nat)))) := by
 refine ob Tryd.func30 Tryd.ntmps30 ?_
 refine AW.weak (L' := [.sl 0 (.h base []), .sl 1 (.v (iv k)), .rt base .ro (trG a.length (mkF a k))]) (Weak.sim ⟨rfl, rfl, ⟨_, rfl, mkL_trG a k⟩, trivial⟩ rfl rfl) ?_
 refine AW.len base [] rfl (by simp [Okp]) rfl (fun hl => ?_)
 refine sr ?_
 refine qn ?_
 refine sr2 ?_
 refine qn ?_
 refine AW.block ?_
 refine AW.weak (L' := [.sl 5 (.v (iv (0 : Nat))), .sl 1 (.v (iv (k + (cumN Mk.cnt En.dflt a 0 : Nat)))), .sl 0 (.h base []), .rt base .ro (trG a.length (mkF a k))]) (Weak.sim ⟨rfl, (by simp only [slotL, reduceIte, Nat.reduceEqDiff]; show X.v (iv k) = _; simp [cumN]), rfl, Rf rfl, trivial⟩ rfl rfl) ?_
 refine AW.loop (fun i : KInv a.length => [.sl 5 (.v (iv i.k)), .sl 1 (.v (iv (k + (cumN Mk.cnt En.dflt a i.k : Nat)))), .sl 0 (.h base []), .rt base .ro (trG a.length (mkF a k))]) (fun i => a.length - i.k) ⟨0, Nat.zero_le _⟩ ?_
 intro i
 have hle := i.le
 refine sr2 ?_
 refine mn ?_
 refine qm ?_
 refine qh sl27 ?_
 refine qb ?_
 refine nc (fun c1 => ?_) fun c1 => ?_
 ·try simp only [cnd] at c1
  have hc1 := cumN_mono (c := Mk.cnt) (d := En.dflt) (l := a) (show i.k + 1 ≤ a.length by omega)
  simp only [cumN, cnt_Ins] at hc1
  simp only [cnt_list] at hk2
  refine jd (AW.seq (AW.block (sr2 ?_)))
  refine mn ?_
  refine qm ?_
  refine qq (ix sl27 sz53) ?_
  refine qq (fA fl53_0) ?_
  refine nm ?_
  refine ql ag3 ?_
  refine qm ?_
  refine qb ?_
  refine nc (fun c2 => ?_) fun c2 => ?_
  ·try simp only [cnd] at c2
   refine sr ?_
   refine qr 4 ?_
   first | (simp only [retX, slotL, reduceIte, Nat.reduceEqDiff]; rw [cnt_list, show cumN Mk.cnt En.dflt a i.k = cumN Mk.cnt En.dflt a a.length by rw [show i.k = a.length by omega]]; done) | (exfalso; first | (exact absurd rfl c2; done) | (simp [mkF, Mk.mark] at *; done) | (simp_all [mkF, Mk.mark]; done) | omega)
  try simp only [cnd] at c2
  refine jd (sr ?_)
  refine mn ?_
  refine ba ?_
  refine qn ?_
  refine sr2 ?_
  refine mn ?_
  refine qm ?_
  refine qq (ix sl27 sz53) ?_
  refine qq (fA fl53_1) ?_
  refine nm ?_
  refine ql ag3 ?_
  refine qm ?_
  refine qb ?_
  refine nc (fun c3 => ?_) fun c3 => ?_
  ·try simp only [cnd] at c3
   refine sr ?_
   refine qr 4 ?_
   first | (simp only [retX, slotL, reduceIte, Nat.reduceEqDiff]; rw [cnt_list, show cumN Mk.cnt En.dflt a i.k = cumN Mk.cnt En.dflt a a.length by rw [show i.k = a.length by omega]]; done) | (exfalso; first | (exact absurd rfl c3; done) | (simp [mkF, Mk.mark] at *; done) | (simp_all [mkF, Mk.mark]; done) | omega)
  try simp only [cnd] at c3
  refine jd (sr ?_)
  refine mn ?_
  refine ba ?_
  refine qn ?_
  refine sr2 ?_
  refine mn ?_
  refine qm ?_
  refine qq (ix sl27 sz53) ?_
  refine qq (fA fl53_2) ?_
  refine nm ?_
  refine ql ag3 ?_
  refine qm ?_
  refine qb ?_
  refine nc (fun c4 => ?_) fun c4 => ?_
  ·try simp only [cnd] at c4
   refine sr ?_
   refine qr 4 ?_
   first | (simp only [retX, slotL, reduceIte, Nat.reduceEqDiff]; rw [cnt_list, show cumN Mk.cnt En.dflt a i.k = cumN Mk.cnt En.dflt a a.length by rw [show i.k = a.length by omega]]; done) | (exfalso; first | (exact absurd rfl c4; done) | (simp [mkF, Mk.mark] at *; done) | (simp_all [mkF, Mk.mark]; done) | omega)
  try simp only [cnd] at c4
  refine jd (sr ?_)
  refine mn ?_
  refine ba ?_
  refine qn ?_
  refine sr2 ?_
  refine mn ?_
  refine qm ?_
  refine qq (ix sl27 sz53) ?_
  refine qq (fA fl53_3) ?_
  refine nm ?_
  refine ql ag3 ?_
  refine qm ?_
  refine qb ?_
  refine nc (fun c5 => ?_) fun c5 => ?_
  ·try simp only [cnd] at c5
   refine sr ?_
   refine qr 4 ?_
   first | (simp only [retX, slotL, reduceIte, Nat.reduceEqDiff]; rw [cnt_list, show cumN Mk.cnt En.dflt a i.k = cumN Mk.cnt En.dflt a a.length by rw [show i.k = a.length by omega]]; done) | (exfalso; first | (exact absurd rfl c5; done) | (simp [mkF, Mk.mark] at *; done) | (simp_all [mkF, Mk.mark]; done) | omega)
  try simp only [cnd] at c5
  refine jd (AW.region ?_)
  refine mn ?_
  refine ba ?_
  refine qn ?_
  refine AW.region ?_
  refine mn ?_
  refine ba ?_
  refine qn ?_
  refine ⟨⟨i.k + 1, by omega⟩, Weak.sim ⟨st1, (by simp only [slotL, reduceIte, Nat.reduceEqDiff]; congr 2; simp only [cumN, cnt_Ins]; omega), rfl, Rf rfl, trivial⟩ rfl rfl, ?_⟩
  show a.length - (i.k + 1) < a.length - i.k
  omega
 try simp only [cnd] at c1
 refine AW.exit ?_
 dsimp only [thenQ, blockQ, reduceIte]
 refine sr ?_
 refine mn ?_
 refine qr 4 ?_
 first | (simp only [retX, slotL, reduceIte, Nat.reduceEqDiff]; rw [cnt_list, show cumN Mk.cnt En.dflt a i.k = cumN Mk.cnt En.dflt a a.length by rw [show i.k = a.length by omega]]; done) | (exfalso; first | (exact absurd rfl c1; done) | (simp [mkF, Mk.mark] at *; done) | (simp_all [mkF, Mk.mark]; done) | omega)
end Go.Proofs.YtlploojfcmcckaaDoor.VM
