/- Contracts of functions of the program. No conditions beyond those that each states. -/
import Derived.Test.YtfbefcmeghpalaaCL1
set_option linter.all false
namespace Go.Proofs.Ytfbefcmeghpalaa.VM
open Go Go.RowKit Go.Proofs
set_option maxHeartbeats 8000000 in
set_option maxRecDepth 10000 in
theorem heldInsS_con (a : List DIns) (k : Int) (hk : 0 ≤ k) (hk2 : k + (Mk.cnt a : Nat) ≤ 4611686018427387904) : Con Try.prog 89 [.h base [], .v (iv k)] [.rt base .ro (tr (mkL a (k)))] (fun y _ => y = .v (iv (k + (Mk.cnt a : Nat)))) := by
 refine Con.of_body Try.func89 rfl (by simp) ?_
 rw [Try.ntmps89]
 refine AW.weak (L' := [.sl 0 (.h base []), .sl 1 (.v (iv k)), .rt base .ro (trG a.length (mkF a k))]) (Weak.sim ⟨rfl, rfl, ⟨_, rfl, mkL_trG a k⟩, trivial⟩ rfl rfl) ?_
 refine AW.len base [] rfl (by simp [Okp]) rfl (fun hl => ?_)
 refine AW.seq (AW.region ?_)
 refine qq Qt.assign ?_
 refine nl ?_
 refine AW.seq (AW.seq (AW.region ?_))
 refine qq Qt.assign ?_
 refine nl ?_
 refine AW.block ?_
 refine AW.weak (L' := [.sl 5 (.v (iv (0 : Nat))), .sl 1 (.v (iv (k + (cumN Mk.cnt En.dflt a 0 : Nat)))), .sl 0 (.h base []), .rt base .ro (trG a.length (mkF a k))]) (Weak.sim ⟨rfl, (by simp only [slotL, reduceIte, Nat.reduceEqDiff]; show X.v (iv k) = _; simp [cumN]), rfl, Rf rfl, trivial⟩ rfl rfl) ?_
 refine AW.loop (fun i : KInv a.length => [.sl 5 (.v (iv i.k)), .sl 1 (.v (iv (k + (cumN Mk.cnt En.dflt a i.k : Nat)))), .sl 0 (.h base []), .rt base .ro (trG a.length (mkF a k))]) (fun i => a.length - i.k) ⟨0, Nat.zero_le _⟩ ?_
 intro i
 have hle := i.le
 refine AW.seq (AW.seq (AW.region ?_))
 refine qq Qt.move ?_
 refine nm ?_
 refine qq Qt.move ?_
 refine qq (Qt.lenH rfl rfl rfl sl73) ?_
 refine qq (Qt.binOp rfl rfl rfl) ?_
 refine nl ?_
 refine AW.cond rfl (fun c1 => ?_) (fun c1 => ?_)
 ·have k1 := c1
  try simp only [cnd] at c1
  have hc1 := cumN_mono (c := Mk.cnt) (d := En.dflt) (l := a) (show i.k + 1 ≤ a.length by omega)
  simp only [cumN, cnt_Ins] at hc1
  simp only [cnt_list] at hk2
  refine jd (AW.seq (AW.block (AW.seq (AW.seq (AW.region ?_)))))
  refine qq Qt.move ?_
  refine nm ?_
  refine qq Qt.move ?_
  refine qq (Qt.indexAddr rfl rfl rfl rfl sl73 sz107 (by decide) (by omega)) ?_
  refine qq (fA fl107_0) ?_
  refine nm ?_
  refine qq (Qt.load1 rfl rfl rfl ag3) ?_
  refine qq Qt.move ?_
  refine qq (Qt.binOp rfl rfl rfl) ?_
  refine nl ?_
  refine AW.cond rfl (fun c2 => ?_) (fun c2 => ?_)
  ·have k2 := c2
   try simp only [cnd] at c2
   refine AW.seq (AW.region ?_)
   refine qq Qt.assign ?_
   refine nl ?_
   refine AW.ret (endQ_ret (.cons (.tmp 4) .nil) ?_)
   first | (simp only [retX, slotL, reduceIte, Nat.reduceEqDiff]; rw [cnt_list, show cumN Mk.cnt En.dflt a i.k = cumN Mk.cnt En.dflt a a.length by rw [show i.k = a.length by omega]]; done) | (exfalso; first | (exact absurd rfl c2; done) | (simp [mkF, Mk.mark] at *; done) | (simp_all [mkF, Mk.mark]; done) | omega)
  have k2 := c2
  try simp only [cnd] at c2
  refine jd (AW.seq (AW.region ?_))
  refine qq Qt.move ?_
  refine nm ?_
  refine qq (Qt.binOp rfl rfl (by first | exact pbAdd (by omega) | rfl)) ?_
  refine qq Qt.assign ?_
  refine nl ?_
  refine AW.seq (AW.seq (AW.region ?_))
  refine qq Qt.move ?_
  refine nm ?_
  refine qq Qt.move ?_
  refine qq (Qt.indexAddr rfl rfl rfl rfl sl73 sz107 (by decide) (by omega)) ?_
  refine qq (fA fl107_1) ?_
  refine nm ?_
  refine qq (Qt.load1 rfl rfl rfl ag3) ?_
  refine qq Qt.move ?_
  refine qq (Qt.binOp rfl rfl rfl) ?_
  refine nl ?_
  refine AW.cond rfl (fun c3 => ?_) (fun c3 => ?_)
  ·have k3 := c3
   try simp only [cnd] at c3
   refine AW.seq (AW.region ?_)
   refine qq Qt.assign ?_
   refine nl ?_
   refine AW.ret (endQ_ret (.cons (.tmp 4) .nil) ?_)
   first | (simp only [retX, slotL, reduceIte, Nat.reduceEqDiff]; rw [cnt_list, show cumN Mk.cnt En.dflt a i.k = cumN Mk.cnt En.dflt a a.length by rw [show i.k = a.length by omega]]; done) | (exfalso; first | (exact absurd rfl c3; done) | (simp [mkF, Mk.mark] at *; done) | (simp_all [mkF, Mk.mark]; done) | omega)
  have k3 := c3
  try simp only [cnd] at c3
  refine jd (AW.seq (AW.region ?_))
  refine qq Qt.move ?_
  refine nm ?_
  refine qq (Qt.binOp rfl rfl (by first | exact pbAdd (by omega) | rfl)) ?_
  refine qq Qt.assign ?_
  refine nl ?_
  refine AW.seq (AW.seq (AW.region ?_))
  refine qq Qt.move ?_
  refine nm ?_
  refine qq Qt.move ?_
  refine qq (Qt.indexAddr rfl rfl rfl rfl sl73 sz107 (by decide) (by omega)) ?_
  refine qq (fA fl107_2) ?_
  refine nm ?_
  refine qq (Qt.load1 rfl rfl rfl ag3) ?_
  refine qq Qt.move ?_
  refine qq (Qt.binOp rfl rfl rfl) ?_
  refine nl ?_
  refine AW.cond rfl (fun c4 => ?_) (fun c4 => ?_)
  ·have k4 := c4
   try simp only [cnd] at c4
   refine AW.seq (AW.region ?_)
   refine qq Qt.assign ?_
   refine nl ?_
   refine AW.ret (endQ_ret (.cons (.tmp 4) .nil) ?_)
   first | (simp only [retX, slotL, reduceIte, Nat.reduceEqDiff]; rw [cnt_list, show cumN Mk.cnt En.dflt a i.k = cumN Mk.cnt En.dflt a a.length by rw [show i.k = a.length by omega]]; done) | (exfalso; first | (exact absurd rfl c4; done) | (simp [mkF, Mk.mark] at *; done) | (simp_all [mkF, Mk.mark]; done) | omega)
  have k4 := c4
  try simp only [cnd] at c4
  refine jd (AW.seq (AW.region ?_))
  refine qq Qt.move ?_
  refine nm ?_
  refine qq (Qt.binOp rfl rfl (by first | exact pbAdd (by omega) | rfl)) ?_
  refine qq Qt.assign ?_
  refine nl ?_
  refine AW.seq (AW.seq (AW.region ?_))
  refine qq Qt.move ?_
  refine nm ?_
  refine qq Qt.move ?_
  refine qq (Qt.indexAddr rfl rfl rfl rfl sl73 sz107 (by decide) (by omega)) ?_
  refine qq (fA fl107_3) ?_
  refine nm ?_
  refine qq (Qt.load1 rfl rfl rfl ag3) ?_
  refine qq Qt.move ?_
  refine qq (Qt.binOp rfl rfl rfl) ?_
  refine nl ?_
  refine AW.cond rfl (fun c5 => ?_) (fun c5 => ?_)
  ·have k5 := c5
   try simp only [cnd] at c5
   refine AW.seq (AW.region ?_)
   refine qq Qt.assign ?_
   refine nl ?_
   refine AW.ret (endQ_ret (.cons (.tmp 4) .nil) ?_)
   first | (simp only [retX, slotL, reduceIte, Nat.reduceEqDiff]; rw [cnt_list, show cumN Mk.cnt En.dflt a i.k = cumN Mk.cnt En.dflt a a.length by rw [show i.k = a.length by omega]]; done) | (exfalso; first | (exact absurd rfl c5; done) | (simp [mkF, Mk.mark] at *; done) | (simp_all [mkF, Mk.mark]; done) | omega)
  have k5 := c5
  try simp only [cnd] at c5
  refine jd (AW.region ?_)
  refine qq Qt.move ?_
  refine nm ?_
  refine qq (Qt.binOp rfl rfl (by first | exact pbAdd (by omega) | rfl)) ?_
  refine qq Qt.assign ?_
  refine nl ?_
  refine AW.region ?_
  refine qq Qt.move ?_
  refine nm ?_
  refine qq (Qt.binOp rfl rfl (by first | exact pbAdd (by omega) | rfl)) ?_
  refine qq Qt.assign ?_
  refine nl ?_
  refine ⟨⟨i.k + 1, by omega⟩, Weak.sim ⟨st1, (by simp only [slotL, reduceIte, Nat.reduceEqDiff]; congr 2; simp only [cumN, cnt_Ins]; omega), rfl, Rf rfl, trivial⟩ rfl rfl, ?_⟩
  show a.length - (i.k + 1) < a.length - i.k
  omega
 have k1 := c1
 try simp only [cnd] at c1
 refine AW.exit ?_
 dsimp only [thenQ, blockQ, reduceIte]
 refine AW.seq (AW.region ?_)
 refine qq Qt.move ?_
 refine nm ?_
 refine qq Qt.assign ?_
 refine nl ?_
 refine AW.ret (endQ_ret (.cons (.tmp 4) .nil) ?_)
 first | (simp only [retX, slotL, reduceIte, Nat.reduceEqDiff]; rw [cnt_list, show cumN Mk.cnt En.dflt a i.k = cumN Mk.cnt En.dflt a a.length by rw [show i.k = a.length by omega]]; done) | (exfalso; first | (exact absurd rfl c1; done) | (simp [mkF, Mk.mark] at *; done) | (simp_all [mkF, Mk.mark]; done) | omega)
set_option maxHeartbeats 8000000 in
set_option maxRecDepth 10000 in
theorem heldInsSS_con (a : List (List DIns)) (k : Int) (hk : 0 ≤ k) (hk2 : k + (Mk.cnt a : Nat) ≤ 4611686018427387904) : Con Try.prog 60 [.h base [], .v (iv k)] [.rt base .ro (tr (mkL a (k)))] (fun y _ => y = .v (iv (k + (Mk.cnt a : Nat)))) := by
 refine Con.of_body Try.func60 rfl (by simp) ?_
 rw [Try.ntmps60]
 refine AW.weak (L' := [.sl 0 (.h base []), .sl 1 (.v (iv k)), .rt base .ro (trG a.length (mkF a k))]) (Weak.sim ⟨rfl, rfl, ⟨_, rfl, mkL_trG a k⟩, trivial⟩ rfl rfl) ?_
 refine AW.len base [] rfl (by simp [Okp]) rfl (fun hl => ?_)
 refine AW.seq (AW.region ?_)
 refine qq Qt.assign ?_
 refine nl ?_
 refine AW.seq (AW.seq (AW.region ?_))
 refine qq Qt.assign ?_
 refine nl ?_
 refine AW.block ?_
 refine AW.weak (L' := [.sl 5 (.v (iv (0 : Nat))), .sl 1 (.v (iv (k + (cumN Mk.cnt En.dflt a 0 : Nat)))), .sl 0 (.h base []), .rt base .ro (trG a.length (mkF a k))]) (Weak.sim ⟨rfl, (by simp only [slotL, reduceIte, Nat.reduceEqDiff]; show X.v (iv k) = _; simp [cumN]), rfl, Rf rfl, trivial⟩ rfl rfl) ?_
 refine AW.loop (fun i : KInv a.length => [.sl 5 (.v (iv i.k)), .sl 1 (.v (iv (k + (cumN Mk.cnt En.dflt a i.k : Nat)))), .sl 0 (.h base []), .rt base .ro (trG a.length (mkF a k))]) (fun i => a.length - i.k) ⟨0, Nat.zero_le _⟩ ?_
 intro i
 have hle := i.le
 refine AW.seq (AW.seq (AW.region ?_))
 refine qq Qt.move ?_
 refine nm ?_
 refine qq Qt.move ?_
 refine qq (Qt.lenH rfl rfl rfl sl39) ?_
 refine qq (Qt.binOp rfl rfl rfl) ?_
 refine nl ?_
 refine AW.cond rfl (fun c1 => ?_) (fun c1 => ?_)
 ·have k1 := c1
  try simp only [cnd] at c1
  have hc1 := cumN_mono (c := Mk.cnt) (d := En.dflt) (l := a) (show i.k + 1 ≤ a.length by omega)
  simp only [cumN] at hc1
  simp only [cnt_list] at hk2
  refine jd (AW.seq (AW.block (AW.seq (AW.region ?_))))
  refine qq Qt.move ?_
  refine nm ?_
  refine qq Qt.move ?_
  refine qq (Qt.indexAddr rfl rfl rfl rfl sl39 sz73 (by decide) (by omega)) ?_
  refine qq (Qt.load1 rfl rfl rfl ag73) ?_
  refine nm ?_
  refine qq Qt.move ?_
  refine cv Try.call89 rfl rfl (heldInsS_con _ _ (by omega) (by omega)) ?_
  refine nm ?_
  refine qq Qt.assign ?_
  refine nl ?_
  refine AW.seq (AW.region ?_)
  refine qq Qt.move ?_
  refine qq (Qt.binOp rfl rfl rfl) ?_
  refine nl ?_
  refine AW.cond rfl (fun c2 => ?_) (fun c2 => ?_)
  ·have k2 := c2
   try simp only [cnd] at c2
   refine AW.seq (AW.region ?_)
   refine qq Qt.assign ?_
   refine nl ?_
   refine AW.ret (endQ_ret (.cons (.tmp 4) .nil) ?_)
   first | (simp only [retX, slotL, reduceIte, Nat.reduceEqDiff]; rw [cnt_list, show cumN Mk.cnt En.dflt a i.k = cumN Mk.cnt En.dflt a a.length by rw [show i.k = a.length by omega]]; done) | (exfalso; first | (exact absurd rfl c2; done) | (simp [mkF, Mk.mark] at *; done) | (simp_all [mkF, Mk.mark]; done) | omega)
  have k2 := c2
  try simp only [cnd] at c2
  refine jd (AW.region ?_)
  refine qq Qt.move ?_
  refine nm ?_
  refine qq (Qt.binOp rfl rfl (by first | exact pbAdd (by omega) | rfl)) ?_
  refine qq Qt.assign ?_
  refine nl ?_
  refine ⟨⟨i.k + 1, by omega⟩, Weak.sim ⟨st1, (by simp only [slotL, reduceIte, Nat.reduceEqDiff]; congr 2; simp only [cumN]; omega), rfl, Rf rfl, trivial⟩ rfl rfl, ?_⟩
  show a.length - (i.k + 1) < a.length - i.k
  omega
 have k1 := c1
 try simp only [cnd] at c1
 refine AW.exit ?_
 dsimp only [thenQ, blockQ, reduceIte]
 refine AW.seq (AW.region ?_)
 refine qq Qt.move ?_
 refine nm ?_
 refine qq Qt.assign ?_
 refine nl ?_
 refine AW.ret (endQ_ret (.cons (.tmp 4) .nil) ?_)
 first | (simp only [retX, slotL, reduceIte, Nat.reduceEqDiff]; rw [cnt_list, show cumN Mk.cnt En.dflt a i.k = cumN Mk.cnt En.dflt a a.length by rw [show i.k = a.length by omega]]; done) | (exfalso; first | (exact absurd rfl c1; done) | (simp [mkF, Mk.mark] at *; done) | (simp_all [mkF, Mk.mark]; done) | omega)
set_option maxHeartbeats 8000000 in
set_option maxRecDepth 10000 in
theorem heldIntS_con (a : List Int) (k : Int) (hk : 0 ≤ k) (hk2 : k + (Mk.cnt a : Nat) ≤ 4611686018427387904) : Con Try.prog 65 [.h base [], .v (iv k)] [.rt base .ro (tr (mkL a (k)))] (fun y _ => y = .v (iv (k + (Mk.cnt a : Nat)))) := by
 refine Con.of_body Try.func65 rfl (by simp) ?_
 rw [Try.ntmps65]
 refine AW.weak (L' := [.sl 0 (.h base []), .sl 1 (.v (iv k)), .rt base .ro (trG a.length (mkF a k))]) (Weak.sim ⟨rfl, rfl, ⟨_, rfl, mkL_trG a k⟩, trivial⟩ rfl rfl) ?_
 refine AW.len base [] rfl (by simp [Okp]) rfl (fun hl => ?_)
 refine AW.seq (AW.region ?_)
 refine qq Qt.assign ?_
 refine nl ?_
 refine AW.seq (AW.seq (AW.region ?_))
 refine qq Qt.assign ?_
 refine nl ?_
 refine AW.block ?_
 refine AW.weak (L' := [.sl 5 (.v (iv (0 : Nat))), .sl 1 (.v (iv (k + (cumN Mk.cnt En.dflt a 0 : Nat)))), .sl 0 (.h base []), .rt base .ro (trG a.length (mkF a k))]) (Weak.sim ⟨rfl, (by simp only [slotL, reduceIte, Nat.reduceEqDiff]; show X.v (iv k) = _; simp [cumN]), rfl, Rf rfl, trivial⟩ rfl rfl) ?_
 refine AW.loop (fun i : KInv a.length => [.sl 5 (.v (iv i.k)), .sl 1 (.v (iv (k + (cumN Mk.cnt En.dflt a i.k : Nat)))), .sl 0 (.h base []), .rt base .ro (trG a.length (mkF a k))]) (fun i => a.length - i.k) ⟨0, Nat.zero_le _⟩ ?_
 intro i
 have hle := i.le
 refine AW.seq (AW.seq (AW.region ?_))
 refine qq Qt.move ?_
 refine nm ?_
 refine qq Qt.move ?_
 refine qq (Qt.lenH rfl rfl rfl sl35) ?_
 refine qq (Qt.binOp rfl rfl rfl) ?_
 refine nl ?_
 refine AW.cond rfl (fun c1 => ?_) (fun c1 => ?_)
 ·have k1 := c1
  try simp only [cnd] at c1
  have hc1 := cumN_mono (c := Mk.cnt) (d := En.dflt) (l := a) (show i.k + 1 ≤ a.length by omega)
  simp only [cumN, cnt_int] at hc1
  simp only [cnt_list] at hk2
  refine jd (AW.seq (AW.block (AW.seq (AW.seq (AW.region ?_)))))
  refine qq Qt.move ?_
  refine nm ?_
  refine qq Qt.move ?_
  refine qq (Qt.indexAddr rfl rfl rfl rfl sl35 sz3 (by decide) (by omega)) ?_
  refine qq (Qt.load1 rfl rfl rfl ag3) ?_
  refine nm ?_
  refine qq Qt.move ?_
  refine qq (Qt.binOp rfl rfl rfl) ?_
  refine nl ?_
  refine AW.cond rfl (fun c2 => ?_) (fun c2 => ?_)
  ·have k2 := c2
   try simp only [cnd] at c2
   refine AW.seq (AW.region ?_)
   refine qq Qt.assign ?_
   refine nl ?_
   refine AW.ret (endQ_ret (.cons (.tmp 4) .nil) ?_)
   first | (simp only [retX, slotL, reduceIte, Nat.reduceEqDiff]; rw [cnt_list, show cumN Mk.cnt En.dflt a i.k = cumN Mk.cnt En.dflt a a.length by rw [show i.k = a.length by omega]]; done) | (exfalso; first | (exact absurd rfl c2; done) | (simp [mkF, Mk.mark] at *; done) | (simp_all [mkF, Mk.mark]; done) | omega)
  have k2 := c2
  try simp only [cnd] at c2
  refine jd (AW.region ?_)
  refine qq Qt.move ?_
  refine nm ?_
  refine qq (Qt.binOp rfl rfl (by first | exact pbAdd (by omega) | rfl)) ?_
  refine qq Qt.assign ?_
  refine nl ?_
  refine AW.region ?_
  refine qq Qt.move ?_
  refine nm ?_
  refine qq (Qt.binOp rfl rfl (by first | exact pbAdd (by omega) | rfl)) ?_
  refine qq Qt.assign ?_
  refine nl ?_
  refine ⟨⟨i.k + 1, by omega⟩, Weak.sim ⟨st1, (by simp only [slotL, reduceIte, Nat.reduceEqDiff]; congr 2; simp only [cumN, cnt_int]; omega), rfl, Rf rfl, trivial⟩ rfl rfl, ?_⟩
  show a.length - (i.k + 1) < a.length - i.k
  omega
 have k1 := c1
 try simp only [cnd] at c1
 refine AW.exit ?_
 dsimp only [thenQ, blockQ, reduceIte]
 refine AW.seq (AW.region ?_)
 refine qq Qt.move ?_
 refine nm ?_
 refine qq Qt.assign ?_
 refine nl ?_
 refine AW.ret (endQ_ret (.cons (.tmp 4) .nil) ?_)
 first | (simp only [retX, slotL, reduceIte, Nat.reduceEqDiff]; rw [cnt_list, show cumN Mk.cnt En.dflt a i.k = cumN Mk.cnt En.dflt a a.length by rw [show i.k = a.length by omega]]; done) | (exfalso; first | (exact absurd rfl c1; done) | (simp [mkF, Mk.mark] at *; done) | (simp_all [mkF, Mk.mark]; done) | omega)
set_option maxHeartbeats 8000000 in
set_option maxRecDepth 10000 in
theorem heldProcS_con (a : List DProc) (k : Int) (hk : 0 ≤ k) (hk2 : k + (Mk.cnt a : Nat) ≤ 4611686018427387904) : Con Try.prog 61 [.h base [], .v (iv k)] [.rt base .ro (tr (mkL a (k)))] (fun y _ => y = .v (iv (k + (Mk.cnt a : Nat)))) := by
 refine Con.of_body Try.func61 rfl (by simp) ?_
 rw [Try.ntmps61]
 refine AW.weak (L' := [.sl 0 (.h base []), .sl 1 (.v (iv k)), .rt base .ro (trG a.length (mkF a k))]) (Weak.sim ⟨rfl, rfl, ⟨_, rfl, mkL_trG a k⟩, trivial⟩ rfl rfl) ?_
 refine AW.len base [] rfl (by simp [Okp]) rfl (fun hl => ?_)
 refine AW.seq (AW.region ?_)
 refine qq Qt.assign ?_
 refine nl ?_
 refine AW.seq (AW.seq (AW.region ?_))
 refine qq Qt.assign ?_
 refine nl ?_
 refine AW.block ?_
 refine AW.weak (L' := [.sl 5 (.v (iv (0 : Nat))), .sl 1 (.v (iv (k + (cumN Mk.cnt En.dflt a 0 : Nat)))), .sl 0 (.h base []), .rt base .ro (trG a.length (mkF a k))]) (Weak.sim ⟨rfl, (by simp only [slotL, reduceIte, Nat.reduceEqDiff]; show X.v (iv k) = _; simp [cumN]), rfl, Rf rfl, trivial⟩ rfl rfl) ?_
 refine AW.loop (fun i : KInv a.length => [.sl 5 (.v (iv i.k)), .sl 1 (.v (iv (k + (cumN Mk.cnt En.dflt a i.k : Nat)))), .sl 0 (.h base []), .rt base .ro (trG a.length (mkF a k))]) (fun i => a.length - i.k) ⟨0, Nat.zero_le _⟩ ?_
 intro i
 have hle := i.le
 refine AW.seq (AW.seq (AW.region ?_))
 refine qq Qt.move ?_
 refine nm ?_
 refine qq Qt.move ?_
 refine qq (Qt.lenH rfl rfl rfl sl40) ?_
 refine qq (Qt.binOp rfl rfl rfl) ?_
 refine nl ?_
 refine AW.cond rfl (fun c1 => ?_) (fun c1 => ?_)
 ·have k1 := c1
  try simp only [cnd] at c1
  have hc1 := cumN_mono (c := Mk.cnt) (d := En.dflt) (l := a) (show i.k + 1 ≤ a.length by omega)
  simp only [cumN, cnt_Proc] at hc1
  simp only [cnt_list] at hk2
  refine jd (AW.seq (AW.block (AW.seq (AW.seq (AW.region ?_)))))
  refine qq Qt.move ?_
  refine nm ?_
  refine qq Qt.move ?_
  refine qq (Qt.indexAddr rfl rfl rfl rfl sl40 sz78 (by decide) (by omega)) ?_
  refine qq (fA fl78_0) ?_
  refine nm ?_
  refine qq (Qt.load1 rfl rfl rfl ag3) ?_
  refine qq Qt.move ?_
  refine qq (Qt.binOp rfl rfl rfl) ?_
  refine nl ?_
  refine AW.cond rfl (fun c2 => ?_) (fun c2 => ?_)
  ·have k2 := c2
   try simp only [cnd] at c2
   refine AW.seq (AW.region ?_)
   refine qq Qt.assign ?_
   refine nl ?_
   refine AW.ret (endQ_ret (.cons (.tmp 4) .nil) ?_)
   first | (simp only [retX, slotL, reduceIte, Nat.reduceEqDiff]; rw [cnt_list, show cumN Mk.cnt En.dflt a i.k = cumN Mk.cnt En.dflt a a.length by rw [show i.k = a.length by omega]]; done) | (exfalso; first | (exact absurd rfl c2; done) | (simp [mkF, Mk.mark] at *; done) | (simp_all [mkF, Mk.mark]; done) | omega)
  have k2 := c2
  try simp only [cnd] at c2
  refine jd (AW.seq (AW.region ?_))
  refine qq Qt.move ?_
  refine nm ?_
  refine qq (Qt.binOp rfl rfl (by first | exact pbAdd (by omega) | rfl)) ?_
  refine qq Qt.assign ?_
  refine nl ?_
  refine AW.seq (AW.seq (AW.region ?_))
  refine qq Qt.move ?_
  refine nm ?_
  refine qq Qt.move ?_
  refine qq (Qt.indexAddr rfl rfl rfl rfl sl40 sz78 (by decide) (by omega)) ?_
  refine qq (fA fl78_1) ?_
  refine nm ?_
  refine qq (Qt.load1 rfl rfl rfl ag3) ?_
  refine qq Qt.move ?_
  refine qq (Qt.binOp rfl rfl rfl) ?_
  refine nl ?_
  refine AW.cond rfl (fun c3 => ?_) (fun c3 => ?_)
  ·have k3 := c3
   try simp only [cnd] at c3
   refine AW.seq (AW.region ?_)
   refine qq Qt.assign ?_
   refine nl ?_
   refine AW.ret (endQ_ret (.cons (.tmp 4) .nil) ?_)
   first | (simp only [retX, slotL, reduceIte, Nat.reduceEqDiff]; rw [cnt_list, show cumN Mk.cnt En.dflt a i.k = cumN Mk.cnt En.dflt a a.length by rw [show i.k = a.length by omega]]; done) | (exfalso; first | (exact absurd rfl c3; done) | (simp [mkF, Mk.mark] at *; done) | (simp_all [mkF, Mk.mark]; done) | omega)
  have k3 := c3
  try simp only [cnd] at c3
  refine jd (AW.seq (AW.region ?_))
  refine qq Qt.move ?_
  refine nm ?_
  refine qq (Qt.binOp rfl rfl (by first | exact pbAdd (by omega) | rfl)) ?_
  refine qq Qt.assign ?_
  refine nl ?_
  refine AW.seq (AW.seq (AW.region ?_))
  refine qq Qt.move ?_
  refine nm ?_
  refine qq Qt.move ?_
  refine qq (Qt.indexAddr rfl rfl rfl rfl sl40 sz78 (by decide) (by omega)) ?_
  refine qq (fA fl78_2) ?_
  refine nm ?_
  refine qq (Qt.load1 rfl rfl rfl ag3) ?_
  refine qq Qt.move ?_
  refine qq (Qt.binOp rfl rfl rfl) ?_
  refine nl ?_
  refine AW.cond rfl (fun c4 => ?_) (fun c4 => ?_)
  ·have k4 := c4
   try simp only [cnd] at c4
   refine AW.seq (AW.region ?_)
   refine qq Qt.assign ?_
   refine nl ?_
   refine AW.ret (endQ_ret (.cons (.tmp 4) .nil) ?_)
   first | (simp only [retX, slotL, reduceIte, Nat.reduceEqDiff]; rw [cnt_list, show cumN Mk.cnt En.dflt a i.k = cumN Mk.cnt En.dflt a a.length by rw [show i.k = a.length by omega]]; done) | (exfalso; first | (exact absurd rfl c4; done) | (simp [mkF, Mk.mark] at *; done) | (simp_all [mkF, Mk.mark]; done) | omega)
  have k4 := c4
  try simp only [cnd] at c4
  refine jd (AW.seq (AW.region ?_))
  refine qq Qt.move ?_
  refine nm ?_
  refine qq (Qt.binOp rfl rfl (by first | exact pbAdd (by omega) | rfl)) ?_
  refine qq Qt.assign ?_
  refine nl ?_
  refine AW.seq (AW.seq (AW.region ?_))
  refine qq Qt.move ?_
  refine nm ?_
  refine qq Qt.move ?_
  refine qq (Qt.indexAddr rfl rfl rfl rfl sl40 sz78 (by decide) (by omega)) ?_
  refine qq (fA fl78_3) ?_
  refine nm ?_
  refine qq (Qt.load1 rfl rfl rfl ag3) ?_
  refine qq Qt.move ?_
  refine qq (Qt.binOp rfl rfl rfl) ?_
  refine nl ?_
  refine AW.cond rfl (fun c5 => ?_) (fun c5 => ?_)
  ·have k5 := c5
   try simp only [cnd] at c5
   refine AW.seq (AW.region ?_)
   refine qq Qt.assign ?_
   refine nl ?_
   refine AW.ret (endQ_ret (.cons (.tmp 4) .nil) ?_)
   first | (simp only [retX, slotL, reduceIte, Nat.reduceEqDiff]; rw [cnt_list, show cumN Mk.cnt En.dflt a i.k = cumN Mk.cnt En.dflt a a.length by rw [show i.k = a.length by omega]]; done) | (exfalso; first | (exact absurd rfl c5; done) | (simp [mkF, Mk.mark] at *; done) | (simp_all [mkF, Mk.mark]; done) | omega)
  have k5 := c5
  try simp only [cnd] at c5
  refine jd (AW.seq (AW.region ?_))
  refine qq Qt.move ?_
  refine nm ?_
  refine qq (Qt.binOp rfl rfl (by first | exact pbAdd (by omega) | rfl)) ?_
  refine qq Qt.assign ?_
  refine nl ?_
  refine AW.seq (AW.seq (AW.region ?_))
  refine qq Qt.move ?_
  refine nm ?_
  refine qq Qt.move ?_
  refine qq (Qt.indexAddr rfl rfl rfl rfl sl40 sz78 (by decide) (by omega)) ?_
  refine qq (fA fl78_4) ?_
  refine nm ?_
  refine qq (fA fl76_0) ?_
  refine qq (Qt.load1 rfl rfl rfl ag3) ?_
  refine qq Qt.move ?_
  refine nm ?_
  refine qq (Qt.binOp rfl rfl rfl) ?_
  refine nl ?_
  refine AW.cond rfl (fun c6 => ?_) (fun c6 => ?_)
  ·have k6 := c6
   try simp only [cnd] at c6
   refine AW.seq (AW.region ?_)
   refine qq Qt.assign ?_
   refine nl ?_
   refine AW.ret (endQ_ret (.cons (.tmp 4) .nil) ?_)
   first | (simp only [retX, slotL, reduceIte, Nat.reduceEqDiff]; rw [cnt_list, show cumN Mk.cnt En.dflt a i.k = cumN Mk.cnt En.dflt a a.length by rw [show i.k = a.length by omega]]; done) | (exfalso; first | (exact absurd rfl c6; done) | (simp [mkF, Mk.mark] at *; done) | (simp_all [mkF, Mk.mark]; done) | omega)
  have k6 := c6
  try simp only [cnd] at c6
  refine jd (AW.seq (AW.region ?_))
  refine qq Qt.move ?_
  refine nm ?_
  refine qq (Qt.binOp rfl rfl (by first | exact pbAdd (by omega) | rfl)) ?_
  refine qq Qt.assign ?_
  refine nl ?_
  refine AW.seq (AW.region ?_)
  refine qq Qt.move ?_
  refine nm ?_
  refine qq Qt.move ?_
  refine qq (Qt.indexAddr rfl rfl rfl rfl sl40 sz78 (by decide) (by omega)) ?_
  refine qq (fA fl78_4) ?_
  refine nm ?_
  refine qq (fA fl76_1) ?_
  refine qq (Qt.load1 rfl rfl rfl ag35) ?_
  refine qq Qt.move ?_
  refine nm ?_
  refine cv Try.call65 rfl rfl (heldIntS_con _ _ (by omega) (by omega)) ?_
  refine nm ?_
  refine qq Qt.assign ?_
  refine nl ?_
  refine AW.seq (AW.seq (AW.region ?_))
  refine qq Qt.move ?_
  refine qq (Qt.binOp rfl rfl rfl) ?_
  refine nl ?_
  refine AW.cond rfl (fun c7 => ?_) (fun c7 => ?_)
  ·have k7 := c7
   try simp only [cnd] at c7
   refine AW.seq (AW.region ?_)
   refine qq Qt.assign ?_
   refine nl ?_
   refine AW.ret (endQ_ret (.cons (.tmp 4) .nil) ?_)
   first | (simp only [retX, slotL, reduceIte, Nat.reduceEqDiff]; rw [cnt_list, show cumN Mk.cnt En.dflt a i.k = cumN Mk.cnt En.dflt a a.length by rw [show i.k = a.length by omega]]; done) | (exfalso; first | (exact absurd rfl c7; done) | (simp [mkF, Mk.mark] at *; done) | (simp_all [mkF, Mk.mark]; done) | omega)
  have k7 := c7
  try simp only [cnd] at c7
  refine jd (AW.seq (AW.region ?_))
  refine qq Qt.move ?_
  refine nm ?_
  refine qq Qt.move ?_
  refine qq (Qt.indexAddr rfl rfl rfl rfl sl40 sz78 (by decide) (by omega)) ?_
  refine qq (fA fl78_5) ?_
  refine nm ?_
  refine qq (Qt.load1 rfl rfl rfl ag35) ?_
  refine qq Qt.move ?_
  refine cv Try.call65 rfl rfl (heldIntS_con _ _ (by omega) (by omega)) ?_
  refine nm ?_
  refine qq Qt.assign ?_
  refine nl ?_
  refine AW.seq (AW.seq (AW.region ?_))
  refine qq Qt.move ?_
  refine qq (Qt.binOp rfl rfl rfl) ?_
  refine nl ?_
  refine AW.cond rfl (fun c8 => ?_) (fun c8 => ?_)
  ·have k8 := c8
   try simp only [cnd] at c8
   refine AW.seq (AW.region ?_)
   refine qq Qt.assign ?_
   refine nl ?_
   refine AW.ret (endQ_ret (.cons (.tmp 4) .nil) ?_)
   first | (simp only [retX, slotL, reduceIte, Nat.reduceEqDiff]; rw [cnt_list, show cumN Mk.cnt En.dflt a i.k = cumN Mk.cnt En.dflt a a.length by rw [show i.k = a.length by omega]]; done) | (exfalso; first | (exact absurd rfl c8; done) | (simp [mkF, Mk.mark] at *; done) | (simp_all [mkF, Mk.mark]; done) | omega)
  have k8 := c8
  try simp only [cnd] at c8
  refine jd (AW.seq (AW.region ?_))
  refine qq Qt.move ?_
  refine nm ?_
  refine qq Qt.move ?_
  refine qq (Qt.indexAddr rfl rfl rfl rfl sl40 sz78 (by decide) (by omega)) ?_
  refine qq (fA fl78_6) ?_
  refine nm ?_
  refine qq (Qt.load1 rfl rfl rfl ag35) ?_
  refine qq Qt.move ?_
  refine cv Try.call65 rfl rfl (heldIntS_con _ _ (by omega) (by omega)) ?_
  refine nm ?_
  refine qq Qt.assign ?_
  refine nl ?_
  refine AW.seq (AW.seq (AW.region ?_))
  refine qq Qt.move ?_
  refine qq (Qt.binOp rfl rfl rfl) ?_
  refine nl ?_
  refine AW.cond rfl (fun c9 => ?_) (fun c9 => ?_)
  ·have k9 := c9
   try simp only [cnd] at c9
   refine AW.seq (AW.region ?_)
   refine qq Qt.assign ?_
   refine nl ?_
   refine AW.ret (endQ_ret (.cons (.tmp 4) .nil) ?_)
   first | (simp only [retX, slotL, reduceIte, Nat.reduceEqDiff]; rw [cnt_list, show cumN Mk.cnt En.dflt a i.k = cumN Mk.cnt En.dflt a a.length by rw [show i.k = a.length by omega]]; done) | (exfalso; first | (exact absurd rfl c9; done) | (simp [mkF, Mk.mark] at *; done) | (simp_all [mkF, Mk.mark]; done) | omega)
  have k9 := c9
  try simp only [cnd] at c9
  refine jd (AW.seq (AW.seq (AW.region ?_)))
  refine qq Qt.move ?_
  refine nm ?_
  refine qq Qt.move ?_
  refine qq (Qt.indexAddr rfl rfl rfl rfl sl40 sz78 (by decide) (by omega)) ?_
  refine qq (fA fl78_7) ?_
  refine nm ?_
  refine qq (Qt.load1 rfl rfl rfl ag3) ?_
  refine qq Qt.move ?_
  refine qq (Qt.binOp rfl rfl rfl) ?_
  refine nl ?_
  refine AW.cond rfl (fun c10 => ?_) (fun c10 => ?_)
  ·have k10 := c10
   try simp only [cnd] at c10
   refine AW.seq (AW.region ?_)
   refine qq Qt.assign ?_
   refine nl ?_
   refine AW.ret (endQ_ret (.cons (.tmp 4) .nil) ?_)
   first | (simp only [retX, slotL, reduceIte, Nat.reduceEqDiff]; rw [cnt_list, show cumN Mk.cnt En.dflt a i.k = cumN Mk.cnt En.dflt a a.length by rw [show i.k = a.length by omega]]; done) | (exfalso; first | (exact absurd rfl c10; done) | (simp [mkF, Mk.mark] at *; done) | (simp_all [mkF, Mk.mark]; done) | omega)
  have k10 := c10
  try simp only [cnd] at c10
  refine jd (AW.seq (AW.region ?_))
  refine qq Qt.move ?_
  refine nm ?_
  refine qq (Qt.binOp rfl rfl (by first | exact pbAdd (by omega) | rfl)) ?_
  refine qq Qt.assign ?_
  refine nl ?_
  refine AW.seq (AW.seq (AW.region ?_))
  refine qq Qt.move ?_
  refine nm ?_
  refine qq Qt.move ?_
  refine qq (Qt.indexAddr rfl rfl rfl rfl sl40 sz78 (by decide) (by omega)) ?_
  refine qq (fA fl78_8) ?_
  refine nm ?_
  refine qq (Qt.load1 rfl rfl rfl ag3) ?_
  refine qq Qt.move ?_
  refine qq (Qt.binOp rfl rfl rfl) ?_
  refine nl ?_
  refine AW.cond rfl (fun c11 => ?_) (fun c11 => ?_)
  ·have k11 := c11
   try simp only [cnd] at c11
   refine AW.seq (AW.region ?_)
   refine qq Qt.assign ?_
   refine nl ?_
   refine AW.ret (endQ_ret (.cons (.tmp 4) .nil) ?_)
   first | (simp only [retX, slotL, reduceIte, Nat.reduceEqDiff]; rw [cnt_list, show cumN Mk.cnt En.dflt a i.k = cumN Mk.cnt En.dflt a a.length by rw [show i.k = a.length by omega]]; done) | (exfalso; first | (exact absurd rfl c11; done) | (simp [mkF, Mk.mark] at *; done) | (simp_all [mkF, Mk.mark]; done) | omega)
  have k11 := c11
  try simp only [cnd] at c11
  refine jd (AW.region ?_)
  refine qq Qt.move ?_
  refine nm ?_
  refine qq (Qt.binOp rfl rfl (by first | exact pbAdd (by omega) | rfl)) ?_
  refine qq Qt.assign ?_
  refine nl ?_
  refine AW.region ?_
  refine qq Qt.move ?_
  refine nm ?_
  refine qq (Qt.binOp rfl rfl (by first | exact pbAdd (by omega) | rfl)) ?_
  refine qq Qt.assign ?_
  refine nl ?_
  refine ⟨⟨i.k + 1, by omega⟩, Weak.sim ⟨st1, (by simp only [slotL, reduceIte, Nat.reduceEqDiff]; congr 2; simp only [cumN, cnt_Proc]; omega), rfl, Rf rfl, trivial⟩ rfl rfl, ?_⟩
  show a.length - (i.k + 1) < a.length - i.k
  omega
 have k1 := c1
 try simp only [cnd] at c1
 refine AW.exit ?_
 dsimp only [thenQ, blockQ, reduceIte]
 refine AW.seq (AW.region ?_)
 refine qq Qt.move ?_
 refine nm ?_
 refine qq Qt.assign ?_
 refine nl ?_
 refine AW.ret (endQ_ret (.cons (.tmp 4) .nil) ?_)
 first | (simp only [retX, slotL, reduceIte, Nat.reduceEqDiff]; rw [cnt_list, show cumN Mk.cnt En.dflt a i.k = cumN Mk.cnt En.dflt a a.length by rw [show i.k = a.length by omega]]; done) | (exfalso; first | (exact absurd rfl c1; done) | (simp [mkF, Mk.mark] at *; done) | (simp_all [mkF, Mk.mark]; done) | omega)
set_option maxHeartbeats 8000000 in
set_option maxRecDepth 10000 in
theorem heldOpenS_con (a : List DOpen) (k : Int) (hk : 0 ≤ k) (hk2 : k + (Mk.cnt a : Nat) ≤ 4611686018427387904) : Con Try.prog 62 [.h base [], .v (iv k)] [.rt base .ro (tr (mkL a (k)))] (fun y _ => y = .v (iv (k + (Mk.cnt a : Nat)))) := by
 refine Con.of_body Try.func62 rfl (by simp) ?_
 rw [Try.ntmps62]
 refine AW.weak (L' := [.sl 0 (.h base []), .sl 1 (.v (iv k)), .rt base .ro (trG a.length (mkF a k))]) (Weak.sim ⟨rfl, rfl, ⟨_, rfl, mkL_trG a k⟩, trivial⟩ rfl rfl) ?_
 refine AW.len base [] rfl (by simp [Okp]) rfl (fun hl => ?_)
 refine AW.seq (AW.region ?_)
 refine qq Qt.assign ?_
 refine nl ?_
 refine AW.seq (AW.seq (AW.region ?_))
 refine qq Qt.assign ?_
 refine nl ?_
 refine AW.block ?_
 refine AW.weak (L' := [.sl 5 (.v (iv (0 : Nat))), .sl 1 (.v (iv (k + (cumN Mk.cnt En.dflt a 0 : Nat)))), .sl 0 (.h base []), .rt base .ro (trG a.length (mkF a k))]) (Weak.sim ⟨rfl, (by simp only [slotL, reduceIte, Nat.reduceEqDiff]; show X.v (iv k) = _; simp [cumN]), rfl, Rf rfl, trivial⟩ rfl rfl) ?_
 refine AW.loop (fun i : KInv a.length => [.sl 5 (.v (iv i.k)), .sl 1 (.v (iv (k + (cumN Mk.cnt En.dflt a i.k : Nat)))), .sl 0 (.h base []), .rt base .ro (trG a.length (mkF a k))]) (fun i => a.length - i.k) ⟨0, Nat.zero_le _⟩ ?_
 intro i
 have hle := i.le
 refine AW.seq (AW.seq (AW.region ?_))
 refine qq Qt.move ?_
 refine nm ?_
 refine qq Qt.move ?_
 refine qq (Qt.lenH rfl rfl rfl sl41) ?_
 refine qq (Qt.binOp rfl rfl rfl) ?_
 refine nl ?_
 refine AW.cond rfl (fun c1 => ?_) (fun c1 => ?_)
 ·have k1 := c1
  try simp only [cnd] at c1
  have hc1 := cumN_mono (c := Mk.cnt) (d := En.dflt) (l := a) (show i.k + 1 ≤ a.length by omega)
  simp only [cumN, cnt_Open] at hc1
  simp only [cnt_list] at hk2
  refine jd (AW.seq (AW.block (AW.seq (AW.seq (AW.region ?_)))))
  refine qq Qt.move ?_
  refine nm ?_
  refine qq Qt.move ?_
  refine qq (Qt.indexAddr rfl rfl rfl rfl sl41 sz72 (by decide) (by omega)) ?_
  refine qq (fA fl72_0) ?_
  refine nm ?_
  refine qq (Qt.load1 rfl rfl rfl ag3) ?_
  refine qq Qt.move ?_
  refine qq (Qt.binOp rfl rfl rfl) ?_
  refine nl ?_
  refine AW.cond rfl (fun c2 => ?_) (fun c2 => ?_)
  ·have k2 := c2
   try simp only [cnd] at c2
   refine AW.seq (AW.region ?_)
   refine qq Qt.assign ?_
   refine nl ?_
   refine AW.ret (endQ_ret (.cons (.tmp 4) .nil) ?_)
   first | (simp only [retX, slotL, reduceIte, Nat.reduceEqDiff]; rw [cnt_list, show cumN Mk.cnt En.dflt a i.k = cumN Mk.cnt En.dflt a a.length by rw [show i.k = a.length by omega]]; done) | (exfalso; first | (exact absurd rfl c2; done) | (simp [mkF, Mk.mark] at *; done) | (simp_all [mkF, Mk.mark]; done) | omega)
  have k2 := c2
  try simp only [cnd] at c2
  refine jd (AW.seq (AW.region ?_))
  refine qq Qt.move ?_
  refine nm ?_
  refine qq (Qt.binOp rfl rfl (by first | exact pbAdd (by omega) | rfl)) ?_
  refine qq Qt.assign ?_
  refine nl ?_
  refine AW.seq (AW.seq (AW.region ?_))
  refine qq Qt.move ?_
  refine nm ?_
  refine qq Qt.move ?_
  refine qq (Qt.indexAddr rfl rfl rfl rfl sl41 sz72 (by decide) (by omega)) ?_
  refine qq (fA fl72_1) ?_
  refine nm ?_
  refine qq (Qt.load1 rfl rfl rfl ag3) ?_
  refine qq Qt.move ?_
  refine qq (Qt.binOp rfl rfl rfl) ?_
  refine nl ?_
  refine AW.cond rfl (fun c3 => ?_) (fun c3 => ?_)
  ·have k3 := c3
   try simp only [cnd] at c3
   refine AW.seq (AW.region ?_)
   refine qq Qt.assign ?_
   refine nl ?_
   refine AW.ret (endQ_ret (.cons (.tmp 4) .nil) ?_)
   first | (simp only [retX, slotL, reduceIte, Nat.reduceEqDiff]; rw [cnt_list, show cumN Mk.cnt En.dflt a i.k = cumN Mk.cnt En.dflt a a.length by rw [show i.k = a.length by omega]]; done) | (exfalso; first | (exact absurd rfl c3; done) | (simp [mkF, Mk.mark] at *; done) | (simp_all [mkF, Mk.mark]; done) | omega)
  have k3 := c3
  try simp only [cnd] at c3
  refine jd (AW.seq (AW.region ?_))
  refine qq Qt.move ?_
  refine nm ?_
  refine qq (Qt.binOp rfl rfl (by first | exact pbAdd (by omega) | rfl)) ?_
  refine qq Qt.assign ?_
  refine nl ?_
  refine AW.seq (AW.seq (AW.region ?_))
  refine qq Qt.move ?_
  refine nm ?_
  refine qq Qt.move ?_
  refine qq (Qt.indexAddr rfl rfl rfl rfl sl41 sz72 (by decide) (by omega)) ?_
  refine qq (fA fl72_2) ?_
  refine nm ?_
  refine qq (Qt.load1 rfl rfl rfl ag3) ?_
  refine qq Qt.move ?_
  refine qq (Qt.binOp rfl rfl rfl) ?_
  refine nl ?_
  refine AW.cond rfl (fun c4 => ?_) (fun c4 => ?_)
  ·have k4 := c4
   try simp only [cnd] at c4
   refine AW.seq (AW.region ?_)
   refine qq Qt.assign ?_
   refine nl ?_
   refine AW.ret (endQ_ret (.cons (.tmp 4) .nil) ?_)
   first | (simp only [retX, slotL, reduceIte, Nat.reduceEqDiff]; rw [cnt_list, show cumN Mk.cnt En.dflt a i.k = cumN Mk.cnt En.dflt a a.length by rw [show i.k = a.length by omega]]; done) | (exfalso; first | (exact absurd rfl c4; done) | (simp [mkF, Mk.mark] at *; done) | (simp_all [mkF, Mk.mark]; done) | omega)
  have k4 := c4
  try simp only [cnd] at c4
  refine jd (AW.seq (AW.region ?_))
  refine qq Qt.move ?_
  refine nm ?_
  refine qq (Qt.binOp rfl rfl (by first | exact pbAdd (by omega) | rfl)) ?_
  refine qq Qt.assign ?_
  refine nl ?_
  refine AW.seq (AW.seq (AW.region ?_))
  refine qq Qt.move ?_
  refine nm ?_
  refine qq Qt.move ?_
  refine qq (Qt.indexAddr rfl rfl rfl rfl sl41 sz72 (by decide) (by omega)) ?_
  refine qq (fA fl72_3) ?_
  refine nm ?_
  refine qq (Qt.load1 rfl rfl rfl ag3) ?_
  refine qq Qt.move ?_
  refine qq (Qt.binOp rfl rfl rfl) ?_
  refine nl ?_
  refine AW.cond rfl (fun c5 => ?_) (fun c5 => ?_)
  ·have k5 := c5
   try simp only [cnd] at c5
   refine AW.seq (AW.region ?_)
   refine qq Qt.assign ?_
   refine nl ?_
   refine AW.ret (endQ_ret (.cons (.tmp 4) .nil) ?_)
   first | (simp only [retX, slotL, reduceIte, Nat.reduceEqDiff]; rw [cnt_list, show cumN Mk.cnt En.dflt a i.k = cumN Mk.cnt En.dflt a a.length by rw [show i.k = a.length by omega]]; done) | (exfalso; first | (exact absurd rfl c5; done) | (simp [mkF, Mk.mark] at *; done) | (simp_all [mkF, Mk.mark]; done) | omega)
  have k5 := c5
  try simp only [cnd] at c5
  refine jd (AW.seq (AW.region ?_))
  refine qq Qt.move ?_
  refine nm ?_
  refine qq (Qt.binOp rfl rfl (by first | exact pbAdd (by omega) | rfl)) ?_
  refine qq Qt.assign ?_
  refine nl ?_
  refine AW.seq (AW.seq (AW.region ?_))
  refine qq Qt.move ?_
  refine nm ?_
  refine qq Qt.move ?_
  refine qq (Qt.indexAddr rfl rfl rfl rfl sl41 sz72 (by decide) (by omega)) ?_
  refine qq (fA fl72_4) ?_
  refine nm ?_
  refine qq (Qt.load1 rfl rfl rfl ag3) ?_
  refine qq Qt.move ?_
  refine qq (Qt.binOp rfl rfl rfl) ?_
  refine nl ?_
  refine AW.cond rfl (fun c6 => ?_) (fun c6 => ?_)
  ·have k6 := c6
   try simp only [cnd] at c6
   refine AW.seq (AW.region ?_)
   refine qq Qt.assign ?_
   refine nl ?_
   refine AW.ret (endQ_ret (.cons (.tmp 4) .nil) ?_)
   first | (simp only [retX, slotL, reduceIte, Nat.reduceEqDiff]; rw [cnt_list, show cumN Mk.cnt En.dflt a i.k = cumN Mk.cnt En.dflt a a.length by rw [show i.k = a.length by omega]]; done) | (exfalso; first | (exact absurd rfl c6; done) | (simp [mkF, Mk.mark] at *; done) | (simp_all [mkF, Mk.mark]; done) | omega)
  have k6 := c6
  try simp only [cnd] at c6
  refine jd (AW.region ?_)
  refine qq Qt.move ?_
  refine nm ?_
  refine qq (Qt.binOp rfl rfl (by first | exact pbAdd (by omega) | rfl)) ?_
  refine qq Qt.assign ?_
  refine nl ?_
  refine AW.region ?_
  refine qq Qt.move ?_
  refine nm ?_
  refine qq (Qt.binOp rfl rfl (by first | exact pbAdd (by omega) | rfl)) ?_
  refine qq Qt.assign ?_
  refine nl ?_
  refine ⟨⟨i.k + 1, by omega⟩, Weak.sim ⟨st1, (by simp only [slotL, reduceIte, Nat.reduceEqDiff]; congr 2; simp only [cumN, cnt_Open]; omega), rfl, Rf rfl, trivial⟩ rfl rfl, ?_⟩
  show a.length - (i.k + 1) < a.length - i.k
  omega
 have k1 := c1
 try simp only [cnd] at c1
 refine AW.exit ?_
 dsimp only [thenQ, blockQ, reduceIte]
 refine AW.seq (AW.region ?_)
 refine qq Qt.move ?_
 refine nm ?_
 refine qq Qt.assign ?_
 refine nl ?_
 refine AW.ret (endQ_ret (.cons (.tmp 4) .nil) ?_)
 first | (simp only [retX, slotL, reduceIte, Nat.reduceEqDiff]; rw [cnt_list, show cumN Mk.cnt En.dflt a i.k = cumN Mk.cnt En.dflt a a.length by rw [show i.k = a.length by omega]]; done) | (exfalso; first | (exact absurd rfl c1; done) | (simp [mkF, Mk.mark] at *; done) | (simp_all [mkF, Mk.mark]; done) | omega)
set_option maxHeartbeats 8000000 in
set_option maxRecDepth 10000 in
theorem heldPipeS_con (a : List DPipe) (k : Int) (hk : 0 ≤ k) (hk2 : k + (Mk.cnt a : Nat) ≤ 4611686018427387904) : Con Try.prog 63 [.h base [], .v (iv k)] [.rt base .ro (tr (mkL a (k)))] (fun y _ => y = .v (iv (k + (Mk.cnt a : Nat)))) := by
 refine Con.of_body Try.func63 rfl (by simp) ?_
 rw [Try.ntmps63]
 refine AW.weak (L' := [.sl 0 (.h base []), .sl 1 (.v (iv k)), .rt base .ro (trG a.length (mkF a k))]) (Weak.sim ⟨rfl, rfl, ⟨_, rfl, mkL_trG a k⟩, trivial⟩ rfl rfl) ?_
 refine AW.len base [] rfl (by simp [Okp]) rfl (fun hl => ?_)
 refine AW.seq (AW.region ?_)
 refine qq Qt.assign ?_
 refine nl ?_
 refine AW.seq (AW.seq (AW.region ?_))
 refine qq Qt.assign ?_
 refine nl ?_
 refine AW.block ?_
 refine AW.weak (L' := [.sl 5 (.v (iv (0 : Nat))), .sl 1 (.v (iv (k + (cumN Mk.cnt En.dflt a 0 : Nat)))), .sl 0 (.h base []), .rt base .ro (trG a.length (mkF a k))]) (Weak.sim ⟨rfl, (by simp only [slotL, reduceIte, Nat.reduceEqDiff]; show X.v (iv k) = _; simp [cumN]), rfl, Rf rfl, trivial⟩ rfl rfl) ?_
 refine AW.loop (fun i : KInv a.length => [.sl 5 (.v (iv i.k)), .sl 1 (.v (iv (k + (cumN Mk.cnt En.dflt a i.k : Nat)))), .sl 0 (.h base []), .rt base .ro (trG a.length (mkF a k))]) (fun i => a.length - i.k) ⟨0, Nat.zero_le _⟩ ?_
 intro i
 have hle := i.le
 refine AW.seq (AW.seq (AW.region ?_))
 refine qq Qt.move ?_
 refine nm ?_
 refine qq Qt.move ?_
 refine qq (Qt.lenH rfl rfl rfl sl42) ?_
 refine qq (Qt.binOp rfl rfl rfl) ?_
 refine nl ?_
 refine AW.cond rfl (fun c1 => ?_) (fun c1 => ?_)
 ·have k1 := c1
  try simp only [cnd] at c1
  have hc1 := cumN_mono (c := Mk.cnt) (d := En.dflt) (l := a) (show i.k + 1 ≤ a.length by omega)
  simp only [cumN, cnt_Pipe] at hc1
  simp only [cnt_list] at hk2
  refine jd (AW.seq (AW.block (AW.seq (AW.seq (AW.region ?_)))))
  refine qq Qt.move ?_
  refine nm ?_
  refine qq Qt.move ?_
  refine qq (Qt.indexAddr rfl rfl rfl rfl sl42 sz119 (by decide) (by omega)) ?_
  refine qq (fA fl119_0) ?_
  refine nm ?_
  refine qq (Qt.load1 rfl rfl rfl ag3) ?_
  refine qq Qt.move ?_
  refine qq (Qt.binOp rfl rfl rfl) ?_
  refine nl ?_
  refine AW.cond rfl (fun c2 => ?_) (fun c2 => ?_)
  ·have k2 := c2
   try simp only [cnd] at c2
   refine AW.seq (AW.region ?_)
   refine qq Qt.assign ?_
   refine nl ?_
   refine AW.ret (endQ_ret (.cons (.tmp 4) .nil) ?_)
   first | (simp only [retX, slotL, reduceIte, Nat.reduceEqDiff]; rw [cnt_list, show cumN Mk.cnt En.dflt a i.k = cumN Mk.cnt En.dflt a a.length by rw [show i.k = a.length by omega]]; done) | (exfalso; first | (exact absurd rfl c2; done) | (simp [mkF, Mk.mark] at *; done) | (simp_all [mkF, Mk.mark]; done) | omega)
  have k2 := c2
  try simp only [cnd] at c2
  refine jd (AW.seq (AW.region ?_))
  refine qq Qt.move ?_
  refine nm ?_
  refine qq (Qt.binOp rfl rfl (by first | exact pbAdd (by omega) | rfl)) ?_
  refine qq Qt.assign ?_
  refine nl ?_
  refine AW.seq (AW.region ?_)
  refine qq Qt.move ?_
  refine nm ?_
  refine qq Qt.move ?_
  refine qq (Qt.indexAddr rfl rfl rfl rfl sl42 sz119 (by decide) (by omega)) ?_
  refine qq (fA fl119_1) ?_
  refine nm ?_
  refine qq (Qt.load1 rfl rfl rfl ag35) ?_
  refine qq Qt.move ?_
  refine cv Try.call65 rfl rfl (heldIntS_con _ _ (by omega) (by omega)) ?_
  refine nm ?_
  refine qq Qt.assign ?_
  refine nl ?_
  refine AW.seq (AW.region ?_)
  refine qq Qt.move ?_
  refine qq (Qt.binOp rfl rfl rfl) ?_
  refine nl ?_
  refine AW.cond rfl (fun c3 => ?_) (fun c3 => ?_)
  ·have k3 := c3
   try simp only [cnd] at c3
   refine AW.seq (AW.region ?_)
   refine qq Qt.assign ?_
   refine nl ?_
   refine AW.ret (endQ_ret (.cons (.tmp 4) .nil) ?_)
   first | (simp only [retX, slotL, reduceIte, Nat.reduceEqDiff]; rw [cnt_list, show cumN Mk.cnt En.dflt a i.k = cumN Mk.cnt En.dflt a a.length by rw [show i.k = a.length by omega]]; done) | (exfalso; first | (exact absurd rfl c3; done) | (simp [mkF, Mk.mark] at *; done) | (simp_all [mkF, Mk.mark]; done) | omega)
  have k3 := c3
  try simp only [cnd] at c3
  refine jd (AW.region ?_)
  refine qq Qt.move ?_
  refine nm ?_
  refine qq (Qt.binOp rfl rfl (by first | exact pbAdd (by omega) | rfl)) ?_
  refine qq Qt.assign ?_
  refine nl ?_
  refine ⟨⟨i.k + 1, by omega⟩, Weak.sim ⟨st1, (by simp only [slotL, reduceIte, Nat.reduceEqDiff]; congr 2; simp only [cumN, cnt_Pipe]; omega), rfl, Rf rfl, trivial⟩ rfl rfl, ?_⟩
  show a.length - (i.k + 1) < a.length - i.k
  omega
 have k1 := c1
 try simp only [cnd] at c1
 refine AW.exit ?_
 dsimp only [thenQ, blockQ, reduceIte]
 refine AW.seq (AW.region ?_)
 refine qq Qt.move ?_
 refine nm ?_
 refine qq Qt.assign ?_
 refine nl ?_
 refine AW.ret (endQ_ret (.cons (.tmp 4) .nil) ?_)
 first | (simp only [retX, slotL, reduceIte, Nat.reduceEqDiff]; rw [cnt_list, show cumN Mk.cnt En.dflt a i.k = cumN Mk.cnt En.dflt a a.length by rw [show i.k = a.length by omega]]; done) | (exfalso; first | (exact absurd rfl c1; done) | (simp [mkF, Mk.mark] at *; done) | (simp_all [mkF, Mk.mark]; done) | omega)
set_option maxHeartbeats 8000000 in
set_option maxRecDepth 10000 in
theorem heldFileS_con (a : List DFile) (k : Int) (hk : 0 ≤ k) (hk2 : k + (Mk.cnt a : Nat) ≤ 4611686018427387904) : Con Try.prog 64 [.h base [], .v (iv k)] [.rt base .ro (tr (mkL a (k)))] (fun y _ => y = .v (iv (k + (Mk.cnt a : Nat)))) := by
 refine Con.of_body Try.func64 rfl (by simp) ?_
 rw [Try.ntmps64]
 refine AW.weak (L' := [.sl 0 (.h base []), .sl 1 (.v (iv k)), .rt base .ro (trG a.length (mkF a k))]) (Weak.sim ⟨rfl, rfl, ⟨_, rfl, mkL_trG a k⟩, trivial⟩ rfl rfl) ?_
 refine AW.len base [] rfl (by simp [Okp]) rfl (fun hl => ?_)
 refine AW.seq (AW.region ?_)
 refine qq Qt.assign ?_
 refine nl ?_
 refine AW.seq (AW.seq (AW.region ?_))
 refine qq Qt.assign ?_
 refine nl ?_
 refine AW.block ?_
 refine AW.weak (L' := [.sl 5 (.v (iv (0 : Nat))), .sl 1 (.v (iv (k + (cumN Mk.cnt En.dflt a 0 : Nat)))), .sl 0 (.h base []), .rt base .ro (trG a.length (mkF a k))]) (Weak.sim ⟨rfl, (by simp only [slotL, reduceIte, Nat.reduceEqDiff]; show X.v (iv k) = _; simp [cumN]), rfl, Rf rfl, trivial⟩ rfl rfl) ?_
 refine AW.loop (fun i : KInv a.length => [.sl 5 (.v (iv i.k)), .sl 1 (.v (iv (k + (cumN Mk.cnt En.dflt a i.k : Nat)))), .sl 0 (.h base []), .rt base .ro (trG a.length (mkF a k))]) (fun i => a.length - i.k) ⟨0, Nat.zero_le _⟩ ?_
 intro i
 have hle := i.le
 refine AW.seq (AW.seq (AW.region ?_))
 refine qq Qt.move ?_
 refine nm ?_
 refine qq Qt.move ?_
 refine qq (Qt.lenH rfl rfl rfl sl43) ?_
 refine qq (Qt.binOp rfl rfl rfl) ?_
 refine nl ?_
 refine AW.cond rfl (fun c1 => ?_) (fun c1 => ?_)
 ·have k1 := c1
  try simp only [cnd] at c1
  have hc1 := cumN_mono (c := Mk.cnt) (d := En.dflt) (l := a) (show i.k + 1 ≤ a.length by omega)
  simp only [cumN, cnt_File] at hc1
  simp only [cnt_list] at hk2
  refine jd (AW.seq (AW.block (AW.seq (AW.seq (AW.region ?_)))))
  refine qq Qt.move ?_
  refine nm ?_
  refine qq Qt.move ?_
  refine qq (Qt.indexAddr rfl rfl rfl rfl sl43 sz122 (by decide) (by omega)) ?_
  refine qq (fA fl122_0) ?_
  refine nm ?_
  refine qq (Qt.load1 rfl rfl rfl ag3) ?_
  refine qq Qt.move ?_
  refine qq (Qt.binOp rfl rfl rfl) ?_
  refine nl ?_
  refine AW.cond rfl (fun c2 => ?_) (fun c2 => ?_)
  ·have k2 := c2
   try simp only [cnd] at c2
   refine AW.seq (AW.region ?_)
   refine qq Qt.assign ?_
   refine nl ?_
   refine AW.ret (endQ_ret (.cons (.tmp 4) .nil) ?_)
   first | (simp only [retX, slotL, reduceIte, Nat.reduceEqDiff]; rw [cnt_list, show cumN Mk.cnt En.dflt a i.k = cumN Mk.cnt En.dflt a a.length by rw [show i.k = a.length by omega]]; done) | (exfalso; first | (exact absurd rfl c2; done) | (simp [mkF, Mk.mark] at *; done) | (simp_all [mkF, Mk.mark]; done) | omega)
  have k2 := c2
  try simp only [cnd] at c2
  refine jd (AW.seq (AW.region ?_))
  refine qq Qt.move ?_
  refine nm ?_
  refine qq (Qt.binOp rfl rfl (by first | exact pbAdd (by omega) | rfl)) ?_
  refine qq Qt.assign ?_
  refine nl ?_
  refine AW.seq (AW.region ?_)
  refine qq Qt.move ?_
  refine nm ?_
  refine qq Qt.move ?_
  refine qq (Qt.indexAddr rfl rfl rfl rfl sl43 sz122 (by decide) (by omega)) ?_
  refine qq (fA fl122_1) ?_
  refine nm ?_
  refine qq (Qt.load1 rfl rfl rfl ag35) ?_
  refine qq Qt.move ?_
  refine cv Try.call65 rfl rfl (heldIntS_con _ _ (by omega) (by omega)) ?_
  refine nm ?_
  refine qq Qt.assign ?_
  refine nl ?_
  refine AW.seq (AW.region ?_)
  refine qq Qt.move ?_
  refine qq (Qt.binOp rfl rfl rfl) ?_
  refine nl ?_
  refine AW.cond rfl (fun c3 => ?_) (fun c3 => ?_)
  ·have k3 := c3
   try simp only [cnd] at c3
   refine AW.seq (AW.region ?_)
   refine qq Qt.assign ?_
   refine nl ?_
   refine AW.ret (endQ_ret (.cons (.tmp 4) .nil) ?_)
   first | (simp only [retX, slotL, reduceIte, Nat.reduceEqDiff]; rw [cnt_list, show cumN Mk.cnt En.dflt a i.k = cumN Mk.cnt En.dflt a a.length by rw [show i.k = a.length by omega]]; done) | (exfalso; first | (exact absurd rfl c3; done) | (simp [mkF, Mk.mark] at *; done) | (simp_all [mkF, Mk.mark]; done) | omega)
  have k3 := c3
  try simp only [cnd] at c3
  refine jd (AW.region ?_)
  refine qq Qt.move ?_
  refine nm ?_
  refine qq (Qt.binOp rfl rfl (by first | exact pbAdd (by omega) | rfl)) ?_
  refine qq Qt.assign ?_
  refine nl ?_
  refine ⟨⟨i.k + 1, by omega⟩, Weak.sim ⟨st1, (by simp only [slotL, reduceIte, Nat.reduceEqDiff]; congr 2; simp only [cumN, cnt_File]; omega), rfl, Rf rfl, trivial⟩ rfl rfl, ?_⟩
  show a.length - (i.k + 1) < a.length - i.k
  omega
 have k1 := c1
 try simp only [cnd] at c1
 refine AW.exit ?_
 dsimp only [thenQ, blockQ, reduceIte]
 refine AW.seq (AW.region ?_)
 refine qq Qt.move ?_
 refine nm ?_
 refine qq Qt.assign ?_
 refine nl ?_
 refine AW.ret (endQ_ret (.cons (.tmp 4) .nil) ?_)
 first | (simp only [retX, slotL, reduceIte, Nat.reduceEqDiff]; rw [cnt_list, show cumN Mk.cnt En.dflt a i.k = cumN Mk.cnt En.dflt a a.length by rw [show i.k = a.length by omega]]; done) | (exfalso; first | (exact absurd rfl c1; done) | (simp [mkF, Mk.mark] at *; done) | (simp_all [mkF, Mk.mark]; done) | omega)
set_option maxHeartbeats 8000000 in
set_option maxRecDepth 10000 in
theorem heldUnix_con (a : DUnix) (k : Int) (hk : 0 ≤ k) (hk2 : k + (Mk.cnt a.Progs : Nat) + (Mk.cnt a.Procs : Nat) + (Mk.cnt a.Opens : Nat) + (Mk.cnt a.Pipes : Nat) + (Mk.cnt a.Files : Nat) + (Mk.cnt a.Ready : Nat) + (Mk.cnt a.Out : Nat) ≤ 4611686018427387904) : Con Try.prog 22 [.g [.v (iv a.Next), .v (iv a.Tick), .h base [], .h (base + 1) [], .h (base + 2) [], .h (base + 3) [], .h (base + 4) [], .h (base + 5) [], .h (base + 6) []], .v (iv k)] [.rt base .ro (tr (mkL a.Progs (k))), .rt (base + 1) .ro (tr (mkL a.Procs (k + (Mk.cnt a.Progs : Nat)))), .rt (base + 2) .ro (tr (mkL a.Opens (k + (Mk.cnt a.Progs : Nat) + (Mk.cnt a.Procs : Nat)))), .rt (base + 3) .ro (tr (mkL a.Pipes (k + (Mk.cnt a.Progs : Nat) + (Mk.cnt a.Procs : Nat) + (Mk.cnt a.Opens : Nat)))), .rt (base + 4) .ro (tr (mkL a.Files (k + (Mk.cnt a.Progs : Nat) + (Mk.cnt a.Procs : Nat) + (Mk.cnt a.Opens : Nat) + (Mk.cnt a.Pipes : Nat)))), .rt (base + 5) .ro (tr (mkL a.Ready (k + (Mk.cnt a.Progs : Nat) + (Mk.cnt a.Procs : Nat) + (Mk.cnt a.Opens : Nat) + (Mk.cnt a.Pipes : Nat) + (Mk.cnt a.Files : Nat)))), .rt (base + 6) .ro (tr (mkL a.Out (k + (Mk.cnt a.Progs : Nat) + (Mk.cnt a.Procs : Nat) + (Mk.cnt a.Opens : Nat) + (Mk.cnt a.Pipes : Nat) + (Mk.cnt a.Files : Nat) + (Mk.cnt a.Ready : Nat))))] (fun y _ => y = .v (iv (k + (Mk.cnt a.Progs : Nat) + (Mk.cnt a.Procs : Nat) + (Mk.cnt a.Opens : Nat) + (Mk.cnt a.Pipes : Nat) + (Mk.cnt a.Files : Nat) + (Mk.cnt a.Ready : Nat) + (Mk.cnt a.Out : Nat)))) := by
 refine Con.of_body Try.func22 rfl (by simp) ?_
 rw [Try.ntmps22]
 refine AW.seq (AW.region ?_)
 refine sp (Stp.boxB rfl (by decide) (by decide) rfl rfl rfl rfl) ?_
 refine nm ?_
 refine qq Qt.assign ?_
 refine nl ?_
 refine AW.seq (AW.region ?_)
 refine qq (fA fl45_2) ?_
 refine qq (Qt.load1 rfl rfl rfl ag39) ?_
 refine nm ?_
 refine qq Qt.move ?_
 refine cv Try.call60 rfl rfl (heldInsSS_con _ _ (by omega) (by omega)) ?_
 refine nm ?_
 refine qq Qt.assign ?_
 refine nl ?_
 refine AW.seq (AW.seq (AW.region ?_))
 refine qq Qt.move ?_
 refine qq (Qt.binOp rfl rfl rfl) ?_
 refine nl ?_
 refine AW.cond rfl (fun c1 => ?_) (fun c1 => ?_)
 ·have k1 := c1
  try simp only [cnd] at c1
  refine AW.seq (AW.region ?_)
  refine qq Qt.assign ?_
  refine nl ?_
  refine AW.ret (endQ_ret (.cons (.tmp 4) .nil) ?_)
  first | rfl | (exfalso; simp_all; done) | (exfalso; omega)
 have k1 := c1
 try simp only [cnd] at c1
 refine jd (AW.seq (AW.region ?_))
 refine qq (fA fl45_3) ?_
 refine nm ?_
 refine qq (Qt.load1 rfl rfl rfl ag40) ?_
 refine qq Qt.move ?_
 refine cv Try.call61 rfl rfl (heldProcS_con _ _ (by omega) (by omega)) ?_
 refine nm ?_
 refine qq Qt.assign ?_
 refine nl ?_
 refine AW.seq (AW.seq (AW.region ?_))
 refine qq Qt.move ?_
 refine qq (Qt.binOp rfl rfl rfl) ?_
 refine nl ?_
 refine AW.cond rfl (fun c2 => ?_) (fun c2 => ?_)
 ·have k2 := c2
  try simp only [cnd] at c2
  refine AW.seq (AW.region ?_)
  refine qq Qt.assign ?_
  refine nl ?_
  refine AW.ret (endQ_ret (.cons (.tmp 4) .nil) ?_)
  first | rfl | (exfalso; simp_all; done) | (exfalso; omega)
 have k2 := c2
 try simp only [cnd] at c2
 refine jd (AW.seq (AW.region ?_))
 refine qq (fA fl45_4) ?_
 refine nm ?_
 refine qq (Qt.load1 rfl rfl rfl ag41) ?_
 refine qq Qt.move ?_
 refine cv Try.call62 rfl rfl (heldOpenS_con _ _ (by omega) (by omega)) ?_
 refine nm ?_
 refine qq Qt.assign ?_
 refine nl ?_
 refine AW.seq (AW.seq (AW.region ?_))
 refine qq Qt.move ?_
 refine qq (Qt.binOp rfl rfl rfl) ?_
 refine nl ?_
 refine AW.cond rfl (fun c3 => ?_) (fun c3 => ?_)
 ·have k3 := c3
  try simp only [cnd] at c3
  refine AW.seq (AW.region ?_)
  refine qq Qt.assign ?_
  refine nl ?_
  refine AW.ret (endQ_ret (.cons (.tmp 4) .nil) ?_)
  first | rfl | (exfalso; simp_all; done) | (exfalso; omega)
 have k3 := c3
 try simp only [cnd] at c3
 refine jd (AW.seq (AW.region ?_))
 refine qq (fA fl45_5) ?_
 refine nm ?_
 refine qq (Qt.load1 rfl rfl rfl ag42) ?_
 refine qq Qt.move ?_
 refine cv Try.call63 rfl rfl (heldPipeS_con _ _ (by omega) (by omega)) ?_
 refine nm ?_
 refine qq Qt.assign ?_
 refine nl ?_
 refine AW.seq (AW.seq (AW.region ?_))
 refine qq Qt.move ?_
 refine qq (Qt.binOp rfl rfl rfl) ?_
 refine nl ?_
 refine AW.cond rfl (fun c4 => ?_) (fun c4 => ?_)
 ·have k4 := c4
  try simp only [cnd] at c4
  refine AW.seq (AW.region ?_)
  refine qq Qt.assign ?_
  refine nl ?_
  refine AW.ret (endQ_ret (.cons (.tmp 4) .nil) ?_)
  first | rfl | (exfalso; simp_all; done) | (exfalso; omega)
 have k4 := c4
 try simp only [cnd] at c4
 refine jd (AW.seq (AW.region ?_))
 refine qq (fA fl45_6) ?_
 refine nm ?_
 refine qq (Qt.load1 rfl rfl rfl ag43) ?_
 refine qq Qt.move ?_
 refine cv Try.call64 rfl rfl (heldFileS_con _ _ (by omega) (by omega)) ?_
 refine nm ?_
 refine qq Qt.assign ?_
 refine nl ?_
 refine AW.seq (AW.seq (AW.region ?_))
 refine qq Qt.move ?_
 refine qq (Qt.binOp rfl rfl rfl) ?_
 refine nl ?_
 refine AW.cond rfl (fun c5 => ?_) (fun c5 => ?_)
 ·have k5 := c5
  try simp only [cnd] at c5
  refine AW.seq (AW.region ?_)
  refine qq Qt.assign ?_
  refine nl ?_
  refine AW.ret (endQ_ret (.cons (.tmp 4) .nil) ?_)
  first | rfl | (exfalso; simp_all; done) | (exfalso; omega)
 have k5 := c5
 try simp only [cnd] at c5
 refine jd (AW.seq (AW.region ?_))
 refine qq (fA fl45_7) ?_
 refine nm ?_
 refine qq (Qt.load1 rfl rfl rfl ag35) ?_
 refine qq Qt.move ?_
 refine cv Try.call65 rfl rfl (heldIntS_con _ _ (by omega) (by omega)) ?_
 refine nm ?_
 refine qq Qt.assign ?_
 refine nl ?_
 refine AW.seq (AW.seq (AW.region ?_))
 refine qq Qt.move ?_
 refine qq (Qt.binOp rfl rfl rfl) ?_
 refine nl ?_
 refine AW.cond rfl (fun c6 => ?_) (fun c6 => ?_)
 ·have k6 := c6
  try simp only [cnd] at c6
  refine AW.seq (AW.region ?_)
  refine qq Qt.assign ?_
  refine nl ?_
  refine AW.ret (endQ_ret (.cons (.tmp 4) .nil) ?_)
  first | rfl | (exfalso; simp_all; done) | (exfalso; omega)
 have k6 := c6
 try simp only [cnd] at c6
 refine jd (AW.seq (AW.region ?_))
 refine qq (fA fl45_8) ?_
 refine nm ?_
 refine qq (Qt.load1 rfl rfl rfl ag35) ?_
 refine qq Qt.move ?_
 refine cv Try.call65 rfl rfl (heldIntS_con _ _ (by omega) (by omega)) ?_
 refine nm ?_
 refine qq Qt.assign ?_
 refine nl ?_
 refine AW.seq (AW.seq (AW.region ?_))
 refine qq Qt.move ?_
 refine qq (Qt.binOp rfl rfl rfl) ?_
 refine nl ?_
 refine AW.cond rfl (fun c7 => ?_) (fun c7 => ?_)
 ·have k7 := c7
  try simp only [cnd] at c7
  refine AW.seq (AW.region ?_)
  refine qq Qt.assign ?_
  refine nl ?_
  refine AW.ret (endQ_ret (.cons (.tmp 4) .nil) ?_)
  first | rfl | (exfalso; simp_all; done) | (exfalso; omega)
 have k7 := c7
 try simp only [cnd] at c7
 refine jd (AW.seq (AW.region ?_))
 refine qq Qt.move ?_
 refine nm ?_
 refine qq Qt.assign ?_
 refine nl ?_
 refine AW.ret (endQ_ret (.cons (.tmp 4) .nil) ?_)
 first | rfl | (exfalso; simp_all; done) | (exfalso; omega)
end Go.Proofs.Ytfbefcmeghpalaa.VM
