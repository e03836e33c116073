/- Contracts of functions of the program. No conditions beyond those that each states. -/
import Derived.Test.YtimmbmphfgnelaaGreatCZM
import Derived.Test.YtimmbmphfgnelaaGreatCZ4
set_option linter.all false
namespace Go.Proofs.YtimmbmphfgnelaaGreat.VM
open Go Go.RowKit Go.Proofs

def zig (n : Int) : Int := if n < 0 then -2 * n - 1 else 2 * n
def third (i : DIns) : Int := if i.Op = 1 then zig i.B else i.B
def showStep (s : ByteArray) (i : DIns) : ByteArray := (((s ++ varS i.Op) ++ varS i.A) ++ varS (third i)) ++ varS i.C
def showK (l : List DIns) (k : Nat) : ByteArray := (l.take k).foldl showStep (varS l.length)
def showP (l : List DIns) : ByteArray := if progOk l then showK l l.length else ByteArray.empty
theorem showK_next (l : List DIns) {k : Nat} (hk : k < l.length) : showK l (k + 1) = showStep (showK l k) (l.getD k En.dflt) := by
 unfold showK
 rw [List.take_add_one, List.getElem?_eq_getElem hk, List.foldl_append]
 simp [hk]
theorem showStep_size (s : ByteArray) (i : DIns) : (showStep s i).size ≤ s.size + 28 := by
 have h1 := varS_size i.Op
 have h2 := varS_size i.A
 have h3 := varS_size (third i)
 have h4 := varS_size i.C
 simp only [showStep, ByteArray.size_append]
 omega
theorem showK_size (l : List DIns) : ∀ {k : Nat}, k ≤ l.length → (showK l k).size ≤ 7 + 28 * k
 | 0, _ => by simpa [showK] using varS_size l.length
 | k + 1, h => by
  have h1 := showK_size l (k := k) (by omega)
  have h2 := showStep_size (showK l k) (l.getD k En.dflt)
  rw [showK_next l (by omega)]
  omega
theorem insWord {i : DIns} (h : insOk i = true) (h1 : i.Op = 1) : -1000000 ≤ i.B ∧ i.B ≤ 1000000 := by
 unfold insOk at h
 rw [if_pos h1] at h
 simp [word] at h
 omega
theorem progFacts {l : List DIns} (h : progOk l = true) : l.length ≤ 40 ∧ ∀ k, k < l.length → insOk (l.getD k En.dflt) = true := by
 simp only [progOk, Bool.and_eq_true, decide_eq_true_eq] at h
 refine ⟨h.1, fun k hk => ?_⟩
 have := List.all_eq_true.1 h.2 l[k] (List.getElem_mem hk)
 simpa [hk] using this

set_option maxHeartbeats 2000000 in
set_option maxRecDepth 10000 in
theorem l3Zig_con (n : Int) (h1 : -1000000 ≤ n) (h2 : n ≤ 1000000) : Con Tryz.prog 295 [.v (iv n)] [] (fun y _ => y = .v (iv (zig n))) := by
 refine Con.of_body Tryz.func295 rfl (by simp) ?_
 rw [Tryz.ntmps295]
 refine AW.seq (AW.region ?_)
 refine qq Qt.assign ?_
 refine nl ?_
 refine AW.seq (AW.seq (AW.region ?_))
 refine qq Qt.move ?_
 refine qq (Qt.binOp rfl rfl rfl) ?_
 refine nl ?_
 refine AW.cond rfl (fun c1 => ?_) (fun c1 => ?_)
 ·have k1 := c1
  try simp only [cnd] at c1
  refine AW.seq (AW.region ?_)
  refine qq Qt.move ?_
  refine nm ?_
  refine qq (Qt.binOp rfl rfl (by first | exact pbMul (by omega) | rfl)) ?_
  refine qq (Qt.binOp rfl rfl (by first | exact pbSub (by omega) | rfl)) ?_
  refine qq Qt.assign ?_
  refine nl ?_
  refine AW.ret (endQ_ret (.cons (.tmp 2) .nil) ?_)
  rw [show zig n = -2 * n - 1 from if_pos (by omega)]
  rfl
 have k1 := c1
 try simp only [cnd] at c1
 refine jd (AW.seq (AW.region ?_))
 refine qq Qt.move ?_
 refine nm ?_
 refine qq (Qt.binOp rfl rfl (by first | exact pbMul (by omega) | rfl)) ?_
 refine qq Qt.assign ?_
 refine nl ?_
 refine AW.ret (endQ_ret (.cons (.tmp 2) .nil) ?_)
 rw [show zig n = 2 * n from if_neg (by omega)]
 rfl
set_option maxHeartbeats 2000000 in
set_option maxRecDepth 10000 in
theorem wordVar_con (n : Int) (h1 : -1000000 ≤ n) (h2 : n ≤ 1000000) : Con Tryz.prog 209 [.v (iv n)] [] (fun y _ => y = .v (.string (varS (zig n)))) := by
 refine Con.of_body Tryz.func209 rfl (by simp) ?_
 rw [Tryz.ntmps209]
 refine AW.seq (AW.region ?_)
 refine qq Qt.assign ?_
 refine nl ?_
 refine AW.seq (AW.seq (AW.region ?_))
 refine qq Qt.move ?_
 refine qq (Qt.binOp rfl rfl rfl) ?_
 refine nl ?_
 refine AW.cond rfl (fun c1 => ?_) (fun c1 => ?_)
 ·have k1 := c1
  try simp only [cnd] at c1
  refine AW.seq (AW.region ?_)
  refine qq Qt.move ?_
  refine nm ?_
  refine qq (Qt.binOp rfl rfl (by first | exact pbMul (by omega) | rfl)) ?_
  refine qq (Qt.binOp rfl rfl (by first | exact pbSub (by omega) | rfl)) ?_
  refine cv Tryz.call81 rfl rfl (VarI_con _) ?_
  refine nm ?_
  refine qq Qt.assign ?_
  refine nl ?_
  refine AW.ret (endQ_ret (.cons (.tmp 2) .nil) ?_)
  rw [show zig n = -2 * n - 1 from if_pos (by omega)]
  rfl
 have k1 := c1
 try simp only [cnd] at c1
 refine jd (AW.seq (AW.region ?_))
 refine qq Qt.move ?_
 refine qq (Qt.binOp rfl rfl (by first | exact pbMul (by omega) | rfl)) ?_
 refine nm ?_
 refine cv Tryz.call81 rfl rfl (VarI_con _) ?_
 refine nm ?_
 refine qq Qt.assign ?_
 refine nl ?_
 refine AW.ret (endQ_ret (.cons (.tmp 2) .nil) ?_)
 rw [show zig n = 2 * n from if_neg (by omega)]
 rfl
set_option maxHeartbeats 2000000 in
set_option maxRecDepth 10000 in
theorem l3Show_con (l : List DIns) (h40 : l.length ≤ 40) (hI : ∀ k, k < l.length → insOk (l.getD k En.dflt) = true) : Con Tryz.prog 206 [.h base []] [.rt base .ro (tr l)] (fun y _ => y = .v (.string (showK l l.length))) := by
 refine Con.of_body Tryz.func206 rfl (by simp) ?_
 rw [Tryz.ntmps206]
 refine AW.seq (AW.region ?_)
 refine qq Qt.assign ?_
 refine nl ?_
 refine AW.seq (AW.region ?_)
 refine qq Qt.move ?_
 refine qq (Qt.lenH rfl rfl rfl sl106) ?_
 refine nm ?_
 refine cv Tryz.call205 rfl rfl (VarS_con _) ?_
 refine nm ?_
 refine qq Qt.assign ?_
 refine nl ?_
 refine AW.seq (AW.seq (AW.region ?_))
 refine qq Qt.assign ?_
 refine nl ?_
 refine AW.block ?_
 refine AW.weak (L' := [.sl 4 (.v (iv (0 : Nat))), .sl 3 (.v (.string (showK l 0))), .sl 0 (.h base []), .rt base .ro (tr l)]) (Weak.sim ⟨rfl, rfl, rfl, Rf rfl, trivial⟩ rfl rfl) ?_
 refine AW.loop (fun i : KInv l.length => [.sl 4 (.v (iv i.k)), .sl 3 (.v (.string (showK l i.k))), .sl 0 (.h base []), .rt base .ro (tr l)]) (fun i => l.length - i.k) ⟨0, Nat.zero_le _⟩ ?_
 intro i
 have hle := i.le
 refine AW.seq (AW.seq (AW.region ?_))
 refine qq Qt.move ?_
 refine nm ?_
 refine qq Qt.move ?_
 refine qq (Qt.lenH rfl rfl rfl sl106) ?_
 refine qq (Qt.binOp rfl rfl rfl) ?_
 refine nl ?_
 refine AW.cond rfl (fun c1 => ?_) (fun c1 => ?_)
 ·have k1 := c1
  try simp only [cnd] at c1
  have hq := showK_size l (k := i.k) (by omega)
  have hi := hI i.k (by omega)
  have hv1 := varS_size (l.getD i.k En.dflt).Op
  have hv2 := varS_size (l.getD i.k En.dflt).A
  have hv3 := varS_size (third (l.getD i.k En.dflt))
  have hv4 := varS_size (l.getD i.k En.dflt).C
  have hv5 := varS_size (l.getD i.k En.dflt).B
  have hv6 := varS_size (zig (l.getD i.k En.dflt).B)
  have hw := insWord hi
  have hnx := showK_next l (k := i.k) (by omega)
  refine jd (AW.seq (AW.block (AW.seq (AW.region ?_))))
  refine qq Qt.move ?_
  refine nm ?_
  refine qq Qt.move ?_
  refine qq (Qt.indexAddr rfl rfl rfl rfl sl106 sz224 (by decide) (by omega)) ?_
  refine qq (fA fl224_2) ?_
  refine nm ?_
  refine qq (Qt.load1 rfl rfl rfl ag3) ?_
  refine qq Qt.assign ?_
  refine nl ?_
  refine AW.seq (AW.seq (AW.region ?_))
  refine qq Qt.move ?_
  refine nm ?_
  refine qq Qt.move ?_
  refine qq (Qt.indexAddr rfl rfl rfl rfl sl106 sz224 (by decide) (by omega)) ?_
  refine qq (fA fl224_0) ?_
  refine nm ?_
  refine qq (Qt.load1 rfl rfl rfl ag3) ?_
  refine qq (Qt.binOp rfl rfl rfl) ?_
  refine nl ?_
  refine AW.cond rfl (fun c2 => ?_) (fun c2 => ?_)
  ·have k2 := c2
   try simp only [cnd] at c2
   refine AW.region ?_
   refine qq Qt.move ?_
   refine nm ?_
   refine cv Tryz.call295 rfl rfl (l3Zig_con _ (by omega) (by omega)) ?_
   refine nm ?_
   refine qq Qt.assign ?_
   refine nl ?_
   refine AW.draw [0, 1, 2, 3, 4, 5, 7, 8, 9, 10, 11, 12, 14, 15, 17, 18, 19, 20, 21, 22, 24] rfl (by decide +kernel) ?_
   refine tk 0 rfl Qt.move ?_
   refine tk 1 rfl Qt.move ?_
   refine na ?_
   refine tk 2 rfl Qt.move ?_
   refine tk 3 rfl (Qt.indexAddr rfl rfl rfl rfl sl106 sz224 (by decide) (by omega)) ?_
   refine tk 4 rfl (fA fl224_0) ?_
   refine na ?_
   refine tk 5 rfl (Qt.load1 rfl rfl rfl ag3) ?_
   refine tk 8 rfl Qt.move ?_
   refine tk 9 rfl Qt.move ?_
   refine na ?_
   refine tk 10 rfl (Qt.indexAddr rfl rfl rfl rfl sl106 sz224 (by decide) (by omega)) ?_
   refine tk 11 rfl (fA fl224_1) ?_
   refine tk 12 rfl (Qt.load1 rfl rfl rfl ag3) ?_
   refine na ?_
   refine tk 15 rfl Qt.move ?_
   refine tk 18 rfl Qt.move ?_
   refine tk 19 rfl Qt.move ?_
   refine na ?_
   refine tk 20 rfl (Qt.indexAddr rfl rfl rfl rfl sl106 sz224 (by decide) (by omega)) ?_
   refine tk 21 rfl (fA fl224_3) ?_
   refine tk 22 rfl (Qt.load1 rfl rfl rfl ag3) ?_
   refine na ?_
   refine a1 6 [0, 8, 9, 10, 11, 12, 15, 18, 19, 20, 21, 22] [5, 4, 3, 2, 1] rfl rfl (Stp.callV rfl (by decide) Tryz.call205 rfl rfl (VarS_con _)) ?_
   refine na ?_
   refine AWA.againE rfl rfl (by decide +kernel) (.on rfl rfl Qt.move) rfl ?_
   refine AWA.againE rfl rfl (by decide +kernel) (.on rfl rfl Qt.move) rfl ?_
   refine AWA.againE rfl rfl (by decide +kernel) (.on rfl rfl Qt.move) rfl ?_
   refine AWA.againE rfl rfl (by decide +kernel) (.on rfl rfl (Qt.indexAddr rfl rfl rfl rfl sl106 sz224 (by decide) (by omega))) rfl ?_
   refine AWA.againE rfl rfl (by decide +kernel) (.on rfl rfl (fA fl224_1)) rfl ?_
   refine AWA.againE rfl rfl (by decide +kernel) (.on rfl rfl (Qt.load1 rfl rfl rfl ag3)) rfl ?_
   refine AWA.againE rfl rfl (by decide +kernel) (.on rfl rfl Qt.move) rfl ?_
   refine AWA.againE rfl rfl (by decide +kernel) (.on rfl rfl Qt.move) rfl ?_
   refine AWA.againE rfl rfl (by decide +kernel) (.on rfl rfl Qt.move) rfl ?_
   refine AWA.againE rfl rfl (by decide +kernel) (.on rfl rfl (Qt.indexAddr rfl rfl rfl rfl sl106 sz224 (by decide) (by omega))) rfl ?_
   refine AWA.againE rfl rfl (by decide +kernel) (.on rfl rfl (fA fl224_3)) rfl ?_
   refine AWA.againE rfl rfl (by decide +kernel) (.on rfl rfl (Qt.load1 rfl rfl rfl ag3)) rfl ?_
   refine na ?_
   refine tk 7 rfl (Qt.binOp rfl rfl (pbCat (by first | omega | (simp only [ByteArray.size_append]; omega)))) ?_
   refine a1 13 [0, 7, 15, 18, 19, 20, 21, 22] [12, 6, 11, 5, 10, 4, 9, 8, 3, 2, 1] rfl rfl (Stp.callV rfl (by decide) Tryz.call205 rfl rfl (VarS_con _)) ?_
   refine na ?_
   refine AWA.againE rfl rfl (by decide +kernel) (.on rfl rfl Qt.move) rfl ?_
   refine AWA.againE rfl rfl (by decide +kernel) (.on rfl rfl (Qt.binOp rfl rfl (pbCat (by first | omega | (simp only [ByteArray.size_append]; omega))))) rfl ?_
   refine AWA.againE rfl rfl (by decide +kernel) (.on rfl rfl Qt.move) rfl ?_
   refine AWA.againE rfl rfl (by decide +kernel) (.on rfl rfl Qt.move) rfl ?_
   refine AWA.againE rfl rfl (by decide +kernel) (.on rfl rfl Qt.move) rfl ?_
   refine AWA.againE rfl rfl (by decide +kernel) (.on rfl rfl (Qt.indexAddr rfl rfl rfl rfl sl106 sz224 (by decide) (by omega))) rfl ?_
   refine AWA.againE rfl rfl (by decide +kernel) (.on rfl rfl (fA fl224_3)) rfl ?_
   refine AWA.againE rfl rfl (by decide +kernel) (.on rfl rfl (Qt.load1 rfl rfl rfl ag3)) rfl ?_
   refine na ?_
   refine tk 14 rfl (Qt.binOp rfl rfl (pbCat (by first | omega | (simp only [ByteArray.size_append]; omega)))) ?_
   refine a1 16 [0, 7, 14, 18, 19, 20, 21, 22] [15, 13, 12, 6, 11, 5, 10, 4, 9, 8, 3, 2, 1] rfl rfl (Stp.callV rfl (by decide) Tryz.call205 rfl rfl (VarS_con _)) ?_
   refine na ?_
   refine AWA.againE rfl rfl (by decide +kernel) (.on rfl rfl Qt.move) rfl ?_
   refine AWA.againE rfl rfl (by decide +kernel) (.on rfl rfl (Qt.binOp rfl rfl (pbCat (by first | omega | (simp only [ByteArray.size_append]; omega))))) rfl ?_
   refine AWA.againE rfl rfl (by decide +kernel) (.on rfl rfl (Qt.binOp rfl rfl (pbCat (by first | omega | (simp only [ByteArray.size_append]; omega))))) rfl ?_
   refine AWA.againE rfl rfl (by decide +kernel) (.on rfl rfl Qt.move) rfl ?_
   refine AWA.againE rfl rfl (by decide +kernel) (.on rfl rfl Qt.move) rfl ?_
   refine AWA.againE rfl rfl (by decide +kernel) (.on rfl rfl (Qt.indexAddr rfl rfl rfl rfl sl106 sz224 (by decide) (by omega))) rfl ?_
   refine AWA.againE rfl rfl (by decide +kernel) (.on rfl rfl (fA fl224_3)) rfl ?_
   refine AWA.againE rfl rfl (by decide +kernel) (.on rfl rfl (Qt.load1 rfl rfl rfl ag3)) rfl ?_
   refine na ?_
   refine tk 17 rfl (Qt.binOp rfl rfl (pbCat (by first | omega | (simp only [ByteArray.size_append]; omega)))) ?_
   refine a1 23 [0, 7, 14, 17] [22, 16, 21, 15, 13, 20, 12, 6, 19, 18, 11, 5, 10, 4, 9, 8, 3, 2, 1] rfl rfl (Stp.callV rfl (by decide) Tryz.call205 rfl rfl (VarS_con _)) ?_
   refine na ?_
   refine AWA.againE rfl rfl (by decide +kernel) (.on rfl rfl Qt.move) rfl ?_
   refine AWA.againE rfl rfl (by decide +kernel) (.on rfl rfl (Qt.binOp rfl rfl (pbCat (by first | omega | (simp only [ByteArray.size_append]; omega))))) rfl ?_
   refine AWA.againE rfl rfl (by decide +kernel) (.on rfl rfl (Qt.binOp rfl rfl (pbCat (by first | omega | (simp only [ByteArray.size_append]; omega))))) rfl ?_
   refine AWA.againE rfl rfl (by decide +kernel) (.on rfl rfl (Qt.binOp rfl rfl (pbCat (by first | omega | (simp only [ByteArray.size_append]; omega))))) rfl ?_
   refine na ?_
   refine tk 24 rfl (Qt.binOp rfl rfl (pbCat (by first | omega | (simp only [ByteArray.size_append]; omega)))) ?_
   refine a1 25 [] [24, 23, 22, 21, 20, 19, 18, 17, 16, 15, 14, 13, 12, 11, 10, 9, 8, 7, 6, 5, 4, 3, 2, 1, 0] rfl rfl (Stp.q rfl (by decide) Qt.assign) ?_
   refine na ?_
   refine na ?_
   refine nz ?_
   refine AW.region ?_
   refine qq Qt.move ?_
   refine qq (Qt.binOp rfl rfl (by first | exact pbAdd (by omega) | rfl)) ?_
   refine qq Qt.assign ?_
   refine nl ?_
   refine ⟨⟨i.k + 1, by omega⟩, Weak.sim ⟨st1, (by rw [hnx]; simp only [slotL, reduceIte, Nat.reduceEqDiff, showStep, third]; first | rw [if_pos (by omega)] | rw [if_neg (by omega)]), rfl, Rf rfl, trivial⟩ rfl rfl, ?_⟩
   show l.length - (i.k + 1) < l.length - i.k
   omega
  have k2 := c2
  try simp only [cnd] at c2
  refine jd ?_
  refine AW.draw [0, 1, 2, 3, 4, 5, 7, 8, 9, 10, 11, 12, 14, 15, 17, 18, 19, 20, 21, 22, 24] rfl (by decide +kernel) ?_
  refine tk 0 rfl Qt.move ?_
  refine na ?_
  refine tk 1 rfl Qt.move ?_
  refine tk 2 rfl Qt.move ?_
  refine tk 3 rfl (Qt.indexAddr rfl rfl rfl rfl sl106 sz224 (by decide) (by omega)) ?_
  refine na ?_
  refine tk 4 rfl (fA fl224_0) ?_
  refine tk 5 rfl (Qt.load1 rfl rfl rfl ag3) ?_
  refine tk 8 rfl Qt.move ?_
  refine na ?_
  refine tk 9 rfl Qt.move ?_
  refine tk 10 rfl (Qt.indexAddr rfl rfl rfl rfl sl106 sz224 (by decide) (by omega)) ?_
  refine tk 11 rfl (fA fl224_1) ?_
  refine na ?_
  refine tk 12 rfl (Qt.load1 rfl rfl rfl ag3) ?_
  refine tk 15 rfl Qt.move ?_
  refine tk 18 rfl Qt.move ?_
  refine na ?_
  refine tk 19 rfl Qt.move ?_
  refine tk 20 rfl (Qt.indexAddr rfl rfl rfl rfl sl106 sz224 (by decide) (by omega)) ?_
  refine tk 21 rfl (fA fl224_3) ?_
  refine na ?_
  refine tk 22 rfl (Qt.load1 rfl rfl rfl ag3) ?_
  refine a1 6 [0, 8, 9, 10, 11, 12, 15, 18, 19, 20, 21, 22] [5, 4, 3, 2, 1] rfl rfl (Stp.callV rfl (by decide) Tryz.call205 rfl rfl (VarS_con _)) ?_
  refine na ?_
  refine AWA.againE rfl rfl (by decide +kernel) (.on rfl rfl Qt.move) rfl ?_
  refine AWA.againE rfl rfl (by decide +kernel) (.on rfl rfl Qt.move) rfl ?_
  refine AWA.againE rfl rfl (by decide +kernel) (.on rfl rfl Qt.move) rfl ?_
  refine AWA.againE rfl rfl (by decide +kernel) (.on rfl rfl (Qt.indexAddr rfl rfl rfl rfl sl106 sz224 (by decide) (by omega))) rfl ?_
  refine AWA.againE rfl rfl (by decide +kernel) (.on rfl rfl (fA fl224_1)) rfl ?_
  refine AWA.againE rfl rfl (by decide +kernel) (.on rfl rfl (Qt.load1 rfl rfl rfl ag3)) rfl ?_
  refine AWA.againE rfl rfl (by decide +kernel) (.on rfl rfl Qt.move) rfl ?_
  refine AWA.againE rfl rfl (by decide +kernel) (.on rfl rfl Qt.move) rfl ?_
  refine AWA.againE rfl rfl (by decide +kernel) (.on rfl rfl Qt.move) rfl ?_
  refine AWA.againE rfl rfl (by decide +kernel) (.on rfl rfl (Qt.indexAddr rfl rfl rfl rfl sl106 sz224 (by decide) (by omega))) rfl ?_
  refine AWA.againE rfl rfl (by decide +kernel) (.on rfl rfl (fA fl224_3)) rfl ?_
  refine AWA.againE rfl rfl (by decide +kernel) (.on rfl rfl (Qt.load1 rfl rfl rfl ag3)) rfl ?_
  refine na ?_
  refine tk 7 rfl (Qt.binOp rfl rfl (pbCat (by first | omega | (simp only [ByteArray.size_append]; omega)))) ?_
  refine a1 13 [0, 7, 15, 18, 19, 20, 21, 22] [12, 6, 11, 5, 10, 4, 9, 8, 3, 2, 1] rfl rfl (Stp.callV rfl (by decide) Tryz.call205 rfl rfl (VarS_con _)) ?_
  refine na ?_
  refine AWA.againE rfl rfl (by decide +kernel) (.on rfl rfl Qt.move) rfl ?_
  refine AWA.againE rfl rfl (by decide +kernel) (.on rfl rfl (Qt.binOp rfl rfl (pbCat (by first | omega | (simp only [ByteArray.size_append]; omega))))) rfl ?_
  refine AWA.againE rfl rfl (by decide +kernel) (.on rfl rfl Qt.move) rfl ?_
  refine AWA.againE rfl rfl (by decide +kernel) (.on rfl rfl Qt.move) rfl ?_
  refine AWA.againE rfl rfl (by decide +kernel) (.on rfl rfl Qt.move) rfl ?_
  refine AWA.againE rfl rfl (by decide +kernel) (.on rfl rfl (Qt.indexAddr rfl rfl rfl rfl sl106 sz224 (by decide) (by omega))) rfl ?_
  refine AWA.againE rfl rfl (by decide +kernel) (.on rfl rfl (fA fl224_3)) rfl ?_
  refine AWA.againE rfl rfl (by decide +kernel) (.on rfl rfl (Qt.load1 rfl rfl rfl ag3)) rfl ?_
  refine na ?_
  refine tk 14 rfl (Qt.binOp rfl rfl (pbCat (by first | omega | (simp only [ByteArray.size_append]; omega)))) ?_
  refine a1 16 [0, 7, 14, 18, 19, 20, 21, 22] [15, 13, 12, 6, 11, 5, 10, 4, 9, 8, 3, 2, 1] rfl rfl (Stp.callV rfl (by decide) Tryz.call205 rfl rfl (VarS_con _)) ?_
  refine na ?_
  refine AWA.againE rfl rfl (by decide +kernel) (.on rfl rfl Qt.move) rfl ?_
  refine AWA.againE rfl rfl (by decide +kernel) (.on rfl rfl (Qt.binOp rfl rfl (pbCat (by first | omega | (simp only [ByteArray.size_append]; omega))))) rfl ?_
  refine AWA.againE rfl rfl (by decide +kernel) (.on rfl rfl (Qt.binOp rfl rfl (pbCat (by first | omega | (simp only [ByteArray.size_append]; omega))))) rfl ?_
  refine AWA.againE rfl rfl (by decide +kernel) (.on rfl rfl Qt.move) rfl ?_
  refine AWA.againE rfl rfl (by decide +kernel) (.on rfl rfl Qt.move) rfl ?_
  refine AWA.againE rfl rfl (by decide +kernel) (.on rfl rfl (Qt.indexAddr rfl rfl rfl rfl sl106 sz224 (by decide) (by omega))) rfl ?_
  refine AWA.againE rfl rfl (by decide +kernel) (.on rfl rfl (fA fl224_3)) rfl ?_
  refine AWA.againE rfl rfl (by decide +kernel) (.on rfl rfl (Qt.load1 rfl rfl rfl ag3)) rfl ?_
  refine na ?_
  refine tk 17 rfl (Qt.binOp rfl rfl (pbCat (by first | omega | (simp only [ByteArray.size_append]; omega)))) ?_
  refine a1 23 [0, 7, 14, 17] [22, 16, 21, 15, 13, 20, 12, 6, 19, 18, 11, 5, 10, 4, 9, 8, 3, 2, 1] rfl rfl (Stp.callV rfl (by decide) Tryz.call205 rfl rfl (VarS_con _)) ?_
  refine na ?_
  refine AWA.againE rfl rfl (by decide +kernel) (.on rfl rfl Qt.move) rfl ?_
  refine AWA.againE rfl rfl (by decide +kernel) (.on rfl rfl (Qt.binOp rfl rfl (pbCat (by first | omega | (simp only [ByteArray.size_append]; omega))))) rfl ?_
  refine AWA.againE rfl rfl (by decide +kernel) (.on rfl rfl (Qt.binOp rfl rfl (pbCat (by first | omega | (simp only [ByteArray.size_append]; omega))))) rfl ?_
  refine AWA.againE rfl rfl (by decide +kernel) (.on rfl rfl (Qt.binOp rfl rfl (pbCat (by first | omega | (simp only [ByteArray.size_append]; omega))))) rfl ?_
  refine na ?_
  refine tk 24 rfl (Qt.binOp rfl rfl (pbCat (by first | omega | (simp only [ByteArray.size_append]; omega)))) ?_
  refine a1 25 [] [24, 23, 22, 21, 20, 19, 18, 17, 16, 15, 14, 13, 12, 11, 10, 9, 8, 7, 6, 5, 4, 3, 2, 1, 0] rfl rfl (Stp.q rfl (by decide) Qt.assign) ?_
  refine na ?_
  refine na ?_
  refine nz ?_
  refine AW.region ?_
  refine qq Qt.move ?_
  refine qq (Qt.binOp rfl rfl (by first | exact pbAdd (by omega) | rfl)) ?_
  refine qq Qt.assign ?_
  refine nl ?_
  refine ⟨⟨i.k + 1, by omega⟩, Weak.sim ⟨st1, (by rw [hnx]; simp only [slotL, reduceIte, Nat.reduceEqDiff, showStep, third]; first | rw [if_pos (by omega)] | rw [if_neg (by omega)]), rfl, Rf rfl, trivial⟩ rfl rfl, ?_⟩
  show l.length - (i.k + 1) < l.length - i.k
  omega
 have k1 := c1
 try simp only [cnd] at c1
 refine AW.exit ?_
 dsimp only [thenQ, blockQ, reduceIte]
 refine AW.seq (AW.region ?_)
 refine qq Qt.move ?_
 refine nm ?_
 refine qq Qt.assign ?_
 refine nl ?_
 refine AW.ret (endQ_ret (.cons (.tmp 2) .nil) ?_)
 rw [show showK l l.length = showK l i.k from by rw [show i.k = l.length by omega]]
 rfl
set_option maxHeartbeats 2000000 in
set_option maxRecDepth 10000 in
theorem ShowProgI_con (l : List DIns) : Con Tryz.prog 80 [.h base []] [.rt base .ro (tr l)] (fun y _ => y = .v (.string (showP l))) := by
 refine Con.of_body Tryz.func80 rfl (by simp) ?_
 rw [Tryz.ntmps80]
 refine AW.seq (AW.region ?_)
 refine qq Qt.assign ?_
 refine nl ?_
 refine AW.seq (AW.seq (AW.region ?_))
 refine qq Qt.move ?_
 refine cv Tryz.call60 rfl rfl (ProgOkI_con _) ?_
 refine nm ?_
 refine qq (Qt.notB rfl) ?_
 refine nl ?_
 refine AW.cond rfl (fun c1 => ?_) (fun c1 => ?_)
 ·have k1 := c1
  try simp only [cnd] at c1
  refine AW.seq (AW.region ?_)
  refine qq Qt.assign ?_
  refine nl ?_
  refine AW.ret (endQ_ret (.cons (.tmp 2) .nil) ?_)
  rw [show showP l = ByteArray.empty from if_neg (by simp [c1])]
  rfl
 have k1 := c1
 try simp only [cnd] at c1
 obtain ⟨h40, hI⟩ := progFacts c1
 have hpr := c1
 refine jd (AW.seq (AW.region ?_))
 refine qq Qt.move ?_
 refine nm ?_
 refine qq (Qt.lenH rfl rfl rfl sl106) ?_
 refine cv Tryz.call81 rfl rfl (VarI_con _) ?_
 refine nm ?_
 refine qq Qt.assign ?_
 refine nl ?_
 refine AW.seq (AW.seq (AW.region ?_))
 refine qq Qt.move ?_
 refine qq (Qt.lenH rfl rfl rfl sl106) ?_
 refine nm ?_
 refine qq Qt.move ?_
 refine nl ?_
 refine AW.block ?_
 refine AW.weak (L' := [.sl 14 (.v (iv (0 : Nat))), .sl 12 (.h base []), .sl 13 (.v (iv l.length)), .sl 3 (.v (.string (showK l 0))), .sl 0 (.h base []), .rt base .ro (tr l)]) (Weak.sim ⟨rfl, rfl, rfl, rfl, rfl, Rf rfl, trivial⟩ rfl rfl) ?_
 refine AW.loop (fun i : KInv l.length => [.sl 14 (.v (iv i.k)), .sl 12 (.h base []), .sl 13 (.v (iv l.length)), .sl 3 (.v (.string (showK l i.k))), .sl 0 (.h base []), .rt base .ro (tr l)]) (fun i => l.length - i.k) ⟨0, Nat.zero_le _⟩ ?_
 intro i
 have hle := i.le
 refine AW.seq (AW.region ?_)
 refine qq (Qt.binOp rfl rfl rfl) ?_
 refine nl ?_
 refine AW.seq ?_
 refine AW.cond rfl (fun c2 => ?_) (fun c2 => ?_)
 ·have k2 := c2
  try simp only [cnd] at c2
  have hq := showK_size l (k := i.k) (by omega)
  have hi := hI i.k (by omega)
  have hv1 := varS_size (l.getD i.k En.dflt).Op
  have hv2 := varS_size (l.getD i.k En.dflt).A
  have hv3 := varS_size (third (l.getD i.k En.dflt))
  have hv4 := varS_size (l.getD i.k En.dflt).C
  have hv5 := varS_size (l.getD i.k En.dflt).B
  have hv6 := varS_size (zig (l.getD i.k En.dflt).B)
  have hw := insWord hi
  have hnx := showK_next l (k := i.k) (by omega)
  refine jd (AW.seq (AW.block (AW.seq (AW.region ?_))))
  refine qq (Qt.indexAddr rfl rfl rfl rfl sl106 sz224 (by decide) (by omega)) ?_
  refine nm ?_
  refine qq (Qt.loadG rfl rfl rfl ag224 sz224 (by decide)) ?_
  refine sp (Stp.alloc rfl (by decide) (by decide)) ?_
  refine nm ?_
  refine ss ?_
  refine nl ?_
  refine AW.seq ?_
  refine AW.draw [0, 1, 2, 4, 5, 7, 8] rfl (by decide +kernel) ?_
  refine tk 0 rfl Qt.move ?_
  refine na ?_
  refine tk 1 rfl (fA fl224_0) ?_
  refine tk 2 rfl (Qt.load1 rfl rfl rfl ag3) ?_
  refine tk 4 rfl (fA fl224_1) ?_
  refine na ?_
  refine tk 5 rfl (Qt.load1 rfl rfl rfl ag3) ?_
  refine a1 3 [0, 4, 5] [2, 1] rfl rfl (Stp.callV rfl (by decide) Tryz.call81 rfl rfl (VarI_con _)) ?_
  refine na ?_
  refine AWA.againE rfl rfl (by decide +kernel) (.on rfl rfl Qt.move) rfl ?_
  refine AWA.againE rfl rfl (by decide +kernel) (.on rfl rfl (fA fl224_1)) rfl ?_
  refine AWA.againE rfl rfl (by decide +kernel) (.on rfl rfl (Qt.load1 rfl rfl rfl ag3)) rfl ?_
  refine na ?_
  refine a1 6 [0] [5, 3, 4, 2, 1] rfl rfl (Stp.callV rfl (by decide) Tryz.call81 rfl rfl (VarI_con _)) ?_
  refine na ?_
  refine AWA.againE rfl rfl (by decide +kernel) (.on rfl rfl Qt.move) rfl ?_
  refine na ?_
  refine tk 7 rfl (Qt.binOp rfl rfl (pbCat (by first | omega | (simp only [ByteArray.size_append]; omega)))) ?_
  refine tk 8 rfl (Qt.binOp rfl rfl (pbCat (by first | omega | (simp only [ByteArray.size_append]; omega)))) ?_
  refine a1 9 [] [8, 7, 6, 5, 4, 3, 2, 1, 0] rfl rfl (Stp.q rfl (by decide) Qt.assign) ?_
  refine na ?_
  refine na ?_
  refine nz ?_
  refine AW.seq (AW.seq (AW.region ?_))
  refine qq (fA fl224_0) ?_
  refine qq (Qt.load1 rfl rfl rfl ag3) ?_
  refine qq (Qt.binOp rfl rfl rfl) ?_
  refine nl ?_
  refine AW.cond rfl (fun c3 => ?_) (fun c3 => ?_)
  ·have k3 := c3
   try simp only [cnd] at c3
   refine AW.region ?_
   refine qq Qt.move ?_
   refine nm ?_
   refine qq (fA fl224_2) ?_
   refine qq (Qt.load1 rfl rfl rfl ag3) ?_
   refine cv Tryz.call209 rfl rfl (wordVar_con _ (by omega) (by omega)) ?_
   refine nm ?_
   refine qq (Qt.binOp rfl rfl (pbCat (by first | omega | (simp only [ByteArray.size_append]; omega)))) ?_
   refine qq Qt.assign ?_
   refine nl ?_
   refine AW.region ?_
   refine qq Qt.move ?_
   refine nm ?_
   refine qq (fA fl224_3) ?_
   refine qq (Qt.load1 rfl rfl rfl ag3) ?_
   refine cv Tryz.call81 rfl rfl (VarI_con _) ?_
   refine nm ?_
   refine qq (Qt.binOp rfl rfl (pbCat (by first | omega | (simp only [ByteArray.size_append]; omega)))) ?_
   refine qq Qt.assign ?_
   refine nl ?_
   refine AW.region ?_
   refine qq (Qt.binOp rfl rfl (by first | exact pbAdd (by omega) | rfl)) ?_
   refine nm ?_
   refine qq Qt.move ?_
   refine nl ?_
   refine ⟨⟨i.k + 1, by omega⟩, Weak.sim ⟨st1, rfl, rfl, (by rw [hnx]; simp only [slotL, reduceIte, Nat.reduceEqDiff, showStep, third, ByteArray.append_assoc]; first | rw [if_pos (by omega)] | rw [if_neg (by omega)]), rfl, Rf rfl, trivial⟩ rfl rfl, ?_⟩
   show l.length - (i.k + 1) < l.length - i.k
   omega
  have k3 := c3
  try simp only [cnd] at c3
  refine AW.region ?_
  refine qq Qt.move ?_
  refine qq (fA fl224_2) ?_
  refine nm ?_
  refine qq (Qt.load1 rfl rfl rfl ag3) ?_
  refine cv Tryz.call81 rfl rfl (VarI_con _) ?_
  refine nm ?_
  refine qq (Qt.binOp rfl rfl (pbCat (by first | omega | (simp only [ByteArray.size_append]; omega)))) ?_
  refine qq Qt.assign ?_
  refine nl ?_
  refine AW.region ?_
  refine qq Qt.move ?_
  refine nm ?_
  refine qq (fA fl224_3) ?_
  refine qq (Qt.load1 rfl rfl rfl ag3) ?_
  refine cv Tryz.call81 rfl rfl (VarI_con _) ?_
  refine nm ?_
  refine qq (Qt.binOp rfl rfl (pbCat (by first | omega | (simp only [ByteArray.size_append]; omega)))) ?_
  refine qq Qt.assign ?_
  refine nl ?_
  refine AW.region ?_
  refine qq (Qt.binOp rfl rfl (by first | exact pbAdd (by omega) | rfl)) ?_
  refine nm ?_
  refine qq Qt.move ?_
  refine nl ?_
  refine ⟨⟨i.k + 1, by omega⟩, Weak.sim ⟨st1, rfl, rfl, (by rw [hnx]; simp only [slotL, reduceIte, Nat.reduceEqDiff, showStep, third, ByteArray.append_assoc]; first | rw [if_pos (by omega)] | rw [if_neg (by omega)]), rfl, Rf rfl, trivial⟩ rfl rfl, ?_⟩
  show l.length - (i.k + 1) < l.length - i.k
  omega
 have k2 := c2
 try simp only [cnd] at c2
 refine AW.exit ?_
 dsimp only [thenQ, blockQ, reduceIte]
 refine AW.seq (AW.region ?_)
 refine qq Qt.move ?_
 refine qq Qt.assign ?_
 refine nl ?_
 refine AW.ret (endQ_ret (.cons (.tmp 2) .nil) ?_)
 rw [show showP l = showK l i.k from (if_pos hpr).trans (by rw [show i.k = l.length by omega])]
 rfl
end Go.Proofs.YtimmbmphfgnelaaGreat.VM
