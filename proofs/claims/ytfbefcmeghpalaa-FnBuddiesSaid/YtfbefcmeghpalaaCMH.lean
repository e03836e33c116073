/- Contracts of functions of the program. No conditions beyond those that each states. -/
import Derived.Test.YtfbefcmeghpalaaCMG
set_option linter.all false
namespace Go.Proofs.Ytfbefcmeghpalaa.VM
open Go Go.RowKit Go.Proofs
theorem xb {a b : Bool} (h : a = b) : X.v (.bool a) = X.v (.bool b) := by rw [h]
/-- a number put ahead of the first that is greater, as it goes -/
def flagP (l : List Int) (x : Int) : Nat → Bool
 | 0 => false
 | k + 1 => flagP l x k || decide (x < l.getD k En.dflt)
def accP (l : List Int) (x : Int) : Nat → List Int
 | 0 => []
 | k + 1 => if (!(flagP l x k) && decide (x < l.getD k En.dflt)) = true then (accP l x k ++ [x]) ++ [l.getD k En.dflt] else accP l x k ++ [l.getD k En.dflt]
def putS (l : List Int) (x : Int) : List Int := if flagP l x l.length = true then accP l x l.length else accP l x l.length ++ [x]
theorem putS_no {l : List Int} {x : Int} {k : Nat} (hk : k = l.length) (h : flagP l x k = false) : putS l x = accP l x k ++ [x] := by subst hk; rw [putS, if_neg (by simp [h])]
theorem putS_yes {l : List Int} {x : Int} {k : Nat} (hk : k = l.length) (h : flagP l x k = true) : putS l x = accP l x k := by subst hk; rw [putS, if_pos h]
theorem accP_len (l : List Int) (x : Int) : ∀ k, (accP l x k).length ≤ 2 * k
 | 0 => Nat.le_refl _
 | k + 1 => by
  have := accP_len l x k
  simp only [accP]
  split <;> simp <;> omega
set_option maxHeartbeats 8000000 in
set_option maxRecDepth 10000 in
theorem l15Put_con (l : List Int) (x : Int) (hw : l.length ≤ 1048576) : Con Try.prog 94 [.h base [], .v (iv x)] [.rt base .ro (tr l)] (Ret (.h 0 []) [(0, .row, tr (putS l x))]) := by
 refine Con.of_body Try.func94 rfl (by simp) ?_
 rw [Try.ntmps94]
 refine AW.len (base) [] rfl (by simp [Okp]) rfl (fun hl => ?_)
 refine AW.seq (AW.region ?_)
 refine qq Qt.assign ?_
 refine nl ?_
 refine AW.seq (AW.region ?_)
 refine sp (Stp.buildSlice rfl (by decide) (by decide) rfl (by decide) rfl rfl rfl (nodup_of rfl)) ?_
 refine nm ?_
 refine qq Qt.assign ?_
 refine nl ?_
 refine AW.seq (AW.region ?_)
 refine qq Qt.assign ?_
 refine nl ?_
 refine AW.seq (AW.seq (AW.region ?_))
 refine qq Qt.assign ?_
 refine nl ?_
 refine AW.block ?_
 refine AW.loopW (fun i : KInv l.length => [.sl 7 (.v (iv i.k)), .sl 6 (.v (.bool (flagP l x i.k))), .sl 5 (.h 8 []), .sl 0 (.h base []), .sl 1 (.v (iv x)), .rt base .ro (tr l), .rt 8 .row (tr (accP l x i.k))]) (fun i => l.length - i.k) ⟨0, Nat.zero_le _⟩ (Weak.sim ⟨rfl, rfl, rfl, rfl, rfl, Rf rfl, ⟨_, rfl, sim_nil⟩, trivial⟩ rfl rfl) ?_
 intro i
 have hle := i.le
 have hal := accP_len l x i.k
 refine AW.seq (AW.seq (AW.region ?_))
 refine qq Qt.move ?_
 refine nm ?_
 refine qq Qt.move ?_
 refine qq (Qt.lenH rfl rfl rfl sl35) ?_
 refine qq (Qt.binOp rfl rfl rfl) ?_
 refine nl ?_
 refine AW.cond rfl (fun c1 => ?_) (fun c1 => ?_)
 ·have k1 := c1
  try simp only [cnd] at c1
  have hll : (accP l x i.k ++ [x]).length ≤ 2 * i.k + 1 := by rw [List.length_append]; simp; omega
  refine jd (AW.seq (AW.block (AW.seq (AW.seq (AW.region ?_)))))
  refine qq Qt.move ?_
  refine nm ?_
  refine qq (Qt.notB rfl) ?_
  refine qq Qt.move ?_
  apply AWL.cut 6
  ·intro Kg2
   refine AWL.split 17 rfl (fun g2 => ?_) (fun g2 => ?_)
   ·refine qg g2 Qt.move ?_
    refine nm ?_
    refine qg g2 Qt.move ?_
    refine qg g2 Qt.move ?_
    refine qg g2 (Qt.indexAddr rfl rfl rfl rfl sl35 sz3 (by decide) (by first | omega | grind only)) ?_
    refine nm ?_
    refine qg g2 (Qt.load1 rfl rfl rfl ag3) ?_
    refine qg g2 (Qt.binOp rfl rfl rfl) ?_
    exact wj 23 [18, 19, 20, 21, 22, 23] (ifT g2 _ undef) (by simp only [go_sem, Int.reduceToNat, Nat.reduceLT, reduceIte, Nat.reduceEqDiff, Nat.reduceAdd, Nat.reduceMul, Nat.reduceBEq, reduceCtorEq]; rfl) Kg2
   ·refine og g2 ?_
    refine og g2 ?_
    refine og g2 ?_
    refine og g2 ?_
    refine nm ?_
    refine og g2 ?_
    refine og g2 ?_
    exact wj 23 [18, 19, 20, 21, 22, 23] (ifF g2 undef _) (by simp only [go_sem, Int.reduceToNat, Nat.reduceLT, reduceIte, Nat.reduceEqDiff, Nat.reduceAdd, Nat.reduceMul, Nat.reduceBEq, reduceCtorEq]) Kg2
  refine qq (Qt.pickAnd rfl rfl rfl) ?_
  refine nl ?_
  refine AW.cond rfl (fun c3 => ?_) (fun c3 => ?_)
  ·have k3 := c3
   try simp only [cnd] at c3
   refine AW.seq (AW.region ?_)
   refine qq Qt.move ?_
   refine nm ?_
   refine qq Qt.move ?_
   refine sp (Stp.buildSlice rfl (by decide) (by decide) rfl (by decide) rfl rfl rfl (nodup_of rfl)) ?_
   refine nm ?_
   refine sp (by first | exact Stp.appendC rfl (by decide) (by decide) rfl rfl (by omega) | exact Stp.appendM rfl (by decide) (by decide) rfl rfl rfl (by omega)) ?_
   refine AWL.rep 28 (tr (accP l x i.k ++ [x])) rfl (app_one (α := Int) (a := x) (fun c hc => match c, hc with | 0, _ => rfl | c + 1, hc => absurd hc (by simp only [En.n]; omega))) ?_
   refine nm ?_
   refine qq Qt.assign ?_
   refine nl ?_
   refine AW.region ?_
   refine qq Qt.assign ?_
   refine nl ?_
   refine AW.region ?_
   refine qq Qt.move ?_
   refine nm ?_
   refine qq Qt.move ?_
   refine qq Qt.move ?_
   refine qq (Qt.indexAddr rfl rfl rfl rfl sl35 sz3 (by decide) (by first | omega | grind only)) ?_
   refine nm ?_
   refine qq (Qt.load1 rfl rfl rfl ag3) ?_
   refine sp (Stp.buildSlice rfl (by decide) (by decide) rfl (by decide) rfl rfl rfl (nodup_of rfl)) ?_
   refine nm ?_
   refine sp (by first | exact Stp.appendC rfl (by decide) (by decide) rfl rfl (by omega) | exact Stp.appendM rfl (by decide) (by decide) rfl rfl rfl (by omega)) ?_
   refine AWL.rep 35 (tr (accP l x (i.k + 1))) rfl (by rw [show accP l x (i.k + 1) = (accP l x i.k ++ [x]) ++ [l.getD i.k En.dflt] from if_pos (by grind only)]; exact (app_one (α := Int) (a := l.getD i.k En.dflt) (fun c hc => match c, hc with | 0, _ => rfl | c + 1, hc => absurd hc (by simp only [En.n]; omega)))) ?_
   refine nm ?_
   refine qq Qt.assign ?_
   refine nl ?_
   refine AW.region ?_
   refine qq Qt.move ?_
   refine qq (Qt.binOp rfl rfl (by first | exact pbAdd (by omega) | rfl)) ?_
   refine nm ?_
   refine qq Qt.assign ?_
   refine nl ?_
   refine ⟨⟨i.k + 1, by omega⟩, Weak.trans (Weak.renR (a := 35) (b := 8) rfl (by decide) (by decide)) (Weak.sim ⟨st1, (xb (by simp only [flagP]; grind only)), rfl, rfl, rfl, Rf rfl, Rf rfl, trivial⟩ rfl rfl), ?_⟩
   show l.length - (i.k + 1) < l.length - i.k
   omega
  have k3 := c3
  try simp only [cnd] at c3
  refine jd (AW.region ?_)
  refine qq Qt.move ?_
  refine qq Qt.move ?_
  refine nm ?_
  refine qq Qt.move ?_
  refine qq (Qt.indexAddr rfl rfl rfl rfl sl35 sz3 (by decide) (by first | omega | grind only)) ?_
  refine qq (Qt.load1 rfl rfl rfl ag3) ?_
  refine nm ?_
  refine sp (Stp.buildSlice rfl (by decide) (by decide) rfl (by decide) rfl rfl rfl (nodup_of rfl)) ?_
  refine nm ?_
  refine sp (by first | exact Stp.appendC rfl (by decide) (by decide) rfl rfl (by omega) | exact Stp.appendM rfl (by decide) (by decide) rfl rfl rfl (by omega)) ?_
  refine AWL.rep 35 (tr (accP l x (i.k + 1))) rfl (by rw [show accP l x (i.k + 1) = accP l x i.k ++ [l.getD i.k En.dflt] from if_neg (by grind only)]; exact (app_one (α := Int) (a := l.getD i.k En.dflt) (fun c hc => match c, hc with | 0, _ => rfl | c + 1, hc => absurd hc (by simp only [En.n]; omega)))) ?_
  refine nm ?_
  refine qq Qt.assign ?_
  refine nl ?_
  refine AW.region ?_
  refine qq Qt.move ?_
  refine qq (Qt.binOp rfl rfl (by first | exact pbAdd (by omega) | rfl)) ?_
  refine nm ?_
  refine qq Qt.assign ?_
  refine nl ?_
  refine ⟨⟨i.k + 1, by omega⟩, Weak.trans (Weak.renR (a := 35) (b := 8) rfl (by decide) (by decide)) (Weak.sim ⟨st1, (xb (by simp only [flagP]; grind only)), rfl, rfl, rfl, Rf rfl, Rf rfl, trivial⟩ rfl rfl), ?_⟩
  show l.length - (i.k + 1) < l.length - i.k
  omega
 have k1 := c1
 try simp only [cnd] at c1
 refine AW.exit ?_
 dsimp only [thenQ, blockQ, reduceIte]
 refine AW.seq (AW.seq (AW.region ?_))
 refine qq Qt.move ?_
 refine qq (Qt.notB rfl) ?_
 refine nl ?_
 refine AW.cond rfl (fun c4 => ?_) (fun c4 => ?_)
 ·have k4 := c4
  try simp only [cnd] at c4
  refine AW.region ?_
  refine qq Qt.move ?_
  refine nm ?_
  refine qq Qt.move ?_
  refine sp (Stp.buildSlice rfl (by decide) (by decide) rfl (by decide) rfl rfl rfl (nodup_of rfl)) ?_
  refine nm ?_
  refine sp (by first | exact Stp.appendC rfl (by decide) (by decide) rfl rfl (by omega) | exact Stp.appendM rfl (by decide) (by decide) rfl rfl rfl (by omega)) ?_
  refine AWL.rep 41 (tr (putS l x)) rfl (by rw [putS_no (k := i.k) (by omega) (by grind only)]; exact (app_one (α := Int) (a := x) (fun c hc => match c, hc with | 0, _ => rfl | c + 1, hc => absurd hc (by simp only [En.n]; omega)))) ?_
  refine nm ?_
  refine qq Qt.assign ?_
  refine nl ?_
  refine AW.seq (AW.region ?_)
  refine qq Qt.move ?_
  refine qq Qt.assign ?_
  refine nl ?_
  refine AW.ret (endQ_ret (.cons (.tmp 4) .nil) ?_)
  refine ⟨fun _ => 41, rfl, nodup_of rfl, ?_⟩
  intro r hr
  cases List.mem_singleton.1 hr
  exact ⟨by simp, rootL_mem rfl⟩
 have k4 := c4
 try simp only [cnd] at c4
 refine jd (AW.seq (AW.region ?_))
 refine qq Qt.move ?_
 refine nm ?_
 refine qq Qt.assign ?_
 refine nl ?_
 refine AW.rep 8 (tr (putS l x)) rfl (by rw [putS_yes (k := i.k) (by omega) (by grind only)]; exact T.sim_refl _) ?_
 refine AW.ret (endQ_ret (.cons (.tmp 4) .nil) ?_)
 refine ⟨fun _ => 8, rfl, nodup_of rfl, ?_⟩
 intro r hr
 cases List.mem_singleton.1 hr
 exact ⟨by simp, rootL_mem rfl⟩
end Go.Proofs.Ytfbefcmeghpalaa.VM
