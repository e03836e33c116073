/- Contracts of functions of the program. No conditions beyond those that each states. -/
import Derived.Test.YtimmbmphfgnelaaGreatCZ2
import Derived.Test.YtimmbmphfgnelaaGreatCZY
set_option linter.all false
namespace Go.Proofs.YtimmbmphfgnelaaGreat.VM
open Go Go.RowKit Go.Proofs
set_option maxHeartbeats 1000000 in
set_option maxRecDepth 10000 in
theorem VarI_con (n : Int) : Con Tryz.prog 81 [.v (iv n)] [] (fun y _ => y = .v (.string (varS n))) := by
 refine Con.of_body Tryz.func81 rfl (by simp) ?_
 rw [Tryz.ntmps81]
 refine AW.seq (AW.region ?_)
 refine qq Qt.assign ?_
 refine nl ?_
 refine AW.seq (AW.seq (AW.region ?_))
 refine qq Qt.move ?_
 refine cv Tryz.call56 rfl rfl (in_con _ _ _) ?_
 refine nm ?_
 refine qq (Qt.notB rfl) ?_
 refine nl ?_
 refine AW.cond rfl (fun c1 => ?_) (fun c1 => ?_)
 ·have k1 := c1
  try simp only [cnd] at c1
  refine AW.seq (AW.region ?_)
  refine qq Qt.assign ?_
  refine nl ?_
  refine AW.ret (endQ_ret (.cons (.tmp 2) .nil) ?_)
  rw [show varS n = ByteArray.empty from by unfold varS varI; rw [if_neg (by omega)]; rfl]
  rfl
 have k1 := c1
 try simp only [cnd] at c1
 refine jd (AW.seq (AW.region ?_))
 refine sp (Stp.buildSlice rfl (by decide) (by decide) rfl (by decide) rfl rfl rfl (nodup_of rfl)) ?_
 refine nm ?_
 refine qq Qt.assign ?_
 refine nl ?_
 refine AW.seq (AW.block ?_)
 refine AW.weak (L' := [.sl 0 (.v (iv (n.toNat : Nat))), .sl 3 (.h 7 []), .rt 7 .row (tr ([] : List UInt8))]) (Weak.sim ⟨(by simp only [slotL, reduceIte, Nat.reduceEqDiff]; congr 2; omega), rfl, ⟨_, rfl, sim_nil⟩, trivial⟩ rfl rfl) ?_
 refine AW.loop (fun i : VarInv n.toNat => [.sl 0 (.v (iv i.k)), .sl 3 (.h 7 []), .rt 7 .row (tr i.acc)]) (fun i => i.k) ⟨7, n.toNat, [], by omega, by omega, by rw [show (128 : Nat) ^ 7 = 562949953421312 by decide]; omega, by simp, rfl⟩ ?_
 intro i
 have hk7 := pow_le7 i.f7 i.kl
 have hal := i.al
 have hf1 := i.f1
 refine AW.seq (AW.seq (AW.region ?_))
 refine qq Qt.move ?_
 refine qq (Qt.binOp rfl rfl rfl) ?_
 refine nl ?_
 refine AW.cond rfl (fun c2 => ?_) (fun c2 => ?_)
 ·have k2 := c2
  try simp only [cnd] at c2
  refine jd (AW.block (AW.seq (AW.region ?_)))
  refine qq Qt.move ?_
  refine nm ?_
  refine qq Qt.move ?_
  refine qq (Qt.binOp rfl rfl (pbAnd127 _ (by omega))) ?_
  refine qq (Qt.binOp rfl rfl (pbOr128 _)) ?_
  refine nm ?_
  refine qq (Qt.convI rfl rfl Tryz.underlying5) ?_
  refine sp (Stp.buildSlice rfl (by decide) (by decide) rfl (by decide) rfl rfl rfl (nodup_of rfl)) ?_
  refine nm ?_
  refine sp (by first | exact Stp.appendC rfl (by decide) (by decide) rfl rfl (by omega) | exact Stp.appendM rfl (by decide) (by decide) rfl rfl rfl (by omega)) ?_
  refine AWL.rep 16 (tr (i.acc ++ [(UInt8.ofNat (128 + i.k % 128))])) rfl (app_byte (u8_byte (by omega)) rfl) ?_
  refine nm ?_
  refine qq Qt.assign ?_
  refine nl ?_
  refine AW.region ?_
  refine qq Qt.move ?_
  refine qq (Qt.binOp rfl rfl (pbShr7 _)) ?_
  refine nm ?_
  refine qq Qt.assign ?_
  refine nl ?_
  obtain ⟨hf2, hk2⟩ := pow_step i.f1 i.kl (by omega)
  refine ⟨⟨i.f - 1, i.k / 128, i.acc ++ [(UInt8.ofNat (128 + i.k % 128))], by omega, by omega, hk2, by simp; omega, by rw [← i.eq, varN_big i.f1 (by omega)]; simp⟩, Weak.trans (Weak.renR (a := 16) (b := 7) rfl (by decide) (by decide)) (Weak.sim ⟨rfl, rfl, ⟨_, rfl, T.sim_refl _⟩, trivial⟩ rfl rfl), ?_⟩
  show i.k / 128 < i.k
  omega
 have k2 := c2
 try simp only [cnd] at c2
 refine AW.exit ?_
 dsimp only [thenQ, blockQ, reduceIte]
 refine AW.seq (AW.region ?_)
 refine qq Qt.move ?_
 refine qq Qt.move ?_
 refine nm ?_
 refine qq (Qt.convI rfl rfl Tryz.underlying5) ?_
 refine sp (Stp.buildSlice rfl (by decide) (by decide) rfl (by decide) rfl rfl rfl (nodup_of rfl)) ?_
 refine nm ?_
 refine sp (by first | exact Stp.appendC rfl (by decide) (by decide) rfl rfl (by omega) | exact Stp.appendM rfl (by decide) (by decide) rfl rfl rfl (by omega)) ?_
 refine AWL.rep 23 (tr (i.acc ++ [UInt8.ofNat i.k])) rfl (app_byte (u8_byte (by omega)) rfl) ?_
 refine nm ?_
 refine qq (Qt.convBS rfl rfl rfl Tryz.underlying237 Tryz.underlying5 Tryz.underlying9) ?_
 refine qq Qt.assign ?_
 refine nl ?_
 refine AW.ret (endQ_ret (.cons (.tmp 2) .nil) ?_)
 rw [show varS n = ⟨(i.acc ++ [UInt8.ofNat i.k]).toArray⟩ from by unfold varS varI; rw [if_pos (by omega), ← i.eq, varN_small i.f1 (by omega)]]
 rfl
set_option maxHeartbeats 1000000 in
set_option maxRecDepth 10000 in
theorem VarS_con (n : Int) : Con Tryz.prog 205 [.v (iv n)] [] (fun y _ => y = .v (.string (varS n))) := by
 refine Con.of_body Tryz.func205 rfl (by simp) ?_
 rw [Tryz.ntmps205]
 refine AW.seq (AW.region ?_)
 refine qq Qt.assign ?_
 refine nl ?_
 refine AW.seq (AW.seq (AW.region ?_))
 refine qq Qt.move ?_
 refine cv Tryz.call43 rfl rfl (l1In_con _ _ _) ?_
 refine nm ?_
 refine qq (Qt.notB rfl) ?_
 refine nl ?_
 refine AW.cond rfl (fun c1 => ?_) (fun c1 => ?_)
 ·have k1 := c1
  try simp only [cnd] at c1
  refine AW.seq (AW.region ?_)
  refine qq Qt.assign ?_
  refine nl ?_
  refine AW.ret (endQ_ret (.cons (.tmp 2) .nil) ?_)
  rw [show varS n = ByteArray.empty from by unfold varS varI; rw [if_neg (by omega)]; rfl]
  rfl
 have k1 := c1
 try simp only [cnd] at c1
 refine jd (AW.seq (AW.region ?_))
 refine sp (Stp.buildSlice rfl (by decide) (by decide) rfl (by decide) rfl rfl rfl (nodup_of rfl)) ?_
 refine nm ?_
 refine qq Qt.assign ?_
 refine nl ?_
 refine AW.seq (AW.block ?_)
 refine AW.weak (L' := [.sl 0 (.v (iv (n.toNat : Nat))), .sl 3 (.h 7 []), .rt 7 .row (tr ([] : List UInt8))]) (Weak.sim ⟨(by simp only [slotL, reduceIte, Nat.reduceEqDiff]; congr 2; omega), rfl, ⟨_, rfl, sim_nil⟩, trivial⟩ rfl rfl) ?_
 refine AW.loop (fun i : VarInv n.toNat => [.sl 0 (.v (iv i.k)), .sl 3 (.h 7 []), .rt 7 .row (tr i.acc)]) (fun i => i.k) ⟨7, n.toNat, [], by omega, by omega, by rw [show (128 : Nat) ^ 7 = 562949953421312 by decide]; omega, by simp, rfl⟩ ?_
 intro i
 have hk7 := pow_le7 i.f7 i.kl
 have hal := i.al
 have hf1 := i.f1
 refine AW.seq (AW.seq (AW.region ?_))
 refine qq Qt.move ?_
 refine qq (Qt.binOp rfl rfl rfl) ?_
 refine nl ?_
 refine AW.cond rfl (fun c2 => ?_) (fun c2 => ?_)
 ·have k2 := c2
  try simp only [cnd] at c2
  refine jd (AW.block (AW.seq (AW.region ?_)))
  refine qq Qt.move ?_
  refine nm ?_
  refine qq Qt.move ?_
  refine qq (Qt.binOp rfl rfl (pbRem128 _)) ?_
  refine qq (Qt.binOp rfl rfl (by first | exact pbAdd (by omega) | rfl)) ?_
  refine nm ?_
  refine qq (Qt.convI rfl rfl Tryz.underlying5) ?_
  refine sp (Stp.buildSlice rfl (by decide) (by decide) rfl (by decide) rfl rfl rfl (nodup_of rfl)) ?_
  refine nm ?_
  refine sp (by first | exact Stp.appendC rfl (by decide) (by decide) rfl rfl (by omega) | exact Stp.appendM rfl (by decide) (by decide) rfl rfl rfl (by omega)) ?_
  refine AWL.rep 16 (tr (i.acc ++ [(UInt8.ofNat (128 + i.k % 128))])) rfl (app_byte (u8_byteI (n := 128 + i.k % 128) (by omega) (by omega)) rfl) ?_
  refine nm ?_
  refine qq Qt.assign ?_
  refine nl ?_
  refine AW.region ?_
  refine qq Qt.move ?_
  refine qq (Qt.binOp rfl rfl (pbQuo128 _ (by omega))) ?_
  refine nm ?_
  refine qq Qt.assign ?_
  refine nl ?_
  obtain ⟨hf2, hk2⟩ := pow_step i.f1 i.kl (by omega)
  refine ⟨⟨i.f - 1, i.k / 128, i.acc ++ [(UInt8.ofNat (128 + i.k % 128))], by omega, by omega, hk2, by simp; omega, by rw [← i.eq, varN_big i.f1 (by omega)]; simp⟩, Weak.trans (Weak.renR (a := 16) (b := 7) rfl (by decide) (by decide)) (Weak.sim ⟨rfl, rfl, ⟨_, rfl, T.sim_refl _⟩, trivial⟩ rfl rfl), ?_⟩
  show i.k / 128 < i.k
  omega
 have k2 := c2
 try simp only [cnd] at c2
 refine AW.exit ?_
 dsimp only [thenQ, blockQ, reduceIte]
 refine AW.seq (AW.region ?_)
 refine qq Qt.move ?_
 refine qq Qt.move ?_
 refine nm ?_
 refine qq (Qt.convI rfl rfl Tryz.underlying5) ?_
 refine sp (Stp.buildSlice rfl (by decide) (by decide) rfl (by decide) rfl rfl rfl (nodup_of rfl)) ?_
 refine nm ?_
 refine sp (by first | exact Stp.appendC rfl (by decide) (by decide) rfl rfl (by omega) | exact Stp.appendM rfl (by decide) (by decide) rfl rfl rfl (by omega)) ?_
 refine AWL.rep 23 (tr (i.acc ++ [UInt8.ofNat i.k])) rfl (app_byte (u8_byte (by omega)) rfl) ?_
 refine nm ?_
 refine qq (Qt.convBS rfl rfl rfl Tryz.underlying237 Tryz.underlying5 Tryz.underlying9) ?_
 refine qq Qt.assign ?_
 refine nl ?_
 refine AW.ret (endQ_ret (.cons (.tmp 2) .nil) ?_)
 rw [show varS n = ⟨(i.acc ++ [UInt8.ofNat i.k]).toArray⟩ from by unfold varS varI; rw [if_pos (by omega), ← i.eq, varN_small i.f1 (by omega)]]
 rfl
end Go.Proofs.YtimmbmphfgnelaaGreat.VM
