/- Contracts. No conditions. -/
import Derived.Test.YtldefnpobjabpaaGreatCU2
set_option linter.all false
set_option maxHeartbeats 8000000
set_option maxRecDepth 10000
namespace Go.Proofs.YtldefnpobjabpaaGreat.VM
open Go Go.RowKit Go.Proofs
set_option maxHeartbeats 1000000 in
set_option maxRecDepth 10000 in
theorem VarI_con (n : Int) : Con Tryz.prog 234 [.v (iv n)] [] (fun y _ => y = .v (.string (varS n))) := by
 refine ob Tryz.func234 Tryz.ntmps234 ?_
 refine go [.R,.a,.Z,.R2,.m] (k := ?_)
 refine cv Tryz.call156 rfl rfl (inU_con _ _ _) ?_
 refine go [.N,.n,.Z] (k := ?_)
 refine cd (fun c1 => ?_) fun c1 => ?_
 ·try simp only [cnd] at c1
  refine go [.R,.a,.Z] (k := ?_)
  refine rt1 2 ?_
  rw [show varS n = ByteArray.empty from by unfold varS varI; rw [if_neg (by omega)]; rfl]
  rfl
 try simp only [cnd] at c1
 refine go [.J,.R,.S,.N,.a,.Z] (k := ?_)
 refine AW.seq (AW.block ?_)
 refine AW.weak (L' := [.sl 0 (.v (iv (n.toNat : Nat))), .sl 3 (.h 7 []), .rt 7 .row (tr ([] : List UInt8))]) (Weak.sim ⟨(by simp only [slotL, reduceIte, Nat.reduceEqDiff]; congr 2; omega), rfl, ⟨_, rfl, sim_nil⟩, trivial⟩ rfl rfl) ?_
 refine AW.loop (fun i : VarInv n.toNat => [.sl 0 (.v (iv i.k)), .sl 3 (.h 7 []), .rt 7 .row (tr i.acc)]) (fun i => i.k) ⟨7, n.toNat, [], by omega, by omega, by rw [show (128 : Nat) ^ 7 = 562949953421312 by decide]; omega, by simp, rfl⟩ ?_
 intro i
 have hk7 := pow_le7 i.f7 i.kl
 have hal := i.al
 have hf1 := i.f1
 refine go [.R2,.m,.b,.Z] (k := ?_)
 refine cd (fun c2 => ?_) fun c2 => ?_
 ·try simp only [cnd] at c2
  refine jd (AW.block (sr ?_))
  refine go [.m,.N,.m] (k := ?_)
  refine qq (Qt.binOp rfl rfl (pbAnd127 _ (by omega))) ?_
  refine qq (Qt.binOp rfl rfl (pbOr128 _)) ?_
  refine go [.N] (k := ?_)
  refine qq (Qt.convI rfl rfl Tryz.underlying5) ?_
  refine go [.S,.N] (k := ?_)
  refine sp (by first | exact Stp.appendC rfl (by decide) (by decide) rfl rfl (by omega) | exact Stp.appendM rfl (by decide) (by decide) rfl rfl rfl (by omega)) ?_
  refine AWL.rep 16 (tr (i.acc ++ [(UInt8.ofNat (128 + i.k % 128))])) rfl (app_byte (u8_byte (by omega)) rfl) ?_
  refine go [.N,.a,.Z,.R1,.m] (k := ?_)
  refine qq (Qt.binOp rfl rfl (pbShr7 _)) ?_
  refine go [.N,.a,.Z] (k := ?_)
  obtain ⟨hf2, hk2⟩ := pow_step i.f1 i.kl (by omega)
  refine ⟨⟨i.f - 1, i.k / 128, i.acc ++ [(UInt8.ofNat (128 + i.k % 128))], by omega, by omega, hk2, by simp; omega, by rw [← i.eq, varN_big i.f1 (by omega)]; simp⟩, Weak.trans (Weak.renR (a := 16) (b := 7) rfl (by decide) (by decide)) (Weak.sim ⟨rfl, rfl, ⟨_, rfl, tsr⟩, trivial⟩ rfl rfl), ?_⟩
  show i.k / 128 < i.k
  omega
 try simp only [cnd] at c2
 refine AW.exit ?_
 dsimp only [thenQ, blockQ, reduceIte]
 refine go [.R,.m,.m,.N] (k := ?_)
 refine qq (Qt.convI rfl rfl Tryz.underlying5) ?_
 refine go [.S,.N] (k := ?_)
 refine sp (by first | exact Stp.appendC rfl (by decide) (by decide) rfl rfl (by omega) | exact Stp.appendM rfl (by decide) (by decide) rfl rfl rfl (by omega)) ?_
 refine AWL.rep 23 (tr (i.acc ++ [UInt8.ofNat i.k])) rfl (app_byte (u8_byte (by omega)) rfl) ?_
 refine go [.N] (k := ?_)
 refine qq (Qt.convBS rfl rfl rfl Tryz.underlying241 Tryz.underlying5 Tryz.underlying9) ?_
 refine go [.a,.Z] (k := ?_)
 refine rt1 2 ?_
 rw [show varS n = ⟨(i.acc ++ [UInt8.ofNat i.k]).toArray⟩ from by unfold varS varI; rw [if_pos (by omega), ← i.eq, varN_small i.f1 (by omega)]]
 rfl
set_option maxHeartbeats 1000000 in
set_option maxRecDepth 10000 in
theorem VarS_con (n : Int) : Con Tryz.prog 228 [.v (iv n)] [] (fun y _ => y = .v (.string (varS n))) := by
 refine ob Tryz.func228 Tryz.ntmps228 ?_
 refine go [.R,.a,.Z,.R2,.m] (k := ?_)
 refine cv Tryz.call148 rfl rfl (l1InU_con _ _ _) ?_
 refine go [.N,.n,.Z] (k := ?_)
 refine cd (fun c1 => ?_) fun c1 => ?_
 ·try simp only [cnd] at c1
  refine go [.R,.a,.Z] (k := ?_)
  refine rt1 2 ?_
  rw [show varS n = ByteArray.empty from by unfold varS varI; rw [if_neg (by omega)]; rfl]
  rfl
 try simp only [cnd] at c1
 refine go [.J,.R,.S,.N,.a,.Z] (k := ?_)
 refine AW.seq (AW.block ?_)
 refine AW.weak (L' := [.sl 0 (.v (iv (n.toNat : Nat))), .sl 3 (.h 7 []), .rt 7 .row (tr ([] : List UInt8))]) (Weak.sim ⟨(by simp only [slotL, reduceIte, Nat.reduceEqDiff]; congr 2; omega), rfl, ⟨_, rfl, sim_nil⟩, trivial⟩ rfl rfl) ?_
 refine AW.loop (fun i : VarInv n.toNat => [.sl 0 (.v (iv i.k)), .sl 3 (.h 7 []), .rt 7 .row (tr i.acc)]) (fun i => i.k) ⟨7, n.toNat, [], by omega, by omega, by rw [show (128 : Nat) ^ 7 = 562949953421312 by decide]; omega, by simp, rfl⟩ ?_
 intro i
 have hk7 := pow_le7 i.f7 i.kl
 have hal := i.al
 have hf1 := i.f1
 refine go [.R2,.m,.b,.Z] (k := ?_)
 refine cd (fun c2 => ?_) fun c2 => ?_
 ·try simp only [cnd] at c2
  refine jd (AW.block (sr ?_))
  refine go [.m,.N,.m] (k := ?_)
  refine qq (Qt.binOp rfl rfl (pbRem128 _)) ?_
  refine go [.b,.N] (k := ?_)
  refine qq (Qt.convI rfl rfl Tryz.underlying5) ?_
  refine go [.S,.N] (k := ?_)
  refine sp (by first | exact Stp.appendC rfl (by decide) (by decide) rfl rfl (by omega) | exact Stp.appendM rfl (by decide) (by decide) rfl rfl rfl (by omega)) ?_
  refine AWL.rep 16 (tr (i.acc ++ [(UInt8.ofNat (128 + i.k % 128))])) rfl (app_byte (u8_byteI (n := 128 + i.k % 128) (by omega) (by omega)) rfl) ?_
  refine go [.N,.a,.Z,.R1,.m] (k := ?_)
  refine qq (Qt.binOp rfl rfl (pbQuo128 _ (by omega))) ?_
  refine go [.N,.a,.Z] (k := ?_)
  obtain ⟨hf2, hk2⟩ := pow_step i.f1 i.kl (by omega)
  refine ⟨⟨i.f - 1, i.k / 128, i.acc ++ [(UInt8.ofNat (128 + i.k % 128))], by omega, by omega, hk2, by simp; omega, by rw [← i.eq, varN_big i.f1 (by omega)]; simp⟩, Weak.trans (Weak.renR (a := 16) (b := 7) rfl (by decide) (by decide)) (Weak.sim ⟨rfl, rfl, ⟨_, rfl, tsr⟩, trivial⟩ rfl rfl), ?_⟩
  show i.k / 128 < i.k
  omega
 try simp only [cnd] at c2
 refine AW.exit ?_
 dsimp only [thenQ, blockQ, reduceIte]
 refine go [.R,.m,.m,.N] (k := ?_)
 refine qq (Qt.convI rfl rfl Tryz.underlying5) ?_
 refine go [.S,.N] (k := ?_)
 refine sp (by first | exact Stp.appendC rfl (by decide) (by decide) rfl rfl (by omega) | exact Stp.appendM rfl (by decide) (by decide) rfl rfl rfl (by omega)) ?_
 refine AWL.rep 23 (tr (i.acc ++ [UInt8.ofNat i.k])) rfl (app_byte (u8_byte (by omega)) rfl) ?_
 refine go [.N] (k := ?_)
 refine qq (Qt.convBS rfl rfl rfl Tryz.underlying241 Tryz.underlying5 Tryz.underlying9) ?_
 refine go [.a,.Z] (k := ?_)
 refine rt1 2 ?_
 rw [show varS n = ⟨(i.acc ++ [UInt8.ofNat i.k]).toArray⟩ from by unfold varS varI; rw [if_pos (by omega), ← i.eq, varN_small i.f1 (by omega)]]
 rfl
end Go.Proofs.YtldefnpobjabpaaGreat.VM

