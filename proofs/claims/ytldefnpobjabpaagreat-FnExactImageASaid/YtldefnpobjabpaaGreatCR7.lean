/- Contracts. No conditions. -/
import Derived.Test.YtldefnpobjabpaaGreatCR5
set_option linter.all false
set_option maxHeartbeats 8000000
set_option maxRecDepth 10000
namespace Go.Proofs.YtldefnpobjabpaaGreat.VM
open Go Go.RowKit Go.Proofs
theorem sim_rep8 : (T.s 1 4 fun _ j => [T.v (Value.int .u8 0)].getD j .j).sim (tr (List.replicate 4 (0 : UInt8))) :=
 ⟨fun k c => (En.cs ((List.replicate 4 (0 : UInt8)).getD k En.dflt)).getD c .j, rfl, fun k c hk hc => match k, hk, c, hc with
  | 0, _, 0, _ => tsr | 1, _, 0, _ => tsr | 2, _, 0, _ => tsr | 3, _, 0, _ => tsr
  | 0, _, c + 1, hc => absurd hc (by omega) | 1, _, c + 1, hc => absurd hc (by omega) | 2, _, c + 1, hc => absurd hc (by omega) | 3, _, c + 1, hc => absurd hc (by omega)
  | k + 4, hk, _, _ => absurd hk (by omega)⟩
set_option maxHeartbeats 4000000 in
set_option maxRecDepth 10000 in
theorem FixedS_con (n : Nat) (hn : n < 4294967296) : Con Tryz.prog 170 [.v (iv n), .v (iv 4)] [] (fun y _ => y = .v (.string (fixK n 4))) := by
 refine ob Tryz.func170 Tryz.ntmps170 ?_
 refine go [.R,.a,.Z,.R2,.m] (k := ?_)
 refine cv Tryz.call148 rfl rfl (l1InU_con _ _ _) ?_
 refine go [.N,.n,.m] (k := ?_)
 apply AWL.cut 2
 ·intro Kg1
  refine AWL.splitF 10 rfl (fun g1 => ?_) (fun g1 => ?_)
  ·have eg1 := g1
   try simp only [cnd] at eg1
   refine go [.m,.N,.b] (k := ?_)
   exact wjT 12 [11, 12] (ifF g1 _ undef) Kg1
  ·refine go [.x,.x] (k := ?_)
   exact wjF 12 [11, 12] (ifT g1 undef _) Kg1
 refine qq (Qt.pickOr rfl rfl rfl) ?_
 refine go [.Z] (k := ?_)
 refine AW.cond rfl (fun c2 => (by exfalso; first | (cases c2; done) | (simp at c2; done) | (simp only [cnd] at c2; omega))) (fun c2 => ?_)
 try simp only [cnd] at c2
 refine go [.J,.R,.a,.Z,.R2,.a,.Z] (k := ?_)
 refine AW.block ?_
 refine AW.loopW (fun i : KInv 4 => [.sl 6 (.v (iv i.k)), .sl 0 (.v (iv (shN n i.k : Nat))), .sl 1 (.v (iv 4)), .sl 5 (.v (.string (fixK n i.k)))]) (fun i => 4 - i.k) ⟨0, Nat.zero_le _⟩ (ws) ?_
 intro i
 have hle := i.le
 have hfs := fixK_size n i.k
 have hsl := shN_le n i.k
 refine go [.R2,.m,.N,.m,.b,.Z] (k := ?_)
 refine cd (fun c3 => ?_) fun c3 => ?_
 ·try simp only [cnd] at c3
  refine jd (AW.seq (AW.block (sr ?_)))
  refine go [.m,.N] (k := ?_)
  refine qq (Qt.binOp rfl rfl (pbRem256 _)) ?_
  refine qq (Qt.convI rfl rfl Tryz.underlying5) ?_
  refine go [.S] (k := ?_)
  refine AWL.rep 22 (tr ([UInt8.ofNat (shN n i.k)] : List UInt8)) rfl (sim_row1 rfl rfl rfl (fun k hk => match k, hk with | 0, _ => congrArg T.v (u8_mod _) | k + 1, hk => absurd hk (by omega))) ?_
  refine go [.N] (k := ?_)
  refine qq (Qt.convBS rfl rfl rfl Tryz.underlying241 Tryz.underlying5 Tryz.underlying9) ?_
  refine go [.m] (k := ?_)
  refine qq (Qt.binOp rfl rfl (pbCat (by have h1 : (ByteArray.mk [UInt8.ofNat (shN n i.k)].toArray).size = 1 := rfl; omega))) ?_
  refine go [.N,.a,.Z,.R1,.m] (k := ?_)
  refine qq (Qt.binOp rfl rfl (pbQuo256 _ (by omega))) ?_
  refine go [.N,.a,.Z,.R1,.m,.b,.N,.a,.Z] (k := ?_)
  refine ⟨⟨i.k + 1, by omega⟩, ws, ?_⟩
  show 4 - (i.k + 1) < 4 - i.k
  omega
 try simp only [cnd] at c3
 have h4 : shN n i.k = 0 := by rw [show i.k = 4 by omega]; exact shN_4 hn
 refine AW.exit ?_
 dsimp only [thenQ, blockQ, reduceIte]
 refine go [.R2,.m,.b,.Z] (k := ?_)
 refine AW.cond rfl (fun c4 => (by exfalso; first | (cases c4; done) | (simp at c4; done) | (simp only [cnd] at c4; omega))) (fun c4 => ?_)
 try simp only [cnd] at c4
 refine go [.J,.R,.m,.N,.a,.Z] (k := ?_)
 refine rt1 4 ?_
 rw [show fixK n 4 = fixK n i.k from by rw [show i.k = 4 by omega]]
 rfl
set_option maxHeartbeats 4000000 in
set_option maxRecDepth 10000 in
theorem FixedI_con (n : Nat) (hn : n < 4294967296) : Con Tryz.prog 173 [.v (iv n), .v (iv 4)] [] (fun y _ => y = .v (.string (fixK n 4))) := by
 refine ob Tryz.func173 Tryz.ntmps173 ?_
 have hw1 : IntKind.i64.wrap (IntKind.i64.wrap (1 * 2 ^ min (8 * 4 : Int).toNat 64) - 1) = 4294967295 := by first | decide | rfl
 refine go [.R,.a,.Z,.R2,.m] (k := ?_)
 refine cv Tryz.call156 rfl rfl (inU_con _ _ _) ?_
 refine go [.N,.n,.m] (k := ?_)
 apply AWL.cut 7
 ·intro Kg1
  refine AWL.splitF 10 rfl (fun g1 => ?_) (fun g1 => ?_)
  ·have eg1 := g1
   try simp only [cnd] at eg1
   refine go [.m,.N,.m] (k := ?_)
   refine qg (nF g1) (Qt.binOp rfl rfl (by first | exact pbMul (by omega) | rfl)) ?_
   refine qg (nF g1) (Qt.binOp rfl rfl (by first | exact pbShl1i (by omega) | rfl)) ?_
   refine go [.N,.b] (k := ?_)
   refine AWL.step rfl (nF g1) (Stp.callV rfl (by decide) Tryz.call156 rfl rfl (inU_con _ _ _)) ?_
   refine go [.N,.n] (k := ?_)
   exact wjT 17 [11, 12, 13, 14, 15, 16, 17] (ifF g1 _ undef) Kg1
  ·refine go [.x,.x,.x,.x,.N,.x,.x,.x] (k := ?_)
   exact wjF 17 [11, 12, 13, 14, 15, 16, 17] (ifT g1 undef _) Kg1
 refine qq (Qt.pickOr rfl rfl rfl) ?_
 refine go [.Z] (k := ?_)
 refine AW.cond rfl (fun c2 => (by exfalso; first | (cases c2; done) | (simp at c2; done) | (simp only [cnd] at c2; omega))) (fun c2 => ?_)
 try simp only [cnd] at c2
 refine go [.J,.R,.m,.N] (k := ?_)
 refine sp (Stp.makeSlice rfl (by decide) (by decide) rfl rfl (by omega) (by omega) (by omega)) ?_
 refine go [.N,.a,.Z,.R2,.m,.b,.N,.a,.Z] (k := ?_)
 refine AW.block ?_
 refine AW.loopW (fun i : KInv 4 => [.sl 6 (.v (iv (3 - (i.k : Int)))), .sl 0 (.v (iv (shN n i.k : Nat))), .sl 5 (.h 20 []), .rt 20 .row (tr (fxL n i.k))]) (fun i => 4 - i.k) ⟨0, Nat.zero_le _⟩ (Weak.sim ⟨rfl, rfl, rfl, ⟨_, rfl, sim_rep8⟩, trivial⟩ rfl rfl) ?_
 intro i
 have hle := i.le
 have hfl := fxL_len n i.k
 have e3 : (3 - (i.k : Int)).toNat = 3 - i.k := by omega
 refine go [.R2,.m,.b,.Z] (k := ?_)
 refine cd (fun c3 => ?_) fun c3 => ?_
 ·try simp only [cnd] at c3
  refine jd (AW.seq (AW.block (sr ?_)))
  refine go [.m,.N,.m,.m] (k := ?_)
  refine qq (Qt.convI rfl rfl Tryz.underlying5) ?_
  refine go [.N] (k := ?_)
  refine qq (Qt.indexAddr rfl rfl rfl rfl sl241 sz5 (by decide) (by first | omega | (have := fxL_len n i.k; omega))) ?_
  refine go [.s,.Z,.R1,.m,.N] (k := ?_)
  refine qq (Qt.binOp rfl rfl (pbShr8 _)) ?_
  refine go [.a,.Z,.R1,.m,.N,.b,.a,.Z] (k := ?_)
  refine ⟨⟨i.k + 1, by omega⟩, Weak.sim ⟨(by simp only [slotL, reduceIte, Nat.reduceEqDiff]; congr 2; omega), st1, rfl, ⟨_, rfl, (set_sim (fun k c hk => by simp only [upd_app, e3, hk, false_and, if_false]; try rfl) (fun c hc => match c, hc with | 0, _ => (by simp only [upd_app, e3, eq_self, and_self, if_true]; rw [u8_all]; exact tsr) | c + 1, hc => absurd hc (by simp only [En.n]; omega)))⟩, trivial⟩ rfl rfl, ?_⟩
  show 4 - (i.k + 1) < 4 - i.k
  omega
 try simp only [cnd] at c3
 refine AW.exit ?_
 dsimp only [thenQ, blockQ, reduceIte]
 refine go [.R,.m,.N] (k := ?_)
 refine qq (Qt.convBS rfl rfl rfl Tryz.underlying241 Tryz.underlying5 Tryz.underlying9) ?_
 refine go [.a,.Z] (k := ?_)
 rw [show i.k = 4 by omega]
 refine rt1 4 ?_
 rw [← fix_eq n]
 rfl
end Go.Proofs.YtldefnpobjabpaaGreat.VM

