/- Contracts. No conditions. -/
import Derived.Test.YthjfgpkjooaahaaGreatCU3
set_option linter.all false
set_option maxHeartbeats 8000000
set_option maxRecDepth 10000
namespace Go.Proofs.YthjfgpkjooaahaaGreat.VM
open Go Go.RowKit Go.Proofs
theorem progOk1_con (i : DIns) : Con Tryz.prog 260 [.g [.v (iv i.Op), .v (iv i.A), .v (iv i.B), .v (iv i.C)]] [] (fun y _ => y = .v (.bool !(insOk i))) := by
 refine ob Tryz.func260 Tryz.ntmps260 ?_
 refine go [.R,.B,.N,.a,.Z,.R,.G] (k := ?_)
 refine cv Tryz.call261 rfl rfl (InsOkI_con i) ?_
 refine go [.N,.n,.a,.Z] (k := ?_)
 refine rt1 2 ?_
 rfl
theorem ixIns_con {fid : FuncId} {p : DIns → Bool} (hE : Ent Tryz.prog fid) (hp : ∀ x : DIns, Con Tryz.prog fid [.g [.v (iv x.Op), .v (iv x.A), .v (iv x.B), .v (iv x.C)]] [] (fun y _ => y = .v (.bool (p x)))) (l : List DIns) : Con Tryz.prog 329 [.h base [], .f fid []] [.rt base .ro (tr l)] (fun y _ => y = .v (iv (ixOf p l))) := by
 refine ob Tryz.func329 Tryz.ntmps329 ?_
 refine AW.len base [] rfl (by simp [Okp]) rfl (fun hl => ?_)
 refine go [.R,.a,.Z,.R2,.m,.h,.N,.m,.Z] (k := ?_)
 refine AW.block ?_
 refine AW.loopW (fun i : IxInv p l => [.sl 8 (.v (iv i.k)), .sl 7 (.v (iv l.length)), .sl 0 (.h base []), .sl 1 (.f fid []), .rt base .ro (tr l)]) (fun i => l.length - i.k) ⟨0, Nat.zero_le _, rfl⟩ (ws) ?_
 intro i
 have hle := i.le
 refine go [.R,.b,.Z] (k := ?_)
 refine AW.seq ?_
 refine cd (fun c1 => ?_) fun c1 => ?_
 ·try simp only [cnd] at c1
  refine jd (AW.seq (AW.block (sr ?_)))
  refine go [.m,.N,.a,.Z,.R,.m,.m,.N,.m,.i,.G,.N] (k := ?_)
  refine cv hE rfl rfl (hp (l.getD i.k En.dflt)) ?_
  refine go [.Z] (k := ?_)
  refine cd (fun c2 => ?_) fun c2 => ?_
  ·try simp only [cnd] at c2
   refine go [.R,.m,.N,.a,.Z] (k := ?_)
   refine rt1 4 ?_
   rw [ixOf_hit i En.dflt (by omega) c2]
   rfl
  try simp only [cnd] at c2
  refine go [.J,.R1,.b,.m,.Z] (k := ?_)
  refine ⟨⟨i.k + 1, by omega, i.next En.dflt (by omega) c2⟩, ws, ?_⟩
  show l.length - (i.k + 1) < l.length - i.k
  omega
 try simp only [cnd] at c1
 refine AW.exit ?_
 dsimp only [thenQ, blockQ, reduceIte]
 refine go [.R,.a,.Z] (k := ?_)
 refine rt1 4 ?_
 rw [ixOf_none i (by omega)]
 rfl
theorem hasIns_con {fid : FuncId} {p : DIns → Bool} (hE : Ent Tryz.prog fid) (hp : ∀ x : DIns, Con Tryz.prog fid [.g [.v (iv x.Op), .v (iv x.A), .v (iv x.B), .v (iv x.C)]] [] (fun y _ => y = .v (.bool (p x)))) (l : List DIns) : Con Tryz.prog 259 [.h base [], .f fid []] [.rt base .ro (tr l)] (fun y _ => y = .v (.bool (l.any p))) := by
 refine ob Tryz.func259 Tryz.ntmps259 ?_
 refine go [.R,.a,.Z,.R,.m,.m,.N] (k := ?_)
 refine cv Tryz.call329 rfl rfl (ixIns_con hE hp _) ?_
 refine go [.N,.b,.a,.Z] (k := ?_)
 refine rt1 4 ?_
 rw [← ixOf_ge]
 rfl
theorem ProgOkI_con (l : List DIns) : Con Tryz.prog 156 [.h base []] [.rt base .ro (tr l)] (fun y _ => y = .v (.bool (progOk l))) := by
 refine ob Tryz.func156 Tryz.ntmps156 ?_
 refine go [.R,.a,.Z,.R,.m,.h,.N,.b,.m] (k := ?_)
 apply AWL.cut 3
 ·intro Kg1
  refine AWL.split 6 rfl (fun g1 => ?_) (fun g1 => ?_)
  ·refine go [.m,.N] (k := ?_)
   refine AWL.step rfl g1 (Stp.callV rfl (by decide) Tryz.call259 rfl rfl (hasIns_con Tryz.call260 (fun x => progOk1_con x) _)) ?_
   refine go [.N,.n] (k := ?_)
   exact wjT 9 [7, 8, 9] (ifT g1 _ undef) Kg1
  ·refine go [.x,.x,.x] (k := ?_)
   exact wjF 9 [7, 8, 9] (ifF g1 undef _) Kg1
 refine qq (Qt.pickAnd rfl rfl rfl) ?_
 refine go [.a,.Z] (k := ?_)
 refine rt1 2 ?_
 simp only [retX, slotL, reduceIte, Nat.reduceEqDiff]
 congr 2
 rw [Bool.eq_iff_iff]
 simp [progOk]
 omega
theorem ProgOkS_con (l : List DIns) : Con Tryz.prog 243 [.h base []] [.rt base .ro (tr l)] (fun y _ => y = .v (.bool (progOk l))) := by
 refine ob Tryz.func243 Tryz.ntmps243 ?_
 refine AW.len base [] rfl (by simp [Okp]) rfl (fun hl => ?_)
 refine go [.R,.a,.Z,.R2,.m,.h,.N,.b,.Z] (k := ?_)
 refine cd (fun c1 => ?_) fun c1 => ?_
 ·try simp only [cnd] at c1
  refine go [.R,.a,.Z] (k := ?_)
  refine rt1 2 ?_
  rw [show progOk l = false from by simp only [progOk, decide_eq_false (show ¬ l.length ≤ 40 by omega), Bool.false_and]]
  rfl
 try simp only [cnd] at c1
 refine jd (sr2 ?_)
 refine go [.a,.Z] (k := ?_)
 refine AW.block ?_
 refine AW.loopW (fun i : AllInv insOk l => [.sl 3 (.v (iv i.k)), .sl 0 (.h base []), .rt base .ro (tr l)]) (fun i => l.length - i.k) ⟨0, Nat.zero_le _, rfl⟩ (ws) ?_
 intro i
 have hle := i.le
 refine go [.R2,.m,.N,.m,.h,.b,.Z] (k := ?_)
 refine cd (fun c2 => ?_) fun c2 => ?_
 ·try simp only [cnd] at c2
  refine jd (AW.seq (AW.block (sr ?_)))
  refine go [.m,.N,.m,.i,.G,.N] (k := ?_)
  refine cv Tryz.call326 rfl rfl (InsOkS_con (l.getD i.k En.dflt)) ?_
  refine go [.N,.n,.Z] (k := ?_)
  refine cd (fun c3 => ?_) fun c3 => ?_
  ·try simp only [cnd] at c3
   refine go [.R,.a,.Z] (k := ?_)
   refine rt1 2 ?_
   rw [show progOk l = false from by simp only [progOk, i.stop En.dflt (by omega) (by simpa using c3), Bool.and_false]]
   rfl
  try simp only [cnd] at c3
  refine go [.J,.R1,.m,.N,.b,.a,.Z] (k := ?_)
  refine ⟨⟨i.k + 1, by omega, i.next En.dflt (by omega) (by simpa using c3)⟩, ws, ?_⟩
  show l.length - (i.k + 1) < l.length - i.k
  omega
 try simp only [cnd] at c2
 refine AW.exit ?_
 dsimp only [thenQ, blockQ, reduceIte]
 refine go [.R,.a,.Z] (k := ?_)
 refine rt1 2 ?_
 rw [show progOk l = true from by simp only [progOk, i.full (by omega), decide_eq_true (show l.length ≤ 40 by omega), Bool.and_true]]
 rfl
end Go.Proofs.YthjfgpkjooaahaaGreat.VM

