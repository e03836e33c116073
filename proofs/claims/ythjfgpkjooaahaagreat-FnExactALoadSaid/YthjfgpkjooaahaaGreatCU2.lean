/- Contracts. No conditions. -/
import Derived.Test.YthjfgpkjooaahaaGreatCEV1
set_option linter.all false
set_option maxHeartbeats 8000000
set_option maxRecDepth 10000
namespace Go.Proofs.YthjfgpkjooaahaaGreat.VM
open Go Go.RowKit Go.Proofs
set_option maxHeartbeats 4000000 in
set_option maxRecDepth 10000 in
theorem inU_con (x lo hi : Int) : Con Tryz.prog 152 [.v (iv x), .v (iv lo), .v (iv hi)] [] (fun y _ => y = .v (.bool (decide (lo ≤ x) && decide (x ≤ hi)))) := by
 refine ob Tryz.func152 Tryz.ntmps152 ?_
 refine go [.R,.a,.Z,.R,.m,.m,.N,.b,.m] (k := ?_)
 apply AWL.cut 3
 ·intro Kg1
  refine AWL.split 10 rfl (fun g1 => ?_) (fun g1 => ?_)
  ·refine go [.m,.N,.m,.b] (k := ?_)
   exact wjT 13 [11, 12, 13] (ifT g1 _ undef) Kg1
  ·refine go [.x,.x,.x] (k := ?_)
   exact wjF 13 [11, 12, 13] (ifF g1 undef _) Kg1
 refine qq (Qt.pickAnd rfl rfl rfl) ?_
 refine go [.N,.a,.Z] (k := ?_)
 refine rt1 6 ?_
 rfl
set_option maxHeartbeats 4000000 in
set_option maxRecDepth 10000 in
theorem l1InU_con (x lo hi : Int) : Con Tryz.prog 135 [.v (iv x), .v (iv lo), .v (iv hi)] [] (fun y _ => y = .v (.bool (decide (lo ≤ x) && decide (x ≤ hi)))) := by
 refine ob Tryz.func135 Tryz.ntmps135 ?_
 refine go [.R,.a,.Z,.R,.m,.m,.N,.b,.m] (k := ?_)
 apply AWL.cut 3
 ·intro Kg1
  refine AWL.split 10 rfl (fun g1 => ?_) (fun g1 => ?_)
  ·refine go [.m,.N,.m,.b] (k := ?_)
   exact wjT 13 [11, 12, 13] (ifT g1 _ undef) Kg1
  ·refine go [.x,.x,.x] (k := ?_)
   exact wjF 13 [11, 12, 13] (ifF g1 undef _) Kg1
 refine qq (Qt.pickAnd rfl rfl rfl) ?_
 refine go [.N,.a,.Z] (k := ?_)
 refine rt1 6 ?_
 rfl
def word (x : Int) : Bool := decide (-1000000 ≤ x) && decide (x ≤ 1000000)
set_option maxHeartbeats 4000000 in
set_option maxRecDepth 10000 in
theorem isPlace_con (x : Int) : Con Tryz.prog 331 [.v (iv x)] [] (fun y _ => y = .v (.bool (decide (0 ≤ x) && decide (x ≤ 40)))) := by
 refine ob Tryz.func331 Tryz.ntmps331 ?_
 refine go [.R,.a,.Z,.R,.m] (k := ?_)
 refine cv Tryz.call152 rfl rfl (inU_con _ _ _) ?_
 refine go [.N,.a,.Z] (k := ?_)
 refine rt1 2 ?_
 rfl
set_option maxHeartbeats 4000000 in
set_option maxRecDepth 10000 in
theorem isWord_con (x : Int) : Con Tryz.prog 257 [.v (iv x)] [] (fun y _ => y = .v (.bool (word x))) := by
 refine ob Tryz.func257 Tryz.ntmps257 ?_
 refine go [.R,.a,.Z,.R,.m] (k := ?_)
 refine cv Tryz.call152 rfl rfl (inU_con _ _ _) ?_
 refine go [.N,.a,.Z] (k := ?_)
 refine rt1 2 ?_
 rfl
set_option maxHeartbeats 4000000 in
set_option maxRecDepth 10000 in
theorem l5Word_con (x : Int) : Con Tryz.prog 244 [.v (iv x)] [] (fun y _ => y = .v (.bool (word x))) := by
 refine ob Tryz.func244 Tryz.ntmps244 ?_
 refine go [.R,.a,.Z,.R,.m] (k := ?_)
 refine cv Tryz.call135 rfl rfl (l1InU_con _ _ _) ?_
 refine go [.N,.a,.Z] (k := ?_)
 refine rt1 2 ?_
 rfl
set_option maxHeartbeats 4000000 in
set_option maxRecDepth 10000 in
theorem wordsOk1_con (x : Int) : Con Tryz.prog 256 [.v (iv x)] [] (fun y _ => y = .v (.bool !(word x))) := by
 refine ob Tryz.func256 Tryz.ntmps256 ?_
 refine go [.R,.a,.Z,.R,.m] (k := ?_)
 refine cv Tryz.call257 rfl rfl (isWord_con _) ?_
 refine go [.N,.n,.a,.Z] (k := ?_)
 refine rt1 2 ?_
 rfl
set_option maxHeartbeats 4000000 in
set_option maxRecDepth 10000 in
theorem l5Words_con (l : List Int) : Con Tryz.prog 137 [.h base []] [.rt base .ro (tr l)] (fun y _ => y = .v (.bool (l.all word))) := by
 refine ob Tryz.func137 Tryz.ntmps137 ?_
 refine AW.len base [] rfl (by simp [Okp]) rfl (fun hl => ?_)
 refine go [.R,.a,.Z,.R2,.a,.Z] (k := ?_)
 refine AW.block ?_
 refine AW.loopW (fun i : AllInv word l => [.sl 3 (.v (iv i.k)), .sl 0 (.h base []), .rt base .ro (tr l)]) (fun i => l.length - i.k) ⟨0, Nat.zero_le _, rfl⟩ (ws) ?_
 intro i
 have hle := i.le
 refine go [.R2,.m,.N,.m,.h,.b,.Z] (k := ?_)
 refine cd (fun c1 => ?_) fun c1 => ?_
 ·try simp only [cnd] at c1
  refine jd (AW.seq (AW.block (sr ?_)))
  refine go [.m,.N,.m,.i,.l,.N] (k := ?_)
  refine cv Tryz.call244 rfl rfl (l5Word_con _) ?_
  refine go [.N,.n,.Z] (k := ?_)
  refine cd (fun c2 => ?_) fun c2 => ?_
  ·try simp only [cnd] at c2
   refine go [.R,.a,.Z] (k := ?_)
   refine rt1 2 ?_
   rw [show l.all word = false from i.stop En.dflt (by omega) (by simpa using c2)]
   rfl
  try simp only [cnd] at c2
  refine go [.J,.R1,.m,.N,.b,.a,.Z] (k := ?_)
  refine ⟨⟨i.k + 1, by omega, i.next En.dflt (by omega) (by simpa using c2)⟩, ws, ?_⟩
  show l.length - (i.k + 1) < l.length - i.k
  omega
 try simp only [cnd] at c1
 refine AW.exit ?_
 dsimp only [thenQ, blockQ, reduceIte]
 refine go [.R,.a,.Z] (k := ?_)
 refine rt1 2 ?_
 rw [show l.all word = true from i.full (by omega)]
 rfl
theorem ixU_con {fid : FuncId} {p : Int → Bool} (hE : Ent Tryz.prog fid) (hp : ∀ x : Int, Con Tryz.prog fid [.v (iv x)] [] (fun y _ => y = .v (.bool (p x)))) (l : List Int) : Con Tryz.prog 306 [.h base [], .f fid []] [.rt base .ro (tr l)] (fun y _ => y = .v (iv (ixOf p l))) := by
 refine ob Tryz.func306 Tryz.ntmps306 ?_
 refine AW.len base [] rfl (by simp [Okp]) rfl (fun hl => ?_)
 refine go [.R,.a,.Z,.R2,.m,.h,.N,.m,.Z] (k := ?_)
 refine AW.block ?_
 refine AW.loopW (fun i : IxInv p l => [.sl 8 (.v (iv i.k)), .sl 7 (.v (iv l.length)), .sl 0 (.h base []), .sl 1 (.f fid []), .rt base .ro (tr l)]) (fun i => l.length - i.k) ⟨0, Nat.zero_le _, rfl⟩ (ws) ?_
 intro i
 have hle := i.le
 refine go [.R,.b,.Z] (k := ?_)
 refine AW.seq ?_
 refine cd (fun c1 => ?_) fun c1 => ?_
 ·try simp only [cnd] at c1
  refine jd (AW.seq (AW.block (sr ?_)))
  refine go [.m,.N,.a,.Z,.R,.m,.m,.N,.m,.i,.l,.N] (k := ?_)
  refine cv hE rfl rfl (hp (l.getD i.k En.dflt)) ?_
  refine go [.Z] (k := ?_)
  refine cd (fun c2 => ?_) fun c2 => ?_
  ·try simp only [cnd] at c2
   refine go [.R,.m,.N,.a,.Z] (k := ?_)
   refine rt1 4 ?_
   rw [ixOf_hit i En.dflt (by omega) c2]
   rfl
  try simp only [cnd] at c2
  refine go [.J,.R1,.b,.m,.Z] (k := ?_)
  refine ⟨⟨i.k + 1, by omega, i.next En.dflt (by omega) c2⟩, ws, ?_⟩
  show l.length - (i.k + 1) < l.length - i.k
  omega
 try simp only [cnd] at c1
 refine AW.exit ?_
 dsimp only [thenQ, blockQ, reduceIte]
 refine go [.R,.a,.Z] (k := ?_)
 refine rt1 4 ?_
 rw [ixOf_none i (by omega)]
 rfl
theorem hasU_con {fid : FuncId} {p : Int → Bool} (hE : Ent Tryz.prog fid) (hp : ∀ x : Int, Con Tryz.prog fid [.v (iv x)] [] (fun y _ => y = .v (.bool (p x)))) (l : List Int) : Con Tryz.prog 255 [.h base [], .f fid []] [.rt base .ro (tr l)] (fun y _ => y = .v (.bool (l.any p))) := by
 refine ob Tryz.func255 Tryz.ntmps255 ?_
 refine go [.R,.a,.Z,.R,.m,.m,.N] (k := ?_)
 refine cv Tryz.call306 rfl rfl (ixU_con hE hp _) ?_
 refine go [.N,.b,.a,.Z] (k := ?_)
 refine rt1 4 ?_
 rw [← ixOf_ge]
 rfl
set_option maxHeartbeats 4000000 in
set_option maxRecDepth 10000 in
theorem wordsOk_con (l : List Int) : Con Tryz.prog 153 [.h base []] [.rt base .ro (tr l)] (fun y _ => y = .v (.bool (l.all word))) := by
 refine ob Tryz.func153 Tryz.ntmps153 ?_
 refine go [.R,.a,.Z,.R,.m] (k := ?_)
 refine cv Tryz.call255 rfl rfl (hasU_con Tryz.call256 (fun x => wordsOk1_con x) l) ?_
 refine go [.N,.n,.a,.Z] (k := ?_)
 refine rt1 2 ?_
 rw [show l.all word = !(l.any fun x => !word x) from by rw [Bool.eq_iff_iff]; simp]
 rfl
set_option maxHeartbeats 4000000 in
set_option maxRecDepth 10000 in
theorem CpuOkS_con (pc : Int) (l : List Int) : Con Tryz.prog 245 [.g [.v (iv pc), .h base []]] [.rt base .ro (tr l)] (fun y _ => y = .v (.bool (decide (0 ≤ pc) && decide (pc ≤ 40) && (l.length == 4 && l.all word)))) := by
 refine ob Tryz.func245 Tryz.ntmps245 ?_
 refine go [.R,.B,.N,.a,.Z,.R,.f,.l,.N] (k := ?_)
 refine cv Tryz.call135 rfl rfl (l1InU_con _ _ _) ?_
 refine go [.N,.m] (k := ?_)
 apply AWL.cut 4
 ·intro Kg1
  refine AWL.split 6 rfl (fun g1 => ?_) (fun g1 => ?_)
  ·refine go [.f,.l,.N,.h,.b] (k := ?_)
   exact wjT 10 [7, 8, 9, 10] (ifT g1 _ undef) Kg1
  ·refine go [.x,.x,.x,.x] (k := ?_)
   exact wjF 10 [7, 8, 9, 10] (ifF g1 undef _) Kg1
 refine qq (Qt.pickAnd rfl rfl rfl) ?_
 refine go [.N,.m] (k := ?_)
 apply AWL.cut 3
 ·intro Kg2
  refine AWL.split 12 rfl (fun g2 => ?_) (fun g2 => ?_)
  ·refine go [.f,.l,.N] (k := ?_)
   refine AWL.step rfl g2 (Stp.callV rfl (by decide) Tryz.call137 rfl rfl (l5Words_con _)) ?_
   refine go [.N] (k := ?_)
   exact wjT 15 [13, 14, 15] (ifT g2 _ undef) Kg2
  ·refine go [.x,.x,.x] (k := ?_)
   exact wjF 15 [13, 14, 15] (ifF g2 undef _) Kg2
 refine qq (Qt.pickAnd rfl rfl rfl) ?_
 refine go [.a,.Z] (k := ?_)
 refine rt1 2 ?_
 have e : ((l.length : Int) == 4) = (l.length == 4) := by rw [Bool.eq_iff_iff]; simp; omega
 simp only [retX, slotL, reduceIte, Nat.reduceEqDiff, ← e, Bool.and_assoc]
set_option maxHeartbeats 4000000 in
set_option maxRecDepth 10000 in
theorem CpuOkI_con (pc : Int) (l : List Int) : Con Tryz.prog 262 [.g [.v (iv pc), .h base []]] [.rt base .ro (tr l)] (fun y _ => y = .v (.bool (decide (0 ≤ pc) && decide (pc ≤ 40) && (l.length == 4 && l.all word)))) := by
 refine ob Tryz.func262 Tryz.ntmps262 ?_
 refine go [.R,.B,.N,.a,.Z,.R,.f,.l,.N] (k := ?_)
 refine cv Tryz.call331 rfl rfl (isPlace_con _) ?_
 refine go [.N,.m] (k := ?_)
 apply AWL.cut 4
 ·intro Kg1
  refine AWL.split 6 rfl (fun g1 => ?_) (fun g1 => ?_)
  ·refine go [.f,.l,.N,.h,.b] (k := ?_)
   exact wjT 10 [7, 8, 9, 10] (ifT g1 _ undef) Kg1
  ·refine go [.x,.x,.x,.x] (k := ?_)
   exact wjF 10 [7, 8, 9, 10] (ifF g1 undef _) Kg1
 refine qq (Qt.pickAnd rfl rfl rfl) ?_
 refine go [.N,.m] (k := ?_)
 apply AWL.cut 3
 ·intro Kg2
  refine AWL.split 12 rfl (fun g2 => ?_) (fun g2 => ?_)
  ·refine go [.f,.l,.N] (k := ?_)
   refine AWL.step rfl g2 (Stp.callV rfl (by decide) Tryz.call153 rfl rfl (wordsOk_con _)) ?_
   refine go [.N] (k := ?_)
   exact wjT 15 [13, 14, 15] (ifT g2 _ undef) Kg2
  ·refine go [.x,.x,.x] (k := ?_)
   exact wjF 15 [13, 14, 15] (ifF g2 undef _) Kg2
 refine qq (Qt.pickAnd rfl rfl rfl) ?_
 refine go [.a,.Z] (k := ?_)
 refine rt1 2 ?_
 have e : ((l.length : Int) == 4) = (l.length == 4) := by rw [Bool.eq_iff_iff]; simp; omega
 simp only [retX, slotL, reduceIte, Nat.reduceEqDiff, ← e, Bool.and_assoc]
end Go.Proofs.YthjfgpkjooaahaaGreat.VM

