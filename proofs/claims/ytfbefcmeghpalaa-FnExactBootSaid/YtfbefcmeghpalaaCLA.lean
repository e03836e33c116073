/- Contracts of functions of the program. No conditions beyond those that each states. -/
import Derived.Test.YtfbefcmeghpalaaCL9
set_option linter.all false
namespace Go.Proofs.Ytfbefcmeghpalaa.VM
open Go Go.RowKit Go.Proofs
set_option maxHeartbeats 8000000 in
set_option maxRecDepth 10000 in
theorem boot1_con (p : List DIns) : Con Try.prog 44 [.h base []] [.rt base .ro (tr p)] (fun y _ => y = .v (.bool !(progOk p))) := by
 refine Con.of_body Try.func44 rfl (by simp) ?_
 rw [Try.ntmps44]
 refine AW.seq (AW.region ?_)
 refine qq Qt.assign ?_
 refine nl ?_
 refine AW.seq (AW.region ?_)
 refine qq Qt.move ?_
 refine cv Try.call45 rfl rfl (ProgOkI_con p) ?_
 refine nm ?_
 refine qq (Qt.notB rfl) ?_
 refine qq Qt.assign ?_
 refine nl ?_
 refine AW.ret (endQ_ret (.cons (.tmp 2) .nil) ?_)
 rfl
set_option maxHeartbeats 8000000 in
set_option maxRecDepth 10000 in
theorem ixPG_con {fid : FuncId} {p : (List DIns) → Bool} (hE : Ent Try.prog fid) (hp : ∀ x : List DIns, Con Try.prog fid [.h base []] [.rt base .ro (tr x)] (fun y _ => y = .v (.bool (p x)))) (l : List (List DIns)) : Con Try.prog 78 [.h base [], .f fid []] [.rt base .ro (tr l)] (fun y _ => y = .v (iv (ixOf p l))) := by
 refine Con.of_body Try.func78 rfl (by simp) ?_
 rw [Try.ntmps78]
 refine AW.len base [] rfl (by simp [Okp]) rfl (fun hl => ?_)
 refine AW.seq (AW.region ?_)
 refine qq Qt.assign ?_
 refine nl ?_
 refine AW.seq (AW.seq (AW.region ?_))
 refine qq Qt.move ?_
 refine qq (Qt.lenH rfl rfl rfl sl39) ?_
 refine nm ?_
 refine qq Qt.move ?_
 refine nl ?_
 refine AW.block ?_
 refine AW.loopW (fun i : IxInv p l => [.sl 8 (.v (iv i.k)), .sl 7 (.v (iv l.length)), .sl 0 (.h base []), .sl 1 (.f fid []), .rt base .ro (tr l)]) (fun i => l.length - i.k) ⟨0, Nat.zero_le _, rfl⟩ (Weak.sim ⟨rfl, rfl, rfl, rfl, Rf rfl, trivial⟩ rfl rfl) ?_
 intro i
 have hle := i.le
 refine AW.seq (AW.region ?_)
 refine qq (Qt.binOp rfl rfl rfl) ?_
 refine nl ?_
 refine AW.seq ?_
 refine AW.cond rfl (fun c1 => ?_) (fun c1 => ?_)
 ·have k1 := c1
  try simp only [cnd] at c1
  refine jd (AW.seq (AW.block (AW.seq (AW.region ?_))))
  refine qq Qt.move ?_
  refine nm ?_
  refine qq Qt.assign ?_
  refine nl ?_
  refine AW.seq (AW.region ?_)
  refine qq Qt.move ?_
  refine qq Qt.move ?_
  refine nm ?_
  refine qq Qt.move ?_
  refine qq (Qt.indexAddr rfl rfl rfl rfl sl39 sz73 (by decide) (by omega)) ?_
  refine qq (Qt.load1 rfl rfl rfl ag73) ?_
  refine nm ?_
  refine cv hE rfl rfl (hp (l.getD i.k En.dflt)) ?_
  refine nl ?_
  refine AW.cond rfl (fun c2 => ?_) (fun c2 => ?_)
  ·have k2 := c2
   try simp only [cnd] at c2
   refine AW.seq (AW.region ?_)
   refine qq Qt.move ?_
   refine nm ?_
   refine qq Qt.assign ?_
   refine nl ?_
   refine AW.ret (endQ_ret (.cons (.tmp 4) .nil) ?_)
   rw [ixOf_hit i En.dflt (by omega) c2]
   rfl
  have k2 := c2
  try simp only [cnd] at c2
  refine jd (AW.region ?_)
  refine qq (Qt.binOp rfl rfl (by first | exact pbAdd (by omega) | rfl)) ?_
  refine qq Qt.move ?_
  refine nl ?_
  refine ⟨⟨i.k + 1, by omega, i.next En.dflt (by omega) c2⟩, Weak.sim ⟨st1, rfl, rfl, rfl, Rf rfl, trivial⟩ rfl rfl, ?_⟩
  show l.length - (i.k + 1) < l.length - i.k
  omega
 have k1 := c1
 try simp only [cnd] at c1
 refine AW.exit ?_
 dsimp only [thenQ, blockQ, reduceIte]
 refine AW.seq (AW.region ?_)
 refine qq Qt.assign ?_
 refine nl ?_
 refine AW.ret (endQ_ret (.cons (.tmp 4) .nil) ?_)
 rw [ixOf_none i (by omega)]
 rfl
set_option maxHeartbeats 8000000 in
set_option maxRecDepth 10000 in
theorem hasPG_con {fid : FuncId} {p : (List DIns) → Bool} (hE : Ent Try.prog fid) (hp : ∀ x : List DIns, Con Try.prog fid [.h base []] [.rt base .ro (tr x)] (fun y _ => y = .v (.bool (p x)))) (l : List (List DIns)) : Con Try.prog 43 [.h base [], .f fid []] [.rt base .ro (tr l)] (fun y _ => y = .v (.bool (l.any p))) := by
 refine Con.of_body Try.func43 rfl (by simp) ?_
 rw [Try.ntmps43]
 refine AW.seq (AW.region ?_)
 refine qq Qt.assign ?_
 refine nl ?_
 refine AW.seq (AW.region ?_)
 refine qq Qt.move ?_
 refine qq Qt.move ?_
 refine nm ?_
 refine cv Try.call78 rfl rfl (ixPG_con hE hp _) ?_
 refine nm ?_
 refine qq (Qt.binOp rfl rfl rfl) ?_
 refine qq Qt.assign ?_
 refine nl ?_
 refine AW.ret (endQ_ret (.cons (.tmp 4) .nil) ?_)
 rw [← ixOf_ge]
 rfl
def progsOk (l : List (List DIns)) : Bool := (decide (1 ≤ (l.length : Int)) && decide ((l.length : Int) ≤ 4)) && l.all progOk
theorem any_pg (l : List (List DIns)) : (l.any fun x => !(progOk x)) = !(l.all progOk) := by rw [Bool.eq_iff_iff]; simp
theorem zeros4 {f : Nat → Nat → T} (h : ∀ k, k < 4 → f k 0 = .v (iv 0)) : (T.s 1 4 f).sim (tr [0, 0, 0, (0 : Int)]) := sim_row1 rfl rfl rfl (fun k hk => by
 rw [h k hk]
 match k, hk with | 0, _ => rfl | 1, _ => rfl | 2, _ => rfl | 3, _ => rfl | k + 4, hk => exact absurd hk (by omega))
theorem fds2 {f : Nat → Nat → T} (h0 : f 0 0 = .v (iv 0)) (h1 : f 1 0 = .v (iv 0)) (h2 : f 2 0 = .v (iv (-1))) (h3 : f 3 0 = .v (iv (-1))) : (T.s 1 4 f).sim (tr [0, 0, -1, (-1 : Int)]) := sim_row1 rfl rfl rfl (fun k hk =>
 match k, hk with | 0, _ => h0 | 1, _ => h1 | 2, _ => h2 | 3, _ => h3 | k + 4, hk => absurd hk (by show ¬ k + 4 < 4; omega))
def zeroU : DUnix := ⟨0, 0, [], [], [], [], [], [], []⟩
def bootU (l : List (List DIns)) : DUnix := if progsOk l = true then ⟨2, 0, l, [⟨1, 0, 1, 0, ⟨0, [0, 0, 0, 0]⟩, [0, 0, 0, 0], [0, 0, -1, -1], 0, 0⟩], [⟨0, 1, 0, 0, 2⟩], [], [], [1], []⟩ else zeroU
set_option maxHeartbeats 8000000 in
set_option maxRecDepth 10000 in
theorem l6Progs_con (l : List (List DIns)) : Con Try.prog 39 [.h base []] [.rt base .ro (tr l)] (fun y _ => y = .v (.bool (progsOk l))) := by
 refine Con.of_body Try.func39 rfl (by simp) ?_
 rw [Try.ntmps39]
 refine AW.len (base) [] rfl (by simp [Okp]) rfl (fun hl => ?_)
 refine AW.seq (AW.region ?_)
 refine qq Qt.assign ?_
 refine nl ?_
 refine AW.seq (AW.seq (AW.region ?_))
 refine qq Qt.move ?_
 refine qq (Qt.lenH rfl rfl rfl sl39) ?_
 refine nm ?_
 refine cv Try.call75 rfl rfl (l1In_con _ _ _) ?_
 refine nm ?_
 refine qq (Qt.notB rfl) ?_
 refine nl ?_
 refine AW.cond rfl (fun c1 => ?_) (fun c1 => ?_)
 ·have k1 := c1
  try simp only [cnd] at c1
  refine AW.seq (AW.region ?_)
  refine qq Qt.assign ?_
  refine nl ?_
  refine AW.ret (endQ_ret (.cons (.tmp 2) .nil) ?_)
  rw [show progsOk l = false from by simp only [progsOk]; grind]
  rfl
 have k1 := c1
 try simp only [cnd] at c1
 refine jd (AW.seq (AW.seq (AW.region ?_)))
 refine qq Qt.assign ?_
 refine nl ?_
 refine AW.block ?_
 refine AW.loopW (fun i : AllInv progOk l => [.sl 3 (.v (iv i.k)), .sl 0 (.h base []), .rt base .ro (tr l)]) (fun i => l.length - i.k) ⟨0, Nat.zero_le _, rfl⟩ (Weak.sim ⟨rfl, rfl, Rf rfl, trivial⟩ rfl rfl) ?_
 intro i
 have hle := i.le
 refine AW.seq (AW.seq (AW.region ?_))
 refine qq Qt.move ?_
 refine nm ?_
 refine qq Qt.move ?_
 refine qq (Qt.lenH rfl rfl rfl sl39) ?_
 refine qq (Qt.binOp rfl rfl rfl) ?_
 refine nl ?_
 refine AW.cond rfl (fun c2 => ?_) (fun c2 => ?_)
 ·have k2 := c2
  try simp only [cnd] at c2
  refine jd (AW.seq (AW.block (AW.seq (AW.region ?_))))
  refine qq Qt.move ?_
  refine nm ?_
  refine qq Qt.move ?_
  refine qq (Qt.indexAddr rfl rfl rfl rfl sl39 sz73 (by decide) (by omega)) ?_
  refine qq (Qt.load1 rfl rfl rfl ag73) ?_
  refine nm ?_
  refine cv Try.call76 rfl rfl (ProgOkS_con _) ?_
  refine nm ?_
  refine qq (Qt.notB rfl) ?_
  refine nl ?_
  refine AW.cond rfl (fun c3 => ?_) (fun c3 => ?_)
  ·have k3 := c3
   try simp only [cnd] at c3
   refine AW.seq (AW.region ?_)
   refine qq Qt.assign ?_
   refine nl ?_
   refine AW.ret (endQ_ret (.cons (.tmp 2) .nil) ?_)
   rw [show progsOk l = false from by simp only [progsOk, i.stop En.dflt (by omega) (by simpa using k3), Bool.and_false]]
   rfl
  have k3 := c3
  try simp only [cnd] at c3
  refine jd (AW.region ?_)
  refine qq Qt.move ?_
  refine nm ?_
  refine qq (Qt.binOp rfl rfl (by first | exact pbAdd (by omega) | rfl)) ?_
  refine qq Qt.assign ?_
  refine nl ?_
  refine ⟨⟨i.k + 1, by omega, i.next En.dflt (by omega) (by simpa using k3)⟩, Weak.sim ⟨st1, rfl, Rf rfl, trivial⟩ rfl rfl, ?_⟩
  show l.length - (i.k + 1) < l.length - i.k
  omega
 have k2 := c2
 try simp only [cnd] at c2
 refine AW.exit ?_
 dsimp only [thenQ, blockQ, reduceIte]
 refine AW.seq (AW.region ?_)
 refine qq Qt.assign ?_
 refine nl ?_
 refine AW.ret (endQ_ret (.cons (.tmp 2) .nil) ?_)
 rw [show progsOk l = true from by simp only [progsOk, i.full (by omega)]; grind]
 rfl
end Go.Proofs.Ytfbefcmeghpalaa.VM
