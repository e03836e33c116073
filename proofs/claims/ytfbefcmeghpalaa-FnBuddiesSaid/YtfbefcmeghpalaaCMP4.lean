/- Contracts of functions of the program. No conditions beyond those that each states. -/
import Derived.Test.YtfbefcmeghpalaaCMP2
set_option linter.all false
namespace Go.Proofs.Ytfbefcmeghpalaa.VM
open Go Go.RowKit Go.Proofs
theorem Qt.min2 {P : Program} {L : List E} {dst : Option Tmp} {ty : TypeId} {pos : String} {af : Array Edge} {g : Option (Nat × Bool)} {x y : Operand} {tys : Array TypeId} {a b : Int} (hx : evX L x = .v (iv a)) (hy : evX L y = .v (iv b)) : Qt P ⟨dst, .call { callee := .builtin .min, args := #[x, y], argTypes := tys }, ty, pos, af, g⟩ L (.v (iv (if b < a then b else a))) :=
 (fun H w act he ⟨val, G, hr⟩ => by
  have h := he x
  rw [hx] at h
  simp only [VR] at h
  have h2 := he y
  rw [hy] at h2
  simp only [VR] at h2
  exact ⟨iv (if b < a then b else a), by simp [execOp, h, h2, resolve, invoke, builtin, Builtin.min_, Builtin.min2], rfl⟩)
theorem shr_small : ∀ n : Nat, n < 16 → ∀ k : Nat, k < 5 → (n : Int).fdiv (2 ^ (min (k : Int).toNat 64)) = ((n / 2 ^ k : Nat) : Int) := by decide +kernel
theorem pbShrN {n k : Nat} (hn : n < 16) (hk : k < 5) : pureBin .shr (iv (n : Int)) (iv (k : Int)) = some (iv ((n / 2 ^ k : Nat) : Int)) := by
 show (if (k : Int) < 0 then none else some (Value.int .i64 ((n : Int).fdiv (2 ^ (min (k : Int).toNat 64))))) = _
 rw [if_neg (by omega), shr_small n hn k hk]
theorem shl_small : ∀ n : Nat, n < 16 → ∀ k : Nat, k < 5 → IntKind.i64.wrap (((n / 2 ^ k : Nat) : Int) * 2 ^ (min (k : Int).toNat 64)) = (n : Int) - (n : Int) % ((2 ^ k : Nat) : Int) := by decide +kernel
theorem pbShlN {n k : Nat} (hn : n < 16) (hk : k < 5) : pureBin .shl (iv ((n / 2 ^ k : Nat) : Int)) (iv (k : Int)) = some (iv ((n : Int) - (n : Int) % ((2 ^ k : Nat) : Int))) := by
 show (if (k : Int) < 0 then none else some (Value.int .i64 (IntKind.i64.wrap (((n / 2 ^ k : Nat) : Int) * 2 ^ (min (k : Int).toNat 64))))) = _
 rw [if_neg (by omega), shl_small n hn k hk]
theorem ix_cases (l : List Int) (v : Int) : (v ∉ l ∧ ixOf (fun x => v == x) l = -1) ∨ ∃ j, l.findIdx? (fun x => v == x) = some j ∧ ixOf (fun x => v == x) l = (j : Int) ∧ j < l.length ∧ v ∈ l := by
 unfold ixOf
 cases h : l.findIdx? (fun x => v == x) with
 | none =>
  refine .inl ⟨fun hm => ?_, rfl⟩
  rw [List.findIdx?_eq_none_iff] at h
  have := h v hm
  simp at this
 | some j =>
  rw [List.findIdx?_eq_some_iff_getElem] at h
  obtain ⟨h1, h2, _⟩ := h
  have e : v = l[j] := by simpa using h2
  exact .inr ⟨j, rfl, rfl, h1, by rw [e]; exact List.getElem_mem h1⟩
set_option maxHeartbeats 8000000 in
set_option maxRecDepth 10000 in
theorem isFree_con (a : DBuddy) (f : Int) (h5 : a.Free.length = 5) (hf : frame f = true) : Con Try.prog 35 [.g [.h base []], .v (iv f)] [.rt base .ro (tr a.Free)] (fun y _ => y = .v (.bool (isS a.Free f))) := by
 refine Con.of_body Try.func35 rfl (by simp) ?_
 rw [Try.ntmps35]
 obtain ⟨n, rfl⟩ := Int.eq_ofNat_of_zero_le (frame_iff.1 hf).1
 have hn16 : n < 16 := by have := (frame_iff.1 hf).2; omega
 refine AW.len (base) [] rfl (by simp [Okp]) rfl (fun hl => ?_)
 refine AW.seq (AW.region ?_)
 refine sp (Stp.boxB rfl (by decide) (by decide) rfl rfl rfl rfl) ?_
 refine nm ?_
 refine qq Qt.assign ?_
 refine nl ?_
 refine AW.seq (AW.seq (AW.region ?_))
 refine qq (fA fl26_0) ?_
 refine qq (Qt.load1 rfl rfl rfl ag24) ?_
 refine nm ?_
 refine qq (Qt.lenH rfl rfl rfl sl24) ?_
 refine qq Qt.move ?_
 refine nl ?_
 refine AW.block ?_
 refine AW.loopW (fun i : IsInv a.Free (n : Int) => [.sl 10 (.v (iv i.k)), .sl 9 (.v (iv a.Free.length)), .sl 8 (.h base []), .sl 1 (.v (iv n)), .rt base .ro (tr a.Free)]) (fun i => a.Free.length - i.k) ⟨0, Nat.zero_le _, fun _ h => absurd h (Nat.not_lt_zero _)⟩ (Weak.sim ⟨rfl, rfl, rfl, rfl, Rf rfl, trivial⟩ rfl rfl) ?_
 intro i
 have hle := i.le
 refine AW.seq (AW.region ?_)
 refine qq (Qt.binOp rfl rfl rfl) ?_
 refine nl ?_
 refine AW.seq ?_
 refine AW.cond rfl (fun c1 => ?_) (fun c1 => ?_)
 ·have k1 := c1
  try simp only [cnd] at c1
  refine jd (AW.seq (AW.block (AW.seq (AW.region ?_))))
  refine qq Qt.move ?_
  refine nm ?_
  refine qq (Qt.indexAddr rfl rfl rfl rfl sl24 sz35 (by decide) (by first | omega | grind only)) ?_
  refine qq (Qt.load1 rfl rfl rfl ag35) ?_
  refine qq Qt.assign ?_
  refine nm ?_
  refine qq Qt.assign ?_
  refine nl ?_
  refine AW.seq (AW.region ?_)
  refine qq Qt.move ?_
  refine qq Qt.move ?_
  refine nm ?_
  refine qq Qt.move ?_
  refine qq (Qt.binOp rfl rfl (pbShrN hn16 (by omega))) ?_
  refine qq Qt.move ?_
  refine nm ?_
  refine qq (Qt.binOp rfl rfl (pbShlN hn16 (by omega))) ?_
  refine cv Try.call71 rfl rfl (containsI_con _ _) ?_
  refine nl ?_
  refine AW.cond rfl (fun c2 => ?_) (fun c2 => ?_)
  ·have k2 := c2
   try simp only [cnd] at c2
   refine AW.seq (AW.region ?_)
   refine qq Qt.assign ?_
   refine nl ?_
   refine AW.ret (endQ_ret (.cons (.tmp 4) .nil) ?_)
   rw [i.yes (by omega) c2]
   rfl
  have k2 := c2
  try simp only [cnd] at c2
  refine jd (AW.region ?_)
  refine qq (Qt.binOp rfl rfl (by first | exact pbAdd (by omega) | rfl)) ?_
  refine nm ?_
  refine qq Qt.move ?_
  refine nl ?_
  refine ⟨⟨i.k + 1, by omega, i.next c2⟩, Weak.sim ⟨st1, rfl, rfl, rfl, Rf rfl, trivial⟩ rfl rfl, ?_⟩
  show a.Free.length - (i.k + 1) < a.Free.length - i.k
  omega
 have k1 := c1
 try simp only [cnd] at c1
 refine AW.exit ?_
 dsimp only [thenQ, blockQ, reduceIte]
 refine AW.seq (AW.region ?_)
 refine qq Qt.assign ?_
 refine nl ?_
 refine AW.ret (endQ_ret (.cons (.tmp 4) .nil) ?_)
 rw [i.not (by omega)]
 rfl
end Go.Proofs.Ytfbefcmeghpalaa.VM
