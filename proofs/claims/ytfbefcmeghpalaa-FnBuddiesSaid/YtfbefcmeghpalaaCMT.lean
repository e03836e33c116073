/- Contracts of functions of the program. No conditions beyond those that each states. -/
import Derived.Test.YtfbefcmeghpalaaCMD
import Derived.Test.YtfbefcmeghpalaaCME
set_option linter.all false
namespace Go.Proofs.Ytfbefcmeghpalaa.VM
open Go Go.RowKit Go.Proofs
def sumW (l : List (List Int)) : Nat → Int
 | 0 => 0
 | k + 1 => IntKind.i64.wrap (sumW l k + IntKind.i64.wrap (((l.getD k []).length : Int) * ((2 ^ k : Nat) : Int)))
def freeB (l : List (List Int)) : Int := if okS l = true then sumW l 5 else 0
theorem pbShlW {a : Int} {k : Nat} (h : k ≤ 5) : pureBin .shl (iv a) (iv k) = some (iv (IntKind.i64.wrap (a * ((2 ^ k : Nat) : Int)))) := by
 match k, h with
 | 0, _ => rfl
 | 1, _ => rfl
 | 2, _ => rfl
 | 3, _ => rfl
 | 4, _ => rfl
 | 5, _ => rfl
 | k + 6, h => omega
theorem okS_len {l : List (List Int)} (h : okS l = true) : l.length = 5 := by
 unfold okS at h
 split at h
 ·assumption
 ·cases h

theorem BuddyOkI_con2 (a : DBuddy) : Con Try.prog 26 [.g [.h base []]] [.rt base .ro (tr a.Free)] (fun y _ => y = .v (.bool (okS a.Free))) := by
 have h := BuddyOkI_con a
 rw [ok_eq] at h
 exact h
set_option maxRecDepth 10000 in
theorem BuddyFreeS_con (a : DBuddy) : Con Try.prog 10 [.g [.h base []]] [.rt base .ro (tr a.Free)] (fun y _ => y = .v (iv (freeB a.Free))) := by
 refine Con.of_body Try.func10 rfl (by simp) ?_
 rw [Try.ntmps10]
 refine AW.seq (AW.region ?_)
 refine sp (Stp.boxB rfl (by decide) (by decide) rfl rfl rfl rfl) ?_
 refine nm ?_
 refine qq Qt.assign ?_
 refine nl ?_
 refine AW.seq (AW.seq (AW.region ?_))
 refine qq (Qt.loadG rfl rfl rfl ag26 sz26 (by decide)) ?_
 refine cv Try.call8 rfl rfl (BuddyOkS_con a) ?_
 refine nm ?_
 refine qq (Qt.notB rfl) ?_
 refine nl ?_
 refine AW.cond rfl (fun c1 => ?_) (fun c1 => ?_)
 ·have k1 := c1
  try simp only [cnd] at c1
  refine AW.seq (AW.region ?_)
  refine qq Qt.assign ?_
  refine nl ?_
  refine AW.ret (endQ_ret (.cons (.tmp 2) .nil) ?_)
  rw [show freeB a.Free = 0 from if_neg (by simpa using c1)]
  rfl
 have k1 := c1
 try simp only [cnd] at c1
 have hok : okS a.Free = true := by simpa using c1
 have hlen := okS_len hok
 refine jd (AW.seq (AW.region ?_))
 refine qq Qt.assign ?_
 refine nl ?_
 refine AW.seq (AW.seq (AW.region ?_))
 refine qq Qt.assign ?_
 refine nl ?_
 refine AW.block ?_
 refine AW.loopW (fun i : KInv 5 => [.sl 4 (.v (iv i.k)), .sl 3 (.v (iv (sumW a.Free i.k))), .rt 1 .box (T.s 1 1 fun k c => ([(T.j, none)].getD (k * 1 + c) (T.j, none)).fst), .al 1 0 (.h base []), .rt base .ro (tr a.Free), .sl 1 (.p 1 [] 1 0 0)]) (fun i => 5 - i.k) ⟨0, by omega⟩ (Weak.sim ⟨rfl, rfl, Rf rfl, ⟨rfl, rfl⟩, Rf rfl, rfl, trivial⟩ rfl rfl) ?_
 intro i
 have hle := i.le
 have hpw : i.k < 5 → 0 < 2 ^ i.k ∧ 2 ^ i.k ≤ 16 := fun h => pow5 h
 refine AW.seq (AW.seq (AW.region ?_))
 refine qq Qt.move ?_
 refine nm ?_
 refine qq (Qt.binOp rfl rfl rfl) ?_
 refine nl ?_
 refine AW.cond rfl (fun c2 => ?_) (fun c2 => ?_)
 ·have k2 := c2
  try simp only [cnd] at c2
  refine jd (AW.seq (AW.block ?_))
  refine AW.draw [0, 1, 2, 3, 4, 5, 6, 7, 9, 10] rfl (by decide +kernel) ?_
  refine tk 0 rfl Qt.move ?_
  refine tk 1 rfl (fA fl26_0) ?_
  refine na ?_
  refine tk 2 rfl (Qt.load1 rfl rfl rfl ag24) ?_
  refine tk 3 rfl Qt.move ?_
  refine tk 4 rfl (Qt.indexAddr rfl rfl rfl rfl sl24 sz35 (by decide) (by omega)) ?_
  refine na ?_
  refine tk 5 rfl (Qt.load1 rfl rfl rfl ag35) ?_
  refine tk 6 rfl (Qt.lenH rfl rfl rfl sl35) ?_
  refine tk 7 rfl Qt.move ?_
  refine na ?_
  refine a1 8 [0, 1, 2, 3, 4, 5, 6] [7] rfl rfl (Stp.callV rfl (by decide) Try.call32 rfl rfl (l15Len_con i.k (by omega))) ?_
  refine na ?_
  refine AWA.againE rfl rfl (by decide +kernel) (.on rfl rfl Qt.move) rfl ?_
  refine AWA.againE rfl rfl (by decide +kernel) (.on rfl rfl (fA fl26_0)) rfl ?_
  refine AWA.againE rfl rfl (by decide +kernel) (.on rfl rfl (Qt.load1 rfl rfl rfl ag24)) rfl ?_
  refine AWA.againE rfl rfl (by decide +kernel) (.on rfl rfl Qt.move) rfl ?_
  refine AWA.againE rfl rfl (by decide +kernel) (.on rfl rfl (Qt.indexAddr rfl rfl rfl rfl sl24 sz35 (by decide) (by omega))) rfl ?_
  refine AWA.againE rfl rfl (by decide +kernel) (.on rfl rfl (Qt.load1 rfl rfl rfl ag35)) rfl ?_
  refine AWA.againE rfl rfl (by decide +kernel) (.on rfl rfl (Qt.lenH rfl rfl rfl sl35)) rfl ?_
  refine na ?_
  refine tk 9 rfl (Qt.binOp rfl rfl (by first | exact pbMul (by omega) | rfl)) ?_
  refine tk 10 rfl (Qt.binOp rfl rfl (by first | exact pbAdd (by omega) | rfl)) ?_
  refine a1 11 [] [10, 9, 8, 7, 6, 5, 4, 3, 2, 1, 0] rfl rfl (Stp.q rfl (by decide) Qt.assign) ?_
  refine na ?_
  refine na ?_
  refine nz ?_
  refine AW.region ?_
  refine qq Qt.move ?_
  refine qq (Qt.binOp rfl rfl (by first | exact pbAdd (by omega) | rfl)) ?_
  refine qq Qt.assign ?_
  refine nl ?_
  refine ⟨⟨i.k + 1, by omega⟩, Weak.sim ⟨st1, rfl, Rf rfl, ⟨rfl, rfl⟩, Rf rfl, rfl, trivial⟩ rfl rfl, ?_⟩
  show 5 - (i.k + 1) < 5 - i.k
  omega
 have k2 := c2
 try simp only [cnd] at c2
 refine AW.exit ?_
 dsimp only [thenQ, blockQ, reduceIte]
 refine AW.seq (AW.region ?_)
 refine qq Qt.move ?_
 refine nm ?_
 refine qq Qt.assign ?_
 refine nl ?_
 refine AW.ret (endQ_ret (.cons (.tmp 2) .nil) ?_)
 rw [show freeB a.Free = sumW a.Free i.k from (if_pos hok).trans (by rw [show i.k = 5 by omega])]
 rfl
set_option maxRecDepth 10000 in
theorem BuddyFreeI_con (a : DBuddy) : Con Try.prog 9 [.g [.h base []]] [.rt base .ro (tr a.Free)] (fun y _ => y = .v (iv (freeB a.Free))) := by
 refine Con.of_body Try.func9 rfl (by simp) ?_
 rw [Try.ntmps9]
 refine AW.seq (AW.region ?_)
 refine sp (Stp.boxB rfl (by decide) (by decide) rfl rfl rfl rfl) ?_
 refine nm ?_
 refine qq Qt.assign ?_
 refine nl ?_
 refine AW.seq (AW.seq (AW.region ?_))
 refine qq (Qt.loadG rfl rfl rfl ag26 sz26 (by decide)) ?_
 refine cv Try.call26 rfl rfl (BuddyOkI_con2 a) ?_
 refine nm ?_
 refine qq (Qt.notB rfl) ?_
 refine nl ?_
 refine AW.cond rfl (fun c1 => ?_) (fun c1 => ?_)
 ·have k1 := c1
  try simp only [cnd] at c1
  refine AW.seq (AW.region ?_)
  refine qq Qt.assign ?_
  refine nl ?_
  refine AW.ret (endQ_ret (.cons (.tmp 2) .nil) ?_)
  rw [show freeB a.Free = 0 from if_neg (by simpa using c1)]
  rfl
 have k1 := c1
 try simp only [cnd] at c1
 have hok : okS a.Free = true := by simpa using c1
 have hlen := okS_len hok
 refine jd (AW.seq (AW.region ?_))
 refine qq Qt.assign ?_
 refine nl ?_
 refine AW.seq (AW.seq (AW.region ?_))
 refine qq (fA fl26_0) ?_
 refine nm ?_
 refine qq (Qt.load1 rfl rfl rfl ag24) ?_
 refine qq (Qt.lenH rfl rfl rfl sl24) ?_
 refine qq Qt.move ?_
 refine nl ?_
 refine AW.block ?_
 refine AW.loopW (fun i : KInv 5 => [.sl 12 (.v (iv i.k)), .sl 11 (.v (iv a.Free.length)), .sl 10 (.h base []), .sl 3 (.v (iv (sumW a.Free i.k))), .rt 1 .box (T.s 1 1 fun k c => ([(T.j, none)].getD (k * 1 + c) (T.j, none)).fst), .al 1 0 (.h base []), .rt base .ro (tr a.Free), .sl 1 (.p 1 [] 1 0 0)]) (fun i => 5 - i.k) ⟨0, by omega⟩ (Weak.sim ⟨rfl, rfl, rfl, rfl, Rf rfl, ⟨rfl, rfl⟩, Rf rfl, rfl, trivial⟩ rfl rfl) ?_
 intro i
 have hle := i.le
 refine AW.seq (AW.region ?_)
 refine qq (Qt.binOp rfl rfl rfl) ?_
 refine nl ?_
 refine AW.seq ?_
 refine AW.cond rfl (fun c2 => ?_) (fun c2 => ?_)
 ·have k2 := c2
  try simp only [cnd] at c2
  refine jd (AW.seq (AW.block (AW.seq (AW.region ?_))))
  refine qq Qt.move ?_
  refine nm ?_
  refine qq (Qt.indexAddr rfl rfl rfl rfl sl24 sz35 (by decide) (by omega)) ?_
  refine qq (Qt.load1 rfl rfl rfl ag35) ?_
  refine qq Qt.assign ?_
  refine nm ?_
  refine qq Qt.assign ?_
  refine nl ?_
  refine AW.region ?_
  refine qq Qt.move ?_
  refine qq Qt.move ?_
  refine nm ?_
  refine qq (Qt.lenH rfl rfl rfl sl35) ?_
  refine qq Qt.move ?_
  refine qq (Qt.binOp rfl rfl (pbShlW (by omega))) ?_
  refine nm ?_
  refine qq (Qt.binOp rfl rfl (by first | exact pbAdd (by omega) | rfl)) ?_
  refine qq Qt.assign ?_
  refine nl ?_
  refine AW.region ?_
  refine qq (Qt.binOp rfl rfl (by first | exact pbAdd (by omega) | rfl)) ?_
  refine nm ?_
  refine qq Qt.move ?_
  refine nl ?_
  refine ⟨⟨i.k + 1, by omega⟩, Weak.sim ⟨st1, rfl, rfl, rfl, Rf rfl, ⟨rfl, rfl⟩, Rf rfl, rfl, trivial⟩ rfl rfl, ?_⟩
  show 5 - (i.k + 1) < 5 - i.k
  omega
 have k2 := c2
 try simp only [cnd] at c2
 refine AW.exit ?_
 dsimp only [thenQ, blockQ, reduceIte]
 refine AW.seq (AW.region ?_)
 refine qq Qt.move ?_
 refine qq Qt.assign ?_
 refine nl ?_
 refine AW.ret (endQ_ret (.cons (.tmp 2) .nil) ?_)
 rw [show freeB a.Free = sumW a.Free i.k from (if_pos hok).trans (by rw [show i.k = 5 by omega])]
 rfl
end Go.Proofs.Ytfbefcmeghpalaa.VM
