/- Contracts. No conditions. -/
import Derived.Test.YtldefnpobjabpaaGreatCUM
import Derived.Test.YtldefnpobjabpaaGreatCU4
set_option linter.all false
set_option maxHeartbeats 8000000
set_option maxRecDepth 10000
namespace Go.Proofs.YtldefnpobjabpaaGreat.VM
open Go Go.RowKit Go.Proofs

def zig (n : Int) : Int := if n < 0 then -2 * n - 1 else 2 * n
def third (i : DIns) : Int := if i.Op = 1 then zig i.B else i.B
def showStep (s : ByteArray) (i : DIns) : ByteArray := (((s ++ varS i.Op) ++ varS i.A) ++ varS (third i)) ++ varS i.C
def showK (l : List DIns) (k : Nat) : ByteArray := (l.take k).foldl showStep (varS l.length)
def showP (l : List DIns) : ByteArray := if progOk l then showK l l.length else ByteArray.empty
theorem showK_next (l : List DIns) {k : Nat} (hk : k < l.length) : showK l (k + 1) = showStep (showK l k) (l.getD k En.dflt) := by
 unfold showK
 rw [List.take_add_one, List.getElem?_eq_getElem hk, List.foldl_append]
 simp [hk]
theorem showStep_size (s : ByteArray) (i : DIns) : (showStep s i).size ≤ s.size + 28 := by
 have h1 := varS_size i.Op
 have h2 := varS_size i.A
 have h3 := varS_size (third i)
 have h4 := varS_size i.C
 simp only [showStep, ByteArray.size_append]
 omega
theorem showK_size (l : List DIns) : ∀ {k : Nat}, k ≤ l.length → (showK l k).size ≤ 7 + 28 * k
 | 0, _ => by simpa [showK] using varS_size l.length
 | k + 1, h => by
  have h1 := showK_size l (k := k) (by omega)
  have h2 := showStep_size (showK l k) (l.getD k En.dflt)
  rw [showK_next l (by omega)]
  omega
theorem insWord {i : DIns} (h : insOk i = true) (h1 : i.Op = 1) : -1000000 ≤ i.B ∧ i.B ≤ 1000000 := by
 unfold insOk at h
 rw [if_pos h1] at h
 simp [word] at h
 omega
theorem progFacts {l : List DIns} (h : progOk l = true) : l.length ≤ 40 ∧ ∀ k, k < l.length → insOk (l.getD k En.dflt) = true := by
 simp only [progOk, Bool.and_eq_true, decide_eq_true_eq] at h
 refine ⟨h.1, fun k hk => ?_⟩
 have := List.all_eq_true.1 h.2 l[k] (List.getElem_mem hk)
 simpa [hk] using this

set_option maxHeartbeats 2000000 in
set_option maxRecDepth 10000 in
theorem l3Zig_con (n : Int) (h1 : -1000000 ≤ n) (h2 : n ≤ 1000000) : Con Tryz.prog 264 [.v (iv n)] [] (fun y _ => y = .v (iv (zig n))) := by
 refine ob Tryz.func264 Tryz.ntmps264 ?_
 refine go [.R,.a,.Z,.R2,.m,.b,.Z] (k := ?_)
 refine cd (fun c1 => ?_) fun c1 => ?_
 ·try simp only [cnd] at c1
  refine go [.R,.m,.N] (k := ?_)
  refine qq (Qt.binOp rfl rfl (by first | exact pbMul (by omega) | rfl)) ?_
  refine go [.b,.a,.Z] (k := ?_)
  refine rt1 2 ?_
  rw [show zig n = -2 * n - 1 from if_pos (by omega)]
  rfl
 try simp only [cnd] at c1
 refine go [.J,.R,.m,.N] (k := ?_)
 refine qq (Qt.binOp rfl rfl (by first | exact pbMul (by omega) | rfl)) ?_
 refine go [.a,.Z] (k := ?_)
 refine rt1 2 ?_
 rw [show zig n = 2 * n from if_neg (by omega)]
 rfl
set_option maxHeartbeats 2000000 in
set_option maxRecDepth 10000 in
theorem wordVar_con (n : Int) (h1 : -1000000 ≤ n) (h2 : n ≤ 1000000) : Con Tryz.prog 266 [.v (iv n)] [] (fun y _ => y = .v (.string (varS (zig n)))) := by
 refine ob Tryz.func266 Tryz.ntmps266 ?_
 refine go [.R,.a,.Z,.R2,.m,.b,.Z] (k := ?_)
 refine cd (fun c1 => ?_) fun c1 => ?_
 ·try simp only [cnd] at c1
  refine go [.R,.m,.N] (k := ?_)
  refine qq (Qt.binOp rfl rfl (by first | exact pbMul (by omega) | rfl)) ?_
  refine go [.b] (k := ?_)
  refine cv Tryz.call234 rfl rfl (VarI_con _) ?_
  refine go [.N,.a,.Z] (k := ?_)
  refine rt1 2 ?_
  rw [show zig n = -2 * n - 1 from if_pos (by omega)]
  rfl
 try simp only [cnd] at c1
 refine go [.J,.R,.m] (k := ?_)
 refine qq (Qt.binOp rfl rfl (by first | exact pbMul (by omega) | rfl)) ?_
 refine go [.N] (k := ?_)
 refine cv Tryz.call234 rfl rfl (VarI_con _) ?_
 refine go [.N,.a,.Z] (k := ?_)
 refine rt1 2 ?_
 rw [show zig n = 2 * n from if_neg (by omega)]
 rfl
set_option maxHeartbeats 2000000 in
set_option maxRecDepth 10000 in
theorem l3Show_con (l : List DIns) (h40 : l.length ≤ 40) (hI : ∀ k, k < l.length → insOk (l.getD k En.dflt) = true) : Con Tryz.prog 229 [.h base []] [.rt base .ro (tr l)] (fun y _ => y = .v (.string (showK l l.length))) := by
 refine ob Tryz.func229 Tryz.ntmps229 ?_
 refine go [.R,.a,.Z,.R,.m,.h,.N] (k := ?_)
 refine cv Tryz.call228 rfl rfl (VarS_con _) ?_
 refine go [.N,.a,.Z,.R2,.a,.Z] (k := ?_)
 refine AW.block ?_
 refine AW.weak (L' := [.sl 4 (.v (iv (0 : Nat))), .sl 3 (.v (.string (showK l 0))), .sl 0 (.h base []), .rt base .ro (tr l)]) (ws) ?_
 refine AW.loop (fun i : KInv l.length => [.sl 4 (.v (iv i.k)), .sl 3 (.v (.string (showK l i.k))), .sl 0 (.h base []), .rt base .ro (tr l)]) (fun i => l.length - i.k) ⟨0, Nat.zero_le _⟩ ?_
 intro i
 have hle := i.le
 refine go [.R2,.m,.N,.m,.h,.b,.Z] (k := ?_)
 refine cd (fun c1 => ?_) fun c1 => ?_
 ·try simp only [cnd] at c1
  have hq := showK_size l (k := i.k) (by omega)
  have hi := hI i.k (by omega)
  have hv1 := varS_size (l.getD i.k En.dflt).Op
  have hv2 := varS_size (l.getD i.k En.dflt).A
  have hv3 := varS_size (third (l.getD i.k En.dflt))
  have hv4 := varS_size (l.getD i.k En.dflt).C
  have hv5 := varS_size (l.getD i.k En.dflt).B
  have hv6 := varS_size (zig (l.getD i.k En.dflt).B)
  have hw := insWord hi
  have hnx := showK_next l (k := i.k) (by omega)
  refine jd (AW.seq (AW.block (sr ?_)))
  refine go [.m,.N,.m,.i,.f,.N,.l,.a,.Z,.R2,.m,.N,.m,.i,.f,.N,.l,.b,.Z] (k := ?_)
  refine cd (fun c2 => ?_) fun c2 => ?_
  ·try simp only [cnd] at c2
   refine go [.R1,.m,.N] (k := ?_)
   refine cv Tryz.call264 rfl rfl (l3Zig_con _ (by omega) (by omega)) ?_
   refine go [.N,.a,.Z,.D [0, 1, 2, 3, 4, 5, 7, 8, 9, 10, 11, 12, 14, 15, 17, 18, 19, 20, 21, 22, 24],.t 0,.m,.t 1,.m,.N,.t 2,.m,.t 3,.i,.t 4,.f,.N,.t 5,.l,.t 8,.m,.t 9,.m,.N,.t 10,.i,.t 11,.f,.t 12,.l,.N,.t 15,.m,.t 18,.m,.t 19,.m,.N,.t 20,.i,.t 21,.f,.t 22,.l,.N] (k := ?_)
   refine a1 6 [0, 8, 9, 10, 11, 12, 15, 18, 19, 20, 21, 22] [5, 4, 3, 2, 1] rfl rfl (Stp.callV rfl (by decide) Tryz.call228 rfl rfl (VarS_con _)) ?_
   refine go [.N,.g,.m,.g,.m,.g,.m,.g,.i,.g,.f,.g,.l,.g,.m,.g,.m,.g,.m,.g,.i,.g,.f,.g,.l,.N] (k := ?_)
   refine tk 7 rfl (Qt.binOp rfl rfl pbC) ?_
   refine a1 13 [0, 7, 15, 18, 19, 20, 21, 22] [12, 6, 11, 5, 10, 4, 9, 8, 3, 2, 1] rfl rfl (Stp.callV rfl (by decide) Tryz.call228 rfl rfl (VarS_con _)) ?_
   refine go [.N,.g,.m] (k := ?_)
   refine ae rfl (Qt.binOp rfl rfl pbC) ?_
   refine go [.g,.m,.g,.m,.g,.m,.g,.i,.g,.f,.g,.l,.N] (k := ?_)
   refine tk 14 rfl (Qt.binOp rfl rfl pbC) ?_
   refine a1 16 [0, 7, 14, 18, 19, 20, 21, 22] [15, 13, 12, 6, 11, 5, 10, 4, 9, 8, 3, 2, 1] rfl rfl (Stp.callV rfl (by decide) Tryz.call228 rfl rfl (VarS_con _)) ?_
   refine go [.N,.g,.m] (k := ?_)
   refine ae rfl (Qt.binOp rfl rfl pbC) ?_
   refine ae rfl (Qt.binOp rfl rfl pbC) ?_
   refine go [.g,.m,.g,.m,.g,.i,.g,.f,.g,.l,.N] (k := ?_)
   refine tk 17 rfl (Qt.binOp rfl rfl pbC) ?_
   refine a1 23 [0, 7, 14, 17] [22, 16, 21, 15, 13, 20, 12, 6, 19, 18, 11, 5, 10, 4, 9, 8, 3, 2, 1] rfl rfl (Stp.callV rfl (by decide) Tryz.call228 rfl rfl (VarS_con _)) ?_
   refine go [.N,.g,.m] (k := ?_)
   refine ae rfl (Qt.binOp rfl rfl pbC) ?_
   refine ae rfl (Qt.binOp rfl rfl pbC) ?_
   refine ae rfl (Qt.binOp rfl rfl pbC) ?_
   refine go [.N] (k := ?_)
   refine tk 24 rfl (Qt.binOp rfl rfl pbC) ?_
   refine a1 25 [] [24, 23, 22, 21, 20, 19, 18, 17, 16, 15, 14, 13, 12, 11, 10, 9, 8, 7, 6, 5, 4, 3, 2, 1, 0] rfl rfl (Stp.q rfl (by decide) Qt.assign) ?_
   refine go [.N,.Z,.R1,.m,.b,.a,.Z] (k := ?_)
   refine ⟨⟨i.k + 1, by omega⟩, Weak.sim ⟨st1, (by rw [hnx]; simp only [slotL, reduceIte, Nat.reduceEqDiff, showStep, third]; first | rw [if_pos (by omega)] | rw [if_neg (by omega)]), rfl, Rf rfl, trivial⟩ rfl rfl, ?_⟩
   show l.length - (i.k + 1) < l.length - i.k
   omega
  try simp only [cnd] at c2
  refine go [.J,.D [0, 1, 2, 3, 4, 5, 7, 8, 9, 10, 11, 12, 14, 15, 17, 18, 19, 20, 21, 22, 24],.t 0,.m,.N,.t 1,.m,.t 2,.m,.t 3,.i,.N,.t 4,.f,.t 5,.l,.t 8,.m,.N,.t 9,.m,.t 10,.i,.t 11,.f,.N,.t 12,.l,.t 15,.m,.t 18,.m,.N,.t 19,.m,.t 20,.i,.t 21,.f,.N,.t 22,.l] (k := ?_)
  refine a1 6 [0, 8, 9, 10, 11, 12, 15, 18, 19, 20, 21, 22] [5, 4, 3, 2, 1] rfl rfl (Stp.callV rfl (by decide) Tryz.call228 rfl rfl (VarS_con _)) ?_
  refine go [.N,.g,.m,.g,.m,.g,.m,.g,.i,.g,.f,.g,.l,.g,.m,.g,.m,.g,.m,.g,.i,.g,.f,.g,.l,.N] (k := ?_)
  refine tk 7 rfl (Qt.binOp rfl rfl pbC) ?_
  refine a1 13 [0, 7, 15, 18, 19, 20, 21, 22] [12, 6, 11, 5, 10, 4, 9, 8, 3, 2, 1] rfl rfl (Stp.callV rfl (by decide) Tryz.call228 rfl rfl (VarS_con _)) ?_
  refine go [.N,.g,.m] (k := ?_)
  refine ae rfl (Qt.binOp rfl rfl pbC) ?_
  refine go [.g,.m,.g,.m,.g,.m,.g,.i,.g,.f,.g,.l,.N] (k := ?_)
  refine tk 14 rfl (Qt.binOp rfl rfl pbC) ?_
  refine a1 16 [0, 7, 14, 18, 19, 20, 21, 22] [15, 13, 12, 6, 11, 5, 10, 4, 9, 8, 3, 2, 1] rfl rfl (Stp.callV rfl (by decide) Tryz.call228 rfl rfl (VarS_con _)) ?_
  refine go [.N,.g,.m] (k := ?_)
  refine ae rfl (Qt.binOp rfl rfl pbC) ?_
  refine ae rfl (Qt.binOp rfl rfl pbC) ?_
  refine go [.g,.m,.g,.m,.g,.i,.g,.f,.g,.l,.N] (k := ?_)
  refine tk 17 rfl (Qt.binOp rfl rfl pbC) ?_
  refine a1 23 [0, 7, 14, 17] [22, 16, 21, 15, 13, 20, 12, 6, 19, 18, 11, 5, 10, 4, 9, 8, 3, 2, 1] rfl rfl (Stp.callV rfl (by decide) Tryz.call228 rfl rfl (VarS_con _)) ?_
  refine go [.N,.g,.m] (k := ?_)
  refine ae rfl (Qt.binOp rfl rfl pbC) ?_
  refine ae rfl (Qt.binOp rfl rfl pbC) ?_
  refine ae rfl (Qt.binOp rfl rfl pbC) ?_
  refine go [.N] (k := ?_)
  refine tk 24 rfl (Qt.binOp rfl rfl pbC) ?_
  refine a1 25 [] [24, 23, 22, 21, 20, 19, 18, 17, 16, 15, 14, 13, 12, 11, 10, 9, 8, 7, 6, 5, 4, 3, 2, 1, 0] rfl rfl (Stp.q rfl (by decide) Qt.assign) ?_
  refine go [.N,.Z,.R1,.m,.b,.a,.Z] (k := ?_)
  refine ⟨⟨i.k + 1, by omega⟩, Weak.sim ⟨st1, (by rw [hnx]; simp only [slotL, reduceIte, Nat.reduceEqDiff, showStep, third]; first | rw [if_pos (by omega)] | rw [if_neg (by omega)]), rfl, Rf rfl, trivial⟩ rfl rfl, ?_⟩
  show l.length - (i.k + 1) < l.length - i.k
  omega
 try simp only [cnd] at c1
 refine AW.exit ?_
 dsimp only [thenQ, blockQ, reduceIte]
 refine go [.R,.m,.N,.a,.Z] (k := ?_)
 refine rt1 2 ?_
 rw [show showK l l.length = showK l i.k from by rw [show i.k = l.length by omega]]
 rfl
set_option maxHeartbeats 2000000 in
set_option maxRecDepth 10000 in
theorem ShowProgI_con (l : List DIns) : Con Tryz.prog 233 [.h base []] [.rt base .ro (tr l)] (fun y _ => y = .v (.string (showP l))) := by
 refine ob Tryz.func233 Tryz.ntmps233 ?_
 refine go [.R,.a,.Z,.R2,.m] (k := ?_)
 refine cv Tryz.call160 rfl rfl (ProgOkI_con _) ?_
 refine go [.N,.n,.Z] (k := ?_)
 refine cd (fun c1 => ?_) fun c1 => ?_
 ·try simp only [cnd] at c1
  refine go [.R,.a,.Z] (k := ?_)
  refine rt1 2 ?_
  rw [show showP l = ByteArray.empty from if_neg (by simp [c1])]
  rfl
 try simp only [cnd] at c1
 obtain ⟨h40, hI⟩ := progFacts c1
 have hpr := c1
 refine go [.J,.R,.m,.N,.h] (k := ?_)
 refine cv Tryz.call234 rfl rfl (VarI_con _) ?_
 refine go [.N,.a,.Z,.R2,.m,.h,.N,.m,.Z] (k := ?_)
 refine AW.block ?_
 refine AW.weak (L' := [.sl 14 (.v (iv (0 : Nat))), .sl 12 (.h base []), .sl 13 (.v (iv l.length)), .sl 3 (.v (.string (showK l 0))), .sl 0 (.h base []), .rt base .ro (tr l)]) (ws) ?_
 refine AW.loop (fun i : KInv l.length => [.sl 14 (.v (iv i.k)), .sl 12 (.h base []), .sl 13 (.v (iv l.length)), .sl 3 (.v (.string (showK l i.k))), .sl 0 (.h base []), .rt base .ro (tr l)]) (fun i => l.length - i.k) ⟨0, Nat.zero_le _⟩ ?_
 intro i
 have hle := i.le
 refine go [.R,.b,.Z] (k := ?_)
 refine AW.seq ?_
 refine cd (fun c2 => ?_) fun c2 => ?_
 ·try simp only [cnd] at c2
  have hq := showK_size l (k := i.k) (by omega)
  have hi := hI i.k (by omega)
  have hv1 := varS_size (l.getD i.k En.dflt).Op
  have hv2 := varS_size (l.getD i.k En.dflt).A
  have hv3 := varS_size (third (l.getD i.k En.dflt))
  have hv4 := varS_size (l.getD i.k En.dflt).C
  have hv5 := varS_size (l.getD i.k En.dflt).B
  have hv6 := varS_size (zig (l.getD i.k En.dflt).B)
  have hw := insWord hi
  have hnx := showK_next l (k := i.k) (by omega)
  refine jd (AW.seq (AW.block (sr ?_)))
  refine go [.i,.N,.G,.A,.N,.s,.Z] (k := ?_)
  refine AW.seq ?_
  refine go [.D [0, 1, 2, 4, 5, 7, 8],.t 0,.m,.N,.t 1,.f,.t 2,.l,.t 4,.f,.N,.t 5,.l] (k := ?_)
  refine a1 3 [0, 4, 5] [2, 1] rfl rfl (Stp.callV rfl (by decide) Tryz.call234 rfl rfl (VarI_con _)) ?_
  refine go [.N,.g,.m,.g,.f,.g,.l,.N] (k := ?_)
  refine a1 6 [0] [5, 3, 4, 2, 1] rfl rfl (Stp.callV rfl (by decide) Tryz.call234 rfl rfl (VarI_con _)) ?_
  refine go [.N,.g,.m,.N] (k := ?_)
  refine tk 7 rfl (Qt.binOp rfl rfl pbC) ?_
  refine tk 8 rfl (Qt.binOp rfl rfl pbC) ?_
  refine a1 9 [] [8, 7, 6, 5, 4, 3, 2, 1, 0] rfl rfl (Stp.q rfl (by decide) Qt.assign) ?_
  refine go [.N,.Z,.R2,.f,.l,.b,.Z] (k := ?_)
  refine cd (fun c3 => ?_) fun c3 => ?_
  ·try simp only [cnd] at c3
   refine go [.R1,.m,.N,.f,.l] (k := ?_)
   refine cv Tryz.call266 rfl rfl (wordVar_con _ (by omega) (by omega)) ?_
   refine go [.N] (k := ?_)
   refine qq (Qt.binOp rfl rfl pbC) ?_
   refine go [.a,.Z,.R1,.m,.N,.f,.l] (k := ?_)
   refine cv Tryz.call234 rfl rfl (VarI_con _) ?_
   refine go [.N] (k := ?_)
   refine qq (Qt.binOp rfl rfl pbC) ?_
   refine go [.a,.Z,.R1,.b,.N,.m,.Z] (k := ?_)
   refine ⟨⟨i.k + 1, by omega⟩, Weak.sim ⟨st1, rfl, rfl, (by rw [hnx]; simp only [slotL, reduceIte, Nat.reduceEqDiff, showStep, third, ByteArray.append_assoc]; first | rw [if_pos (by omega)] | rw [if_neg (by omega)]), rfl, Rf rfl, trivial⟩ rfl rfl, ?_⟩
   show l.length - (i.k + 1) < l.length - i.k
   omega
  try simp only [cnd] at c3
  refine go [.R1,.m,.f,.N,.l] (k := ?_)
  refine cv Tryz.call234 rfl rfl (VarI_con _) ?_
  refine go [.N] (k := ?_)
  refine qq (Qt.binOp rfl rfl pbC) ?_
  refine go [.a,.Z,.R1,.m,.N,.f,.l] (k := ?_)
  refine cv Tryz.call234 rfl rfl (VarI_con _) ?_
  refine go [.N] (k := ?_)
  refine qq (Qt.binOp rfl rfl pbC) ?_
  refine go [.a,.Z,.R1,.b,.N,.m,.Z] (k := ?_)
  refine ⟨⟨i.k + 1, by omega⟩, Weak.sim ⟨st1, rfl, rfl, (by rw [hnx]; simp only [slotL, reduceIte, Nat.reduceEqDiff, showStep, third, ByteArray.append_assoc]; first | rw [if_pos (by omega)] | rw [if_neg (by omega)]), rfl, Rf rfl, trivial⟩ rfl rfl, ?_⟩
  show l.length - (i.k + 1) < l.length - i.k
  omega
 try simp only [cnd] at c2
 refine AW.exit ?_
 dsimp only [thenQ, blockQ, reduceIte]
 refine go [.R,.m,.a,.Z] (k := ?_)
 refine rt1 2 ?_
 rw [show showP l = showK l i.k from (if_pos hpr).trans (by rw [show i.k = l.length by omega])]
 rfl
end Go.Proofs.YtldefnpobjabpaaGreat.VM

