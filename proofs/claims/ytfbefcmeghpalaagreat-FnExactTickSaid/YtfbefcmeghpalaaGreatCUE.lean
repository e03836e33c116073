/- Contracts of functions of the program. No conditions beyond those that each states. -/
import Derived.Test.YtfbefcmeghpalaaGreatCUC
import Derived.Test.YtfbefcmeghpalaaGreatCUD
import Derived.Test.YtfbefcmeghpalaaGreatCUX
set_option linter.all false
set_option maxHeartbeats 8000000
set_option maxRecDepth 10000
namespace Go.Proofs.YtfbefcmeghpalaaGreat.VM
open Go Go.RowKit Go.Proofs
structure WInv (u : DUnix) where
 k : Nat
 le : k ≤ u.Procs.length
 acc : List Int
 eq : acc = wantOf (u.Procs.take k)
theorem WInv.len {u : DUnix} (i : WInv u) : i.acc.length ≤ i.k := by rw [i.eq, want_len i.le]; exact readyN_le _ _
theorem WInv.t {u : DUnix} (i : WInv u) (hk : i.k < u.Procs.length) (hs : (u.Procs.getD i.k En.dflt).State = 1) : i.acc ++ [(u.Procs.getD i.k En.dflt).Pid] = wantOf (u.Procs.take (i.k + 1)) := by rw [want_take hk, if_pos hs, ← i.eq]
theorem WInv.f {u : DUnix} (i : WInv u) (hk : i.k < u.Procs.length) (hs : (u.Procs.getD i.k En.dflt).State ≠ 1) : i.acc = wantOf (u.Procs.take (i.k + 1)) := by rw [want_take hk, if_neg hs, ← i.eq]
theorem cloneI_con (l : List Int) (hs : l.length ≤ 4194304) : Con Tryz.prog 160 [.h base []] [.rt base .ro (tr l)] (Ret (.h 0 []) [(0, .row, tr l)]) := by
 refine ob Tryz.func160 Tryz.ntmps160 ?_
 refine sr ?_
 refine qn ?_
 refine sr2 ?_
 refine qm ?_
 refine AWL.nilTest rfl rfl rfl (by decide) rfl rfl rfl sl29 ?_
 intro b1 hb1
 refine nc (fun c2 => ?_) fun c2 => ?_
 ·try simp only [cnd] at c2
  refine sr ?_
  refine qn ?_
  have hl0 : l = [] := List.eq_nil_of_length_eq_zero (hb1 c2)
  subst hl0
  refine AW.nilRow 2 900 1 (by omega) rfl rfl (by decide) ?_
  refine AW.rep 900 (tr ([] : List Int)) rfl sim_nil ?_
  refine rt1 2 ?_
  refine ⟨fun _ => 900, rfl, nodup_of rfl, ?_⟩
  intro r hr
  cases List.mem_singleton.1 hr
  exact ⟨by simp, rootL_mem rfl⟩
 try simp only [cnd] at c2
 refine jd (sr ?_)
 refine sp sS ?_
 refine nm ?_
 refine qm ?_
 refine sp (by first | exact Stp.appendC rfl (by decide) (by decide) rfl rfl (by omega) | exact Stp.appendM rfl (by decide) (by decide) rfl rfl rfl (by omega)) ?_
 refine nm ?_
 refine qn ?_
 refine AW.rep 7 (tr l) rfl (app_nil (α := Int)) ?_
 refine rt1 2 ?_
 refine ⟨fun _ => 7, rfl, nodup_of rfl, ?_⟩
 intro r hr
 cases List.mem_singleton.1 hr
 exact ⟨by simp, rootL_mem rfl⟩
theorem equalI_con (a b : List Int) : Con Tryz.prog 201 [.h base [], .h (base + 1) []] [.rt base .ro (tr a), .rt (base + 1) .ro (tr b)] (fun y _ => y = .v (.bool (decide (a = b)))) := by
 refine ob Tryz.func201 Tryz.ntmps201 ?_
 refine AW.len (base) [] rfl (by simp [Okp]) rfl (fun hl => ?_)
 refine AW.len (base + 1) [] rfl (by simp [Okp]) rfl (fun hl2 => ?_)
 refine sr ?_
 refine qn ?_
 refine sr2 ?_
 refine qm ?_
 refine qh sl29 ?_
 refine nm ?_
 refine qm ?_
 refine qh sl29 ?_
 refine qb ?_
 refine nc (fun c1 => ?_) fun c1 => ?_
 ·try simp only [cnd] at c1
  refine sr ?_
  refine qr 4 ?_
  simp only [retX, slotL, reduceIte, Nat.reduceEqDiff]
  rw [decide_eq_false (show a ≠ b from ne_of_len (by omega))]
 try simp only [cnd] at c1
 refine jd (sr2 ?_)
 refine mn ?_
 refine qh sl29 ?_
 refine qm ?_
 refine nl ?_
 refine AW.block ?_
 refine AW.loopW (fun i : EqInv a b => [.sl 13 (.v (iv i.k)), .sl 12 (.v (iv a.length)), .sl 0 (.h base []), .sl 1 (.h (base + 1) []), .rt base .ro (tr a), .rt (base + 1) .ro (tr b)]) (fun i => a.length - i.k) ⟨0, Nat.zero_le _, rfl⟩ (Weak.sim ⟨rfl, rfl, rfl, rfl, Rf rfl, Rf rfl, trivial⟩ rfl rfl) ?_
 intro i
 have hle := i.le
 refine sr ?_
 refine qb ?_
 refine nl ?_
 refine AW.seq ?_
 refine cd (fun c2 => ?_) fun c2 => ?_
 ·try simp only [cnd] at c2
  refine jd (AW.seq (AW.block (sr ?_)))
  refine mn ?_
  refine qn ?_
  refine AW.seq ?_
  refine AW.draw [0, 1, 2, 3, 4, 5, 6, 7, 8] rfl (by decide +kernel) ?_
  refine tk 0 rfl Qt.move ?_
  refine tk 1 rfl Qt.move ?_
  refine na ?_
  refine tk 2 rfl (ix sl29 sz3) ?_
  refine tk 3 rfl (Qt.load1 rfl rfl rfl ag3) ?_
  refine tk 4 rfl Qt.move ?_
  refine na ?_
  refine tk 5 rfl Qt.move ?_
  refine tk 6 rfl (ix sl29 sz3) ?_
  refine tk 7 rfl (Qt.load1 rfl rfl rfl ag3) ?_
  refine na ?_
  refine tk 8 rfl (Qt.binOp rfl rfl rfl) ?_
  refine nz ?_
  refine cd (fun c3 => ?_) fun c3 => ?_
  ·try simp only [cnd] at c3
   refine sr ?_
   refine qr 4 ?_
   simp only [retX, slotL, reduceIte, Nat.reduceEqDiff]
   rw [decide_eq_false (show a ≠ b from i.stop En.dflt (by simpa using c3))]
  try simp only [cnd] at c3
  refine jd (AW.region ?_)
  refine ba ?_
  refine nm ?_
  refine qm ?_
  refine nl ?_
  refine ⟨⟨i.k + 1, by omega, i.next En.dflt (by omega) (by omega) (by simpa using c3)⟩, Weak.sim ⟨st1, rfl, rfl, rfl, Rf rfl, Rf rfl, trivial⟩ rfl rfl, ?_⟩
  show a.length - (i.k + 1) < a.length - i.k
  omega
 try simp only [cnd] at c2
 refine AW.exit ?_
 dsimp only [thenQ, blockQ, reduceIte]
 refine sr ?_
 refine qr 4 ?_
 simp only [retX, slotL, reduceIte, Nat.reduceEqDiff]
 rw [decide_eq_true (show a = b from i.full (by omega) (by omega))]
theorem readyOkI_con (u : DUnix) (hb : unixB u) : Con Tryz.prog 112 [.g [.v (iv u.Next), .v (iv u.Tick), .h base [], .h (base + 1) [], .h (base + 2) [], .h (base + 3) [], .h (base + 4) [], .h (base + 5) [], .h (base + 6) []]] [.rt base .ro (tr u.Progs), .rt (base + 1) .ro (tr u.Procs), .rt (base + 2) .ro (tr u.Opens), .rt (base + 3) .ro (tr u.Pipes), .rt (base + 4) .ro (tr u.Files), .rt (base + 5) .ro (tr u.Ready), .rt (base + 6) .ro (tr u.Out)] (fun y _ => y = .v (.bool (decide (srt u.Ready = wantOf u.Procs)))) := by
 refine ob Tryz.func112 Tryz.ntmps112 ?_
 refine AW.len (base + 1) [] rfl (by simp [Okp]) rfl (fun hl => ?_)
 have hrb := hb.ready
 have hpb := hb.procs
 refine sr ?_
 refine bx ?_
 refine nm ?_
 refine qs' ?_
 refine qq (fA fl31_7) ?_
 refine ql ag29 ?_
 refine nm ?_
 refine sp (Stp.callR rfl (by decide) Tryz.call160 rfl rfl (cloneI_con _ (by omega)) (nodup_of rfl) rfl rfl) ?_
 refine nm ?_
 refine qs' ?_
 refine qm ?_
 refine sp (Stp.callH rfl (by decide) Tryz.call200 rfl (sortI_con _ (by omega)) rfl rfl rfl (nodup_of rfl) rfl rfl) ?_
 refine ns ?_
 refine sp sS ?_
 refine nm ?_
 refine qn ?_
 refine sr2 ?_
 refine qq (fA fl31_3) ?_
 refine ql ag25 ?_
 refine nm ?_
 refine qh sl25 ?_
 refine qm ?_
 refine nl ?_
 refine AW.block ?_
 refine AW.weak (L' := [.sl 16 (.v (iv (0 : Nat))), .sl 4 (.h 12 []), .sl 3 (.h 9 []), .sl 14 (.h (base + 1) []), .sl 15 (.v (iv u.Procs.length)), .rt base .ro (tr u.Progs), .rt (base + 1) .ro (tr u.Procs), .rt (base + 2) .ro (tr u.Opens), .rt (base + 3) .ro (tr u.Pipes), .rt (base + 4) .ro (tr u.Files), .rt (base + 5) .ro (tr u.Ready), .rt (base + 6) .ro (tr u.Out), .rt 12 .row (tr ([] : List Int)), .rt 9 .row (tr (srt u.Ready))]) (Weak.sim ⟨rfl, rfl, rfl, rfl, rfl, Rf rfl, Rf rfl, Rf rfl, Rf rfl, Rf rfl, Rf rfl, Rf rfl, ⟨_, rfl, sim_nil⟩, Rf rfl, trivial⟩ rfl rfl) ?_
 refine AW.loop (fun i : WInv u => [.sl 16 (.v (iv i.k)), .sl 4 (.h 12 []), .sl 3 (.h 9 []), .sl 14 (.h (base + 1) []), .sl 15 (.v (iv u.Procs.length)), .rt base .ro (tr u.Progs), .rt (base + 1) .ro (tr u.Procs), .rt (base + 2) .ro (tr u.Opens), .rt (base + 3) .ro (tr u.Pipes), .rt (base + 4) .ro (tr u.Files), .rt (base + 5) .ro (tr u.Ready), .rt (base + 6) .ro (tr u.Out), .rt 12 .row (tr i.acc), .rt 9 .row (tr (srt u.Ready))]) (fun i => u.Procs.length - i.k) ⟨0, Nat.zero_le _, [], by simp [wantOf]⟩ ?_
 intro i
 have hle := i.le
 have hacc := i.len
 refine sr ?_
 refine qb ?_
 refine nl ?_
 refine AW.seq ?_
 refine cd (fun c1 => ?_) fun c1 => ?_
 ·try simp only [cnd] at c1
  refine jd (AW.seq (AW.block (sr ?_)))
  refine qq (ix sl25 sz72) ?_
  refine nm ?_
  refine qG ag72 sz72 ?_
  refine sp sA ?_
  refine nm ?_
  refine ss ?_
  refine ns ?_
  refine qq (fA fl72_2) ?_
  refine nm ?_
  refine ql ag3 ?_
  refine qb ?_
  refine nc (fun c2 => ?_) fun c2 => ?_
  ·try simp only [cnd] at c2
   refine AW.region ?_
   refine mn ?_
   refine qq (fA fl72_0) ?_
   refine ql ag3 ?_
   refine sp sS ?_
   refine nm ?_
   refine sp (by first | exact Stp.appendC rfl (by decide) (by decide) rfl rfl (by omega) | exact Stp.appendM rfl (by decide) (by decide) rfl rfl rfl (by omega)) ?_
   refine nm ?_
   refine qn ?_
   refine AW.region ?_
   refine ba ?_
   refine qm ?_
   refine nl ?_
   refine ⟨⟨i.k + 1, by omega, _, i.t (by omega) (by simpa using c2)⟩, Weak.trans (Weak.renR (a := 27) (b := 12) rfl (by decide) (by decide)) (Weak.sim ⟨st1, rfl, rfl, rfl, rfl, Rf rfl, Rf rfl, Rf rfl, Rf rfl, Rf rfl, Rf rfl, Rf rfl, ⟨_, rfl, app_one (α := Int) (a := (u.Procs.getD i.k En.dflt).Pid) (fun c hc => match c, hc with | 0, _ => rfl | c + 1, hc => absurd hc (by simp only [En.n]; omega))⟩, Rf rfl, trivial⟩ rfl rfl), ?_⟩
   show u.Procs.length - (i.k + 1) < u.Procs.length - i.k
   omega
  try simp only [cnd] at c2
  refine jd (AW.region ?_)
  refine ba ?_
  refine nm ?_
  refine qm ?_
  refine nl ?_
  refine ⟨⟨i.k + 1, by omega, _, i.f (by omega) (by simpa using c2)⟩, Weak.sim ⟨st1, rfl, rfl, rfl, rfl, Rf rfl, Rf rfl, Rf rfl, Rf rfl, Rf rfl, Rf rfl, Rf rfl, Rf rfl, Rf rfl, trivial⟩ rfl rfl, ?_⟩
  show u.Procs.length - (i.k + 1) < u.Procs.length - i.k
  omega
 try simp only [cnd] at c1
 refine AW.exit ?_
 dsimp only [thenQ, blockQ, reduceIte]
 refine sr ?_
 refine qm ?_
 refine mn ?_
 refine cv Tryz.call201 rfl rfl (equalI_con _ _) ?_
 refine nm ?_
 refine qr 2 ?_
 simp only [retX, slotL, reduceIte, Nat.reduceEqDiff]
 rw [show i.acc = wantOf u.Procs from by rw [i.eq, List.take_of_length_le (by omega)]]
end Go.Proofs.YtfbefcmeghpalaaGreat.VM
