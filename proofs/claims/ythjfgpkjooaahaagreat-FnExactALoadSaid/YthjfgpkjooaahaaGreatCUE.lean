/- Contracts. No conditions. -/
import Derived.Test.YthjfgpkjooaahaaGreatCUC
import Derived.Test.YthjfgpkjooaahaaGreatCUD
import Derived.Test.YthjfgpkjooaahaaGreatCUX
set_option linter.all false
set_option maxHeartbeats 8000000
set_option maxRecDepth 10000
namespace Go.Proofs.YthjfgpkjooaahaaGreat.VM
open Go Go.RowKit Go.Proofs
structure WInv (u : DUnix) where
 k : Nat
 le : k ≤ u.Procs.length
 acc : List Int
 eq : acc = wantOf (u.Procs.take k)
theorem WInv.len {u : DUnix} (i : WInv u) : i.acc.length ≤ i.k := by rw [i.eq, want_len i.le]; exact readyN_le _ _
theorem WInv.t {u : DUnix} (i : WInv u) (hk : i.k < u.Procs.length) (hs : (u.Procs.getD i.k En.dflt).State = 1) : i.acc ++ [(u.Procs.getD i.k En.dflt).Pid] = wantOf (u.Procs.take (i.k + 1)) := by rw [want_take hk, if_pos hs, ← i.eq]
theorem WInv.f {u : DUnix} (i : WInv u) (hk : i.k < u.Procs.length) (hs : (u.Procs.getD i.k En.dflt).State ≠ 1) : i.acc = wantOf (u.Procs.take (i.k + 1)) := by rw [want_take hk, if_neg hs, ← i.eq]
theorem cloneU_con (l : List Int) (hs : l.length ≤ 4194304) : Con Tryz.prog 46 [.h base []] [.rt base .ro (tr l)] (Ret (.h 0 []) [(0, .row, tr l)]) := by
 refine ob Tryz.func46 Tryz.ntmps46 ?_
 refine go [.R,.a,.Z,.R2,.m] (k := ?_)
 refine AWL.nilTest rfl rfl rfl (by decide) rfl rfl rfl sl27 ?_
 intro b1 hb1
 refine go [.Z] (k := ?_)
 refine cd (fun c2 => ?_) fun c2 => ?_
 ·try simp only [cnd] at c2
  refine go [.R,.a,.Z] (k := ?_)
  have hl0 : l = [] := List.eq_nil_of_length_eq_zero (hb1 c2)
  subst hl0
  refine AW.nilRow 2 900 1 (by omega) rfl rfl (by decide) ?_
  refine AW.rep 900 (tr ([] : List Int)) rfl sim_nil ?_
  refine rt1 2 ?_
  refine ⟨fun _ => 900, rfl, nodup_of rfl, ?_⟩
  intro r hr
  cases List.mem_singleton.1 hr
  exact ⟨by simp, rootL_mem rfl⟩
 try simp only [cnd] at c2
 refine go [.J,.R,.S,.N,.m] (k := ?_)
 refine sp (by first | exact Stp.appendC rfl (by decide) (by decide) rfl rfl (by omega) | exact Stp.appendM rfl (by decide) (by decide) rfl rfl rfl (by omega)) ?_
 refine go [.N,.a,.Z] (k := ?_)
 refine AW.rep 7 (tr l) rfl (app_nil (α := Int)) ?_
 refine rt1 2 ?_
 refine ⟨fun _ => 7, rfl, nodup_of rfl, ?_⟩
 intro r hr
 cases List.mem_singleton.1 hr
 exact ⟨by simp, rootL_mem rfl⟩
theorem equalI_con (a b : List Int) : Con Tryz.prog 275 [.h base [], .h (base + 1) []] [.rt base .ro (tr a), .rt (base + 1) .ro (tr b)] (fun y _ => y = .v (.bool (decide (a = b)))) := by
 refine ob Tryz.func275 Tryz.ntmps275 ?_
 refine AW.len (base) [] rfl (by simp [Okp]) rfl (fun hl => ?_)
 refine AW.len (base + 1) [] rfl (by simp [Okp]) rfl (fun hl2 => ?_)
 refine go [.R,.a,.Z,.R2,.m,.h,.N,.m,.h,.b,.Z] (k := ?_)
 refine cd (fun c1 => ?_) fun c1 => ?_
 ·try simp only [cnd] at c1
  refine go [.R,.a,.Z] (k := ?_)
  refine rt1 4 ?_
  simp only [retX, slotL, reduceIte, Nat.reduceEqDiff]
  rw [decide_eq_false (show a ≠ b from ne_of_len (by omega))]
 try simp only [cnd] at c1
 refine jd (sr2 ?_)
 refine go [.m,.N,.h,.m,.Z] (k := ?_)
 refine AW.block ?_
 refine AW.loopW (fun i : EqInv a b => [.sl 13 (.v (iv i.k)), .sl 12 (.v (iv a.length)), .sl 0 (.h base []), .sl 1 (.h (base + 1) []), .rt base .ro (tr a), .rt (base + 1) .ro (tr b)]) (fun i => a.length - i.k) ⟨0, Nat.zero_le _, rfl⟩ (ws) ?_
 intro i
 have hle := i.le
 refine go [.R,.b,.Z] (k := ?_)
 refine AW.seq ?_
 refine cd (fun c2 => ?_) fun c2 => ?_
 ·try simp only [cnd] at c2
  refine jd (AW.seq (AW.block (sr ?_)))
  refine go [.m,.N,.a,.Z] (k := ?_)
  refine AW.seq ?_
  refine go [.D [0, 1, 2, 3, 4, 5, 6, 7, 8],.t 0,.m,.t 1,.m,.N,.t 2,.i,.t 3,.l,.t 4,.m,.N,.t 5,.m,.t 6,.i,.t 7,.l,.N,.t 8,.b,.Z] (k := ?_)
  refine cd (fun c3 => ?_) fun c3 => ?_
  ·try simp only [cnd] at c3
   refine go [.R,.a,.Z] (k := ?_)
   refine rt1 4 ?_
   simp only [retX, slotL, reduceIte, Nat.reduceEqDiff]
   rw [decide_eq_false (show a ≠ b from i.stop En.dflt (by simpa using c3))]
  try simp only [cnd] at c3
  refine go [.J,.R1,.b,.N,.m,.Z] (k := ?_)
  refine ⟨⟨i.k + 1, by omega, i.next En.dflt (by omega) (by omega) (by simpa using c3)⟩, ws, ?_⟩
  show a.length - (i.k + 1) < a.length - i.k
  omega
 try simp only [cnd] at c2
 refine AW.exit ?_
 dsimp only [thenQ, blockQ, reduceIte]
 refine go [.R,.a,.Z] (k := ?_)
 refine rt1 4 ?_
 simp only [retX, slotL, reduceIte, Nat.reduceEqDiff]
 rw [decide_eq_true (show a = b from i.full (by omega) (by omega))]
theorem readyOkI_con (u : DUnix) (hb : unixB u) : Con Tryz.prog 162 [.g [.v (iv u.Next), .v (iv u.Tick), .h base [], .h (base + 1) [], .h (base + 2) [], .h (base + 3) [], .h (base + 4) [], .h (base + 5) [], .h (base + 6) []]] [.rt base .ro (tr u.Progs), .rt (base + 1) .ro (tr u.Procs), .rt (base + 2) .ro (tr u.Opens), .rt (base + 3) .ro (tr u.Pipes), .rt (base + 4) .ro (tr u.Files), .rt (base + 5) .ro (tr u.Ready), .rt (base + 6) .ro (tr u.Out)] (fun y _ => y = .v (.bool (decide (srt u.Ready = wantOf u.Procs)))) := by
 refine ob Tryz.func162 Tryz.ntmps162 ?_
 refine AW.len (base + 1) [] rfl (by simp [Okp]) rfl (fun hl => ?_)
 have hrb := hb.ready
 have hpb := hb.procs
 refine go [.R,.B,.N,.a,.Z,.R,.f,.l,.N] (k := ?_)
 refine sp (Stp.callR rfl (by decide) Tryz.call46 rfl rfl (cloneU_con _ (by omega)) (nodup_of rfl) rfl rfl) ?_
 refine go [.N,.a,.Z,.R,.m] (k := ?_)
 refine sp (Stp.callH rfl (by decide) Tryz.call274 rfl (sortI_con _ (by omega)) rfl rfl rfl (nodup_of rfl) rfl rfl) ?_
 refine go [.Z,.R,.S,.N,.a,.Z,.R2,.f,.l,.N,.h,.m,.Z] (k := ?_)
 refine AW.block ?_
 refine AW.weak (L' := [.sl 16 (.v (iv (0 : Nat))), .sl 4 (.h 12 []), .sl 3 (.h 9 []), .sl 14 (.h (base + 1) []), .sl 15 (.v (iv u.Procs.length)), .rt base .ro (tr u.Progs), .rt (base + 1) .ro (tr u.Procs), .rt (base + 2) .ro (tr u.Opens), .rt (base + 3) .ro (tr u.Pipes), .rt (base + 4) .ro (tr u.Files), .rt (base + 5) .ro (tr u.Ready), .rt (base + 6) .ro (tr u.Out), .rt 12 .row (tr ([] : List Int)), .rt 9 .row (tr (srt u.Ready))]) (Weak.sim ⟨rfl, rfl, rfl, rfl, rfl, Rf rfl, Rf rfl, Rf rfl, Rf rfl, Rf rfl, Rf rfl, Rf rfl, ⟨_, rfl, sim_nil⟩, Rf rfl, trivial⟩ rfl rfl) ?_
 refine AW.loop (fun i : WInv u => [.sl 16 (.v (iv i.k)), .sl 4 (.h 12 []), .sl 3 (.h 9 []), .sl 14 (.h (base + 1) []), .sl 15 (.v (iv u.Procs.length)), .rt base .ro (tr u.Progs), .rt (base + 1) .ro (tr u.Procs), .rt (base + 2) .ro (tr u.Opens), .rt (base + 3) .ro (tr u.Pipes), .rt (base + 4) .ro (tr u.Files), .rt (base + 5) .ro (tr u.Ready), .rt (base + 6) .ro (tr u.Out), .rt 12 .row (tr i.acc), .rt 9 .row (tr (srt u.Ready))]) (fun i => u.Procs.length - i.k) ⟨0, Nat.zero_le _, [], by simp [wantOf]⟩ ?_
 intro i
 have hle := i.le
 have hacc := i.len
 refine go [.R,.b,.Z] (k := ?_)
 refine AW.seq ?_
 refine cd (fun c1 => ?_) fun c1 => ?_
 ·try simp only [cnd] at c1
  refine jd (AW.seq (AW.block (sr ?_)))
  refine go [.i,.N,.G,.A,.N,.s,.Z,.R,.f,.N,.l,.b,.Z] (k := ?_)
  refine cd (fun c2 => ?_) fun c2 => ?_
  ·try simp only [cnd] at c2
   refine go [.R1,.m,.N,.f,.l,.S,.N] (k := ?_)
   refine sp (by first | exact Stp.appendC rfl (by decide) (by decide) rfl rfl (by omega) | exact Stp.appendM rfl (by decide) (by decide) rfl rfl rfl (by omega)) ?_
   refine go [.N,.a,.Z,.R1,.b,.m,.Z] (k := ?_)
   refine ⟨⟨i.k + 1, by omega, _, i.t (by omega) (by simpa using c2)⟩, Weak.trans (Weak.renR (a := 27) (b := 12) rfl (by decide) (by decide)) (Weak.sim ⟨st1, rfl, rfl, rfl, rfl, Rf rfl, Rf rfl, Rf rfl, Rf rfl, Rf rfl, Rf rfl, Rf rfl, ⟨_, rfl, app_one (α := Int) (a := (u.Procs.getD i.k En.dflt).Pid) (fun c hc => match c, hc with | 0, _ => rfl | c + 1, hc => absurd hc (by simp only [En.n]; omega))⟩, Rf rfl, trivial⟩ rfl rfl), ?_⟩
   show u.Procs.length - (i.k + 1) < u.Procs.length - i.k
   omega
  try simp only [cnd] at c2
  refine go [.J,.R1,.b,.N,.m,.Z] (k := ?_)
  refine ⟨⟨i.k + 1, by omega, _, i.f (by omega) (by simpa using c2)⟩, ws, ?_⟩
  show u.Procs.length - (i.k + 1) < u.Procs.length - i.k
  omega
 try simp only [cnd] at c1
 refine AW.exit ?_
 dsimp only [thenQ, blockQ, reduceIte]
 refine go [.R,.m,.m,.N] (k := ?_)
 refine cv Tryz.call275 rfl rfl (equalI_con _ _) ?_
 refine go [.N,.a,.Z] (k := ?_)
 refine rt1 2 ?_
 simp only [retX, slotL, reduceIte, Nat.reduceEqDiff]
 rw [show i.acc = wantOf u.Procs from by rw [i.eq, List.take_of_length_le (by omega)]]
end Go.Proofs.YthjfgpkjooaahaaGreat.VM

