/- Contracts. No conditions. -/
import Derived.Test.YtldefnpobjabpaaGreatCUF
import Derived.Test.YtldefnpobjabpaaGreatCQ14
import Derived.Test.YtldefnpobjabpaaGreatCR2
set_option linter.all false
set_option maxHeartbeats 8000000
set_option maxRecDepth 10000
namespace Go.Proofs.YtldefnpobjabpaaGreat.VM
open Go Go.RowKit Go.Proofs
theorem view_dropI {l : List Int} {lo : Nat} (h : lo ≤ l.length) : (T.s 1 (l.length - lo) fun k c => (En.cs (l.getD (lo + k) En.dflt)).getD c .j).sim (tr (l.drop lo)) := by
 refine ⟨fun k c => (En.cs ((l.drop lo).getD k En.dflt)).getD c .j, by simp only [tr, List.length_drop]; rfl, fun k c hk hc => ?_⟩
 show T.sim ((En.cs (l.getD (lo + k) En.dflt)).getD c .j) ((En.cs ((l.drop lo).getD k En.dflt)).getD c .j)
 rw [show (l.drop lo).getD k En.dflt = l.getD (lo + k) En.dflt by simp [List.getD_eq_getElem?_getD]]
 exact tsr
theorem allAreV_con (l : List Int) (lo : Nat) (n : Int) (h : lo ≤ l.length) : Con Tryz.prog 84 [.h base [], .v (iv n)] [.rt base .ro (T.s 1 (l.length - lo) fun k c => (En.cs (l.getD (lo + k) En.dflt)).getD c .j)] (fun y _ => y = .v (.bool ((l.drop lo).all fun x => x == n))) :=
 Con.simH (allAre_con (l.drop lo) n) ⟨⟨_, rfl, view_dropI h⟩, trivial⟩ rfl rfl rfl
theorem equalB_con (a b : List Bool) : Con Tryz.prog 85 [.h base [], .h (base + 1) []] [.rt base .ro (tr a), .rt (base + 1) .ro (tr b)] (fun y _ => y = .v (.bool (decide (a = b)))) := by
 refine ob Tryz.func85 Tryz.ntmps85 ?_
 refine AW.len (base) [] rfl (by simp [Okp]) rfl (fun hl => ?_)
 refine AW.len (base + 1) [] rfl (by simp [Okp]) rfl (fun hl2 => ?_)
 refine go [.R,.a,.Z,.R2,.m,.h,.N,.m,.h,.b,.Z] (k := ?_)
 refine cd (fun c1 => ?_) fun c1 => ?_
 ·try simp only [cnd] at c1
  refine go [.R,.a,.Z] (k := ?_)
  refine rt1 4 ?_
  simp only [retX, slotL, reduceIte, Nat.reduceEqDiff]
  rw [decide_eq_false (show a ≠ b from ne_of_len (by omega))]
 try simp only [cnd] at c1
 refine jd (sr2 ?_)
 refine go [.m,.N,.h,.m,.Z] (k := ?_)
 refine AW.block ?_
 refine AW.loopW (fun i : EqInv a b => [.sl 13 (.v (iv i.k)), .sl 12 (.v (iv a.length)), .sl 0 (.h base []), .sl 1 (.h (base + 1) []), .rt base .ro (tr a), .rt (base + 1) .ro (tr b)]) (fun i => a.length - i.k) ⟨0, Nat.zero_le _, rfl⟩ (ws) ?_
 intro i
 have hle := i.le
 refine go [.R,.b,.Z] (k := ?_)
 refine AW.seq ?_
 refine cd (fun c2 => ?_) fun c2 => ?_
 ·try simp only [cnd] at c2
  refine jd (AW.seq (AW.block (sr ?_)))
  refine go [.m,.N,.a,.Z] (k := ?_)
  refine AW.seq ?_
  refine go [.D [0, 1, 2, 3, 4, 5, 6, 7, 8],.t 0,.m,.t 1,.m,.N,.t 2,.i,.t 3,.l,.t 4,.m,.N,.t 5,.m,.t 6,.i,.t 7,.l,.N] (k := ?_)
  refine tk 8 rfl (Qt.neB rfl rfl Tryz.underlying4) ?_
  refine go [.Z] (k := ?_)
  refine cd (fun c3 => ?_) fun c3 => ?_
  ·try simp only [cnd] at c3
   refine go [.R,.a,.Z] (k := ?_)
   refine rt1 4 ?_
   simp only [retX, slotL, reduceIte, Nat.reduceEqDiff]
   rw [decide_eq_false (show a ≠ b from i.stop En.dflt (by simpa using c3))]
  try simp only [cnd] at c3
  refine go [.J,.R1,.b,.N,.m,.Z] (k := ?_)
  refine ⟨⟨i.k + 1, by omega, i.next En.dflt (by omega) (by omega) (by simpa using c3)⟩, ws, ?_⟩
  show a.length - (i.k + 1) < a.length - i.k
  omega
 try simp only [cnd] at c2
 refine AW.exit ?_
 dsimp only [thenQ, blockQ, reduceIte]
 refine go [.R,.a,.Z] (k := ?_)
 refine rt1 4 ?_
 simp only [retX, slotL, reduceIte, Nat.reduceEqDiff]
 rw [decide_eq_true (show a = b from i.full (by omega) (by omega))]
theorem AOkI_con (a : DArrays) (hw : Mk.wt a ≤ 1048576) : Con Tryz.prog 17 [.g [.v (iv a.Next), .v (iv a.Tick), .h base [], .h (base + 1) [], .h (base + 2) [], .h (base + 3) [], .h (base + 4) [], .h (base + 5) [], .h (base + 6) [], .v (.bool a.Ready.Used), .h (base + 7) [], .v (iv a.Ready.Head), .v (iv a.Ready.Len), .h (base + 8) []]] [.rt base .ro (tr a.Progs), .rt (base + 1) .ro (tr a.Slots), .rt (base + 2) .ro (tr a.Ram), .rt (base + 3) .ro (tr a.Map), .rt (base + 4) .ro (tr a.Opens), .rt (base + 5) .ro (tr a.Pipes), .rt (base + 6) .ro (tr a.Files), .rt (base + 7) .ro (tr a.Ready.Buf), .rt (base + 8) .ro (tr a.Out)] (fun y _ => y = .v (.bool (aOk a))) := by
 refine ob Tryz.func17 Tryz.ntmps17 ?_
 refine AW.len (base + 1) [] rfl (by simp [Okp]) rfl (fun hl1 => ?_)
 refine AW.len (base + 3) [] rfl (by simp [Okp]) rfl (fun hl3 => ?_)
 refine go [.R,.B,.N,.a,.Z,.R2,.G] (k := ?_)
 refine cv Tryz.call43 rfl rfl (shapeAI_con a) ?_
 refine go [.N,.n,.m] (k := ?_)
 refine AWL.split 12 rfl (fun g1 => ?_) (fun g1 => ?_)
 ·have eg1 := g1
  try simp only [cnd] at eg1
  refine go [.x,.x,.x,.x] (k := ?_)
  refine qq (Qt.pickT rfl g1) ?_
  refine go [.Z] (k := ?_)
  refine AW.cond rfl (fun c2 => ?_) (fun c2 => (by exfalso; first | (cases c2; done) | (simp at c2; done) | (simp only [cnd] at c2; omega)))
  try simp only [cnd] at c2
  have hsh : shapeA a = false := by simpa using g1
  refine go [.R,.a,.Z] (k := ?_)
  refine rt1 2 ?_
  rw [show aOk a = false from aOk_shape hsh]
  rfl
 have eg1 := g1
 try simp only [cnd] at eg1
 refine go [.G] (k := ?_)
 have hsh : shapeA a = true := by simpa using g1
 have hS := shpA hsh
 have hs1 := hS.slots
 have hml := map_len hsh
 refine go [.N] (k := ?_)
 refine AWL.step rfl (nF g1) (Stp.callR rfl (by decide) Tryz.call10 rfl rfl (AbsAI_con a hw) (nodup_of rfl) rfl rfl) ?_
 refine go [.N] (k := ?_)
 refine AWL.step rfl (nF g1) (Stp.callV rfl (by decide) Tryz.call83 rfl rfl (UnixOkI_con (absA a) (by rw [absA_t hsh]; exact unixB_abs hS))) ?_
 refine go [.N,.n] (k := ?_)
 refine qq (Qt.pickF rfl g1) ?_
 refine go [.Z] (k := ?_)
 refine cd (fun c3 => ?_) fun c3 => ?_
 ·have k3 := c3
  try simp only [cnd] at c3
  have hU : unixOk (absU a) = false := by rw [← absA_t hsh]; simpa using k3
  refine go [.R,.a,.Z] (k := ?_)
  refine rt1 2 ?_
  rw [show aOk a = false from aOk_unix hU]
  rfl
 have k3 := c3
 try simp only [cnd] at c3
 have hU : unixOk (absU a) = true := by rw [← absA_t hsh]; simpa using k3
 refine go [.J,.R] (k := ?_)
 refine sp (Stp.makeSlice rfl (by decide) (by decide) rfl rfl (by omega) (by omega) (by omega)) ?_
 refine go [.N,.a,.Z,.R2,.f,.l,.N,.h,.m,.Z] (k := ?_)
 refine AW.block ?_
 refine AW.loopW (fun i : UInv a => (.sl 22 (.v (iv i.k)) :: .sl 3 (.h 18 []) :: .rt 1 .box (T.s 14 1 fun k c => ([(T.v (iv a.Next), none), (T.v (iv a.Tick), none), (T.j, none), (T.j, none), (T.j, none), (T.j, none), (T.j, none), (T.j, none), (T.j, none), (T.v (Value.bool a.Ready.Used), none), (T.j, none), (T.v (iv a.Ready.Head), none), (T.v (iv a.Ready.Len), none), (T.j, none)].getD (k * 14 + c) (T.j, none)).fst) :: .al 1 2 (.h base []) :: .al 1 3 (.h (base + 1) []) :: .al 1 4 (.h (base + 2) []) :: .al 1 5 (.h (base + 3) []) :: .al 1 6 (.h (base + 4) []) :: .al 1 7 (.h (base + 5) []) :: .al 1 8 (.h (base + 6) []) :: .al 1 10 (.h (base + 7) []) :: .al 1 13 (.h (base + 8) []) :: .rt base .ro (tr a.Progs) :: .rt (base + 1) .ro (tr a.Slots) :: .rt (base + 2) .ro (tr a.Ram) :: .rt (base + 3) .ro (tr a.Map) :: .rt (base + 4) .ro (tr a.Opens) :: .rt (base + 5) .ro (tr a.Pipes) :: .rt (base + 6) .ro (tr a.Files) :: .rt (base + 7) .ro (tr a.Ready.Buf) :: .rt (base + 8) .ro (tr a.Out) :: .sl 1 (.p 1 [] 14 0 0) :: .sl 20 (.h (base + 1) []) :: .sl 21 (.v (iv a.Slots.length)) :: .rt 18 .row (tr i.u) :: [])) (fun i => a.Slots.length - i.k) ⟨0, Nat.zero_le _, List.replicate 16 false, rfl, by simp⟩ (Weak.sim ⟨rfl, rfl, Rf rfl, ⟨rfl, rfl⟩, ⟨rfl, rfl⟩, ⟨rfl, rfl⟩, ⟨rfl, rfl⟩, ⟨rfl, rfl⟩, ⟨rfl, rfl⟩, ⟨rfl, rfl⟩, ⟨rfl, rfl⟩, ⟨rfl, rfl⟩, Rf rfl, Rf rfl, Rf rfl, Rf rfl, Rf rfl, Rf rfl, Rf rfl, Rf rfl, Rf rfl, rfl, rfl, rfl, ⟨_, rfl, sim_rep 16⟩, trivial⟩ rfl rfl) ?_
 intro i
 have hle := i.le
 have hln := i.ln
 refine go [.R,.b,.Z] (k := ?_)
 refine AW.seq ?_
 refine cd (fun c4 => ?_) fun c4 => ?_
 ·try simp only [cnd] at c4
  have hsl := hS.slot i.k (by omega)
  have hpn := pagesN_le (a.Slots.getD i.k En.dflt).Pt
  have hpg : ((a.Slots.getD i.k En.dflt).Pt.takeWhile isFr).length = pagesN (a.Slots.getD i.k En.dflt).Pt := rfl
  refine jd (AW.seq (AW.block (sr ?_)))
  refine go [.i,.N,.G,.A,.N,.s,.Z,.R,.f,.N,.l] (k := ?_)
  refine sp (Stp.callR rfl (by decide) Tryz.call48 rfl rfl (pagesOf_con (a.Slots.getD i.k En.dflt).Pt (by omega)) (nodup_of rfl) rfl rfl) ?_
  refine go [.N,.a,.Z,.R2,.f,.l,.N,.m,.h] (k := ?_)
  refine qq (Qt.sliceH (lo := pagesN (a.Slots.getD i.k En.dflt).Pt) rfl rfl rfl sl24 sz3 (by decide) (slB_so rfl (by omega)) slB_no (by omega) (by omega)) ?_
  refine go [.N] (k := ?_)
  refine cv Tryz.call84 rfl rfl (allAreV_con (a.Slots.getD i.k En.dflt).Pt (pagesN (a.Slots.getD i.k En.dflt).Pt) _ (by omega)) ?_
  refine go [.N,.n,.Z] (k := ?_)
  refine cd (fun c5 => ?_) fun c5 => ?_
  ·have k5 := c5
   try simp only [cnd] at c5
   have hall : (((a.Slots.getD i.k En.dflt).Pt.drop (pagesN (a.Slots.getD i.k En.dflt).Pt)).all fun x => x == -1) = false := by simpa using k5
   refine go [.R,.a,.Z] (k := ?_)
   refine rt1 2 ?_
   rw [show aOk a = false from aOk_none (k := i.k + 1) ((used_next i.hu).trans (slot_tail' hall)) (by omega)]
   rfl
  have k5 := c5
  try simp only [cnd] at c5
  have hall : (((a.Slots.getD i.k En.dflt).Pt.drop (pagesN (a.Slots.getD i.k En.dflt).Pt)).all fun x => x == -1) = true := by simpa using k5
  refine go [.J,.R,.m,.N,.h,.m,.Z] (k := ?_)
  refine AW.block ?_
  refine AW.loopW (fun j : PInv (a.Slots.getD i.k En.dflt).Pt i.u => (.sl 38 (.v (iv j.k)) :: .sl 36 (.h 28 []) :: .sl 37 (.v (iv ((a.Slots.getD i.k En.dflt).Pt.takeWhile isFr).length)) :: .sl 22 (.v (iv i.k)) :: .sl 3 (.h 18 []) :: .rt 1 .box (T.s 14 1 fun k c => ([(T.v (iv a.Next), none), (T.v (iv a.Tick), none), (T.j, none), (T.j, none), (T.j, none), (T.j, none), (T.j, none), (T.j, none), (T.j, none), (T.v (Value.bool a.Ready.Used), none), (T.j, none), (T.v (iv a.Ready.Head), none), (T.v (iv a.Ready.Len), none), (T.j, none)].getD (k * 14 + c) (T.j, none)).fst) :: .al 1 2 (.h base []) :: .al 1 3 (.h (base + 1) []) :: .al 1 4 (.h (base + 2) []) :: .al 1 5 (.h (base + 3) []) :: .al 1 6 (.h (base + 4) []) :: .al 1 7 (.h (base + 5) []) :: .al 1 8 (.h (base + 6) []) :: .al 1 10 (.h (base + 7) []) :: .al 1 13 (.h (base + 8) []) :: .rt base .ro (tr a.Progs) :: .rt (base + 1) .ro (tr a.Slots) :: .rt (base + 2) .ro (tr a.Ram) :: .rt (base + 3) .ro (tr a.Map) :: .rt (base + 4) .ro (tr a.Opens) :: .rt (base + 5) .ro (tr a.Pipes) :: .rt (base + 6) .ro (tr a.Files) :: .rt (base + 7) .ro (tr a.Ready.Buf) :: .rt (base + 8) .ro (tr a.Out) :: .sl 1 (.p 1 [] 14 0 0) :: .sl 20 (.h (base + 1) []) :: .sl 21 (.v (iv a.Slots.length)) :: .rt 18 .row (tr j.v) :: .rt 28 .row (tr ((a.Slots.getD i.k En.dflt).Pt.takeWhile isFr)) :: [])) (fun j => pagesN (a.Slots.getD i.k En.dflt).Pt - j.k) ⟨0, Nat.zero_le _, i.u, by simp [pgK], i.ln, fun x h1 h2 => absurd h2 (by omega)⟩ (ws) ?_
  intro j
  have hlej := j.le
  have hjn := j.ln
  refine go [.R,.b,.Z] (k := ?_)
  refine AW.seq ?_
  refine cd (fun c6 => ?_) fun c6 => ?_
  ·try simp only [cnd] at c6
   have hfr := frm (pt := (a.Slots.getD i.k En.dflt).Pt) (k := j.k) (by omega)
   rw [← pg_getD (by omega)] at hfr
   refine jd (AW.seq (AW.block (sr ?_)))
   refine go [.i,.N,.l,.a,.Z,.R2,.m,.N,.m,.i,.l,.Z] (k := ?_)
   refine cd (fun c7 => ?_) fun c7 => ?_
   ·have k7 := c7
    try simp only [cnd] at c7
    have hf : j.v.getD ((a.Slots.getD i.k En.dflt).Pt.getD j.k En.dflt).toNat En.dflt = true := by rw [← pg_getD (by omega)]; first | exact c7 | simpa using k7
    refine go [.R,.a,.Z] (k := ?_)
    refine rt1 2 ?_
    rw [show aOk a = false from aOk_none (k := i.k + 1) ((used_next i.hu).trans (j.bad (by omega) hf)) (by omega)]
    rfl
   have k7 := c7
   try simp only [cnd] at c7
   have hf : j.v.getD ((a.Slots.getD i.k En.dflt).Pt.getD j.k En.dflt).toNat En.dflt = false := by rw [← pg_getD (by omega)]; first | exact c7 | simpa using k7
   refine go [.J,.R1,.m,.N,.m,.i,.s,.Z,.R1,.b,.N,.m,.Z] (k := ?_)
   refine ⟨⟨j.k + 1, by omega, j.v.set (((a.Slots.getD i.k En.dflt).Pt.takeWhile isFr).getD j.k En.dflt).toNat true, by rw [pg_getD (by omega)]; exact j.mark (by omega) hf, by rw [List.length_set]; exact j.ln, fun x h1 h2 => absurd h1 (by omega)⟩, Weak.sim ⟨st1, rfl, rfl, rfl, rfl, Rf rfl, ⟨rfl, rfl⟩, ⟨rfl, rfl⟩, ⟨rfl, rfl⟩, ⟨rfl, rfl⟩, ⟨rfl, rfl⟩, ⟨rfl, rfl⟩, ⟨rfl, rfl⟩, ⟨rfl, rfl⟩, ⟨rfl, rfl⟩, Rf rfl, Rf rfl, Rf rfl, Rf rfl, Rf rfl, Rf rfl, Rf rfl, Rf rfl, Rf rfl, rfl, rfl, rfl, ⟨_, rfl, (set_sim (fun k c hk => by simp only [upd_app, hk, false_and, if_false]; try rfl) (fun c hc => match c, hc with | 0, _ => (by simp only [upd_app, eq_self, and_self, if_true]; exact tsr) | c + 1, hc => absurd hc (by simp only [En.n]; omega)))⟩, Rf rfl, trivial⟩ rfl rfl, ?_⟩
   show pagesN (a.Slots.getD i.k En.dflt).Pt - (j.k + 1) < pagesN (a.Slots.getD i.k En.dflt).Pt - j.k
   omega
  try simp only [cnd] at c6
  refine AW.exit ?_
  dsimp only [thenQ, blockQ, reduceIte]
  refine go [.R1,.b,.m,.Z] (k := ?_)
  refine ⟨⟨i.k + 1, by omega, j.v, (used_next i.hu).trans (j.fullI (by omega) hall), j.ln⟩, ws, ?_⟩
  show a.Slots.length - (i.k + 1) < a.Slots.length - i.k
  omega
 try simp only [cnd] at c4
 refine AW.exit ?_
 dsimp only [thenQ, blockQ, reduceIte]
 refine go [.R,.m,.N,.f,.l] (k := ?_)
 refine cv Tryz.call85 rfl rfl (equalB_con _ _) ?_
 refine go [.N,.a,.Z] (k := ?_)
 refine rt1 2 ?_
 rw [show aOk a = decide (i.u = a.Map) from aOk_some hsh hU (by rw [show a.Slots.length = i.k by omega]; exact i.hu)]
 rfl
end Go.Proofs.YtldefnpobjabpaaGreat.VM

