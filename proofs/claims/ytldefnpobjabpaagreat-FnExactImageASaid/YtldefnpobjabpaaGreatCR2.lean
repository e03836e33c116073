/- Contracts. No conditions. -/
import Derived.Test.YtldefnpobjabpaaGreatCU9
import Derived.Test.YtldefnpobjabpaaGreatCQ12
import Derived.Test.YtldefnpobjabpaaGreatCR1
set_option linter.all false
set_option maxHeartbeats 8000000
set_option maxRecDepth 10000
namespace Go.Proofs.YtldefnpobjabpaaGreat.VM
open Go Go.RowKit Go.Proofs
theorem sim_rep (n : Nat) : (T.s 1 n fun _ j => [T.v (.bool false)].getD j .j).sim (tr (List.replicate n false)) := by
 refine ⟨fun k c => (En.cs ((List.replicate n false).getD k En.dflt)).getD c .j, by simp only [tr, List.length_replicate]; rfl, fun k c hk hc => ?_⟩
 match c, hc with
 | 0, _ =>
  show T.sim (.v (.bool false)) (.v (.bool ((List.replicate n false).getD k En.dflt)))
  rw [show (List.replicate n false).getD k En.dflt = false by simp [List.getD_eq_getElem?_getD, List.getElem?_replicate, hk]]
  exact tsr
 | c + 1, hc => exact absurd hc (by omega)
theorem AOkS_con (a : DArrays) (hw : Mk.wt a ≤ 1048576) : Con Tryz.prog 16 [.g [.v (iv a.Next), .v (iv a.Tick), .h base [], .h (base + 1) [], .h (base + 2) [], .h (base + 3) [], .h (base + 4) [], .h (base + 5) [], .h (base + 6) [], .v (.bool a.Ready.Used), .h (base + 7) [], .v (iv a.Ready.Head), .v (iv a.Ready.Len), .h (base + 8) []]] [.rt base .ro (tr a.Progs), .rt (base + 1) .ro (tr a.Slots), .rt (base + 2) .ro (tr a.Ram), .rt (base + 3) .ro (tr a.Map), .rt (base + 4) .ro (tr a.Opens), .rt (base + 5) .ro (tr a.Pipes), .rt (base + 6) .ro (tr a.Files), .rt (base + 7) .ro (tr a.Ready.Buf), .rt (base + 8) .ro (tr a.Out)] (fun y _ => y = .v (.bool (aOk a))) := by
 refine ob Tryz.func16 Tryz.ntmps16 ?_
 refine AW.len (base + 1) [] rfl (by simp [Okp]) rfl (fun hl1 => ?_)
 refine AW.len (base + 3) [] rfl (by simp [Okp]) rfl (fun hl3 => ?_)
 refine go [.R,.B,.N,.a,.Z,.R2,.G] (k := ?_)
 refine cv Tryz.call33 rfl rfl (l12Shape_con a) ?_
 refine go [.N,.n,.m] (k := ?_)
 refine AWL.split 12 rfl (fun g1 => ?_) (fun g1 => ?_)
 ·have eg1 := g1
  try simp only [cnd] at eg1
  refine go [.x,.x,.x,.x] (k := ?_)
  refine qq (Qt.pickT rfl g1) ?_
  refine go [.Z] (k := ?_)
  refine AW.cond rfl (fun c2 => ?_) (fun c2 => (by exfalso; first | (cases c2; done) | (simp at c2; done) | (simp only [cnd] at c2; omega)))
  try simp only [cnd] at c2
  have hsh : shapeA a = false := by simpa using g1
  refine go [.R,.a,.Z] (k := ?_)
  refine rt1 2 ?_
  rw [show aOk a = false from aOk_shape hsh]
  rfl
 have eg1 := g1
 try simp only [cnd] at eg1
 refine go [.G] (k := ?_)
 have hsh : shapeA a = true := by simpa using g1
 have hS := shpA hsh
 have hs1 := hS.slots
 have hml := map_len hsh
 refine go [.N] (k := ?_)
 refine AWL.step rfl (nF g1) (Stp.callR rfl (by decide) Tryz.call34 rfl rfl (l12Abs_con a (shpA hsh) hw) (nodup_of rfl) rfl rfl) ?_
 refine go [.N] (k := ?_)
 refine AWL.step rfl (nF g1) (Stp.callV rfl (by decide) Tryz.call81 rfl rfl (UnixOkS_con (absU a) (unixB_abs (shpA hsh)))) ?_
 refine go [.N,.n] (k := ?_)
 refine qq (Qt.pickF rfl g1) ?_
 refine go [.Z] (k := ?_)
 refine cd (fun c3 => ?_) fun c3 => ?_
 ·have k3 := c3
  try simp only [cnd] at c3
  have hU : unixOk (absU a) = false := by simpa using k3
  refine go [.R,.a,.Z] (k := ?_)
  refine rt1 2 ?_
  rw [show aOk a = false from aOk_unix hU]
  rfl
 have k3 := c3
 try simp only [cnd] at c3
 have hU : unixOk (absU a) = true := by simpa using k3
 refine go [.J,.R] (k := ?_)
 refine sp (Stp.makeSlice rfl (by decide) (by decide) rfl rfl (by omega) (by omega) (by omega)) ?_
 refine go [.N,.a,.Z,.R2,.a,.Z] (k := ?_)
 refine AW.block ?_
 refine AW.loopW (fun i : UInv a => [.sl 4 (.v (iv i.k)), .sl 3 (.h 18 []), .rt 1 .box (T.s 14 1 fun k c => ([(T.v (iv a.Next), none), (T.v (iv a.Tick), none), (T.j, none), (T.j, none), (T.j, none), (T.j, none), (T.j, none), (T.j, none), (T.j, none), (T.v (Value.bool a.Ready.Used), none), (T.j, none), (T.v (iv a.Ready.Head), none), (T.v (iv a.Ready.Len), none), (T.j, none)].getD (k * 14 + c) (T.j, none)).fst), .al 1 2 (.h base []), .al 1 3 (.h (base + 1) []), .al 1 4 (.h (base + 2) []), .al 1 5 (.h (base + 3) []), .al 1 6 (.h (base + 4) []), .al 1 7 (.h (base + 5) []), .al 1 8 (.h (base + 6) []), .al 1 10 (.h (base + 7) []), .al 1 13 (.h (base + 8) []), .rt base .ro (tr a.Progs), .rt (base + 1) .ro (tr a.Slots), .rt (base + 2) .ro (tr a.Ram), .rt (base + 3) .ro (tr a.Map), .rt (base + 4) .ro (tr a.Opens), .rt (base + 5) .ro (tr a.Pipes), .rt (base + 6) .ro (tr a.Files), .rt (base + 7) .ro (tr a.Ready.Buf), .rt (base + 8) .ro (tr a.Out), .sl 1 (.p 1 [] 14 0 0), .rt 18 .row (tr i.u)]) (fun i => a.Slots.length - i.k) ⟨0, Nat.zero_le _, List.replicate 16 false, rfl, by simp⟩ (Weak.sim ⟨rfl, rfl, Rf rfl, ⟨rfl, rfl⟩, ⟨rfl, rfl⟩, ⟨rfl, rfl⟩, ⟨rfl, rfl⟩, ⟨rfl, rfl⟩, ⟨rfl, rfl⟩, ⟨rfl, rfl⟩, ⟨rfl, rfl⟩, ⟨rfl, rfl⟩, Rf rfl, Rf rfl, Rf rfl, Rf rfl, Rf rfl, Rf rfl, Rf rfl, Rf rfl, Rf rfl, rfl, ⟨_, rfl, sim_rep 16⟩, trivial⟩ rfl rfl) ?_
 intro i
 have hle := i.le
 have hln := i.ln
 refine go [.R2,.m,.N,.f,.l,.h,.N,.b,.Z] (k := ?_)
 refine cd (fun c4 => ?_) fun c4 => ?_
 ·try simp only [cnd] at c4
  have hsl := hS.slot i.k (by omega)
  have hpn := pagesN_le (a.Slots.getD i.k En.dflt).Pt
  refine jd (AW.seq (AW.block (sr ?_)))
  refine go [.f,.l,.N,.m,.i,.f,.N,.l,.a,.Z,.R,.m,.N] (k := ?_)
  refine cv Tryz.call82 rfl rfl (l12Pages_con (a.Slots.getD i.k En.dflt).Pt (by omega)) ?_
  refine go [.N,.a,.Z,.R,.a,.Z] (k := ?_)
  refine AW.block ?_
  refine AW.loopW (fun j : PInv (a.Slots.getD i.k En.dflt).Pt i.u => (.sl 7 (.v (iv j.k)) :: .sl 4 (.v (iv i.k)) :: .sl 5 (.h (base + 1) [(11, i.k, 9)]) :: .sl 6 (.v (iv (pagesN (a.Slots.getD i.k En.dflt).Pt : Nat))) :: .sl 3 (.h 18 []) :: .rt 1 .box (T.s 14 1 fun k c => ([(T.v (iv a.Next), none), (T.v (iv a.Tick), none), (T.j, none), (T.j, none), (T.j, none), (T.j, none), (T.j, none), (T.j, none), (T.j, none), (T.v (Value.bool a.Ready.Used), none), (T.j, none), (T.v (iv a.Ready.Head), none), (T.v (iv a.Ready.Len), none), (T.j, none)].getD (k * 14 + c) (T.j, none)).fst) :: .al 1 2 (.h base []) :: .al 1 3 (.h (base + 1) []) :: .al 1 4 (.h (base + 2) []) :: .al 1 5 (.h (base + 3) []) :: .al 1 6 (.h (base + 4) []) :: .al 1 7 (.h (base + 5) []) :: .al 1 8 (.h (base + 6) []) :: .al 1 10 (.h (base + 7) []) :: .al 1 13 (.h (base + 8) []) :: .rt base .ro (tr a.Progs) :: .rt (base + 1) .ro (tr a.Slots) :: .rt (base + 2) .ro (tr a.Ram) :: .rt (base + 3) .ro (tr a.Map) :: .rt (base + 4) .ro (tr a.Opens) :: .rt (base + 5) .ro (tr a.Pipes) :: .rt (base + 6) .ro (tr a.Files) :: .rt (base + 7) .ro (tr a.Ready.Buf) :: .rt (base + 8) .ro (tr a.Out) :: .sl 1 (.p 1 [] 14 0 0) :: .rt 18 .row (tr j.v) :: [])) (fun j => (a.Slots.getD i.k En.dflt).Pt.length - j.k) ⟨0, Nat.zero_le _, i.u, by simp [pgK], i.ln, fun x h1 h2 => absurd h2 (by omega)⟩ (ws) ?_
  intro j
  have hlej := j.le
  have hjn := j.ln
  have hfr : j.k < pagesN (a.Slots.getD i.k En.dflt).Pt → 0 ≤ (a.Slots.getD i.k En.dflt).Pt.getD j.k En.dflt ∧ (a.Slots.getD i.k En.dflt).Pt.getD j.k En.dflt ≤ 15 := fun h => frm h
  refine go [.R2,.m,.N,.m,.h,.b,.Z] (k := ?_)
  refine cd (fun c5 => ?_) fun c5 => ?_
  ·try simp only [cnd] at c5
   refine jd (AW.seq (AW.block (sr2 ?_)))
   refine go [.m,.N,.m,.b,.m,.N] (k := ?_)
   apply AWL.cut 5
   ·intro Kg6
    refine AWL.split 43 rfl (fun g6 => ?_) (fun g6 => ?_)
    ·have eg6 := g6
     try simp only [cnd] at eg6
     refine go [.m,.m,.i,.N,.l,.b] (k := ?_)
     exact wjT 48 [44, 45, 46, 47, 48] (ifT g6 _ undef) Kg6
    ·refine go [.x,.x,.x,.x,.N,.x] (k := ?_)
     exact wjF 48 [44, 45, 46, 47, 48] (ifF g6 undef _) Kg6
   refine qq (Qt.pickAnd rfl rfl rfl) ?_
   refine go [.N,.m] (k := ?_)
   apply AWL.cut 12
   ·intro Kg7
    refine AWL.splitF 50 rfl (fun g7 => ?_) (fun g7 => ?_)
    ·have eg7 := g7
     try simp only [cnd] at eg7
     refine go [.m,.m,.N,.b,.m] (k := ?_)
     apply AWL.cut 7
     ·intro Kg8
      refine AWL.split 54 rfl (fun g8 => ?_) (fun g8 => ?_)
      ·have eg8 := g8
       try simp only [cnd] at eg8
       refine go [.m,.N,.m,.m,.i,.N,.l] (k := ?_)
       refine qg g8 (Qt.indexAddr rfl rfl rfl rfl sl25 sz4 (by decide) (by have := hfr (by omega); omega)) ?_
       refine go [.l,.N] (k := ?_)
       exact wjT 61 [55, 56, 57, 58, 59, 60, 61] (ifT g8 _ undef) Kg8
      ·refine go [.x,.x,.x,.x,.N,.x,.x,.x] (k := ?_)
       exact wjF 61 [55, 56, 57, 58, 59, 60, 61] (ifF g8 undef _) Kg8
     refine qg (nF g7) (Qt.pickAnd rfl rfl rfl) ?_
     exact wjT 62 [51, 52, 53, 54, 55, 56, 57, 58, 59, 60, 61, 62] (ifF g7 _ undef) Kg7
    ·refine go [.x,.x,.x,.x,.N,.x,.x,.x,.x,.N,.x,.x,.x,.x] (k := ?_)
     exact wjF 62 [51, 52, 53, 54, 55, 56, 57, 58, 59, 60, 61, 62] (ifT g7 undef _) Kg7
   refine qq (Qt.pickOr rfl rfl rfl) ?_
   refine go [.Z] (k := ?_)
   refine cd (fun c9 => ?_) fun c9 => ?_
   ·have k9 := c9
    try simp only [cnd] at c9
    have hbad : slotU i.u (a.Slots.getD i.k En.dflt) = none := by
     by_cases hc : j.k < pagesN (a.Slots.getD i.k En.dflt).Pt
     ·exact j.bad hc (by have hk := k9; simp only [hc, Int.ofNat_lt, ge_iff_le, decide_true, Bool.true_and, Nat.not_le.2 hc] at hk; grind)
     ·exact slot_tail (x := j.k) (by omega) (by omega) (by have hk := k9; grind)
    refine go [.R,.a,.Z] (k := ?_)
    refine rt1 2 ?_
    rw [show aOk a = false from aOk_none (k := i.k + 1) ((used_next i.hu).trans hbad) (by omega)]
    rfl
   have k9 := c9
   try simp only [cnd] at c9
   refine go [.J,.R,.m,.N,.m,.b,.Z] (k := ?_)
   refine cd (fun c10 => ?_) fun c10 => ?_
   ·try simp only [cnd] at c10
    have hun : j.v.getD ((a.Slots.getD i.k En.dflt).Pt.getD j.k En.dflt).toNat En.dflt = false := by grind
    refine go [.R1,.m,.N,.m,.m,.i,.N,.l] (k := ?_)
    refine qq (Qt.indexAddr rfl rfl rfl rfl sl25 sz4 (by decide) (by have := hfr (by omega); omega)) ?_
    refine go [.s,.Z,.R1,.m,.N,.b,.a,.Z] (k := ?_)
    refine ⟨⟨j.k + 1, by omega, j.v.set ((a.Slots.getD i.k En.dflt).Pt.getD j.k En.dflt).toNat true, j.mark (by omega) hun, by rw [List.length_set]; exact j.ln, fun x h1 h2 => absurd h1 (by omega)⟩, Weak.sim ⟨st1, rfl, rfl, rfl, rfl, Rf rfl, ⟨rfl, rfl⟩, ⟨rfl, rfl⟩, ⟨rfl, rfl⟩, ⟨rfl, rfl⟩, ⟨rfl, rfl⟩, ⟨rfl, rfl⟩, ⟨rfl, rfl⟩, ⟨rfl, rfl⟩, ⟨rfl, rfl⟩, Rf rfl, Rf rfl, Rf rfl, Rf rfl, Rf rfl, Rf rfl, Rf rfl, Rf rfl, Rf rfl, rfl, ⟨_, rfl, (set_sim (fun k c hk => by simp only [upd_app, hk, false_and, if_false]; try rfl) (fun c hc => match c, hc with | 0, _ => (by simp only [upd_app, eq_self, and_self, if_true]; exact tsr) | c + 1, hc => absurd hc (by simp only [En.n]; omega)))⟩, trivial⟩ rfl rfl, ?_⟩
    show (a.Slots.getD i.k En.dflt).Pt.length - (j.k + 1) < (a.Slots.getD i.k En.dflt).Pt.length - j.k
    omega
   try simp only [cnd] at c10
   have htl : (a.Slots.getD i.k En.dflt).Pt.getD j.k En.dflt = -1 := by grind
   refine go [.J,.R1,.m,.N,.b,.a,.Z] (k := ?_)
   refine ⟨⟨j.k + 1, by omega, j.v, j.keep (by omega), j.ln, j.tail (by omega) htl⟩, ws, ?_⟩
   show (a.Slots.getD i.k En.dflt).Pt.length - (j.k + 1) < (a.Slots.getD i.k En.dflt).Pt.length - j.k
   omega
  try simp only [cnd] at c5
  refine AW.exit ?_
  dsimp only [thenQ, blockQ, reduceIte]
  refine go [.R1,.m,.N,.b,.a,.Z] (k := ?_)
  refine ⟨⟨i.k + 1, by omega, j.v, (used_next i.hu).trans (j.full (by omega)), j.ln⟩, ws, ?_⟩
  show a.Slots.length - (i.k + 1) < a.Slots.length - i.k
  omega
 try simp only [cnd] at c4
 refine AW.exit ?_
 dsimp only [thenQ, blockQ, reduceIte]
 refine go [.R2,.a,.Z] (k := ?_)
 refine AW.block ?_
 refine AW.loopW (fun m : MInv i.u a.Map => [.sl 8 (.v (iv m.k)), .sl 3 (.h 18 []), .rt 1 .box (T.s 14 1 fun k c => ([(T.v (iv a.Next), none), (T.v (iv a.Tick), none), (T.j, none), (T.j, none), (T.j, none), (T.j, none), (T.j, none), (T.j, none), (T.j, none), (T.v (Value.bool a.Ready.Used), none), (T.j, none), (T.v (iv a.Ready.Head), none), (T.v (iv a.Ready.Len), none), (T.j, none)].getD (k * 14 + c) (T.j, none)).fst), .al 1 2 (.h base []), .al 1 3 (.h (base + 1) []), .al 1 4 (.h (base + 2) []), .al 1 5 (.h (base + 3) []), .al 1 6 (.h (base + 4) []), .al 1 7 (.h (base + 5) []), .al 1 8 (.h (base + 6) []), .al 1 10 (.h (base + 7) []), .al 1 13 (.h (base + 8) []), .rt base .ro (tr a.Progs), .rt (base + 1) .ro (tr a.Slots), .rt (base + 2) .ro (tr a.Ram), .rt (base + 3) .ro (tr a.Map), .rt (base + 4) .ro (tr a.Opens), .rt (base + 5) .ro (tr a.Pipes), .rt (base + 6) .ro (tr a.Files), .rt (base + 7) .ro (tr a.Ready.Buf), .rt (base + 8) .ro (tr a.Out), .sl 1 (.p 1 [] 14 0 0), .rt 18 .row (tr i.u)]) (fun m => 16 - m.k) ⟨0, by omega, fun x h => absurd h (by omega)⟩ (ws) ?_
 intro m
 have hlem := m.le
 refine go [.R2,.m,.N,.b,.Z] (k := ?_)
 refine cd (fun c11 => ?_) fun c11 => ?_
 ·try simp only [cnd] at c11
  refine jd (AW.seq (AW.block (AW.seq ?_)))
  refine go [.D [0, 1, 2, 3, 4, 5, 6, 7, 8, 9],.t 0,.m,.t 1,.m,.N,.t 2,.i,.t 3,.l,.t 4,.f,.N,.t 5,.l,.t 6,.m,.t 7,.i,.N,.t 8,.l] (k := ?_)
  refine tk 9 rfl (Qt.neB rfl rfl Tryz.underlying4) ?_
  refine go [.Z] (k := ?_)
  refine cd (fun c12 => ?_) fun c12 => ?_
  ·have k12 := c12
   try simp only [cnd] at c12
   have hkk : i.u.getD m.k En.dflt ≠ a.Map.getD m.k En.dflt := by simpa using k12
   have hne : ¬ i.u = a.Map := fun e => hkk (congrArg (fun l => l.getD m.k En.dflt) e)
   refine go [.R,.a,.Z] (k := ?_)
   refine rt1 2 ?_
   rw [show aOk a = false from (aOk_some hsh hU (by rw [show a.Slots.length = i.k by omega]; exact i.hu)).trans (decide_eq_false hne)]
   rfl
  have k12 := c12
  try simp only [cnd] at c12
  refine go [.J,.R1,.m,.N,.b,.a,.Z] (k := ?_)
  refine ⟨⟨m.k + 1, by omega, m.next (by simpa using k12)⟩, ws, ?_⟩
  show 16 - (m.k + 1) < 16 - m.k
  omega
 try simp only [cnd] at c11
 refine AW.exit ?_
 dsimp only [thenQ, blockQ, reduceIte]
 refine go [.R,.a,.Z] (k := ?_)
 refine rt1 2 ?_
 rw [show aOk a = true from (aOk_some hsh hU (by rw [show a.Slots.length = i.k by omega]; exact i.hu)).trans (decide_eq_true (m.full (by omega) i.ln hml))]
 rfl
end Go.Proofs.YtldefnpobjabpaaGreat.VM

