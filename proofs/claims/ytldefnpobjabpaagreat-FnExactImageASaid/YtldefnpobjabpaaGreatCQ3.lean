/- Contracts. No conditions. -/
import Derived.Test.YtldefnpobjabpaaGreatCQV1
set_option linter.all false
set_option maxHeartbeats 8000000
set_option maxRecDepth 10000
namespace Go.Proofs.YtldefnpobjabpaaGreat.VM
open Go Go.RowKit Go.Proofs
def ringOk (r : DARing) (n : Int) : Bool := ((r.Buf.length : Int) == n) && (decide (0 ≤ r.Head) && decide (r.Head ≤ n - 1)) && (decide (0 ≤ r.Len) && decide (r.Len ≤ n))
def emptyS (s : DASlot) : Bool := s.Used || (s.Pid == 0 && s.Parent == 0 && s.State == 0 && s.Prog == 0 && s.Pc == 0 && s.Until == 0 && s.Code == 0 && (s.Regs.all fun x => x == 0) && (s.Pt.all fun x => x == -1) && (s.Fds.all fun x => x == -1))
def slotOk (s : DASlot) : Bool := (((s.Regs.length : Nat) : Int) == 4 && ((s.Pt.length : Nat) : Int) == 3 && ((s.Fds.length : Nat) : Int) == 4) && emptyS s
def aopenBad (o : DAOpen) : Bool := !o.Used && !(decide (o.Used = false ∧ o.Kind = 0 ∧ o.Target = 0 ∧ o.Off = 0 ∧ o.Refs = 0))
def pipeBad (r : DARing) : Bool := !(ringOk r 4) || (!r.Used && (r.Head != 0 || r.Len != 0))
def fileBad (f : DAFile) : Bool := !f.Used && !(((f.Data.length : Nat) : Int) == 0)
def headA (a : DArrays) : Bool := ((a.Slots.length : Nat) : Int) == 6 && ((a.Ram.length : Nat) : Int) == 64 && ((a.Map.length : Nat) : Int) == 16 && ((a.Opens.length : Nat) : Int) == 8 && ((a.Pipes.length : Nat) : Int) == 3 && ((a.Files.length : Nat) : Int) == 6 && ringOk a.Ready 6
def shapeA (a : DArrays) : Bool := headA a && (a.Slots.all slotOk && ((a.Opens.all fun o => !aopenBad o) && ((a.Pipes.all fun r => !pipeBad r) && (a.Files.all fun f => !fileBad f))))
theorem all_not' {α : Type} (l : List α) (p : α → Bool) : l.all p = !(l.any fun x => !p x) := by
 rw [Bool.eq_iff_iff]; simp
theorem in_con (x lo hi : Int) : Con Tryz.prog 156 [.v (iv x), .v (iv lo), .v (iv hi)] [] (fun y _ => y = .v (.bool (decide (lo ≤ x) && decide (x ≤ hi)))) := by
 refine ob Tryz.func156 Tryz.ntmps156 ?_
 refine go [.R,.a,.Z,.R,.m,.m,.N,.b,.m] (k := ?_)
 apply AWL.cut 3
 ·intro Kg1
  refine AWL.split 10 rfl (fun g1 => ?_) (fun g1 => ?_)
  ·refine go [.m,.N,.m,.b] (k := ?_)
   exact wjT 13 [11, 12, 13] (ifT g1 _ undef) Kg1
  ·refine go [.x,.x,.x] (k := ?_)
   exact wjF 13 [11, 12, 13] (ifF g1 undef _) Kg1
 refine qq (Qt.pickAnd rfl rfl rfl) ?_
 refine go [.N,.a,.Z] (k := ?_)
 refine rt1 6 ?_
 rfl
theorem l1In_con (x lo hi : Int) : Con Tryz.prog 148 [.v (iv x), .v (iv lo), .v (iv hi)] [] (fun y _ => y = .v (.bool (decide (lo ≤ x) && decide (x ≤ hi)))) := by
 refine ob Tryz.func148 Tryz.ntmps148 ?_
 refine go [.R,.a,.Z,.R,.m,.m,.N,.b,.m] (k := ?_)
 apply AWL.cut 3
 ·intro Kg1
  refine AWL.split 10 rfl (fun g1 => ?_) (fun g1 => ?_)
  ·refine go [.m,.N,.m,.b] (k := ?_)
   exact wjT 13 [11, 12, 13] (ifT g1 _ undef) Kg1
  ·refine go [.x,.x,.x] (k := ?_)
   exact wjF 13 [11, 12, 13] (ifF g1 undef _) Kg1
 refine qq (Qt.pickAnd rfl rfl rfl) ?_
 refine go [.N,.a,.Z] (k := ?_)
 refine rt1 6 ?_
 rfl
theorem MapOkI_con (l : List Bool) : Con Tryz.prog 121 [.h base []] [.rt base .ro (tr l)] (fun y _ => y = .v (.bool (((l.length : Nat) : Int) == 16))) := by
 refine ob Tryz.func121 Tryz.ntmps121 ?_
 refine go [.R,.a,.Z,.R,.m,.h,.N,.b,.a,.Z] (k := ?_)
 refine rt1 2 ?_
 rfl
theorem MapOkS_con (l : List Bool) : Con Tryz.prog 110 [.h base []] [.rt base .ro (tr l)] (fun y _ => y = .v (.bool (((l.length : Nat) : Int) == 16))) := by
 refine ob Tryz.func110 Tryz.ntmps110 ?_
 refine go [.R,.a,.Z,.R,.m,.h,.N,.b,.a,.Z] (k := ?_)
 refine rt1 2 ?_
 rfl
theorem ringI_con (r : DARing) (n : Int) (h0 : 0 ≤ n) (h1 : n ≤ 100) : Con Tryz.prog 122 [.g [.v (.bool r.Used), .h base [], .v (iv r.Head), .v (iv r.Len)], .v (iv n)] [.rt base .ro (tr r.Buf)] (fun y _ => y = .v (.bool (ringOk r n))) := by
 refine ob Tryz.func122 Tryz.ntmps122 ?_
 refine go [.R,.B,.N,.a,.Z,.R,.f,.l,.N,.h,.m,.b,.N,.m] (k := ?_)
 apply AWL.cut 5
 ·intro Kg1
  refine AWL.split 10 rfl (fun g1 => ?_) (fun g1 => ?_)
  ·refine go [.f,.l,.N,.m] (k := ?_)
   refine qg g1 (Qt.binOp rfl rfl (pbSub (by omega))) ?_
   refine AWL.step rfl g1 (Stp.callV rfl (by decide) Tryz.call156 rfl rfl (in_con _ _ _)) ?_
   refine go [.N] (k := ?_)
   exact wjT 15 [11, 12, 13, 14, 15] (ifT g1 _ undef) Kg1
  ·refine go [.x,.x,.x,.x,.N,.x] (k := ?_)
   exact wjF 15 [11, 12, 13, 14, 15] (ifF g1 undef _) Kg1
 refine qq (Qt.pickAnd rfl rfl rfl) ?_
 refine go [.m] (k := ?_)
 apply AWL.cut 4
 ·intro Kg2
  refine AWL.split 17 rfl (fun g2 => ?_) (fun g2 => ?_)
  ·refine go [.f,.N,.l,.m] (k := ?_)
   refine AWL.step rfl g2 (Stp.callV rfl (by decide) Tryz.call156 rfl rfl (in_con _ _ _)) ?_
   refine go [.N] (k := ?_)
   exact wjT 21 [18, 19, 20, 21] (ifT g2 _ undef) Kg2
  ·refine go [.x,.x,.x,.x] (k := ?_)
   exact wjF 21 [18, 19, 20, 21] (ifF g2 undef _) Kg2
 refine qq (Qt.pickAnd rfl rfl rfl) ?_
 refine go [.a,.Z] (k := ?_)
 refine rt1 4 ?_
 rfl
theorem ringS_con (r : DARing) (n : Int) (h0 : 0 ≤ n) (h1 : n ≤ 100) : Con Tryz.prog 111 [.g [.v (.bool r.Used), .h base [], .v (iv r.Head), .v (iv r.Len)], .v (iv n)] [.rt base .ro (tr r.Buf)] (fun y _ => y = .v (.bool (ringOk r n))) := by
 refine ob Tryz.func111 Tryz.ntmps111 ?_
 refine go [.R,.B,.N,.a,.Z,.R,.f,.l,.N,.h,.m,.b,.N,.m] (k := ?_)
 apply AWL.cut 5
 ·intro Kg1
  refine AWL.split 10 rfl (fun g1 => ?_) (fun g1 => ?_)
  ·refine go [.f,.l,.N,.m] (k := ?_)
   refine qg g1 (Qt.binOp rfl rfl (pbSub (by omega))) ?_
   refine AWL.step rfl g1 (Stp.callV rfl (by decide) Tryz.call148 rfl rfl (l1In_con _ _ _)) ?_
   refine go [.N] (k := ?_)
   exact wjT 15 [11, 12, 13, 14, 15] (ifT g1 _ undef) Kg1
  ·refine go [.x,.x,.x,.x,.N,.x] (k := ?_)
   exact wjF 15 [11, 12, 13, 14, 15] (ifF g1 undef _) Kg1
 refine qq (Qt.pickAnd rfl rfl rfl) ?_
 refine go [.m] (k := ?_)
 apply AWL.cut 4
 ·intro Kg2
  refine AWL.split 17 rfl (fun g2 => ?_) (fun g2 => ?_)
  ·refine go [.f,.N,.l,.m] (k := ?_)
   refine AWL.step rfl g2 (Stp.callV rfl (by decide) Tryz.call148 rfl rfl (l1In_con _ _ _)) ?_
   refine go [.N] (k := ?_)
   exact wjT 21 [18, 19, 20, 21] (ifT g2 _ undef) Kg2
  ·refine go [.x,.x,.x,.x] (k := ?_)
   exact wjF 21 [18, 19, 20, 21] (ifF g2 undef _) Kg2
 refine qq (Qt.pickAnd rfl rfl rfl) ?_
 refine go [.a,.Z] (k := ?_)
 refine rt1 4 ?_
 rfl
theorem l12All_con (l : List Int) (v : Int) : Con Tryz.prog 190 [.h base [], .v (iv v)] [.rt base .ro (tr l)] (fun y _ => y = .v (.bool (l.all fun x => x == v))) := by
 refine ob Tryz.func190 Tryz.ntmps190 ?_
 refine AW.len base [] rfl (by simp [Okp]) rfl (fun hl => ?_)
 refine go [.R,.a,.Z,.R2,.a,.Z] (k := ?_)
 refine AW.block ?_
 refine AW.loopW (fun i : AllInv (fun x => x == v) l => [.sl 5 (.v (iv i.k)), .sl 0 (.h base []), .sl 1 (.v (iv v)), .rt base .ro (tr l)]) (fun i => l.length - i.k) ⟨0, Nat.zero_le _, rfl⟩ (ws) ?_
 intro i
 have hle := i.le
 refine go [.R2,.m,.N,.m,.h,.b,.Z] (k := ?_)
 refine cd (fun c1 => ?_) fun c1 => ?_
 ·try simp only [cnd] at c1
  refine jd (AW.seq (AW.block (sr ?_)))
  refine go [.m,.N,.m,.i,.l,.N,.m,.b,.Z] (k := ?_)
  refine cd (fun c2 => ?_) fun c2 => ?_
  ·try simp only [cnd] at c2
   refine go [.R,.a,.Z] (k := ?_)
   refine rt1 4 ?_
   rw [i.stop En.dflt (by omega) (by simpa using c2)]
   rfl
  try simp only [cnd] at c2
  refine go [.J,.R1,.m,.N,.b,.a,.Z] (k := ?_)
  refine ⟨⟨i.k + 1, by omega, i.next En.dflt (by omega) (by simpa using c2)⟩, ws, ?_⟩
  show l.length - (i.k + 1) < l.length - i.k
  omega
 try simp only [cnd] at c1
 refine AW.exit ?_
 dsimp only [thenQ, blockQ, reduceIte]
 refine go [.R,.a,.Z] (k := ?_)
 refine rt1 4 ?_
 rw [i.full (by omega)]
 rfl
theorem allAre1_con (n x : Int) : Con Tryz.prog 168 [.v (iv x), .p base [] 1 0 0] [.rt base .ro (tr [n])] (fun y _ => y = .v (.bool (x != n))) := by
 refine ob Tryz.func168 Tryz.ntmps168 ?_
 refine go [.R,.a,.Z,.R,.m,.l,.N,.b,.a,.Z] (k := ?_)
 refine rt1 3 ?_
 rfl
theorem ixIC_con {fid : FuncId} {p : Int → Bool} (u0 : Int) (hE : Ent Tryz.prog fid) (hp : ∀ x : Int, Con Tryz.prog fid [.v (iv x), .p base [] 1 0 0] [.rt base .ro (tr [u0])] (fun y _ => y = .v (.bool (p x)))) (l : List Int) : Con Tryz.prog 134 [.h base [], .f fid [.p (base + 1) [] 1 0 0]] [.rt base .ro (tr l), .rt (base + 1) .ro (tr [u0])] (fun y _ => y = .v (iv (ixOf p l))) := by
 refine ob Tryz.func134 Tryz.ntmps134 ?_
 refine AW.len base [] rfl (by simp [Okp]) rfl (fun hl => ?_)
 refine go [.R,.a,.Z,.R2,.m,.h,.N,.m,.Z] (k := ?_)
 refine AW.block ?_
 refine AW.loopW (fun i : IxInv p l => [.sl 8 (.v (iv i.k)), .sl 7 (.v (iv l.length)), .sl 0 (.h base []), .sl 1 (.f fid [.p (base + 1) [] 1 0 0]), .rt base .ro (tr l), .rt (base + 1) .ro (tr [u0])]) (fun i => l.length - i.k) ⟨0, Nat.zero_le _, rfl⟩ (ws) ?_
 intro i
 have hle := i.le
 refine go [.R,.b,.Z] (k := ?_)
 refine AW.seq ?_
 refine cd (fun c1 => ?_) fun c1 => ?_
 ·try simp only [cnd] at c1
  refine jd (AW.seq (AW.block (sr ?_)))
  refine go [.m,.N,.a,.Z,.R,.m,.m,.N,.m,.i,.l,.N] (k := ?_)
  refine cv hE rfl rfl (Con.simH (hp (l.getD i.k En.dflt)) ⟨⟨_, rfl, (sim_one (fun c hc => match c, hc with | 0, _ => tsr | c + 1, hc => absurd hc (by simp only [En.n]; omega)))⟩, trivial⟩ rfl rfl rfl) ?_
  refine go [.Z] (k := ?_)
  refine cd (fun c2 => ?_) fun c2 => ?_
  ·try simp only [cnd] at c2
   refine go [.R,.m,.N,.a,.Z] (k := ?_)
   refine rt1 4 ?_
   rw [ixOf_hit i En.dflt (by omega) c2]
   rfl
  try simp only [cnd] at c2
  refine go [.J,.R1,.b,.m,.Z] (k := ?_)
  refine ⟨⟨i.k + 1, by omega, i.next En.dflt (by omega) c2⟩, ws, ?_⟩
  show l.length - (i.k + 1) < l.length - i.k
  omega
 try simp only [cnd] at c1
 refine AW.exit ?_
 dsimp only [thenQ, blockQ, reduceIte]
 refine go [.R,.a,.Z] (k := ?_)
 refine rt1 4 ?_
 rw [ixOf_none i (by omega)]
 rfl
theorem hasIC_con {fid : FuncId} {p : Int → Bool} (u0 : Int) (hE : Ent Tryz.prog fid) (hp : ∀ x : Int, Con Tryz.prog fid [.v (iv x), .p base [] 1 0 0] [.rt base .ro (tr [u0])] (fun y _ => y = .v (.bool (p x)))) (l : List Int) : Con Tryz.prog 167 [.h base [], .f fid [.p (base + 1) [] 1 0 0]] [.rt base .ro (tr l), .rt (base + 1) .ro (tr [u0])] (fun y _ => y = .v (.bool (l.any p))) := by
 refine ob Tryz.func167 Tryz.ntmps167 ?_
 refine go [.R,.a,.Z,.R,.m,.m,.N] (k := ?_)
 refine cv Tryz.call134 rfl rfl (Con.simH (ixIC_con u0 hE hp l) ⟨⟨_, rfl, tsr⟩, ⟨_, rfl, (sim_one (fun c hc => match c, hc with | 0, _ => tsr | c + 1, hc => absurd hc (by simp only [En.n]; omega)))⟩, trivial⟩ rfl rfl rfl) ?_
 refine go [.N,.b,.a,.Z] (k := ?_)
 refine rt1 4 ?_
 rw [← ixOf_ge]
 rfl
theorem allAre_con (l : List Int) (n : Int) : Con Tryz.prog 84 [.h base [], .v (iv n)] [.rt base .ro (tr l)] (fun y _ => y = .v (.bool (l.all fun x => x == n))) := by
 refine ob Tryz.func84 Tryz.ntmps84 ?_
 refine go [.R,.B,.N,.a,.Z,.R,.m] (k := ?_)
 refine qq Qt.makeFunc ?_
 refine go [.N] (k := ?_)
 refine cv Tryz.call167 rfl rfl (Con.simH (hasIC_con n Tryz.call168 (fun x => allAre1_con n x) l) ⟨⟨_, rfl, tsr⟩, ⟨_, rfl, (sim_one (fun c hc => match c, hc with | 0, _ => tsr | c + 1, hc => absurd hc (by simp only [En.n]; omega)))⟩, trivial⟩ rfl rfl rfl) ?_
 refine go [.N,.n,.a,.Z] (k := ?_)
 refine rt1 4 ?_
 rw [show (l.all fun x => x == n) = !(l.any fun x => x != n) from by rw [all_not']; rfl]
 rfl
theorem l12Empty_con (s : DASlot) : Con Tryz.prog 112 [.g [.v (.bool s.Used), .v (iv s.Pid), .v (iv s.Parent), .v (iv s.State), .v (iv s.Prog), .v (iv s.Pc), .v (iv s.Until), .v (iv s.Code), .h base [], .h (base + 1) [], .h (base + 2) []]] [.rt base .ro (tr s.Regs), .rt (base + 1) .ro (tr s.Pt), .rt (base + 2) .ro (tr s.Fds)] (fun y _ => y = .v (.bool (emptyS s))) := by
 refine ob Tryz.func112 Tryz.ntmps112 ?_
 refine go [.R,.B,.N,.a,.Z,.R,.f,.l,.N,.m] (k := ?_)
 apply AWL.cut 48
 ·intro Kg1
  refine AWL.splitF 5 rfl (fun g1 => ?_) (fun g1 => ?_)
  ·refine go [.f,.l,.N,.b,.m] (k := ?_)
   apply AWL.cut 3
   ·intro Kg2
    refine AWL.split 9 rfl (fun g2 => ?_) (fun g2 => ?_)
    ·refine go [.f,.N,.l,.b] (k := ?_)
     exact wjT 12 [10, 11, 12] (ifT g2 _ undef) Kg2
    ·refine go [.x,.x,.x] (k := ?_)
     exact wjF 12 [10, 11, 12] (ifF g2 undef _) Kg2
   refine qg (nF g1) (Qt.pickAnd rfl rfl rfl) ?_
   refine go [.N,.m] (k := ?_)
   apply AWL.cut 3
   ·intro Kg3
    refine AWL.split 14 rfl (fun g3 => ?_) (fun g3 => ?_)
    ·refine go [.f,.l,.N,.b] (k := ?_)
     exact wjT 17 [15, 16, 17] (ifT g3 _ undef) Kg3
    ·refine go [.x,.x,.x] (k := ?_)
     exact wjF 17 [15, 16, 17] (ifF g3 undef _) Kg3
   refine qg (nF g1) (Qt.pickAnd rfl rfl rfl) ?_
   refine go [.m,.N] (k := ?_)
   apply AWL.cut 3
   ·intro Kg4
    refine AWL.split 19 rfl (fun g4 => ?_) (fun g4 => ?_)
    ·refine go [.f,.l,.b,.N] (k := ?_)
     exact wjT 22 [20, 21, 22] (ifT g4 _ undef) Kg4
    ·refine go [.x,.x,.x] (k := ?_)
     exact wjF 22 [20, 21, 22] (ifF g4 undef _) Kg4
   refine qg (nF g1) (Qt.pickAnd rfl rfl rfl) ?_
   refine go [.m] (k := ?_)
   apply AWL.cut 3
   ·intro Kg5
    refine AWL.split 24 rfl (fun g5 => ?_) (fun g5 => ?_)
    ·refine go [.f,.N,.l,.b] (k := ?_)
     exact wjT 27 [25, 26, 27] (ifT g5 _ undef) Kg5
    ·refine go [.x,.x,.x] (k := ?_)
     exact wjF 27 [25, 26, 27] (ifF g5 undef _) Kg5
   refine qg (nF g1) (Qt.pickAnd rfl rfl rfl) ?_
   refine go [.N,.m] (k := ?_)
   apply AWL.cut 3
   ·intro Kg6
    refine AWL.split 29 rfl (fun g6 => ?_) (fun g6 => ?_)
    ·refine go [.f,.l,.N,.b] (k := ?_)
     exact wjT 32 [30, 31, 32] (ifT g6 _ undef) Kg6
    ·refine go [.x,.x,.x] (k := ?_)
     exact wjF 32 [30, 31, 32] (ifF g6 undef _) Kg6
   refine qg (nF g1) (Qt.pickAnd rfl rfl rfl) ?_
   refine go [.m,.N] (k := ?_)
   apply AWL.cut 3
   ·intro Kg7
    refine AWL.split 34 rfl (fun g7 => ?_) (fun g7 => ?_)
    ·refine go [.f,.l,.b,.N] (k := ?_)
     exact wjT 37 [35, 36, 37] (ifT g7 _ undef) Kg7
    ·refine go [.x,.x,.x] (k := ?_)
     exact wjF 37 [35, 36, 37] (ifF g7 undef _) Kg7
   refine qg (nF g1) (Qt.pickAnd rfl rfl rfl) ?_
   refine go [.m] (k := ?_)
   apply AWL.cut 3
   ·intro Kg8
    refine AWL.split 39 rfl (fun g8 => ?_) (fun g8 => ?_)
    ·refine go [.f,.N,.l] (k := ?_)
     refine AWL.step rfl g8 (Stp.callV rfl (by decide) Tryz.call190 rfl rfl (l12All_con _ _)) ?_
     refine go [.N] (k := ?_)
     exact wjT 42 [40, 41, 42] (ifT g8 _ undef) Kg8
    ·refine go [.x,.x,.x] (k := ?_)
     exact wjF 42 [40, 41, 42] (ifF g8 undef _) Kg8
   refine qg (nF g1) (Qt.pickAnd rfl rfl rfl) ?_
   refine go [.m] (k := ?_)
   apply AWL.cut 3
   ·intro Kg9
    refine AWL.split 44 rfl (fun g9 => ?_) (fun g9 => ?_)
    ·refine go [.f,.N,.l] (k := ?_)
     refine AWL.step rfl g9 (Stp.callV rfl (by decide) Tryz.call190 rfl rfl (l12All_con _ _)) ?_
     refine go [.N] (k := ?_)
     exact wjT 47 [45, 46, 47] (ifT g9 _ undef) Kg9
    ·refine go [.x,.x,.x] (k := ?_)
     exact wjF 47 [45, 46, 47] (ifF g9 undef _) Kg9
   refine qg (nF g1) (Qt.pickAnd rfl rfl rfl) ?_
   refine go [.m] (k := ?_)
   apply AWL.cut 3
   ·intro Kg10
    refine AWL.split 49 rfl (fun g10 => ?_) (fun g10 => ?_)
    ·refine go [.f,.N,.l] (k := ?_)
     refine AWL.step rfl g10 (Stp.callV rfl (by decide) Tryz.call190 rfl rfl (l12All_con _ _)) ?_
     refine go [.N] (k := ?_)
     exact wjT 52 [50, 51, 52] (ifT g10 _ undef) Kg10
    ·refine go [.x,.x,.x] (k := ?_)
     exact wjF 52 [50, 51, 52] (ifF g10 undef _) Kg10
   refine qg (nF g1) (Qt.pickAnd rfl rfl rfl) ?_
   exact wjT 53 [6, 7, 8, 9, 10, 11, 12, 13, 14, 15, 16, 17, 18, 19, 20, 21, 22, 23, 24, 25, 26, 27, 28, 29, 30, 31, 32, 33, 34, 35, 36, 37, 38, 39, 40, 41, 42, 43, 44, 45, 46, 47, 48, 49, 50, 51, 52, 53] (ifF g1 _ undef) Kg1
  ·refine go [.x,.x,.x,.x,.N,.x,.x,.x,.x,.N,.x,.x,.x,.x,.N,.x,.x,.x,.x,.N,.x,.x,.x,.x,.N,.x,.x,.x,.x,.N,.x,.x,.x,.x,.N,.x,.x,.x,.x,.N,.x,.x,.x,.x,.N,.x,.x,.x,.x,.N,.x,.x,.x,.x,.N,.x,.x,.x,.x] (k := ?_)
   exact wjF 53 [6, 7, 8, 9, 10, 11, 12, 13, 14, 15, 16, 17, 18, 19, 20, 21, 22, 23, 24, 25, 26, 27, 28, 29, 30, 31, 32, 33, 34, 35, 36, 37, 38, 39, 40, 41, 42, 43, 44, 45, 46, 47, 48, 49, 50, 51, 52, 53] (ifT g1 undef _) Kg1
 refine qq (Qt.pickOr rfl rfl rfl) ?_
 refine go [.a,.Z] (k := ?_)
 refine rt1 2 ?_
 rfl
theorem slotShape_con (s : DASlot) : Con Tryz.prog 125 [.g [.v (.bool s.Used), .v (iv s.Pid), .v (iv s.Parent), .v (iv s.State), .v (iv s.Prog), .v (iv s.Pc), .v (iv s.Until), .v (iv s.Code), .h base [], .h (base + 1) [], .h (base + 2) []]] [.rt base .ro (tr s.Regs), .rt (base + 1) .ro (tr s.Pt), .rt (base + 2) .ro (tr s.Fds)] (fun y _ => y = .v (.bool (slotOk s))) := by
 refine ob Tryz.func125 Tryz.ntmps125 ?_
 refine go [.R,.B,.N,.a,.Z,.R2,.f,.l,.N,.h,.b,.m,.N] (k := ?_)
 apply AWL.cut 4
 ·intro Kg1
  refine AWL.splitF 7 rfl (fun g1 => ?_) (fun g1 => ?_)
  ·refine go [.f,.l,.h,.N,.b] (k := ?_)
   exact wjT 11 [8, 9, 10, 11] (ifF g1 _ undef) Kg1
  ·refine go [.x,.x,.x,.x] (k := ?_)
   exact wjF 11 [8, 9, 10, 11] (ifT g1 undef _) Kg1
 refine qq (Qt.pickOr rfl rfl rfl) ?_
 refine go [.m,.N] (k := ?_)
 apply AWL.cut 4
 ·intro Kg2
  refine AWL.splitF 13 rfl (fun g2 => ?_) (fun g2 => ?_)
  ·refine go [.f,.l,.h,.N,.b] (k := ?_)
   exact wjT 17 [14, 15, 16, 17] (ifF g2 _ undef) Kg2
  ·refine go [.x,.x,.x,.x] (k := ?_)
   exact wjF 17 [14, 15, 16, 17] (ifT g2 undef _) Kg2
 refine qq (Qt.pickOr rfl rfl rfl) ?_
 refine go [.Z] (k := ?_)
 refine cd (fun c3 => ?_) fun c3 => ?_
 ·try simp only [cnd] at c3
  refine go [.R,.a,.Z] (k := ?_)
  refine rt1 2 ?_
  rw [show slotOk s = false from by simp only [slotOk]; grind]
  rfl
 try simp only [cnd] at c3
 refine jd (sr2 ?_)
 refine go [.f,.N,.l,.Z] (k := ?_)
 refine cd (fun c4 => ?_) fun c4 => ?_
 ·have k4 := c4
  try simp only [cnd] at c4
  refine go [.R,.a,.Z] (k := ?_)
  refine rt1 2 ?_
  rw [show slotOk s = true from by simp only [slotOk, emptyS, k4, Bool.true_or]; grind]
  rfl
 have k4 := c4
 try simp only [cnd] at c4
 refine go [.J,.R,.f,.N,.l,.b,.m,.N] (k := ?_)
 apply AWL.cut 3
 ·intro Kg5
  refine AWL.split 24 rfl (fun g5 => ?_) (fun g5 => ?_)
  ·refine go [.f,.l,.b,.N] (k := ?_)
   exact wjT 27 [25, 26, 27] (ifT g5 _ undef) Kg5
  ·refine go [.x,.x,.x] (k := ?_)
   exact wjF 27 [25, 26, 27] (ifF g5 undef _) Kg5
 refine qq (Qt.pickAnd rfl rfl rfl) ?_
 refine go [.m] (k := ?_)
 apply AWL.cut 3
 ·intro Kg6
  refine AWL.split 29 rfl (fun g6 => ?_) (fun g6 => ?_)
  ·refine go [.f,.N,.l,.b] (k := ?_)
   exact wjT 32 [30, 31, 32] (ifT g6 _ undef) Kg6
  ·refine go [.x,.x,.x] (k := ?_)
   exact wjF 32 [30, 31, 32] (ifF g6 undef _) Kg6
 refine qq (Qt.pickAnd rfl rfl rfl) ?_
 refine go [.N,.m] (k := ?_)
 apply AWL.cut 3
 ·intro Kg7
  refine AWL.split 34 rfl (fun g7 => ?_) (fun g7 => ?_)
  ·refine go [.f,.l,.N,.b] (k := ?_)
   exact wjT 37 [35, 36, 37] (ifT g7 _ undef) Kg7
  ·refine go [.x,.x,.x] (k := ?_)
   exact wjF 37 [35, 36, 37] (ifF g7 undef _) Kg7
 refine qq (Qt.pickAnd rfl rfl rfl) ?_
 refine go [.m,.N] (k := ?_)
 apply AWL.cut 3
 ·intro Kg8
  refine AWL.split 39 rfl (fun g8 => ?_) (fun g8 => ?_)
  ·refine go [.f,.l,.b,.N] (k := ?_)
   exact wjT 42 [40, 41, 42] (ifT g8 _ undef) Kg8
  ·refine go [.x,.x,.x] (k := ?_)
   exact wjF 42 [40, 41, 42] (ifF g8 undef _) Kg8
 refine qq (Qt.pickAnd rfl rfl rfl) ?_
 refine go [.m] (k := ?_)
 apply AWL.cut 3
 ·intro Kg9
  refine AWL.split 44 rfl (fun g9 => ?_) (fun g9 => ?_)
  ·refine go [.f,.N,.l,.b] (k := ?_)
   exact wjT 47 [45, 46, 47] (ifT g9 _ undef) Kg9
  ·refine go [.x,.x,.x] (k := ?_)
   exact wjF 47 [45, 46, 47] (ifF g9 undef _) Kg9
 refine qq (Qt.pickAnd rfl rfl rfl) ?_
 refine go [.N,.m] (k := ?_)
 apply AWL.cut 3
 ·intro Kg10
  refine AWL.split 49 rfl (fun g10 => ?_) (fun g10 => ?_)
  ·refine go [.f,.l,.N,.b] (k := ?_)
   exact wjT 52 [50, 51, 52] (ifT g10 _ undef) Kg10
  ·refine go [.x,.x,.x] (k := ?_)
   exact wjF 52 [50, 51, 52] (ifF g10 undef _) Kg10
 refine qq (Qt.pickAnd rfl rfl rfl) ?_
 refine go [.m,.N] (k := ?_)
 apply AWL.cut 3
 ·intro Kg11
  refine AWL.split 54 rfl (fun g11 => ?_) (fun g11 => ?_)
  ·refine go [.f,.l] (k := ?_)
   refine AWL.step rfl g11 (Stp.callV rfl (by decide) Tryz.call84 rfl rfl (allAre_con _ _)) ?_
   refine go [.N] (k := ?_)
   exact wjT 57 [55, 56, 57] (ifT g11 _ undef) Kg11
  ·refine go [.x,.x,.x] (k := ?_)
   exact wjF 57 [55, 56, 57] (ifF g11 undef _) Kg11
 refine qq (Qt.pickAnd rfl rfl rfl) ?_
 refine go [.m] (k := ?_)
 apply AWL.cut 3
 ·intro Kg12
  refine AWL.split 59 rfl (fun g12 => ?_) (fun g12 => ?_)
  ·refine go [.f,.N,.l] (k := ?_)
   refine AWL.step rfl g12 (Stp.callV rfl (by decide) Tryz.call84 rfl rfl (allAre_con _ _)) ?_
   refine go [.N] (k := ?_)
   exact wjT 62 [60, 61, 62] (ifT g12 _ undef) Kg12
  ·refine go [.x,.x,.x] (k := ?_)
   exact wjF 62 [60, 61, 62] (ifF g12 undef _) Kg12
 refine qq (Qt.pickAnd rfl rfl rfl) ?_
 refine go [.m] (k := ?_)
 apply AWL.cut 3
 ·intro Kg13
  refine AWL.split 64 rfl (fun g13 => ?_) (fun g13 => ?_)
  ·refine go [.f,.N,.l] (k := ?_)
   refine AWL.step rfl g13 (Stp.callV rfl (by decide) Tryz.call84 rfl rfl (allAre_con _ _)) ?_
   refine go [.N] (k := ?_)
   exact wjT 67 [65, 66, 67] (ifT g13 _ undef) Kg13
  ·refine go [.x,.x,.x] (k := ?_)
   exact wjF 67 [65, 66, 67] (ifF g13 undef _) Kg13
 refine qq (Qt.pickAnd rfl rfl rfl) ?_
 refine go [.a,.Z] (k := ?_)
 refine rt1 2 ?_
 have hL : (((s.Regs.length : Nat) : Int) == 4 && ((s.Pt.length : Nat) : Int) == 3 && ((s.Fds.length : Nat) : Int) == 4) = true := by grind
 rw [show slotOk s = emptyS s from by simp only [slotOk, hL, Bool.true_and]]
 simp only [emptyS, k4, Bool.false_or]
 rfl
theorem shapeA1_con (s : DASlot) : Con Tryz.prog 124 [.g [.v (.bool s.Used), .v (iv s.Pid), .v (iv s.Parent), .v (iv s.State), .v (iv s.Prog), .v (iv s.Pc), .v (iv s.Until), .v (iv s.Code), .h base [], .h (base + 1) [], .h (base + 2) []]] [.rt base .ro (tr s.Regs), .rt (base + 1) .ro (tr s.Pt), .rt (base + 2) .ro (tr s.Fds)] (fun y _ => y = .v (.bool !(slotOk s))) := by
 refine ob Tryz.func124 Tryz.ntmps124 ?_
 refine go [.R,.B,.N,.a,.Z,.R,.G] (k := ?_)
 refine cv Tryz.call125 rfl rfl (slotShape_con _) ?_
 refine go [.N,.n,.a,.Z] (k := ?_)
 refine rt1 2 ?_
 rfl
theorem shapeA2_con (o : DAOpen) : Con Tryz.prog 127 [.g [.v (.bool o.Used), .v (iv o.Kind), .v (iv o.Target), .v (iv o.Off), .v (iv o.Refs)]] [] (fun y _ => y = .v (.bool (aopenBad o))) := by
 refine ob Tryz.func127 Tryz.ntmps127 ?_
 refine go [.R,.B,.N,.a,.Z,.R,.f,.l,.N,.n,.m] (k := ?_)
 apply AWL.cut 3
 ·intro Kg1
  refine AWL.split 6 rfl (fun g1 => ?_) (fun g1 => ?_)
  ·refine go [.G,.N,.u] (k := ?_)
   refine qg g1 (Qt.neS (ne96 _ _ _ _ _ _ _ _ _ _) rfl rfl) ?_
   exact wjT 9 [7, 8, 9] (ifT g1 _ undef) Kg1
  ·refine go [.x,.x,.x] (k := ?_)
   exact wjF 9 [7, 8, 9] (ifF g1 undef _) Kg1
 refine qq (Qt.pickAnd rfl rfl rfl) ?_
 refine go [.N,.a,.Z] (k := ?_)
 refine rt1 2 ?_
 rfl
theorem shapeA3_con (r : DARing) : Con Tryz.prog 129 [.g [.v (.bool r.Used), .h base [], .v (iv r.Head), .v (iv r.Len)]] [.rt base .ro (tr r.Buf)] (fun y _ => y = .v (.bool (pipeBad r))) := by
 refine ob Tryz.func129 Tryz.ntmps129 ?_
 refine go [.R,.B,.N,.a,.Z,.R,.G] (k := ?_)
 refine cv Tryz.call122 rfl rfl (ringI_con _ _ (by omega) (by omega)) ?_
 refine go [.N,.n,.m] (k := ?_)
 apply AWL.cut 13
 ·intro Kg1
  refine AWL.splitF 6 rfl (fun g1 => ?_) (fun g1 => ?_)
  ·refine go [.f,.N,.l,.n,.m,.N] (k := ?_)
   apply AWL.cut 8
   ·intro Kg2
    refine AWL.split 10 rfl (fun g2 => ?_) (fun g2 => ?_)
    ·refine go [.f,.l,.b,.N,.m] (k := ?_)
     apply AWL.cut 3
     ·intro Kg3
      refine AWL.splitF 14 rfl (fun g3 => ?_) (fun g3 => ?_)
      ·refine go [.f,.l,.N,.b] (k := ?_)
       exact wjT 17 [15, 16, 17] (ifF g3 _ undef) Kg3
      ·refine go [.x,.x,.x] (k := ?_)
       exact wjF 17 [15, 16, 17] (ifT g3 undef _) Kg3
     refine qg g2 (Qt.pickOr rfl rfl rfl) ?_
     exact wjT 18 [11, 12, 13, 14, 15, 16, 17, 18] (ifT g2 _ undef) Kg2
    ·refine go [.x,.x,.x,.x,.N,.x,.x,.x,.x] (k := ?_)
     exact wjF 18 [11, 12, 13, 14, 15, 16, 17, 18] (ifF g2 undef _) Kg2
   refine qg (nF g1) (Qt.pickAnd rfl rfl rfl) ?_
   refine go [.N] (k := ?_)
   exact wjT 19 [7, 8, 9, 10, 11, 12, 13, 14, 15, 16, 17, 18, 19] (ifF g1 _ undef) Kg1
  ·refine go [.x,.x,.x,.x,.N,.x,.x,.x,.x,.N,.x,.x,.x,.x,.N,.x] (k := ?_)
   exact wjF 19 [7, 8, 9, 10, 11, 12, 13, 14, 15, 16, 17, 18, 19] (ifT g1 undef _) Kg1
 refine qq (Qt.pickOr rfl rfl rfl) ?_
 refine go [.a,.Z] (k := ?_)
 refine rt1 2 ?_
 rfl
theorem shapeA4_con (f : DAFile) : Con Tryz.prog 131 [.g [.v (.bool f.Used), .h base []]] [.rt base .ro (tr f.Data)] (fun y _ => y = .v (.bool (fileBad f))) := by
 refine ob Tryz.func131 Tryz.ntmps131 ?_
 refine go [.R,.B,.N,.a,.Z,.R,.f,.l,.N,.n,.m] (k := ?_)
 apply AWL.cut 4
 ·intro Kg1
  refine AWL.split 6 rfl (fun g1 => ?_) (fun g1 => ?_)
  ·refine go [.f,.N,.l,.h,.b,.N] (k := ?_)
   exact wjT 10 [7, 8, 9, 10] (ifT g1 _ undef) Kg1
  ·refine go [.x,.x,.x,.x] (k := ?_)
   exact wjF 10 [7, 8, 9, 10] (ifF g1 undef _) Kg1
 refine qq (Qt.pickAnd rfl rfl rfl) ?_
 refine go [.a,.Z] (k := ?_)
 refine rt1 2 ?_
 rfl
theorem ixS_con {fid : FuncId} {p : DASlot → Bool} (hE : Ent Tryz.prog fid) (hp : ∀ x : DASlot, Con Tryz.prog fid [.g [.v (.bool x.Used), .v (iv x.Pid), .v (iv x.Parent), .v (iv x.State), .v (iv x.Prog), .v (iv x.Pc), .v (iv x.Until), .v (iv x.Code), .h base [], .h (base + 1) [], .h (base + 2) []]] [.rt base .ro (tr x.Regs), .rt (base + 1) .ro (tr x.Pt), .rt (base + 2) .ro (tr x.Fds)] (fun y _ => y = .v (.bool (p x)))) (l : List DASlot) : Con Tryz.prog 192 [.h base [], .f fid []] [.rt base .ro (tr l)] (fun y _ => y = .v (iv (ixOf p l))) := by
 refine ob Tryz.func192 Tryz.ntmps192 ?_
 refine AW.len base [] rfl (by simp [Okp]) rfl (fun hl => ?_)
 refine go [.R,.a,.Z,.R2,.m,.h,.N,.m,.Z] (k := ?_)
 refine AW.block ?_
 refine AW.loopW (fun i : IxInv p l => [.sl 8 (.v (iv i.k)), .sl 7 (.v (iv l.length)), .sl 0 (.h base []), .sl 1 (.f fid []), .rt base .ro (tr l)]) (fun i => l.length - i.k) ⟨0, Nat.zero_le _, rfl⟩ (ws) ?_
 intro i
 have hle := i.le
 refine go [.R,.b,.Z] (k := ?_)
 refine AW.seq ?_
 refine cd (fun c1 => ?_) fun c1 => ?_
 ·try simp only [cnd] at c1
  refine jd (AW.seq (AW.block (sr ?_)))
  refine go [.m,.N,.a,.Z,.R,.m,.m,.N,.m,.i,.G,.N] (k := ?_)
  refine cv hE rfl rfl (hp (l.getD i.k En.dflt)) ?_
  refine go [.Z] (k := ?_)
  refine cd (fun c2 => ?_) fun c2 => ?_
  ·try simp only [cnd] at c2
   refine go [.R,.m,.N,.a,.Z] (k := ?_)
   refine rt1 4 ?_
   rw [ixOf_hit i En.dflt (by omega) c2]
   rfl
  try simp only [cnd] at c2
  refine go [.J,.R1,.b,.m,.Z] (k := ?_)
  refine ⟨⟨i.k + 1, by omega, i.next En.dflt (by omega) c2⟩, ws, ?_⟩
  show l.length - (i.k + 1) < l.length - i.k
  omega
 try simp only [cnd] at c1
 refine AW.exit ?_
 dsimp only [thenQ, blockQ, reduceIte]
 refine go [.R,.a,.Z] (k := ?_)
 refine rt1 4 ?_
 rw [ixOf_none i (by omega)]
 rfl
theorem hasS_con {fid : FuncId} {p : DASlot → Bool} (hE : Ent Tryz.prog fid) (hp : ∀ x : DASlot, Con Tryz.prog fid [.g [.v (.bool x.Used), .v (iv x.Pid), .v (iv x.Parent), .v (iv x.State), .v (iv x.Prog), .v (iv x.Pc), .v (iv x.Until), .v (iv x.Code), .h base [], .h (base + 1) [], .h (base + 2) []]] [.rt base .ro (tr x.Regs), .rt (base + 1) .ro (tr x.Pt), .rt (base + 2) .ro (tr x.Fds)] (fun y _ => y = .v (.bool (p x)))) (l : List DASlot) : Con Tryz.prog 123 [.h base [], .f fid []] [.rt base .ro (tr l)] (fun y _ => y = .v (.bool (l.any p))) := by
 refine ob Tryz.func123 Tryz.ntmps123 ?_
 refine go [.R,.a,.Z,.R,.m,.m,.N] (k := ?_)
 refine cv Tryz.call192 rfl rfl (ixS_con hE hp _) ?_
 refine go [.N,.b,.a,.Z] (k := ?_)
 refine rt1 4 ?_
 rw [← ixOf_ge]
 rfl
theorem ixO_con {fid : FuncId} {p : DAOpen → Bool} (hE : Ent Tryz.prog fid) (hp : ∀ x : DAOpen, Con Tryz.prog fid [.g [.v (.bool x.Used), .v (iv x.Kind), .v (iv x.Target), .v (iv x.Off), .v (iv x.Refs)]] [] (fun y _ => y = .v (.bool (p x)))) (l : List DAOpen) : Con Tryz.prog 193 [.h base [], .f fid []] [.rt base .ro (tr l)] (fun y _ => y = .v (iv (ixOf p l))) := by
 refine ob Tryz.func193 Tryz.ntmps193 ?_
 refine AW.len base [] rfl (by simp [Okp]) rfl (fun hl => ?_)
 refine go [.R,.a,.Z,.R2,.m,.h,.N,.m,.Z] (k := ?_)
 refine AW.block ?_
 refine AW.loopW (fun i : IxInv p l => [.sl 8 (.v (iv i.k)), .sl 7 (.v (iv l.length)), .sl 0 (.h base []), .sl 1 (.f fid []), .rt base .ro (tr l)]) (fun i => l.length - i.k) ⟨0, Nat.zero_le _, rfl⟩ (ws) ?_
 intro i
 have hle := i.le
 refine go [.R,.b,.Z] (k := ?_)
 refine AW.seq ?_
 refine cd (fun c1 => ?_) fun c1 => ?_
 ·try simp only [cnd] at c1
  refine jd (AW.seq (AW.block (sr ?_)))
  refine go [.m,.N,.a,.Z,.R,.m,.m,.N,.m,.i,.G,.N] (k := ?_)
  refine cv hE rfl rfl (hp (l.getD i.k En.dflt)) ?_
  refine go [.Z] (k := ?_)
  refine cd (fun c2 => ?_) fun c2 => ?_
  ·try simp only [cnd] at c2
   refine go [.R,.m,.N,.a,.Z] (k := ?_)
   refine rt1 4 ?_
   rw [ixOf_hit i En.dflt (by omega) c2]
   rfl
  try simp only [cnd] at c2
  refine go [.J,.R1,.b,.m,.Z] (k := ?_)
  refine ⟨⟨i.k + 1, by omega, i.next En.dflt (by omega) c2⟩, ws, ?_⟩
  show l.length - (i.k + 1) < l.length - i.k
  omega
 try simp only [cnd] at c1
 refine AW.exit ?_
 dsimp only [thenQ, blockQ, reduceIte]
 refine go [.R,.a,.Z] (k := ?_)
 refine rt1 4 ?_
 rw [ixOf_none i (by omega)]
 rfl
theorem hasO_con {fid : FuncId} {p : DAOpen → Bool} (hE : Ent Tryz.prog fid) (hp : ∀ x : DAOpen, Con Tryz.prog fid [.g [.v (.bool x.Used), .v (iv x.Kind), .v (iv x.Target), .v (iv x.Off), .v (iv x.Refs)]] [] (fun y _ => y = .v (.bool (p x)))) (l : List DAOpen) : Con Tryz.prog 126 [.h base [], .f fid []] [.rt base .ro (tr l)] (fun y _ => y = .v (.bool (l.any p))) := by
 refine ob Tryz.func126 Tryz.ntmps126 ?_
 refine go [.R,.a,.Z,.R,.m,.m,.N] (k := ?_)
 refine cv Tryz.call193 rfl rfl (ixO_con hE hp _) ?_
 refine go [.N,.b,.a,.Z] (k := ?_)
 refine rt1 4 ?_
 rw [← ixOf_ge]
 rfl
theorem ixR_con {fid : FuncId} {p : DARing → Bool} (hE : Ent Tryz.prog fid) (hp : ∀ x : DARing, Con Tryz.prog fid [.g [.v (.bool x.Used), .h base [], .v (iv x.Head), .v (iv x.Len)]] [.rt base .ro (tr x.Buf)] (fun y _ => y = .v (.bool (p x)))) (l : List DARing) : Con Tryz.prog 194 [.h base [], .f fid []] [.rt base .ro (tr l)] (fun y _ => y = .v (iv (ixOf p l))) := by
 refine ob Tryz.func194 Tryz.ntmps194 ?_
 refine AW.len base [] rfl (by simp [Okp]) rfl (fun hl => ?_)
 refine go [.R,.a,.Z,.R2,.m,.h,.N,.m,.Z] (k := ?_)
 refine AW.block ?_
 refine AW.loopW (fun i : IxInv p l => [.sl 8 (.v (iv i.k)), .sl 7 (.v (iv l.length)), .sl 0 (.h base []), .sl 1 (.f fid []), .rt base .ro (tr l)]) (fun i => l.length - i.k) ⟨0, Nat.zero_le _, rfl⟩ (ws) ?_
 intro i
 have hle := i.le
 refine go [.R,.b,.Z] (k := ?_)
 refine AW.seq ?_
 refine cd (fun c1 => ?_) fun c1 => ?_
 ·try simp only [cnd] at c1
  refine jd (AW.seq (AW.block (sr ?_)))
  refine go [.m,.N,.a,.Z,.R,.m,.m,.N,.m,.i,.G,.N] (k := ?_)
  refine cv hE rfl rfl (hp (l.getD i.k En.dflt)) ?_
  refine go [.Z] (k := ?_)
  refine cd (fun c2 => ?_) fun c2 => ?_
  ·try simp only [cnd] at c2
   refine go [.R,.m,.N,.a,.Z] (k := ?_)
   refine rt1 4 ?_
   rw [ixOf_hit i En.dflt (by omega) c2]
   rfl
  try simp only [cnd] at c2
  refine go [.J,.R1,.b,.m,.Z] (k := ?_)
  refine ⟨⟨i.k + 1, by omega, i.next En.dflt (by omega) c2⟩, ws, ?_⟩
  show l.length - (i.k + 1) < l.length - i.k
  omega
 try simp only [cnd] at c1
 refine AW.exit ?_
 dsimp only [thenQ, blockQ, reduceIte]
 refine go [.R,.a,.Z] (k := ?_)
 refine rt1 4 ?_
 rw [ixOf_none i (by omega)]
 rfl
theorem hasR_con {fid : FuncId} {p : DARing → Bool} (hE : Ent Tryz.prog fid) (hp : ∀ x : DARing, Con Tryz.prog fid [.g [.v (.bool x.Used), .h base [], .v (iv x.Head), .v (iv x.Len)]] [.rt base .ro (tr x.Buf)] (fun y _ => y = .v (.bool (p x)))) (l : List DARing) : Con Tryz.prog 128 [.h base [], .f fid []] [.rt base .ro (tr l)] (fun y _ => y = .v (.bool (l.any p))) := by
 refine ob Tryz.func128 Tryz.ntmps128 ?_
 refine go [.R,.a,.Z,.R,.m,.m,.N] (k := ?_)
 refine cv Tryz.call194 rfl rfl (ixR_con hE hp _) ?_
 refine go [.N,.b,.a,.Z] (k := ?_)
 refine rt1 4 ?_
 rw [← ixOf_ge]
 rfl
theorem ixF_con {fid : FuncId} {p : DAFile → Bool} (hE : Ent Tryz.prog fid) (hp : ∀ x : DAFile, Con Tryz.prog fid [.g [.v (.bool x.Used), .h base []]] [.rt base .ro (tr x.Data)] (fun y _ => y = .v (.bool (p x)))) (l : List DAFile) : Con Tryz.prog 195 [.h base [], .f fid []] [.rt base .ro (tr l)] (fun y _ => y = .v (iv (ixOf p l))) := by
 refine ob Tryz.func195 Tryz.ntmps195 ?_
 refine AW.len base [] rfl (by simp [Okp]) rfl (fun hl => ?_)
 refine go [.R,.a,.Z,.R2,.m,.h,.N,.m,.Z] (k := ?_)
 refine AW.block ?_
 refine AW.loopW (fun i : IxInv p l => [.sl 8 (.v (iv i.k)), .sl 7 (.v (iv l.length)), .sl 0 (.h base []), .sl 1 (.f fid []), .rt base .ro (tr l)]) (fun i => l.length - i.k) ⟨0, Nat.zero_le _, rfl⟩ (ws) ?_
 intro i
 have hle := i.le
 refine go [.R,.b,.Z] (k := ?_)
 refine AW.seq ?_
 refine cd (fun c1 => ?_) fun c1 => ?_
 ·try simp only [cnd] at c1
  refine jd (AW.seq (AW.block (sr ?_)))
  refine go [.m,.N,.a,.Z,.R,.m,.m,.N,.m,.i,.G,.N] (k := ?_)
  refine cv hE rfl rfl (hp (l.getD i.k En.dflt)) ?_
  refine go [.Z] (k := ?_)
  refine cd (fun c2 => ?_) fun c2 => ?_
  ·try simp only [cnd] at c2
   refine go [.R,.m,.N,.a,.Z] (k := ?_)
   refine rt1 4 ?_
   rw [ixOf_hit i En.dflt (by omega) c2]
   rfl
  try simp only [cnd] at c2
  refine go [.J,.R1,.b,.m,.Z] (k := ?_)
  refine ⟨⟨i.k + 1, by omega, i.next En.dflt (by omega) c2⟩, ws, ?_⟩
  show l.length - (i.k + 1) < l.length - i.k
  omega
 try simp only [cnd] at c1
 refine AW.exit ?_
 dsimp only [thenQ, blockQ, reduceIte]
 refine go [.R,.a,.Z] (k := ?_)
 refine rt1 4 ?_
 rw [ixOf_none i (by omega)]
 rfl
theorem hasF_con {fid : FuncId} {p : DAFile → Bool} (hE : Ent Tryz.prog fid) (hp : ∀ x : DAFile, Con Tryz.prog fid [.g [.v (.bool x.Used), .h base []]] [.rt base .ro (tr x.Data)] (fun y _ => y = .v (.bool (p x)))) (l : List DAFile) : Con Tryz.prog 130 [.h base [], .f fid []] [.rt base .ro (tr l)] (fun y _ => y = .v (.bool (l.any p))) := by
 refine ob Tryz.func130 Tryz.ntmps130 ?_
 refine go [.R,.a,.Z,.R,.m,.m,.N] (k := ?_)
 refine cv Tryz.call195 rfl rfl (ixF_con hE hp _) ?_
 refine go [.N,.b,.a,.Z] (k := ?_)
 refine rt1 4 ?_
 rw [← ixOf_ge]
 rfl
theorem fileL (f : DAFile) : fileBad f = (!f.Used && decide ((0 : Int) < ((f.Data.length : Nat) : Int))) := by
 simp only [fileBad]
 congr 1
 cases f.Data with
 | nil => rfl
 | cons a l => rw [Bool.eq_iff_iff]; simp; omega
theorem anyS (l : List DASlot) : (l.any fun s => !(slotOk s)) = !(l.all slotOk) := by rw [Bool.eq_iff_iff]; simp
theorem anyO (l : List DAOpen) : (l.any aopenBad) = !(l.all fun o => !aopenBad o) := by rw [Bool.eq_iff_iff]; simp
theorem anyR (l : List DARing) : (l.any pipeBad) = !(l.all fun o => !pipeBad o) := by rw [Bool.eq_iff_iff]; simp
theorem anyF (l : List DAFile) : (l.any fileBad) = !(l.all fun o => !fileBad o) := by rw [Bool.eq_iff_iff]; simp

theorem shapeAI_con (a : DArrays) : Con Tryz.prog 43 [.g [.v (iv a.Next), .v (iv a.Tick), .h base [], .h (base + 1) [], .h (base + 2) [], .h (base + 3) [], .h (base + 4) [], .h (base + 5) [], .h (base + 6) [], .v (.bool a.Ready.Used), .h (base + 7) [], .v (iv a.Ready.Head), .v (iv a.Ready.Len), .h (base + 8) []]] [.rt base .ro (tr a.Progs), .rt (base + 1) .ro (tr a.Slots), .rt (base + 2) .ro (tr a.Ram), .rt (base + 3) .ro (tr a.Map), .rt (base + 4) .ro (tr a.Opens), .rt (base + 5) .ro (tr a.Pipes), .rt (base + 6) .ro (tr a.Files), .rt (base + 7) .ro (tr a.Ready.Buf), .rt (base + 8) .ro (tr a.Out)] (fun y _ => y = .v (.bool (shapeA a))) := by
 refine ob Tryz.func43 Tryz.ntmps43 ?_
 refine go [.R,.B,.N,.a,.Z,.R2,.f,.l,.N,.h,.b,.m,.N] (k := ?_)
 apply AWL.cut 4
 ·intro Kg1
  refine AWL.splitF 7 rfl (fun g1 => ?_) (fun g1 => ?_)
  ·refine go [.f,.l,.h,.N,.b] (k := ?_)
   exact wjT 11 [8, 9, 10, 11] (ifF g1 _ undef) Kg1
  ·refine go [.x,.x,.x,.x] (k := ?_)
   exact wjF 11 [8, 9, 10, 11] (ifT g1 undef _) Kg1
 refine qq (Qt.pickOr rfl rfl rfl) ?_
 refine go [.m,.N] (k := ?_)
 apply AWL.cut 4
 ·intro Kg2
  refine AWL.splitF 13 rfl (fun g2 => ?_) (fun g2 => ?_)
  ·refine go [.f,.l] (k := ?_)
   refine AWL.step rfl (nF g2) (Stp.callV rfl (by decide) Tryz.call121 rfl rfl (MapOkI_con _)) ?_
   refine go [.N,.n] (k := ?_)
   exact wjT 17 [14, 15, 16, 17] (ifF g2 _ undef) Kg2
  ·refine go [.x,.x,.x,.x] (k := ?_)
   exact wjF 17 [14, 15, 16, 17] (ifT g2 undef _) Kg2
 refine qq (Qt.pickOr rfl rfl rfl) ?_
 refine go [.m,.N] (k := ?_)
 apply AWL.cut 4
 ·intro Kg3
  refine AWL.splitF 19 rfl (fun g3 => ?_) (fun g3 => ?_)
  ·refine go [.f,.l,.h,.N,.b] (k := ?_)
   exact wjT 23 [20, 21, 22, 23] (ifF g3 _ undef) Kg3
  ·refine go [.x,.x,.x,.x] (k := ?_)
   exact wjF 23 [20, 21, 22, 23] (ifT g3 undef _) Kg3
 refine qq (Qt.pickOr rfl rfl rfl) ?_
 refine go [.m,.N] (k := ?_)
 apply AWL.cut 4
 ·intro Kg4
  refine AWL.splitF 25 rfl (fun g4 => ?_) (fun g4 => ?_)
  ·refine go [.f,.l,.h,.N,.b] (k := ?_)
   exact wjT 29 [26, 27, 28, 29] (ifF g4 _ undef) Kg4
  ·refine go [.x,.x,.x,.x] (k := ?_)
   exact wjF 29 [26, 27, 28, 29] (ifT g4 undef _) Kg4
 refine qq (Qt.pickOr rfl rfl rfl) ?_
 refine go [.m,.N] (k := ?_)
 apply AWL.cut 4
 ·intro Kg5
  refine AWL.splitF 31 rfl (fun g5 => ?_) (fun g5 => ?_)
  ·refine go [.f,.l,.h,.N,.b] (k := ?_)
   exact wjT 35 [32, 33, 34, 35] (ifF g5 _ undef) Kg5
  ·refine go [.x,.x,.x,.x] (k := ?_)
   exact wjF 35 [32, 33, 34, 35] (ifT g5 undef _) Kg5
 refine qq (Qt.pickOr rfl rfl rfl) ?_
 refine go [.m,.N] (k := ?_)
 apply AWL.cut 4
 ·intro Kg6
  refine AWL.splitF 37 rfl (fun g6 => ?_) (fun g6 => ?_)
  ·refine go [.f,.G] (k := ?_)
   refine AWL.step rfl (nF g6) (Stp.callV rfl (by decide) Tryz.call122 rfl rfl (ringI_con _ _ (by omega) (by omega))) ?_
   refine go [.N,.n] (k := ?_)
   exact wjT 41 [38, 39, 40, 41] (ifF g6 _ undef) Kg6
  ·refine go [.x,.x,.x,.x] (k := ?_)
   exact wjF 41 [38, 39, 40, 41] (ifT g6 undef _) Kg6
 refine qq (Qt.pickOr rfl rfl rfl) ?_
 refine go [.Z] (k := ?_)
 refine cd (fun c7 => ?_) fun c7 => ?_
 ·try simp only [cnd] at c7
  refine go [.R,.a,.Z] (k := ?_)
  refine rt1 2 ?_
  rw [show shapeA a = false from by simp only [shapeA, show headA a = false from by simp only [headA]; grind, Bool.false_and]]
  rfl
 try simp only [cnd] at c7
 have hH : headA a = true := by simp only [headA]; grind
 refine jd (sr2 ?_)
 refine go [.f,.N,.l] (k := ?_)
 refine cv Tryz.call123 rfl rfl (hasS_con Tryz.call124 (fun x => shapeA1_con x) _) ?_
 refine go [.Z] (k := ?_)
 refine cd (fun c8 => ?_) fun c8 => ?_
 ·have k8 := c8
  try simp only [cnd] at c8
  refine go [.R,.a,.Z] (k := ?_)
  refine rt1 2 ?_
  rw [anyS] at k8
  rw [show shapeA a = false from by simp only [shapeA]; grind]
  rfl
 have k8 := c8
 try simp only [cnd] at c8
 rw [anyS] at k8
 refine jd (sr2 ?_)
 refine go [.f,.N,.l] (k := ?_)
 refine cv Tryz.call126 rfl rfl (hasO_con Tryz.call127 (fun x => shapeA2_con x) _) ?_
 refine go [.Z] (k := ?_)
 refine cd (fun c9 => ?_) fun c9 => ?_
 ·have k9 := c9
  try simp only [cnd] at c9
  refine go [.R,.a,.Z] (k := ?_)
  refine rt1 2 ?_
  rw [anyO] at k9
  rw [show shapeA a = false from by simp only [shapeA]; grind]
  rfl
 have k9 := c9
 try simp only [cnd] at c9
 rw [anyO] at k9
 refine jd (sr2 ?_)
 refine go [.f,.N,.l] (k := ?_)
 refine cv Tryz.call128 rfl rfl (hasR_con Tryz.call129 (fun x => shapeA3_con x) _) ?_
 refine go [.Z] (k := ?_)
 refine cd (fun c10 => ?_) fun c10 => ?_
 ·have k10 := c10
  try simp only [cnd] at c10
  refine go [.R,.a,.Z] (k := ?_)
  refine rt1 2 ?_
  rw [anyR] at k10
  rw [show shapeA a = false from by simp only [shapeA]; grind]
  rfl
 have k10 := c10
 try simp only [cnd] at c10
 refine go [.J,.R,.f,.N,.l] (k := ?_)
 refine cv Tryz.call130 rfl rfl (hasF_con Tryz.call131 (fun x => shapeA4_con x) _) ?_
 refine go [.N,.n,.a,.Z] (k := ?_)
 refine rt1 2 ?_
 rw [anyR] at k10
 rw [show shapeA a = !(a.Files.any fileBad) from by rw [anyF]; simp only [shapeA]; grind]
 rfl
theorem l12Shape_con (a : DArrays) : Con Tryz.prog 33 [.g [.v (iv a.Next), .v (iv a.Tick), .h base [], .h (base + 1) [], .h (base + 2) [], .h (base + 3) [], .h (base + 4) [], .h (base + 5) [], .h (base + 6) [], .v (.bool a.Ready.Used), .h (base + 7) [], .v (iv a.Ready.Head), .v (iv a.Ready.Len), .h (base + 8) []]] [.rt base .ro (tr a.Progs), .rt (base + 1) .ro (tr a.Slots), .rt (base + 2) .ro (tr a.Ram), .rt (base + 3) .ro (tr a.Map), .rt (base + 4) .ro (tr a.Opens), .rt (base + 5) .ro (tr a.Pipes), .rt (base + 6) .ro (tr a.Files), .rt (base + 7) .ro (tr a.Ready.Buf), .rt (base + 8) .ro (tr a.Out)] (fun y _ => y = .v (.bool (shapeA a))) := by
 refine ob Tryz.func33 Tryz.ntmps33 ?_
 refine AW.len (base + 1) [] rfl (by simp [Okp]) rfl (fun hl1 => ?_)
 refine AW.len (base + 4) [] rfl (by simp [Okp]) rfl (fun hl2 => ?_)
 refine AW.len (base + 5) [] rfl (by simp [Okp]) rfl (fun hl3 => ?_)
 refine AW.len (base + 6) [] rfl (by simp [Okp]) rfl (fun hl4 => ?_)
 refine go [.R,.B,.N,.a,.Z,.R2,.f,.l,.N,.h,.b,.m,.N] (k := ?_)
 apply AWL.cut 4
 ·intro Kg1
  refine AWL.splitF 13 rfl (fun g1 => ?_) (fun g1 => ?_)
  ·refine go [.f,.l,.h,.N,.b] (k := ?_)
   exact wjT 17 [14, 15, 16, 17] (ifF g1 _ undef) Kg1
  ·refine go [.x,.x,.x,.x] (k := ?_)
   exact wjF 17 [14, 15, 16, 17] (ifT g1 undef _) Kg1
 refine qq (Qt.pickOr rfl rfl rfl) ?_
 refine go [.m,.N] (k := ?_)
 apply AWL.cut 4
 ·intro Kg2
  refine AWL.splitF 19 rfl (fun g2 => ?_) (fun g2 => ?_)
  ·refine go [.f,.l] (k := ?_)
   refine AWL.step rfl (nF g2) (Stp.callV rfl (by decide) Tryz.call110 rfl rfl (MapOkS_con _)) ?_
   refine go [.N,.n] (k := ?_)
   exact wjT 23 [20, 21, 22, 23] (ifF g2 _ undef) Kg2
  ·refine go [.x,.x,.x,.x] (k := ?_)
   exact wjF 23 [20, 21, 22, 23] (ifT g2 undef _) Kg2
 refine qq (Qt.pickOr rfl rfl rfl) ?_
 refine go [.m,.N] (k := ?_)
 apply AWL.cut 4
 ·intro Kg3
  refine AWL.splitF 25 rfl (fun g3 => ?_) (fun g3 => ?_)
  ·refine go [.f,.l,.h,.N,.b] (k := ?_)
   exact wjT 29 [26, 27, 28, 29] (ifF g3 _ undef) Kg3
  ·refine go [.x,.x,.x,.x] (k := ?_)
   exact wjF 29 [26, 27, 28, 29] (ifT g3 undef _) Kg3
 refine qq (Qt.pickOr rfl rfl rfl) ?_
 refine go [.m,.N] (k := ?_)
 apply AWL.cut 4
 ·intro Kg4
  refine AWL.splitF 31 rfl (fun g4 => ?_) (fun g4 => ?_)
  ·refine go [.f,.l,.h,.N,.b] (k := ?_)
   exact wjT 35 [32, 33, 34, 35] (ifF g4 _ undef) Kg4
  ·refine go [.x,.x,.x,.x] (k := ?_)
   exact wjF 35 [32, 33, 34, 35] (ifT g4 undef _) Kg4
 refine qq (Qt.pickOr rfl rfl rfl) ?_
 refine go [.m,.N] (k := ?_)
 apply AWL.cut 4
 ·intro Kg5
  refine AWL.splitF 37 rfl (fun g5 => ?_) (fun g5 => ?_)
  ·refine go [.f,.l,.h,.N,.b] (k := ?_)
   exact wjT 41 [38, 39, 40, 41] (ifF g5 _ undef) Kg5
  ·refine go [.x,.x,.x,.x] (k := ?_)
   exact wjF 41 [38, 39, 40, 41] (ifT g5 undef _) Kg5
 refine qq (Qt.pickOr rfl rfl rfl) ?_
 refine go [.m,.N] (k := ?_)
 apply AWL.cut 4
 ·intro Kg6
  refine AWL.splitF 43 rfl (fun g6 => ?_) (fun g6 => ?_)
  ·refine go [.f,.G] (k := ?_)
   refine AWL.step rfl (nF g6) (Stp.callV rfl (by decide) Tryz.call111 rfl rfl (ringS_con _ _ (by omega) (by omega))) ?_
   refine go [.N,.n] (k := ?_)
   exact wjT 47 [44, 45, 46, 47] (ifF g6 _ undef) Kg6
  ·refine go [.x,.x,.x,.x] (k := ?_)
   exact wjF 47 [44, 45, 46, 47] (ifT g6 undef _) Kg6
 refine qq (Qt.pickOr rfl rfl rfl) ?_
 refine go [.Z] (k := ?_)
 refine cd (fun c7 => ?_) fun c7 => ?_
 ·try simp only [cnd] at c7
  refine go [.R,.a,.Z] (k := ?_)
  refine rt1 2 ?_
  rw [show shapeA a = false from by simp only [shapeA, show headA a = false from by simp only [headA]; grind, Bool.false_and]]
  rfl
 try simp only [cnd] at c7
 have hH : headA a = true := by simp only [headA]; grind
 refine jd (sr2 ?_)
 refine go [.a,.Z] (k := ?_)
 refine AW.block ?_
 refine AW.loopW (fun i : AllInv slotOk a.Slots => [.sl 3 (.v (iv i.k)), .rt 1 .box (T.s 14 1 fun k c => ([(T.v (iv a.Next), none), (T.v (iv a.Tick), none), (T.j, none), (T.j, none), (T.j, none), (T.j, none), (T.j, none), (T.j, none), (T.j, none), (T.v (Value.bool a.Ready.Used), none), (T.j, none), (T.v (iv a.Ready.Head), none), (T.v (iv a.Ready.Len), none), (T.j, none)].getD (k * 14 + c) (T.j, none)).fst), .al 1 2 (.h base []), .al 1 3 (.h (base + 1) []), .al 1 4 (.h (base + 2) []), .al 1 5 (.h (base + 3) []), .al 1 6 (.h (base + 4) []), .al 1 7 (.h (base + 5) []), .al 1 8 (.h (base + 6) []), .al 1 10 (.h (base + 7) []), .al 1 13 (.h (base + 8) []), .rt base .ro (tr a.Progs), .rt (base + 1) .ro (tr a.Slots), .rt (base + 2) .ro (tr a.Ram), .rt (base + 3) .ro (tr a.Map), .rt (base + 4) .ro (tr a.Opens), .rt (base + 5) .ro (tr a.Pipes), .rt (base + 6) .ro (tr a.Files), .rt (base + 7) .ro (tr a.Ready.Buf), .rt (base + 8) .ro (tr a.Out), .sl 1 (.p 1 [] 14 0 0)]) (fun i => a.Slots.length - i.k) ⟨0, Nat.zero_le _, rfl⟩ (ws) ?_
 intro i
 have hle := i.le
 refine go [.R2,.m,.N,.f,.l,.h,.N,.b,.Z] (k := ?_)
 refine cd (fun c8 => ?_) fun c8 => ?_
 ·try simp only [cnd] at c8
  refine jd (AW.seq (AW.block (sr ?_)))
  refine go [.f,.l,.N,.m,.i,.G,.N,.A,.N,.s,.Z,.R,.f,.N,.l,.h,.b,.N,.m] (k := ?_)
  apply AWL.cut 4
  ·intro Kg9
   refine AWL.splitF 65 rfl (fun g9 => ?_) (fun g9 => ?_)
   ·refine go [.f,.l,.N,.h,.b] (k := ?_)
    exact wjT 69 [66, 67, 68, 69] (ifF g9 _ undef) Kg9
   ·refine go [.x,.x,.x,.x] (k := ?_)
    exact wjF 69 [66, 67, 68, 69] (ifT g9 undef _) Kg9
  refine qq (Qt.pickOr rfl rfl rfl) ?_
  refine go [.N,.m] (k := ?_)
  apply AWL.cut 4
  ·intro Kg10
   refine AWL.splitF 71 rfl (fun g10 => ?_) (fun g10 => ?_)
   ·refine go [.f,.l,.N,.h,.b] (k := ?_)
    exact wjT 75 [72, 73, 74, 75] (ifF g10 _ undef) Kg10
   ·refine go [.x,.x,.x,.x] (k := ?_)
    exact wjF 75 [72, 73, 74, 75] (ifT g10 undef _) Kg10
  refine qq (Qt.pickOr rfl rfl rfl) ?_
  refine go [.N,.m] (k := ?_)
  apply AWL.cut 3
  ·intro Kg11
   refine AWL.splitF 77 rfl (fun g11 => ?_) (fun g11 => ?_)
   ·refine go [.G] (k := ?_)
    refine AWL.step rfl (nF g11) (Stp.callV rfl (by decide) Tryz.call112 rfl rfl (l12Empty_con _)) ?_
    refine go [.N,.n] (k := ?_)
    exact wjT 80 [78, 79, 80] (ifF g11 _ undef) Kg11
   ·refine go [.x,.x,.x] (k := ?_)
    exact wjF 80 [78, 79, 80] (ifT g11 undef _) Kg11
  refine qq (Qt.pickOr rfl rfl rfl) ?_
  refine go [.Z] (k := ?_)
  refine cd (fun c12 => ?_) fun c12 => ?_
  ·try simp only [cnd] at c12
   refine go [.R,.a,.Z] (k := ?_)
   refine rt1 2 ?_
   rw [show shapeA a = false from by simp only [shapeA, i.stop En.dflt (by omega) (by simp only [slotOk]; grind), Bool.false_and, Bool.and_false]]
   rfl
  try simp only [cnd] at c12
  refine go [.J,.R1,.m,.N,.b,.a,.Z] (k := ?_)
  refine ⟨⟨i.k + 1, by omega, i.next En.dflt (by omega) (by simp only [slotOk]; grind)⟩, ws, ?_⟩
  show a.Slots.length - (i.k + 1) < a.Slots.length - i.k
  omega
 try simp only [cnd] at c8
 have h1 := i.full (by omega)
 refine AW.exit ?_
 dsimp only [thenQ, blockQ, reduceIte]
 refine go [.R2,.a,.Z] (k := ?_)
 refine AW.block ?_
 refine AW.loopW (fun j : AllInv (fun o : DAOpen => !aopenBad o) a.Opens => [.sl 5 (.v (iv j.k)), .rt 1 .box (T.s 14 1 fun k c => ([(T.v (iv a.Next), none), (T.v (iv a.Tick), none), (T.j, none), (T.j, none), (T.j, none), (T.j, none), (T.j, none), (T.j, none), (T.j, none), (T.v (Value.bool a.Ready.Used), none), (T.j, none), (T.v (iv a.Ready.Head), none), (T.v (iv a.Ready.Len), none), (T.j, none)].getD (k * 14 + c) (T.j, none)).fst), .al 1 2 (.h base []), .al 1 3 (.h (base + 1) []), .al 1 4 (.h (base + 2) []), .al 1 5 (.h (base + 3) []), .al 1 6 (.h (base + 4) []), .al 1 7 (.h (base + 5) []), .al 1 8 (.h (base + 6) []), .al 1 10 (.h (base + 7) []), .al 1 13 (.h (base + 8) []), .rt base .ro (tr a.Progs), .rt (base + 1) .ro (tr a.Slots), .rt (base + 2) .ro (tr a.Ram), .rt (base + 3) .ro (tr a.Map), .rt (base + 4) .ro (tr a.Opens), .rt (base + 5) .ro (tr a.Pipes), .rt (base + 6) .ro (tr a.Files), .rt (base + 7) .ro (tr a.Ready.Buf), .rt (base + 8) .ro (tr a.Out), .sl 1 (.p 1 [] 14 0 0)]) (fun j => a.Opens.length - j.k) ⟨0, Nat.zero_le _, rfl⟩ (ws) ?_
 intro j
 have hlej := j.le
 refine go [.R2,.m,.N,.f,.l,.h,.N,.b,.Z] (k := ?_)
 refine cd (fun c13 => ?_) fun c13 => ?_
 ·try simp only [cnd] at c13
  refine jd (AW.seq (AW.block (sr ?_)))
  refine go [.f,.l,.N,.m,.i,.f,.N,.l,.n,.m,.N] (k := ?_)
  apply AWL.cut 7
  ·intro Kg14
   refine AWL.split 96 rfl (fun g14 => ?_) (fun g14 => ?_)
   ·refine go [.f,.l,.m,.N,.i,.G,.u,.N] (k := ?_)
    refine qg g14 (Qt.neS (ne96 _ _ _ _ _ _ _ _ _ _) rfl rfl) ?_
    exact wjT 103 [97, 98, 99, 100, 101, 102, 103] (ifT g14 _ undef) Kg14
   ·refine go [.x,.x,.x,.x,.N,.x,.x,.x] (k := ?_)
    exact wjF 103 [97, 98, 99, 100, 101, 102, 103] (ifF g14 undef _) Kg14
  refine qq (Qt.pickAnd rfl rfl rfl) ?_
  refine go [.Z] (k := ?_)
  refine cd (fun c15 => ?_) fun c15 => ?_
  ·have k15 := c15
   try simp only [cnd] at c15
   refine go [.R,.a,.Z] (k := ?_)
   refine rt1 2 ?_
   rw [show shapeA a = false from by simp only [shapeA, j.stop En.dflt (by omega) (by rw [show aopenBad (a.Opens.getD j.k En.dflt) = true from k15]; rfl), Bool.false_and, Bool.and_false]]
   rfl
  have k15 := c15
  try simp only [cnd] at c15
  refine go [.J,.R1,.m,.N,.b,.a,.Z] (k := ?_)
  refine ⟨⟨j.k + 1, by omega, j.next En.dflt (by omega) (by rw [show aopenBad (a.Opens.getD j.k En.dflt) = false from k15]; rfl)⟩, ws, ?_⟩
  show a.Opens.length - (j.k + 1) < a.Opens.length - j.k
  omega
 try simp only [cnd] at c13
 have h2 := j.full (by omega)
 refine AW.exit ?_
 dsimp only [thenQ, blockQ, reduceIte]
 refine go [.R2,.a,.Z] (k := ?_)
 refine AW.block ?_
 refine AW.loopW (fun m : AllInv (fun o : DARing => !pipeBad o) a.Pipes => [.sl 6 (.v (iv m.k)), .rt 1 .box (T.s 14 1 fun k c => ([(T.v (iv a.Next), none), (T.v (iv a.Tick), none), (T.j, none), (T.j, none), (T.j, none), (T.j, none), (T.j, none), (T.j, none), (T.j, none), (T.v (Value.bool a.Ready.Used), none), (T.j, none), (T.v (iv a.Ready.Head), none), (T.v (iv a.Ready.Len), none), (T.j, none)].getD (k * 14 + c) (T.j, none)).fst), .al 1 2 (.h base []), .al 1 3 (.h (base + 1) []), .al 1 4 (.h (base + 2) []), .al 1 5 (.h (base + 3) []), .al 1 6 (.h (base + 4) []), .al 1 7 (.h (base + 5) []), .al 1 8 (.h (base + 6) []), .al 1 10 (.h (base + 7) []), .al 1 13 (.h (base + 8) []), .rt base .ro (tr a.Progs), .rt (base + 1) .ro (tr a.Slots), .rt (base + 2) .ro (tr a.Ram), .rt (base + 3) .ro (tr a.Map), .rt (base + 4) .ro (tr a.Opens), .rt (base + 5) .ro (tr a.Pipes), .rt (base + 6) .ro (tr a.Files), .rt (base + 7) .ro (tr a.Ready.Buf), .rt (base + 8) .ro (tr a.Out), .sl 1 (.p 1 [] 14 0 0)]) (fun m => a.Pipes.length - m.k) ⟨0, Nat.zero_le _, rfl⟩ (ws) ?_
 intro m
 have hlem := m.le
 refine go [.R2,.m,.N,.f,.l,.h,.N,.b,.Z] (k := ?_)
 refine cd (fun c16 => ?_) fun c16 => ?_
 ·try simp only [cnd] at c16
  refine jd (AW.seq (AW.block (sr ?_)))
  refine go [.f,.l,.N,.m,.i,.G,.N,.A,.N,.s,.Z,.R,.G,.N] (k := ?_)
  refine cv Tryz.call111 rfl rfl (ringS_con _ _ (by omega) (by omega)) ?_
  refine go [.N,.n,.m] (k := ?_)
  apply AWL.cut 13
  ·intro Kg17
   refine AWL.splitF 120 rfl (fun g17 => ?_) (fun g17 => ?_)
   ·refine go [.f,.N,.l,.n,.m,.N] (k := ?_)
    apply AWL.cut 8
    ·intro Kg18
     refine AWL.split 124 rfl (fun g18 => ?_) (fun g18 => ?_)
     ·refine go [.f,.l,.b,.N,.m] (k := ?_)
      apply AWL.cut 3
      ·intro Kg19
       refine AWL.splitF 128 rfl (fun g19 => ?_) (fun g19 => ?_)
       ·refine go [.f,.l,.N,.b] (k := ?_)
        exact wjT 131 [129, 130, 131] (ifF g19 _ undef) Kg19
       ·refine go [.x,.x,.x] (k := ?_)
        exact wjF 131 [129, 130, 131] (ifT g19 undef _) Kg19
      refine qg g18 (Qt.pickOr rfl rfl rfl) ?_
      exact wjT 132 [125, 126, 127, 128, 129, 130, 131, 132] (ifT g18 _ undef) Kg18
     ·refine go [.x,.x,.x,.x,.N,.x,.x,.x,.x] (k := ?_)
      exact wjF 132 [125, 126, 127, 128, 129, 130, 131, 132] (ifF g18 undef _) Kg18
    refine qg (nF g17) (Qt.pickAnd rfl rfl rfl) ?_
    refine go [.N] (k := ?_)
    exact wjT 133 [121, 122, 123, 124, 125, 126, 127, 128, 129, 130, 131, 132, 133] (ifF g17 _ undef) Kg17
   ·refine go [.x,.x,.x,.x,.N,.x,.x,.x,.x,.N,.x,.x,.x,.x,.N,.x] (k := ?_)
    exact wjF 133 [121, 122, 123, 124, 125, 126, 127, 128, 129, 130, 131, 132, 133] (ifT g17 undef _) Kg17
  refine qq (Qt.pickOr rfl rfl rfl) ?_
  refine go [.Z] (k := ?_)
  refine cd (fun c20 => ?_) fun c20 => ?_
  ·have k20 := c20
   try simp only [cnd] at c20
   refine go [.R,.a,.Z] (k := ?_)
   refine rt1 2 ?_
   rw [show shapeA a = false from by simp only [shapeA, m.stop En.dflt (by omega) (by rw [show pipeBad (a.Pipes.getD m.k En.dflt) = true from k20]; rfl), Bool.false_and, Bool.and_false]]
   rfl
  have k20 := c20
  try simp only [cnd] at c20
  refine go [.J,.R1,.m,.N,.b,.a,.Z] (k := ?_)
  refine ⟨⟨m.k + 1, by omega, m.next En.dflt (by omega) (by rw [show pipeBad (a.Pipes.getD m.k En.dflt) = false from k20]; rfl)⟩, ws, ?_⟩
  show a.Pipes.length - (m.k + 1) < a.Pipes.length - m.k
  omega
 try simp only [cnd] at c16
 have h3 := m.full (by omega)
 refine AW.exit ?_
 dsimp only [thenQ, blockQ, reduceIte]
 refine go [.R2,.a,.Z] (k := ?_)
 refine AW.block ?_
 refine AW.loopW (fun n : AllInv (fun o : DAFile => !fileBad o) a.Files => [.sl 8 (.v (iv n.k)), .rt 1 .box (T.s 14 1 fun k c => ([(T.v (iv a.Next), none), (T.v (iv a.Tick), none), (T.j, none), (T.j, none), (T.j, none), (T.j, none), (T.j, none), (T.j, none), (T.j, none), (T.v (Value.bool a.Ready.Used), none), (T.j, none), (T.v (iv a.Ready.Head), none), (T.v (iv a.Ready.Len), none), (T.j, none)].getD (k * 14 + c) (T.j, none)).fst), .al 1 2 (.h base []), .al 1 3 (.h (base + 1) []), .al 1 4 (.h (base + 2) []), .al 1 5 (.h (base + 3) []), .al 1 6 (.h (base + 4) []), .al 1 7 (.h (base + 5) []), .al 1 8 (.h (base + 6) []), .al 1 10 (.h (base + 7) []), .al 1 13 (.h (base + 8) []), .rt base .ro (tr a.Progs), .rt (base + 1) .ro (tr a.Slots), .rt (base + 2) .ro (tr a.Ram), .rt (base + 3) .ro (tr a.Map), .rt (base + 4) .ro (tr a.Opens), .rt (base + 5) .ro (tr a.Pipes), .rt (base + 6) .ro (tr a.Files), .rt (base + 7) .ro (tr a.Ready.Buf), .rt (base + 8) .ro (tr a.Out), .sl 1 (.p 1 [] 14 0 0)]) (fun n => a.Files.length - n.k) ⟨0, Nat.zero_le _, rfl⟩ (ws) ?_
 intro n
 have hlen := n.le
 refine go [.R2,.m,.N,.f,.l,.h,.N,.b,.Z] (k := ?_)
 refine cd (fun c21 => ?_) fun c21 => ?_
 ·try simp only [cnd] at c21
  refine jd (AW.seq (AW.block (sr ?_)))
  refine go [.f,.l,.N,.m,.i,.f,.N,.l,.n,.m,.N] (k := ?_)
  apply AWL.cut 8
  ·intro Kg22
   refine AWL.split 149 rfl (fun g22 => ?_) (fun g22 => ?_)
   ·refine go [.f,.l,.m,.N,.i,.f,.l,.N,.h,.b] (k := ?_)
    exact wjT 157 [150, 151, 152, 153, 154, 155, 156, 157] (ifT g22 _ undef) Kg22
   ·refine go [.x,.x,.x,.x,.N,.x,.x,.x,.x] (k := ?_)
    exact wjF 157 [150, 151, 152, 153, 154, 155, 156, 157] (ifF g22 undef _) Kg22
  refine qq (Qt.pickAnd rfl rfl rfl) ?_
  refine go [.Z] (k := ?_)
  refine cd (fun c23 => ?_) fun c23 => ?_
  ·have k23 := c23
   try simp only [cnd] at c23
   refine go [.R,.a,.Z] (k := ?_)
   refine rt1 2 ?_
   rw [show shapeA a = false from by simp only [shapeA, n.stop En.dflt (by omega) (by rw [fileL, k23]; rfl), Bool.false_and, Bool.and_false]]
   rfl
  have k23 := c23
  try simp only [cnd] at c23
  refine go [.J,.R1,.m,.N,.b,.a,.Z] (k := ?_)
  refine ⟨⟨n.k + 1, by omega, n.next En.dflt (by omega) (by rw [fileL, k23]; rfl)⟩, ws, ?_⟩
  show a.Files.length - (n.k + 1) < a.Files.length - n.k
  omega
 try simp only [cnd] at c21
 refine AW.exit ?_
 dsimp only [thenQ, blockQ, reduceIte]
 refine go [.R,.a,.Z] (k := ?_)
 refine rt1 2 ?_
 have h4 := n.full (by omega)
 rw [show shapeA a = true from by simp only [shapeA, hH, h1, h2, h3, h4, Bool.and_true]]
 rfl
end Go.Proofs.YtldefnpobjabpaaGreat.VM

