/- Contracts of functions of the program. No conditions beyond those that each states. -/
import Derived.Test.YtimmbmphfgnelaaFx
set_option linter.all false
namespace Go.Proofs.Ytimmbmphfgnelaa.VM
open Go Go.RowKit Go.Proofs
structure DIns where
  Op : Int
  A : Int
  B : Int
  C : Int
deriving DecidableEq
instance : En DIns := ⟨4, by omega, fun a => [.v (iv a.Op), .v (iv a.A), .v (iv a.B), .v (iv a.C)], fun _ => rfl, fun a => En.fit a.Op ∧ En.fit a.A ∧ En.fit a.B ∧ En.fit a.C, ⟨0, 0, 0, 0⟩⟩
@[go_sem] theorem cs_Ins (a : DIns) : En.cs a = [.v (iv a.Op), .v (iv a.A), .v (iv a.B), .v (iv a.C)] := rfl
instance : Mk DIns := { wt := fun _ => 0, cnt := fun a => 1 + 1 + 1 + 1, mark := fun _ k => ⟨k, k + 1, k + 1 + 1, k + 1 + 1 + 1⟩, cnt_mk := fun a k => by simp [Mk.cnt_mk] }
theorem cnt_Ins (a : DIns) : Mk.cnt a = 1 + 1 + 1 + 1 := rfl
structure DASlot where
  Used : Bool
  Pid : Int
  Parent : Int
  State : Int
  Prog : Int
  Pc : Int
  Until : Int
  Code : Int
  Regs : List Int
  Pt : List Int
  Fds : List Int
deriving DecidableEq
instance : En DASlot := ⟨11, by omega, fun a => [.v (.bool a.Used), .v (iv a.Pid), .v (iv a.Parent), .v (iv a.State), .v (iv a.Prog), .v (iv a.Pc), .v (iv a.Until), .v (iv a.Code), tr a.Regs, tr a.Pt, tr a.Fds], fun _ => rfl, fun a => En.fit a.Used ∧ En.fit a.Pid ∧ En.fit a.Parent ∧ En.fit a.State ∧ En.fit a.Prog ∧ En.fit a.Pc ∧ En.fit a.Until ∧ En.fit a.Code ∧ En.fit a.Regs ∧ En.fit a.Pt ∧ En.fit a.Fds, ⟨false, 0, 0, 0, 0, 0, 0, 0, [], [], []⟩⟩
@[go_sem] theorem cs_ASlot (a : DASlot) : En.cs a = [.v (.bool a.Used), .v (iv a.Pid), .v (iv a.Parent), .v (iv a.State), .v (iv a.Prog), .v (iv a.Pc), .v (iv a.Until), .v (iv a.Code), tr a.Regs, tr a.Pt, tr a.Fds] := rfl
instance : Mk DASlot := { wt := fun a => Mk.wt a.Regs + Mk.wt a.Pt + Mk.wt a.Fds, cnt := fun a => 1 + 1 + 1 + 1 + 1 + 1 + 1 + 1 + (Mk.cnt a.Regs) + (Mk.cnt a.Pt) + (Mk.cnt a.Fds), mark := fun a k => ⟨decide ((k).tmod 3 = 0), k + 1, k + 1 + 1, k + 1 + 1 + 1, k + 1 + 1 + 1 + 1, k + 1 + 1 + 1 + 1 + 1, k + 1 + 1 + 1 + 1 + 1 + 1, k + 1 + 1 + 1 + 1 + 1 + 1 + 1, Mk.mark a.Regs (k + 1 + 1 + 1 + 1 + 1 + 1 + 1 + 1), Mk.mark a.Pt (k + 1 + 1 + 1 + 1 + 1 + 1 + 1 + 1 + (Mk.cnt a.Regs : Nat)), Mk.mark a.Fds (k + 1 + 1 + 1 + 1 + 1 + 1 + 1 + 1 + (Mk.cnt a.Regs : Nat) + (Mk.cnt a.Pt : Nat))⟩, cnt_mk := fun a k => by simp [Mk.cnt_mk] }
theorem cnt_ASlot (a : DASlot) : Mk.cnt a = 1 + 1 + 1 + 1 + 1 + 1 + 1 + 1 + (Mk.cnt a.Regs) + (Mk.cnt a.Pt) + (Mk.cnt a.Fds) := rfl
structure DAOpen where
  Used : Bool
  Kind : Int
  Target : Int
  Off : Int
  Refs : Int
deriving DecidableEq
instance : En DAOpen := ⟨5, by omega, fun a => [.v (.bool a.Used), .v (iv a.Kind), .v (iv a.Target), .v (iv a.Off), .v (iv a.Refs)], fun _ => rfl, fun a => En.fit a.Used ∧ En.fit a.Kind ∧ En.fit a.Target ∧ En.fit a.Off ∧ En.fit a.Refs, ⟨false, 0, 0, 0, 0⟩⟩
@[go_sem] theorem cs_AOpen (a : DAOpen) : En.cs a = [.v (.bool a.Used), .v (iv a.Kind), .v (iv a.Target), .v (iv a.Off), .v (iv a.Refs)] := rfl
instance : Mk DAOpen := { wt := fun _ => 0, cnt := fun a => 1 + 1 + 1 + 1 + 1, mark := fun _ k => ⟨decide ((k).tmod 3 = 0), k + 1, k + 1 + 1, k + 1 + 1 + 1, k + 1 + 1 + 1 + 1⟩, cnt_mk := fun a k => by simp [Mk.cnt_mk] }
theorem cnt_AOpen (a : DAOpen) : Mk.cnt a = 1 + 1 + 1 + 1 + 1 := rfl
structure DARing where
  Used : Bool
  Buf : List Int
  Head : Int
  Len : Int
deriving DecidableEq
instance : En DARing := ⟨4, by omega, fun a => [.v (.bool a.Used), tr a.Buf, .v (iv a.Head), .v (iv a.Len)], fun _ => rfl, fun a => En.fit a.Used ∧ En.fit a.Buf ∧ En.fit a.Head ∧ En.fit a.Len, ⟨false, [], 0, 0⟩⟩
@[go_sem] theorem cs_ARing (a : DARing) : En.cs a = [.v (.bool a.Used), tr a.Buf, .v (iv a.Head), .v (iv a.Len)] := rfl
instance : Mk DARing := { wt := fun a => Mk.wt a.Buf, cnt := fun a => 1 + (Mk.cnt a.Buf) + 1 + 1, mark := fun a k => ⟨decide ((k).tmod 3 = 0), Mk.mark a.Buf (k + 1), k + 1 + (Mk.cnt a.Buf : Nat), k + 1 + (Mk.cnt a.Buf : Nat) + 1⟩, cnt_mk := fun a k => by simp [Mk.cnt_mk] }
theorem cnt_ARing (a : DARing) : Mk.cnt a = 1 + (Mk.cnt a.Buf) + 1 + 1 := rfl
structure DAFile where
  Used : Bool
  Data : List Int
deriving DecidableEq
instance : En DAFile := ⟨2, by omega, fun a => [.v (.bool a.Used), tr a.Data], fun _ => rfl, fun a => En.fit a.Used ∧ En.fit a.Data, ⟨false, []⟩⟩
@[go_sem] theorem cs_AFile (a : DAFile) : En.cs a = [.v (.bool a.Used), tr a.Data] := rfl
instance : Mk DAFile := { wt := fun a => Mk.wt a.Data, cnt := fun a => 1 + (Mk.cnt a.Data), mark := fun a k => ⟨decide ((k).tmod 3 = 0), Mk.mark a.Data (k + 1)⟩, cnt_mk := fun a k => by simp [Mk.cnt_mk] }
theorem cnt_AFile (a : DAFile) : Mk.cnt a = 1 + (Mk.cnt a.Data) := rfl
structure DArrays where
  Next : Int
  Tick : Int
  Progs : List (List DIns)
  Slots : List DASlot
  Ram : List Int
  Map : List Bool
  Opens : List DAOpen
  Pipes : List DARing
  Files : List DAFile
  Ready : DARing
  Out : List Int
deriving DecidableEq
instance : En DArrays := ⟨14, by omega, fun a => [.v (iv a.Next), .v (iv a.Tick), tr a.Progs, tr a.Slots, tr a.Ram, tr a.Map, tr a.Opens, tr a.Pipes, tr a.Files, .v (.bool a.Ready.Used), tr a.Ready.Buf, .v (iv a.Ready.Head), .v (iv a.Ready.Len), tr a.Out], fun _ => rfl, fun a => En.fit a.Next ∧ En.fit a.Tick ∧ En.fit a.Progs ∧ En.fit a.Slots ∧ En.fit a.Ram ∧ En.fit a.Map ∧ En.fit a.Opens ∧ En.fit a.Pipes ∧ En.fit a.Files ∧ En.fit a.Ready ∧ En.fit a.Out, ⟨0, 0, [], [], [], [], [], [], [], ⟨false, [], 0, 0⟩, []⟩⟩
@[go_sem] theorem cs_Arrays (a : DArrays) : En.cs a = [.v (iv a.Next), .v (iv a.Tick), tr a.Progs, tr a.Slots, tr a.Ram, tr a.Map, tr a.Opens, tr a.Pipes, tr a.Files, .v (.bool a.Ready.Used), tr a.Ready.Buf, .v (iv a.Ready.Head), .v (iv a.Ready.Len), tr a.Out] := rfl
instance : Mk DArrays := { wt := fun a => Mk.wt a.Progs + Mk.wt a.Slots + Mk.wt a.Ram + Mk.wt a.Map + Mk.wt a.Opens + Mk.wt a.Pipes + Mk.wt a.Files + Mk.wt a.Ready.Buf + Mk.wt a.Out, cnt := fun a => 1 + 1 + (Mk.cnt a.Progs) + (Mk.cnt a.Slots) + (Mk.cnt a.Ram) + (Mk.cnt a.Map) + (Mk.cnt a.Opens) + (Mk.cnt a.Pipes) + (Mk.cnt a.Files) + 1 + (Mk.cnt a.Ready.Buf) + 1 + 1 + (Mk.cnt a.Out), mark := fun a k => ⟨k, k + 1, Mk.mark a.Progs (k + 1 + 1), Mk.mark a.Slots (k + 1 + 1 + (Mk.cnt a.Progs : Nat)), Mk.mark a.Ram (k + 1 + 1 + (Mk.cnt a.Progs : Nat) + (Mk.cnt a.Slots : Nat)), Mk.mark a.Map (k + 1 + 1 + (Mk.cnt a.Progs : Nat) + (Mk.cnt a.Slots : Nat) + (Mk.cnt a.Ram : Nat)), Mk.mark a.Opens (k + 1 + 1 + (Mk.cnt a.Progs : Nat) + (Mk.cnt a.Slots : Nat) + (Mk.cnt a.Ram : Nat) + (Mk.cnt a.Map : Nat)), Mk.mark a.Pipes (k + 1 + 1 + (Mk.cnt a.Progs : Nat) + (Mk.cnt a.Slots : Nat) + (Mk.cnt a.Ram : Nat) + (Mk.cnt a.Map : Nat) + (Mk.cnt a.Opens : Nat)), Mk.mark a.Files (k + 1 + 1 + (Mk.cnt a.Progs : Nat) + (Mk.cnt a.Slots : Nat) + (Mk.cnt a.Ram : Nat) + (Mk.cnt a.Map : Nat) + (Mk.cnt a.Opens : Nat) + (Mk.cnt a.Pipes : Nat)), ⟨decide ((k + 1 + 1 + (Mk.cnt a.Progs : Nat) + (Mk.cnt a.Slots : Nat) + (Mk.cnt a.Ram : Nat) + (Mk.cnt a.Map : Nat) + (Mk.cnt a.Opens : Nat) + (Mk.cnt a.Pipes : Nat) + (Mk.cnt a.Files : Nat)).tmod 3 = 0), Mk.mark a.Ready.Buf (k + 1 + 1 + (Mk.cnt a.Progs : Nat) + (Mk.cnt a.Slots : Nat) + (Mk.cnt a.Ram : Nat) + (Mk.cnt a.Map : Nat) + (Mk.cnt a.Opens : Nat) + (Mk.cnt a.Pipes : Nat) + (Mk.cnt a.Files : Nat) + 1), k + 1 + 1 + (Mk.cnt a.Progs : Nat) + (Mk.cnt a.Slots : Nat) + (Mk.cnt a.Ram : Nat) + (Mk.cnt a.Map : Nat) + (Mk.cnt a.Opens : Nat) + (Mk.cnt a.Pipes : Nat) + (Mk.cnt a.Files : Nat) + 1 + (Mk.cnt a.Ready.Buf : Nat), k + 1 + 1 + (Mk.cnt a.Progs : Nat) + (Mk.cnt a.Slots : Nat) + (Mk.cnt a.Ram : Nat) + (Mk.cnt a.Map : Nat) + (Mk.cnt a.Opens : Nat) + (Mk.cnt a.Pipes : Nat) + (Mk.cnt a.Files : Nat) + 1 + (Mk.cnt a.Ready.Buf : Nat) + 1⟩, Mk.mark a.Out (k + 1 + 1 + (Mk.cnt a.Progs : Nat) + (Mk.cnt a.Slots : Nat) + (Mk.cnt a.Ram : Nat) + (Mk.cnt a.Map : Nat) + (Mk.cnt a.Opens : Nat) + (Mk.cnt a.Pipes : Nat) + (Mk.cnt a.Files : Nat) + 1 + (Mk.cnt a.Ready.Buf : Nat) + 1 + 1)⟩, cnt_mk := fun a k => by simp [Mk.cnt_mk] }
theorem cnt_Arrays (a : DArrays) : Mk.cnt a = 1 + 1 + (Mk.cnt a.Progs) + (Mk.cnt a.Slots) + (Mk.cnt a.Ram) + (Mk.cnt a.Map) + (Mk.cnt a.Opens) + (Mk.cnt a.Pipes) + (Mk.cnt a.Files) + 1 + (Mk.cnt a.Ready.Buf) + 1 + 1 + (Mk.cnt a.Out) := rfl
set_option maxHeartbeats 8000000 in
set_option maxRecDepth 10000 in
theorem szInsS_con (a : List DIns) (left : Int) (h1 : -1 ≤ left) (h2 : left ≤ 1048576) : Con Try.prog 73 [.h base [], .v (iv left)] [.rt base .ro (tr a)] (fun y _ => y = .v (iv (szd (Mk.wt a) left))) := by
  refine Con.of_body Try.func73 rfl (by simp) ?_
  rw [Try.ntmps73]
  have hw : Mk.wt a = a.length := by rw [wt_list, wtL_zero (w := Mk.wt) (fun _ => rfl)]; rfl
  refine AW.len base [] rfl (by simp [Okp]) rfl (fun hl => ?_)
  refine AW.seq ?_
  refine AW.region ?_
  refine AWL.q rfl rfl rfl (by decide) Qt.assign ?_
  refine AWL.nilE (by simp only [go_sem, Int.reduceToNat, Nat.reduceLT, reduceIte, Nat.reduceEqDiff, Nat.reduceAdd, Nat.reduceMul, Nat.reduceBEq, reduceCtorEq]; rfl) ?_
  try dsimp only [thenQ, blockQ]
  refine AW.seq ?_
  refine AW.region ?_
  refine AWL.q rfl rfl rfl (by decide) Qt.move ?_
  refine AWL.q rfl rfl rfl (by decide) Qt.move ?_
  refine AWL.nrm (by simp only [go_sem, Int.reduceToNat, Nat.reduceLT, reduceIte, Nat.reduceEqDiff, Nat.reduceAdd, Nat.reduceMul, Nat.reduceBEq, reduceCtorEq]; rfl) ?_
  refine AWL.q rfl rfl rfl (by decide) (Qt.lenH rfl rfl rfl sl134) ?_
  refine AWL.q rfl rfl rfl (by decide) (Qt.binOp rfl rfl (by first | exact pbSub (by omega) | rfl)) ?_
  refine AWL.q rfl rfl rfl (by decide) Qt.assign ?_
  refine AWL.nilE (by simp only [go_sem, Int.reduceToNat, Nat.reduceLT, reduceIte, Nat.reduceEqDiff, Nat.reduceAdd, Nat.reduceMul, Nat.reduceBEq, reduceCtorEq]; rfl) ?_
  try dsimp only [thenQ, blockQ]
  refine AW.seq ?_
  refine AW.seq ?_
  refine AW.region ?_
  refine AWL.q rfl rfl rfl (by decide) Qt.move ?_
  refine AWL.nrm (by simp only [go_sem, Int.reduceToNat, Nat.reduceLT, reduceIte, Nat.reduceEqDiff, Nat.reduceAdd, Nat.reduceMul, Nat.reduceBEq, reduceCtorEq]; rfl) ?_
  refine AWL.q rfl rfl rfl (by decide) (Qt.binOp rfl rfl rfl) ?_
  refine AWL.nilE (by simp only [go_sem, Int.reduceToNat, Nat.reduceLT, reduceIte, Nat.reduceEqDiff, Nat.reduceAdd, Nat.reduceMul, Nat.reduceBEq, reduceCtorEq]; rfl) ?_
  try dsimp only [thenQ, blockQ]
  refine AW.cond rfl (fun c1 => ?_) (fun c1 => ?_)
  · have k1 := c1
    try simp only [decide_eq_true_eq, decide_eq_false_iff_not, bne_iff_ne, ne_eq, beq_iff_eq, beq_eq_false_iff_ne, bne_eq_false_iff_eq, Bool.not_eq_true', Bool.not_eq_false', Bool.and_eq_true, Bool.or_eq_true, Bool.and_eq_false_iff, Bool.or_eq_false_iff, Int.not_lt, Int.not_le, Int.toNat_natCast] at c1
    refine AW.seq ?_
    refine AW.region ?_
    refine AWL.q rfl rfl rfl (by decide) Qt.assign ?_
    refine AWL.nilE (by simp only [go_sem, Int.reduceToNat, Nat.reduceLT, reduceIte, Nat.reduceEqDiff, Nat.reduceAdd, Nat.reduceMul, Nat.reduceBEq, reduceCtorEq]; rfl) ?_
    try dsimp only [thenQ, blockQ]
    refine AW.ret ?_
    try dsimp only [thenQ, blockQ]
    refine endQ_ret (.cons (.tmp 4) .nil) ?_
    simp only [retX, slotL, reduceIte, Nat.reduceEqDiff, szd, hw]
    congr 2
    omega
  · have k1 := c1
    try simp only [decide_eq_true_eq, decide_eq_false_iff_not, bne_iff_ne, ne_eq, beq_iff_eq, beq_eq_false_iff_ne, bne_eq_false_iff_eq, Bool.not_eq_true', Bool.not_eq_false', Bool.and_eq_true, Bool.or_eq_true, Bool.and_eq_false_iff, Bool.or_eq_false_iff, Int.not_lt, Int.not_le, Int.toNat_natCast] at c1
    refine AW.skip ?_
    dsimp only [thenQ, blockQ]
    refine AW.seq ?_
    refine AW.region ?_
    refine AWL.q rfl rfl rfl (by decide) Qt.move ?_
    refine AWL.nrm (by simp only [go_sem, Int.reduceToNat, Nat.reduceLT, reduceIte, Nat.reduceEqDiff, Nat.reduceAdd, Nat.reduceMul, Nat.reduceBEq, reduceCtorEq]; rfl) ?_
    refine AWL.q rfl rfl rfl (by decide) Qt.assign ?_
    refine AWL.nilE (by simp only [go_sem, Int.reduceToNat, Nat.reduceLT, reduceIte, Nat.reduceEqDiff, Nat.reduceAdd, Nat.reduceMul, Nat.reduceBEq, reduceCtorEq]; rfl) ?_
    try dsimp only [thenQ, blockQ]
    refine AW.ret ?_
    try dsimp only [thenQ, blockQ]
    refine endQ_ret (.cons (.tmp 4) .nil) ?_
    simp only [retX, slotL, reduceIte, Nat.reduceEqDiff, szd, hw]
    congr 2
    omega
set_option maxHeartbeats 8000000 in
set_option maxRecDepth 10000 in
theorem szInsSS_con (a : List (List DIns)) (left : Int) (h1 : -1 ≤ left) (h2 : left ≤ 1048576) : Con Try.prog 18 [.h base [], .v (iv left)] [.rt base .ro (tr a)] (fun y _ => y = .v (iv (szd (Mk.wt a) left))) := by
  refine Con.of_body Try.func18 rfl (by simp) ?_
  rw [Try.ntmps18]
  have hw : Mk.wt a = a.length + wtL Mk.wt a := rfl
  refine AW.len base [] rfl (by simp [Okp]) rfl (fun hl => ?_)
  refine AW.seq ?_
  refine AW.region ?_
  refine AWL.q rfl rfl rfl (by decide) Qt.assign ?_
  refine AWL.nilE (by simp only [go_sem, Int.reduceToNat, Nat.reduceLT, reduceIte, Nat.reduceEqDiff, Nat.reduceAdd, Nat.reduceMul, Nat.reduceBEq, reduceCtorEq]; rfl) ?_
  try dsimp only [thenQ, blockQ]
  refine AW.seq ?_
  refine AW.region ?_
  refine AWL.q rfl rfl rfl (by decide) Qt.move ?_
  refine AWL.q rfl rfl rfl (by decide) Qt.move ?_
  refine AWL.nrm (by simp only [go_sem, Int.reduceToNat, Nat.reduceLT, reduceIte, Nat.reduceEqDiff, Nat.reduceAdd, Nat.reduceMul, Nat.reduceBEq, reduceCtorEq]; rfl) ?_
  refine AWL.q rfl rfl rfl (by decide) (Qt.lenH rfl rfl rfl sl22) ?_
  refine AWL.q rfl rfl rfl (by decide) (Qt.binOp rfl rfl (by first | exact pbSub (by omega) | rfl)) ?_
  refine AWL.q rfl rfl rfl (by decide) Qt.assign ?_
  refine AWL.nilE (by simp only [go_sem, Int.reduceToNat, Nat.reduceLT, reduceIte, Nat.reduceEqDiff, Nat.reduceAdd, Nat.reduceMul, Nat.reduceBEq, reduceCtorEq]; rfl) ?_
  try dsimp only [thenQ, blockQ]
  refine AW.seq ?_
  refine AW.seq ?_
  refine AW.region ?_
  refine AWL.q rfl rfl rfl (by decide) Qt.move ?_
  refine AWL.nrm (by simp only [go_sem, Int.reduceToNat, Nat.reduceLT, reduceIte, Nat.reduceEqDiff, Nat.reduceAdd, Nat.reduceMul, Nat.reduceBEq, reduceCtorEq]; rfl) ?_
  refine AWL.q rfl rfl rfl (by decide) (Qt.binOp rfl rfl rfl) ?_
  refine AWL.nilE (by simp only [go_sem, Int.reduceToNat, Nat.reduceLT, reduceIte, Nat.reduceEqDiff, Nat.reduceAdd, Nat.reduceMul, Nat.reduceBEq, reduceCtorEq]; rfl) ?_
  try dsimp only [thenQ, blockQ]
  refine AW.cond rfl (fun c1 => ?_) (fun c1 => ?_)
  · have k1 := c1
    try simp only [decide_eq_true_eq, decide_eq_false_iff_not, bne_iff_ne, ne_eq, beq_iff_eq, beq_eq_false_iff_ne, bne_eq_false_iff_eq, Bool.not_eq_true', Bool.not_eq_false', Bool.and_eq_true, Bool.or_eq_true, Bool.and_eq_false_iff, Bool.or_eq_false_iff, Int.not_lt, Int.not_le, Int.toNat_natCast] at c1
    refine AW.seq ?_
    refine AW.region ?_
    refine AWL.q rfl rfl rfl (by decide) Qt.assign ?_
    refine AWL.nilE (by simp only [go_sem, Int.reduceToNat, Nat.reduceLT, reduceIte, Nat.reduceEqDiff, Nat.reduceAdd, Nat.reduceMul, Nat.reduceBEq, reduceCtorEq]; rfl) ?_
    try dsimp only [thenQ, blockQ]
    refine AW.ret ?_
    try dsimp only [thenQ, blockQ]
    refine endQ_ret (.cons (.tmp 4) .nil) ?_
    simp only [retX, slotL, reduceIte, Nat.reduceEqDiff]
    try have hi0 := i.nn
    have hcw := cumN_wt a
    have hz := szd_cases (Mk.wt a) left
    try have hce : cumN Mk.wt En.dflt a i.k = cumN Mk.wt En.dflt a a.length := by rw [show i.k = a.length by omega]
    congr 2
    omega
  · have k1 := c1
    try simp only [decide_eq_true_eq, decide_eq_false_iff_not, bne_iff_ne, ne_eq, beq_iff_eq, beq_eq_false_iff_ne, bne_eq_false_iff_eq, Bool.not_eq_true', Bool.not_eq_false', Bool.and_eq_true, Bool.or_eq_true, Bool.and_eq_false_iff, Bool.or_eq_false_iff, Int.not_lt, Int.not_le, Int.toNat_natCast] at c1
    refine AW.skip ?_
    dsimp only [thenQ, blockQ]
    refine AW.seq ?_
    refine AW.seq ?_
    refine AW.region ?_
    refine AWL.q rfl rfl rfl (by decide) Qt.assign ?_
    refine AWL.nilE (by simp only [go_sem, Int.reduceToNat, Nat.reduceLT, reduceIte, Nat.reduceEqDiff, Nat.reduceAdd, Nat.reduceMul, Nat.reduceBEq, reduceCtorEq]; rfl) ?_
    try dsimp only [thenQ, blockQ]
    refine AW.block ?_
    refine AW.weak (L' := [.sl 5 (.v (iv (0 : Nat))), .sl 1 (.v (iv (left - a.length - (cumN Mk.wt En.dflt a 0 : Nat)))), .sl 0 (.h base []), .rt base .ro (tr a)]) (Weak.sim ⟨rfl, (by simp only [slotL, reduceIte, Nat.reduceEqDiff]; show X.v (iv (left - a.length)) = _; simp [cumN]), rfl, ⟨_, rfl, T.sim_refl _⟩, trivial⟩ rfl rfl) ?_
    refine AW.loop (fun i : SzInv left a => [.sl 5 (.v (iv i.k)), .sl 1 (.v (iv (left - a.length - (cumN Mk.wt En.dflt a i.k : Nat)))), .sl 0 (.h base []), .rt base .ro (tr a)]) (fun i => a.length - i.k) ⟨0, Nat.zero_le _, by simp only [cumN]; omega⟩ ?_
    intro i
    have hle := i.le
    refine AW.seq ?_
    refine AW.seq ?_
    refine AW.region ?_
    refine AWL.q rfl rfl rfl (by decide) Qt.move ?_
    refine AWL.nrm (by simp only [go_sem, Int.reduceToNat, Nat.reduceLT, reduceIte, Nat.reduceEqDiff, Nat.reduceAdd, Nat.reduceMul, Nat.reduceBEq, reduceCtorEq]; rfl) ?_
    refine AWL.q rfl rfl rfl (by decide) Qt.move ?_
    refine AWL.q rfl rfl rfl (by decide) (Qt.lenH rfl rfl rfl sl22) ?_
    refine AWL.q rfl rfl rfl (by decide) (Qt.binOp rfl rfl rfl) ?_
    refine AWL.nilE (by simp only [go_sem, Int.reduceToNat, Nat.reduceLT, reduceIte, Nat.reduceEqDiff, Nat.reduceAdd, Nat.reduceMul, Nat.reduceBEq, reduceCtorEq]; rfl) ?_
    try dsimp only [thenQ, blockQ]
    refine AW.cond rfl (fun c2 => ?_) (fun c2 => ?_)
    · have k2 := c2
      try simp only [decide_eq_true_eq, decide_eq_false_iff_not, bne_iff_ne, ne_eq, beq_iff_eq, beq_eq_false_iff_ne, bne_eq_false_iff_eq, Bool.not_eq_true', Bool.not_eq_false', Bool.and_eq_true, Bool.or_eq_true, Bool.and_eq_false_iff, Bool.or_eq_false_iff, Int.not_lt, Int.not_le, Int.toNat_natCast] at c2
      have hi0 := i.nn
      have hcw := cumN_wt a
      have hc1 := cumN_mono (c := Mk.wt) (d := En.dflt) (l := a) (show i.k + 1 ≤ a.length by omega)
      simp only [cumN] at hc1
      have hz2 := szd_cases (Mk.wt (a.getD i.k En.dflt)) (left - a.length - (cumN Mk.wt En.dflt a i.k : Nat))
      refine AW.skip ?_
      dsimp only [thenQ, blockQ]
      refine AW.seq ?_
      refine AW.block ?_
      refine AW.seq ?_
      refine AW.region ?_
      refine AWL.q rfl rfl rfl (by decide) Qt.move ?_
      refine AWL.nrm (by simp only [go_sem, Int.reduceToNat, Nat.reduceLT, reduceIte, Nat.reduceEqDiff, Nat.reduceAdd, Nat.reduceMul, Nat.reduceBEq, reduceCtorEq]; rfl) ?_
      refine AWL.q rfl rfl rfl (by decide) Qt.move ?_
      refine AWL.q rfl rfl rfl (by decide) (Qt.indexAddr rfl rfl rfl rfl sl22 sz134 (by decide) (by omega)) ?_
      refine AWL.q rfl rfl rfl (by decide) (Qt.load1 rfl rfl rfl ag134) ?_
      refine AWL.nrm (by simp only [go_sem, Int.reduceToNat, Nat.reduceLT, reduceIte, Nat.reduceEqDiff, Nat.reduceAdd, Nat.reduceMul, Nat.reduceBEq, reduceCtorEq]; rfl) ?_
      refine AWL.q rfl rfl rfl (by decide) Qt.move ?_
      refine AWL.step rfl rfl (Stp.callV rfl (by decide) Try.call73 rfl rfl (szInsS_con _ _ (by first | omega | (repeat (first | omega | apply szd_lo))) (by first | omega | (repeat (first | omega | apply szd_hi))))) ?_
      refine AWL.nrm (by simp only [go_sem, Int.reduceToNat, Nat.reduceLT, reduceIte, Nat.reduceEqDiff, Nat.reduceAdd, Nat.reduceMul, Nat.reduceBEq, reduceCtorEq]; rfl) ?_
      refine AWL.q rfl rfl rfl (by decide) Qt.assign ?_
      refine AWL.nilE (by simp only [go_sem, Int.reduceToNat, Nat.reduceLT, reduceIte, Nat.reduceEqDiff, Nat.reduceAdd, Nat.reduceMul, Nat.reduceBEq, reduceCtorEq]; rfl) ?_
      try dsimp only [thenQ, blockQ]
      refine AW.seq ?_
      refine AW.region ?_
      refine AWL.q rfl rfl rfl (by decide) Qt.move ?_
      refine AWL.q rfl rfl rfl (by decide) (Qt.binOp rfl rfl rfl) ?_
      refine AWL.nilE (by simp only [go_sem, Int.reduceToNat, Nat.reduceLT, reduceIte, Nat.reduceEqDiff, Nat.reduceAdd, Nat.reduceMul, Nat.reduceBEq, reduceCtorEq]; rfl) ?_
      try dsimp only [thenQ, blockQ]
      refine AW.cond rfl (fun c3 => ?_) (fun c3 => ?_)
      · have k3 := c3
        try simp only [decide_eq_true_eq, decide_eq_false_iff_not, bne_iff_ne, ne_eq, beq_iff_eq, beq_eq_false_iff_ne, bne_eq_false_iff_eq, Bool.not_eq_true', Bool.not_eq_false', Bool.and_eq_true, Bool.or_eq_true, Bool.and_eq_false_iff, Bool.or_eq_false_iff, Int.not_lt, Int.not_le, Int.toNat_natCast] at c3
        refine AW.seq ?_
        refine AW.region ?_
        refine AWL.q rfl rfl rfl (by decide) Qt.assign ?_
        refine AWL.nilE (by simp only [go_sem, Int.reduceToNat, Nat.reduceLT, reduceIte, Nat.reduceEqDiff, Nat.reduceAdd, Nat.reduceMul, Nat.reduceBEq, reduceCtorEq]; rfl) ?_
        try dsimp only [thenQ, blockQ]
        refine AW.ret ?_
        try dsimp only [thenQ, blockQ]
        refine endQ_ret (.cons (.tmp 4) .nil) ?_
        simp only [retX, slotL, reduceIte, Nat.reduceEqDiff]
        try have hi0 := i.nn
        have hcw := cumN_wt a
        have hz := szd_cases (Mk.wt a) left
        try have hce : cumN Mk.wt En.dflt a i.k = cumN Mk.wt En.dflt a a.length := by rw [show i.k = a.length by omega]
        congr 2
        omega
      · have k3 := c3
        try simp only [decide_eq_true_eq, decide_eq_false_iff_not, bne_iff_ne, ne_eq, beq_iff_eq, beq_eq_false_iff_ne, bne_eq_false_iff_eq, Bool.not_eq_true', Bool.not_eq_false', Bool.and_eq_true, Bool.or_eq_true, Bool.and_eq_false_iff, Bool.or_eq_false_iff, Int.not_lt, Int.not_le, Int.toNat_natCast] at c3
        refine AW.skip ?_
        dsimp only [thenQ, blockQ]
        refine AW.region ?_
        refine AWL.q rfl rfl rfl (by decide) Qt.move ?_
        refine AWL.nrm (by simp only [go_sem, Int.reduceToNat, Nat.reduceLT, reduceIte, Nat.reduceEqDiff, Nat.reduceAdd, Nat.reduceMul, Nat.reduceBEq, reduceCtorEq]; rfl) ?_
        refine AWL.q rfl rfl rfl (by decide) (Qt.binOp rfl rfl (by first | exact pbAdd (by omega) | rfl)) ?_
        refine AWL.q rfl rfl rfl (by decide) Qt.assign ?_
        refine AWL.nilE (by simp only [go_sem, Int.reduceToNat, Nat.reduceLT, reduceIte, Nat.reduceEqDiff, Nat.reduceAdd, Nat.reduceMul, Nat.reduceBEq, reduceCtorEq]; rfl) ?_
        try dsimp only [thenQ, blockQ]
        refine ⟨⟨i.k + 1, by omega, by simp only [cumN]; omega⟩, Weak.sim ⟨(by simp only [slotL, reduceIte, Nat.reduceEqDiff]; first | rfl | (rw [IntWalk.i64_in _ (by omega)]; rfl)), (by simp only [slotL, reduceIte, Nat.reduceEqDiff]; congr 2; simp only [cumN]; omega), rfl, ⟨_, rfl, T.sim_refl _⟩, trivial⟩ rfl rfl, ?_⟩
        show a.length - (i.k + 1) < a.length - i.k
        omega
    · have k2 := c2
      try simp only [decide_eq_true_eq, decide_eq_false_iff_not, bne_iff_ne, ne_eq, beq_iff_eq, beq_eq_false_iff_ne, bne_eq_false_iff_eq, Bool.not_eq_true', Bool.not_eq_false', Bool.and_eq_true, Bool.or_eq_true, Bool.and_eq_false_iff, Bool.or_eq_false_iff, Int.not_lt, Int.not_le, Int.toNat_natCast] at c2
      refine AW.exit ?_
      dsimp only [thenQ, blockQ, reduceIte]
      refine AW.seq ?_
      refine AW.region ?_
      refine AWL.q rfl rfl rfl (by decide) Qt.move ?_
      refine AWL.nrm (by simp only [go_sem, Int.reduceToNat, Nat.reduceLT, reduceIte, Nat.reduceEqDiff, Nat.reduceAdd, Nat.reduceMul, Nat.reduceBEq, reduceCtorEq]; rfl) ?_
      refine AWL.q rfl rfl rfl (by decide) Qt.assign ?_
      refine AWL.nilE (by simp only [go_sem, Int.reduceToNat, Nat.reduceLT, reduceIte, Nat.reduceEqDiff, Nat.reduceAdd, Nat.reduceMul, Nat.reduceBEq, reduceCtorEq]; rfl) ?_
      try dsimp only [thenQ, blockQ]
      refine AW.ret ?_
      try dsimp only [thenQ, blockQ]
      refine endQ_ret (.cons (.tmp 4) .nil) ?_
      simp only [retX, slotL, reduceIte, Nat.reduceEqDiff]
      try have hi0 := i.nn
      have hcw := cumN_wt a
      have hz := szd_cases (Mk.wt a) left
      try have hce : cumN Mk.wt En.dflt a i.k = cumN Mk.wt En.dflt a a.length := by rw [show i.k = a.length by omega]
      congr 2
      omega
set_option maxHeartbeats 8000000 in
set_option maxRecDepth 10000 in
theorem szIntS_con (a : List Int) (left : Int) (h1 : -1 ≤ left) (h2 : left ≤ 1048576) : Con Try.prog 37 [.h base [], .v (iv left)] [.rt base .ro (tr a)] (fun y _ => y = .v (iv (szd (Mk.wt a) left))) := by
  refine Con.of_body Try.func37 rfl (by simp) ?_
  rw [Try.ntmps37]
  have hw : Mk.wt a = a.length := by rw [wt_list, wtL_zero (w := Mk.wt) (fun _ => rfl)]; rfl
  refine AW.len base [] rfl (by simp [Okp]) rfl (fun hl => ?_)
  refine AW.seq ?_
  refine AW.region ?_
  refine AWL.q rfl rfl rfl (by decide) Qt.assign ?_
  refine AWL.nilE (by simp only [go_sem, Int.reduceToNat, Nat.reduceLT, reduceIte, Nat.reduceEqDiff, Nat.reduceAdd, Nat.reduceMul, Nat.reduceBEq, reduceCtorEq]; rfl) ?_
  try dsimp only [thenQ, blockQ]
  refine AW.seq ?_
  refine AW.region ?_
  refine AWL.q rfl rfl rfl (by decide) Qt.move ?_
  refine AWL.q rfl rfl rfl (by decide) Qt.move ?_
  refine AWL.nrm (by simp only [go_sem, Int.reduceToNat, Nat.reduceLT, reduceIte, Nat.reduceEqDiff, Nat.reduceAdd, Nat.reduceMul, Nat.reduceBEq, reduceCtorEq]; rfl) ?_
  refine AWL.q rfl rfl rfl (by decide) (Qt.lenH rfl rfl rfl sl24) ?_
  refine AWL.q rfl rfl rfl (by decide) (Qt.binOp rfl rfl (by first | exact pbSub (by omega) | rfl)) ?_
  refine AWL.q rfl rfl rfl (by decide) Qt.assign ?_
  refine AWL.nilE (by simp only [go_sem, Int.reduceToNat, Nat.reduceLT, reduceIte, Nat.reduceEqDiff, Nat.reduceAdd, Nat.reduceMul, Nat.reduceBEq, reduceCtorEq]; rfl) ?_
  try dsimp only [thenQ, blockQ]
  refine AW.seq ?_
  refine AW.seq ?_
  refine AW.region ?_
  refine AWL.q rfl rfl rfl (by decide) Qt.move ?_
  refine AWL.nrm (by simp only [go_sem, Int.reduceToNat, Nat.reduceLT, reduceIte, Nat.reduceEqDiff, Nat.reduceAdd, Nat.reduceMul, Nat.reduceBEq, reduceCtorEq]; rfl) ?_
  refine AWL.q rfl rfl rfl (by decide) (Qt.binOp rfl rfl rfl) ?_
  refine AWL.nilE (by simp only [go_sem, Int.reduceToNat, Nat.reduceLT, reduceIte, Nat.reduceEqDiff, Nat.reduceAdd, Nat.reduceMul, Nat.reduceBEq, reduceCtorEq]; rfl) ?_
  try dsimp only [thenQ, blockQ]
  refine AW.cond rfl (fun c1 => ?_) (fun c1 => ?_)
  · have k1 := c1
    try simp only [decide_eq_true_eq, decide_eq_false_iff_not, bne_iff_ne, ne_eq, beq_iff_eq, beq_eq_false_iff_ne, bne_eq_false_iff_eq, Bool.not_eq_true', Bool.not_eq_false', Bool.and_eq_true, Bool.or_eq_true, Bool.and_eq_false_iff, Bool.or_eq_false_iff, Int.not_lt, Int.not_le, Int.toNat_natCast] at c1
    refine AW.seq ?_
    refine AW.region ?_
    refine AWL.q rfl rfl rfl (by decide) Qt.assign ?_
    refine AWL.nilE (by simp only [go_sem, Int.reduceToNat, Nat.reduceLT, reduceIte, Nat.reduceEqDiff, Nat.reduceAdd, Nat.reduceMul, Nat.reduceBEq, reduceCtorEq]; rfl) ?_
    try dsimp only [thenQ, blockQ]
    refine AW.ret ?_
    try dsimp only [thenQ, blockQ]
    refine endQ_ret (.cons (.tmp 4) .nil) ?_
    simp only [retX, slotL, reduceIte, Nat.reduceEqDiff, szd, hw]
    congr 2
    omega
  · have k1 := c1
    try simp only [decide_eq_true_eq, decide_eq_false_iff_not, bne_iff_ne, ne_eq, beq_iff_eq, beq_eq_false_iff_ne, bne_eq_false_iff_eq, Bool.not_eq_true', Bool.not_eq_false', Bool.and_eq_true, Bool.or_eq_true, Bool.and_eq_false_iff, Bool.or_eq_false_iff, Int.not_lt, Int.not_le, Int.toNat_natCast] at c1
    refine AW.skip ?_
    dsimp only [thenQ, blockQ]
    refine AW.seq ?_
    refine AW.region ?_
    refine AWL.q rfl rfl rfl (by decide) Qt.move ?_
    refine AWL.nrm (by simp only [go_sem, Int.reduceToNat, Nat.reduceLT, reduceIte, Nat.reduceEqDiff, Nat.reduceAdd, Nat.reduceMul, Nat.reduceBEq, reduceCtorEq]; rfl) ?_
    refine AWL.q rfl rfl rfl (by decide) Qt.assign ?_
    refine AWL.nilE (by simp only [go_sem, Int.reduceToNat, Nat.reduceLT, reduceIte, Nat.reduceEqDiff, Nat.reduceAdd, Nat.reduceMul, Nat.reduceBEq, reduceCtorEq]; rfl) ?_
    try dsimp only [thenQ, blockQ]
    refine AW.ret ?_
    try dsimp only [thenQ, blockQ]
    refine endQ_ret (.cons (.tmp 4) .nil) ?_
    simp only [retX, slotL, reduceIte, Nat.reduceEqDiff, szd, hw]
    congr 2
    omega
set_option maxHeartbeats 8000000 in
set_option maxRecDepth 10000 in
theorem szASlot_con (a : DASlot) (left : Int) (h1 : -1 ≤ left) (h2 : left ≤ 1048576) : Con Try.prog 137 [.g [.v (.bool a.Used), .v (iv a.Pid), .v (iv a.Parent), .v (iv a.State), .v (iv a.Prog), .v (iv a.Pc), .v (iv a.Until), .v (iv a.Code), .h base [], .h (base + 1) [], .h (base + 2) []], .v (iv left)] [.rt base .ro (tr a.Regs), .rt (base + 1) .ro (tr a.Pt), .rt (base + 2) .ro (tr a.Fds)] (fun y _ => y = .v (iv (szd (Mk.wt a) left))) := by
  refine Con.of_body Try.func137 rfl (by simp) ?_
  rw [Try.ntmps137]
  refine AW.seq ?_
  refine AW.region ?_
  refine AWL.step rfl rfl (Stp.boxB rfl (by decide) (by decide) rfl rfl rfl rfl) ?_
  refine AWL.nrm (by simp only [go_sem, Int.reduceToNat, Nat.reduceLT, reduceIte, Nat.reduceEqDiff, Nat.reduceAdd, Nat.reduceMul, Nat.reduceBEq, reduceCtorEq]; rfl) ?_
  refine AWL.q rfl rfl rfl (by decide) Qt.assign ?_
  refine AWL.nilE (by simp only [go_sem, Int.reduceToNat, Nat.reduceLT, reduceIte, Nat.reduceEqDiff, Nat.reduceAdd, Nat.reduceMul, Nat.reduceBEq, reduceCtorEq]; rfl) ?_
  try dsimp only [thenQ, blockQ]
  refine AW.seq ?_
  refine AW.region ?_
  refine AWL.q rfl rfl rfl (by decide) (Qt.fieldAddr rfl fl193_8 rfl rfl (by decide)) ?_
  refine AWL.q rfl rfl rfl (by decide) (Qt.load1 rfl rfl rfl ag24) ?_
  refine AWL.nrm (by simp only [go_sem, Int.reduceToNat, Nat.reduceLT, reduceIte, Nat.reduceEqDiff, Nat.reduceAdd, Nat.reduceMul, Nat.reduceBEq, reduceCtorEq]; rfl) ?_
  refine AWL.q rfl rfl rfl (by decide) Qt.move ?_
  refine AWL.step rfl rfl (Stp.callV rfl (by decide) Try.call37 rfl rfl (szIntS_con _ _ (by first | omega | (repeat (first | omega | apply szd_lo))) (by first | omega | (repeat (first | omega | apply szd_hi))))) ?_
  refine AWL.nrm (by simp only [go_sem, Int.reduceToNat, Nat.reduceLT, reduceIte, Nat.reduceEqDiff, Nat.reduceAdd, Nat.reduceMul, Nat.reduceBEq, reduceCtorEq]; rfl) ?_
  refine AWL.q rfl rfl rfl (by decide) Qt.assign ?_
  refine AWL.nilE (by simp only [go_sem, Int.reduceToNat, Nat.reduceLT, reduceIte, Nat.reduceEqDiff, Nat.reduceAdd, Nat.reduceMul, Nat.reduceBEq, reduceCtorEq]; rfl) ?_
  try dsimp only [thenQ, blockQ]
  refine AW.seq ?_
  refine AW.seq ?_
  refine AW.region ?_
  refine AWL.q rfl rfl rfl (by decide) Qt.move ?_
  refine AWL.q rfl rfl rfl (by decide) (Qt.binOp rfl rfl rfl) ?_
  refine AWL.nilE (by simp only [go_sem, Int.reduceToNat, Nat.reduceLT, reduceIte, Nat.reduceEqDiff, Nat.reduceAdd, Nat.reduceMul, Nat.reduceBEq, reduceCtorEq]; rfl) ?_
  try dsimp only [thenQ, blockQ]
  refine AW.cond rfl (fun c1 => ?_) (fun c1 => ?_)
  · have k1 := c1
    try simp only [decide_eq_true_eq, decide_eq_false_iff_not, bne_iff_ne, ne_eq, beq_iff_eq, beq_eq_false_iff_ne, bne_eq_false_iff_eq, Bool.not_eq_true', Bool.not_eq_false', Bool.and_eq_true, Bool.or_eq_true, Bool.and_eq_false_iff, Bool.or_eq_false_iff, Int.not_lt, Int.not_le, Int.toNat_natCast] at c1
    refine AW.seq ?_
    refine AW.region ?_
    refine AWL.q rfl rfl rfl (by decide) Qt.assign ?_
    refine AWL.nilE (by simp only [go_sem, Int.reduceToNat, Nat.reduceLT, reduceIte, Nat.reduceEqDiff, Nat.reduceAdd, Nat.reduceMul, Nat.reduceBEq, reduceCtorEq]; rfl) ?_
    try dsimp only [thenQ, blockQ]
    refine AW.ret ?_
    try dsimp only [thenQ, blockQ]
    refine endQ_ret (.cons (.tmp 4) .nil) ?_
    simp only [retX, slotL, reduceIte, Nat.reduceEqDiff]
    first | rfl | (congr 2; simp only [szd, Mk.wt] at *; omega)
  · have k1 := c1
    try simp only [decide_eq_true_eq, decide_eq_false_iff_not, bne_iff_ne, ne_eq, beq_iff_eq, beq_eq_false_iff_ne, bne_eq_false_iff_eq, Bool.not_eq_true', Bool.not_eq_false', Bool.and_eq_true, Bool.or_eq_true, Bool.and_eq_false_iff, Bool.or_eq_false_iff, Int.not_lt, Int.not_le, Int.toNat_natCast] at c1
    refine AW.skip ?_
    dsimp only [thenQ, blockQ]
    refine AW.seq ?_
    refine AW.region ?_
    refine AWL.q rfl rfl rfl (by decide) (Qt.fieldAddr rfl fl193_9 rfl rfl (by decide)) ?_
    refine AWL.nrm (by simp only [go_sem, Int.reduceToNat, Nat.reduceLT, reduceIte, Nat.reduceEqDiff, Nat.reduceAdd, Nat.reduceMul, Nat.reduceBEq, reduceCtorEq]; rfl) ?_
    refine AWL.q rfl rfl rfl (by decide) (Qt.load1 rfl rfl rfl ag24) ?_
    refine AWL.q rfl rfl rfl (by decide) Qt.move ?_
    refine AWL.step rfl rfl (Stp.callV rfl (by decide) Try.call37 rfl rfl (szIntS_con _ _ (by first | omega | (repeat (first | omega | apply szd_lo))) (by first | omega | (repeat (first | omega | apply szd_hi))))) ?_
    refine AWL.nrm (by simp only [go_sem, Int.reduceToNat, Nat.reduceLT, reduceIte, Nat.reduceEqDiff, Nat.reduceAdd, Nat.reduceMul, Nat.reduceBEq, reduceCtorEq]; rfl) ?_
    refine AWL.q rfl rfl rfl (by decide) Qt.assign ?_
    refine AWL.nilE (by simp only [go_sem, Int.reduceToNat, Nat.reduceLT, reduceIte, Nat.reduceEqDiff, Nat.reduceAdd, Nat.reduceMul, Nat.reduceBEq, reduceCtorEq]; rfl) ?_
    try dsimp only [thenQ, blockQ]
    refine AW.seq ?_
    refine AW.seq ?_
    refine AW.region ?_
    refine AWL.q rfl rfl rfl (by decide) Qt.move ?_
    refine AWL.q rfl rfl rfl (by decide) (Qt.binOp rfl rfl rfl) ?_
    refine AWL.nilE (by simp only [go_sem, Int.reduceToNat, Nat.reduceLT, reduceIte, Nat.reduceEqDiff, Nat.reduceAdd, Nat.reduceMul, Nat.reduceBEq, reduceCtorEq]; rfl) ?_
    try dsimp only [thenQ, blockQ]
    refine AW.cond rfl (fun c2 => ?_) (fun c2 => ?_)
    · have k2 := c2
      try simp only [decide_eq_true_eq, decide_eq_false_iff_not, bne_iff_ne, ne_eq, beq_iff_eq, beq_eq_false_iff_ne, bne_eq_false_iff_eq, Bool.not_eq_true', Bool.not_eq_false', Bool.and_eq_true, Bool.or_eq_true, Bool.and_eq_false_iff, Bool.or_eq_false_iff, Int.not_lt, Int.not_le, Int.toNat_natCast] at c2
      refine AW.seq ?_
      refine AW.region ?_
      refine AWL.q rfl rfl rfl (by decide) Qt.assign ?_
      refine AWL.nilE (by simp only [go_sem, Int.reduceToNat, Nat.reduceLT, reduceIte, Nat.reduceEqDiff, Nat.reduceAdd, Nat.reduceMul, Nat.reduceBEq, reduceCtorEq]; rfl) ?_
      try dsimp only [thenQ, blockQ]
      refine AW.ret ?_
      try dsimp only [thenQ, blockQ]
      refine endQ_ret (.cons (.tmp 4) .nil) ?_
      simp only [retX, slotL, reduceIte, Nat.reduceEqDiff]
      first | rfl | (congr 2; simp only [szd, Mk.wt] at *; omega)
    · have k2 := c2
      try simp only [decide_eq_true_eq, decide_eq_false_iff_not, bne_iff_ne, ne_eq, beq_iff_eq, beq_eq_false_iff_ne, bne_eq_false_iff_eq, Bool.not_eq_true', Bool.not_eq_false', Bool.and_eq_true, Bool.or_eq_true, Bool.and_eq_false_iff, Bool.or_eq_false_iff, Int.not_lt, Int.not_le, Int.toNat_natCast] at c2
      refine AW.skip ?_
      dsimp only [thenQ, blockQ]
      refine AW.seq ?_
      refine AW.region ?_
      refine AWL.q rfl rfl rfl (by decide) (Qt.fieldAddr rfl fl193_10 rfl rfl (by decide)) ?_
      refine AWL.nrm (by simp only [go_sem, Int.reduceToNat, Nat.reduceLT, reduceIte, Nat.reduceEqDiff, Nat.reduceAdd, Nat.reduceMul, Nat.reduceBEq, reduceCtorEq]; rfl) ?_
      refine AWL.q rfl rfl rfl (by decide) (Qt.load1 rfl rfl rfl ag24) ?_
      refine AWL.q rfl rfl rfl (by decide) Qt.move ?_
      refine AWL.step rfl rfl (Stp.callV rfl (by decide) Try.call37 rfl rfl (szIntS_con _ _ (by first | omega | (repeat (first | omega | apply szd_lo))) (by first | omega | (repeat (first | omega | apply szd_hi))))) ?_
      refine AWL.nrm (by simp only [go_sem, Int.reduceToNat, Nat.reduceLT, reduceIte, Nat.reduceEqDiff, Nat.reduceAdd, Nat.reduceMul, Nat.reduceBEq, reduceCtorEq]; rfl) ?_
      refine AWL.q rfl rfl rfl (by decide) Qt.assign ?_
      refine AWL.nilE (by simp only [go_sem, Int.reduceToNat, Nat.reduceLT, reduceIte, Nat.reduceEqDiff, Nat.reduceAdd, Nat.reduceMul, Nat.reduceBEq, reduceCtorEq]; rfl) ?_
      try dsimp only [thenQ, blockQ]
      refine AW.seq ?_
      refine AW.seq ?_
      refine AW.region ?_
      refine AWL.q rfl rfl rfl (by decide) Qt.move ?_
      refine AWL.q rfl rfl rfl (by decide) (Qt.binOp rfl rfl rfl) ?_
      refine AWL.nilE (by simp only [go_sem, Int.reduceToNat, Nat.reduceLT, reduceIte, Nat.reduceEqDiff, Nat.reduceAdd, Nat.reduceMul, Nat.reduceBEq, reduceCtorEq]; rfl) ?_
      try dsimp only [thenQ, blockQ]
      refine AW.cond rfl (fun c3 => ?_) (fun c3 => ?_)
      · have k3 := c3
        try simp only [decide_eq_true_eq, decide_eq_false_iff_not, bne_iff_ne, ne_eq, beq_iff_eq, beq_eq_false_iff_ne, bne_eq_false_iff_eq, Bool.not_eq_true', Bool.not_eq_false', Bool.and_eq_true, Bool.or_eq_true, Bool.and_eq_false_iff, Bool.or_eq_false_iff, Int.not_lt, Int.not_le, Int.toNat_natCast] at c3
        refine AW.seq ?_
        refine AW.region ?_
        refine AWL.q rfl rfl rfl (by decide) Qt.assign ?_
        refine AWL.nilE (by simp only [go_sem, Int.reduceToNat, Nat.reduceLT, reduceIte, Nat.reduceEqDiff, Nat.reduceAdd, Nat.reduceMul, Nat.reduceBEq, reduceCtorEq]; rfl) ?_
        try dsimp only [thenQ, blockQ]
        refine AW.ret ?_
        try dsimp only [thenQ, blockQ]
        refine endQ_ret (.cons (.tmp 4) .nil) ?_
        simp only [retX, slotL, reduceIte, Nat.reduceEqDiff]
        first | rfl | (congr 2; simp only [szd, Mk.wt] at *; omega)
      · have k3 := c3
        try simp only [decide_eq_true_eq, decide_eq_false_iff_not, bne_iff_ne, ne_eq, beq_iff_eq, beq_eq_false_iff_ne, bne_eq_false_iff_eq, Bool.not_eq_true', Bool.not_eq_false', Bool.and_eq_true, Bool.or_eq_true, Bool.and_eq_false_iff, Bool.or_eq_false_iff, Int.not_lt, Int.not_le, Int.toNat_natCast] at c3
        refine AW.skip ?_
        dsimp only [thenQ, blockQ]
        refine AW.seq ?_
        refine AW.region ?_
        refine AWL.q rfl rfl rfl (by decide) Qt.move ?_
        refine AWL.nrm (by simp only [go_sem, Int.reduceToNat, Nat.reduceLT, reduceIte, Nat.reduceEqDiff, Nat.reduceAdd, Nat.reduceMul, Nat.reduceBEq, reduceCtorEq]; rfl) ?_
        refine AWL.q rfl rfl rfl (by decide) Qt.assign ?_
        refine AWL.nilE (by simp only [go_sem, Int.reduceToNat, Nat.reduceLT, reduceIte, Nat.reduceEqDiff, Nat.reduceAdd, Nat.reduceMul, Nat.reduceBEq, reduceCtorEq]; rfl) ?_
        try dsimp only [thenQ, blockQ]
        refine AW.ret ?_
        try dsimp only [thenQ, blockQ]
        refine endQ_ret (.cons (.tmp 4) .nil) ?_
        simp only [retX, slotL, reduceIte, Nat.reduceEqDiff]
        first | rfl | (congr 2; simp only [szd, Mk.wt] at *; omega)
set_option maxHeartbeats 8000000 in
set_option maxRecDepth 10000 in
theorem szASlotS_con (a : List DASlot) (left : Int) (h1 : -1 ≤ left) (h2 : left ≤ 1048576) : Con Try.prog 53 [.h base [], .v (iv left)] [.rt base .ro (tr a)] (fun y _ => y = .v (iv (szd (Mk.wt a) left))) := by
  refine Con.of_body Try.func53 rfl (by simp) ?_
  rw [Try.ntmps53]
  have hw : Mk.wt a = a.length + wtL Mk.wt a := rfl
  refine AW.len base [] rfl (by simp [Okp]) rfl (fun hl => ?_)
  refine AW.seq ?_
  refine AW.region ?_
  refine AWL.q rfl rfl rfl (by decide) Qt.assign ?_
  refine AWL.nilE (by simp only [go_sem, Int.reduceToNat, Nat.reduceLT, reduceIte, Nat.reduceEqDiff, Nat.reduceAdd, Nat.reduceMul, Nat.reduceBEq, reduceCtorEq]; rfl) ?_
  try dsimp only [thenQ, blockQ]
  refine AW.seq ?_
  refine AW.region ?_
  refine AWL.q rfl rfl rfl (by decide) Qt.move ?_
  refine AWL.q rfl rfl rfl (by decide) Qt.move ?_
  refine AWL.nrm (by simp only [go_sem, Int.reduceToNat, Nat.reduceLT, reduceIte, Nat.reduceEqDiff, Nat.reduceAdd, Nat.reduceMul, Nat.reduceBEq, reduceCtorEq]; rfl) ?_
  refine AWL.q rfl rfl rfl (by decide) (Qt.lenH rfl rfl rfl sl46) ?_
  refine AWL.q rfl rfl rfl (by decide) (Qt.binOp rfl rfl (by first | exact pbSub (by omega) | rfl)) ?_
  refine AWL.q rfl rfl rfl (by decide) Qt.assign ?_
  refine AWL.nilE (by simp only [go_sem, Int.reduceToNat, Nat.reduceLT, reduceIte, Nat.reduceEqDiff, Nat.reduceAdd, Nat.reduceMul, Nat.reduceBEq, reduceCtorEq]; rfl) ?_
  try dsimp only [thenQ, blockQ]
  refine AW.seq ?_
  refine AW.seq ?_
  refine AW.region ?_
  refine AWL.q rfl rfl rfl (by decide) Qt.move ?_
  refine AWL.nrm (by simp only [go_sem, Int.reduceToNat, Nat.reduceLT, reduceIte, Nat.reduceEqDiff, Nat.reduceAdd, Nat.reduceMul, Nat.reduceBEq, reduceCtorEq]; rfl) ?_
  refine AWL.q rfl rfl rfl (by decide) (Qt.binOp rfl rfl rfl) ?_
  refine AWL.nilE (by simp only [go_sem, Int.reduceToNat, Nat.reduceLT, reduceIte, Nat.reduceEqDiff, Nat.reduceAdd, Nat.reduceMul, Nat.reduceBEq, reduceCtorEq]; rfl) ?_
  try dsimp only [thenQ, blockQ]
  refine AW.cond rfl (fun c1 => ?_) (fun c1 => ?_)
  · have k1 := c1
    try simp only [decide_eq_true_eq, decide_eq_false_iff_not, bne_iff_ne, ne_eq, beq_iff_eq, beq_eq_false_iff_ne, bne_eq_false_iff_eq, Bool.not_eq_true', Bool.not_eq_false', Bool.and_eq_true, Bool.or_eq_true, Bool.and_eq_false_iff, Bool.or_eq_false_iff, Int.not_lt, Int.not_le, Int.toNat_natCast] at c1
    refine AW.seq ?_
    refine AW.region ?_
    refine AWL.q rfl rfl rfl (by decide) Qt.assign ?_
    refine AWL.nilE (by simp only [go_sem, Int.reduceToNat, Nat.reduceLT, reduceIte, Nat.reduceEqDiff, Nat.reduceAdd, Nat.reduceMul, Nat.reduceBEq, reduceCtorEq]; rfl) ?_
    try dsimp only [thenQ, blockQ]
    refine AW.ret ?_
    try dsimp only [thenQ, blockQ]
    refine endQ_ret (.cons (.tmp 4) .nil) ?_
    simp only [retX, slotL, reduceIte, Nat.reduceEqDiff]
    try have hi0 := i.nn
    have hcw := cumN_wt a
    have hz := szd_cases (Mk.wt a) left
    try have hce : cumN Mk.wt En.dflt a i.k = cumN Mk.wt En.dflt a a.length := by rw [show i.k = a.length by omega]
    congr 2
    omega
  · have k1 := c1
    try simp only [decide_eq_true_eq, decide_eq_false_iff_not, bne_iff_ne, ne_eq, beq_iff_eq, beq_eq_false_iff_ne, bne_eq_false_iff_eq, Bool.not_eq_true', Bool.not_eq_false', Bool.and_eq_true, Bool.or_eq_true, Bool.and_eq_false_iff, Bool.or_eq_false_iff, Int.not_lt, Int.not_le, Int.toNat_natCast] at c1
    refine AW.skip ?_
    dsimp only [thenQ, blockQ]
    refine AW.seq ?_
    refine AW.seq ?_
    refine AW.region ?_
    refine AWL.q rfl rfl rfl (by decide) Qt.assign ?_
    refine AWL.nilE (by simp only [go_sem, Int.reduceToNat, Nat.reduceLT, reduceIte, Nat.reduceEqDiff, Nat.reduceAdd, Nat.reduceMul, Nat.reduceBEq, reduceCtorEq]; rfl) ?_
    try dsimp only [thenQ, blockQ]
    refine AW.block ?_
    refine AW.weak (L' := [.sl 5 (.v (iv (0 : Nat))), .sl 1 (.v (iv (left - a.length - (cumN Mk.wt En.dflt a 0 : Nat)))), .sl 0 (.h base []), .rt base .ro (tr a)]) (Weak.sim ⟨rfl, (by simp only [slotL, reduceIte, Nat.reduceEqDiff]; show X.v (iv (left - a.length)) = _; simp [cumN]), rfl, ⟨_, rfl, T.sim_refl _⟩, trivial⟩ rfl rfl) ?_
    refine AW.loop (fun i : SzInv left a => [.sl 5 (.v (iv i.k)), .sl 1 (.v (iv (left - a.length - (cumN Mk.wt En.dflt a i.k : Nat)))), .sl 0 (.h base []), .rt base .ro (tr a)]) (fun i => a.length - i.k) ⟨0, Nat.zero_le _, by simp only [cumN]; omega⟩ ?_
    intro i
    have hle := i.le
    refine AW.seq ?_
    refine AW.seq ?_
    refine AW.region ?_
    refine AWL.q rfl rfl rfl (by decide) Qt.move ?_
    refine AWL.nrm (by simp only [go_sem, Int.reduceToNat, Nat.reduceLT, reduceIte, Nat.reduceEqDiff, Nat.reduceAdd, Nat.reduceMul, Nat.reduceBEq, reduceCtorEq]; rfl) ?_
    refine AWL.q rfl rfl rfl (by decide) Qt.move ?_
    refine AWL.q rfl rfl rfl (by decide) (Qt.lenH rfl rfl rfl sl46) ?_
    refine AWL.q rfl rfl rfl (by decide) (Qt.binOp rfl rfl rfl) ?_
    refine AWL.nilE (by simp only [go_sem, Int.reduceToNat, Nat.reduceLT, reduceIte, Nat.reduceEqDiff, Nat.reduceAdd, Nat.reduceMul, Nat.reduceBEq, reduceCtorEq]; rfl) ?_
    try dsimp only [thenQ, blockQ]
    refine AW.cond rfl (fun c2 => ?_) (fun c2 => ?_)
    · have k2 := c2
      try simp only [decide_eq_true_eq, decide_eq_false_iff_not, bne_iff_ne, ne_eq, beq_iff_eq, beq_eq_false_iff_ne, bne_eq_false_iff_eq, Bool.not_eq_true', Bool.not_eq_false', Bool.and_eq_true, Bool.or_eq_true, Bool.and_eq_false_iff, Bool.or_eq_false_iff, Int.not_lt, Int.not_le, Int.toNat_natCast] at c2
      have hi0 := i.nn
      have hcw := cumN_wt a
      have hc1 := cumN_mono (c := Mk.wt) (d := En.dflt) (l := a) (show i.k + 1 ≤ a.length by omega)
      simp only [cumN] at hc1
      have hz2 := szd_cases (Mk.wt (a.getD i.k En.dflt)) (left - a.length - (cumN Mk.wt En.dflt a i.k : Nat))
      refine AW.skip ?_
      dsimp only [thenQ, blockQ]
      refine AW.seq ?_
      refine AW.block ?_
      refine AW.seq ?_
      refine AW.region ?_
      refine AWL.q rfl rfl rfl (by decide) Qt.move ?_
      refine AWL.nrm (by simp only [go_sem, Int.reduceToNat, Nat.reduceLT, reduceIte, Nat.reduceEqDiff, Nat.reduceAdd, Nat.reduceMul, Nat.reduceBEq, reduceCtorEq]; rfl) ?_
      refine AWL.q rfl rfl rfl (by decide) Qt.move ?_
      refine AWL.q rfl rfl rfl (by decide) (Qt.indexAddr rfl rfl rfl rfl sl46 sz193 (by decide) (by omega)) ?_
      refine AWL.q rfl rfl rfl (by decide) (Qt.loadG rfl rfl rfl ag193 sz193 (by decide)) ?_
      refine AWL.nrm (by simp only [go_sem, Int.reduceToNat, Nat.reduceLT, reduceIte, Nat.reduceEqDiff, Nat.reduceAdd, Nat.reduceMul, Nat.reduceBEq, reduceCtorEq]; rfl) ?_
      refine AWL.q rfl rfl rfl (by decide) Qt.move ?_
      refine AWL.step rfl rfl (Stp.callV rfl (by decide) Try.call137 rfl rfl (szASlot_con _ _ (by first | omega | (repeat (first | omega | apply szd_lo))) (by first | omega | (repeat (first | omega | apply szd_hi))))) ?_
      refine AWL.nrm (by simp only [go_sem, Int.reduceToNat, Nat.reduceLT, reduceIte, Nat.reduceEqDiff, Nat.reduceAdd, Nat.reduceMul, Nat.reduceBEq, reduceCtorEq]; rfl) ?_
      refine AWL.q rfl rfl rfl (by decide) Qt.assign ?_
      refine AWL.nilE (by simp only [go_sem, Int.reduceToNat, Nat.reduceLT, reduceIte, Nat.reduceEqDiff, Nat.reduceAdd, Nat.reduceMul, Nat.reduceBEq, reduceCtorEq]; rfl) ?_
      try dsimp only [thenQ, blockQ]
      refine AW.seq ?_
      refine AW.region ?_
      refine AWL.q rfl rfl rfl (by decide) Qt.move ?_
      refine AWL.q rfl rfl rfl (by decide) (Qt.binOp rfl rfl rfl) ?_
      refine AWL.nilE (by simp only [go_sem, Int.reduceToNat, Nat.reduceLT, reduceIte, Nat.reduceEqDiff, Nat.reduceAdd, Nat.reduceMul, Nat.reduceBEq, reduceCtorEq]; rfl) ?_
      try dsimp only [thenQ, blockQ]
      refine AW.cond rfl (fun c3 => ?_) (fun c3 => ?_)
      · have k3 := c3
        try simp only [decide_eq_true_eq, decide_eq_false_iff_not, bne_iff_ne, ne_eq, beq_iff_eq, beq_eq_false_iff_ne, bne_eq_false_iff_eq, Bool.not_eq_true', Bool.not_eq_false', Bool.and_eq_true, Bool.or_eq_true, Bool.and_eq_false_iff, Bool.or_eq_false_iff, Int.not_lt, Int.not_le, Int.toNat_natCast] at c3
        refine AW.seq ?_
        refine AW.region ?_
        refine AWL.q rfl rfl rfl (by decide) Qt.assign ?_
        refine AWL.nilE (by simp only [go_sem, Int.reduceToNat, Nat.reduceLT, reduceIte, Nat.reduceEqDiff, Nat.reduceAdd, Nat.reduceMul, Nat.reduceBEq, reduceCtorEq]; rfl) ?_
        try dsimp only [thenQ, blockQ]
        refine AW.ret ?_
        try dsimp only [thenQ, blockQ]
        refine endQ_ret (.cons (.tmp 4) .nil) ?_
        simp only [retX, slotL, reduceIte, Nat.reduceEqDiff]
        try have hi0 := i.nn
        have hcw := cumN_wt a
        have hz := szd_cases (Mk.wt a) left
        try have hce : cumN Mk.wt En.dflt a i.k = cumN Mk.wt En.dflt a a.length := by rw [show i.k = a.length by omega]
        congr 2
        omega
      · have k3 := c3
        try simp only [decide_eq_true_eq, decide_eq_false_iff_not, bne_iff_ne, ne_eq, beq_iff_eq, beq_eq_false_iff_ne, bne_eq_false_iff_eq, Bool.not_eq_true', Bool.not_eq_false', Bool.and_eq_true, Bool.or_eq_true, Bool.and_eq_false_iff, Bool.or_eq_false_iff, Int.not_lt, Int.not_le, Int.toNat_natCast] at c3
        refine AW.skip ?_
        dsimp only [thenQ, blockQ]
        refine AW.region ?_
        refine AWL.q rfl rfl rfl (by decide) Qt.move ?_
        refine AWL.nrm (by simp only [go_sem, Int.reduceToNat, Nat.reduceLT, reduceIte, Nat.reduceEqDiff, Nat.reduceAdd, Nat.reduceMul, Nat.reduceBEq, reduceCtorEq]; rfl) ?_
        refine AWL.q rfl rfl rfl (by decide) (Qt.binOp rfl rfl (by first | exact pbAdd (by omega) | rfl)) ?_
        refine AWL.q rfl rfl rfl (by decide) Qt.assign ?_
        refine AWL.nilE (by simp only [go_sem, Int.reduceToNat, Nat.reduceLT, reduceIte, Nat.reduceEqDiff, Nat.reduceAdd, Nat.reduceMul, Nat.reduceBEq, reduceCtorEq]; rfl) ?_
        try dsimp only [thenQ, blockQ]
        refine ⟨⟨i.k + 1, by omega, by simp only [cumN]; omega⟩, Weak.sim ⟨(by simp only [slotL, reduceIte, Nat.reduceEqDiff]; first | rfl | (rw [IntWalk.i64_in _ (by omega)]; rfl)), (by simp only [slotL, reduceIte, Nat.reduceEqDiff]; congr 2; simp only [cumN]; omega), rfl, ⟨_, rfl, T.sim_refl _⟩, trivial⟩ rfl rfl, ?_⟩
        show a.length - (i.k + 1) < a.length - i.k
        omega
    · have k2 := c2
      try simp only [decide_eq_true_eq, decide_eq_false_iff_not, bne_iff_ne, ne_eq, beq_iff_eq, beq_eq_false_iff_ne, bne_eq_false_iff_eq, Bool.not_eq_true', Bool.not_eq_false', Bool.and_eq_true, Bool.or_eq_true, Bool.and_eq_false_iff, Bool.or_eq_false_iff, Int.not_lt, Int.not_le, Int.toNat_natCast] at c2
      refine AW.exit ?_
      dsimp only [thenQ, blockQ, reduceIte]
      refine AW.seq ?_
      refine AW.region ?_
      refine AWL.q rfl rfl rfl (by decide) Qt.move ?_
      refine AWL.nrm (by simp only [go_sem, Int.reduceToNat, Nat.reduceLT, reduceIte, Nat.reduceEqDiff, Nat.reduceAdd, Nat.reduceMul, Nat.reduceBEq, reduceCtorEq]; rfl) ?_
      refine AWL.q rfl rfl rfl (by decide) Qt.assign ?_
      refine AWL.nilE (by simp only [go_sem, Int.reduceToNat, Nat.reduceLT, reduceIte, Nat.reduceEqDiff, Nat.reduceAdd, Nat.reduceMul, Nat.reduceBEq, reduceCtorEq]; rfl) ?_
      try dsimp only [thenQ, blockQ]
      refine AW.ret ?_
      try dsimp only [thenQ, blockQ]
      refine endQ_ret (.cons (.tmp 4) .nil) ?_
      simp only [retX, slotL, reduceIte, Nat.reduceEqDiff]
      try have hi0 := i.nn
      have hcw := cumN_wt a
      have hz := szd_cases (Mk.wt a) left
      try have hce : cumN Mk.wt En.dflt a i.k = cumN Mk.wt En.dflt a a.length := by rw [show i.k = a.length by omega]
      congr 2
      omega
set_option maxHeartbeats 8000000 in
set_option maxRecDepth 10000 in
theorem szBoolS_con (a : List Bool) (left : Int) (h1 : -1 ≤ left) (h2 : left ≤ 1048576) : Con Try.prog 54 [.h base [], .v (iv left)] [.rt base .ro (tr a)] (fun y _ => y = .v (iv (szd (Mk.wt a) left))) := by
  refine Con.of_body Try.func54 rfl (by simp) ?_
  rw [Try.ntmps54]
  have hw : Mk.wt a = a.length := by rw [wt_list, wtL_zero (w := Mk.wt) (fun _ => rfl)]; rfl
  refine AW.len base [] rfl (by simp [Okp]) rfl (fun hl => ?_)
  refine AW.seq ?_
  refine AW.region ?_
  refine AWL.q rfl rfl rfl (by decide) Qt.assign ?_
  refine AWL.nilE (by simp only [go_sem, Int.reduceToNat, Nat.reduceLT, reduceIte, Nat.reduceEqDiff, Nat.reduceAdd, Nat.reduceMul, Nat.reduceBEq, reduceCtorEq]; rfl) ?_
  try dsimp only [thenQ, blockQ]
  refine AW.seq ?_
  refine AW.region ?_
  refine AWL.q rfl rfl rfl (by decide) Qt.move ?_
  refine AWL.q rfl rfl rfl (by decide) Qt.move ?_
  refine AWL.nrm (by simp only [go_sem, Int.reduceToNat, Nat.reduceLT, reduceIte, Nat.reduceEqDiff, Nat.reduceAdd, Nat.reduceMul, Nat.reduceBEq, reduceCtorEq]; rfl) ?_
  refine AWL.q rfl rfl rfl (by decide) (Qt.lenH rfl rfl rfl sl47) ?_
  refine AWL.q rfl rfl rfl (by decide) (Qt.binOp rfl rfl (by first | exact pbSub (by omega) | rfl)) ?_
  refine AWL.q rfl rfl rfl (by decide) Qt.assign ?_
  refine AWL.nilE (by simp only [go_sem, Int.reduceToNat, Nat.reduceLT, reduceIte, Nat.reduceEqDiff, Nat.reduceAdd, Nat.reduceMul, Nat.reduceBEq, reduceCtorEq]; rfl) ?_
  try dsimp only [thenQ, blockQ]
  refine AW.seq ?_
  refine AW.seq ?_
  refine AW.region ?_
  refine AWL.q rfl rfl rfl (by decide) Qt.move ?_
  refine AWL.nrm (by simp only [go_sem, Int.reduceToNat, Nat.reduceLT, reduceIte, Nat.reduceEqDiff, Nat.reduceAdd, Nat.reduceMul, Nat.reduceBEq, reduceCtorEq]; rfl) ?_
  refine AWL.q rfl rfl rfl (by decide) (Qt.binOp rfl rfl rfl) ?_
  refine AWL.nilE (by simp only [go_sem, Int.reduceToNat, Nat.reduceLT, reduceIte, Nat.reduceEqDiff, Nat.reduceAdd, Nat.reduceMul, Nat.reduceBEq, reduceCtorEq]; rfl) ?_
  try dsimp only [thenQ, blockQ]
  refine AW.cond rfl (fun c1 => ?_) (fun c1 => ?_)
  · have k1 := c1
    try simp only [decide_eq_true_eq, decide_eq_false_iff_not, bne_iff_ne, ne_eq, beq_iff_eq, beq_eq_false_iff_ne, bne_eq_false_iff_eq, Bool.not_eq_true', Bool.not_eq_false', Bool.and_eq_true, Bool.or_eq_true, Bool.and_eq_false_iff, Bool.or_eq_false_iff, Int.not_lt, Int.not_le, Int.toNat_natCast] at c1
    refine AW.seq ?_
    refine AW.region ?_
    refine AWL.q rfl rfl rfl (by decide) Qt.assign ?_
    refine AWL.nilE (by simp only [go_sem, Int.reduceToNat, Nat.reduceLT, reduceIte, Nat.reduceEqDiff, Nat.reduceAdd, Nat.reduceMul, Nat.reduceBEq, reduceCtorEq]; rfl) ?_
    try dsimp only [thenQ, blockQ]
    refine AW.ret ?_
    try dsimp only [thenQ, blockQ]
    refine endQ_ret (.cons (.tmp 4) .nil) ?_
    simp only [retX, slotL, reduceIte, Nat.reduceEqDiff, szd, hw]
    congr 2
    omega
  · have k1 := c1
    try simp only [decide_eq_true_eq, decide_eq_false_iff_not, bne_iff_ne, ne_eq, beq_iff_eq, beq_eq_false_iff_ne, bne_eq_false_iff_eq, Bool.not_eq_true', Bool.not_eq_false', Bool.and_eq_true, Bool.or_eq_true, Bool.and_eq_false_iff, Bool.or_eq_false_iff, Int.not_lt, Int.not_le, Int.toNat_natCast] at c1
    refine AW.skip ?_
    dsimp only [thenQ, blockQ]
    refine AW.seq ?_
    refine AW.region ?_
    refine AWL.q rfl rfl rfl (by decide) Qt.move ?_
    refine AWL.nrm (by simp only [go_sem, Int.reduceToNat, Nat.reduceLT, reduceIte, Nat.reduceEqDiff, Nat.reduceAdd, Nat.reduceMul, Nat.reduceBEq, reduceCtorEq]; rfl) ?_
    refine AWL.q rfl rfl rfl (by decide) Qt.assign ?_
    refine AWL.nilE (by simp only [go_sem, Int.reduceToNat, Nat.reduceLT, reduceIte, Nat.reduceEqDiff, Nat.reduceAdd, Nat.reduceMul, Nat.reduceBEq, reduceCtorEq]; rfl) ?_
    try dsimp only [thenQ, blockQ]
    refine AW.ret ?_
    try dsimp only [thenQ, blockQ]
    refine endQ_ret (.cons (.tmp 4) .nil) ?_
    simp only [retX, slotL, reduceIte, Nat.reduceEqDiff, szd, hw]
    congr 2
    omega
set_option maxHeartbeats 8000000 in
set_option maxRecDepth 10000 in
theorem szAOpenS_con (a : List DAOpen) (left : Int) (h1 : -1 ≤ left) (h2 : left ≤ 1048576) : Con Try.prog 55 [.h base [], .v (iv left)] [.rt base .ro (tr a)] (fun y _ => y = .v (iv (szd (Mk.wt a) left))) := by
  refine Con.of_body Try.func55 rfl (by simp) ?_
  rw [Try.ntmps55]
  have hw : Mk.wt a = a.length := by rw [wt_list, wtL_zero (w := Mk.wt) (fun _ => rfl)]; rfl
  refine AW.len base [] rfl (by simp [Okp]) rfl (fun hl => ?_)
  refine AW.seq ?_
  refine AW.region ?_
  refine AWL.q rfl rfl rfl (by decide) Qt.assign ?_
  refine AWL.nilE (by simp only [go_sem, Int.reduceToNat, Nat.reduceLT, reduceIte, Nat.reduceEqDiff, Nat.reduceAdd, Nat.reduceMul, Nat.reduceBEq, reduceCtorEq]; rfl) ?_
  try dsimp only [thenQ, blockQ]
  refine AW.seq ?_
  refine AW.region ?_
  refine AWL.q rfl rfl rfl (by decide) Qt.move ?_
  refine AWL.q rfl rfl rfl (by decide) Qt.move ?_
  refine AWL.nrm (by simp only [go_sem, Int.reduceToNat, Nat.reduceLT, reduceIte, Nat.reduceEqDiff, Nat.reduceAdd, Nat.reduceMul, Nat.reduceBEq, reduceCtorEq]; rfl) ?_
  refine AWL.q rfl rfl rfl (by decide) (Qt.lenH rfl rfl rfl sl48) ?_
  refine AWL.q rfl rfl rfl (by decide) (Qt.binOp rfl rfl (by first | exact pbSub (by omega) | rfl)) ?_
  refine AWL.q rfl rfl rfl (by decide) Qt.assign ?_
  refine AWL.nilE (by simp only [go_sem, Int.reduceToNat, Nat.reduceLT, reduceIte, Nat.reduceEqDiff, Nat.reduceAdd, Nat.reduceMul, Nat.reduceBEq, reduceCtorEq]; rfl) ?_
  try dsimp only [thenQ, blockQ]
  refine AW.seq ?_
  refine AW.seq ?_
  refine AW.region ?_
  refine AWL.q rfl rfl rfl (by decide) Qt.move ?_
  refine AWL.nrm (by simp only [go_sem, Int.reduceToNat, Nat.reduceLT, reduceIte, Nat.reduceEqDiff, Nat.reduceAdd, Nat.reduceMul, Nat.reduceBEq, reduceCtorEq]; rfl) ?_
  refine AWL.q rfl rfl rfl (by decide) (Qt.binOp rfl rfl rfl) ?_
  refine AWL.nilE (by simp only [go_sem, Int.reduceToNat, Nat.reduceLT, reduceIte, Nat.reduceEqDiff, Nat.reduceAdd, Nat.reduceMul, Nat.reduceBEq, reduceCtorEq]; rfl) ?_
  try dsimp only [thenQ, blockQ]
  refine AW.cond rfl (fun c1 => ?_) (fun c1 => ?_)
  · have k1 := c1
    try simp only [decide_eq_true_eq, decide_eq_false_iff_not, bne_iff_ne, ne_eq, beq_iff_eq, beq_eq_false_iff_ne, bne_eq_false_iff_eq, Bool.not_eq_true', Bool.not_eq_false', Bool.and_eq_true, Bool.or_eq_true, Bool.and_eq_false_iff, Bool.or_eq_false_iff, Int.not_lt, Int.not_le, Int.toNat_natCast] at c1
    refine AW.seq ?_
    refine AW.region ?_
    refine AWL.q rfl rfl rfl (by decide) Qt.assign ?_
    refine AWL.nilE (by simp only [go_sem, Int.reduceToNat, Nat.reduceLT, reduceIte, Nat.reduceEqDiff, Nat.reduceAdd, Nat.reduceMul, Nat.reduceBEq, reduceCtorEq]; rfl) ?_
    try dsimp only [thenQ, blockQ]
    refine AW.ret ?_
    try dsimp only [thenQ, blockQ]
    refine endQ_ret (.cons (.tmp 4) .nil) ?_
    simp only [retX, slotL, reduceIte, Nat.reduceEqDiff, szd, hw]
    congr 2
    omega
  · have k1 := c1
    try simp only [decide_eq_true_eq, decide_eq_false_iff_not, bne_iff_ne, ne_eq, beq_iff_eq, beq_eq_false_iff_ne, bne_eq_false_iff_eq, Bool.not_eq_true', Bool.not_eq_false', Bool.and_eq_true, Bool.or_eq_true, Bool.and_eq_false_iff, Bool.or_eq_false_iff, Int.not_lt, Int.not_le, Int.toNat_natCast] at c1
    refine AW.skip ?_
    dsimp only [thenQ, blockQ]
    refine AW.seq ?_
    refine AW.region ?_
    refine AWL.q rfl rfl rfl (by decide) Qt.move ?_
    refine AWL.nrm (by simp only [go_sem, Int.reduceToNat, Nat.reduceLT, reduceIte, Nat.reduceEqDiff, Nat.reduceAdd, Nat.reduceMul, Nat.reduceBEq, reduceCtorEq]; rfl) ?_
    refine AWL.q rfl rfl rfl (by decide) Qt.assign ?_
    refine AWL.nilE (by simp only [go_sem, Int.reduceToNat, Nat.reduceLT, reduceIte, Nat.reduceEqDiff, Nat.reduceAdd, Nat.reduceMul, Nat.reduceBEq, reduceCtorEq]; rfl) ?_
    try dsimp only [thenQ, blockQ]
    refine AW.ret ?_
    try dsimp only [thenQ, blockQ]
    refine endQ_ret (.cons (.tmp 4) .nil) ?_
    simp only [retX, slotL, reduceIte, Nat.reduceEqDiff, szd, hw]
    congr 2
    omega
set_option maxHeartbeats 8000000 in
set_option maxRecDepth 10000 in
theorem szARing_con (a : DARing) (left : Int) (h1 : -1 ≤ left) (h2 : left ≤ 1048576) : Con Try.prog 58 [.g [.v (.bool a.Used), .h base [], .v (iv a.Head), .v (iv a.Len)], .v (iv left)] [.rt base .ro (tr a.Buf)] (fun y _ => y = .v (iv (szd (Mk.wt a) left))) := by
  refine Con.of_body Try.func58 rfl (by simp) ?_
  rw [Try.ntmps58]
  refine AW.seq ?_
  refine AW.region ?_
  refine AWL.step rfl rfl (Stp.boxB rfl (by decide) (by decide) rfl rfl rfl rfl) ?_
  refine AWL.nrm (by simp only [go_sem, Int.reduceToNat, Nat.reduceLT, reduceIte, Nat.reduceEqDiff, Nat.reduceAdd, Nat.reduceMul, Nat.reduceBEq, reduceCtorEq]; rfl) ?_
  refine AWL.q rfl rfl rfl (by decide) Qt.assign ?_
  refine AWL.nilE (by simp only [go_sem, Int.reduceToNat, Nat.reduceLT, reduceIte, Nat.reduceEqDiff, Nat.reduceAdd, Nat.reduceMul, Nat.reduceBEq, reduceCtorEq]; rfl) ?_
  try dsimp only [thenQ, blockQ]
  refine AW.seq ?_
  refine AW.region ?_
  refine AWL.q rfl rfl rfl (by decide) (Qt.fieldAddr rfl fl52_1 rfl rfl (by decide)) ?_
  refine AWL.q rfl rfl rfl (by decide) (Qt.load1 rfl rfl rfl ag24) ?_
  refine AWL.nrm (by simp only [go_sem, Int.reduceToNat, Nat.reduceLT, reduceIte, Nat.reduceEqDiff, Nat.reduceAdd, Nat.reduceMul, Nat.reduceBEq, reduceCtorEq]; rfl) ?_
  refine AWL.q rfl rfl rfl (by decide) Qt.move ?_
  refine AWL.step rfl rfl (Stp.callV rfl (by decide) Try.call37 rfl rfl (szIntS_con _ _ (by first | omega | (repeat (first | omega | apply szd_lo))) (by first | omega | (repeat (first | omega | apply szd_hi))))) ?_
  refine AWL.nrm (by simp only [go_sem, Int.reduceToNat, Nat.reduceLT, reduceIte, Nat.reduceEqDiff, Nat.reduceAdd, Nat.reduceMul, Nat.reduceBEq, reduceCtorEq]; rfl) ?_
  refine AWL.q rfl rfl rfl (by decide) Qt.assign ?_
  refine AWL.nilE (by simp only [go_sem, Int.reduceToNat, Nat.reduceLT, reduceIte, Nat.reduceEqDiff, Nat.reduceAdd, Nat.reduceMul, Nat.reduceBEq, reduceCtorEq]; rfl) ?_
  try dsimp only [thenQ, blockQ]
  refine AW.seq ?_
  refine AW.seq ?_
  refine AW.region ?_
  refine AWL.q rfl rfl rfl (by decide) Qt.move ?_
  refine AWL.q rfl rfl rfl (by decide) (Qt.binOp rfl rfl rfl) ?_
  refine AWL.nilE (by simp only [go_sem, Int.reduceToNat, Nat.reduceLT, reduceIte, Nat.reduceEqDiff, Nat.reduceAdd, Nat.reduceMul, Nat.reduceBEq, reduceCtorEq]; rfl) ?_
  try dsimp only [thenQ, blockQ]
  refine AW.cond rfl (fun c1 => ?_) (fun c1 => ?_)
  · have k1 := c1
    try simp only [decide_eq_true_eq, decide_eq_false_iff_not, bne_iff_ne, ne_eq, beq_iff_eq, beq_eq_false_iff_ne, bne_eq_false_iff_eq, Bool.not_eq_true', Bool.not_eq_false', Bool.and_eq_true, Bool.or_eq_true, Bool.and_eq_false_iff, Bool.or_eq_false_iff, Int.not_lt, Int.not_le, Int.toNat_natCast] at c1
    refine AW.seq ?_
    refine AW.region ?_
    refine AWL.q rfl rfl rfl (by decide) Qt.assign ?_
    refine AWL.nilE (by simp only [go_sem, Int.reduceToNat, Nat.reduceLT, reduceIte, Nat.reduceEqDiff, Nat.reduceAdd, Nat.reduceMul, Nat.reduceBEq, reduceCtorEq]; rfl) ?_
    try dsimp only [thenQ, blockQ]
    refine AW.ret ?_
    try dsimp only [thenQ, blockQ]
    refine endQ_ret (.cons (.tmp 4) .nil) ?_
    simp only [retX, slotL, reduceIte, Nat.reduceEqDiff]
    first | rfl | (congr 2; simp only [szd, Mk.wt] at *; omega)
  · have k1 := c1
    try simp only [decide_eq_true_eq, decide_eq_false_iff_not, bne_iff_ne, ne_eq, beq_iff_eq, beq_eq_false_iff_ne, bne_eq_false_iff_eq, Bool.not_eq_true', Bool.not_eq_false', Bool.and_eq_true, Bool.or_eq_true, Bool.and_eq_false_iff, Bool.or_eq_false_iff, Int.not_lt, Int.not_le, Int.toNat_natCast] at c1
    refine AW.skip ?_
    dsimp only [thenQ, blockQ]
    refine AW.seq ?_
    refine AW.region ?_
    refine AWL.q rfl rfl rfl (by decide) Qt.move ?_
    refine AWL.nrm (by simp only [go_sem, Int.reduceToNat, Nat.reduceLT, reduceIte, Nat.reduceEqDiff, Nat.reduceAdd, Nat.reduceMul, Nat.reduceBEq, reduceCtorEq]; rfl) ?_
    refine AWL.q rfl rfl rfl (by decide) Qt.assign ?_
    refine AWL.nilE (by simp only [go_sem, Int.reduceToNat, Nat.reduceLT, reduceIte, Nat.reduceEqDiff, Nat.reduceAdd, Nat.reduceMul, Nat.reduceBEq, reduceCtorEq]; rfl) ?_
    try dsimp only [thenQ, blockQ]
    refine AW.ret ?_
    try dsimp only [thenQ, blockQ]
    refine endQ_ret (.cons (.tmp 4) .nil) ?_
    simp only [retX, slotL, reduceIte, Nat.reduceEqDiff]
    first | rfl | (congr 2; simp only [szd, Mk.wt] at *; omega)
set_option maxHeartbeats 8000000 in
set_option maxRecDepth 10000 in
theorem szARingS_con (a : List DARing) (left : Int) (h1 : -1 ≤ left) (h2 : left ≤ 1048576) : Con Try.prog 56 [.h base [], .v (iv left)] [.rt base .ro (tr a)] (fun y _ => y = .v (iv (szd (Mk.wt a) left))) := by
  refine Con.of_body Try.func56 rfl (by simp) ?_
  rw [Try.ntmps56]
  have hw : Mk.wt a = a.length + wtL Mk.wt a := rfl
  refine AW.len base [] rfl (by simp [Okp]) rfl (fun hl => ?_)
  refine AW.seq ?_
  refine AW.region ?_
  refine AWL.q rfl rfl rfl (by decide) Qt.assign ?_
  refine AWL.nilE (by simp only [go_sem, Int.reduceToNat, Nat.reduceLT, reduceIte, Nat.reduceEqDiff, Nat.reduceAdd, Nat.reduceMul, Nat.reduceBEq, reduceCtorEq]; rfl) ?_
  try dsimp only [thenQ, blockQ]
  refine AW.seq ?_
  refine AW.region ?_
  refine AWL.q rfl rfl rfl (by decide) Qt.move ?_
  refine AWL.q rfl rfl rfl (by decide) Qt.move ?_
  refine AWL.nrm (by simp only [go_sem, Int.reduceToNat, Nat.reduceLT, reduceIte, Nat.reduceEqDiff, Nat.reduceAdd, Nat.reduceMul, Nat.reduceBEq, reduceCtorEq]; rfl) ?_
  refine AWL.q rfl rfl rfl (by decide) (Qt.lenH rfl rfl rfl sl49) ?_
  refine AWL.q rfl rfl rfl (by decide) (Qt.binOp rfl rfl (by first | exact pbSub (by omega) | rfl)) ?_
  refine AWL.q rfl rfl rfl (by decide) Qt.assign ?_
  refine AWL.nilE (by simp only [go_sem, Int.reduceToNat, Nat.reduceLT, reduceIte, Nat.reduceEqDiff, Nat.reduceAdd, Nat.reduceMul, Nat.reduceBEq, reduceCtorEq]; rfl) ?_
  try dsimp only [thenQ, blockQ]
  refine AW.seq ?_
  refine AW.seq ?_
  refine AW.region ?_
  refine AWL.q rfl rfl rfl (by decide) Qt.move ?_
  refine AWL.nrm (by simp only [go_sem, Int.reduceToNat, Nat.reduceLT, reduceIte, Nat.reduceEqDiff, Nat.reduceAdd, Nat.reduceMul, Nat.reduceBEq, reduceCtorEq]; rfl) ?_
  refine AWL.q rfl rfl rfl (by decide) (Qt.binOp rfl rfl rfl) ?_
  refine AWL.nilE (by simp only [go_sem, Int.reduceToNat, Nat.reduceLT, reduceIte, Nat.reduceEqDiff, Nat.reduceAdd, Nat.reduceMul, Nat.reduceBEq, reduceCtorEq]; rfl) ?_
  try dsimp only [thenQ, blockQ]
  refine AW.cond rfl (fun c1 => ?_) (fun c1 => ?_)
  · have k1 := c1
    try simp only [decide_eq_true_eq, decide_eq_false_iff_not, bne_iff_ne, ne_eq, beq_iff_eq, beq_eq_false_iff_ne, bne_eq_false_iff_eq, Bool.not_eq_true', Bool.not_eq_false', Bool.and_eq_true, Bool.or_eq_true, Bool.and_eq_false_iff, Bool.or_eq_false_iff, Int.not_lt, Int.not_le, Int.toNat_natCast] at c1
    refine AW.seq ?_
    refine AW.region ?_
    refine AWL.q rfl rfl rfl (by decide) Qt.assign ?_
    refine AWL.nilE (by simp only [go_sem, Int.reduceToNat, Nat.reduceLT, reduceIte, Nat.reduceEqDiff, Nat.reduceAdd, Nat.reduceMul, Nat.reduceBEq, reduceCtorEq]; rfl) ?_
    try dsimp only [thenQ, blockQ]
    refine AW.ret ?_
    try dsimp only [thenQ, blockQ]
    refine endQ_ret (.cons (.tmp 4) .nil) ?_
    simp only [retX, slotL, reduceIte, Nat.reduceEqDiff]
    try have hi0 := i.nn
    have hcw := cumN_wt a
    have hz := szd_cases (Mk.wt a) left
    try have hce : cumN Mk.wt En.dflt a i.k = cumN Mk.wt En.dflt a a.length := by rw [show i.k = a.length by omega]
    congr 2
    omega
  · have k1 := c1
    try simp only [decide_eq_true_eq, decide_eq_false_iff_not, bne_iff_ne, ne_eq, beq_iff_eq, beq_eq_false_iff_ne, bne_eq_false_iff_eq, Bool.not_eq_true', Bool.not_eq_false', Bool.and_eq_true, Bool.or_eq_true, Bool.and_eq_false_iff, Bool.or_eq_false_iff, Int.not_lt, Int.not_le, Int.toNat_natCast] at c1
    refine AW.skip ?_
    dsimp only [thenQ, blockQ]
    refine AW.seq ?_
    refine AW.seq ?_
    refine AW.region ?_
    refine AWL.q rfl rfl rfl (by decide) Qt.assign ?_
    refine AWL.nilE (by simp only [go_sem, Int.reduceToNat, Nat.reduceLT, reduceIte, Nat.reduceEqDiff, Nat.reduceAdd, Nat.reduceMul, Nat.reduceBEq, reduceCtorEq]; rfl) ?_
    try dsimp only [thenQ, blockQ]
    refine AW.block ?_
    refine AW.weak (L' := [.sl 5 (.v (iv (0 : Nat))), .sl 1 (.v (iv (left - a.length - (cumN Mk.wt En.dflt a 0 : Nat)))), .sl 0 (.h base []), .rt base .ro (tr a)]) (Weak.sim ⟨rfl, (by simp only [slotL, reduceIte, Nat.reduceEqDiff]; show X.v (iv (left - a.length)) = _; simp [cumN]), rfl, ⟨_, rfl, T.sim_refl _⟩, trivial⟩ rfl rfl) ?_
    refine AW.loop (fun i : SzInv left a => [.sl 5 (.v (iv i.k)), .sl 1 (.v (iv (left - a.length - (cumN Mk.wt En.dflt a i.k : Nat)))), .sl 0 (.h base []), .rt base .ro (tr a)]) (fun i => a.length - i.k) ⟨0, Nat.zero_le _, by simp only [cumN]; omega⟩ ?_
    intro i
    have hle := i.le
    refine AW.seq ?_
    refine AW.seq ?_
    refine AW.region ?_
    refine AWL.q rfl rfl rfl (by decide) Qt.move ?_
    refine AWL.nrm (by simp only [go_sem, Int.reduceToNat, Nat.reduceLT, reduceIte, Nat.reduceEqDiff, Nat.reduceAdd, Nat.reduceMul, Nat.reduceBEq, reduceCtorEq]; rfl) ?_
    refine AWL.q rfl rfl rfl (by decide) Qt.move ?_
    refine AWL.q rfl rfl rfl (by decide) (Qt.lenH rfl rfl rfl sl49) ?_
    refine AWL.q rfl rfl rfl (by decide) (Qt.binOp rfl rfl rfl) ?_
    refine AWL.nilE (by simp only [go_sem, Int.reduceToNat, Nat.reduceLT, reduceIte, Nat.reduceEqDiff, Nat.reduceAdd, Nat.reduceMul, Nat.reduceBEq, reduceCtorEq]; rfl) ?_
    try dsimp only [thenQ, blockQ]
    refine AW.cond rfl (fun c2 => ?_) (fun c2 => ?_)
    · have k2 := c2
      try simp only [decide_eq_true_eq, decide_eq_false_iff_not, bne_iff_ne, ne_eq, beq_iff_eq, beq_eq_false_iff_ne, bne_eq_false_iff_eq, Bool.not_eq_true', Bool.not_eq_false', Bool.and_eq_true, Bool.or_eq_true, Bool.and_eq_false_iff, Bool.or_eq_false_iff, Int.not_lt, Int.not_le, Int.toNat_natCast] at c2
      have hi0 := i.nn
      have hcw := cumN_wt a
      have hc1 := cumN_mono (c := Mk.wt) (d := En.dflt) (l := a) (show i.k + 1 ≤ a.length by omega)
      simp only [cumN] at hc1
      have hz2 := szd_cases (Mk.wt (a.getD i.k En.dflt)) (left - a.length - (cumN Mk.wt En.dflt a i.k : Nat))
      refine AW.skip ?_
      dsimp only [thenQ, blockQ]
      refine AW.seq ?_
      refine AW.block ?_
      refine AW.seq ?_
      refine AW.region ?_
      refine AWL.q rfl rfl rfl (by decide) Qt.move ?_
      refine AWL.nrm (by simp only [go_sem, Int.reduceToNat, Nat.reduceLT, reduceIte, Nat.reduceEqDiff, Nat.reduceAdd, Nat.reduceMul, Nat.reduceBEq, reduceCtorEq]; rfl) ?_
      refine AWL.q rfl rfl rfl (by decide) Qt.move ?_
      refine AWL.q rfl rfl rfl (by decide) (Qt.indexAddr rfl rfl rfl rfl sl49 sz52 (by decide) (by omega)) ?_
      refine AWL.q rfl rfl rfl (by decide) (Qt.loadG rfl rfl rfl ag52 sz52 (by decide)) ?_
      refine AWL.nrm (by simp only [go_sem, Int.reduceToNat, Nat.reduceLT, reduceIte, Nat.reduceEqDiff, Nat.reduceAdd, Nat.reduceMul, Nat.reduceBEq, reduceCtorEq]; rfl) ?_
      refine AWL.q rfl rfl rfl (by decide) Qt.move ?_
      refine AWL.step rfl rfl (Stp.callV rfl (by decide) Try.call58 rfl rfl (szARing_con _ _ (by first | omega | (repeat (first | omega | apply szd_lo))) (by first | omega | (repeat (first | omega | apply szd_hi))))) ?_
      refine AWL.nrm (by simp only [go_sem, Int.reduceToNat, Nat.reduceLT, reduceIte, Nat.reduceEqDiff, Nat.reduceAdd, Nat.reduceMul, Nat.reduceBEq, reduceCtorEq]; rfl) ?_
      refine AWL.q rfl rfl rfl (by decide) Qt.assign ?_
      refine AWL.nilE (by simp only [go_sem, Int.reduceToNat, Nat.reduceLT, reduceIte, Nat.reduceEqDiff, Nat.reduceAdd, Nat.reduceMul, Nat.reduceBEq, reduceCtorEq]; rfl) ?_
      try dsimp only [thenQ, blockQ]
      refine AW.seq ?_
      refine AW.region ?_
      refine AWL.q rfl rfl rfl (by decide) Qt.move ?_
      refine AWL.q rfl rfl rfl (by decide) (Qt.binOp rfl rfl rfl) ?_
      refine AWL.nilE (by simp only [go_sem, Int.reduceToNat, Nat.reduceLT, reduceIte, Nat.reduceEqDiff, Nat.reduceAdd, Nat.reduceMul, Nat.reduceBEq, reduceCtorEq]; rfl) ?_
      try dsimp only [thenQ, blockQ]
      refine AW.cond rfl (fun c3 => ?_) (fun c3 => ?_)
      · have k3 := c3
        try simp only [decide_eq_true_eq, decide_eq_false_iff_not, bne_iff_ne, ne_eq, beq_iff_eq, beq_eq_false_iff_ne, bne_eq_false_iff_eq, Bool.not_eq_true', Bool.not_eq_false', Bool.and_eq_true, Bool.or_eq_true, Bool.and_eq_false_iff, Bool.or_eq_false_iff, Int.not_lt, Int.not_le, Int.toNat_natCast] at c3
        refine AW.seq ?_
        refine AW.region ?_
        refine AWL.q rfl rfl rfl (by decide) Qt.assign ?_
        refine AWL.nilE (by simp only [go_sem, Int.reduceToNat, Nat.reduceLT, reduceIte, Nat.reduceEqDiff, Nat.reduceAdd, Nat.reduceMul, Nat.reduceBEq, reduceCtorEq]; rfl) ?_
        try dsimp only [thenQ, blockQ]
        refine AW.ret ?_
        try dsimp only [thenQ, blockQ]
        refine endQ_ret (.cons (.tmp 4) .nil) ?_
        simp only [retX, slotL, reduceIte, Nat.reduceEqDiff]
        try have hi0 := i.nn
        have hcw := cumN_wt a
        have hz := szd_cases (Mk.wt a) left
        try have hce : cumN Mk.wt En.dflt a i.k = cumN Mk.wt En.dflt a a.length := by rw [show i.k = a.length by omega]
        congr 2
        omega
      · have k3 := c3
        try simp only [decide_eq_true_eq, decide_eq_false_iff_not, bne_iff_ne, ne_eq, beq_iff_eq, beq_eq_false_iff_ne, bne_eq_false_iff_eq, Bool.not_eq_true', Bool.not_eq_false', Bool.and_eq_true, Bool.or_eq_true, Bool.and_eq_false_iff, Bool.or_eq_false_iff, Int.not_lt, Int.not_le, Int.toNat_natCast] at c3
        refine AW.skip ?_
        dsimp only [thenQ, blockQ]
        refine AW.region ?_
        refine AWL.q rfl rfl rfl (by decide) Qt.move ?_
        refine AWL.nrm (by simp only [go_sem, Int.reduceToNat, Nat.reduceLT, reduceIte, Nat.reduceEqDiff, Nat.reduceAdd, Nat.reduceMul, Nat.reduceBEq, reduceCtorEq]; rfl) ?_
        refine AWL.q rfl rfl rfl (by decide) (Qt.binOp rfl rfl (by first | exact pbAdd (by omega) | rfl)) ?_
        refine AWL.q rfl rfl rfl (by decide) Qt.assign ?_
        refine AWL.nilE (by simp only [go_sem, Int.reduceToNat, Nat.reduceLT, reduceIte, Nat.reduceEqDiff, Nat.reduceAdd, Nat.reduceMul, Nat.reduceBEq, reduceCtorEq]; rfl) ?_
        try dsimp only [thenQ, blockQ]
        refine ⟨⟨i.k + 1, by omega, by simp only [cumN]; omega⟩, Weak.sim ⟨(by simp only [slotL, reduceIte, Nat.reduceEqDiff]; first | rfl | (rw [IntWalk.i64_in _ (by omega)]; rfl)), (by simp only [slotL, reduceIte, Nat.reduceEqDiff]; congr 2; simp only [cumN]; omega), rfl, ⟨_, rfl, T.sim_refl _⟩, trivial⟩ rfl rfl, ?_⟩
        show a.length - (i.k + 1) < a.length - i.k
        omega
    · have k2 := c2
      try simp only [decide_eq_true_eq, decide_eq_false_iff_not, bne_iff_ne, ne_eq, beq_iff_eq, beq_eq_false_iff_ne, bne_eq_false_iff_eq, Bool.not_eq_true', Bool.not_eq_false', Bool.and_eq_true, Bool.or_eq_true, Bool.and_eq_false_iff, Bool.or_eq_false_iff, Int.not_lt, Int.not_le, Int.toNat_natCast] at c2
      refine AW.exit ?_
      dsimp only [thenQ, blockQ, reduceIte]
      refine AW.seq ?_
      refine AW.region ?_
      refine AWL.q rfl rfl rfl (by decide) Qt.move ?_
      refine AWL.nrm (by simp only [go_sem, Int.reduceToNat, Nat.reduceLT, reduceIte, Nat.reduceEqDiff, Nat.reduceAdd, Nat.reduceMul, Nat.reduceBEq, reduceCtorEq]; rfl) ?_
      refine AWL.q rfl rfl rfl (by decide) Qt.assign ?_
      refine AWL.nilE (by simp only [go_sem, Int.reduceToNat, Nat.reduceLT, reduceIte, Nat.reduceEqDiff, Nat.reduceAdd, Nat.reduceMul, Nat.reduceBEq, reduceCtorEq]; rfl) ?_
      try dsimp only [thenQ, blockQ]
      refine AW.ret ?_
      try dsimp only [thenQ, blockQ]
      refine endQ_ret (.cons (.tmp 4) .nil) ?_
      simp only [retX, slotL, reduceIte, Nat.reduceEqDiff]
      try have hi0 := i.nn
      have hcw := cumN_wt a
      have hz := szd_cases (Mk.wt a) left
      try have hce : cumN Mk.wt En.dflt a i.k = cumN Mk.wt En.dflt a a.length := by rw [show i.k = a.length by omega]
      congr 2
      omega
set_option maxHeartbeats 8000000 in
set_option maxRecDepth 10000 in
theorem szAFile_con (a : DAFile) (left : Int) (h1 : -1 ≤ left) (h2 : left ≤ 1048576) : Con Try.prog 138 [.g [.v (.bool a.Used), .h base []], .v (iv left)] [.rt base .ro (tr a.Data)] (fun y _ => y = .v (iv (szd (Mk.wt a) left))) := by
  refine Con.of_body Try.func138 rfl (by simp) ?_
  rw [Try.ntmps138]
  refine AW.seq ?_
  refine AW.region ?_
  refine AWL.step rfl rfl (Stp.boxB rfl (by decide) (by decide) rfl rfl rfl rfl) ?_
  refine AWL.nrm (by simp only [go_sem, Int.reduceToNat, Nat.reduceLT, reduceIte, Nat.reduceEqDiff, Nat.reduceAdd, Nat.reduceMul, Nat.reduceBEq, reduceCtorEq]; rfl) ?_
  refine AWL.q rfl rfl rfl (by decide) Qt.assign ?_
  refine AWL.nilE (by simp only [go_sem, Int.reduceToNat, Nat.reduceLT, reduceIte, Nat.reduceEqDiff, Nat.reduceAdd, Nat.reduceMul, Nat.reduceBEq, reduceCtorEq]; rfl) ?_
  try dsimp only [thenQ, blockQ]
  refine AW.seq ?_
  refine AW.region ?_
  refine AWL.q rfl rfl rfl (by decide) (Qt.fieldAddr rfl fl196_1 rfl rfl (by decide)) ?_
  refine AWL.q rfl rfl rfl (by decide) (Qt.load1 rfl rfl rfl ag24) ?_
  refine AWL.nrm (by simp only [go_sem, Int.reduceToNat, Nat.reduceLT, reduceIte, Nat.reduceEqDiff, Nat.reduceAdd, Nat.reduceMul, Nat.reduceBEq, reduceCtorEq]; rfl) ?_
  refine AWL.q rfl rfl rfl (by decide) Qt.move ?_
  refine AWL.step rfl rfl (Stp.callV rfl (by decide) Try.call37 rfl rfl (szIntS_con _ _ (by first | omega | (repeat (first | omega | apply szd_lo))) (by first | omega | (repeat (first | omega | apply szd_hi))))) ?_
  refine AWL.nrm (by simp only [go_sem, Int.reduceToNat, Nat.reduceLT, reduceIte, Nat.reduceEqDiff, Nat.reduceAdd, Nat.reduceMul, Nat.reduceBEq, reduceCtorEq]; rfl) ?_
  refine AWL.q rfl rfl rfl (by decide) Qt.assign ?_
  refine AWL.nilE (by simp only [go_sem, Int.reduceToNat, Nat.reduceLT, reduceIte, Nat.reduceEqDiff, Nat.reduceAdd, Nat.reduceMul, Nat.reduceBEq, reduceCtorEq]; rfl) ?_
  try dsimp only [thenQ, blockQ]
  refine AW.seq ?_
  refine AW.seq ?_
  refine AW.region ?_
  refine AWL.q rfl rfl rfl (by decide) Qt.move ?_
  refine AWL.q rfl rfl rfl (by decide) (Qt.binOp rfl rfl rfl) ?_
  refine AWL.nilE (by simp only [go_sem, Int.reduceToNat, Nat.reduceLT, reduceIte, Nat.reduceEqDiff, Nat.reduceAdd, Nat.reduceMul, Nat.reduceBEq, reduceCtorEq]; rfl) ?_
  try dsimp only [thenQ, blockQ]
  refine AW.cond rfl (fun c1 => ?_) (fun c1 => ?_)
  · have k1 := c1
    try simp only [decide_eq_true_eq, decide_eq_false_iff_not, bne_iff_ne, ne_eq, beq_iff_eq, beq_eq_false_iff_ne, bne_eq_false_iff_eq, Bool.not_eq_true', Bool.not_eq_false', Bool.and_eq_true, Bool.or_eq_true, Bool.and_eq_false_iff, Bool.or_eq_false_iff, Int.not_lt, Int.not_le, Int.toNat_natCast] at c1
    refine AW.seq ?_
    refine AW.region ?_
    refine AWL.q rfl rfl rfl (by decide) Qt.assign ?_
    refine AWL.nilE (by simp only [go_sem, Int.reduceToNat, Nat.reduceLT, reduceIte, Nat.reduceEqDiff, Nat.reduceAdd, Nat.reduceMul, Nat.reduceBEq, reduceCtorEq]; rfl) ?_
    try dsimp only [thenQ, blockQ]
    refine AW.ret ?_
    try dsimp only [thenQ, blockQ]
    refine endQ_ret (.cons (.tmp 4) .nil) ?_
    simp only [retX, slotL, reduceIte, Nat.reduceEqDiff]
    first | rfl | (congr 2; simp only [szd, Mk.wt] at *; omega)
  · have k1 := c1
    try simp only [decide_eq_true_eq, decide_eq_false_iff_not, bne_iff_ne, ne_eq, beq_iff_eq, beq_eq_false_iff_ne, bne_eq_false_iff_eq, Bool.not_eq_true', Bool.not_eq_false', Bool.and_eq_true, Bool.or_eq_true, Bool.and_eq_false_iff, Bool.or_eq_false_iff, Int.not_lt, Int.not_le, Int.toNat_natCast] at c1
    refine AW.skip ?_
    dsimp only [thenQ, blockQ]
    refine AW.seq ?_
    refine AW.region ?_
    refine AWL.q rfl rfl rfl (by decide) Qt.move ?_
    refine AWL.nrm (by simp only [go_sem, Int.reduceToNat, Nat.reduceLT, reduceIte, Nat.reduceEqDiff, Nat.reduceAdd, Nat.reduceMul, Nat.reduceBEq, reduceCtorEq]; rfl) ?_
    refine AWL.q rfl rfl rfl (by decide) Qt.assign ?_
    refine AWL.nilE (by simp only [go_sem, Int.reduceToNat, Nat.reduceLT, reduceIte, Nat.reduceEqDiff, Nat.reduceAdd, Nat.reduceMul, Nat.reduceBEq, reduceCtorEq]; rfl) ?_
    try dsimp only [thenQ, blockQ]
    refine AW.ret ?_
    try dsimp only [thenQ, blockQ]
    refine endQ_ret (.cons (.tmp 4) .nil) ?_
    simp only [retX, slotL, reduceIte, Nat.reduceEqDiff]
    first | rfl | (congr 2; simp only [szd, Mk.wt] at *; omega)
set_option maxHeartbeats 8000000 in
set_option maxRecDepth 10000 in
theorem szAFileS_con (a : List DAFile) (left : Int) (h1 : -1 ≤ left) (h2 : left ≤ 1048576) : Con Try.prog 57 [.h base [], .v (iv left)] [.rt base .ro (tr a)] (fun y _ => y = .v (iv (szd (Mk.wt a) left))) := by
  refine Con.of_body Try.func57 rfl (by simp) ?_
  rw [Try.ntmps57]
  have hw : Mk.wt a = a.length + wtL Mk.wt a := rfl
  refine AW.len base [] rfl (by simp [Okp]) rfl (fun hl => ?_)
  refine AW.seq ?_
  refine AW.region ?_
  refine AWL.q rfl rfl rfl (by decide) Qt.assign ?_
  refine AWL.nilE (by simp only [go_sem, Int.reduceToNat, Nat.reduceLT, reduceIte, Nat.reduceEqDiff, Nat.reduceAdd, Nat.reduceMul, Nat.reduceBEq, reduceCtorEq]; rfl) ?_
  try dsimp only [thenQ, blockQ]
  refine AW.seq ?_
  refine AW.region ?_
  refine AWL.q rfl rfl rfl (by decide) Qt.move ?_
  refine AWL.q rfl rfl rfl (by decide) Qt.move ?_
  refine AWL.nrm (by simp only [go_sem, Int.reduceToNat, Nat.reduceLT, reduceIte, Nat.reduceEqDiff, Nat.reduceAdd, Nat.reduceMul, Nat.reduceBEq, reduceCtorEq]; rfl) ?_
  refine AWL.q rfl rfl rfl (by decide) (Qt.lenH rfl rfl rfl sl50) ?_
  refine AWL.q rfl rfl rfl (by decide) (Qt.binOp rfl rfl (by first | exact pbSub (by omega) | rfl)) ?_
  refine AWL.q rfl rfl rfl (by decide) Qt.assign ?_
  refine AWL.nilE (by simp only [go_sem, Int.reduceToNat, Nat.reduceLT, reduceIte, Nat.reduceEqDiff, Nat.reduceAdd, Nat.reduceMul, Nat.reduceBEq, reduceCtorEq]; rfl) ?_
  try dsimp only [thenQ, blockQ]
  refine AW.seq ?_
  refine AW.seq ?_
  refine AW.region ?_
  refine AWL.q rfl rfl rfl (by decide) Qt.move ?_
  refine AWL.nrm (by simp only [go_sem, Int.reduceToNat, Nat.reduceLT, reduceIte, Nat.reduceEqDiff, Nat.reduceAdd, Nat.reduceMul, Nat.reduceBEq, reduceCtorEq]; rfl) ?_
  refine AWL.q rfl rfl rfl (by decide) (Qt.binOp rfl rfl rfl) ?_
  refine AWL.nilE (by simp only [go_sem, Int.reduceToNat, Nat.reduceLT, reduceIte, Nat.reduceEqDiff, Nat.reduceAdd, Nat.reduceMul, Nat.reduceBEq, reduceCtorEq]; rfl) ?_
  try dsimp only [thenQ, blockQ]
  refine AW.cond rfl (fun c1 => ?_) (fun c1 => ?_)
  · have k1 := c1
    try simp only [decide_eq_true_eq, decide_eq_false_iff_not, bne_iff_ne, ne_eq, beq_iff_eq, beq_eq_false_iff_ne, bne_eq_false_iff_eq, Bool.not_eq_true', Bool.not_eq_false', Bool.and_eq_true, Bool.or_eq_true, Bool.and_eq_false_iff, Bool.or_eq_false_iff, Int.not_lt, Int.not_le, Int.toNat_natCast] at c1
    refine AW.seq ?_
    refine AW.region ?_
    refine AWL.q rfl rfl rfl (by decide) Qt.assign ?_
    refine AWL.nilE (by simp only [go_sem, Int.reduceToNat, Nat.reduceLT, reduceIte, Nat.reduceEqDiff, Nat.reduceAdd, Nat.reduceMul, Nat.reduceBEq, reduceCtorEq]; rfl) ?_
    try dsimp only [thenQ, blockQ]
    refine AW.ret ?_
    try dsimp only [thenQ, blockQ]
    refine endQ_ret (.cons (.tmp 4) .nil) ?_
    simp only [retX, slotL, reduceIte, Nat.reduceEqDiff]
    try have hi0 := i.nn
    have hcw := cumN_wt a
    have hz := szd_cases (Mk.wt a) left
    try have hce : cumN Mk.wt En.dflt a i.k = cumN Mk.wt En.dflt a a.length := by rw [show i.k = a.length by omega]
    congr 2
    omega
  · have k1 := c1
    try simp only [decide_eq_true_eq, decide_eq_false_iff_not, bne_iff_ne, ne_eq, beq_iff_eq, beq_eq_false_iff_ne, bne_eq_false_iff_eq, Bool.not_eq_true', Bool.not_eq_false', Bool.and_eq_true, Bool.or_eq_true, Bool.and_eq_false_iff, Bool.or_eq_false_iff, Int.not_lt, Int.not_le, Int.toNat_natCast] at c1
    refine AW.skip ?_
    dsimp only [thenQ, blockQ]
    refine AW.seq ?_
    refine AW.seq ?_
    refine AW.region ?_
    refine AWL.q rfl rfl rfl (by decide) Qt.assign ?_
    refine AWL.nilE (by simp only [go_sem, Int.reduceToNat, Nat.reduceLT, reduceIte, Nat.reduceEqDiff, Nat.reduceAdd, Nat.reduceMul, Nat.reduceBEq, reduceCtorEq]; rfl) ?_
    try dsimp only [thenQ, blockQ]
    refine AW.block ?_
    refine AW.weak (L' := [.sl 5 (.v (iv (0 : Nat))), .sl 1 (.v (iv (left - a.length - (cumN Mk.wt En.dflt a 0 : Nat)))), .sl 0 (.h base []), .rt base .ro (tr a)]) (Weak.sim ⟨rfl, (by simp only [slotL, reduceIte, Nat.reduceEqDiff]; show X.v (iv (left - a.length)) = _; simp [cumN]), rfl, ⟨_, rfl, T.sim_refl _⟩, trivial⟩ rfl rfl) ?_
    refine AW.loop (fun i : SzInv left a => [.sl 5 (.v (iv i.k)), .sl 1 (.v (iv (left - a.length - (cumN Mk.wt En.dflt a i.k : Nat)))), .sl 0 (.h base []), .rt base .ro (tr a)]) (fun i => a.length - i.k) ⟨0, Nat.zero_le _, by simp only [cumN]; omega⟩ ?_
    intro i
    have hle := i.le
    refine AW.seq ?_
    refine AW.seq ?_
    refine AW.region ?_
    refine AWL.q rfl rfl rfl (by decide) Qt.move ?_
    refine AWL.nrm (by simp only [go_sem, Int.reduceToNat, Nat.reduceLT, reduceIte, Nat.reduceEqDiff, Nat.reduceAdd, Nat.reduceMul, Nat.reduceBEq, reduceCtorEq]; rfl) ?_
    refine AWL.q rfl rfl rfl (by decide) Qt.move ?_
    refine AWL.q rfl rfl rfl (by decide) (Qt.lenH rfl rfl rfl sl50) ?_
    refine AWL.q rfl rfl rfl (by decide) (Qt.binOp rfl rfl rfl) ?_
    refine AWL.nilE (by simp only [go_sem, Int.reduceToNat, Nat.reduceLT, reduceIte, Nat.reduceEqDiff, Nat.reduceAdd, Nat.reduceMul, Nat.reduceBEq, reduceCtorEq]; rfl) ?_
    try dsimp only [thenQ, blockQ]
    refine AW.cond rfl (fun c2 => ?_) (fun c2 => ?_)
    · have k2 := c2
      try simp only [decide_eq_true_eq, decide_eq_false_iff_not, bne_iff_ne, ne_eq, beq_iff_eq, beq_eq_false_iff_ne, bne_eq_false_iff_eq, Bool.not_eq_true', Bool.not_eq_false', Bool.and_eq_true, Bool.or_eq_true, Bool.and_eq_false_iff, Bool.or_eq_false_iff, Int.not_lt, Int.not_le, Int.toNat_natCast] at c2
      have hi0 := i.nn
      have hcw := cumN_wt a
      have hc1 := cumN_mono (c := Mk.wt) (d := En.dflt) (l := a) (show i.k + 1 ≤ a.length by omega)
      simp only [cumN] at hc1
      have hz2 := szd_cases (Mk.wt (a.getD i.k En.dflt)) (left - a.length - (cumN Mk.wt En.dflt a i.k : Nat))
      refine AW.skip ?_
      dsimp only [thenQ, blockQ]
      refine AW.seq ?_
      refine AW.block ?_
      refine AW.seq ?_
      refine AW.region ?_
      refine AWL.q rfl rfl rfl (by decide) Qt.move ?_
      refine AWL.nrm (by simp only [go_sem, Int.reduceToNat, Nat.reduceLT, reduceIte, Nat.reduceEqDiff, Nat.reduceAdd, Nat.reduceMul, Nat.reduceBEq, reduceCtorEq]; rfl) ?_
      refine AWL.q rfl rfl rfl (by decide) Qt.move ?_
      refine AWL.q rfl rfl rfl (by decide) (Qt.indexAddr rfl rfl rfl rfl sl50 sz196 (by decide) (by omega)) ?_
      refine AWL.q rfl rfl rfl (by decide) (Qt.loadG rfl rfl rfl ag196 sz196 (by decide)) ?_
      refine AWL.nrm (by simp only [go_sem, Int.reduceToNat, Nat.reduceLT, reduceIte, Nat.reduceEqDiff, Nat.reduceAdd, Nat.reduceMul, Nat.reduceBEq, reduceCtorEq]; rfl) ?_
      refine AWL.q rfl rfl rfl (by decide) Qt.move ?_
      refine AWL.step rfl rfl (Stp.callV rfl (by decide) Try.call138 rfl rfl (szAFile_con _ _ (by first | omega | (repeat (first | omega | apply szd_lo))) (by first | omega | (repeat (first | omega | apply szd_hi))))) ?_
      refine AWL.nrm (by simp only [go_sem, Int.reduceToNat, Nat.reduceLT, reduceIte, Nat.reduceEqDiff, Nat.reduceAdd, Nat.reduceMul, Nat.reduceBEq, reduceCtorEq]; rfl) ?_
      refine AWL.q rfl rfl rfl (by decide) Qt.assign ?_
      refine AWL.nilE (by simp only [go_sem, Int.reduceToNat, Nat.reduceLT, reduceIte, Nat.reduceEqDiff, Nat.reduceAdd, Nat.reduceMul, Nat.reduceBEq, reduceCtorEq]; rfl) ?_
      try dsimp only [thenQ, blockQ]
      refine AW.seq ?_
      refine AW.region ?_
      refine AWL.q rfl rfl rfl (by decide) Qt.move ?_
      refine AWL.q rfl rfl rfl (by decide) (Qt.binOp rfl rfl rfl) ?_
      refine AWL.nilE (by simp only [go_sem, Int.reduceToNat, Nat.reduceLT, reduceIte, Nat.reduceEqDiff, Nat.reduceAdd, Nat.reduceMul, Nat.reduceBEq, reduceCtorEq]; rfl) ?_
      try dsimp only [thenQ, blockQ]
      refine AW.cond rfl (fun c3 => ?_) (fun c3 => ?_)
      · have k3 := c3
        try simp only [decide_eq_true_eq, decide_eq_false_iff_not, bne_iff_ne, ne_eq, beq_iff_eq, beq_eq_false_iff_ne, bne_eq_false_iff_eq, Bool.not_eq_true', Bool.not_eq_false', Bool.and_eq_true, Bool.or_eq_true, Bool.and_eq_false_iff, Bool.or_eq_false_iff, Int.not_lt, Int.not_le, Int.toNat_natCast] at c3
        refine AW.seq ?_
        refine AW.region ?_
        refine AWL.q rfl rfl rfl (by decide) Qt.assign ?_
        refine AWL.nilE (by simp only [go_sem, Int.reduceToNat, Nat.reduceLT, reduceIte, Nat.reduceEqDiff, Nat.reduceAdd, Nat.reduceMul, Nat.reduceBEq, reduceCtorEq]; rfl) ?_
        try dsimp only [thenQ, blockQ]
        refine AW.ret ?_
        try dsimp only [thenQ, blockQ]
        refine endQ_ret (.cons (.tmp 4) .nil) ?_
        simp only [retX, slotL, reduceIte, Nat.reduceEqDiff]
        try have hi0 := i.nn
        have hcw := cumN_wt a
        have hz := szd_cases (Mk.wt a) left
        try have hce : cumN Mk.wt En.dflt a i.k = cumN Mk.wt En.dflt a a.length := by rw [show i.k = a.length by omega]
        congr 2
        omega
      · have k3 := c3
        try simp only [decide_eq_true_eq, decide_eq_false_iff_not, bne_iff_ne, ne_eq, beq_iff_eq, beq_eq_false_iff_ne, bne_eq_false_iff_eq, Bool.not_eq_true', Bool.not_eq_false', Bool.and_eq_true, Bool.or_eq_true, Bool.and_eq_false_iff, Bool.or_eq_false_iff, Int.not_lt, Int.not_le, Int.toNat_natCast] at c3
        refine AW.skip ?_
        dsimp only [thenQ, blockQ]
        refine AW.region ?_
        refine AWL.q rfl rfl rfl (by decide) Qt.move ?_
        refine AWL.nrm (by simp only [go_sem, Int.reduceToNat, Nat.reduceLT, reduceIte, Nat.reduceEqDiff, Nat.reduceAdd, Nat.reduceMul, Nat.reduceBEq, reduceCtorEq]; rfl) ?_
        refine AWL.q rfl rfl rfl (by decide) (Qt.binOp rfl rfl (by first | exact pbAdd (by omega) | rfl)) ?_
        refine AWL.q rfl rfl rfl (by decide) Qt.assign ?_
        refine AWL.nilE (by simp only [go_sem, Int.reduceToNat, Nat.reduceLT, reduceIte, Nat.reduceEqDiff, Nat.reduceAdd, Nat.reduceMul, Nat.reduceBEq, reduceCtorEq]; rfl) ?_
        try dsimp only [thenQ, blockQ]
        refine ⟨⟨i.k + 1, by omega, by simp only [cumN]; omega⟩, Weak.sim ⟨(by simp only [slotL, reduceIte, Nat.reduceEqDiff]; first | rfl | (rw [IntWalk.i64_in _ (by omega)]; rfl)), (by simp only [slotL, reduceIte, Nat.reduceEqDiff]; congr 2; simp only [cumN]; omega), rfl, ⟨_, rfl, T.sim_refl _⟩, trivial⟩ rfl rfl, ?_⟩
        show a.length - (i.k + 1) < a.length - i.k
        omega
    · have k2 := c2
      try simp only [decide_eq_true_eq, decide_eq_false_iff_not, bne_iff_ne, ne_eq, beq_iff_eq, beq_eq_false_iff_ne, bne_eq_false_iff_eq, Bool.not_eq_true', Bool.not_eq_false', Bool.and_eq_true, Bool.or_eq_true, Bool.and_eq_false_iff, Bool.or_eq_false_iff, Int.not_lt, Int.not_le, Int.toNat_natCast] at c2
      refine AW.exit ?_
      dsimp only [thenQ, blockQ, reduceIte]
      refine AW.seq ?_
      refine AW.region ?_
      refine AWL.q rfl rfl rfl (by decide) Qt.move ?_
      refine AWL.nrm (by simp only [go_sem, Int.reduceToNat, Nat.reduceLT, reduceIte, Nat.reduceEqDiff, Nat.reduceAdd, Nat.reduceMul, Nat.reduceBEq, reduceCtorEq]; rfl) ?_
      refine AWL.q rfl rfl rfl (by decide) Qt.assign ?_
      refine AWL.nilE (by simp only [go_sem, Int.reduceToNat, Nat.reduceLT, reduceIte, Nat.reduceEqDiff, Nat.reduceAdd, Nat.reduceMul, Nat.reduceBEq, reduceCtorEq]; rfl) ?_
      try dsimp only [thenQ, blockQ]
      refine AW.ret ?_
      try dsimp only [thenQ, blockQ]
      refine endQ_ret (.cons (.tmp 4) .nil) ?_
      simp only [retX, slotL, reduceIte, Nat.reduceEqDiff]
      try have hi0 := i.nn
      have hcw := cumN_wt a
      have hz := szd_cases (Mk.wt a) left
      try have hce : cumN Mk.wt En.dflt a i.k = cumN Mk.wt En.dflt a a.length := by rw [show i.k = a.length by omega]
      congr 2
      omega
set_option maxHeartbeats 8000000 in
set_option maxRecDepth 10000 in
theorem szArrays_con (a : DArrays) (left : Int) (h1 : -1 ≤ left) (h2 : left ≤ 1048576) : Con Try.prog 13 [.g [.v (iv a.Next), .v (iv a.Tick), .h base [], .h (base + 1) [], .h (base + 2) [], .h (base + 3) [], .h (base + 4) [], .h (base + 5) [], .h (base + 6) [], .v (.bool a.Ready.Used), .h (base + 7) [], .v (iv a.Ready.Head), .v (iv a.Ready.Len), .h (base + 8) []], .v (iv left)] [.rt base .ro (tr a.Progs), .rt (base + 1) .ro (tr a.Slots), .rt (base + 2) .ro (tr a.Ram), .rt (base + 3) .ro (tr a.Map), .rt (base + 4) .ro (tr a.Opens), .rt (base + 5) .ro (tr a.Pipes), .rt (base + 6) .ro (tr a.Files), .rt (base + 7) .ro (tr a.Ready.Buf), .rt (base + 8) .ro (tr a.Out)] (fun y _ => y = .v (iv (szd (Mk.wt a) left))) := by
  refine Con.of_body Try.func13 rfl (by simp) ?_
  rw [Try.ntmps13]
  refine AW.seq ?_
  refine AW.region ?_
  refine AWL.step rfl rfl (Stp.boxB rfl (by decide) (by decide) rfl rfl rfl rfl) ?_
  refine AWL.nrm (by simp only [go_sem, Int.reduceToNat, Nat.reduceLT, reduceIte, Nat.reduceEqDiff, Nat.reduceAdd, Nat.reduceMul, Nat.reduceBEq, reduceCtorEq]; rfl) ?_
  refine AWL.q rfl rfl rfl (by decide) Qt.assign ?_
  refine AWL.nilE (by simp only [go_sem, Int.reduceToNat, Nat.reduceLT, reduceIte, Nat.reduceEqDiff, Nat.reduceAdd, Nat.reduceMul, Nat.reduceBEq, reduceCtorEq]; rfl) ?_
  try dsimp only [thenQ, blockQ]
  refine AW.seq ?_
  refine AW.region ?_
  refine AWL.q rfl rfl rfl (by decide) (Qt.fieldAddr rfl fl54_2 rfl rfl (by decide)) ?_
  refine AWL.q rfl rfl rfl (by decide) (Qt.load1 rfl rfl rfl ag22) ?_
  refine AWL.nrm (by simp only [go_sem, Int.reduceToNat, Nat.reduceLT, reduceIte, Nat.reduceEqDiff, Nat.reduceAdd, Nat.reduceMul, Nat.reduceBEq, reduceCtorEq]; rfl) ?_
  refine AWL.q rfl rfl rfl (by decide) Qt.move ?_
  refine AWL.step rfl rfl (Stp.callV rfl (by decide) Try.call18 rfl rfl (szInsSS_con _ _ (by first | omega | (repeat (first | omega | apply szd_lo))) (by first | omega | (repeat (first | omega | apply szd_hi))))) ?_
  refine AWL.nrm (by simp only [go_sem, Int.reduceToNat, Nat.reduceLT, reduceIte, Nat.reduceEqDiff, Nat.reduceAdd, Nat.reduceMul, Nat.reduceBEq, reduceCtorEq]; rfl) ?_
  refine AWL.q rfl rfl rfl (by decide) Qt.assign ?_
  refine AWL.nilE (by simp only [go_sem, Int.reduceToNat, Nat.reduceLT, reduceIte, Nat.reduceEqDiff, Nat.reduceAdd, Nat.reduceMul, Nat.reduceBEq, reduceCtorEq]; rfl) ?_
  try dsimp only [thenQ, blockQ]
  refine AW.seq ?_
  refine AW.seq ?_
  refine AW.region ?_
  refine AWL.q rfl rfl rfl (by decide) Qt.move ?_
  refine AWL.q rfl rfl rfl (by decide) (Qt.binOp rfl rfl rfl) ?_
  refine AWL.nilE (by simp only [go_sem, Int.reduceToNat, Nat.reduceLT, reduceIte, Nat.reduceEqDiff, Nat.reduceAdd, Nat.reduceMul, Nat.reduceBEq, reduceCtorEq]; rfl) ?_
  try dsimp only [thenQ, blockQ]
  refine AW.cond rfl (fun c1 => ?_) (fun c1 => ?_)
  · have k1 := c1
    try simp only [decide_eq_true_eq, decide_eq_false_iff_not, bne_iff_ne, ne_eq, beq_iff_eq, beq_eq_false_iff_ne, bne_eq_false_iff_eq, Bool.not_eq_true', Bool.not_eq_false', Bool.and_eq_true, Bool.or_eq_true, Bool.and_eq_false_iff, Bool.or_eq_false_iff, Int.not_lt, Int.not_le, Int.toNat_natCast] at c1
    refine AW.seq ?_
    refine AW.region ?_
    refine AWL.q rfl rfl rfl (by decide) Qt.assign ?_
    refine AWL.nilE (by simp only [go_sem, Int.reduceToNat, Nat.reduceLT, reduceIte, Nat.reduceEqDiff, Nat.reduceAdd, Nat.reduceMul, Nat.reduceBEq, reduceCtorEq]; rfl) ?_
    try dsimp only [thenQ, blockQ]
    refine AW.ret ?_
    try dsimp only [thenQ, blockQ]
    refine endQ_ret (.cons (.tmp 4) .nil) ?_
    simp only [retX, slotL, reduceIte, Nat.reduceEqDiff]
    first | rfl | (congr 2; simp only [szd, Mk.wt] at *; omega)
  · have k1 := c1
    try simp only [decide_eq_true_eq, decide_eq_false_iff_not, bne_iff_ne, ne_eq, beq_iff_eq, beq_eq_false_iff_ne, bne_eq_false_iff_eq, Bool.not_eq_true', Bool.not_eq_false', Bool.and_eq_true, Bool.or_eq_true, Bool.and_eq_false_iff, Bool.or_eq_false_iff, Int.not_lt, Int.not_le, Int.toNat_natCast] at c1
    refine AW.skip ?_
    dsimp only [thenQ, blockQ]
    refine AW.seq ?_
    refine AW.region ?_
    refine AWL.q rfl rfl rfl (by decide) (Qt.fieldAddr rfl fl54_3 rfl rfl (by decide)) ?_
    refine AWL.nrm (by simp only [go_sem, Int.reduceToNat, Nat.reduceLT, reduceIte, Nat.reduceEqDiff, Nat.reduceAdd, Nat.reduceMul, Nat.reduceBEq, reduceCtorEq]; rfl) ?_
    refine AWL.q rfl rfl rfl (by decide) (Qt.load1 rfl rfl rfl ag46) ?_
    refine AWL.q rfl rfl rfl (by decide) Qt.move ?_
    refine AWL.step rfl rfl (Stp.callV rfl (by decide) Try.call53 rfl rfl (szASlotS_con _ _ (by first | omega | (repeat (first | omega | apply szd_lo))) (by first | omega | (repeat (first | omega | apply szd_hi))))) ?_
    refine AWL.nrm (by simp only [go_sem, Int.reduceToNat, Nat.reduceLT, reduceIte, Nat.reduceEqDiff, Nat.reduceAdd, Nat.reduceMul, Nat.reduceBEq, reduceCtorEq]; rfl) ?_
    refine AWL.q rfl rfl rfl (by decide) Qt.assign ?_
    refine AWL.nilE (by simp only [go_sem, Int.reduceToNat, Nat.reduceLT, reduceIte, Nat.reduceEqDiff, Nat.reduceAdd, Nat.reduceMul, Nat.reduceBEq, reduceCtorEq]; rfl) ?_
    try dsimp only [thenQ, blockQ]
    refine AW.seq ?_
    refine AW.seq ?_
    refine AW.region ?_
    refine AWL.q rfl rfl rfl (by decide) Qt.move ?_
    refine AWL.q rfl rfl rfl (by decide) (Qt.binOp rfl rfl rfl) ?_
    refine AWL.nilE (by simp only [go_sem, Int.reduceToNat, Nat.reduceLT, reduceIte, Nat.reduceEqDiff, Nat.reduceAdd, Nat.reduceMul, Nat.reduceBEq, reduceCtorEq]; rfl) ?_
    try dsimp only [thenQ, blockQ]
    refine AW.cond rfl (fun c2 => ?_) (fun c2 => ?_)
    · have k2 := c2
      try simp only [decide_eq_true_eq, decide_eq_false_iff_not, bne_iff_ne, ne_eq, beq_iff_eq, beq_eq_false_iff_ne, bne_eq_false_iff_eq, Bool.not_eq_true', Bool.not_eq_false', Bool.and_eq_true, Bool.or_eq_true, Bool.and_eq_false_iff, Bool.or_eq_false_iff, Int.not_lt, Int.not_le, Int.toNat_natCast] at c2
      refine AW.seq ?_
      refine AW.region ?_
      refine AWL.q rfl rfl rfl (by decide) Qt.assign ?_
      refine AWL.nilE (by simp only [go_sem, Int.reduceToNat, Nat.reduceLT, reduceIte, Nat.reduceEqDiff, Nat.reduceAdd, Nat.reduceMul, Nat.reduceBEq, reduceCtorEq]; rfl) ?_
      try dsimp only [thenQ, blockQ]
      refine AW.ret ?_
      try dsimp only [thenQ, blockQ]
      refine endQ_ret (.cons (.tmp 4) .nil) ?_
      simp only [retX, slotL, reduceIte, Nat.reduceEqDiff]
      first | rfl | (congr 2; simp only [szd, Mk.wt] at *; omega)
    · have k2 := c2
      try simp only [decide_eq_true_eq, decide_eq_false_iff_not, bne_iff_ne, ne_eq, beq_iff_eq, beq_eq_false_iff_ne, bne_eq_false_iff_eq, Bool.not_eq_true', Bool.not_eq_false', Bool.and_eq_true, Bool.or_eq_true, Bool.and_eq_false_iff, Bool.or_eq_false_iff, Int.not_lt, Int.not_le, Int.toNat_natCast] at c2
      refine AW.skip ?_
      dsimp only [thenQ, blockQ]
      refine AW.seq ?_
      refine AW.region ?_
      refine AWL.q rfl rfl rfl (by decide) (Qt.fieldAddr rfl fl54_4 rfl rfl (by decide)) ?_
      refine AWL.nrm (by simp only [go_sem, Int.reduceToNat, Nat.reduceLT, reduceIte, Nat.reduceEqDiff, Nat.reduceAdd, Nat.reduceMul, Nat.reduceBEq, reduceCtorEq]; rfl) ?_
      refine AWL.q rfl rfl rfl (by decide) (Qt.load1 rfl rfl rfl ag24) ?_
      refine AWL.q rfl rfl rfl (by decide) Qt.move ?_
      refine AWL.step rfl rfl (Stp.callV rfl (by decide) Try.call37 rfl rfl (szIntS_con _ _ (by first | omega | (repeat (first | omega | apply szd_lo))) (by first | omega | (repeat (first | omega | apply szd_hi))))) ?_
      refine AWL.nrm (by simp only [go_sem, Int.reduceToNat, Nat.reduceLT, reduceIte, Nat.reduceEqDiff, Nat.reduceAdd, Nat.reduceMul, Nat.reduceBEq, reduceCtorEq]; rfl) ?_
      refine AWL.q rfl rfl rfl (by decide) Qt.assign ?_
      refine AWL.nilE (by simp only [go_sem, Int.reduceToNat, Nat.reduceLT, reduceIte, Nat.reduceEqDiff, Nat.reduceAdd, Nat.reduceMul, Nat.reduceBEq, reduceCtorEq]; rfl) ?_
      try dsimp only [thenQ, blockQ]
      refine AW.seq ?_
      refine AW.seq ?_
      refine AW.region ?_
      refine AWL.q rfl rfl rfl (by decide) Qt.move ?_
      refine AWL.q rfl rfl rfl (by decide) (Qt.binOp rfl rfl rfl) ?_
      refine AWL.nilE (by simp only [go_sem, Int.reduceToNat, Nat.reduceLT, reduceIte, Nat.reduceEqDiff, Nat.reduceAdd, Nat.reduceMul, Nat.reduceBEq, reduceCtorEq]; rfl) ?_
      try dsimp only [thenQ, blockQ]
      refine AW.cond rfl (fun c3 => ?_) (fun c3 => ?_)
      · have k3 := c3
        try simp only [decide_eq_true_eq, decide_eq_false_iff_not, bne_iff_ne, ne_eq, beq_iff_eq, beq_eq_false_iff_ne, bne_eq_false_iff_eq, Bool.not_eq_true', Bool.not_eq_false', Bool.and_eq_true, Bool.or_eq_true, Bool.and_eq_false_iff, Bool.or_eq_false_iff, Int.not_lt, Int.not_le, Int.toNat_natCast] at c3
        refine AW.seq ?_
        refine AW.region ?_
        refine AWL.q rfl rfl rfl (by decide) Qt.assign ?_
        refine AWL.nilE (by simp only [go_sem, Int.reduceToNat, Nat.reduceLT, reduceIte, Nat.reduceEqDiff, Nat.reduceAdd, Nat.reduceMul, Nat.reduceBEq, reduceCtorEq]; rfl) ?_
        try dsimp only [thenQ, blockQ]
        refine AW.ret ?_
        try dsimp only [thenQ, blockQ]
        refine endQ_ret (.cons (.tmp 4) .nil) ?_
        simp only [retX, slotL, reduceIte, Nat.reduceEqDiff]
        first | rfl | (congr 2; simp only [szd, Mk.wt] at *; omega)
      · have k3 := c3
        try simp only [decide_eq_true_eq, decide_eq_false_iff_not, bne_iff_ne, ne_eq, beq_iff_eq, beq_eq_false_iff_ne, bne_eq_false_iff_eq, Bool.not_eq_true', Bool.not_eq_false', Bool.and_eq_true, Bool.or_eq_true, Bool.and_eq_false_iff, Bool.or_eq_false_iff, Int.not_lt, Int.not_le, Int.toNat_natCast] at c3
        refine AW.skip ?_
        dsimp only [thenQ, blockQ]
        refine AW.seq ?_
        refine AW.region ?_
        refine AWL.q rfl rfl rfl (by decide) (Qt.fieldAddr rfl fl54_5 rfl rfl (by decide)) ?_
        refine AWL.nrm (by simp only [go_sem, Int.reduceToNat, Nat.reduceLT, reduceIte, Nat.reduceEqDiff, Nat.reduceAdd, Nat.reduceMul, Nat.reduceBEq, reduceCtorEq]; rfl) ?_
        refine AWL.q rfl rfl rfl (by decide) (Qt.load1 rfl rfl rfl ag47) ?_
        refine AWL.q rfl rfl rfl (by decide) Qt.move ?_
        refine AWL.step rfl rfl (Stp.callV rfl (by decide) Try.call54 rfl rfl (szBoolS_con _ _ (by first | omega | (repeat (first | omega | apply szd_lo))) (by first | omega | (repeat (first | omega | apply szd_hi))))) ?_
        refine AWL.nrm (by simp only [go_sem, Int.reduceToNat, Nat.reduceLT, reduceIte, Nat.reduceEqDiff, Nat.reduceAdd, Nat.reduceMul, Nat.reduceBEq, reduceCtorEq]; rfl) ?_
        refine AWL.q rfl rfl rfl (by decide) Qt.assign ?_
        refine AWL.nilE (by simp only [go_sem, Int.reduceToNat, Nat.reduceLT, reduceIte, Nat.reduceEqDiff, Nat.reduceAdd, Nat.reduceMul, Nat.reduceBEq, reduceCtorEq]; rfl) ?_
        try dsimp only [thenQ, blockQ]
        refine AW.seq ?_
        refine AW.seq ?_
        refine AW.region ?_
        refine AWL.q rfl rfl rfl (by decide) Qt.move ?_
        refine AWL.q rfl rfl rfl (by decide) (Qt.binOp rfl rfl rfl) ?_
        refine AWL.nilE (by simp only [go_sem, Int.reduceToNat, Nat.reduceLT, reduceIte, Nat.reduceEqDiff, Nat.reduceAdd, Nat.reduceMul, Nat.reduceBEq, reduceCtorEq]; rfl) ?_
        try dsimp only [thenQ, blockQ]
        refine AW.cond rfl (fun c4 => ?_) (fun c4 => ?_)
        · have k4 := c4
          try simp only [decide_eq_true_eq, decide_eq_false_iff_not, bne_iff_ne, ne_eq, beq_iff_eq, beq_eq_false_iff_ne, bne_eq_false_iff_eq, Bool.not_eq_true', Bool.not_eq_false', Bool.and_eq_true, Bool.or_eq_true, Bool.and_eq_false_iff, Bool.or_eq_false_iff, Int.not_lt, Int.not_le, Int.toNat_natCast] at c4
          refine AW.seq ?_
          refine AW.region ?_
          refine AWL.q rfl rfl rfl (by decide) Qt.assign ?_
          refine AWL.nilE (by simp only [go_sem, Int.reduceToNat, Nat.reduceLT, reduceIte, Nat.reduceEqDiff, Nat.reduceAdd, Nat.reduceMul, Nat.reduceBEq, reduceCtorEq]; rfl) ?_
          try dsimp only [thenQ, blockQ]
          refine AW.ret ?_
          try dsimp only [thenQ, blockQ]
          refine endQ_ret (.cons (.tmp 4) .nil) ?_
          simp only [retX, slotL, reduceIte, Nat.reduceEqDiff]
          first | rfl | (congr 2; simp only [szd, Mk.wt] at *; omega)
        · have k4 := c4
          try simp only [decide_eq_true_eq, decide_eq_false_iff_not, bne_iff_ne, ne_eq, beq_iff_eq, beq_eq_false_iff_ne, bne_eq_false_iff_eq, Bool.not_eq_true', Bool.not_eq_false', Bool.and_eq_true, Bool.or_eq_true, Bool.and_eq_false_iff, Bool.or_eq_false_iff, Int.not_lt, Int.not_le, Int.toNat_natCast] at c4
          refine AW.skip ?_
          dsimp only [thenQ, blockQ]
          refine AW.seq ?_
          refine AW.region ?_
          refine AWL.q rfl rfl rfl (by decide) (Qt.fieldAddr rfl fl54_6 rfl rfl (by decide)) ?_
          refine AWL.nrm (by simp only [go_sem, Int.reduceToNat, Nat.reduceLT, reduceIte, Nat.reduceEqDiff, Nat.reduceAdd, Nat.reduceMul, Nat.reduceBEq, reduceCtorEq]; rfl) ?_
          refine AWL.q rfl rfl rfl (by decide) (Qt.load1 rfl rfl rfl ag48) ?_
          refine AWL.q rfl rfl rfl (by decide) Qt.move ?_
          refine AWL.step rfl rfl (Stp.callV rfl (by decide) Try.call55 rfl rfl (szAOpenS_con _ _ (by first | omega | (repeat (first | omega | apply szd_lo))) (by first | omega | (repeat (first | omega | apply szd_hi))))) ?_
          refine AWL.nrm (by simp only [go_sem, Int.reduceToNat, Nat.reduceLT, reduceIte, Nat.reduceEqDiff, Nat.reduceAdd, Nat.reduceMul, Nat.reduceBEq, reduceCtorEq]; rfl) ?_
          refine AWL.q rfl rfl rfl (by decide) Qt.assign ?_
          refine AWL.nilE (by simp only [go_sem, Int.reduceToNat, Nat.reduceLT, reduceIte, Nat.reduceEqDiff, Nat.reduceAdd, Nat.reduceMul, Nat.reduceBEq, reduceCtorEq]; rfl) ?_
          try dsimp only [thenQ, blockQ]
          refine AW.seq ?_
          refine AW.seq ?_
          refine AW.region ?_
          refine AWL.q rfl rfl rfl (by decide) Qt.move ?_
          refine AWL.q rfl rfl rfl (by decide) (Qt.binOp rfl rfl rfl) ?_
          refine AWL.nilE (by simp only [go_sem, Int.reduceToNat, Nat.reduceLT, reduceIte, Nat.reduceEqDiff, Nat.reduceAdd, Nat.reduceMul, Nat.reduceBEq, reduceCtorEq]; rfl) ?_
          try dsimp only [thenQ, blockQ]
          refine AW.cond rfl (fun c5 => ?_) (fun c5 => ?_)
          · have k5 := c5
            try simp only [decide_eq_true_eq, decide_eq_false_iff_not, bne_iff_ne, ne_eq, beq_iff_eq, beq_eq_false_iff_ne, bne_eq_false_iff_eq, Bool.not_eq_true', Bool.not_eq_false', Bool.and_eq_true, Bool.or_eq_true, Bool.and_eq_false_iff, Bool.or_eq_false_iff, Int.not_lt, Int.not_le, Int.toNat_natCast] at c5
            refine AW.seq ?_
            refine AW.region ?_
            refine AWL.q rfl rfl rfl (by decide) Qt.assign ?_
            refine AWL.nilE (by simp only [go_sem, Int.reduceToNat, Nat.reduceLT, reduceIte, Nat.reduceEqDiff, Nat.reduceAdd, Nat.reduceMul, Nat.reduceBEq, reduceCtorEq]; rfl) ?_
            try dsimp only [thenQ, blockQ]
            refine AW.ret ?_
            try dsimp only [thenQ, blockQ]
            refine endQ_ret (.cons (.tmp 4) .nil) ?_
            simp only [retX, slotL, reduceIte, Nat.reduceEqDiff]
            first | rfl | (congr 2; simp only [szd, Mk.wt] at *; omega)
          · have k5 := c5
            try simp only [decide_eq_true_eq, decide_eq_false_iff_not, bne_iff_ne, ne_eq, beq_iff_eq, beq_eq_false_iff_ne, bne_eq_false_iff_eq, Bool.not_eq_true', Bool.not_eq_false', Bool.and_eq_true, Bool.or_eq_true, Bool.and_eq_false_iff, Bool.or_eq_false_iff, Int.not_lt, Int.not_le, Int.toNat_natCast] at c5
            refine AW.skip ?_
            dsimp only [thenQ, blockQ]
            refine AW.seq ?_
            refine AW.region ?_
            refine AWL.q rfl rfl rfl (by decide) (Qt.fieldAddr rfl fl54_7 rfl rfl (by decide)) ?_
            refine AWL.nrm (by simp only [go_sem, Int.reduceToNat, Nat.reduceLT, reduceIte, Nat.reduceEqDiff, Nat.reduceAdd, Nat.reduceMul, Nat.reduceBEq, reduceCtorEq]; rfl) ?_
            refine AWL.q rfl rfl rfl (by decide) (Qt.load1 rfl rfl rfl ag49) ?_
            refine AWL.q rfl rfl rfl (by decide) Qt.move ?_
            refine AWL.step rfl rfl (Stp.callV rfl (by decide) Try.call56 rfl rfl (szARingS_con _ _ (by first | omega | (repeat (first | omega | apply szd_lo))) (by first | omega | (repeat (first | omega | apply szd_hi))))) ?_
            refine AWL.nrm (by simp only [go_sem, Int.reduceToNat, Nat.reduceLT, reduceIte, Nat.reduceEqDiff, Nat.reduceAdd, Nat.reduceMul, Nat.reduceBEq, reduceCtorEq]; rfl) ?_
            refine AWL.q rfl rfl rfl (by decide) Qt.assign ?_
            refine AWL.nilE (by simp only [go_sem, Int.reduceToNat, Nat.reduceLT, reduceIte, Nat.reduceEqDiff, Nat.reduceAdd, Nat.reduceMul, Nat.reduceBEq, reduceCtorEq]; rfl) ?_
            try dsimp only [thenQ, blockQ]
            refine AW.seq ?_
            refine AW.seq ?_
            refine AW.region ?_
            refine AWL.q rfl rfl rfl (by decide) Qt.move ?_
            refine AWL.q rfl rfl rfl (by decide) (Qt.binOp rfl rfl rfl) ?_
            refine AWL.nilE (by simp only [go_sem, Int.reduceToNat, Nat.reduceLT, reduceIte, Nat.reduceEqDiff, Nat.reduceAdd, Nat.reduceMul, Nat.reduceBEq, reduceCtorEq]; rfl) ?_
            try dsimp only [thenQ, blockQ]
            refine AW.cond rfl (fun c6 => ?_) (fun c6 => ?_)
            · have k6 := c6
              try simp only [decide_eq_true_eq, decide_eq_false_iff_not, bne_iff_ne, ne_eq, beq_iff_eq, beq_eq_false_iff_ne, bne_eq_false_iff_eq, Bool.not_eq_true', Bool.not_eq_false', Bool.and_eq_true, Bool.or_eq_true, Bool.and_eq_false_iff, Bool.or_eq_false_iff, Int.not_lt, Int.not_le, Int.toNat_natCast] at c6
              refine AW.seq ?_
              refine AW.region ?_
              refine AWL.q rfl rfl rfl (by decide) Qt.assign ?_
              refine AWL.nilE (by simp only [go_sem, Int.reduceToNat, Nat.reduceLT, reduceIte, Nat.reduceEqDiff, Nat.reduceAdd, Nat.reduceMul, Nat.reduceBEq, reduceCtorEq]; rfl) ?_
              try dsimp only [thenQ, blockQ]
              refine AW.ret ?_
              try dsimp only [thenQ, blockQ]
              refine endQ_ret (.cons (.tmp 4) .nil) ?_
              simp only [retX, slotL, reduceIte, Nat.reduceEqDiff]
              first | rfl | (congr 2; simp only [szd, Mk.wt] at *; omega)
            · have k6 := c6
              try simp only [decide_eq_true_eq, decide_eq_false_iff_not, bne_iff_ne, ne_eq, beq_iff_eq, beq_eq_false_iff_ne, bne_eq_false_iff_eq, Bool.not_eq_true', Bool.not_eq_false', Bool.and_eq_true, Bool.or_eq_true, Bool.and_eq_false_iff, Bool.or_eq_false_iff, Int.not_lt, Int.not_le, Int.toNat_natCast] at c6
              refine AW.skip ?_
              dsimp only [thenQ, blockQ]
              refine AW.seq ?_
              refine AW.region ?_
              refine AWL.q rfl rfl rfl (by decide) (Qt.fieldAddr rfl fl54_8 rfl rfl (by decide)) ?_
              refine AWL.nrm (by simp only [go_sem, Int.reduceToNat, Nat.reduceLT, reduceIte, Nat.reduceEqDiff, Nat.reduceAdd, Nat.reduceMul, Nat.reduceBEq, reduceCtorEq]; rfl) ?_
              refine AWL.q rfl rfl rfl (by decide) (Qt.load1 rfl rfl rfl ag50) ?_
              refine AWL.q rfl rfl rfl (by decide) Qt.move ?_
              refine AWL.step rfl rfl (Stp.callV rfl (by decide) Try.call57 rfl rfl (szAFileS_con _ _ (by first | omega | (repeat (first | omega | apply szd_lo))) (by first | omega | (repeat (first | omega | apply szd_hi))))) ?_
              refine AWL.nrm (by simp only [go_sem, Int.reduceToNat, Nat.reduceLT, reduceIte, Nat.reduceEqDiff, Nat.reduceAdd, Nat.reduceMul, Nat.reduceBEq, reduceCtorEq]; rfl) ?_
              refine AWL.q rfl rfl rfl (by decide) Qt.assign ?_
              refine AWL.nilE (by simp only [go_sem, Int.reduceToNat, Nat.reduceLT, reduceIte, Nat.reduceEqDiff, Nat.reduceAdd, Nat.reduceMul, Nat.reduceBEq, reduceCtorEq]; rfl) ?_
              try dsimp only [thenQ, blockQ]
              refine AW.seq ?_
              refine AW.seq ?_
              refine AW.region ?_
              refine AWL.q rfl rfl rfl (by decide) Qt.move ?_
              refine AWL.q rfl rfl rfl (by decide) (Qt.binOp rfl rfl rfl) ?_
              refine AWL.nilE (by simp only [go_sem, Int.reduceToNat, Nat.reduceLT, reduceIte, Nat.reduceEqDiff, Nat.reduceAdd, Nat.reduceMul, Nat.reduceBEq, reduceCtorEq]; rfl) ?_
              try dsimp only [thenQ, blockQ]
              refine AW.cond rfl (fun c7 => ?_) (fun c7 => ?_)
              · have k7 := c7
                try simp only [decide_eq_true_eq, decide_eq_false_iff_not, bne_iff_ne, ne_eq, beq_iff_eq, beq_eq_false_iff_ne, bne_eq_false_iff_eq, Bool.not_eq_true', Bool.not_eq_false', Bool.and_eq_true, Bool.or_eq_true, Bool.and_eq_false_iff, Bool.or_eq_false_iff, Int.not_lt, Int.not_le, Int.toNat_natCast] at c7
                refine AW.seq ?_
                refine AW.region ?_
                refine AWL.q rfl rfl rfl (by decide) Qt.assign ?_
                refine AWL.nilE (by simp only [go_sem, Int.reduceToNat, Nat.reduceLT, reduceIte, Nat.reduceEqDiff, Nat.reduceAdd, Nat.reduceMul, Nat.reduceBEq, reduceCtorEq]; rfl) ?_
                try dsimp only [thenQ, blockQ]
                refine AW.ret ?_
                try dsimp only [thenQ, blockQ]
                refine endQ_ret (.cons (.tmp 4) .nil) ?_
                simp only [retX, slotL, reduceIte, Nat.reduceEqDiff]
                first | rfl | (congr 2; simp only [szd, Mk.wt] at *; omega)
              · have k7 := c7
                try simp only [decide_eq_true_eq, decide_eq_false_iff_not, bne_iff_ne, ne_eq, beq_iff_eq, beq_eq_false_iff_ne, bne_eq_false_iff_eq, Bool.not_eq_true', Bool.not_eq_false', Bool.and_eq_true, Bool.or_eq_true, Bool.and_eq_false_iff, Bool.or_eq_false_iff, Int.not_lt, Int.not_le, Int.toNat_natCast] at c7
                refine AW.skip ?_
                dsimp only [thenQ, blockQ]
                refine AW.seq ?_
                refine AW.region ?_
                refine AWL.q rfl rfl rfl (by decide) (Qt.fieldAddr rfl fl54_9 rfl rfl (by decide)) ?_
                refine AWL.nrm (by simp only [go_sem, Int.reduceToNat, Nat.reduceLT, reduceIte, Nat.reduceEqDiff, Nat.reduceAdd, Nat.reduceMul, Nat.reduceBEq, reduceCtorEq]; rfl) ?_
                refine AWL.q rfl rfl rfl (by decide) (Qt.loadG rfl rfl rfl ag52 sz52 (by decide)) ?_
                refine AWL.q rfl rfl rfl (by decide) Qt.move ?_
                refine AWL.step rfl rfl (Stp.callV rfl (by decide) Try.call58 rfl rfl (szARing_con _ _ (by first | omega | (repeat (first | omega | apply szd_lo))) (by first | omega | (repeat (first | omega | apply szd_hi))))) ?_
                refine AWL.nrm (by simp only [go_sem, Int.reduceToNat, Nat.reduceLT, reduceIte, Nat.reduceEqDiff, Nat.reduceAdd, Nat.reduceMul, Nat.reduceBEq, reduceCtorEq]; rfl) ?_
                refine AWL.q rfl rfl rfl (by decide) Qt.assign ?_
                refine AWL.nilE (by simp only [go_sem, Int.reduceToNat, Nat.reduceLT, reduceIte, Nat.reduceEqDiff, Nat.reduceAdd, Nat.reduceMul, Nat.reduceBEq, reduceCtorEq]; rfl) ?_
                try dsimp only [thenQ, blockQ]
                refine AW.seq ?_
                refine AW.seq ?_
                refine AW.region ?_
                refine AWL.q rfl rfl rfl (by decide) Qt.move ?_
                refine AWL.q rfl rfl rfl (by decide) (Qt.binOp rfl rfl rfl) ?_
                refine AWL.nilE (by simp only [go_sem, Int.reduceToNat, Nat.reduceLT, reduceIte, Nat.reduceEqDiff, Nat.reduceAdd, Nat.reduceMul, Nat.reduceBEq, reduceCtorEq]; rfl) ?_
                try dsimp only [thenQ, blockQ]
                refine AW.cond rfl (fun c8 => ?_) (fun c8 => ?_)
                · have k8 := c8
                  try simp only [decide_eq_true_eq, decide_eq_false_iff_not, bne_iff_ne, ne_eq, beq_iff_eq, beq_eq_false_iff_ne, bne_eq_false_iff_eq, Bool.not_eq_true', Bool.not_eq_false', Bool.and_eq_true, Bool.or_eq_true, Bool.and_eq_false_iff, Bool.or_eq_false_iff, Int.not_lt, Int.not_le, Int.toNat_natCast] at c8
                  refine AW.seq ?_
                  refine AW.region ?_
                  refine AWL.q rfl rfl rfl (by decide) Qt.assign ?_
                  refine AWL.nilE (by simp only [go_sem, Int.reduceToNat, Nat.reduceLT, reduceIte, Nat.reduceEqDiff, Nat.reduceAdd, Nat.reduceMul, Nat.reduceBEq, reduceCtorEq]; rfl) ?_
                  try dsimp only [thenQ, blockQ]
                  refine AW.ret ?_
                  try dsimp only [thenQ, blockQ]
                  refine endQ_ret (.cons (.tmp 4) .nil) ?_
                  simp only [retX, slotL, reduceIte, Nat.reduceEqDiff]
                  first | rfl | (congr 2; simp only [szd, Mk.wt] at *; omega)
                · have k8 := c8
                  try simp only [decide_eq_true_eq, decide_eq_false_iff_not, bne_iff_ne, ne_eq, beq_iff_eq, beq_eq_false_iff_ne, bne_eq_false_iff_eq, Bool.not_eq_true', Bool.not_eq_false', Bool.and_eq_true, Bool.or_eq_true, Bool.and_eq_false_iff, Bool.or_eq_false_iff, Int.not_lt, Int.not_le, Int.toNat_natCast] at c8
                  refine AW.skip ?_
                  dsimp only [thenQ, blockQ]
                  refine AW.seq ?_
                  refine AW.region ?_
                  refine AWL.q rfl rfl rfl (by decide) (Qt.fieldAddr rfl fl54_10 rfl rfl (by decide)) ?_
                  refine AWL.nrm (by simp only [go_sem, Int.reduceToNat, Nat.reduceLT, reduceIte, Nat.reduceEqDiff, Nat.reduceAdd, Nat.reduceMul, Nat.reduceBEq, reduceCtorEq]; rfl) ?_
                  refine AWL.q rfl rfl rfl (by decide) (Qt.load1 rfl rfl rfl ag24) ?_
                  refine AWL.q rfl rfl rfl (by decide) Qt.move ?_
                  refine AWL.step rfl rfl (Stp.callV rfl (by decide) Try.call37 rfl rfl (szIntS_con _ _ (by first | omega | (repeat (first | omega | apply szd_lo))) (by first | omega | (repeat (first | omega | apply szd_hi))))) ?_
                  refine AWL.nrm (by simp only [go_sem, Int.reduceToNat, Nat.reduceLT, reduceIte, Nat.reduceEqDiff, Nat.reduceAdd, Nat.reduceMul, Nat.reduceBEq, reduceCtorEq]; rfl) ?_
                  refine AWL.q rfl rfl rfl (by decide) Qt.assign ?_
                  refine AWL.nilE (by simp only [go_sem, Int.reduceToNat, Nat.reduceLT, reduceIte, Nat.reduceEqDiff, Nat.reduceAdd, Nat.reduceMul, Nat.reduceBEq, reduceCtorEq]; rfl) ?_
                  try dsimp only [thenQ, blockQ]
                  refine AW.seq ?_
                  refine AW.seq ?_
                  refine AW.region ?_
                  refine AWL.q rfl rfl rfl (by decide) Qt.move ?_
                  refine AWL.q rfl rfl rfl (by decide) (Qt.binOp rfl rfl rfl) ?_
                  refine AWL.nilE (by simp only [go_sem, Int.reduceToNat, Nat.reduceLT, reduceIte, Nat.reduceEqDiff, Nat.reduceAdd, Nat.reduceMul, Nat.reduceBEq, reduceCtorEq]; rfl) ?_
                  try dsimp only [thenQ, blockQ]
                  refine AW.cond rfl (fun c9 => ?_) (fun c9 => ?_)
                  · have k9 := c9
                    try simp only [decide_eq_true_eq, decide_eq_false_iff_not, bne_iff_ne, ne_eq, beq_iff_eq, beq_eq_false_iff_ne, bne_eq_false_iff_eq, Bool.not_eq_true', Bool.not_eq_false', Bool.and_eq_true, Bool.or_eq_true, Bool.and_eq_false_iff, Bool.or_eq_false_iff, Int.not_lt, Int.not_le, Int.toNat_natCast] at c9
                    refine AW.seq ?_
                    refine AW.region ?_
                    refine AWL.q rfl rfl rfl (by decide) Qt.assign ?_
                    refine AWL.nilE (by simp only [go_sem, Int.reduceToNat, Nat.reduceLT, reduceIte, Nat.reduceEqDiff, Nat.reduceAdd, Nat.reduceMul, Nat.reduceBEq, reduceCtorEq]; rfl) ?_
                    try dsimp only [thenQ, blockQ]
                    refine AW.ret ?_
                    try dsimp only [thenQ, blockQ]
                    refine endQ_ret (.cons (.tmp 4) .nil) ?_
                    simp only [retX, slotL, reduceIte, Nat.reduceEqDiff]
                    first | rfl | (congr 2; simp only [szd, Mk.wt] at *; omega)
                  · have k9 := c9
                    try simp only [decide_eq_true_eq, decide_eq_false_iff_not, bne_iff_ne, ne_eq, beq_iff_eq, beq_eq_false_iff_ne, bne_eq_false_iff_eq, Bool.not_eq_true', Bool.not_eq_false', Bool.and_eq_true, Bool.or_eq_true, Bool.and_eq_false_iff, Bool.or_eq_false_iff, Int.not_lt, Int.not_le, Int.toNat_natCast] at c9
                    refine AW.skip ?_
                    dsimp only [thenQ, blockQ]
                    refine AW.seq ?_
                    refine AW.region ?_
                    refine AWL.q rfl rfl rfl (by decide) Qt.move ?_
                    refine AWL.nrm (by simp only [go_sem, Int.reduceToNat, Nat.reduceLT, reduceIte, Nat.reduceEqDiff, Nat.reduceAdd, Nat.reduceMul, Nat.reduceBEq, reduceCtorEq]; rfl) ?_
                    refine AWL.q rfl rfl rfl (by decide) Qt.assign ?_
                    refine AWL.nilE (by simp only [go_sem, Int.reduceToNat, Nat.reduceLT, reduceIte, Nat.reduceEqDiff, Nat.reduceAdd, Nat.reduceMul, Nat.reduceBEq, reduceCtorEq]; rfl) ?_
                    try dsimp only [thenQ, blockQ]
                    refine AW.ret ?_
                    try dsimp only [thenQ, blockQ]
                    refine endQ_ret (.cons (.tmp 4) .nil) ?_
                    simp only [retX, slotL, reduceIte, Nat.reduceEqDiff]
                    first | rfl | (congr 2; simp only [szd, Mk.wt] at *; omega)
set_option maxHeartbeats 8000000 in
set_option maxRecDepth 10000 in
theorem toIns_con (a : DIns) : Con Try.prog 161 [.g [.v (iv a.Op), .v (iv a.A), .v (iv a.B), .v (iv a.C)]] [] (Ret (.g [.v (iv a.Op), .v (iv a.A), .v (iv a.B), .v (iv a.C)]) []) := by
  refine Con.of_body Try.func161 rfl (by simp) ?_
  rw [Try.ntmps161]
  refine AW.seq ?_
  refine AW.region ?_
  refine AWL.step rfl rfl (Stp.boxB rfl (by decide) (by decide) rfl rfl rfl rfl) ?_
  refine AWL.nrm (by simp only [go_sem, Int.reduceToNat, Nat.reduceLT, reduceIte, Nat.reduceEqDiff, Nat.reduceAdd, Nat.reduceMul, Nat.reduceBEq, reduceCtorEq]; rfl) ?_
  refine AWL.step rfl rfl (Stp.alloc rfl (by decide) (by decide)) ?_
  refine AWL.nilE (by simp only [go_sem, Int.reduceToNat, Nat.reduceLT, reduceIte, Nat.reduceEqDiff, Nat.reduceAdd, Nat.reduceMul, Nat.reduceBEq, reduceCtorEq]; rfl) ?_
  try dsimp only [thenQ, blockQ]
  refine AW.seq ?_
  refine AW.region ?_
  refine AWL.step rfl rfl (Stp.alloc rfl (by decide) (by decide)) ?_
  refine AWL.nilE (by simp only [go_sem, Int.reduceToNat, Nat.reduceLT, reduceIte, Nat.reduceEqDiff, Nat.reduceAdd, Nat.reduceMul, Nat.reduceBEq, reduceCtorEq]; rfl) ?_
  try dsimp only [thenQ, blockQ]
  refine AW.seq ?_
  refine AW.region ?_
  refine AWL.q rfl rfl rfl (by decide) (Qt.fieldAddr rfl fl220_0 rfl rfl (by decide)) ?_
  refine AWL.nrm (by simp only [go_sem, Int.reduceToNat, Nat.reduceLT, reduceIte, Nat.reduceEqDiff, Nat.reduceAdd, Nat.reduceMul, Nat.reduceBEq, reduceCtorEq]; rfl) ?_
  refine AWL.q rfl rfl rfl (by decide) (Qt.load1 rfl rfl rfl ag3) ?_
  refine AWL.q rfl rfl rfl (by decide) (Qt.fieldAddr rfl fl218_0 rfl rfl (by decide)) ?_
  refine AWL.step rfl rfl (by first | exact Stp.storeA rfl rfl rfl rfl (by decide) rfl | exact Stp.store rfl rfl (by simp) rfl rfl rfl (by decide) rfl) ?_
  refine AWL.nilE (by simp only [go_sem, Int.reduceToNat, Nat.reduceLT, reduceIte, Nat.reduceEqDiff, Nat.reduceAdd, Nat.reduceMul, Nat.reduceBEq, reduceCtorEq]; rfl) ?_
  try dsimp only [thenQ, blockQ]
  refine AW.seq ?_
  refine AW.region ?_
  refine AWL.q rfl rfl rfl (by decide) (Qt.fieldAddr rfl fl220_1 rfl rfl (by decide)) ?_
  refine AWL.nrm (by simp only [go_sem, Int.reduceToNat, Nat.reduceLT, reduceIte, Nat.reduceEqDiff, Nat.reduceAdd, Nat.reduceMul, Nat.reduceBEq, reduceCtorEq]; rfl) ?_
  refine AWL.q rfl rfl rfl (by decide) (Qt.load1 rfl rfl rfl ag3) ?_
  refine AWL.q rfl rfl rfl (by decide) (Qt.fieldAddr rfl fl218_1 rfl rfl (by decide)) ?_
  refine AWL.step rfl rfl (by first | exact Stp.storeA rfl rfl rfl rfl (by decide) rfl | exact Stp.store rfl rfl (by simp) rfl rfl rfl (by decide) rfl) ?_
  refine AWL.nilE (by simp only [go_sem, Int.reduceToNat, Nat.reduceLT, reduceIte, Nat.reduceEqDiff, Nat.reduceAdd, Nat.reduceMul, Nat.reduceBEq, reduceCtorEq]; rfl) ?_
  try dsimp only [thenQ, blockQ]
  refine AW.seq ?_
  refine AW.region ?_
  refine AWL.q rfl rfl rfl (by decide) (Qt.fieldAddr rfl fl220_2 rfl rfl (by decide)) ?_
  refine AWL.nrm (by simp only [go_sem, Int.reduceToNat, Nat.reduceLT, reduceIte, Nat.reduceEqDiff, Nat.reduceAdd, Nat.reduceMul, Nat.reduceBEq, reduceCtorEq]; rfl) ?_
  refine AWL.q rfl rfl rfl (by decide) (Qt.load1 rfl rfl rfl ag3) ?_
  refine AWL.q rfl rfl rfl (by decide) (Qt.fieldAddr rfl fl218_2 rfl rfl (by decide)) ?_
  refine AWL.step rfl rfl (by first | exact Stp.storeA rfl rfl rfl rfl (by decide) rfl | exact Stp.store rfl rfl (by simp) rfl rfl rfl (by decide) rfl) ?_
  refine AWL.nilE (by simp only [go_sem, Int.reduceToNat, Nat.reduceLT, reduceIte, Nat.reduceEqDiff, Nat.reduceAdd, Nat.reduceMul, Nat.reduceBEq, reduceCtorEq]; rfl) ?_
  try dsimp only [thenQ, blockQ]
  refine AW.seq ?_
  refine AW.region ?_
  refine AWL.q rfl rfl rfl (by decide) (Qt.fieldAddr rfl fl220_3 rfl rfl (by decide)) ?_
  refine AWL.nrm (by simp only [go_sem, Int.reduceToNat, Nat.reduceLT, reduceIte, Nat.reduceEqDiff, Nat.reduceAdd, Nat.reduceMul, Nat.reduceBEq, reduceCtorEq]; rfl) ?_
  refine AWL.q rfl rfl rfl (by decide) (Qt.load1 rfl rfl rfl ag3) ?_
  refine AWL.q rfl rfl rfl (by decide) (Qt.fieldAddr rfl fl218_3 rfl rfl (by decide)) ?_
  refine AWL.step rfl rfl (by first | exact Stp.storeA rfl rfl rfl rfl (by decide) rfl | exact Stp.store rfl rfl (by simp) rfl rfl rfl (by decide) rfl) ?_
  refine AWL.nilE (by simp only [go_sem, Int.reduceToNat, Nat.reduceLT, reduceIte, Nat.reduceEqDiff, Nat.reduceAdd, Nat.reduceMul, Nat.reduceBEq, reduceCtorEq]; rfl) ?_
  try dsimp only [thenQ, blockQ]
  refine AW.seq ?_
  refine AW.region ?_
  refine AWL.q rfl rfl rfl (by decide) (Qt.loadG rfl rfl rfl ag218 sz218 (by decide)) ?_
  refine AWL.nrm (by simp only [go_sem, Int.reduceToNat, Nat.reduceLT, reduceIte, Nat.reduceEqDiff, Nat.reduceAdd, Nat.reduceMul, Nat.reduceBEq, reduceCtorEq]; rfl) ?_
  refine AWL.step rfl rfl (by first | exact Stp.storeA rfl rfl rfl rfl (by decide) rfl | exact Stp.store rfl rfl (by simp) rfl rfl rfl (by decide) rfl) ?_
  refine AWL.nilE (by simp only [go_sem, Int.reduceToNat, Nat.reduceLT, reduceIte, Nat.reduceEqDiff, Nat.reduceAdd, Nat.reduceMul, Nat.reduceBEq, reduceCtorEq]; rfl) ?_
  try dsimp only [thenQ, blockQ]
  refine AW.ret ?_
  try dsimp only [thenQ, blockQ]
  refine endQ_ret (.cons (.cellG 2 218 rfl rfl rfl ag218 sz218 (by decide)) .nil) ?_
  refine ⟨fun _ => 0, rfl, nodup_of rfl, ?_⟩
  intro r hr
  cases hr
set_option maxHeartbeats 8000000 in
set_option maxRecDepth 10000 in
theorem toInsS_con (a : List DIns) (hw : Mk.wt a ≤ 1048576) : Con Try.prog 76 [.h base []] [.rt base .ro (tr a)] (Ret (.h 0 []) [(0, .row, tr a)]) := by
  refine Con.of_body Try.func76 rfl (by simp) ?_
  rw [Try.ntmps76]
  have hw2 : a.length + wtL Mk.wt a ≤ 1048576 := hw
  refine AW.seq ?_
  refine AW.region ?_
  refine AWL.q rfl rfl rfl (by decide) Qt.assign ?_
  refine AWL.nilE (by simp only [go_sem, Int.reduceToNat, Nat.reduceLT, reduceIte, Nat.reduceEqDiff, Nat.reduceAdd, Nat.reduceMul, Nat.reduceBEq, reduceCtorEq]; rfl) ?_
  try dsimp only [thenQ, blockQ]
  refine AW.seq ?_
  refine AW.region ?_
  refine AWL.q rfl rfl rfl (by decide) Qt.move ?_
  refine AWL.q rfl rfl rfl (by decide) (Qt.lenH rfl rfl rfl sl134) ?_
  refine AWL.nrm (by simp only [go_sem, Int.reduceToNat, Nat.reduceLT, reduceIte, Nat.reduceEqDiff, Nat.reduceAdd, Nat.reduceMul, Nat.reduceBEq, reduceCtorEq]; rfl) ?_
  refine AWL.step rfl rfl (Stp.makeSlice rfl (by decide) (by decide) rfl rfl (by omega) (by omega) (by omega)) ?_
  refine AWL.nrm (by simp only [go_sem, Int.reduceToNat, Nat.reduceLT, reduceIte, Nat.reduceEqDiff, Nat.reduceAdd, Nat.reduceMul, Nat.reduceBEq, reduceCtorEq]; rfl) ?_
  refine AWL.q rfl rfl rfl (by decide) Qt.assign ?_
  refine AWL.nilE (by simp only [go_sem, Int.reduceToNat, Nat.reduceLT, reduceIte, Nat.reduceEqDiff, Nat.reduceAdd, Nat.reduceMul, Nat.reduceBEq, reduceCtorEq]; rfl) ?_
  try dsimp only [thenQ, blockQ]
  refine AW.seq ?_
  refine AW.seq ?_
  refine AW.region ?_
  refine AWL.q rfl rfl rfl (by decide) Qt.assign ?_
  refine AWL.nilE (by simp only [go_sem, Int.reduceToNat, Nat.reduceLT, reduceIte, Nat.reduceEqDiff, Nat.reduceAdd, Nat.reduceMul, Nat.reduceBEq, reduceCtorEq]; rfl) ?_
  try dsimp only [thenQ, blockQ]
  refine AW.block ?_
  refine AW.weak (L' := [.sl 4 (.v (iv (0 : Nat))), .sl 3 (.h 7 []), .sl 0 (.h base []), .rt 7 .row (trMix (0 : Nat) a.length (fun j => a.getD j En.dflt) fun _ => En.dflt), .rt base .ro (tr a)]) (Weak.sim ⟨rfl, rfl, rfl, ⟨_, rfl, (trMix_start rfl (fun c hc => match c, hc with | 0, _ => T.sim_refl _ | 1, _ => T.sim_refl _ | 2, _ => T.sim_refl _ | 3, _ => T.sim_refl _ | c + 4, hc => absurd hc (by simp only [En.n]; omega)))⟩, ⟨_, rfl, T.sim_refl _⟩, trivial⟩ rfl rfl) ?_
  refine AW.loop (fun i : KInv a.length => [.sl 4 (.v (iv i.k)), .sl 3 (.h 7 []), .sl 0 (.h base []), .rt 7 .row (trMix i.k a.length (fun j => a.getD j En.dflt) fun _ => En.dflt), .rt base .ro (tr a)]) (fun i => a.length - i.k) ⟨0, Nat.zero_le _⟩ ?_
  intro i
  have hle := i.le
  refine AW.seq ?_
  refine AW.seq ?_
  refine AW.region ?_
  refine AWL.q rfl rfl rfl (by decide) Qt.move ?_
  refine AWL.nrm (by simp only [go_sem, Int.reduceToNat, Nat.reduceLT, reduceIte, Nat.reduceEqDiff, Nat.reduceAdd, Nat.reduceMul, Nat.reduceBEq, reduceCtorEq]; rfl) ?_
  refine AWL.q rfl rfl rfl (by decide) Qt.move ?_
  refine AWL.q rfl rfl rfl (by decide) (Qt.lenH rfl rfl rfl sl134) ?_
  refine AWL.q rfl rfl rfl (by decide) (Qt.binOp rfl rfl rfl) ?_
  refine AWL.nilE (by simp only [go_sem, Int.reduceToNat, Nat.reduceLT, reduceIte, Nat.reduceEqDiff, Nat.reduceAdd, Nat.reduceMul, Nat.reduceBEq, reduceCtorEq]; rfl) ?_
  try dsimp only [thenQ, blockQ]
  refine AW.cond rfl (fun c1 => ?_) (fun c1 => ?_)
  · have k1 := c1
    try simp only [decide_eq_true_eq, decide_eq_false_iff_not, bne_iff_ne, ne_eq, beq_iff_eq, beq_eq_false_iff_ne, bne_eq_false_iff_eq, Bool.not_eq_true', Bool.not_eq_false', Bool.and_eq_true, Bool.or_eq_true, Bool.and_eq_false_iff, Bool.or_eq_false_iff, Int.not_lt, Int.not_le, Int.toNat_natCast] at c1
    have hwk := wtL_get (w := Mk.wt) (d := En.dflt) (l := a) (i := i.k) (by omega)
    refine AW.skip ?_
    dsimp only [thenQ, blockQ]
    refine AW.seq ?_
    refine AW.block ?_
    refine AW.region ?_
    refine AWL.q rfl rfl rfl (by decide) Qt.move ?_
    refine AWL.nrm (by simp only [go_sem, Int.reduceToNat, Nat.reduceLT, reduceIte, Nat.reduceEqDiff, Nat.reduceAdd, Nat.reduceMul, Nat.reduceBEq, reduceCtorEq]; rfl) ?_
    refine AWL.q rfl rfl rfl (by decide) Qt.move ?_
    refine AWL.q rfl rfl rfl (by decide) Qt.move ?_
    refine AWL.q rfl rfl rfl (by decide) Qt.move ?_
    refine AWL.nrm (by simp only [go_sem, Int.reduceToNat, Nat.reduceLT, reduceIte, Nat.reduceEqDiff, Nat.reduceAdd, Nat.reduceMul, Nat.reduceBEq, reduceCtorEq]; rfl) ?_
    refine AWL.q rfl rfl rfl (by decide) (Qt.indexAddr rfl rfl rfl rfl sl134 sz220 (by decide) (by omega)) ?_
    refine AWL.q rfl rfl rfl (by decide) (Qt.loadG rfl rfl rfl ag220 sz220 (by decide)) ?_
    refine AWL.step rfl rfl (Stp.callR rfl (by decide) Try.call161 rfl rfl (toIns_con _) (nodup_of rfl) rfl rfl) ?_
    refine AWL.nrm (by simp only [go_sem, Int.reduceToNat, Nat.reduceLT, reduceIte, Nat.reduceEqDiff, Nat.reduceAdd, Nat.reduceMul, Nat.reduceBEq, reduceCtorEq]; rfl) ?_
    refine AWL.q rfl rfl rfl (by decide) (Qt.indexAddr rfl rfl rfl rfl sl138 sz218 (by decide) (by omega)) ?_
    refine AWL.step rfl rfl (by first | exact Stp.storeA rfl rfl rfl rfl (by decide) rfl | exact Stp.store rfl rfl (by simp) rfl rfl rfl (by decide) rfl) ?_
    refine AWL.nilE (by simp only [go_sem, Int.reduceToNat, Nat.reduceLT, reduceIte, Nat.reduceEqDiff, Nat.reduceAdd, Nat.reduceMul, Nat.reduceBEq, reduceCtorEq]; rfl) ?_
    try dsimp only [thenQ, blockQ]
    refine AW.region ?_
    refine AWL.q rfl rfl rfl (by decide) Qt.move ?_
    refine AWL.nrm (by simp only [go_sem, Int.reduceToNat, Nat.reduceLT, reduceIte, Nat.reduceEqDiff, Nat.reduceAdd, Nat.reduceMul, Nat.reduceBEq, reduceCtorEq]; rfl) ?_
    refine AWL.q rfl rfl rfl (by decide) (Qt.binOp rfl rfl (by first | exact pbAdd (by omega) | rfl)) ?_
    refine AWL.q rfl rfl rfl (by decide) Qt.assign ?_
    refine AWL.nilE (by simp only [go_sem, Int.reduceToNat, Nat.reduceLT, reduceIte, Nat.reduceEqDiff, Nat.reduceAdd, Nat.reduceMul, Nat.reduceBEq, reduceCtorEq]; rfl) ?_
    try dsimp only [thenQ, blockQ]
    refine ⟨⟨i.k + 1, by omega⟩, Weak.sim ⟨(by simp only [slotL, reduceIte, Nat.reduceEqDiff]; first | rfl | (rw [IntWalk.i64_in _ (by omega)]; rfl)), rfl, rfl, ⟨_, rfl, trMix_next (fun i c hi => by simp only [upd_app, hi, false_and, if_false]; rfl) (fun c hc => match c, hc with | 0, _ => (by simp only [upd_app, eq_self, and_true, and_false, Nat.reduceEqDiff, if_true, if_false]; exact T.sim_refl _) | 1, _ => (by simp only [upd_app, eq_self, and_true, and_false, Nat.reduceEqDiff, if_true, if_false]; exact T.sim_refl _) | 2, _ => (by simp only [upd_app, eq_self, and_true, and_false, Nat.reduceEqDiff, if_true, if_false]; exact T.sim_refl _) | 3, _ => (by simp only [upd_app, eq_self, and_true, and_false, Nat.reduceEqDiff, if_true, if_false]; exact T.sim_refl _) | c + 4, hc => absurd hc (by simp only [En.n]; omega))⟩, ⟨_, rfl, T.sim_refl _⟩, trivial⟩ rfl rfl, ?_⟩
    show a.length - (i.k + 1) < a.length - i.k
    omega
  · have k1 := c1
    try simp only [decide_eq_true_eq, decide_eq_false_iff_not, bne_iff_ne, ne_eq, beq_iff_eq, beq_eq_false_iff_ne, bne_eq_false_iff_eq, Bool.not_eq_true', Bool.not_eq_false', Bool.and_eq_true, Bool.or_eq_true, Bool.and_eq_false_iff, Bool.or_eq_false_iff, Int.not_lt, Int.not_le, Int.toNat_natCast] at c1
    refine AW.exit ?_
    dsimp only [thenQ, blockQ, reduceIte]
    refine AW.seq ?_
    refine AW.region ?_
    refine AWL.q rfl rfl rfl (by decide) Qt.move ?_
    refine AWL.nrm (by simp only [go_sem, Int.reduceToNat, Nat.reduceLT, reduceIte, Nat.reduceEqDiff, Nat.reduceAdd, Nat.reduceMul, Nat.reduceBEq, reduceCtorEq]; rfl) ?_
    refine AWL.q rfl rfl rfl (by decide) Qt.assign ?_
    refine AWL.nilE (by simp only [go_sem, Int.reduceToNat, Nat.reduceLT, reduceIte, Nat.reduceEqDiff, Nat.reduceAdd, Nat.reduceMul, Nat.reduceBEq, reduceCtorEq]; rfl) ?_
    try dsimp only [thenQ, blockQ]
    refine AW.weak (L' := [.rt 7 .row (tr a), .sl 2 (.h 7 [])]) (Weak.sim ⟨⟨_, rfl, trMix_full (by omega) rfl (fun _ _ => rfl)⟩, rfl, trivial⟩ rfl rfl) ?_
    refine AW.ret ?_
    try dsimp only [thenQ, blockQ]
    refine endQ_ret (.cons (.tmp 2) .nil) ?_
    refine ⟨fun _ => 7, rfl, nodup_of rfl, ?_⟩
    intro r hr
    cases List.mem_singleton.1 hr
    exact ⟨by simp, rootL_mem rfl⟩
set_option maxHeartbeats 8000000 in
set_option maxRecDepth 10000 in
theorem toInsSS_con (a : List (List DIns)) (hw : Mk.wt a ≤ 1048576) : Con Try.prog 20 [.h base []] [.rt base .ro (tr a)] (Ret (.h 0 []) [(0, .row, tr a)]) := by
  refine Con.of_body Try.func20 rfl (by simp) ?_
  rw [Try.ntmps20]
  have hw2 : a.length + wtL Mk.wt a ≤ 1048576 := hw
  refine AW.seq ?_
  refine AW.region ?_
  refine AWL.q rfl rfl rfl (by decide) Qt.assign ?_
  refine AWL.nilE (by simp only [go_sem, Int.reduceToNat, Nat.reduceLT, reduceIte, Nat.reduceEqDiff, Nat.reduceAdd, Nat.reduceMul, Nat.reduceBEq, reduceCtorEq]; rfl) ?_
  try dsimp only [thenQ, blockQ]
  refine AW.seq ?_
  refine AW.region ?_
  refine AWL.q rfl rfl rfl (by decide) Qt.move ?_
  refine AWL.q rfl rfl rfl (by decide) (Qt.lenH rfl rfl rfl sl22) ?_
  refine AWL.nrm (by simp only [go_sem, Int.reduceToNat, Nat.reduceLT, reduceIte, Nat.reduceEqDiff, Nat.reduceAdd, Nat.reduceMul, Nat.reduceBEq, reduceCtorEq]; rfl) ?_
  refine AWL.step rfl rfl (Stp.makeSlice rfl (by decide) (by decide) rfl rfl (by omega) (by omega) (by omega)) ?_
  refine AWL.nrm (by simp only [go_sem, Int.reduceToNat, Nat.reduceLT, reduceIte, Nat.reduceEqDiff, Nat.reduceAdd, Nat.reduceMul, Nat.reduceBEq, reduceCtorEq]; rfl) ?_
  refine AWL.q rfl rfl rfl (by decide) Qt.assign ?_
  refine AWL.nilE (by simp only [go_sem, Int.reduceToNat, Nat.reduceLT, reduceIte, Nat.reduceEqDiff, Nat.reduceAdd, Nat.reduceMul, Nat.reduceBEq, reduceCtorEq]; rfl) ?_
  try dsimp only [thenQ, blockQ]
  refine AW.seq ?_
  refine AW.seq ?_
  refine AW.region ?_
  refine AWL.q rfl rfl rfl (by decide) Qt.assign ?_
  refine AWL.nilE (by simp only [go_sem, Int.reduceToNat, Nat.reduceLT, reduceIte, Nat.reduceEqDiff, Nat.reduceAdd, Nat.reduceMul, Nat.reduceBEq, reduceCtorEq]; rfl) ?_
  try dsimp only [thenQ, blockQ]
  refine AW.block ?_
  refine AW.weak (L' := [.sl 4 (.v (iv (0 : Nat))), .sl 3 (.h 7 []), .sl 0 (.h base []), .rt 7 .row (trMix (0 : Nat) a.length (fun j => a.getD j En.dflt) fun _ => En.dflt), .rt base .ro (tr a)]) (Weak.sim ⟨rfl, rfl, rfl, ⟨_, rfl, (trMix_start rfl (fun c hc => match c, hc with | 0, _ => sim_nil | c + 1, hc => absurd hc (by simp only [En.n]; omega)))⟩, ⟨_, rfl, T.sim_refl _⟩, trivial⟩ rfl rfl) ?_
  refine AW.loop (fun i : KInv a.length => [.sl 4 (.v (iv i.k)), .sl 3 (.h 7 []), .sl 0 (.h base []), .rt 7 .row (trMix i.k a.length (fun j => a.getD j En.dflt) fun _ => En.dflt), .rt base .ro (tr a)]) (fun i => a.length - i.k) ⟨0, Nat.zero_le _⟩ ?_
  intro i
  have hle := i.le
  refine AW.seq ?_
  refine AW.seq ?_
  refine AW.region ?_
  refine AWL.q rfl rfl rfl (by decide) Qt.move ?_
  refine AWL.nrm (by simp only [go_sem, Int.reduceToNat, Nat.reduceLT, reduceIte, Nat.reduceEqDiff, Nat.reduceAdd, Nat.reduceMul, Nat.reduceBEq, reduceCtorEq]; rfl) ?_
  refine AWL.q rfl rfl rfl (by decide) Qt.move ?_
  refine AWL.q rfl rfl rfl (by decide) (Qt.lenH rfl rfl rfl sl22) ?_
  refine AWL.q rfl rfl rfl (by decide) (Qt.binOp rfl rfl rfl) ?_
  refine AWL.nilE (by simp only [go_sem, Int.reduceToNat, Nat.reduceLT, reduceIte, Nat.reduceEqDiff, Nat.reduceAdd, Nat.reduceMul, Nat.reduceBEq, reduceCtorEq]; rfl) ?_
  try dsimp only [thenQ, blockQ]
  refine AW.cond rfl (fun c1 => ?_) (fun c1 => ?_)
  · have k1 := c1
    try simp only [decide_eq_true_eq, decide_eq_false_iff_not, bne_iff_ne, ne_eq, beq_iff_eq, beq_eq_false_iff_ne, bne_eq_false_iff_eq, Bool.not_eq_true', Bool.not_eq_false', Bool.and_eq_true, Bool.or_eq_true, Bool.and_eq_false_iff, Bool.or_eq_false_iff, Int.not_lt, Int.not_le, Int.toNat_natCast] at c1
    have hwk := wtL_get (w := Mk.wt) (d := En.dflt) (l := a) (i := i.k) (by omega)
    refine AW.skip ?_
    dsimp only [thenQ, blockQ]
    refine AW.seq ?_
    refine AW.block ?_
    refine AW.region ?_
    refine AWL.q rfl rfl rfl (by decide) Qt.move ?_
    refine AWL.nrm (by simp only [go_sem, Int.reduceToNat, Nat.reduceLT, reduceIte, Nat.reduceEqDiff, Nat.reduceAdd, Nat.reduceMul, Nat.reduceBEq, reduceCtorEq]; rfl) ?_
    refine AWL.q rfl rfl rfl (by decide) Qt.move ?_
    refine AWL.q rfl rfl rfl (by decide) Qt.move ?_
    refine AWL.q rfl rfl rfl (by decide) Qt.move ?_
    refine AWL.nrm (by simp only [go_sem, Int.reduceToNat, Nat.reduceLT, reduceIte, Nat.reduceEqDiff, Nat.reduceAdd, Nat.reduceMul, Nat.reduceBEq, reduceCtorEq]; rfl) ?_
    refine AWL.q rfl rfl rfl (by decide) (Qt.indexAddr rfl rfl rfl rfl sl22 sz134 (by decide) (by omega)) ?_
    refine AWL.q rfl rfl rfl (by decide) (Qt.load1 rfl rfl rfl ag134) ?_
    refine AWL.step rfl rfl (Stp.callR rfl (by decide) Try.call76 rfl rfl (toInsS_con _ (by first | omega | (simp only [Int.toNat_natCast]; omega) | (simp only [Mk.wt] at *; omega))) (nodup_of rfl) rfl rfl) ?_
    refine AWL.nrm (by simp only [go_sem, Int.reduceToNat, Nat.reduceLT, reduceIte, Nat.reduceEqDiff, Nat.reduceAdd, Nat.reduceMul, Nat.reduceBEq, reduceCtorEq]; rfl) ?_
    refine AWL.q rfl rfl rfl (by decide) (Qt.indexAddr rfl rfl rfl rfl sl35 sz138 (by decide) (by omega)) ?_
    refine AWL.step rfl rfl (by first | exact Stp.storeA rfl rfl rfl rfl (by decide) rfl | exact Stp.store rfl rfl (by simp) rfl rfl rfl (by decide) rfl) ?_
    refine AWL.nilE (by simp only [go_sem, Int.reduceToNat, Nat.reduceLT, reduceIte, Nat.reduceEqDiff, Nat.reduceAdd, Nat.reduceMul, Nat.reduceBEq, reduceCtorEq]; rfl) ?_
    try dsimp only [thenQ, blockQ]
    refine AW.region ?_
    refine AWL.q rfl rfl rfl (by decide) Qt.move ?_
    refine AWL.nrm (by simp only [go_sem, Int.reduceToNat, Nat.reduceLT, reduceIte, Nat.reduceEqDiff, Nat.reduceAdd, Nat.reduceMul, Nat.reduceBEq, reduceCtorEq]; rfl) ?_
    refine AWL.q rfl rfl rfl (by decide) (Qt.binOp rfl rfl (by first | exact pbAdd (by omega) | rfl)) ?_
    refine AWL.q rfl rfl rfl (by decide) Qt.assign ?_
    refine AWL.nilE (by simp only [go_sem, Int.reduceToNat, Nat.reduceLT, reduceIte, Nat.reduceEqDiff, Nat.reduceAdd, Nat.reduceMul, Nat.reduceBEq, reduceCtorEq]; rfl) ?_
    try dsimp only [thenQ, blockQ]
    refine ⟨⟨i.k + 1, by omega⟩, Weak.sim ⟨(by simp only [slotL, reduceIte, Nat.reduceEqDiff]; first | rfl | (rw [IntWalk.i64_in _ (by omega)]; rfl)), rfl, rfl, ⟨_, rfl, trMix_next (fun i c hi => by simp only [upd_app, hi, false_and, if_false]; rfl) (fun c hc => match c, hc with | 0, _ => (by simp only [upd_app, eq_self, and_true, and_false, Nat.reduceEqDiff, if_true, if_false]; exact T.sim_refl _) | c + 1, hc => absurd hc (by simp only [En.n]; omega))⟩, ⟨_, rfl, T.sim_refl _⟩, trivial⟩ rfl rfl, ?_⟩
    show a.length - (i.k + 1) < a.length - i.k
    omega
  · have k1 := c1
    try simp only [decide_eq_true_eq, decide_eq_false_iff_not, bne_iff_ne, ne_eq, beq_iff_eq, beq_eq_false_iff_ne, bne_eq_false_iff_eq, Bool.not_eq_true', Bool.not_eq_false', Bool.and_eq_true, Bool.or_eq_true, Bool.and_eq_false_iff, Bool.or_eq_false_iff, Int.not_lt, Int.not_le, Int.toNat_natCast] at c1
    refine AW.exit ?_
    dsimp only [thenQ, blockQ, reduceIte]
    refine AW.seq ?_
    refine AW.region ?_
    refine AWL.q rfl rfl rfl (by decide) Qt.move ?_
    refine AWL.nrm (by simp only [go_sem, Int.reduceToNat, Nat.reduceLT, reduceIte, Nat.reduceEqDiff, Nat.reduceAdd, Nat.reduceMul, Nat.reduceBEq, reduceCtorEq]; rfl) ?_
    refine AWL.q rfl rfl rfl (by decide) Qt.assign ?_
    refine AWL.nilE (by simp only [go_sem, Int.reduceToNat, Nat.reduceLT, reduceIte, Nat.reduceEqDiff, Nat.reduceAdd, Nat.reduceMul, Nat.reduceBEq, reduceCtorEq]; rfl) ?_
    try dsimp only [thenQ, blockQ]
    refine AW.weak (L' := [.rt 7 .row (tr a), .sl 2 (.h 7 [])]) (Weak.sim ⟨⟨_, rfl, trMix_full (by omega) rfl (fun _ _ => rfl)⟩, rfl, trivial⟩ rfl rfl) ?_
    refine AW.ret ?_
    try dsimp only [thenQ, blockQ]
    refine endQ_ret (.cons (.tmp 2) .nil) ?_
    refine ⟨fun _ => 7, rfl, nodup_of rfl, ?_⟩
    intro r hr
    cases List.mem_singleton.1 hr
    exact ⟨by simp, rootL_mem rfl⟩
set_option maxHeartbeats 8000000 in
set_option maxRecDepth 10000 in
theorem toIntS_con (a : List Int) (hw : Mk.wt a ≤ 1048576) : Con Try.prog 43 [.h base []] [.rt base .ro (tr a)] (Ret (.h 0 []) [(0, .row, tr a)]) := by
  refine Con.of_body Try.func43 rfl (by simp) ?_
  rw [Try.ntmps43]
  have hw2 : a.length + wtL Mk.wt a ≤ 1048576 := hw
  refine AW.seq ?_
  refine AW.region ?_
  refine AWL.q rfl rfl rfl (by decide) Qt.assign ?_
  refine AWL.nilE (by simp only [go_sem, Int.reduceToNat, Nat.reduceLT, reduceIte, Nat.reduceEqDiff, Nat.reduceAdd, Nat.reduceMul, Nat.reduceBEq, reduceCtorEq]; rfl) ?_
  try dsimp only [thenQ, blockQ]
  refine AW.seq ?_
  refine AW.region ?_
  refine AWL.q rfl rfl rfl (by decide) Qt.move ?_
  refine AWL.q rfl rfl rfl (by decide) (Qt.lenH rfl rfl rfl sl24) ?_
  refine AWL.nrm (by simp only [go_sem, Int.reduceToNat, Nat.reduceLT, reduceIte, Nat.reduceEqDiff, Nat.reduceAdd, Nat.reduceMul, Nat.reduceBEq, reduceCtorEq]; rfl) ?_
  refine AWL.step rfl rfl (Stp.makeSlice rfl (by decide) (by decide) rfl rfl (by omega) (by omega) (by omega)) ?_
  refine AWL.nrm (by simp only [go_sem, Int.reduceToNat, Nat.reduceLT, reduceIte, Nat.reduceEqDiff, Nat.reduceAdd, Nat.reduceMul, Nat.reduceBEq, reduceCtorEq]; rfl) ?_
  refine AWL.q rfl rfl rfl (by decide) Qt.assign ?_
  refine AWL.nilE (by simp only [go_sem, Int.reduceToNat, Nat.reduceLT, reduceIte, Nat.reduceEqDiff, Nat.reduceAdd, Nat.reduceMul, Nat.reduceBEq, reduceCtorEq]; rfl) ?_
  try dsimp only [thenQ, blockQ]
  refine AW.seq ?_
  refine AW.seq ?_
  refine AW.region ?_
  refine AWL.q rfl rfl rfl (by decide) Qt.assign ?_
  refine AWL.nilE (by simp only [go_sem, Int.reduceToNat, Nat.reduceLT, reduceIte, Nat.reduceEqDiff, Nat.reduceAdd, Nat.reduceMul, Nat.reduceBEq, reduceCtorEq]; rfl) ?_
  try dsimp only [thenQ, blockQ]
  refine AW.block ?_
  refine AW.weak (L' := [.sl 4 (.v (iv (0 : Nat))), .sl 3 (.h 7 []), .sl 0 (.h base []), .rt 7 .row (trMix (0 : Nat) a.length (fun j => a.getD j En.dflt) fun _ => En.dflt), .rt base .ro (tr a)]) (Weak.sim ⟨rfl, rfl, rfl, ⟨_, rfl, (trMix_start rfl (fun c hc => match c, hc with | 0, _ => T.sim_refl _ | c + 1, hc => absurd hc (by simp only [En.n]; omega)))⟩, ⟨_, rfl, T.sim_refl _⟩, trivial⟩ rfl rfl) ?_
  refine AW.loop (fun i : KInv a.length => [.sl 4 (.v (iv i.k)), .sl 3 (.h 7 []), .sl 0 (.h base []), .rt 7 .row (trMix i.k a.length (fun j => a.getD j En.dflt) fun _ => En.dflt), .rt base .ro (tr a)]) (fun i => a.length - i.k) ⟨0, Nat.zero_le _⟩ ?_
  intro i
  have hle := i.le
  refine AW.seq ?_
  refine AW.seq ?_
  refine AW.region ?_
  refine AWL.q rfl rfl rfl (by decide) Qt.move ?_
  refine AWL.nrm (by simp only [go_sem, Int.reduceToNat, Nat.reduceLT, reduceIte, Nat.reduceEqDiff, Nat.reduceAdd, Nat.reduceMul, Nat.reduceBEq, reduceCtorEq]; rfl) ?_
  refine AWL.q rfl rfl rfl (by decide) Qt.move ?_
  refine AWL.q rfl rfl rfl (by decide) (Qt.lenH rfl rfl rfl sl24) ?_
  refine AWL.q rfl rfl rfl (by decide) (Qt.binOp rfl rfl rfl) ?_
  refine AWL.nilE (by simp only [go_sem, Int.reduceToNat, Nat.reduceLT, reduceIte, Nat.reduceEqDiff, Nat.reduceAdd, Nat.reduceMul, Nat.reduceBEq, reduceCtorEq]; rfl) ?_
  try dsimp only [thenQ, blockQ]
  refine AW.cond rfl (fun c1 => ?_) (fun c1 => ?_)
  · have k1 := c1
    try simp only [decide_eq_true_eq, decide_eq_false_iff_not, bne_iff_ne, ne_eq, beq_iff_eq, beq_eq_false_iff_ne, bne_eq_false_iff_eq, Bool.not_eq_true', Bool.not_eq_false', Bool.and_eq_true, Bool.or_eq_true, Bool.and_eq_false_iff, Bool.or_eq_false_iff, Int.not_lt, Int.not_le, Int.toNat_natCast] at c1
    have hwk := wtL_get (w := Mk.wt) (d := En.dflt) (l := a) (i := i.k) (by omega)
    refine AW.skip ?_
    dsimp only [thenQ, blockQ]
    refine AW.seq ?_
    refine AW.block ?_
    refine AW.region ?_
    refine AWL.q rfl rfl rfl (by decide) Qt.move ?_
    refine AWL.nrm (by simp only [go_sem, Int.reduceToNat, Nat.reduceLT, reduceIte, Nat.reduceEqDiff, Nat.reduceAdd, Nat.reduceMul, Nat.reduceBEq, reduceCtorEq]; rfl) ?_
    refine AWL.q rfl rfl rfl (by decide) Qt.move ?_
    refine AWL.q rfl rfl rfl (by decide) Qt.move ?_
    refine AWL.q rfl rfl rfl (by decide) Qt.move ?_
    refine AWL.nrm (by simp only [go_sem, Int.reduceToNat, Nat.reduceLT, reduceIte, Nat.reduceEqDiff, Nat.reduceAdd, Nat.reduceMul, Nat.reduceBEq, reduceCtorEq]; rfl) ?_
    refine AWL.q rfl rfl rfl (by decide) (Qt.indexAddr rfl rfl rfl rfl sl24 sz3 (by decide) (by omega)) ?_
    refine AWL.q rfl rfl rfl (by decide) (Qt.load1 rfl rfl rfl ag3) ?_
    refine AWL.q rfl rfl rfl (by decide) (Qt.indexAddr rfl rfl rfl rfl sl24 sz3 (by decide) (by omega)) ?_
    refine AWL.nrm (by simp only [go_sem, Int.reduceToNat, Nat.reduceLT, reduceIte, Nat.reduceEqDiff, Nat.reduceAdd, Nat.reduceMul, Nat.reduceBEq, reduceCtorEq]; rfl) ?_
    refine AWL.step rfl rfl (by first | exact Stp.storeA rfl rfl rfl rfl (by decide) rfl | exact Stp.store rfl rfl (by simp) rfl rfl rfl (by decide) rfl) ?_
    refine AWL.nilE (by simp only [go_sem, Int.reduceToNat, Nat.reduceLT, reduceIte, Nat.reduceEqDiff, Nat.reduceAdd, Nat.reduceMul, Nat.reduceBEq, reduceCtorEq]; rfl) ?_
    try dsimp only [thenQ, blockQ]
    refine AW.region ?_
    refine AWL.q rfl rfl rfl (by decide) Qt.move ?_
    refine AWL.nrm (by simp only [go_sem, Int.reduceToNat, Nat.reduceLT, reduceIte, Nat.reduceEqDiff, Nat.reduceAdd, Nat.reduceMul, Nat.reduceBEq, reduceCtorEq]; rfl) ?_
    refine AWL.q rfl rfl rfl (by decide) (Qt.binOp rfl rfl (by first | exact pbAdd (by omega) | rfl)) ?_
    refine AWL.q rfl rfl rfl (by decide) Qt.assign ?_
    refine AWL.nilE (by simp only [go_sem, Int.reduceToNat, Nat.reduceLT, reduceIte, Nat.reduceEqDiff, Nat.reduceAdd, Nat.reduceMul, Nat.reduceBEq, reduceCtorEq]; rfl) ?_
    try dsimp only [thenQ, blockQ]
    refine ⟨⟨i.k + 1, by omega⟩, Weak.sim ⟨(by simp only [slotL, reduceIte, Nat.reduceEqDiff]; first | rfl | (rw [IntWalk.i64_in _ (by omega)]; rfl)), rfl, rfl, ⟨_, rfl, trMix_next (fun i c hi => by simp only [upd_app, hi, false_and, if_false]; rfl) (fun c hc => match c, hc with | 0, _ => (by simp only [upd_app, eq_self, and_true, and_false, Nat.reduceEqDiff, if_true, if_false]; exact T.sim_refl _) | c + 1, hc => absurd hc (by simp only [En.n]; omega))⟩, ⟨_, rfl, T.sim_refl _⟩, trivial⟩ rfl rfl, ?_⟩
    show a.length - (i.k + 1) < a.length - i.k
    omega
  · have k1 := c1
    try simp only [decide_eq_true_eq, decide_eq_false_iff_not, bne_iff_ne, ne_eq, beq_iff_eq, beq_eq_false_iff_ne, bne_eq_false_iff_eq, Bool.not_eq_true', Bool.not_eq_false', Bool.and_eq_true, Bool.or_eq_true, Bool.and_eq_false_iff, Bool.or_eq_false_iff, Int.not_lt, Int.not_le, Int.toNat_natCast] at c1
    refine AW.exit ?_
    dsimp only [thenQ, blockQ, reduceIte]
    refine AW.seq ?_
    refine AW.region ?_
    refine AWL.q rfl rfl rfl (by decide) Qt.move ?_
    refine AWL.nrm (by simp only [go_sem, Int.reduceToNat, Nat.reduceLT, reduceIte, Nat.reduceEqDiff, Nat.reduceAdd, Nat.reduceMul, Nat.reduceBEq, reduceCtorEq]; rfl) ?_
    refine AWL.q rfl rfl rfl (by decide) Qt.assign ?_
    refine AWL.nilE (by simp only [go_sem, Int.reduceToNat, Nat.reduceLT, reduceIte, Nat.reduceEqDiff, Nat.reduceAdd, Nat.reduceMul, Nat.reduceBEq, reduceCtorEq]; rfl) ?_
    try dsimp only [thenQ, blockQ]
    refine AW.weak (L' := [.rt 7 .row (tr a), .sl 2 (.h 7 [])]) (Weak.sim ⟨⟨_, rfl, trMix_full (by omega) rfl (fun _ _ => rfl)⟩, rfl, trivial⟩ rfl rfl) ?_
    refine AW.ret ?_
    try dsimp only [thenQ, blockQ]
    refine endQ_ret (.cons (.tmp 2) .nil) ?_
    refine ⟨fun _ => 7, rfl, nodup_of rfl, ?_⟩
    intro r hr
    cases List.mem_singleton.1 hr
    exact ⟨by simp, rootL_mem rfl⟩
set_option maxHeartbeats 8000000 in
set_option maxRecDepth 10000 in
theorem toASlot_con (a : DASlot) (hw : Mk.wt a ≤ 1048576) : Con Try.prog 142 [.g [.v (.bool a.Used), .v (iv a.Pid), .v (iv a.Parent), .v (iv a.State), .v (iv a.Prog), .v (iv a.Pc), .v (iv a.Until), .v (iv a.Code), .h base [], .h (base + 1) [], .h (base + 2) []]] [.rt base .ro (tr a.Regs), .rt (base + 1) .ro (tr a.Pt), .rt (base + 2) .ro (tr a.Fds)] (Ret (.g [.v (.bool a.Used), .v (iv a.Pid), .v (iv a.Parent), .v (iv a.State), .v (iv a.Prog), .v (iv a.Pc), .v (iv a.Until), .v (iv a.Code), .h 0 [], .h 1 [], .h 2 []]) [(0, .row, tr a.Regs), (1, .row, tr a.Pt), (2, .row, tr a.Fds)]) := by
  refine Con.of_body Try.func142 rfl (by simp) ?_
  rw [Try.ntmps142]
  refine AW.seq ?_
  refine AW.region ?_
  refine AWL.step rfl rfl (Stp.boxB rfl (by decide) (by decide) rfl rfl rfl rfl) ?_
  refine AWL.nrm (by simp only [go_sem, Int.reduceToNat, Nat.reduceLT, reduceIte, Nat.reduceEqDiff, Nat.reduceAdd, Nat.reduceMul, Nat.reduceBEq, reduceCtorEq]; rfl) ?_
  refine AWL.step rfl rfl (Stp.alloc rfl (by decide) (by decide)) ?_
  refine AWL.nilE (by simp only [go_sem, Int.reduceToNat, Nat.reduceLT, reduceIte, Nat.reduceEqDiff, Nat.reduceAdd, Nat.reduceMul, Nat.reduceBEq, reduceCtorEq]; rfl) ?_
  try dsimp only [thenQ, blockQ]
  refine AW.seq ?_
  refine AW.region ?_
  refine AWL.step rfl rfl (Stp.alloc rfl (by decide) (by decide)) ?_
  refine AWL.nilE (by simp only [go_sem, Int.reduceToNat, Nat.reduceLT, reduceIte, Nat.reduceEqDiff, Nat.reduceAdd, Nat.reduceMul, Nat.reduceBEq, reduceCtorEq]; rfl) ?_
  try dsimp only [thenQ, blockQ]
  refine AW.seq ?_
  refine AW.region ?_
  refine AWL.q rfl rfl rfl (by decide) (Qt.fieldAddr rfl fl193_0 rfl rfl (by decide)) ?_
  refine AWL.nrm (by simp only [go_sem, Int.reduceToNat, Nat.reduceLT, reduceIte, Nat.reduceEqDiff, Nat.reduceAdd, Nat.reduceMul, Nat.reduceBEq, reduceCtorEq]; rfl) ?_
  refine AWL.q rfl rfl rfl (by decide) (Qt.load1 rfl rfl rfl ag4) ?_
  refine AWL.q rfl rfl rfl (by decide) (Qt.fieldAddr rfl fl120_0 rfl rfl (by decide)) ?_
  refine AWL.step rfl rfl (by first | exact Stp.storeA rfl rfl rfl rfl (by decide) rfl | exact Stp.store rfl rfl (by simp) rfl rfl rfl (by decide) rfl) ?_
  refine AWL.nilE (by simp only [go_sem, Int.reduceToNat, Nat.reduceLT, reduceIte, Nat.reduceEqDiff, Nat.reduceAdd, Nat.reduceMul, Nat.reduceBEq, reduceCtorEq]; rfl) ?_
  try dsimp only [thenQ, blockQ]
  refine AW.seq ?_
  refine AW.region ?_
  refine AWL.q rfl rfl rfl (by decide) (Qt.fieldAddr rfl fl193_1 rfl rfl (by decide)) ?_
  refine AWL.nrm (by simp only [go_sem, Int.reduceToNat, Nat.reduceLT, reduceIte, Nat.reduceEqDiff, Nat.reduceAdd, Nat.reduceMul, Nat.reduceBEq, reduceCtorEq]; rfl) ?_
  refine AWL.q rfl rfl rfl (by decide) (Qt.load1 rfl rfl rfl ag3) ?_
  refine AWL.q rfl rfl rfl (by decide) (Qt.fieldAddr rfl fl120_1 rfl rfl (by decide)) ?_
  refine AWL.step rfl rfl (by first | exact Stp.storeA rfl rfl rfl rfl (by decide) rfl | exact Stp.store rfl rfl (by simp) rfl rfl rfl (by decide) rfl) ?_
  refine AWL.nilE (by simp only [go_sem, Int.reduceToNat, Nat.reduceLT, reduceIte, Nat.reduceEqDiff, Nat.reduceAdd, Nat.reduceMul, Nat.reduceBEq, reduceCtorEq]; rfl) ?_
  try dsimp only [thenQ, blockQ]
  refine AW.seq ?_
  refine AW.region ?_
  refine AWL.q rfl rfl rfl (by decide) (Qt.fieldAddr rfl fl193_2 rfl rfl (by decide)) ?_
  refine AWL.nrm (by simp only [go_sem, Int.reduceToNat, Nat.reduceLT, reduceIte, Nat.reduceEqDiff, Nat.reduceAdd, Nat.reduceMul, Nat.reduceBEq, reduceCtorEq]; rfl) ?_
  refine AWL.q rfl rfl rfl (by decide) (Qt.load1 rfl rfl rfl ag3) ?_
  refine AWL.q rfl rfl rfl (by decide) (Qt.fieldAddr rfl fl120_2 rfl rfl (by decide)) ?_
  refine AWL.step rfl rfl (by first | exact Stp.storeA rfl rfl rfl rfl (by decide) rfl | exact Stp.store rfl rfl (by simp) rfl rfl rfl (by decide) rfl) ?_
  refine AWL.nilE (by simp only [go_sem, Int.reduceToNat, Nat.reduceLT, reduceIte, Nat.reduceEqDiff, Nat.reduceAdd, Nat.reduceMul, Nat.reduceBEq, reduceCtorEq]; rfl) ?_
  try dsimp only [thenQ, blockQ]
  refine AW.seq ?_
  refine AW.region ?_
  refine AWL.q rfl rfl rfl (by decide) (Qt.fieldAddr rfl fl193_3 rfl rfl (by decide)) ?_
  refine AWL.nrm (by simp only [go_sem, Int.reduceToNat, Nat.reduceLT, reduceIte, Nat.reduceEqDiff, Nat.reduceAdd, Nat.reduceMul, Nat.reduceBEq, reduceCtorEq]; rfl) ?_
  refine AWL.q rfl rfl rfl (by decide) (Qt.load1 rfl rfl rfl ag3) ?_
  refine AWL.q rfl rfl rfl (by decide) (Qt.fieldAddr rfl fl120_3 rfl rfl (by decide)) ?_
  refine AWL.step rfl rfl (by first | exact Stp.storeA rfl rfl rfl rfl (by decide) rfl | exact Stp.store rfl rfl (by simp) rfl rfl rfl (by decide) rfl) ?_
  refine AWL.nilE (by simp only [go_sem, Int.reduceToNat, Nat.reduceLT, reduceIte, Nat.reduceEqDiff, Nat.reduceAdd, Nat.reduceMul, Nat.reduceBEq, reduceCtorEq]; rfl) ?_
  try dsimp only [thenQ, blockQ]
  refine AW.seq ?_
  refine AW.region ?_
  refine AWL.q rfl rfl rfl (by decide) (Qt.fieldAddr rfl fl193_4 rfl rfl (by decide)) ?_
  refine AWL.nrm (by simp only [go_sem, Int.reduceToNat, Nat.reduceLT, reduceIte, Nat.reduceEqDiff, Nat.reduceAdd, Nat.reduceMul, Nat.reduceBEq, reduceCtorEq]; rfl) ?_
  refine AWL.q rfl rfl rfl (by decide) (Qt.load1 rfl rfl rfl ag3) ?_
  refine AWL.q rfl rfl rfl (by decide) (Qt.fieldAddr rfl fl120_4 rfl rfl (by decide)) ?_
  refine AWL.step rfl rfl (by first | exact Stp.storeA rfl rfl rfl rfl (by decide) rfl | exact Stp.store rfl rfl (by simp) rfl rfl rfl (by decide) rfl) ?_
  refine AWL.nilE (by simp only [go_sem, Int.reduceToNat, Nat.reduceLT, reduceIte, Nat.reduceEqDiff, Nat.reduceAdd, Nat.reduceMul, Nat.reduceBEq, reduceCtorEq]; rfl) ?_
  try dsimp only [thenQ, blockQ]
  refine AW.seq ?_
  refine AW.region ?_
  refine AWL.q rfl rfl rfl (by decide) (Qt.fieldAddr rfl fl193_5 rfl rfl (by decide)) ?_
  refine AWL.nrm (by simp only [go_sem, Int.reduceToNat, Nat.reduceLT, reduceIte, Nat.reduceEqDiff, Nat.reduceAdd, Nat.reduceMul, Nat.reduceBEq, reduceCtorEq]; rfl) ?_
  refine AWL.q rfl rfl rfl (by decide) (Qt.load1 rfl rfl rfl ag3) ?_
  refine AWL.q rfl rfl rfl (by decide) (Qt.fieldAddr rfl fl120_5 rfl rfl (by decide)) ?_
  refine AWL.step rfl rfl (by first | exact Stp.storeA rfl rfl rfl rfl (by decide) rfl | exact Stp.store rfl rfl (by simp) rfl rfl rfl (by decide) rfl) ?_
  refine AWL.nilE (by simp only [go_sem, Int.reduceToNat, Nat.reduceLT, reduceIte, Nat.reduceEqDiff, Nat.reduceAdd, Nat.reduceMul, Nat.reduceBEq, reduceCtorEq]; rfl) ?_
  try dsimp only [thenQ, blockQ]
  refine AW.seq ?_
  refine AW.region ?_
  refine AWL.q rfl rfl rfl (by decide) (Qt.fieldAddr rfl fl193_6 rfl rfl (by decide)) ?_
  refine AWL.nrm (by simp only [go_sem, Int.reduceToNat, Nat.reduceLT, reduceIte, Nat.reduceEqDiff, Nat.reduceAdd, Nat.reduceMul, Nat.reduceBEq, reduceCtorEq]; rfl) ?_
  refine AWL.q rfl rfl rfl (by decide) (Qt.load1 rfl rfl rfl ag3) ?_
  refine AWL.q rfl rfl rfl (by decide) (Qt.fieldAddr rfl fl120_6 rfl rfl (by decide)) ?_
  refine AWL.step rfl rfl (by first | exact Stp.storeA rfl rfl rfl rfl (by decide) rfl | exact Stp.store rfl rfl (by simp) rfl rfl rfl (by decide) rfl) ?_
  refine AWL.nilE (by simp only [go_sem, Int.reduceToNat, Nat.reduceLT, reduceIte, Nat.reduceEqDiff, Nat.reduceAdd, Nat.reduceMul, Nat.reduceBEq, reduceCtorEq]; rfl) ?_
  try dsimp only [thenQ, blockQ]
  refine AW.seq ?_
  refine AW.region ?_
  refine AWL.q rfl rfl rfl (by decide) (Qt.fieldAddr rfl fl193_7 rfl rfl (by decide)) ?_
  refine AWL.nrm (by simp only [go_sem, Int.reduceToNat, Nat.reduceLT, reduceIte, Nat.reduceEqDiff, Nat.reduceAdd, Nat.reduceMul, Nat.reduceBEq, reduceCtorEq]; rfl) ?_
  refine AWL.q rfl rfl rfl (by decide) (Qt.load1 rfl rfl rfl ag3) ?_
  refine AWL.q rfl rfl rfl (by decide) (Qt.fieldAddr rfl fl120_7 rfl rfl (by decide)) ?_
  refine AWL.step rfl rfl (by first | exact Stp.storeA rfl rfl rfl rfl (by decide) rfl | exact Stp.store rfl rfl (by simp) rfl rfl rfl (by decide) rfl) ?_
  refine AWL.nilE (by simp only [go_sem, Int.reduceToNat, Nat.reduceLT, reduceIte, Nat.reduceEqDiff, Nat.reduceAdd, Nat.reduceMul, Nat.reduceBEq, reduceCtorEq]; rfl) ?_
  try dsimp only [thenQ, blockQ]
  refine AW.seq ?_
  refine AW.region ?_
  refine AWL.q rfl rfl rfl (by decide) (Qt.fieldAddr rfl fl193_8 rfl rfl (by decide)) ?_
  refine AWL.nrm (by simp only [go_sem, Int.reduceToNat, Nat.reduceLT, reduceIte, Nat.reduceEqDiff, Nat.reduceAdd, Nat.reduceMul, Nat.reduceBEq, reduceCtorEq]; rfl) ?_
  refine AWL.q rfl rfl rfl (by decide) (Qt.load1 rfl rfl rfl ag24) ?_
  refine AWL.step rfl rfl (Stp.callR rfl (by decide) Try.call43 rfl rfl (toIntS_con _ (by first | omega | (simp only [Int.toNat_natCast]; omega) | (simp only [Mk.wt] at *; omega))) (nodup_of rfl) rfl rfl) ?_
  refine AWL.nrm (by simp only [go_sem, Int.reduceToNat, Nat.reduceLT, reduceIte, Nat.reduceEqDiff, Nat.reduceAdd, Nat.reduceMul, Nat.reduceBEq, reduceCtorEq]; rfl) ?_
  refine AWL.q rfl rfl rfl (by decide) (Qt.fieldAddr rfl fl120_8 rfl rfl (by decide)) ?_
  refine AWL.step rfl rfl (by first | exact Stp.storeA rfl rfl rfl rfl (by decide) rfl | exact Stp.store rfl rfl (by simp) rfl rfl rfl (by decide) rfl) ?_
  refine AWL.nilE (by simp only [go_sem, Int.reduceToNat, Nat.reduceLT, reduceIte, Nat.reduceEqDiff, Nat.reduceAdd, Nat.reduceMul, Nat.reduceBEq, reduceCtorEq]; rfl) ?_
  try dsimp only [thenQ, blockQ]
  refine AW.seq ?_
  refine AW.region ?_
  refine AWL.q rfl rfl rfl (by decide) (Qt.fieldAddr rfl fl193_9 rfl rfl (by decide)) ?_
  refine AWL.nrm (by simp only [go_sem, Int.reduceToNat, Nat.reduceLT, reduceIte, Nat.reduceEqDiff, Nat.reduceAdd, Nat.reduceMul, Nat.reduceBEq, reduceCtorEq]; rfl) ?_
  refine AWL.q rfl rfl rfl (by decide) (Qt.load1 rfl rfl rfl ag24) ?_
  refine AWL.step rfl rfl (Stp.callR rfl (by decide) Try.call43 rfl rfl (toIntS_con _ (by first | omega | (simp only [Int.toNat_natCast]; omega) | (simp only [Mk.wt] at *; omega))) (nodup_of rfl) rfl rfl) ?_
  refine AWL.nrm (by simp only [go_sem, Int.reduceToNat, Nat.reduceLT, reduceIte, Nat.reduceEqDiff, Nat.reduceAdd, Nat.reduceMul, Nat.reduceBEq, reduceCtorEq]; rfl) ?_
  refine AWL.q rfl rfl rfl (by decide) (Qt.fieldAddr rfl fl120_9 rfl rfl (by decide)) ?_
  refine AWL.step rfl rfl (by first | exact Stp.storeA rfl rfl rfl rfl (by decide) rfl | exact Stp.store rfl rfl (by simp) rfl rfl rfl (by decide) rfl) ?_
  refine AWL.nilE (by simp only [go_sem, Int.reduceToNat, Nat.reduceLT, reduceIte, Nat.reduceEqDiff, Nat.reduceAdd, Nat.reduceMul, Nat.reduceBEq, reduceCtorEq]; rfl) ?_
  try dsimp only [thenQ, blockQ]
  refine AW.seq ?_
  refine AW.region ?_
  refine AWL.q rfl rfl rfl (by decide) (Qt.fieldAddr rfl fl193_10 rfl rfl (by decide)) ?_
  refine AWL.nrm (by simp only [go_sem, Int.reduceToNat, Nat.reduceLT, reduceIte, Nat.reduceEqDiff, Nat.reduceAdd, Nat.reduceMul, Nat.reduceBEq, reduceCtorEq]; rfl) ?_
  refine AWL.q rfl rfl rfl (by decide) (Qt.load1 rfl rfl rfl ag24) ?_
  refine AWL.step rfl rfl (Stp.callR rfl (by decide) Try.call43 rfl rfl (toIntS_con _ (by first | omega | (simp only [Int.toNat_natCast]; omega) | (simp only [Mk.wt] at *; omega))) (nodup_of rfl) rfl rfl) ?_
  refine AWL.nrm (by simp only [go_sem, Int.reduceToNat, Nat.reduceLT, reduceIte, Nat.reduceEqDiff, Nat.reduceAdd, Nat.reduceMul, Nat.reduceBEq, reduceCtorEq]; rfl) ?_
  refine AWL.q rfl rfl rfl (by decide) (Qt.fieldAddr rfl fl120_10 rfl rfl (by decide)) ?_
  refine AWL.step rfl rfl (by first | exact Stp.storeA rfl rfl rfl rfl (by decide) rfl | exact Stp.store rfl rfl (by simp) rfl rfl rfl (by decide) rfl) ?_
  refine AWL.nilE (by simp only [go_sem, Int.reduceToNat, Nat.reduceLT, reduceIte, Nat.reduceEqDiff, Nat.reduceAdd, Nat.reduceMul, Nat.reduceBEq, reduceCtorEq]; rfl) ?_
  try dsimp only [thenQ, blockQ]
  refine AW.seq ?_
  refine AW.region ?_
  refine AWL.q rfl rfl rfl (by decide) (Qt.loadG rfl rfl rfl ag120 sz120 (by decide)) ?_
  refine AWL.nrm (by simp only [go_sem, Int.reduceToNat, Nat.reduceLT, reduceIte, Nat.reduceEqDiff, Nat.reduceAdd, Nat.reduceMul, Nat.reduceBEq, reduceCtorEq]; rfl) ?_
  refine AWL.step rfl rfl (by first | exact Stp.storeA rfl rfl rfl rfl (by decide) rfl | exact Stp.store rfl rfl (by simp) rfl rfl rfl (by decide) rfl) ?_
  refine AWL.nilE (by simp only [go_sem, Int.reduceToNat, Nat.reduceLT, reduceIte, Nat.reduceEqDiff, Nat.reduceAdd, Nat.reduceMul, Nat.reduceBEq, reduceCtorEq]; rfl) ?_
  try dsimp only [thenQ, blockQ]
  refine AW.ret ?_
  try dsimp only [thenQ, blockQ]
  refine endQ_ret (.cons (.cellG 2 120 rfl rfl rfl ag120 sz120 (by decide)) .nil) ?_
  refine ⟨fun i => if i = 0 then 30 else if i = 1 then 34 else 38, rfl, nodup_of rfl, ?_⟩
  intro r hr
  simp only [List.mem_cons, List.not_mem_nil, or_false] at hr
  rcases hr with rfl | rfl | rfl <;> exact ⟨by simp, rootL_mem rfl⟩
set_option maxHeartbeats 8000000 in
set_option maxRecDepth 10000 in
theorem toASlotS_con (a : List DASlot) (hw : Mk.wt a ≤ 1048576) : Con Try.prog 60 [.h base []] [.rt base .ro (tr a)] (Ret (.h 0 []) [(0, .row, tr a)]) := by
  refine Con.of_body Try.func60 rfl (by simp) ?_
  rw [Try.ntmps60]
  have hw2 : a.length + wtL Mk.wt a ≤ 1048576 := hw
  refine AW.seq ?_
  refine AW.region ?_
  refine AWL.q rfl rfl rfl (by decide) Qt.assign ?_
  refine AWL.nilE (by simp only [go_sem, Int.reduceToNat, Nat.reduceLT, reduceIte, Nat.reduceEqDiff, Nat.reduceAdd, Nat.reduceMul, Nat.reduceBEq, reduceCtorEq]; rfl) ?_
  try dsimp only [thenQ, blockQ]
  refine AW.seq ?_
  refine AW.region ?_
  refine AWL.q rfl rfl rfl (by decide) Qt.move ?_
  refine AWL.q rfl rfl rfl (by decide) (Qt.lenH rfl rfl rfl sl46) ?_
  refine AWL.nrm (by simp only [go_sem, Int.reduceToNat, Nat.reduceLT, reduceIte, Nat.reduceEqDiff, Nat.reduceAdd, Nat.reduceMul, Nat.reduceBEq, reduceCtorEq]; rfl) ?_
  refine AWL.step rfl rfl (Stp.makeSlice rfl (by decide) (by decide) rfl rfl (by omega) (by omega) (by omega)) ?_
  refine AWL.nrm (by simp only [go_sem, Int.reduceToNat, Nat.reduceLT, reduceIte, Nat.reduceEqDiff, Nat.reduceAdd, Nat.reduceMul, Nat.reduceBEq, reduceCtorEq]; rfl) ?_
  refine AWL.q rfl rfl rfl (by decide) Qt.assign ?_
  refine AWL.nilE (by simp only [go_sem, Int.reduceToNat, Nat.reduceLT, reduceIte, Nat.reduceEqDiff, Nat.reduceAdd, Nat.reduceMul, Nat.reduceBEq, reduceCtorEq]; rfl) ?_
  try dsimp only [thenQ, blockQ]
  refine AW.seq ?_
  refine AW.seq ?_
  refine AW.region ?_
  refine AWL.q rfl rfl rfl (by decide) Qt.assign ?_
  refine AWL.nilE (by simp only [go_sem, Int.reduceToNat, Nat.reduceLT, reduceIte, Nat.reduceEqDiff, Nat.reduceAdd, Nat.reduceMul, Nat.reduceBEq, reduceCtorEq]; rfl) ?_
  try dsimp only [thenQ, blockQ]
  refine AW.block ?_
  refine AW.weak (L' := [.sl 4 (.v (iv (0 : Nat))), .sl 3 (.h 7 []), .sl 0 (.h base []), .rt 7 .row (trMix (0 : Nat) a.length (fun j => a.getD j En.dflt) fun _ => En.dflt), .rt base .ro (tr a)]) (Weak.sim ⟨rfl, rfl, rfl, ⟨_, rfl, (trMix_start rfl (fun c hc => match c, hc with | 0, _ => T.sim_refl _ | 1, _ => T.sim_refl _ | 2, _ => T.sim_refl _ | 3, _ => T.sim_refl _ | 4, _ => T.sim_refl _ | 5, _ => T.sim_refl _ | 6, _ => T.sim_refl _ | 7, _ => T.sim_refl _ | 8, _ => sim_nil | 9, _ => sim_nil | 10, _ => sim_nil | c + 11, hc => absurd hc (by simp only [En.n]; omega)))⟩, ⟨_, rfl, T.sim_refl _⟩, trivial⟩ rfl rfl) ?_
  refine AW.loop (fun i : KInv a.length => [.sl 4 (.v (iv i.k)), .sl 3 (.h 7 []), .sl 0 (.h base []), .rt 7 .row (trMix i.k a.length (fun j => a.getD j En.dflt) fun _ => En.dflt), .rt base .ro (tr a)]) (fun i => a.length - i.k) ⟨0, Nat.zero_le _⟩ ?_
  intro i
  have hle := i.le
  refine AW.seq ?_
  refine AW.seq ?_
  refine AW.region ?_
  refine AWL.q rfl rfl rfl (by decide) Qt.move ?_
  refine AWL.nrm (by simp only [go_sem, Int.reduceToNat, Nat.reduceLT, reduceIte, Nat.reduceEqDiff, Nat.reduceAdd, Nat.reduceMul, Nat.reduceBEq, reduceCtorEq]; rfl) ?_
  refine AWL.q rfl rfl rfl (by decide) Qt.move ?_
  refine AWL.q rfl rfl rfl (by decide) (Qt.lenH rfl rfl rfl sl46) ?_
  refine AWL.q rfl rfl rfl (by decide) (Qt.binOp rfl rfl rfl) ?_
  refine AWL.nilE (by simp only [go_sem, Int.reduceToNat, Nat.reduceLT, reduceIte, Nat.reduceEqDiff, Nat.reduceAdd, Nat.reduceMul, Nat.reduceBEq, reduceCtorEq]; rfl) ?_
  try dsimp only [thenQ, blockQ]
  refine AW.cond rfl (fun c1 => ?_) (fun c1 => ?_)
  · have k1 := c1
    try simp only [decide_eq_true_eq, decide_eq_false_iff_not, bne_iff_ne, ne_eq, beq_iff_eq, beq_eq_false_iff_ne, bne_eq_false_iff_eq, Bool.not_eq_true', Bool.not_eq_false', Bool.and_eq_true, Bool.or_eq_true, Bool.and_eq_false_iff, Bool.or_eq_false_iff, Int.not_lt, Int.not_le, Int.toNat_natCast] at c1
    have hwk := wtL_get (w := Mk.wt) (d := En.dflt) (l := a) (i := i.k) (by omega)
    refine AW.skip ?_
    dsimp only [thenQ, blockQ]
    refine AW.seq ?_
    refine AW.block ?_
    refine AW.region ?_
    refine AWL.q rfl rfl rfl (by decide) Qt.move ?_
    refine AWL.nrm (by simp only [go_sem, Int.reduceToNat, Nat.reduceLT, reduceIte, Nat.reduceEqDiff, Nat.reduceAdd, Nat.reduceMul, Nat.reduceBEq, reduceCtorEq]; rfl) ?_
    refine AWL.q rfl rfl rfl (by decide) Qt.move ?_
    refine AWL.q rfl rfl rfl (by decide) Qt.move ?_
    refine AWL.q rfl rfl rfl (by decide) Qt.move ?_
    refine AWL.nrm (by simp only [go_sem, Int.reduceToNat, Nat.reduceLT, reduceIte, Nat.reduceEqDiff, Nat.reduceAdd, Nat.reduceMul, Nat.reduceBEq, reduceCtorEq]; rfl) ?_
    refine AWL.q rfl rfl rfl (by decide) (Qt.indexAddr rfl rfl rfl rfl sl46 sz193 (by decide) (by omega)) ?_
    refine AWL.q rfl rfl rfl (by decide) (Qt.loadG rfl rfl rfl ag193 sz193 (by decide)) ?_
    refine AWL.step rfl rfl (Stp.callR rfl (by decide) Try.call142 rfl rfl (toASlot_con _ (by first | omega | (simp only [Int.toNat_natCast]; omega) | (simp only [Mk.wt] at *; omega))) (nodup_of rfl) rfl rfl) ?_
    refine AWL.nrm (by simp only [go_sem, Int.reduceToNat, Nat.reduceLT, reduceIte, Nat.reduceEqDiff, Nat.reduceAdd, Nat.reduceMul, Nat.reduceBEq, reduceCtorEq]; rfl) ?_
    refine AWL.q rfl rfl rfl (by decide) (Qt.indexAddr rfl rfl rfl rfl sl57 sz120 (by decide) (by omega)) ?_
    refine AWL.step rfl rfl (by first | exact Stp.storeA rfl rfl rfl rfl (by decide) rfl | exact Stp.store rfl rfl (by simp) rfl rfl rfl (by decide) rfl) ?_
    refine AWL.nilE (by simp only [go_sem, Int.reduceToNat, Nat.reduceLT, reduceIte, Nat.reduceEqDiff, Nat.reduceAdd, Nat.reduceMul, Nat.reduceBEq, reduceCtorEq]; rfl) ?_
    try dsimp only [thenQ, blockQ]
    refine AW.region ?_
    refine AWL.q rfl rfl rfl (by decide) Qt.move ?_
    refine AWL.nrm (by simp only [go_sem, Int.reduceToNat, Nat.reduceLT, reduceIte, Nat.reduceEqDiff, Nat.reduceAdd, Nat.reduceMul, Nat.reduceBEq, reduceCtorEq]; rfl) ?_
    refine AWL.q rfl rfl rfl (by decide) (Qt.binOp rfl rfl (by first | exact pbAdd (by omega) | rfl)) ?_
    refine AWL.q rfl rfl rfl (by decide) Qt.assign ?_
    refine AWL.nilE (by simp only [go_sem, Int.reduceToNat, Nat.reduceLT, reduceIte, Nat.reduceEqDiff, Nat.reduceAdd, Nat.reduceMul, Nat.reduceBEq, reduceCtorEq]; rfl) ?_
    try dsimp only [thenQ, blockQ]
    refine ⟨⟨i.k + 1, by omega⟩, Weak.sim ⟨(by simp only [slotL, reduceIte, Nat.reduceEqDiff]; first | rfl | (rw [IntWalk.i64_in _ (by omega)]; rfl)), rfl, rfl, ⟨_, rfl, trMix_next (fun i c hi => by simp only [upd_app, hi, false_and, if_false]; rfl) (fun c hc => match c, hc with | 0, _ => (by simp only [upd_app, eq_self, and_true, and_false, Nat.reduceEqDiff, if_true, if_false]; exact T.sim_refl _) | 1, _ => (by simp only [upd_app, eq_self, and_true, and_false, Nat.reduceEqDiff, if_true, if_false]; exact T.sim_refl _) | 2, _ => (by simp only [upd_app, eq_self, and_true, and_false, Nat.reduceEqDiff, if_true, if_false]; exact T.sim_refl _) | 3, _ => (by simp only [upd_app, eq_self, and_true, and_false, Nat.reduceEqDiff, if_true, if_false]; exact T.sim_refl _) | 4, _ => (by simp only [upd_app, eq_self, and_true, and_false, Nat.reduceEqDiff, if_true, if_false]; exact T.sim_refl _) | 5, _ => (by simp only [upd_app, eq_self, and_true, and_false, Nat.reduceEqDiff, if_true, if_false]; exact T.sim_refl _) | 6, _ => (by simp only [upd_app, eq_self, and_true, and_false, Nat.reduceEqDiff, if_true, if_false]; exact T.sim_refl _) | 7, _ => (by simp only [upd_app, eq_self, and_true, and_false, Nat.reduceEqDiff, if_true, if_false]; exact T.sim_refl _) | 8, _ => (by simp only [upd_app, eq_self, and_true, and_false, Nat.reduceEqDiff, if_true, if_false]; exact T.sim_refl _) | 9, _ => (by simp only [upd_app, eq_self, and_true, and_false, Nat.reduceEqDiff, if_true, if_false]; exact T.sim_refl _) | 10, _ => (by simp only [upd_app, eq_self, and_true, and_false, Nat.reduceEqDiff, if_true, if_false]; exact T.sim_refl _) | c + 11, hc => absurd hc (by simp only [En.n]; omega))⟩, ⟨_, rfl, T.sim_refl _⟩, trivial⟩ rfl rfl, ?_⟩
    show a.length - (i.k + 1) < a.length - i.k
    omega
  · have k1 := c1
    try simp only [decide_eq_true_eq, decide_eq_false_iff_not, bne_iff_ne, ne_eq, beq_iff_eq, beq_eq_false_iff_ne, bne_eq_false_iff_eq, Bool.not_eq_true', Bool.not_eq_false', Bool.and_eq_true, Bool.or_eq_true, Bool.and_eq_false_iff, Bool.or_eq_false_iff, Int.not_lt, Int.not_le, Int.toNat_natCast] at c1
    refine AW.exit ?_
    dsimp only [thenQ, blockQ, reduceIte]
    refine AW.seq ?_
    refine AW.region ?_
    refine AWL.q rfl rfl rfl (by decide) Qt.move ?_
    refine AWL.nrm (by simp only [go_sem, Int.reduceToNat, Nat.reduceLT, reduceIte, Nat.reduceEqDiff, Nat.reduceAdd, Nat.reduceMul, Nat.reduceBEq, reduceCtorEq]; rfl) ?_
    refine AWL.q rfl rfl rfl (by decide) Qt.assign ?_
    refine AWL.nilE (by simp only [go_sem, Int.reduceToNat, Nat.reduceLT, reduceIte, Nat.reduceEqDiff, Nat.reduceAdd, Nat.reduceMul, Nat.reduceBEq, reduceCtorEq]; rfl) ?_
    try dsimp only [thenQ, blockQ]
    refine AW.weak (L' := [.rt 7 .row (tr a), .sl 2 (.h 7 [])]) (Weak.sim ⟨⟨_, rfl, trMix_full (by omega) rfl (fun _ _ => rfl)⟩, rfl, trivial⟩ rfl rfl) ?_
    refine AW.ret ?_
    try dsimp only [thenQ, blockQ]
    refine endQ_ret (.cons (.tmp 2) .nil) ?_
    refine ⟨fun _ => 7, rfl, nodup_of rfl, ?_⟩
    intro r hr
    cases List.mem_singleton.1 hr
    exact ⟨by simp, rootL_mem rfl⟩
set_option maxHeartbeats 8000000 in
set_option maxRecDepth 10000 in
theorem toBoolS_con (a : List Bool) (hw : Mk.wt a ≤ 1048576) : Con Try.prog 61 [.h base []] [.rt base .ro (tr a)] (Ret (.h 0 []) [(0, .row, tr a)]) := by
  refine Con.of_body Try.func61 rfl (by simp) ?_
  rw [Try.ntmps61]
  have hw2 : a.length + wtL Mk.wt a ≤ 1048576 := hw
  refine AW.seq ?_
  refine AW.region ?_
  refine AWL.q rfl rfl rfl (by decide) Qt.assign ?_
  refine AWL.nilE (by simp only [go_sem, Int.reduceToNat, Nat.reduceLT, reduceIte, Nat.reduceEqDiff, Nat.reduceAdd, Nat.reduceMul, Nat.reduceBEq, reduceCtorEq]; rfl) ?_
  try dsimp only [thenQ, blockQ]
  refine AW.seq ?_
  refine AW.region ?_
  refine AWL.q rfl rfl rfl (by decide) Qt.move ?_
  refine AWL.q rfl rfl rfl (by decide) (Qt.lenH rfl rfl rfl sl47) ?_
  refine AWL.nrm (by simp only [go_sem, Int.reduceToNat, Nat.reduceLT, reduceIte, Nat.reduceEqDiff, Nat.reduceAdd, Nat.reduceMul, Nat.reduceBEq, reduceCtorEq]; rfl) ?_
  refine AWL.step rfl rfl (Stp.makeSlice rfl (by decide) (by decide) rfl rfl (by omega) (by omega) (by omega)) ?_
  refine AWL.nrm (by simp only [go_sem, Int.reduceToNat, Nat.reduceLT, reduceIte, Nat.reduceEqDiff, Nat.reduceAdd, Nat.reduceMul, Nat.reduceBEq, reduceCtorEq]; rfl) ?_
  refine AWL.q rfl rfl rfl (by decide) Qt.assign ?_
  refine AWL.nilE (by simp only [go_sem, Int.reduceToNat, Nat.reduceLT, reduceIte, Nat.reduceEqDiff, Nat.reduceAdd, Nat.reduceMul, Nat.reduceBEq, reduceCtorEq]; rfl) ?_
  try dsimp only [thenQ, blockQ]
  refine AW.seq ?_
  refine AW.seq ?_
  refine AW.region ?_
  refine AWL.q rfl rfl rfl (by decide) Qt.assign ?_
  refine AWL.nilE (by simp only [go_sem, Int.reduceToNat, Nat.reduceLT, reduceIte, Nat.reduceEqDiff, Nat.reduceAdd, Nat.reduceMul, Nat.reduceBEq, reduceCtorEq]; rfl) ?_
  try dsimp only [thenQ, blockQ]
  refine AW.block ?_
  refine AW.weak (L' := [.sl 4 (.v (iv (0 : Nat))), .sl 3 (.h 7 []), .sl 0 (.h base []), .rt 7 .row (trMix (0 : Nat) a.length (fun j => a.getD j En.dflt) fun _ => En.dflt), .rt base .ro (tr a)]) (Weak.sim ⟨rfl, rfl, rfl, ⟨_, rfl, (trMix_start rfl (fun c hc => match c, hc with | 0, _ => T.sim_refl _ | c + 1, hc => absurd hc (by simp only [En.n]; omega)))⟩, ⟨_, rfl, T.sim_refl _⟩, trivial⟩ rfl rfl) ?_
  refine AW.loop (fun i : KInv a.length => [.sl 4 (.v (iv i.k)), .sl 3 (.h 7 []), .sl 0 (.h base []), .rt 7 .row (trMix i.k a.length (fun j => a.getD j En.dflt) fun _ => En.dflt), .rt base .ro (tr a)]) (fun i => a.length - i.k) ⟨0, Nat.zero_le _⟩ ?_
  intro i
  have hle := i.le
  refine AW.seq ?_
  refine AW.seq ?_
  refine AW.region ?_
  refine AWL.q rfl rfl rfl (by decide) Qt.move ?_
  refine AWL.nrm (by simp only [go_sem, Int.reduceToNat, Nat.reduceLT, reduceIte, Nat.reduceEqDiff, Nat.reduceAdd, Nat.reduceMul, Nat.reduceBEq, reduceCtorEq]; rfl) ?_
  refine AWL.q rfl rfl rfl (by decide) Qt.move ?_
  refine AWL.q rfl rfl rfl (by decide) (Qt.lenH rfl rfl rfl sl47) ?_
  refine AWL.q rfl rfl rfl (by decide) (Qt.binOp rfl rfl rfl) ?_
  refine AWL.nilE (by simp only [go_sem, Int.reduceToNat, Nat.reduceLT, reduceIte, Nat.reduceEqDiff, Nat.reduceAdd, Nat.reduceMul, Nat.reduceBEq, reduceCtorEq]; rfl) ?_
  try dsimp only [thenQ, blockQ]
  refine AW.cond rfl (fun c1 => ?_) (fun c1 => ?_)
  · have k1 := c1
    try simp only [decide_eq_true_eq, decide_eq_false_iff_not, bne_iff_ne, ne_eq, beq_iff_eq, beq_eq_false_iff_ne, bne_eq_false_iff_eq, Bool.not_eq_true', Bool.not_eq_false', Bool.and_eq_true, Bool.or_eq_true, Bool.and_eq_false_iff, Bool.or_eq_false_iff, Int.not_lt, Int.not_le, Int.toNat_natCast] at c1
    have hwk := wtL_get (w := Mk.wt) (d := En.dflt) (l := a) (i := i.k) (by omega)
    refine AW.skip ?_
    dsimp only [thenQ, blockQ]
    refine AW.seq ?_
    refine AW.block ?_
    refine AW.region ?_
    refine AWL.q rfl rfl rfl (by decide) Qt.move ?_
    refine AWL.nrm (by simp only [go_sem, Int.reduceToNat, Nat.reduceLT, reduceIte, Nat.reduceEqDiff, Nat.reduceAdd, Nat.reduceMul, Nat.reduceBEq, reduceCtorEq]; rfl) ?_
    refine AWL.q rfl rfl rfl (by decide) Qt.move ?_
    refine AWL.q rfl rfl rfl (by decide) Qt.move ?_
    refine AWL.q rfl rfl rfl (by decide) Qt.move ?_
    refine AWL.nrm (by simp only [go_sem, Int.reduceToNat, Nat.reduceLT, reduceIte, Nat.reduceEqDiff, Nat.reduceAdd, Nat.reduceMul, Nat.reduceBEq, reduceCtorEq]; rfl) ?_
    refine AWL.q rfl rfl rfl (by decide) (Qt.indexAddr rfl rfl rfl rfl sl47 sz4 (by decide) (by omega)) ?_
    refine AWL.q rfl rfl rfl (by decide) (Qt.load1 rfl rfl rfl ag4) ?_
    refine AWL.q rfl rfl rfl (by decide) (Qt.indexAddr rfl rfl rfl rfl sl47 sz4 (by decide) (by omega)) ?_
    refine AWL.nrm (by simp only [go_sem, Int.reduceToNat, Nat.reduceLT, reduceIte, Nat.reduceEqDiff, Nat.reduceAdd, Nat.reduceMul, Nat.reduceBEq, reduceCtorEq]; rfl) ?_
    refine AWL.step rfl rfl (by first | exact Stp.storeA rfl rfl rfl rfl (by decide) rfl | exact Stp.store rfl rfl (by simp) rfl rfl rfl (by decide) rfl) ?_
    refine AWL.nilE (by simp only [go_sem, Int.reduceToNat, Nat.reduceLT, reduceIte, Nat.reduceEqDiff, Nat.reduceAdd, Nat.reduceMul, Nat.reduceBEq, reduceCtorEq]; rfl) ?_
    try dsimp only [thenQ, blockQ]
    refine AW.region ?_
    refine AWL.q rfl rfl rfl (by decide) Qt.move ?_
    refine AWL.nrm (by simp only [go_sem, Int.reduceToNat, Nat.reduceLT, reduceIte, Nat.reduceEqDiff, Nat.reduceAdd, Nat.reduceMul, Nat.reduceBEq, reduceCtorEq]; rfl) ?_
    refine AWL.q rfl rfl rfl (by decide) (Qt.binOp rfl rfl (by first | exact pbAdd (by omega) | rfl)) ?_
    refine AWL.q rfl rfl rfl (by decide) Qt.assign ?_
    refine AWL.nilE (by simp only [go_sem, Int.reduceToNat, Nat.reduceLT, reduceIte, Nat.reduceEqDiff, Nat.reduceAdd, Nat.reduceMul, Nat.reduceBEq, reduceCtorEq]; rfl) ?_
    try dsimp only [thenQ, blockQ]
    refine ⟨⟨i.k + 1, by omega⟩, Weak.sim ⟨(by simp only [slotL, reduceIte, Nat.reduceEqDiff]; first | rfl | (rw [IntWalk.i64_in _ (by omega)]; rfl)), rfl, rfl, ⟨_, rfl, trMix_next (fun i c hi => by simp only [upd_app, hi, false_and, if_false]; rfl) (fun c hc => match c, hc with | 0, _ => (by simp only [upd_app, eq_self, and_true, and_false, Nat.reduceEqDiff, if_true, if_false]; exact T.sim_refl _) | c + 1, hc => absurd hc (by simp only [En.n]; omega))⟩, ⟨_, rfl, T.sim_refl _⟩, trivial⟩ rfl rfl, ?_⟩
    show a.length - (i.k + 1) < a.length - i.k
    omega
  · have k1 := c1
    try simp only [decide_eq_true_eq, decide_eq_false_iff_not, bne_iff_ne, ne_eq, beq_iff_eq, beq_eq_false_iff_ne, bne_eq_false_iff_eq, Bool.not_eq_true', Bool.not_eq_false', Bool.and_eq_true, Bool.or_eq_true, Bool.and_eq_false_iff, Bool.or_eq_false_iff, Int.not_lt, Int.not_le, Int.toNat_natCast] at c1
    refine AW.exit ?_
    dsimp only [thenQ, blockQ, reduceIte]
    refine AW.seq ?_
    refine AW.region ?_
    refine AWL.q rfl rfl rfl (by decide) Qt.move ?_
    refine AWL.nrm (by simp only [go_sem, Int.reduceToNat, Nat.reduceLT, reduceIte, Nat.reduceEqDiff, Nat.reduceAdd, Nat.reduceMul, Nat.reduceBEq, reduceCtorEq]; rfl) ?_
    refine AWL.q rfl rfl rfl (by decide) Qt.assign ?_
    refine AWL.nilE (by simp only [go_sem, Int.reduceToNat, Nat.reduceLT, reduceIte, Nat.reduceEqDiff, Nat.reduceAdd, Nat.reduceMul, Nat.reduceBEq, reduceCtorEq]; rfl) ?_
    try dsimp only [thenQ, blockQ]
    refine AW.weak (L' := [.rt 7 .row (tr a), .sl 2 (.h 7 [])]) (Weak.sim ⟨⟨_, rfl, trMix_full (by omega) rfl (fun _ _ => rfl)⟩, rfl, trivial⟩ rfl rfl) ?_
    refine AW.ret ?_
    try dsimp only [thenQ, blockQ]
    refine endQ_ret (.cons (.tmp 2) .nil) ?_
    refine ⟨fun _ => 7, rfl, nodup_of rfl, ?_⟩
    intro r hr
    cases List.mem_singleton.1 hr
    exact ⟨by simp, rootL_mem rfl⟩
set_option maxHeartbeats 8000000 in
set_option maxRecDepth 10000 in
theorem toAOpen_con (a : DAOpen) : Con Try.prog 143 [.g [.v (.bool a.Used), .v (iv a.Kind), .v (iv a.Target), .v (iv a.Off), .v (iv a.Refs)]] [] (Ret (.g [.v (.bool a.Used), .v (iv a.Kind), .v (iv a.Target), .v (iv a.Off), .v (iv a.Refs)]) []) := by
  refine Con.of_body Try.func143 rfl (by simp) ?_
  rw [Try.ntmps143]
  refine AW.seq ?_
  refine AW.region ?_
  refine AWL.step rfl rfl (Stp.boxB rfl (by decide) (by decide) rfl rfl rfl rfl) ?_
  refine AWL.nrm (by simp only [go_sem, Int.reduceToNat, Nat.reduceLT, reduceIte, Nat.reduceEqDiff, Nat.reduceAdd, Nat.reduceMul, Nat.reduceBEq, reduceCtorEq]; rfl) ?_
  refine AWL.step rfl rfl (Stp.alloc rfl (by decide) (by decide)) ?_
  refine AWL.nilE (by simp only [go_sem, Int.reduceToNat, Nat.reduceLT, reduceIte, Nat.reduceEqDiff, Nat.reduceAdd, Nat.reduceMul, Nat.reduceBEq, reduceCtorEq]; rfl) ?_
  try dsimp only [thenQ, blockQ]
  refine AW.seq ?_
  refine AW.region ?_
  refine AWL.step rfl rfl (Stp.alloc rfl (by decide) (by decide)) ?_
  refine AWL.nilE (by simp only [go_sem, Int.reduceToNat, Nat.reduceLT, reduceIte, Nat.reduceEqDiff, Nat.reduceAdd, Nat.reduceMul, Nat.reduceBEq, reduceCtorEq]; rfl) ?_
  try dsimp only [thenQ, blockQ]
  refine AW.seq ?_
  refine AW.region ?_
  refine AWL.q rfl rfl rfl (by decide) (Qt.fieldAddr rfl fl205_0 rfl rfl (by decide)) ?_
  refine AWL.nrm (by simp only [go_sem, Int.reduceToNat, Nat.reduceLT, reduceIte, Nat.reduceEqDiff, Nat.reduceAdd, Nat.reduceMul, Nat.reduceBEq, reduceCtorEq]; rfl) ?_
  refine AWL.q rfl rfl rfl (by decide) (Qt.load1 rfl rfl rfl ag4) ?_
  refine AWL.q rfl rfl rfl (by decide) (Qt.fieldAddr rfl fl201_0 rfl rfl (by decide)) ?_
  refine AWL.step rfl rfl (by first | exact Stp.storeA rfl rfl rfl rfl (by decide) rfl | exact Stp.store rfl rfl (by simp) rfl rfl rfl (by decide) rfl) ?_
  refine AWL.nilE (by simp only [go_sem, Int.reduceToNat, Nat.reduceLT, reduceIte, Nat.reduceEqDiff, Nat.reduceAdd, Nat.reduceMul, Nat.reduceBEq, reduceCtorEq]; rfl) ?_
  try dsimp only [thenQ, blockQ]
  refine AW.seq ?_
  refine AW.region ?_
  refine AWL.q rfl rfl rfl (by decide) (Qt.fieldAddr rfl fl205_1 rfl rfl (by decide)) ?_
  refine AWL.nrm (by simp only [go_sem, Int.reduceToNat, Nat.reduceLT, reduceIte, Nat.reduceEqDiff, Nat.reduceAdd, Nat.reduceMul, Nat.reduceBEq, reduceCtorEq]; rfl) ?_
  refine AWL.q rfl rfl rfl (by decide) (Qt.load1 rfl rfl rfl ag3) ?_
  refine AWL.q rfl rfl rfl (by decide) (Qt.fieldAddr rfl fl201_1 rfl rfl (by decide)) ?_
  refine AWL.step rfl rfl (by first | exact Stp.storeA rfl rfl rfl rfl (by decide) rfl | exact Stp.store rfl rfl (by simp) rfl rfl rfl (by decide) rfl) ?_
  refine AWL.nilE (by simp only [go_sem, Int.reduceToNat, Nat.reduceLT, reduceIte, Nat.reduceEqDiff, Nat.reduceAdd, Nat.reduceMul, Nat.reduceBEq, reduceCtorEq]; rfl) ?_
  try dsimp only [thenQ, blockQ]
  refine AW.seq ?_
  refine AW.region ?_
  refine AWL.q rfl rfl rfl (by decide) (Qt.fieldAddr rfl fl205_2 rfl rfl (by decide)) ?_
  refine AWL.nrm (by simp only [go_sem, Int.reduceToNat, Nat.reduceLT, reduceIte, Nat.reduceEqDiff, Nat.reduceAdd, Nat.reduceMul, Nat.reduceBEq, reduceCtorEq]; rfl) ?_
  refine AWL.q rfl rfl rfl (by decide) (Qt.load1 rfl rfl rfl ag3) ?_
  refine AWL.q rfl rfl rfl (by decide) (Qt.fieldAddr rfl fl201_2 rfl rfl (by decide)) ?_
  refine AWL.step rfl rfl (by first | exact Stp.storeA rfl rfl rfl rfl (by decide) rfl | exact Stp.store rfl rfl (by simp) rfl rfl rfl (by decide) rfl) ?_
  refine AWL.nilE (by simp only [go_sem, Int.reduceToNat, Nat.reduceLT, reduceIte, Nat.reduceEqDiff, Nat.reduceAdd, Nat.reduceMul, Nat.reduceBEq, reduceCtorEq]; rfl) ?_
  try dsimp only [thenQ, blockQ]
  refine AW.seq ?_
  refine AW.region ?_
  refine AWL.q rfl rfl rfl (by decide) (Qt.fieldAddr rfl fl205_3 rfl rfl (by decide)) ?_
  refine AWL.nrm (by simp only [go_sem, Int.reduceToNat, Nat.reduceLT, reduceIte, Nat.reduceEqDiff, Nat.reduceAdd, Nat.reduceMul, Nat.reduceBEq, reduceCtorEq]; rfl) ?_
  refine AWL.q rfl rfl rfl (by decide) (Qt.load1 rfl rfl rfl ag3) ?_
  refine AWL.q rfl rfl rfl (by decide) (Qt.fieldAddr rfl fl201_3 rfl rfl (by decide)) ?_
  refine AWL.step rfl rfl (by first | exact Stp.storeA rfl rfl rfl rfl (by decide) rfl | exact Stp.store rfl rfl (by simp) rfl rfl rfl (by decide) rfl) ?_
  refine AWL.nilE (by simp only [go_sem, Int.reduceToNat, Nat.reduceLT, reduceIte, Nat.reduceEqDiff, Nat.reduceAdd, Nat.reduceMul, Nat.reduceBEq, reduceCtorEq]; rfl) ?_
  try dsimp only [thenQ, blockQ]
  refine AW.seq ?_
  refine AW.region ?_
  refine AWL.q rfl rfl rfl (by decide) (Qt.fieldAddr rfl fl205_4 rfl rfl (by decide)) ?_
  refine AWL.nrm (by simp only [go_sem, Int.reduceToNat, Nat.reduceLT, reduceIte, Nat.reduceEqDiff, Nat.reduceAdd, Nat.reduceMul, Nat.reduceBEq, reduceCtorEq]; rfl) ?_
  refine AWL.q rfl rfl rfl (by decide) (Qt.load1 rfl rfl rfl ag3) ?_
  refine AWL.q rfl rfl rfl (by decide) (Qt.fieldAddr rfl fl201_4 rfl rfl (by decide)) ?_
  refine AWL.step rfl rfl (by first | exact Stp.storeA rfl rfl rfl rfl (by decide) rfl | exact Stp.store rfl rfl (by simp) rfl rfl rfl (by decide) rfl) ?_
  refine AWL.nilE (by simp only [go_sem, Int.reduceToNat, Nat.reduceLT, reduceIte, Nat.reduceEqDiff, Nat.reduceAdd, Nat.reduceMul, Nat.reduceBEq, reduceCtorEq]; rfl) ?_
  try dsimp only [thenQ, blockQ]
  refine AW.seq ?_
  refine AW.region ?_
  refine AWL.q rfl rfl rfl (by decide) (Qt.loadG rfl rfl rfl ag201 sz201 (by decide)) ?_
  refine AWL.nrm (by simp only [go_sem, Int.reduceToNat, Nat.reduceLT, reduceIte, Nat.reduceEqDiff, Nat.reduceAdd, Nat.reduceMul, Nat.reduceBEq, reduceCtorEq]; rfl) ?_
  refine AWL.step rfl rfl (by first | exact Stp.storeA rfl rfl rfl rfl (by decide) rfl | exact Stp.store rfl rfl (by simp) rfl rfl rfl (by decide) rfl) ?_
  refine AWL.nilE (by simp only [go_sem, Int.reduceToNat, Nat.reduceLT, reduceIte, Nat.reduceEqDiff, Nat.reduceAdd, Nat.reduceMul, Nat.reduceBEq, reduceCtorEq]; rfl) ?_
  try dsimp only [thenQ, blockQ]
  refine AW.ret ?_
  try dsimp only [thenQ, blockQ]
  refine endQ_ret (.cons (.cellG 2 201 rfl rfl rfl ag201 sz201 (by decide)) .nil) ?_
  refine ⟨fun _ => 0, rfl, nodup_of rfl, ?_⟩
  intro r hr
  cases hr
set_option maxHeartbeats 8000000 in
set_option maxRecDepth 10000 in
theorem toAOpenS_con (a : List DAOpen) (hw : Mk.wt a ≤ 1048576) : Con Try.prog 62 [.h base []] [.rt base .ro (tr a)] (Ret (.h 0 []) [(0, .row, tr a)]) := by
  refine Con.of_body Try.func62 rfl (by simp) ?_
  rw [Try.ntmps62]
  have hw2 : a.length + wtL Mk.wt a ≤ 1048576 := hw
  refine AW.seq ?_
  refine AW.region ?_
  refine AWL.q rfl rfl rfl (by decide) Qt.assign ?_
  refine AWL.nilE (by simp only [go_sem, Int.reduceToNat, Nat.reduceLT, reduceIte, Nat.reduceEqDiff, Nat.reduceAdd, Nat.reduceMul, Nat.reduceBEq, reduceCtorEq]; rfl) ?_
  try dsimp only [thenQ, blockQ]
  refine AW.seq ?_
  refine AW.region ?_
  refine AWL.q rfl rfl rfl (by decide) Qt.move ?_
  refine AWL.q rfl rfl rfl (by decide) (Qt.lenH rfl rfl rfl sl48) ?_
  refine AWL.nrm (by simp only [go_sem, Int.reduceToNat, Nat.reduceLT, reduceIte, Nat.reduceEqDiff, Nat.reduceAdd, Nat.reduceMul, Nat.reduceBEq, reduceCtorEq]; rfl) ?_
  refine AWL.step rfl rfl (Stp.makeSlice rfl (by decide) (by decide) rfl rfl (by omega) (by omega) (by omega)) ?_
  refine AWL.nrm (by simp only [go_sem, Int.reduceToNat, Nat.reduceLT, reduceIte, Nat.reduceEqDiff, Nat.reduceAdd, Nat.reduceMul, Nat.reduceBEq, reduceCtorEq]; rfl) ?_
  refine AWL.q rfl rfl rfl (by decide) Qt.assign ?_
  refine AWL.nilE (by simp only [go_sem, Int.reduceToNat, Nat.reduceLT, reduceIte, Nat.reduceEqDiff, Nat.reduceAdd, Nat.reduceMul, Nat.reduceBEq, reduceCtorEq]; rfl) ?_
  try dsimp only [thenQ, blockQ]
  refine AW.seq ?_
  refine AW.seq ?_
  refine AW.region ?_
  refine AWL.q rfl rfl rfl (by decide) Qt.assign ?_
  refine AWL.nilE (by simp only [go_sem, Int.reduceToNat, Nat.reduceLT, reduceIte, Nat.reduceEqDiff, Nat.reduceAdd, Nat.reduceMul, Nat.reduceBEq, reduceCtorEq]; rfl) ?_
  try dsimp only [thenQ, blockQ]
  refine AW.block ?_
  refine AW.weak (L' := [.sl 4 (.v (iv (0 : Nat))), .sl 3 (.h 7 []), .sl 0 (.h base []), .rt 7 .row (trMix (0 : Nat) a.length (fun j => a.getD j En.dflt) fun _ => En.dflt), .rt base .ro (tr a)]) (Weak.sim ⟨rfl, rfl, rfl, ⟨_, rfl, (trMix_start rfl (fun c hc => match c, hc with | 0, _ => T.sim_refl _ | 1, _ => T.sim_refl _ | 2, _ => T.sim_refl _ | 3, _ => T.sim_refl _ | 4, _ => T.sim_refl _ | c + 5, hc => absurd hc (by simp only [En.n]; omega)))⟩, ⟨_, rfl, T.sim_refl _⟩, trivial⟩ rfl rfl) ?_
  refine AW.loop (fun i : KInv a.length => [.sl 4 (.v (iv i.k)), .sl 3 (.h 7 []), .sl 0 (.h base []), .rt 7 .row (trMix i.k a.length (fun j => a.getD j En.dflt) fun _ => En.dflt), .rt base .ro (tr a)]) (fun i => a.length - i.k) ⟨0, Nat.zero_le _⟩ ?_
  intro i
  have hle := i.le
  refine AW.seq ?_
  refine AW.seq ?_
  refine AW.region ?_
  refine AWL.q rfl rfl rfl (by decide) Qt.move ?_
  refine AWL.nrm (by simp only [go_sem, Int.reduceToNat, Nat.reduceLT, reduceIte, Nat.reduceEqDiff, Nat.reduceAdd, Nat.reduceMul, Nat.reduceBEq, reduceCtorEq]; rfl) ?_
  refine AWL.q rfl rfl rfl (by decide) Qt.move ?_
  refine AWL.q rfl rfl rfl (by decide) (Qt.lenH rfl rfl rfl sl48) ?_
  refine AWL.q rfl rfl rfl (by decide) (Qt.binOp rfl rfl rfl) ?_
  refine AWL.nilE (by simp only [go_sem, Int.reduceToNat, Nat.reduceLT, reduceIte, Nat.reduceEqDiff, Nat.reduceAdd, Nat.reduceMul, Nat.reduceBEq, reduceCtorEq]; rfl) ?_
  try dsimp only [thenQ, blockQ]
  refine AW.cond rfl (fun c1 => ?_) (fun c1 => ?_)
  · have k1 := c1
    try simp only [decide_eq_true_eq, decide_eq_false_iff_not, bne_iff_ne, ne_eq, beq_iff_eq, beq_eq_false_iff_ne, bne_eq_false_iff_eq, Bool.not_eq_true', Bool.not_eq_false', Bool.and_eq_true, Bool.or_eq_true, Bool.and_eq_false_iff, Bool.or_eq_false_iff, Int.not_lt, Int.not_le, Int.toNat_natCast] at c1
    have hwk := wtL_get (w := Mk.wt) (d := En.dflt) (l := a) (i := i.k) (by omega)
    refine AW.skip ?_
    dsimp only [thenQ, blockQ]
    refine AW.seq ?_
    refine AW.block ?_
    refine AW.region ?_
    refine AWL.q rfl rfl rfl (by decide) Qt.move ?_
    refine AWL.nrm (by simp only [go_sem, Int.reduceToNat, Nat.reduceLT, reduceIte, Nat.reduceEqDiff, Nat.reduceAdd, Nat.reduceMul, Nat.reduceBEq, reduceCtorEq]; rfl) ?_
    refine AWL.q rfl rfl rfl (by decide) Qt.move ?_
    refine AWL.q rfl rfl rfl (by decide) Qt.move ?_
    refine AWL.q rfl rfl rfl (by decide) Qt.move ?_
    refine AWL.nrm (by simp only [go_sem, Int.reduceToNat, Nat.reduceLT, reduceIte, Nat.reduceEqDiff, Nat.reduceAdd, Nat.reduceMul, Nat.reduceBEq, reduceCtorEq]; rfl) ?_
    refine AWL.q rfl rfl rfl (by decide) (Qt.indexAddr rfl rfl rfl rfl sl48 sz205 (by decide) (by omega)) ?_
    refine AWL.q rfl rfl rfl (by decide) (Qt.loadG rfl rfl rfl ag205 sz205 (by decide)) ?_
    refine AWL.step rfl rfl (Stp.callR rfl (by decide) Try.call143 rfl rfl (toAOpen_con _) (nodup_of rfl) rfl rfl) ?_
    refine AWL.nrm (by simp only [go_sem, Int.reduceToNat, Nat.reduceLT, reduceIte, Nat.reduceEqDiff, Nat.reduceAdd, Nat.reduceMul, Nat.reduceBEq, reduceCtorEq]; rfl) ?_
    refine AWL.q rfl rfl rfl (by decide) (Qt.indexAddr rfl rfl rfl rfl sl58 sz201 (by decide) (by omega)) ?_
    refine AWL.step rfl rfl (by first | exact Stp.storeA rfl rfl rfl rfl (by decide) rfl | exact Stp.store rfl rfl (by simp) rfl rfl rfl (by decide) rfl) ?_
    refine AWL.nilE (by simp only [go_sem, Int.reduceToNat, Nat.reduceLT, reduceIte, Nat.reduceEqDiff, Nat.reduceAdd, Nat.reduceMul, Nat.reduceBEq, reduceCtorEq]; rfl) ?_
    try dsimp only [thenQ, blockQ]
    refine AW.region ?_
    refine AWL.q rfl rfl rfl (by decide) Qt.move ?_
    refine AWL.nrm (by simp only [go_sem, Int.reduceToNat, Nat.reduceLT, reduceIte, Nat.reduceEqDiff, Nat.reduceAdd, Nat.reduceMul, Nat.reduceBEq, reduceCtorEq]; rfl) ?_
    refine AWL.q rfl rfl rfl (by decide) (Qt.binOp rfl rfl (by first | exact pbAdd (by omega) | rfl)) ?_
    refine AWL.q rfl rfl rfl (by decide) Qt.assign ?_
    refine AWL.nilE (by simp only [go_sem, Int.reduceToNat, Nat.reduceLT, reduceIte, Nat.reduceEqDiff, Nat.reduceAdd, Nat.reduceMul, Nat.reduceBEq, reduceCtorEq]; rfl) ?_
    try dsimp only [thenQ, blockQ]
    refine ⟨⟨i.k + 1, by omega⟩, Weak.sim ⟨(by simp only [slotL, reduceIte, Nat.reduceEqDiff]; first | rfl | (rw [IntWalk.i64_in _ (by omega)]; rfl)), rfl, rfl, ⟨_, rfl, trMix_next (fun i c hi => by simp only [upd_app, hi, false_and, if_false]; rfl) (fun c hc => match c, hc with | 0, _ => (by simp only [upd_app, eq_self, and_true, and_false, Nat.reduceEqDiff, if_true, if_false]; exact T.sim_refl _) | 1, _ => (by simp only [upd_app, eq_self, and_true, and_false, Nat.reduceEqDiff, if_true, if_false]; exact T.sim_refl _) | 2, _ => (by simp only [upd_app, eq_self, and_true, and_false, Nat.reduceEqDiff, if_true, if_false]; exact T.sim_refl _) | 3, _ => (by simp only [upd_app, eq_self, and_true, and_false, Nat.reduceEqDiff, if_true, if_false]; exact T.sim_refl _) | 4, _ => (by simp only [upd_app, eq_self, and_true, and_false, Nat.reduceEqDiff, if_true, if_false]; exact T.sim_refl _) | c + 5, hc => absurd hc (by simp only [En.n]; omega))⟩, ⟨_, rfl, T.sim_refl _⟩, trivial⟩ rfl rfl, ?_⟩
    show a.length - (i.k + 1) < a.length - i.k
    omega
  · have k1 := c1
    try simp only [decide_eq_true_eq, decide_eq_false_iff_not, bne_iff_ne, ne_eq, beq_iff_eq, beq_eq_false_iff_ne, bne_eq_false_iff_eq, Bool.not_eq_true', Bool.not_eq_false', Bool.and_eq_true, Bool.or_eq_true, Bool.and_eq_false_iff, Bool.or_eq_false_iff, Int.not_lt, Int.not_le, Int.toNat_natCast] at c1
    refine AW.exit ?_
    dsimp only [thenQ, blockQ, reduceIte]
    refine AW.seq ?_
    refine AW.region ?_
    refine AWL.q rfl rfl rfl (by decide) Qt.move ?_
    refine AWL.nrm (by simp only [go_sem, Int.reduceToNat, Nat.reduceLT, reduceIte, Nat.reduceEqDiff, Nat.reduceAdd, Nat.reduceMul, Nat.reduceBEq, reduceCtorEq]; rfl) ?_
    refine AWL.q rfl rfl rfl (by decide) Qt.assign ?_
    refine AWL.nilE (by simp only [go_sem, Int.reduceToNat, Nat.reduceLT, reduceIte, Nat.reduceEqDiff, Nat.reduceAdd, Nat.reduceMul, Nat.reduceBEq, reduceCtorEq]; rfl) ?_
    try dsimp only [thenQ, blockQ]
    refine AW.weak (L' := [.rt 7 .row (tr a), .sl 2 (.h 7 [])]) (Weak.sim ⟨⟨_, rfl, trMix_full (by omega) rfl (fun _ _ => rfl)⟩, rfl, trivial⟩ rfl rfl) ?_
    refine AW.ret ?_
    try dsimp only [thenQ, blockQ]
    refine endQ_ret (.cons (.tmp 2) .nil) ?_
    refine ⟨fun _ => 7, rfl, nodup_of rfl, ?_⟩
    intro r hr
    cases List.mem_singleton.1 hr
    exact ⟨by simp, rootL_mem rfl⟩
set_option maxHeartbeats 8000000 in
set_option maxRecDepth 10000 in
theorem toARing_con (a : DARing) (hw : Mk.wt a ≤ 1048576) : Con Try.prog 65 [.g [.v (.bool a.Used), .h base [], .v (iv a.Head), .v (iv a.Len)]] [.rt base .ro (tr a.Buf)] (Ret (.g [.v (.bool a.Used), .h 0 [], .v (iv a.Head), .v (iv a.Len)]) [(0, .row, tr a.Buf)]) := by
  refine Con.of_body Try.func65 rfl (by simp) ?_
  rw [Try.ntmps65]
  refine AW.seq ?_
  refine AW.region ?_
  refine AWL.step rfl rfl (Stp.boxB rfl (by decide) (by decide) rfl rfl rfl rfl) ?_
  refine AWL.nrm (by simp only [go_sem, Int.reduceToNat, Nat.reduceLT, reduceIte, Nat.reduceEqDiff, Nat.reduceAdd, Nat.reduceMul, Nat.reduceBEq, reduceCtorEq]; rfl) ?_
  refine AWL.step rfl rfl (Stp.alloc rfl (by decide) (by decide)) ?_
  refine AWL.nilE (by simp only [go_sem, Int.reduceToNat, Nat.reduceLT, reduceIte, Nat.reduceEqDiff, Nat.reduceAdd, Nat.reduceMul, Nat.reduceBEq, reduceCtorEq]; rfl) ?_
  try dsimp only [thenQ, blockQ]
  refine AW.seq ?_
  refine AW.region ?_
  refine AWL.step rfl rfl (Stp.alloc rfl (by decide) (by decide)) ?_
  refine AWL.nilE (by simp only [go_sem, Int.reduceToNat, Nat.reduceLT, reduceIte, Nat.reduceEqDiff, Nat.reduceAdd, Nat.reduceMul, Nat.reduceBEq, reduceCtorEq]; rfl) ?_
  try dsimp only [thenQ, blockQ]
  refine AW.seq ?_
  refine AW.region ?_
  refine AWL.q rfl rfl rfl (by decide) (Qt.fieldAddr rfl fl52_0 rfl rfl (by decide)) ?_
  refine AWL.nrm (by simp only [go_sem, Int.reduceToNat, Nat.reduceLT, reduceIte, Nat.reduceEqDiff, Nat.reduceAdd, Nat.reduceMul, Nat.reduceBEq, reduceCtorEq]; rfl) ?_
  refine AWL.q rfl rfl rfl (by decide) (Qt.load1 rfl rfl rfl ag4) ?_
  refine AWL.q rfl rfl rfl (by decide) (Qt.fieldAddr rfl fl61_0 rfl rfl (by decide)) ?_
  refine AWL.step rfl rfl (by first | exact Stp.storeA rfl rfl rfl rfl (by decide) rfl | exact Stp.store rfl rfl (by simp) rfl rfl rfl (by decide) rfl) ?_
  refine AWL.nilE (by simp only [go_sem, Int.reduceToNat, Nat.reduceLT, reduceIte, Nat.reduceEqDiff, Nat.reduceAdd, Nat.reduceMul, Nat.reduceBEq, reduceCtorEq]; rfl) ?_
  try dsimp only [thenQ, blockQ]
  refine AW.seq ?_
  refine AW.region ?_
  refine AWL.q rfl rfl rfl (by decide) (Qt.fieldAddr rfl fl52_1 rfl rfl (by decide)) ?_
  refine AWL.nrm (by simp only [go_sem, Int.reduceToNat, Nat.reduceLT, reduceIte, Nat.reduceEqDiff, Nat.reduceAdd, Nat.reduceMul, Nat.reduceBEq, reduceCtorEq]; rfl) ?_
  refine AWL.q rfl rfl rfl (by decide) (Qt.load1 rfl rfl rfl ag24) ?_
  refine AWL.step rfl rfl (Stp.callR rfl (by decide) Try.call43 rfl rfl (toIntS_con _ (by first | omega | (simp only [Int.toNat_natCast]; omega) | (simp only [Mk.wt] at *; omega))) (nodup_of rfl) rfl rfl) ?_
  refine AWL.nrm (by simp only [go_sem, Int.reduceToNat, Nat.reduceLT, reduceIte, Nat.reduceEqDiff, Nat.reduceAdd, Nat.reduceMul, Nat.reduceBEq, reduceCtorEq]; rfl) ?_
  refine AWL.q rfl rfl rfl (by decide) (Qt.fieldAddr rfl fl61_1 rfl rfl (by decide)) ?_
  refine AWL.step rfl rfl (by first | exact Stp.storeA rfl rfl rfl rfl (by decide) rfl | exact Stp.store rfl rfl (by simp) rfl rfl rfl (by decide) rfl) ?_
  refine AWL.nilE (by simp only [go_sem, Int.reduceToNat, Nat.reduceLT, reduceIte, Nat.reduceEqDiff, Nat.reduceAdd, Nat.reduceMul, Nat.reduceBEq, reduceCtorEq]; rfl) ?_
  try dsimp only [thenQ, blockQ]
  refine AW.seq ?_
  refine AW.region ?_
  refine AWL.q rfl rfl rfl (by decide) (Qt.fieldAddr rfl fl52_2 rfl rfl (by decide)) ?_
  refine AWL.nrm (by simp only [go_sem, Int.reduceToNat, Nat.reduceLT, reduceIte, Nat.reduceEqDiff, Nat.reduceAdd, Nat.reduceMul, Nat.reduceBEq, reduceCtorEq]; rfl) ?_
  refine AWL.q rfl rfl rfl (by decide) (Qt.load1 rfl rfl rfl ag3) ?_
  refine AWL.q rfl rfl rfl (by decide) (Qt.fieldAddr rfl fl61_2 rfl rfl (by decide)) ?_
  refine AWL.step rfl rfl (by first | exact Stp.storeA rfl rfl rfl rfl (by decide) rfl | exact Stp.store rfl rfl (by simp) rfl rfl rfl (by decide) rfl) ?_
  refine AWL.nilE (by simp only [go_sem, Int.reduceToNat, Nat.reduceLT, reduceIte, Nat.reduceEqDiff, Nat.reduceAdd, Nat.reduceMul, Nat.reduceBEq, reduceCtorEq]; rfl) ?_
  try dsimp only [thenQ, blockQ]
  refine AW.seq ?_
  refine AW.region ?_
  refine AWL.q rfl rfl rfl (by decide) (Qt.fieldAddr rfl fl52_3 rfl rfl (by decide)) ?_
  refine AWL.nrm (by simp only [go_sem, Int.reduceToNat, Nat.reduceLT, reduceIte, Nat.reduceEqDiff, Nat.reduceAdd, Nat.reduceMul, Nat.reduceBEq, reduceCtorEq]; rfl) ?_
  refine AWL.q rfl rfl rfl (by decide) (Qt.load1 rfl rfl rfl ag3) ?_
  refine AWL.q rfl rfl rfl (by decide) (Qt.fieldAddr rfl fl61_3 rfl rfl (by decide)) ?_
  refine AWL.step rfl rfl (by first | exact Stp.storeA rfl rfl rfl rfl (by decide) rfl | exact Stp.store rfl rfl (by simp) rfl rfl rfl (by decide) rfl) ?_
  refine AWL.nilE (by simp only [go_sem, Int.reduceToNat, Nat.reduceLT, reduceIte, Nat.reduceEqDiff, Nat.reduceAdd, Nat.reduceMul, Nat.reduceBEq, reduceCtorEq]; rfl) ?_
  try dsimp only [thenQ, blockQ]
  refine AW.seq ?_
  refine AW.region ?_
  refine AWL.q rfl rfl rfl (by decide) (Qt.loadG rfl rfl rfl ag61 sz61 (by decide)) ?_
  refine AWL.nrm (by simp only [go_sem, Int.reduceToNat, Nat.reduceLT, reduceIte, Nat.reduceEqDiff, Nat.reduceAdd, Nat.reduceMul, Nat.reduceBEq, reduceCtorEq]; rfl) ?_
  refine AWL.step rfl rfl (by first | exact Stp.storeA rfl rfl rfl rfl (by decide) rfl | exact Stp.store rfl rfl (by simp) rfl rfl rfl (by decide) rfl) ?_
  refine AWL.nilE (by simp only [go_sem, Int.reduceToNat, Nat.reduceLT, reduceIte, Nat.reduceEqDiff, Nat.reduceAdd, Nat.reduceMul, Nat.reduceBEq, reduceCtorEq]; rfl) ?_
  try dsimp only [thenQ, blockQ]
  refine AW.ret ?_
  try dsimp only [thenQ, blockQ]
  refine endQ_ret (.cons (.cellG 2 61 rfl rfl rfl ag61 sz61 (by decide)) .nil) ?_
  refine ⟨fun _ => 9, rfl, nodup_of rfl, ?_⟩
  intro r hr
  cases List.mem_singleton.1 hr
  exact ⟨by simp, rootL_mem rfl⟩
set_option maxHeartbeats 8000000 in
set_option maxRecDepth 10000 in
theorem toARingS_con (a : List DARing) (hw : Mk.wt a ≤ 1048576) : Con Try.prog 63 [.h base []] [.rt base .ro (tr a)] (Ret (.h 0 []) [(0, .row, tr a)]) := by
  refine Con.of_body Try.func63 rfl (by simp) ?_
  rw [Try.ntmps63]
  have hw2 : a.length + wtL Mk.wt a ≤ 1048576 := hw
  refine AW.seq ?_
  refine AW.region ?_
  refine AWL.q rfl rfl rfl (by decide) Qt.assign ?_
  refine AWL.nilE (by simp only [go_sem, Int.reduceToNat, Nat.reduceLT, reduceIte, Nat.reduceEqDiff, Nat.reduceAdd, Nat.reduceMul, Nat.reduceBEq, reduceCtorEq]; rfl) ?_
  try dsimp only [thenQ, blockQ]
  refine AW.seq ?_
  refine AW.region ?_
  refine AWL.q rfl rfl rfl (by decide) Qt.move ?_
  refine AWL.q rfl rfl rfl (by decide) (Qt.lenH rfl rfl rfl sl49) ?_
  refine AWL.nrm (by simp only [go_sem, Int.reduceToNat, Nat.reduceLT, reduceIte, Nat.reduceEqDiff, Nat.reduceAdd, Nat.reduceMul, Nat.reduceBEq, reduceCtorEq]; rfl) ?_
  refine AWL.step rfl rfl (Stp.makeSlice rfl (by decide) (by decide) rfl rfl (by omega) (by omega) (by omega)) ?_
  refine AWL.nrm (by simp only [go_sem, Int.reduceToNat, Nat.reduceLT, reduceIte, Nat.reduceEqDiff, Nat.reduceAdd, Nat.reduceMul, Nat.reduceBEq, reduceCtorEq]; rfl) ?_
  refine AWL.q rfl rfl rfl (by decide) Qt.assign ?_
  refine AWL.nilE (by simp only [go_sem, Int.reduceToNat, Nat.reduceLT, reduceIte, Nat.reduceEqDiff, Nat.reduceAdd, Nat.reduceMul, Nat.reduceBEq, reduceCtorEq]; rfl) ?_
  try dsimp only [thenQ, blockQ]
  refine AW.seq ?_
  refine AW.seq ?_
  refine AW.region ?_
  refine AWL.q rfl rfl rfl (by decide) Qt.assign ?_
  refine AWL.nilE (by simp only [go_sem, Int.reduceToNat, Nat.reduceLT, reduceIte, Nat.reduceEqDiff, Nat.reduceAdd, Nat.reduceMul, Nat.reduceBEq, reduceCtorEq]; rfl) ?_
  try dsimp only [thenQ, blockQ]
  refine AW.block ?_
  refine AW.weak (L' := [.sl 4 (.v (iv (0 : Nat))), .sl 3 (.h 7 []), .sl 0 (.h base []), .rt 7 .row (trMix (0 : Nat) a.length (fun j => a.getD j En.dflt) fun _ => En.dflt), .rt base .ro (tr a)]) (Weak.sim ⟨rfl, rfl, rfl, ⟨_, rfl, (trMix_start rfl (fun c hc => match c, hc with | 0, _ => T.sim_refl _ | 1, _ => sim_nil | 2, _ => T.sim_refl _ | 3, _ => T.sim_refl _ | c + 4, hc => absurd hc (by simp only [En.n]; omega)))⟩, ⟨_, rfl, T.sim_refl _⟩, trivial⟩ rfl rfl) ?_
  refine AW.loop (fun i : KInv a.length => [.sl 4 (.v (iv i.k)), .sl 3 (.h 7 []), .sl 0 (.h base []), .rt 7 .row (trMix i.k a.length (fun j => a.getD j En.dflt) fun _ => En.dflt), .rt base .ro (tr a)]) (fun i => a.length - i.k) ⟨0, Nat.zero_le _⟩ ?_
  intro i
  have hle := i.le
  refine AW.seq ?_
  refine AW.seq ?_
  refine AW.region ?_
  refine AWL.q rfl rfl rfl (by decide) Qt.move ?_
  refine AWL.nrm (by simp only [go_sem, Int.reduceToNat, Nat.reduceLT, reduceIte, Nat.reduceEqDiff, Nat.reduceAdd, Nat.reduceMul, Nat.reduceBEq, reduceCtorEq]; rfl) ?_
  refine AWL.q rfl rfl rfl (by decide) Qt.move ?_
  refine AWL.q rfl rfl rfl (by decide) (Qt.lenH rfl rfl rfl sl49) ?_
  refine AWL.q rfl rfl rfl (by decide) (Qt.binOp rfl rfl rfl) ?_
  refine AWL.nilE (by simp only [go_sem, Int.reduceToNat, Nat.reduceLT, reduceIte, Nat.reduceEqDiff, Nat.reduceAdd, Nat.reduceMul, Nat.reduceBEq, reduceCtorEq]; rfl) ?_
  try dsimp only [thenQ, blockQ]
  refine AW.cond rfl (fun c1 => ?_) (fun c1 => ?_)
  · have k1 := c1
    try simp only [decide_eq_true_eq, decide_eq_false_iff_not, bne_iff_ne, ne_eq, beq_iff_eq, beq_eq_false_iff_ne, bne_eq_false_iff_eq, Bool.not_eq_true', Bool.not_eq_false', Bool.and_eq_true, Bool.or_eq_true, Bool.and_eq_false_iff, Bool.or_eq_false_iff, Int.not_lt, Int.not_le, Int.toNat_natCast] at c1
    have hwk := wtL_get (w := Mk.wt) (d := En.dflt) (l := a) (i := i.k) (by omega)
    refine AW.skip ?_
    dsimp only [thenQ, blockQ]
    refine AW.seq ?_
    refine AW.block ?_
    refine AW.region ?_
    refine AWL.q rfl rfl rfl (by decide) Qt.move ?_
    refine AWL.nrm (by simp only [go_sem, Int.reduceToNat, Nat.reduceLT, reduceIte, Nat.reduceEqDiff, Nat.reduceAdd, Nat.reduceMul, Nat.reduceBEq, reduceCtorEq]; rfl) ?_
    refine AWL.q rfl rfl rfl (by decide) Qt.move ?_
    refine AWL.q rfl rfl rfl (by decide) Qt.move ?_
    refine AWL.q rfl rfl rfl (by decide) Qt.move ?_
    refine AWL.nrm (by simp only [go_sem, Int.reduceToNat, Nat.reduceLT, reduceIte, Nat.reduceEqDiff, Nat.reduceAdd, Nat.reduceMul, Nat.reduceBEq, reduceCtorEq]; rfl) ?_
    refine AWL.q rfl rfl rfl (by decide) (Qt.indexAddr rfl rfl rfl rfl sl49 sz52 (by decide) (by omega)) ?_
    refine AWL.q rfl rfl rfl (by decide) (Qt.loadG rfl rfl rfl ag52 sz52 (by decide)) ?_
    refine AWL.step rfl rfl (Stp.callR rfl (by decide) Try.call65 rfl rfl (toARing_con _ (by first | omega | (simp only [Int.toNat_natCast]; omega) | (simp only [Mk.wt] at *; omega))) (nodup_of rfl) rfl rfl) ?_
    refine AWL.nrm (by simp only [go_sem, Int.reduceToNat, Nat.reduceLT, reduceIte, Nat.reduceEqDiff, Nat.reduceAdd, Nat.reduceMul, Nat.reduceBEq, reduceCtorEq]; rfl) ?_
    refine AWL.q rfl rfl rfl (by decide) (Qt.indexAddr rfl rfl rfl rfl sl59 sz61 (by decide) (by omega)) ?_
    refine AWL.step rfl rfl (by first | exact Stp.storeA rfl rfl rfl rfl (by decide) rfl | exact Stp.store rfl rfl (by simp) rfl rfl rfl (by decide) rfl) ?_
    refine AWL.nilE (by simp only [go_sem, Int.reduceToNat, Nat.reduceLT, reduceIte, Nat.reduceEqDiff, Nat.reduceAdd, Nat.reduceMul, Nat.reduceBEq, reduceCtorEq]; rfl) ?_
    try dsimp only [thenQ, blockQ]
    refine AW.region ?_
    refine AWL.q rfl rfl rfl (by decide) Qt.move ?_
    refine AWL.nrm (by simp only [go_sem, Int.reduceToNat, Nat.reduceLT, reduceIte, Nat.reduceEqDiff, Nat.reduceAdd, Nat.reduceMul, Nat.reduceBEq, reduceCtorEq]; rfl) ?_
    refine AWL.q rfl rfl rfl (by decide) (Qt.binOp rfl rfl (by first | exact pbAdd (by omega) | rfl)) ?_
    refine AWL.q rfl rfl rfl (by decide) Qt.assign ?_
    refine AWL.nilE (by simp only [go_sem, Int.reduceToNat, Nat.reduceLT, reduceIte, Nat.reduceEqDiff, Nat.reduceAdd, Nat.reduceMul, Nat.reduceBEq, reduceCtorEq]; rfl) ?_
    try dsimp only [thenQ, blockQ]
    refine ⟨⟨i.k + 1, by omega⟩, Weak.sim ⟨(by simp only [slotL, reduceIte, Nat.reduceEqDiff]; first | rfl | (rw [IntWalk.i64_in _ (by omega)]; rfl)), rfl, rfl, ⟨_, rfl, trMix_next (fun i c hi => by simp only [upd_app, hi, false_and, if_false]; rfl) (fun c hc => match c, hc with | 0, _ => (by simp only [upd_app, eq_self, and_true, and_false, Nat.reduceEqDiff, if_true, if_false]; exact T.sim_refl _) | 1, _ => (by simp only [upd_app, eq_self, and_true, and_false, Nat.reduceEqDiff, if_true, if_false]; exact T.sim_refl _) | 2, _ => (by simp only [upd_app, eq_self, and_true, and_false, Nat.reduceEqDiff, if_true, if_false]; exact T.sim_refl _) | 3, _ => (by simp only [upd_app, eq_self, and_true, and_false, Nat.reduceEqDiff, if_true, if_false]; exact T.sim_refl _) | c + 4, hc => absurd hc (by simp only [En.n]; omega))⟩, ⟨_, rfl, T.sim_refl _⟩, trivial⟩ rfl rfl, ?_⟩
    show a.length - (i.k + 1) < a.length - i.k
    omega
  · have k1 := c1
    try simp only [decide_eq_true_eq, decide_eq_false_iff_not, bne_iff_ne, ne_eq, beq_iff_eq, beq_eq_false_iff_ne, bne_eq_false_iff_eq, Bool.not_eq_true', Bool.not_eq_false', Bool.and_eq_true, Bool.or_eq_true, Bool.and_eq_false_iff, Bool.or_eq_false_iff, Int.not_lt, Int.not_le, Int.toNat_natCast] at c1
    refine AW.exit ?_
    dsimp only [thenQ, blockQ, reduceIte]
    refine AW.seq ?_
    refine AW.region ?_
    refine AWL.q rfl rfl rfl (by decide) Qt.move ?_
    refine AWL.nrm (by simp only [go_sem, Int.reduceToNat, Nat.reduceLT, reduceIte, Nat.reduceEqDiff, Nat.reduceAdd, Nat.reduceMul, Nat.reduceBEq, reduceCtorEq]; rfl) ?_
    refine AWL.q rfl rfl rfl (by decide) Qt.assign ?_
    refine AWL.nilE (by simp only [go_sem, Int.reduceToNat, Nat.reduceLT, reduceIte, Nat.reduceEqDiff, Nat.reduceAdd, Nat.reduceMul, Nat.reduceBEq, reduceCtorEq]; rfl) ?_
    try dsimp only [thenQ, blockQ]
    refine AW.weak (L' := [.rt 7 .row (tr a), .sl 2 (.h 7 [])]) (Weak.sim ⟨⟨_, rfl, trMix_full (by omega) rfl (fun _ _ => rfl)⟩, rfl, trivial⟩ rfl rfl) ?_
    refine AW.ret ?_
    try dsimp only [thenQ, blockQ]
    refine endQ_ret (.cons (.tmp 2) .nil) ?_
    refine ⟨fun _ => 7, rfl, nodup_of rfl, ?_⟩
    intro r hr
    cases List.mem_singleton.1 hr
    exact ⟨by simp, rootL_mem rfl⟩
set_option maxHeartbeats 8000000 in
set_option maxRecDepth 10000 in
theorem toAFile_con (a : DAFile) (hw : Mk.wt a ≤ 1048576) : Con Try.prog 144 [.g [.v (.bool a.Used), .h base []]] [.rt base .ro (tr a.Data)] (Ret (.g [.v (.bool a.Used), .h 0 []]) [(0, .row, tr a.Data)]) := by
  refine Con.of_body Try.func144 rfl (by simp) ?_
  rw [Try.ntmps144]
  refine AW.seq ?_
  refine AW.region ?_
  refine AWL.step rfl rfl (Stp.boxB rfl (by decide) (by decide) rfl rfl rfl rfl) ?_
  refine AWL.nrm (by simp only [go_sem, Int.reduceToNat, Nat.reduceLT, reduceIte, Nat.reduceEqDiff, Nat.reduceAdd, Nat.reduceMul, Nat.reduceBEq, reduceCtorEq]; rfl) ?_
  refine AWL.step rfl rfl (Stp.alloc rfl (by decide) (by decide)) ?_
  refine AWL.nilE (by simp only [go_sem, Int.reduceToNat, Nat.reduceLT, reduceIte, Nat.reduceEqDiff, Nat.reduceAdd, Nat.reduceMul, Nat.reduceBEq, reduceCtorEq]; rfl) ?_
  try dsimp only [thenQ, blockQ]
  refine AW.seq ?_
  refine AW.region ?_
  refine AWL.step rfl rfl (Stp.alloc rfl (by decide) (by decide)) ?_
  refine AWL.nilE (by simp only [go_sem, Int.reduceToNat, Nat.reduceLT, reduceIte, Nat.reduceEqDiff, Nat.reduceAdd, Nat.reduceMul, Nat.reduceBEq, reduceCtorEq]; rfl) ?_
  try dsimp only [thenQ, blockQ]
  refine AW.seq ?_
  refine AW.region ?_
  refine AWL.q rfl rfl rfl (by decide) (Qt.fieldAddr rfl fl196_0 rfl rfl (by decide)) ?_
  refine AWL.nrm (by simp only [go_sem, Int.reduceToNat, Nat.reduceLT, reduceIte, Nat.reduceEqDiff, Nat.reduceAdd, Nat.reduceMul, Nat.reduceBEq, reduceCtorEq]; rfl) ?_
  refine AWL.q rfl rfl rfl (by decide) (Qt.load1 rfl rfl rfl ag4) ?_
  refine AWL.q rfl rfl rfl (by decide) (Qt.fieldAddr rfl fl202_0 rfl rfl (by decide)) ?_
  refine AWL.step rfl rfl (by first | exact Stp.storeA rfl rfl rfl rfl (by decide) rfl | exact Stp.store rfl rfl (by simp) rfl rfl rfl (by decide) rfl) ?_
  refine AWL.nilE (by simp only [go_sem, Int.reduceToNat, Nat.reduceLT, reduceIte, Nat.reduceEqDiff, Nat.reduceAdd, Nat.reduceMul, Nat.reduceBEq, reduceCtorEq]; rfl) ?_
  try dsimp only [thenQ, blockQ]
  refine AW.seq ?_
  refine AW.region ?_
  refine AWL.q rfl rfl rfl (by decide) (Qt.fieldAddr rfl fl196_1 rfl rfl (by decide)) ?_
  refine AWL.nrm (by simp only [go_sem, Int.reduceToNat, Nat.reduceLT, reduceIte, Nat.reduceEqDiff, Nat.reduceAdd, Nat.reduceMul, Nat.reduceBEq, reduceCtorEq]; rfl) ?_
  refine AWL.q rfl rfl rfl (by decide) (Qt.load1 rfl rfl rfl ag24) ?_
  refine AWL.step rfl rfl (Stp.callR rfl (by decide) Try.call43 rfl rfl (toIntS_con _ (by first | omega | (simp only [Int.toNat_natCast]; omega) | (simp only [Mk.wt] at *; omega))) (nodup_of rfl) rfl rfl) ?_
  refine AWL.nrm (by simp only [go_sem, Int.reduceToNat, Nat.reduceLT, reduceIte, Nat.reduceEqDiff, Nat.reduceAdd, Nat.reduceMul, Nat.reduceBEq, reduceCtorEq]; rfl) ?_
  refine AWL.q rfl rfl rfl (by decide) (Qt.fieldAddr rfl fl202_1 rfl rfl (by decide)) ?_
  refine AWL.step rfl rfl (by first | exact Stp.storeA rfl rfl rfl rfl (by decide) rfl | exact Stp.store rfl rfl (by simp) rfl rfl rfl (by decide) rfl) ?_
  refine AWL.nilE (by simp only [go_sem, Int.reduceToNat, Nat.reduceLT, reduceIte, Nat.reduceEqDiff, Nat.reduceAdd, Nat.reduceMul, Nat.reduceBEq, reduceCtorEq]; rfl) ?_
  try dsimp only [thenQ, blockQ]
  refine AW.seq ?_
  refine AW.region ?_
  refine AWL.q rfl rfl rfl (by decide) (Qt.loadG rfl rfl rfl ag202 sz202 (by decide)) ?_
  refine AWL.nrm (by simp only [go_sem, Int.reduceToNat, Nat.reduceLT, reduceIte, Nat.reduceEqDiff, Nat.reduceAdd, Nat.reduceMul, Nat.reduceBEq, reduceCtorEq]; rfl) ?_
  refine AWL.step rfl rfl (by first | exact Stp.storeA rfl rfl rfl rfl (by decide) rfl | exact Stp.store rfl rfl (by simp) rfl rfl rfl (by decide) rfl) ?_
  refine AWL.nilE (by simp only [go_sem, Int.reduceToNat, Nat.reduceLT, reduceIte, Nat.reduceEqDiff, Nat.reduceAdd, Nat.reduceMul, Nat.reduceBEq, reduceCtorEq]; rfl) ?_
  try dsimp only [thenQ, blockQ]
  refine AW.ret ?_
  try dsimp only [thenQ, blockQ]
  refine endQ_ret (.cons (.cellG 2 202 rfl rfl rfl ag202 sz202 (by decide)) .nil) ?_
  refine ⟨fun _ => 9, rfl, nodup_of rfl, ?_⟩
  intro r hr
  cases List.mem_singleton.1 hr
  exact ⟨by simp, rootL_mem rfl⟩
set_option maxHeartbeats 8000000 in
set_option maxRecDepth 10000 in
theorem toAFileS_con (a : List DAFile) (hw : Mk.wt a ≤ 1048576) : Con Try.prog 64 [.h base []] [.rt base .ro (tr a)] (Ret (.h 0 []) [(0, .row, tr a)]) := by
  refine Con.of_body Try.func64 rfl (by simp) ?_
  rw [Try.ntmps64]
  have hw2 : a.length + wtL Mk.wt a ≤ 1048576 := hw
  refine AW.seq ?_
  refine AW.region ?_
  refine AWL.q rfl rfl rfl (by decide) Qt.assign ?_
  refine AWL.nilE (by simp only [go_sem, Int.reduceToNat, Nat.reduceLT, reduceIte, Nat.reduceEqDiff, Nat.reduceAdd, Nat.reduceMul, Nat.reduceBEq, reduceCtorEq]; rfl) ?_
  try dsimp only [thenQ, blockQ]
  refine AW.seq ?_
  refine AW.region ?_
  refine AWL.q rfl rfl rfl (by decide) Qt.move ?_
  refine AWL.q rfl rfl rfl (by decide) (Qt.lenH rfl rfl rfl sl50) ?_
  refine AWL.nrm (by simp only [go_sem, Int.reduceToNat, Nat.reduceLT, reduceIte, Nat.reduceEqDiff, Nat.reduceAdd, Nat.reduceMul, Nat.reduceBEq, reduceCtorEq]; rfl) ?_
  refine AWL.step rfl rfl (Stp.makeSlice rfl (by decide) (by decide) rfl rfl (by omega) (by omega) (by omega)) ?_
  refine AWL.nrm (by simp only [go_sem, Int.reduceToNat, Nat.reduceLT, reduceIte, Nat.reduceEqDiff, Nat.reduceAdd, Nat.reduceMul, Nat.reduceBEq, reduceCtorEq]; rfl) ?_
  refine AWL.q rfl rfl rfl (by decide) Qt.assign ?_
  refine AWL.nilE (by simp only [go_sem, Int.reduceToNat, Nat.reduceLT, reduceIte, Nat.reduceEqDiff, Nat.reduceAdd, Nat.reduceMul, Nat.reduceBEq, reduceCtorEq]; rfl) ?_
  try dsimp only [thenQ, blockQ]
  refine AW.seq ?_
  refine AW.seq ?_
  refine AW.region ?_
  refine AWL.q rfl rfl rfl (by decide) Qt.assign ?_
  refine AWL.nilE (by simp only [go_sem, Int.reduceToNat, Nat.reduceLT, reduceIte, Nat.reduceEqDiff, Nat.reduceAdd, Nat.reduceMul, Nat.reduceBEq, reduceCtorEq]; rfl) ?_
  try dsimp only [thenQ, blockQ]
  refine AW.block ?_
  refine AW.weak (L' := [.sl 4 (.v (iv (0 : Nat))), .sl 3 (.h 7 []), .sl 0 (.h base []), .rt 7 .row (trMix (0 : Nat) a.length (fun j => a.getD j En.dflt) fun _ => En.dflt), .rt base .ro (tr a)]) (Weak.sim ⟨rfl, rfl, rfl, ⟨_, rfl, (trMix_start rfl (fun c hc => match c, hc with | 0, _ => T.sim_refl _ | 1, _ => sim_nil | c + 2, hc => absurd hc (by simp only [En.n]; omega)))⟩, ⟨_, rfl, T.sim_refl _⟩, trivial⟩ rfl rfl) ?_
  refine AW.loop (fun i : KInv a.length => [.sl 4 (.v (iv i.k)), .sl 3 (.h 7 []), .sl 0 (.h base []), .rt 7 .row (trMix i.k a.length (fun j => a.getD j En.dflt) fun _ => En.dflt), .rt base .ro (tr a)]) (fun i => a.length - i.k) ⟨0, Nat.zero_le _⟩ ?_
  intro i
  have hle := i.le
  refine AW.seq ?_
  refine AW.seq ?_
  refine AW.region ?_
  refine AWL.q rfl rfl rfl (by decide) Qt.move ?_
  refine AWL.nrm (by simp only [go_sem, Int.reduceToNat, Nat.reduceLT, reduceIte, Nat.reduceEqDiff, Nat.reduceAdd, Nat.reduceMul, Nat.reduceBEq, reduceCtorEq]; rfl) ?_
  refine AWL.q rfl rfl rfl (by decide) Qt.move ?_
  refine AWL.q rfl rfl rfl (by decide) (Qt.lenH rfl rfl rfl sl50) ?_
  refine AWL.q rfl rfl rfl (by decide) (Qt.binOp rfl rfl rfl) ?_
  refine AWL.nilE (by simp only [go_sem, Int.reduceToNat, Nat.reduceLT, reduceIte, Nat.reduceEqDiff, Nat.reduceAdd, Nat.reduceMul, Nat.reduceBEq, reduceCtorEq]; rfl) ?_
  try dsimp only [thenQ, blockQ]
  refine AW.cond rfl (fun c1 => ?_) (fun c1 => ?_)
  · have k1 := c1
    try simp only [decide_eq_true_eq, decide_eq_false_iff_not, bne_iff_ne, ne_eq, beq_iff_eq, beq_eq_false_iff_ne, bne_eq_false_iff_eq, Bool.not_eq_true', Bool.not_eq_false', Bool.and_eq_true, Bool.or_eq_true, Bool.and_eq_false_iff, Bool.or_eq_false_iff, Int.not_lt, Int.not_le, Int.toNat_natCast] at c1
    have hwk := wtL_get (w := Mk.wt) (d := En.dflt) (l := a) (i := i.k) (by omega)
    refine AW.skip ?_
    dsimp only [thenQ, blockQ]
    refine AW.seq ?_
    refine AW.block ?_
    refine AW.region ?_
    refine AWL.q rfl rfl rfl (by decide) Qt.move ?_
    refine AWL.nrm (by simp only [go_sem, Int.reduceToNat, Nat.reduceLT, reduceIte, Nat.reduceEqDiff, Nat.reduceAdd, Nat.reduceMul, Nat.reduceBEq, reduceCtorEq]; rfl) ?_
    refine AWL.q rfl rfl rfl (by decide) Qt.move ?_
    refine AWL.q rfl rfl rfl (by decide) Qt.move ?_
    refine AWL.q rfl rfl rfl (by decide) Qt.move ?_
    refine AWL.nrm (by simp only [go_sem, Int.reduceToNat, Nat.reduceLT, reduceIte, Nat.reduceEqDiff, Nat.reduceAdd, Nat.reduceMul, Nat.reduceBEq, reduceCtorEq]; rfl) ?_
    refine AWL.q rfl rfl rfl (by decide) (Qt.indexAddr rfl rfl rfl rfl sl50 sz196 (by decide) (by omega)) ?_
    refine AWL.q rfl rfl rfl (by decide) (Qt.loadG rfl rfl rfl ag196 sz196 (by decide)) ?_
    refine AWL.step rfl rfl (Stp.callR rfl (by decide) Try.call144 rfl rfl (toAFile_con _ (by first | omega | (simp only [Int.toNat_natCast]; omega) | (simp only [Mk.wt] at *; omega))) (nodup_of rfl) rfl rfl) ?_
    refine AWL.nrm (by simp only [go_sem, Int.reduceToNat, Nat.reduceLT, reduceIte, Nat.reduceEqDiff, Nat.reduceAdd, Nat.reduceMul, Nat.reduceBEq, reduceCtorEq]; rfl) ?_
    refine AWL.q rfl rfl rfl (by decide) (Qt.indexAddr rfl rfl rfl rfl sl60 sz202 (by decide) (by omega)) ?_
    refine AWL.step rfl rfl (by first | exact Stp.storeA rfl rfl rfl rfl (by decide) rfl | exact Stp.store rfl rfl (by simp) rfl rfl rfl (by decide) rfl) ?_
    refine AWL.nilE (by simp only [go_sem, Int.reduceToNat, Nat.reduceLT, reduceIte, Nat.reduceEqDiff, Nat.reduceAdd, Nat.reduceMul, Nat.reduceBEq, reduceCtorEq]; rfl) ?_
    try dsimp only [thenQ, blockQ]
    refine AW.region ?_
    refine AWL.q rfl rfl rfl (by decide) Qt.move ?_
    refine AWL.nrm (by simp only [go_sem, Int.reduceToNat, Nat.reduceLT, reduceIte, Nat.reduceEqDiff, Nat.reduceAdd, Nat.reduceMul, Nat.reduceBEq, reduceCtorEq]; rfl) ?_
    refine AWL.q rfl rfl rfl (by decide) (Qt.binOp rfl rfl (by first | exact pbAdd (by omega) | rfl)) ?_
    refine AWL.q rfl rfl rfl (by decide) Qt.assign ?_
    refine AWL.nilE (by simp only [go_sem, Int.reduceToNat, Nat.reduceLT, reduceIte, Nat.reduceEqDiff, Nat.reduceAdd, Nat.reduceMul, Nat.reduceBEq, reduceCtorEq]; rfl) ?_
    try dsimp only [thenQ, blockQ]
    refine ⟨⟨i.k + 1, by omega⟩, Weak.sim ⟨(by simp only [slotL, reduceIte, Nat.reduceEqDiff]; first | rfl | (rw [IntWalk.i64_in _ (by omega)]; rfl)), rfl, rfl, ⟨_, rfl, trMix_next (fun i c hi => by simp only [upd_app, hi, false_and, if_false]; rfl) (fun c hc => match c, hc with | 0, _ => (by simp only [upd_app, eq_self, and_true, and_false, Nat.reduceEqDiff, if_true, if_false]; exact T.sim_refl _) | 1, _ => (by simp only [upd_app, eq_self, and_true, and_false, Nat.reduceEqDiff, if_true, if_false]; exact T.sim_refl _) | c + 2, hc => absurd hc (by simp only [En.n]; omega))⟩, ⟨_, rfl, T.sim_refl _⟩, trivial⟩ rfl rfl, ?_⟩
    show a.length - (i.k + 1) < a.length - i.k
    omega
  · have k1 := c1
    try simp only [decide_eq_true_eq, decide_eq_false_iff_not, bne_iff_ne, ne_eq, beq_iff_eq, beq_eq_false_iff_ne, bne_eq_false_iff_eq, Bool.not_eq_true', Bool.not_eq_false', Bool.and_eq_true, Bool.or_eq_true, Bool.and_eq_false_iff, Bool.or_eq_false_iff, Int.not_lt, Int.not_le, Int.toNat_natCast] at c1
    refine AW.exit ?_
    dsimp only [thenQ, blockQ, reduceIte]
    refine AW.seq ?_
    refine AW.region ?_
    refine AWL.q rfl rfl rfl (by decide) Qt.move ?_
    refine AWL.nrm (by simp only [go_sem, Int.reduceToNat, Nat.reduceLT, reduceIte, Nat.reduceEqDiff, Nat.reduceAdd, Nat.reduceMul, Nat.reduceBEq, reduceCtorEq]; rfl) ?_
    refine AWL.q rfl rfl rfl (by decide) Qt.assign ?_
    refine AWL.nilE (by simp only [go_sem, Int.reduceToNat, Nat.reduceLT, reduceIte, Nat.reduceEqDiff, Nat.reduceAdd, Nat.reduceMul, Nat.reduceBEq, reduceCtorEq]; rfl) ?_
    try dsimp only [thenQ, blockQ]
    refine AW.weak (L' := [.rt 7 .row (tr a), .sl 2 (.h 7 [])]) (Weak.sim ⟨⟨_, rfl, trMix_full (by omega) rfl (fun _ _ => rfl)⟩, rfl, trivial⟩ rfl rfl) ?_
    refine AW.ret ?_
    try dsimp only [thenQ, blockQ]
    refine endQ_ret (.cons (.tmp 2) .nil) ?_
    refine ⟨fun _ => 7, rfl, nodup_of rfl, ?_⟩
    intro r hr
    cases List.mem_singleton.1 hr
    exact ⟨by simp, rootL_mem rfl⟩
end Go.Proofs.Ytimmbmphfgnelaa.VM
