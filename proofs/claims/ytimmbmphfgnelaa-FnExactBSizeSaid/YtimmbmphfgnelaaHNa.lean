/- Contracts of functions of the program. No conditions beyond those that each states. -/
import Derived.Test.YtimmbmphfgnelaaFx
set_option linter.all false
namespace Go.Proofs.Ytimmbmphfgnelaa.VM
open Go Go.RowKit Go.Proofs
structure DIns where
  Op : Int
  A : Int
  B : Int
  C : Int
deriving DecidableEq
instance : En DIns := ⟨4, by omega, fun a => [.v (iv a.Op), .v (iv a.A), .v (iv a.B), .v (iv a.C)], fun _ => rfl, fun a => En.fit a.Op ∧ En.fit a.A ∧ En.fit a.B ∧ En.fit a.C, ⟨0, 0, 0, 0⟩⟩
@[go_sem] theorem cs_Ins (a : DIns) : En.cs a = [.v (iv a.Op), .v (iv a.A), .v (iv a.B), .v (iv a.C)] := rfl
instance : Mk DIns := { wt := fun _ => 0, cnt := fun a => 1 + 1 + 1 + 1, mark := fun _ k => ⟨k, k + 1, k + 1 + 1, k + 1 + 1 + 1⟩, cnt_mk := fun a k => by simp [Mk.cnt_mk] }
theorem cnt_Ins (a : DIns) : Mk.cnt a = 1 + 1 + 1 + 1 := rfl
structure DCpu where
  Pc : Int
  Regs : List Int
deriving DecidableEq
instance : En DCpu := ⟨2, by omega, fun a => [.v (iv a.Pc), tr a.Regs], fun _ => rfl, fun a => En.fit a.Pc ∧ En.fit a.Regs, ⟨0, []⟩⟩
@[go_sem] theorem cs_Cpu (a : DCpu) : En.cs a = [.v (iv a.Pc), tr a.Regs] := rfl
instance : Mk DCpu := { wt := fun a => Mk.wt a.Regs, cnt := fun a => 1 + (Mk.cnt a.Regs), mark := fun a k => ⟨k, Mk.mark a.Regs (k + 1)⟩, cnt_mk := fun a k => by simp [Mk.cnt_mk] }
theorem cnt_Cpu (a : DCpu) : Mk.cnt a = 1 + (Mk.cnt a.Regs) := rfl
structure DBProc where
  Pid : Int
  Parent : Int
  State : Int
  Prog : Int
  Cpu : DCpu
  Pages : List Int
  Fds : List Int
  Until : Int
  Code : Int
deriving DecidableEq
instance : En DBProc := ⟨10, by omega, fun a => [.v (iv a.Pid), .v (iv a.Parent), .v (iv a.State), .v (iv a.Prog), .v (iv a.Cpu.Pc), tr a.Cpu.Regs, tr a.Pages, tr a.Fds, .v (iv a.Until), .v (iv a.Code)], fun _ => rfl, fun a => En.fit a.Pid ∧ En.fit a.Parent ∧ En.fit a.State ∧ En.fit a.Prog ∧ En.fit a.Cpu ∧ En.fit a.Pages ∧ En.fit a.Fds ∧ En.fit a.Until ∧ En.fit a.Code, ⟨0, 0, 0, 0, ⟨0, []⟩, [], [], 0, 0⟩⟩
@[go_sem] theorem cs_BProc (a : DBProc) : En.cs a = [.v (iv a.Pid), .v (iv a.Parent), .v (iv a.State), .v (iv a.Prog), .v (iv a.Cpu.Pc), tr a.Cpu.Regs, tr a.Pages, tr a.Fds, .v (iv a.Until), .v (iv a.Code)] := rfl
instance : Mk DBProc := { wt := fun a => Mk.wt a.Cpu.Regs + Mk.wt a.Pages + Mk.wt a.Fds, cnt := fun a => 1 + 1 + 1 + 1 + 1 + (Mk.cnt a.Cpu.Regs) + (Mk.cnt a.Pages) + (Mk.cnt a.Fds) + 1 + 1, mark := fun a k => ⟨k, k + 1, k + 1 + 1, k + 1 + 1 + 1, ⟨k + 1 + 1 + 1 + 1, Mk.mark a.Cpu.Regs (k + 1 + 1 + 1 + 1 + 1)⟩, Mk.mark a.Pages (k + 1 + 1 + 1 + 1 + 1 + (Mk.cnt a.Cpu.Regs : Nat)), Mk.mark a.Fds (k + 1 + 1 + 1 + 1 + 1 + (Mk.cnt a.Cpu.Regs : Nat) + (Mk.cnt a.Pages : Nat)), k + 1 + 1 + 1 + 1 + 1 + (Mk.cnt a.Cpu.Regs : Nat) + (Mk.cnt a.Pages : Nat) + (Mk.cnt a.Fds : Nat), k + 1 + 1 + 1 + 1 + 1 + (Mk.cnt a.Cpu.Regs : Nat) + (Mk.cnt a.Pages : Nat) + (Mk.cnt a.Fds : Nat) + 1⟩, cnt_mk := fun a k => by simp [Mk.cnt_mk] }
theorem cnt_BProc (a : DBProc) : Mk.cnt a = 1 + 1 + 1 + 1 + 1 + (Mk.cnt a.Cpu.Regs) + (Mk.cnt a.Pages) + (Mk.cnt a.Fds) + 1 + 1 := rfl
structure DBuddy where
  Free : List (List Int)
deriving DecidableEq
instance : En DBuddy := ⟨1, by omega, fun a => [tr a.Free], fun _ => rfl, fun a => En.fit a.Free, ⟨[]⟩⟩
@[go_sem] theorem cs_Buddy (a : DBuddy) : En.cs a = [tr a.Free] := rfl
instance : Mk DBuddy := { wt := fun a => Mk.wt a.Free, cnt := fun a => (Mk.cnt a.Free), mark := fun a k => ⟨Mk.mark a.Free (k)⟩, cnt_mk := fun a k => by simp [Mk.cnt_mk] }
theorem cnt_Buddy (a : DBuddy) : Mk.cnt a = (Mk.cnt a.Free) := rfl
structure DOpen where
  Id : Int
  Kind : Int
  Target : Int
  Off : Int
  Refs : Int
deriving DecidableEq
instance : En DOpen := ⟨5, by omega, fun a => [.v (iv a.Id), .v (iv a.Kind), .v (iv a.Target), .v (iv a.Off), .v (iv a.Refs)], fun _ => rfl, fun a => En.fit a.Id ∧ En.fit a.Kind ∧ En.fit a.Target ∧ En.fit a.Off ∧ En.fit a.Refs, ⟨0, 0, 0, 0, 0⟩⟩
@[go_sem] theorem cs_Open (a : DOpen) : En.cs a = [.v (iv a.Id), .v (iv a.Kind), .v (iv a.Target), .v (iv a.Off), .v (iv a.Refs)] := rfl
instance : Mk DOpen := { wt := fun _ => 0, cnt := fun a => 1 + 1 + 1 + 1 + 1, mark := fun _ k => ⟨k, k + 1, k + 1 + 1, k + 1 + 1 + 1, k + 1 + 1 + 1 + 1⟩, cnt_mk := fun a k => by simp [Mk.cnt_mk] }
theorem cnt_Open (a : DOpen) : Mk.cnt a = 1 + 1 + 1 + 1 + 1 := rfl
structure DBPipe where
  Id : Int
  Chunks : List (List Int)
deriving DecidableEq
instance : En DBPipe := ⟨2, by omega, fun a => [.v (iv a.Id), tr a.Chunks], fun _ => rfl, fun a => En.fit a.Id ∧ En.fit a.Chunks, ⟨0, []⟩⟩
@[go_sem] theorem cs_BPipe (a : DBPipe) : En.cs a = [.v (iv a.Id), tr a.Chunks] := rfl
instance : Mk DBPipe := { wt := fun a => Mk.wt a.Chunks, cnt := fun a => 1 + (Mk.cnt a.Chunks), mark := fun a k => ⟨k, Mk.mark a.Chunks (k + 1)⟩, cnt_mk := fun a k => by simp [Mk.cnt_mk] }
theorem cnt_BPipe (a : DBPipe) : Mk.cnt a = 1 + (Mk.cnt a.Chunks) := rfl
structure DFile where
  Name : Int
  Data : List Int
deriving DecidableEq
instance : En DFile := ⟨2, by omega, fun a => [.v (iv a.Name), tr a.Data], fun _ => rfl, fun a => En.fit a.Name ∧ En.fit a.Data, ⟨0, []⟩⟩
@[go_sem] theorem cs_File (a : DFile) : En.cs a = [.v (iv a.Name), tr a.Data] := rfl
instance : Mk DFile := { wt := fun a => Mk.wt a.Data, cnt := fun a => 1 + (Mk.cnt a.Data), mark := fun a k => ⟨k, Mk.mark a.Data (k + 1)⟩, cnt_mk := fun a k => by simp [Mk.cnt_mk] }
theorem cnt_File (a : DFile) : Mk.cnt a = 1 + (Mk.cnt a.Data) := rfl
structure DNodes where
  Next : Int
  Tick : Int
  Progs : List (List DIns)
  Procs : List DBProc
  Ram : List Int
  Heap : DBuddy
  Opens : List DOpen
  Pipes : List DBPipe
  Files : List DFile
  Ready : List Int
  Out : List Int
deriving DecidableEq
instance : En DNodes := ⟨11, by omega, fun a => [.v (iv a.Next), .v (iv a.Tick), tr a.Progs, tr a.Procs, tr a.Ram, tr a.Heap.Free, tr a.Opens, tr a.Pipes, tr a.Files, tr a.Ready, tr a.Out], fun _ => rfl, fun a => En.fit a.Next ∧ En.fit a.Tick ∧ En.fit a.Progs ∧ En.fit a.Procs ∧ En.fit a.Ram ∧ En.fit a.Heap ∧ En.fit a.Opens ∧ En.fit a.Pipes ∧ En.fit a.Files ∧ En.fit a.Ready ∧ En.fit a.Out, ⟨0, 0, [], [], [], ⟨[]⟩, [], [], [], [], []⟩⟩
@[go_sem] theorem cs_Nodes (a : DNodes) : En.cs a = [.v (iv a.Next), .v (iv a.Tick), tr a.Progs, tr a.Procs, tr a.Ram, tr a.Heap.Free, tr a.Opens, tr a.Pipes, tr a.Files, tr a.Ready, tr a.Out] := rfl
instance : Mk DNodes := { wt := fun a => Mk.wt a.Progs + Mk.wt a.Procs + Mk.wt a.Ram + Mk.wt a.Heap.Free + Mk.wt a.Opens + Mk.wt a.Pipes + Mk.wt a.Files + Mk.wt a.Ready + Mk.wt a.Out, cnt := fun a => 1 + 1 + (Mk.cnt a.Progs) + (Mk.cnt a.Procs) + (Mk.cnt a.Ram) + (Mk.cnt a.Heap.Free) + (Mk.cnt a.Opens) + (Mk.cnt a.Pipes) + (Mk.cnt a.Files) + (Mk.cnt a.Ready) + (Mk.cnt a.Out), mark := fun a k => ⟨k, k + 1, Mk.mark a.Progs (k + 1 + 1), Mk.mark a.Procs (k + 1 + 1 + (Mk.cnt a.Progs : Nat)), Mk.mark a.Ram (k + 1 + 1 + (Mk.cnt a.Progs : Nat) + (Mk.cnt a.Procs : Nat)), ⟨Mk.mark a.Heap.Free (k + 1 + 1 + (Mk.cnt a.Progs : Nat) + (Mk.cnt a.Procs : Nat) + (Mk.cnt a.Ram : Nat))⟩, Mk.mark a.Opens (k + 1 + 1 + (Mk.cnt a.Progs : Nat) + (Mk.cnt a.Procs : Nat) + (Mk.cnt a.Ram : Nat) + (Mk.cnt a.Heap.Free : Nat)), Mk.mark a.Pipes (k + 1 + 1 + (Mk.cnt a.Progs : Nat) + (Mk.cnt a.Procs : Nat) + (Mk.cnt a.Ram : Nat) + (Mk.cnt a.Heap.Free : Nat) + (Mk.cnt a.Opens : Nat)), Mk.mark a.Files (k + 1 + 1 + (Mk.cnt a.Progs : Nat) + (Mk.cnt a.Procs : Nat) + (Mk.cnt a.Ram : Nat) + (Mk.cnt a.Heap.Free : Nat) + (Mk.cnt a.Opens : Nat) + (Mk.cnt a.Pipes : Nat)), Mk.mark a.Ready (k + 1 + 1 + (Mk.cnt a.Progs : Nat) + (Mk.cnt a.Procs : Nat) + (Mk.cnt a.Ram : Nat) + (Mk.cnt a.Heap.Free : Nat) + (Mk.cnt a.Opens : Nat) + (Mk.cnt a.Pipes : Nat) + (Mk.cnt a.Files : Nat)), Mk.mark a.Out (k + 1 + 1 + (Mk.cnt a.Progs : Nat) + (Mk.cnt a.Procs : Nat) + (Mk.cnt a.Ram : Nat) + (Mk.cnt a.Heap.Free : Nat) + (Mk.cnt a.Opens : Nat) + (Mk.cnt a.Pipes : Nat) + (Mk.cnt a.Files : Nat) + (Mk.cnt a.Ready : Nat))⟩, cnt_mk := fun a k => by simp [Mk.cnt_mk] }
theorem cnt_Nodes (a : DNodes) : Mk.cnt a = 1 + 1 + (Mk.cnt a.Progs) + (Mk.cnt a.Procs) + (Mk.cnt a.Ram) + (Mk.cnt a.Heap.Free) + (Mk.cnt a.Opens) + (Mk.cnt a.Pipes) + (Mk.cnt a.Files) + (Mk.cnt a.Ready) + (Mk.cnt a.Out) := rfl
set_option maxHeartbeats 8000000 in
set_option maxRecDepth 10000 in
theorem szInsS_con (a : List DIns) (left : Int) (h1 : -1 ≤ left) (h2 : left ≤ 1048576) : Con Try.prog 73 [.h base [], .v (iv left)] [.rt base .ro (tr a)] (fun y _ => y = .v (iv (szd (Mk.wt a) left))) := by
  refine Con.of_body Try.func73 rfl (by simp) ?_
  rw [Try.ntmps73]
  have hw : Mk.wt a = a.length := by rw [wt_list, wtL_zero (w := Mk.wt) (fun _ => rfl)]; rfl
  refine AW.len base [] rfl (by simp [Okp]) rfl (fun hl => ?_)
  refine AW.seq ?_
  refine AW.region ?_
  refine AWL.q rfl rfl rfl (by decide) Qt.assign ?_
  refine AWL.nilE (by simp only [go_sem, Int.reduceToNat, Nat.reduceLT, reduceIte, Nat.reduceEqDiff, Nat.reduceAdd, Nat.reduceMul, Nat.reduceBEq, reduceCtorEq]; rfl) ?_
  try dsimp only [thenQ, blockQ]
  refine AW.seq ?_
  refine AW.region ?_
  refine AWL.q rfl rfl rfl (by decide) Qt.move ?_
  refine AWL.q rfl rfl rfl (by decide) Qt.move ?_
  refine AWL.nrm (by simp only [go_sem, Int.reduceToNat, Nat.reduceLT, reduceIte, Nat.reduceEqDiff, Nat.reduceAdd, Nat.reduceMul, Nat.reduceBEq, reduceCtorEq]; rfl) ?_
  refine AWL.q rfl rfl rfl (by decide) (Qt.lenH rfl rfl rfl sl134) ?_
  refine AWL.q rfl rfl rfl (by decide) (Qt.binOp rfl rfl (by first | exact pbSub (by omega) | rfl)) ?_
  refine AWL.q rfl rfl rfl (by decide) Qt.assign ?_
  refine AWL.nilE (by simp only [go_sem, Int.reduceToNat, Nat.reduceLT, reduceIte, Nat.reduceEqDiff, Nat.reduceAdd, Nat.reduceMul, Nat.reduceBEq, reduceCtorEq]; rfl) ?_
  try dsimp only [thenQ, blockQ]
  refine AW.seq ?_
  refine AW.seq ?_
  refine AW.region ?_
  refine AWL.q rfl rfl rfl (by decide) Qt.move ?_
  refine AWL.nrm (by simp only [go_sem, Int.reduceToNat, Nat.reduceLT, reduceIte, Nat.reduceEqDiff, Nat.reduceAdd, Nat.reduceMul, Nat.reduceBEq, reduceCtorEq]; rfl) ?_
  refine AWL.q rfl rfl rfl (by decide) (Qt.binOp rfl rfl rfl) ?_
  refine AWL.nilE (by simp only [go_sem, Int.reduceToNat, Nat.reduceLT, reduceIte, Nat.reduceEqDiff, Nat.reduceAdd, Nat.reduceMul, Nat.reduceBEq, reduceCtorEq]; rfl) ?_
  try dsimp only [thenQ, blockQ]
  refine AW.cond rfl (fun c1 => ?_) (fun c1 => ?_)
  · have k1 := c1
    try simp only [decide_eq_true_eq, decide_eq_false_iff_not, bne_iff_ne, ne_eq, beq_iff_eq, beq_eq_false_iff_ne, bne_eq_false_iff_eq, Bool.not_eq_true', Bool.not_eq_false', Bool.and_eq_true, Bool.or_eq_true, Bool.and_eq_false_iff, Bool.or_eq_false_iff, Int.not_lt, Int.not_le, Int.toNat_natCast] at c1
    refine AW.seq ?_
    refine AW.region ?_
    refine AWL.q rfl rfl rfl (by decide) Qt.assign ?_
    refine AWL.nilE (by simp only [go_sem, Int.reduceToNat, Nat.reduceLT, reduceIte, Nat.reduceEqDiff, Nat.reduceAdd, Nat.reduceMul, Nat.reduceBEq, reduceCtorEq]; rfl) ?_
    try dsimp only [thenQ, blockQ]
    refine AW.ret ?_
    try dsimp only [thenQ, blockQ]
    refine endQ_ret (.cons (.tmp 4) .nil) ?_
    simp only [retX, slotL, reduceIte, Nat.reduceEqDiff, szd, hw]
    congr 2
    omega
  · have k1 := c1
    try simp only [decide_eq_true_eq, decide_eq_false_iff_not, bne_iff_ne, ne_eq, beq_iff_eq, beq_eq_false_iff_ne, bne_eq_false_iff_eq, Bool.not_eq_true', Bool.not_eq_false', Bool.and_eq_true, Bool.or_eq_true, Bool.and_eq_false_iff, Bool.or_eq_false_iff, Int.not_lt, Int.not_le, Int.toNat_natCast] at c1
    refine AW.skip ?_
    dsimp only [thenQ, blockQ]
    refine AW.seq ?_
    refine AW.region ?_
    refine AWL.q rfl rfl rfl (by decide) Qt.move ?_
    refine AWL.nrm (by simp only [go_sem, Int.reduceToNat, Nat.reduceLT, reduceIte, Nat.reduceEqDiff, Nat.reduceAdd, Nat.reduceMul, Nat.reduceBEq, reduceCtorEq]; rfl) ?_
    refine AWL.q rfl rfl rfl (by decide) Qt.assign ?_
    refine AWL.nilE (by simp only [go_sem, Int.reduceToNat, Nat.reduceLT, reduceIte, Nat.reduceEqDiff, Nat.reduceAdd, Nat.reduceMul, Nat.reduceBEq, reduceCtorEq]; rfl) ?_
    try dsimp only [thenQ, blockQ]
    refine AW.ret ?_
    try dsimp only [thenQ, blockQ]
    refine endQ_ret (.cons (.tmp 4) .nil) ?_
    simp only [retX, slotL, reduceIte, Nat.reduceEqDiff, szd, hw]
    congr 2
    omega
set_option maxHeartbeats 8000000 in
set_option maxRecDepth 10000 in
theorem szInsSS_con (a : List (List DIns)) (left : Int) (h1 : -1 ≤ left) (h2 : left ≤ 1048576) : Con Try.prog 18 [.h base [], .v (iv left)] [.rt base .ro (tr a)] (fun y _ => y = .v (iv (szd (Mk.wt a) left))) := by
  refine Con.of_body Try.func18 rfl (by simp) ?_
  rw [Try.ntmps18]
  have hw : Mk.wt a = a.length + wtL Mk.wt a := rfl
  refine AW.len base [] rfl (by simp [Okp]) rfl (fun hl => ?_)
  refine AW.seq ?_
  refine AW.region ?_
  refine AWL.q rfl rfl rfl (by decide) Qt.assign ?_
  refine AWL.nilE (by simp only [go_sem, Int.reduceToNat, Nat.reduceLT, reduceIte, Nat.reduceEqDiff, Nat.reduceAdd, Nat.reduceMul, Nat.reduceBEq, reduceCtorEq]; rfl) ?_
  try dsimp only [thenQ, blockQ]
  refine AW.seq ?_
  refine AW.region ?_
  refine AWL.q rfl rfl rfl (by decide) Qt.move ?_
  refine AWL.q rfl rfl rfl (by decide) Qt.move ?_
  refine AWL.nrm (by simp only [go_sem, Int.reduceToNat, Nat.reduceLT, reduceIte, Nat.reduceEqDiff, Nat.reduceAdd, Nat.reduceMul, Nat.reduceBEq, reduceCtorEq]; rfl) ?_
  refine AWL.q rfl rfl rfl (by decide) (Qt.lenH rfl rfl rfl sl22) ?_
  refine AWL.q rfl rfl rfl (by decide) (Qt.binOp rfl rfl (by first | exact pbSub (by omega) | rfl)) ?_
  refine AWL.q rfl rfl rfl (by decide) Qt.assign ?_
  refine AWL.nilE (by simp only [go_sem, Int.reduceToNat, Nat.reduceLT, reduceIte, Nat.reduceEqDiff, Nat.reduceAdd, Nat.reduceMul, Nat.reduceBEq, reduceCtorEq]; rfl) ?_
  try dsimp only [thenQ, blockQ]
  refine AW.seq ?_
  refine AW.seq ?_
  refine AW.region ?_
  refine AWL.q rfl rfl rfl (by decide) Qt.move ?_
  refine AWL.nrm (by simp only [go_sem, Int.reduceToNat, Nat.reduceLT, reduceIte, Nat.reduceEqDiff, Nat.reduceAdd, Nat.reduceMul, Nat.reduceBEq, reduceCtorEq]; rfl) ?_
  refine AWL.q rfl rfl rfl (by decide) (Qt.binOp rfl rfl rfl) ?_
  refine AWL.nilE (by simp only [go_sem, Int.reduceToNat, Nat.reduceLT, reduceIte, Nat.reduceEqDiff, Nat.reduceAdd, Nat.reduceMul, Nat.reduceBEq, reduceCtorEq]; rfl) ?_
  try dsimp only [thenQ, blockQ]
  refine AW.cond rfl (fun c1 => ?_) (fun c1 => ?_)
  · have k1 := c1
    try simp only [decide_eq_true_eq, decide_eq_false_iff_not, bne_iff_ne, ne_eq, beq_iff_eq, beq_eq_false_iff_ne, bne_eq_false_iff_eq, Bool.not_eq_true', Bool.not_eq_false', Bool.and_eq_true, Bool.or_eq_true, Bool.and_eq_false_iff, Bool.or_eq_false_iff, Int.not_lt, Int.not_le, Int.toNat_natCast] at c1
    refine AW.seq ?_
    refine AW.region ?_
    refine AWL.q rfl rfl rfl (by decide) Qt.assign ?_
    refine AWL.nilE (by simp only [go_sem, Int.reduceToNat, Nat.reduceLT, reduceIte, Nat.reduceEqDiff, Nat.reduceAdd, Nat.reduceMul, Nat.reduceBEq, reduceCtorEq]; rfl) ?_
    try dsimp only [thenQ, blockQ]
    refine AW.ret ?_
    try dsimp only [thenQ, blockQ]
    refine endQ_ret (.cons (.tmp 4) .nil) ?_
    simp only [retX, slotL, reduceIte, Nat.reduceEqDiff]
    try have hi0 := i.nn
    have hcw := cumN_wt a
    have hz := szd_cases (Mk.wt a) left
    try have hce : cumN Mk.wt En.dflt a i.k = cumN Mk.wt En.dflt a a.length := by rw [show i.k = a.length by omega]
    congr 2
    omega
  · have k1 := c1
    try simp only [decide_eq_true_eq, decide_eq_false_iff_not, bne_iff_ne, ne_eq, beq_iff_eq, beq_eq_false_iff_ne, bne_eq_false_iff_eq, Bool.not_eq_true', Bool.not_eq_false', Bool.and_eq_true, Bool.or_eq_true, Bool.and_eq_false_iff, Bool.or_eq_false_iff, Int.not_lt, Int.not_le, Int.toNat_natCast] at c1
    refine AW.skip ?_
    dsimp only [thenQ, blockQ]
    refine AW.seq ?_
    refine AW.seq ?_
    refine AW.region ?_
    refine AWL.q rfl rfl rfl (by decide) Qt.assign ?_
    refine AWL.nilE (by simp only [go_sem, Int.reduceToNat, Nat.reduceLT, reduceIte, Nat.reduceEqDiff, Nat.reduceAdd, Nat.reduceMul, Nat.reduceBEq, reduceCtorEq]; rfl) ?_
    try dsimp only [thenQ, blockQ]
    refine AW.block ?_
    refine AW.weak (L' := [.sl 5 (.v (iv (0 : Nat))), .sl 1 (.v (iv (left - a.length - (cumN Mk.wt En.dflt a 0 : Nat)))), .sl 0 (.h base []), .rt base .ro (tr a)]) (Weak.sim ⟨rfl, (by simp only [slotL, reduceIte, Nat.reduceEqDiff]; show X.v (iv (left - a.length)) = _; simp [cumN]), rfl, ⟨_, rfl, T.sim_refl _⟩, trivial⟩ rfl rfl) ?_
    refine AW.loop (fun i : SzInv left a => [.sl 5 (.v (iv i.k)), .sl 1 (.v (iv (left - a.length - (cumN Mk.wt En.dflt a i.k : Nat)))), .sl 0 (.h base []), .rt base .ro (tr a)]) (fun i => a.length - i.k) ⟨0, Nat.zero_le _, by simp only [cumN]; omega⟩ ?_
    intro i
    have hle := i.le
    refine AW.seq ?_
    refine AW.seq ?_
    refine AW.region ?_
    refine AWL.q rfl rfl rfl (by decide) Qt.move ?_
    refine AWL.nrm (by simp only [go_sem, Int.reduceToNat, Nat.reduceLT, reduceIte, Nat.reduceEqDiff, Nat.reduceAdd, Nat.reduceMul, Nat.reduceBEq, reduceCtorEq]; rfl) ?_
    refine AWL.q rfl rfl rfl (by decide) Qt.move ?_
    refine AWL.q rfl rfl rfl (by decide) (Qt.lenH rfl rfl rfl sl22) ?_
    refine AWL.q rfl rfl rfl (by decide) (Qt.binOp rfl rfl rfl) ?_
    refine AWL.nilE (by simp only [go_sem, Int.reduceToNat, Nat.reduceLT, reduceIte, Nat.reduceEqDiff, Nat.reduceAdd, Nat.reduceMul, Nat.reduceBEq, reduceCtorEq]; rfl) ?_
    try dsimp only [thenQ, blockQ]
    refine AW.cond rfl (fun c2 => ?_) (fun c2 => ?_)
    · have k2 := c2
      try simp only [decide_eq_true_eq, decide_eq_false_iff_not, bne_iff_ne, ne_eq, beq_iff_eq, beq_eq_false_iff_ne, bne_eq_false_iff_eq, Bool.not_eq_true', Bool.not_eq_false', Bool.and_eq_true, Bool.or_eq_true, Bool.and_eq_false_iff, Bool.or_eq_false_iff, Int.not_lt, Int.not_le, Int.toNat_natCast] at c2
      have hi0 := i.nn
      have hcw := cumN_wt a
      have hc1 := cumN_mono (c := Mk.wt) (d := En.dflt) (l := a) (show i.k + 1 ≤ a.length by omega)
      simp only [cumN] at hc1
      have hz2 := szd_cases (Mk.wt (a.getD i.k En.dflt)) (left - a.length - (cumN Mk.wt En.dflt a i.k : Nat))
      refine AW.skip ?_
      dsimp only [thenQ, blockQ]
      refine AW.seq ?_
      refine AW.block ?_
      refine AW.seq ?_
      refine AW.region ?_
      refine AWL.q rfl rfl rfl (by decide) Qt.move ?_
      refine AWL.nrm (by simp only [go_sem, Int.reduceToNat, Nat.reduceLT, reduceIte, Nat.reduceEqDiff, Nat.reduceAdd, Nat.reduceMul, Nat.reduceBEq, reduceCtorEq]; rfl) ?_
      refine AWL.q rfl rfl rfl (by decide) Qt.move ?_
      refine AWL.q rfl rfl rfl (by decide) (Qt.indexAddr rfl rfl rfl rfl sl22 sz134 (by decide) (by omega)) ?_
      refine AWL.q rfl rfl rfl (by decide) (Qt.load1 rfl rfl rfl ag134) ?_
      refine AWL.nrm (by simp only [go_sem, Int.reduceToNat, Nat.reduceLT, reduceIte, Nat.reduceEqDiff, Nat.reduceAdd, Nat.reduceMul, Nat.reduceBEq, reduceCtorEq]; rfl) ?_
      refine AWL.q rfl rfl rfl (by decide) Qt.move ?_
      refine AWL.step rfl rfl (Stp.callV rfl (by decide) Try.call73 rfl rfl (szInsS_con _ _ (by first | omega | (repeat (first | omega | apply szd_lo))) (by first | omega | (repeat (first | omega | apply szd_hi))))) ?_
      refine AWL.nrm (by simp only [go_sem, Int.reduceToNat, Nat.reduceLT, reduceIte, Nat.reduceEqDiff, Nat.reduceAdd, Nat.reduceMul, Nat.reduceBEq, reduceCtorEq]; rfl) ?_
      refine AWL.q rfl rfl rfl (by decide) Qt.assign ?_
      refine AWL.nilE (by simp only [go_sem, Int.reduceToNat, Nat.reduceLT, reduceIte, Nat.reduceEqDiff, Nat.reduceAdd, Nat.reduceMul, Nat.reduceBEq, reduceCtorEq]; rfl) ?_
      try dsimp only [thenQ, blockQ]
      refine AW.seq ?_
      refine AW.region ?_
      refine AWL.q rfl rfl rfl (by decide) Qt.move ?_
      refine AWL.q rfl rfl rfl (by decide) (Qt.binOp rfl rfl rfl) ?_
      refine AWL.nilE (by simp only [go_sem, Int.reduceToNat, Nat.reduceLT, reduceIte, Nat.reduceEqDiff, Nat.reduceAdd, Nat.reduceMul, Nat.reduceBEq, reduceCtorEq]; rfl) ?_
      try dsimp only [thenQ, blockQ]
      refine AW.cond rfl (fun c3 => ?_) (fun c3 => ?_)
      · have k3 := c3
        try simp only [decide_eq_true_eq, decide_eq_false_iff_not, bne_iff_ne, ne_eq, beq_iff_eq, beq_eq_false_iff_ne, bne_eq_false_iff_eq, Bool.not_eq_true', Bool.not_eq_false', Bool.and_eq_true, Bool.or_eq_true, Bool.and_eq_false_iff, Bool.or_eq_false_iff, Int.not_lt, Int.not_le, Int.toNat_natCast] at c3
        refine AW.seq ?_
        refine AW.region ?_
        refine AWL.q rfl rfl rfl (by decide) Qt.assign ?_
        refine AWL.nilE (by simp only [go_sem, Int.reduceToNat, Nat.reduceLT, reduceIte, Nat.reduceEqDiff, Nat.reduceAdd, Nat.reduceMul, Nat.reduceBEq, reduceCtorEq]; rfl) ?_
        try dsimp only [thenQ, blockQ]
        refine AW.ret ?_
        try dsimp only [thenQ, blockQ]
        refine endQ_ret (.cons (.tmp 4) .nil) ?_
        simp only [retX, slotL, reduceIte, Nat.reduceEqDiff]
        try have hi0 := i.nn
        have hcw := cumN_wt a
        have hz := szd_cases (Mk.wt a) left
        try have hce : cumN Mk.wt En.dflt a i.k = cumN Mk.wt En.dflt a a.length := by rw [show i.k = a.length by omega]
        congr 2
        omega
      · have k3 := c3
        try simp only [decide_eq_true_eq, decide_eq_false_iff_not, bne_iff_ne, ne_eq, beq_iff_eq, beq_eq_false_iff_ne, bne_eq_false_iff_eq, Bool.not_eq_true', Bool.not_eq_false', Bool.and_eq_true, Bool.or_eq_true, Bool.and_eq_false_iff, Bool.or_eq_false_iff, Int.not_lt, Int.not_le, Int.toNat_natCast] at c3
        refine AW.skip ?_
        dsimp only [thenQ, blockQ]
        refine AW.region ?_
        refine AWL.q rfl rfl rfl (by decide) Qt.move ?_
        refine AWL.nrm (by simp only [go_sem, Int.reduceToNat, Nat.reduceLT, reduceIte, Nat.reduceEqDiff, Nat.reduceAdd, Nat.reduceMul, Nat.reduceBEq, reduceCtorEq]; rfl) ?_
        refine AWL.q rfl rfl rfl (by decide) (Qt.binOp rfl rfl (by first | exact pbAdd (by omega) | rfl)) ?_
        refine AWL.q rfl rfl rfl (by decide) Qt.assign ?_
        refine AWL.nilE (by simp only [go_sem, Int.reduceToNat, Nat.reduceLT, reduceIte, Nat.reduceEqDiff, Nat.reduceAdd, Nat.reduceMul, Nat.reduceBEq, reduceCtorEq]; rfl) ?_
        try dsimp only [thenQ, blockQ]
        refine ⟨⟨i.k + 1, by omega, by simp only [cumN]; omega⟩, Weak.sim ⟨(by simp only [slotL, reduceIte, Nat.reduceEqDiff]; first | rfl | (rw [IntWalk.i64_in _ (by omega)]; rfl)), (by simp only [slotL, reduceIte, Nat.reduceEqDiff]; congr 2; simp only [cumN]; omega), rfl, ⟨_, rfl, T.sim_refl _⟩, trivial⟩ rfl rfl, ?_⟩
        show a.length - (i.k + 1) < a.length - i.k
        omega
    · have k2 := c2
      try simp only [decide_eq_true_eq, decide_eq_false_iff_not, bne_iff_ne, ne_eq, beq_iff_eq, beq_eq_false_iff_ne, bne_eq_false_iff_eq, Bool.not_eq_true', Bool.not_eq_false', Bool.and_eq_true, Bool.or_eq_true, Bool.and_eq_false_iff, Bool.or_eq_false_iff, Int.not_lt, Int.not_le, Int.toNat_natCast] at c2
      refine AW.exit ?_
      dsimp only [thenQ, blockQ, reduceIte]
      refine AW.seq ?_
      refine AW.region ?_
      refine AWL.q rfl rfl rfl (by decide) Qt.move ?_
      refine AWL.nrm (by simp only [go_sem, Int.reduceToNat, Nat.reduceLT, reduceIte, Nat.reduceEqDiff, Nat.reduceAdd, Nat.reduceMul, Nat.reduceBEq, reduceCtorEq]; rfl) ?_
      refine AWL.q rfl rfl rfl (by decide) Qt.assign ?_
      refine AWL.nilE (by simp only [go_sem, Int.reduceToNat, Nat.reduceLT, reduceIte, Nat.reduceEqDiff, Nat.reduceAdd, Nat.reduceMul, Nat.reduceBEq, reduceCtorEq]; rfl) ?_
      try dsimp only [thenQ, blockQ]
      refine AW.ret ?_
      try dsimp only [thenQ, blockQ]
      refine endQ_ret (.cons (.tmp 4) .nil) ?_
      simp only [retX, slotL, reduceIte, Nat.reduceEqDiff]
      try have hi0 := i.nn
      have hcw := cumN_wt a
      have hz := szd_cases (Mk.wt a) left
      try have hce : cumN Mk.wt En.dflt a i.k = cumN Mk.wt En.dflt a a.length := by rw [show i.k = a.length by omega]
      congr 2
      omega
set_option maxHeartbeats 8000000 in
set_option maxRecDepth 10000 in
theorem szIntS_con (a : List Int) (left : Int) (h1 : -1 ≤ left) (h2 : left ≤ 1048576) : Con Try.prog 37 [.h base [], .v (iv left)] [.rt base .ro (tr a)] (fun y _ => y = .v (iv (szd (Mk.wt a) left))) := by
  refine Con.of_body Try.func37 rfl (by simp) ?_
  rw [Try.ntmps37]
  have hw : Mk.wt a = a.length := by rw [wt_list, wtL_zero (w := Mk.wt) (fun _ => rfl)]; rfl
  refine AW.len base [] rfl (by simp [Okp]) rfl (fun hl => ?_)
  refine AW.seq ?_
  refine AW.region ?_
  refine AWL.q rfl rfl rfl (by decide) Qt.assign ?_
  refine AWL.nilE (by simp only [go_sem, Int.reduceToNat, Nat.reduceLT, reduceIte, Nat.reduceEqDiff, Nat.reduceAdd, Nat.reduceMul, Nat.reduceBEq, reduceCtorEq]; rfl) ?_
  try dsimp only [thenQ, blockQ]
  refine AW.seq ?_
  refine AW.region ?_
  refine AWL.q rfl rfl rfl (by decide) Qt.move ?_
  refine AWL.q rfl rfl rfl (by decide) Qt.move ?_
  refine AWL.nrm (by simp only [go_sem, Int.reduceToNat, Nat.reduceLT, reduceIte, Nat.reduceEqDiff, Nat.reduceAdd, Nat.reduceMul, Nat.reduceBEq, reduceCtorEq]; rfl) ?_
  refine AWL.q rfl rfl rfl (by decide) (Qt.lenH rfl rfl rfl sl24) ?_
  refine AWL.q rfl rfl rfl (by decide) (Qt.binOp rfl rfl (by first | exact pbSub (by omega) | rfl)) ?_
  refine AWL.q rfl rfl rfl (by decide) Qt.assign ?_
  refine AWL.nilE (by simp only [go_sem, Int.reduceToNat, Nat.reduceLT, reduceIte, Nat.reduceEqDiff, Nat.reduceAdd, Nat.reduceMul, Nat.reduceBEq, reduceCtorEq]; rfl) ?_
  try dsimp only [thenQ, blockQ]
  refine AW.seq ?_
  refine AW.seq ?_
  refine AW.region ?_
  refine AWL.q rfl rfl rfl (by decide) Qt.move ?_
  refine AWL.nrm (by simp only [go_sem, Int.reduceToNat, Nat.reduceLT, reduceIte, Nat.reduceEqDiff, Nat.reduceAdd, Nat.reduceMul, Nat.reduceBEq, reduceCtorEq]; rfl) ?_
  refine AWL.q rfl rfl rfl (by decide) (Qt.binOp rfl rfl rfl) ?_
  refine AWL.nilE (by simp only [go_sem, Int.reduceToNat, Nat.reduceLT, reduceIte, Nat.reduceEqDiff, Nat.reduceAdd, Nat.reduceMul, Nat.reduceBEq, reduceCtorEq]; rfl) ?_
  try dsimp only [thenQ, blockQ]
  refine AW.cond rfl (fun c1 => ?_) (fun c1 => ?_)
  · have k1 := c1
    try simp only [decide_eq_true_eq, decide_eq_false_iff_not, bne_iff_ne, ne_eq, beq_iff_eq, beq_eq_false_iff_ne, bne_eq_false_iff_eq, Bool.not_eq_true', Bool.not_eq_false', Bool.and_eq_true, Bool.or_eq_true, Bool.and_eq_false_iff, Bool.or_eq_false_iff, Int.not_lt, Int.not_le, Int.toNat_natCast] at c1
    refine AW.seq ?_
    refine AW.region ?_
    refine AWL.q rfl rfl rfl (by decide) Qt.assign ?_
    refine AWL.nilE (by simp only [go_sem, Int.reduceToNat, Nat.reduceLT, reduceIte, Nat.reduceEqDiff, Nat.reduceAdd, Nat.reduceMul, Nat.reduceBEq, reduceCtorEq]; rfl) ?_
    try dsimp only [thenQ, blockQ]
    refine AW.ret ?_
    try dsimp only [thenQ, blockQ]
    refine endQ_ret (.cons (.tmp 4) .nil) ?_
    simp only [retX, slotL, reduceIte, Nat.reduceEqDiff, szd, hw]
    congr 2
    omega
  · have k1 := c1
    try simp only [decide_eq_true_eq, decide_eq_false_iff_not, bne_iff_ne, ne_eq, beq_iff_eq, beq_eq_false_iff_ne, bne_eq_false_iff_eq, Bool.not_eq_true', Bool.not_eq_false', Bool.and_eq_true, Bool.or_eq_true, Bool.and_eq_false_iff, Bool.or_eq_false_iff, Int.not_lt, Int.not_le, Int.toNat_natCast] at c1
    refine AW.skip ?_
    dsimp only [thenQ, blockQ]
    refine AW.seq ?_
    refine AW.region ?_
    refine AWL.q rfl rfl rfl (by decide) Qt.move ?_
    refine AWL.nrm (by simp only [go_sem, Int.reduceToNat, Nat.reduceLT, reduceIte, Nat.reduceEqDiff, Nat.reduceAdd, Nat.reduceMul, Nat.reduceBEq, reduceCtorEq]; rfl) ?_
    refine AWL.q rfl rfl rfl (by decide) Qt.assign ?_
    refine AWL.nilE (by simp only [go_sem, Int.reduceToNat, Nat.reduceLT, reduceIte, Nat.reduceEqDiff, Nat.reduceAdd, Nat.reduceMul, Nat.reduceBEq, reduceCtorEq]; rfl) ?_
    try dsimp only [thenQ, blockQ]
    refine AW.ret ?_
    try dsimp only [thenQ, blockQ]
    refine endQ_ret (.cons (.tmp 4) .nil) ?_
    simp only [retX, slotL, reduceIte, Nat.reduceEqDiff, szd, hw]
    congr 2
    omega
set_option maxHeartbeats 8000000 in
set_option maxRecDepth 10000 in
theorem szIntSS_con (a : List (List Int)) (left : Int) (h1 : -1 ≤ left) (h2 : left ≤ 1048576) : Con Try.prog 98 [.h base [], .v (iv left)] [.rt base .ro (tr a)] (fun y _ => y = .v (iv (szd (Mk.wt a) left))) := by
  refine Con.of_body Try.func98 rfl (by simp) ?_
  rw [Try.ntmps98]
  have hw : Mk.wt a = a.length + wtL Mk.wt a := rfl
  refine AW.len base [] rfl (by simp [Okp]) rfl (fun hl => ?_)
  refine AW.seq ?_
  refine AW.region ?_
  refine AWL.q rfl rfl rfl (by decide) Qt.assign ?_
  refine AWL.nilE (by simp only [go_sem, Int.reduceToNat, Nat.reduceLT, reduceIte, Nat.reduceEqDiff, Nat.reduceAdd, Nat.reduceMul, Nat.reduceBEq, reduceCtorEq]; rfl) ?_
  try dsimp only [thenQ, blockQ]
  refine AW.seq ?_
  refine AW.region ?_
  refine AWL.q rfl rfl rfl (by decide) Qt.move ?_
  refine AWL.q rfl rfl rfl (by decide) Qt.move ?_
  refine AWL.nrm (by simp only [go_sem, Int.reduceToNat, Nat.reduceLT, reduceIte, Nat.reduceEqDiff, Nat.reduceAdd, Nat.reduceMul, Nat.reduceBEq, reduceCtorEq]; rfl) ?_
  refine AWL.q rfl rfl rfl (by decide) (Qt.lenH rfl rfl rfl sl25) ?_
  refine AWL.q rfl rfl rfl (by decide) (Qt.binOp rfl rfl (by first | exact pbSub (by omega) | rfl)) ?_
  refine AWL.q rfl rfl rfl (by decide) Qt.assign ?_
  refine AWL.nilE (by simp only [go_sem, Int.reduceToNat, Nat.reduceLT, reduceIte, Nat.reduceEqDiff, Nat.reduceAdd, Nat.reduceMul, Nat.reduceBEq, reduceCtorEq]; rfl) ?_
  try dsimp only [thenQ, blockQ]
  refine AW.seq ?_
  refine AW.seq ?_
  refine AW.region ?_
  refine AWL.q rfl rfl rfl (by decide) Qt.move ?_
  refine AWL.nrm (by simp only [go_sem, Int.reduceToNat, Nat.reduceLT, reduceIte, Nat.reduceEqDiff, Nat.reduceAdd, Nat.reduceMul, Nat.reduceBEq, reduceCtorEq]; rfl) ?_
  refine AWL.q rfl rfl rfl (by decide) (Qt.binOp rfl rfl rfl) ?_
  refine AWL.nilE (by simp only [go_sem, Int.reduceToNat, Nat.reduceLT, reduceIte, Nat.reduceEqDiff, Nat.reduceAdd, Nat.reduceMul, Nat.reduceBEq, reduceCtorEq]; rfl) ?_
  try dsimp only [thenQ, blockQ]
  refine AW.cond rfl (fun c1 => ?_) (fun c1 => ?_)
  · have k1 := c1
    try simp only [decide_eq_true_eq, decide_eq_false_iff_not, bne_iff_ne, ne_eq, beq_iff_eq, beq_eq_false_iff_ne, bne_eq_false_iff_eq, Bool.not_eq_true', Bool.not_eq_false', Bool.and_eq_true, Bool.or_eq_true, Bool.and_eq_false_iff, Bool.or_eq_false_iff, Int.not_lt, Int.not_le, Int.toNat_natCast] at c1
    refine AW.seq ?_
    refine AW.region ?_
    refine AWL.q rfl rfl rfl (by decide) Qt.assign ?_
    refine AWL.nilE (by simp only [go_sem, Int.reduceToNat, Nat.reduceLT, reduceIte, Nat.reduceEqDiff, Nat.reduceAdd, Nat.reduceMul, Nat.reduceBEq, reduceCtorEq]; rfl) ?_
    try dsimp only [thenQ, blockQ]
    refine AW.ret ?_
    try dsimp only [thenQ, blockQ]
    refine endQ_ret (.cons (.tmp 4) .nil) ?_
    simp only [retX, slotL, reduceIte, Nat.reduceEqDiff]
    try have hi0 := i.nn
    have hcw := cumN_wt a
    have hz := szd_cases (Mk.wt a) left
    try have hce : cumN Mk.wt En.dflt a i.k = cumN Mk.wt En.dflt a a.length := by rw [show i.k = a.length by omega]
    congr 2
    omega
  · have k1 := c1
    try simp only [decide_eq_true_eq, decide_eq_false_iff_not, bne_iff_ne, ne_eq, beq_iff_eq, beq_eq_false_iff_ne, bne_eq_false_iff_eq, Bool.not_eq_true', Bool.not_eq_false', Bool.and_eq_true, Bool.or_eq_true, Bool.and_eq_false_iff, Bool.or_eq_false_iff, Int.not_lt, Int.not_le, Int.toNat_natCast] at c1
    refine AW.skip ?_
    dsimp only [thenQ, blockQ]
    refine AW.seq ?_
    refine AW.seq ?_
    refine AW.region ?_
    refine AWL.q rfl rfl rfl (by decide) Qt.assign ?_
    refine AWL.nilE (by simp only [go_sem, Int.reduceToNat, Nat.reduceLT, reduceIte, Nat.reduceEqDiff, Nat.reduceAdd, Nat.reduceMul, Nat.reduceBEq, reduceCtorEq]; rfl) ?_
    try dsimp only [thenQ, blockQ]
    refine AW.block ?_
    refine AW.weak (L' := [.sl 5 (.v (iv (0 : Nat))), .sl 1 (.v (iv (left - a.length - (cumN Mk.wt En.dflt a 0 : Nat)))), .sl 0 (.h base []), .rt base .ro (tr a)]) (Weak.sim ⟨rfl, (by simp only [slotL, reduceIte, Nat.reduceEqDiff]; show X.v (iv (left - a.length)) = _; simp [cumN]), rfl, ⟨_, rfl, T.sim_refl _⟩, trivial⟩ rfl rfl) ?_
    refine AW.loop (fun i : SzInv left a => [.sl 5 (.v (iv i.k)), .sl 1 (.v (iv (left - a.length - (cumN Mk.wt En.dflt a i.k : Nat)))), .sl 0 (.h base []), .rt base .ro (tr a)]) (fun i => a.length - i.k) ⟨0, Nat.zero_le _, by simp only [cumN]; omega⟩ ?_
    intro i
    have hle := i.le
    refine AW.seq ?_
    refine AW.seq ?_
    refine AW.region ?_
    refine AWL.q rfl rfl rfl (by decide) Qt.move ?_
    refine AWL.nrm (by simp only [go_sem, Int.reduceToNat, Nat.reduceLT, reduceIte, Nat.reduceEqDiff, Nat.reduceAdd, Nat.reduceMul, Nat.reduceBEq, reduceCtorEq]; rfl) ?_
    refine AWL.q rfl rfl rfl (by decide) Qt.move ?_
    refine AWL.q rfl rfl rfl (by decide) (Qt.lenH rfl rfl rfl sl25) ?_
    refine AWL.q rfl rfl rfl (by decide) (Qt.binOp rfl rfl rfl) ?_
    refine AWL.nilE (by simp only [go_sem, Int.reduceToNat, Nat.reduceLT, reduceIte, Nat.reduceEqDiff, Nat.reduceAdd, Nat.reduceMul, Nat.reduceBEq, reduceCtorEq]; rfl) ?_
    try dsimp only [thenQ, blockQ]
    refine AW.cond rfl (fun c2 => ?_) (fun c2 => ?_)
    · have k2 := c2
      try simp only [decide_eq_true_eq, decide_eq_false_iff_not, bne_iff_ne, ne_eq, beq_iff_eq, beq_eq_false_iff_ne, bne_eq_false_iff_eq, Bool.not_eq_true', Bool.not_eq_false', Bool.and_eq_true, Bool.or_eq_true, Bool.and_eq_false_iff, Bool.or_eq_false_iff, Int.not_lt, Int.not_le, Int.toNat_natCast] at c2
      have hi0 := i.nn
      have hcw := cumN_wt a
      have hc1 := cumN_mono (c := Mk.wt) (d := En.dflt) (l := a) (show i.k + 1 ≤ a.length by omega)
      simp only [cumN] at hc1
      have hz2 := szd_cases (Mk.wt (a.getD i.k En.dflt)) (left - a.length - (cumN Mk.wt En.dflt a i.k : Nat))
      refine AW.skip ?_
      dsimp only [thenQ, blockQ]
      refine AW.seq ?_
      refine AW.block ?_
      refine AW.seq ?_
      refine AW.region ?_
      refine AWL.q rfl rfl rfl (by decide) Qt.move ?_
      refine AWL.nrm (by simp only [go_sem, Int.reduceToNat, Nat.reduceLT, reduceIte, Nat.reduceEqDiff, Nat.reduceAdd, Nat.reduceMul, Nat.reduceBEq, reduceCtorEq]; rfl) ?_
      refine AWL.q rfl rfl rfl (by decide) Qt.move ?_
      refine AWL.q rfl rfl rfl (by decide) (Qt.indexAddr rfl rfl rfl rfl sl25 sz24 (by decide) (by omega)) ?_
      refine AWL.q rfl rfl rfl (by decide) (Qt.load1 rfl rfl rfl ag24) ?_
      refine AWL.nrm (by simp only [go_sem, Int.reduceToNat, Nat.reduceLT, reduceIte, Nat.reduceEqDiff, Nat.reduceAdd, Nat.reduceMul, Nat.reduceBEq, reduceCtorEq]; rfl) ?_
      refine AWL.q rfl rfl rfl (by decide) Qt.move ?_
      refine AWL.step rfl rfl (Stp.callV rfl (by decide) Try.call37 rfl rfl (szIntS_con _ _ (by first | omega | (repeat (first | omega | apply szd_lo))) (by first | omega | (repeat (first | omega | apply szd_hi))))) ?_
      refine AWL.nrm (by simp only [go_sem, Int.reduceToNat, Nat.reduceLT, reduceIte, Nat.reduceEqDiff, Nat.reduceAdd, Nat.reduceMul, Nat.reduceBEq, reduceCtorEq]; rfl) ?_
      refine AWL.q rfl rfl rfl (by decide) Qt.assign ?_
      refine AWL.nilE (by simp only [go_sem, Int.reduceToNat, Nat.reduceLT, reduceIte, Nat.reduceEqDiff, Nat.reduceAdd, Nat.reduceMul, Nat.reduceBEq, reduceCtorEq]; rfl) ?_
      try dsimp only [thenQ, blockQ]
      refine AW.seq ?_
      refine AW.region ?_
      refine AWL.q rfl rfl rfl (by decide) Qt.move ?_
      refine AWL.q rfl rfl rfl (by decide) (Qt.binOp rfl rfl rfl) ?_
      refine AWL.nilE (by simp only [go_sem, Int.reduceToNat, Nat.reduceLT, reduceIte, Nat.reduceEqDiff, Nat.reduceAdd, Nat.reduceMul, Nat.reduceBEq, reduceCtorEq]; rfl) ?_
      try dsimp only [thenQ, blockQ]
      refine AW.cond rfl (fun c3 => ?_) (fun c3 => ?_)
      · have k3 := c3
        try simp only [decide_eq_true_eq, decide_eq_false_iff_not, bne_iff_ne, ne_eq, beq_iff_eq, beq_eq_false_iff_ne, bne_eq_false_iff_eq, Bool.not_eq_true', Bool.not_eq_false', Bool.and_eq_true, Bool.or_eq_true, Bool.and_eq_false_iff, Bool.or_eq_false_iff, Int.not_lt, Int.not_le, Int.toNat_natCast] at c3
        refine AW.seq ?_
        refine AW.region ?_
        refine AWL.q rfl rfl rfl (by decide) Qt.assign ?_
        refine AWL.nilE (by simp only [go_sem, Int.reduceToNat, Nat.reduceLT, reduceIte, Nat.reduceEqDiff, Nat.reduceAdd, Nat.reduceMul, Nat.reduceBEq, reduceCtorEq]; rfl) ?_
        try dsimp only [thenQ, blockQ]
        refine AW.ret ?_
        try dsimp only [thenQ, blockQ]
        refine endQ_ret (.cons (.tmp 4) .nil) ?_
        simp only [retX, slotL, reduceIte, Nat.reduceEqDiff]
        try have hi0 := i.nn
        have hcw := cumN_wt a
        have hz := szd_cases (Mk.wt a) left
        try have hce : cumN Mk.wt En.dflt a i.k = cumN Mk.wt En.dflt a a.length := by rw [show i.k = a.length by omega]
        congr 2
        omega
      · have k3 := c3
        try simp only [decide_eq_true_eq, decide_eq_false_iff_not, bne_iff_ne, ne_eq, beq_iff_eq, beq_eq_false_iff_ne, bne_eq_false_iff_eq, Bool.not_eq_true', Bool.not_eq_false', Bool.and_eq_true, Bool.or_eq_true, Bool.and_eq_false_iff, Bool.or_eq_false_iff, Int.not_lt, Int.not_le, Int.toNat_natCast] at c3
        refine AW.skip ?_
        dsimp only [thenQ, blockQ]
        refine AW.region ?_
        refine AWL.q rfl rfl rfl (by decide) Qt.move ?_
        refine AWL.nrm (by simp only [go_sem, Int.reduceToNat, Nat.reduceLT, reduceIte, Nat.reduceEqDiff, Nat.reduceAdd, Nat.reduceMul, Nat.reduceBEq, reduceCtorEq]; rfl) ?_
        refine AWL.q rfl rfl rfl (by decide) (Qt.binOp rfl rfl (by first | exact pbAdd (by omega) | rfl)) ?_
        refine AWL.q rfl rfl rfl (by decide) Qt.assign ?_
        refine AWL.nilE (by simp only [go_sem, Int.reduceToNat, Nat.reduceLT, reduceIte, Nat.reduceEqDiff, Nat.reduceAdd, Nat.reduceMul, Nat.reduceBEq, reduceCtorEq]; rfl) ?_
        try dsimp only [thenQ, blockQ]
        refine ⟨⟨i.k + 1, by omega, by simp only [cumN]; omega⟩, Weak.sim ⟨(by simp only [slotL, reduceIte, Nat.reduceEqDiff]; first | rfl | (rw [IntWalk.i64_in _ (by omega)]; rfl)), (by simp only [slotL, reduceIte, Nat.reduceEqDiff]; congr 2; simp only [cumN]; omega), rfl, ⟨_, rfl, T.sim_refl _⟩, trivial⟩ rfl rfl, ?_⟩
        show a.length - (i.k + 1) < a.length - i.k
        omega
    · have k2 := c2
      try simp only [decide_eq_true_eq, decide_eq_false_iff_not, bne_iff_ne, ne_eq, beq_iff_eq, beq_eq_false_iff_ne, bne_eq_false_iff_eq, Bool.not_eq_true', Bool.not_eq_false', Bool.and_eq_true, Bool.or_eq_true, Bool.and_eq_false_iff, Bool.or_eq_false_iff, Int.not_lt, Int.not_le, Int.toNat_natCast] at c2
      refine AW.exit ?_
      dsimp only [thenQ, blockQ, reduceIte]
      refine AW.seq ?_
      refine AW.region ?_
      refine AWL.q rfl rfl rfl (by decide) Qt.move ?_
      refine AWL.nrm (by simp only [go_sem, Int.reduceToNat, Nat.reduceLT, reduceIte, Nat.reduceEqDiff, Nat.reduceAdd, Nat.reduceMul, Nat.reduceBEq, reduceCtorEq]; rfl) ?_
      refine AWL.q rfl rfl rfl (by decide) Qt.assign ?_
      refine AWL.nilE (by simp only [go_sem, Int.reduceToNat, Nat.reduceLT, reduceIte, Nat.reduceEqDiff, Nat.reduceAdd, Nat.reduceMul, Nat.reduceBEq, reduceCtorEq]; rfl) ?_
      try dsimp only [thenQ, blockQ]
      refine AW.ret ?_
      try dsimp only [thenQ, blockQ]
      refine endQ_ret (.cons (.tmp 4) .nil) ?_
      simp only [retX, slotL, reduceIte, Nat.reduceEqDiff]
      try have hi0 := i.nn
      have hcw := cumN_wt a
      have hz := szd_cases (Mk.wt a) left
      try have hce : cumN Mk.wt En.dflt a i.k = cumN Mk.wt En.dflt a a.length := by rw [show i.k = a.length by omega]
      congr 2
      omega
set_option maxHeartbeats 8000000 in
set_option maxRecDepth 10000 in
theorem szBuddy_con (a : DBuddy) (left : Int) (h1 : -1 ≤ left) (h2 : left ≤ 1048576) : Con Try.prog 27 [.g [.h base []], .v (iv left)] [.rt base .ro (tr a.Free)] (fun y _ => y = .v (iv (szd (Mk.wt a) left))) := by
  refine Con.of_body Try.func27 rfl (by simp) ?_
  rw [Try.ntmps27]
  refine AW.seq ?_
  refine AW.region ?_
  refine AWL.step rfl rfl (Stp.boxB rfl (by decide) (by decide) rfl rfl rfl rfl) ?_
  refine AWL.nrm (by simp only [go_sem, Int.reduceToNat, Nat.reduceLT, reduceIte, Nat.reduceEqDiff, Nat.reduceAdd, Nat.reduceMul, Nat.reduceBEq, reduceCtorEq]; rfl) ?_
  refine AWL.q rfl rfl rfl (by decide) Qt.assign ?_
  refine AWL.nilE (by simp only [go_sem, Int.reduceToNat, Nat.reduceLT, reduceIte, Nat.reduceEqDiff, Nat.reduceAdd, Nat.reduceMul, Nat.reduceBEq, reduceCtorEq]; rfl) ?_
  try dsimp only [thenQ, blockQ]
  refine AW.seq ?_
  refine AW.region ?_
  refine AWL.q rfl rfl rfl (by decide) (Qt.fieldAddr rfl fl27_0 rfl rfl (by decide)) ?_
  refine AWL.q rfl rfl rfl (by decide) (Qt.load1 rfl rfl rfl ag25) ?_
  refine AWL.nrm (by simp only [go_sem, Int.reduceToNat, Nat.reduceLT, reduceIte, Nat.reduceEqDiff, Nat.reduceAdd, Nat.reduceMul, Nat.reduceBEq, reduceCtorEq]; rfl) ?_
  refine AWL.q rfl rfl rfl (by decide) Qt.move ?_
  refine AWL.step rfl rfl (Stp.callV rfl (by decide) Try.call98 rfl rfl (szIntSS_con _ _ (by first | omega | (repeat (first | omega | apply szd_lo))) (by first | omega | (repeat (first | omega | apply szd_hi))))) ?_
  refine AWL.nrm (by simp only [go_sem, Int.reduceToNat, Nat.reduceLT, reduceIte, Nat.reduceEqDiff, Nat.reduceAdd, Nat.reduceMul, Nat.reduceBEq, reduceCtorEq]; rfl) ?_
  refine AWL.q rfl rfl rfl (by decide) Qt.assign ?_
  refine AWL.nilE (by simp only [go_sem, Int.reduceToNat, Nat.reduceLT, reduceIte, Nat.reduceEqDiff, Nat.reduceAdd, Nat.reduceMul, Nat.reduceBEq, reduceCtorEq]; rfl) ?_
  try dsimp only [thenQ, blockQ]
  refine AW.seq ?_
  refine AW.seq ?_
  refine AW.region ?_
  refine AWL.q rfl rfl rfl (by decide) Qt.move ?_
  refine AWL.q rfl rfl rfl (by decide) (Qt.binOp rfl rfl rfl) ?_
  refine AWL.nilE (by simp only [go_sem, Int.reduceToNat, Nat.reduceLT, reduceIte, Nat.reduceEqDiff, Nat.reduceAdd, Nat.reduceMul, Nat.reduceBEq, reduceCtorEq]; rfl) ?_
  try dsimp only [thenQ, blockQ]
  refine AW.cond rfl (fun c1 => ?_) (fun c1 => ?_)
  · have k1 := c1
    try simp only [decide_eq_true_eq, decide_eq_false_iff_not, bne_iff_ne, ne_eq, beq_iff_eq, beq_eq_false_iff_ne, bne_eq_false_iff_eq, Bool.not_eq_true', Bool.not_eq_false', Bool.and_eq_true, Bool.or_eq_true, Bool.and_eq_false_iff, Bool.or_eq_false_iff, Int.not_lt, Int.not_le, Int.toNat_natCast] at c1
    refine AW.seq ?_
    refine AW.region ?_
    refine AWL.q rfl rfl rfl (by decide) Qt.assign ?_
    refine AWL.nilE (by simp only [go_sem, Int.reduceToNat, Nat.reduceLT, reduceIte, Nat.reduceEqDiff, Nat.reduceAdd, Nat.reduceMul, Nat.reduceBEq, reduceCtorEq]; rfl) ?_
    try dsimp only [thenQ, blockQ]
    refine AW.ret ?_
    try dsimp only [thenQ, blockQ]
    refine endQ_ret (.cons (.tmp 4) .nil) ?_
    simp only [retX, slotL, reduceIte, Nat.reduceEqDiff]
    first | rfl | (congr 2; simp only [szd, Mk.wt] at *; omega)
  · have k1 := c1
    try simp only [decide_eq_true_eq, decide_eq_false_iff_not, bne_iff_ne, ne_eq, beq_iff_eq, beq_eq_false_iff_ne, bne_eq_false_iff_eq, Bool.not_eq_true', Bool.not_eq_false', Bool.and_eq_true, Bool.or_eq_true, Bool.and_eq_false_iff, Bool.or_eq_false_iff, Int.not_lt, Int.not_le, Int.toNat_natCast] at c1
    refine AW.skip ?_
    dsimp only [thenQ, blockQ]
    refine AW.seq ?_
    refine AW.region ?_
    refine AWL.q rfl rfl rfl (by decide) Qt.move ?_
    refine AWL.nrm (by simp only [go_sem, Int.reduceToNat, Nat.reduceLT, reduceIte, Nat.reduceEqDiff, Nat.reduceAdd, Nat.reduceMul, Nat.reduceBEq, reduceCtorEq]; rfl) ?_
    refine AWL.q rfl rfl rfl (by decide) Qt.assign ?_
    refine AWL.nilE (by simp only [go_sem, Int.reduceToNat, Nat.reduceLT, reduceIte, Nat.reduceEqDiff, Nat.reduceAdd, Nat.reduceMul, Nat.reduceBEq, reduceCtorEq]; rfl) ?_
    try dsimp only [thenQ, blockQ]
    refine AW.ret ?_
    try dsimp only [thenQ, blockQ]
    refine endQ_ret (.cons (.tmp 4) .nil) ?_
    simp only [retX, slotL, reduceIte, Nat.reduceEqDiff]
    first | rfl | (congr 2; simp only [szd, Mk.wt] at *; omega)
set_option maxHeartbeats 8000000 in
set_option maxRecDepth 10000 in
theorem szCpu_con (a : DCpu) (left : Int) (h1 : -1 ≤ left) (h2 : left ≤ 1048576) : Con Try.prog 181 [.g [.v (iv a.Pc), .h base []], .v (iv left)] [.rt base .ro (tr a.Regs)] (fun y _ => y = .v (iv (szd (Mk.wt a) left))) := by
  refine Con.of_body Try.func181 rfl (by simp) ?_
  rw [Try.ntmps181]
  refine AW.seq ?_
  refine AW.region ?_
  refine AWL.step rfl rfl (Stp.boxB rfl (by decide) (by decide) rfl rfl rfl rfl) ?_
  refine AWL.nrm (by simp only [go_sem, Int.reduceToNat, Nat.reduceLT, reduceIte, Nat.reduceEqDiff, Nat.reduceAdd, Nat.reduceMul, Nat.reduceBEq, reduceCtorEq]; rfl) ?_
  refine AWL.q rfl rfl rfl (by decide) Qt.assign ?_
  refine AWL.nilE (by simp only [go_sem, Int.reduceToNat, Nat.reduceLT, reduceIte, Nat.reduceEqDiff, Nat.reduceAdd, Nat.reduceMul, Nat.reduceBEq, reduceCtorEq]; rfl) ?_
  try dsimp only [thenQ, blockQ]
  refine AW.seq ?_
  refine AW.region ?_
  refine AWL.q rfl rfl rfl (by decide) (Qt.fieldAddr rfl fl168_1 rfl rfl (by decide)) ?_
  refine AWL.q rfl rfl rfl (by decide) (Qt.load1 rfl rfl rfl ag24) ?_
  refine AWL.nrm (by simp only [go_sem, Int.reduceToNat, Nat.reduceLT, reduceIte, Nat.reduceEqDiff, Nat.reduceAdd, Nat.reduceMul, Nat.reduceBEq, reduceCtorEq]; rfl) ?_
  refine AWL.q rfl rfl rfl (by decide) Qt.move ?_
  refine AWL.step rfl rfl (Stp.callV rfl (by decide) Try.call37 rfl rfl (szIntS_con _ _ (by first | omega | (repeat (first | omega | apply szd_lo))) (by first | omega | (repeat (first | omega | apply szd_hi))))) ?_
  refine AWL.nrm (by simp only [go_sem, Int.reduceToNat, Nat.reduceLT, reduceIte, Nat.reduceEqDiff, Nat.reduceAdd, Nat.reduceMul, Nat.reduceBEq, reduceCtorEq]; rfl) ?_
  refine AWL.q rfl rfl rfl (by decide) Qt.assign ?_
  refine AWL.nilE (by simp only [go_sem, Int.reduceToNat, Nat.reduceLT, reduceIte, Nat.reduceEqDiff, Nat.reduceAdd, Nat.reduceMul, Nat.reduceBEq, reduceCtorEq]; rfl) ?_
  try dsimp only [thenQ, blockQ]
  refine AW.seq ?_
  refine AW.seq ?_
  refine AW.region ?_
  refine AWL.q rfl rfl rfl (by decide) Qt.move ?_
  refine AWL.q rfl rfl rfl (by decide) (Qt.binOp rfl rfl rfl) ?_
  refine AWL.nilE (by simp only [go_sem, Int.reduceToNat, Nat.reduceLT, reduceIte, Nat.reduceEqDiff, Nat.reduceAdd, Nat.reduceMul, Nat.reduceBEq, reduceCtorEq]; rfl) ?_
  try dsimp only [thenQ, blockQ]
  refine AW.cond rfl (fun c1 => ?_) (fun c1 => ?_)
  · have k1 := c1
    try simp only [decide_eq_true_eq, decide_eq_false_iff_not, bne_iff_ne, ne_eq, beq_iff_eq, beq_eq_false_iff_ne, bne_eq_false_iff_eq, Bool.not_eq_true', Bool.not_eq_false', Bool.and_eq_true, Bool.or_eq_true, Bool.and_eq_false_iff, Bool.or_eq_false_iff, Int.not_lt, Int.not_le, Int.toNat_natCast] at c1
    refine AW.seq ?_
    refine AW.region ?_
    refine AWL.q rfl rfl rfl (by decide) Qt.assign ?_
    refine AWL.nilE (by simp only [go_sem, Int.reduceToNat, Nat.reduceLT, reduceIte, Nat.reduceEqDiff, Nat.reduceAdd, Nat.reduceMul, Nat.reduceBEq, reduceCtorEq]; rfl) ?_
    try dsimp only [thenQ, blockQ]
    refine AW.ret ?_
    try dsimp only [thenQ, blockQ]
    refine endQ_ret (.cons (.tmp 4) .nil) ?_
    simp only [retX, slotL, reduceIte, Nat.reduceEqDiff]
    first | rfl | (congr 2; simp only [szd, Mk.wt] at *; omega)
  · have k1 := c1
    try simp only [decide_eq_true_eq, decide_eq_false_iff_not, bne_iff_ne, ne_eq, beq_iff_eq, beq_eq_false_iff_ne, bne_eq_false_iff_eq, Bool.not_eq_true', Bool.not_eq_false', Bool.and_eq_true, Bool.or_eq_true, Bool.and_eq_false_iff, Bool.or_eq_false_iff, Int.not_lt, Int.not_le, Int.toNat_natCast] at c1
    refine AW.skip ?_
    dsimp only [thenQ, blockQ]
    refine AW.seq ?_
    refine AW.region ?_
    refine AWL.q rfl rfl rfl (by decide) Qt.move ?_
    refine AWL.nrm (by simp only [go_sem, Int.reduceToNat, Nat.reduceLT, reduceIte, Nat.reduceEqDiff, Nat.reduceAdd, Nat.reduceMul, Nat.reduceBEq, reduceCtorEq]; rfl) ?_
    refine AWL.q rfl rfl rfl (by decide) Qt.assign ?_
    refine AWL.nilE (by simp only [go_sem, Int.reduceToNat, Nat.reduceLT, reduceIte, Nat.reduceEqDiff, Nat.reduceAdd, Nat.reduceMul, Nat.reduceBEq, reduceCtorEq]; rfl) ?_
    try dsimp only [thenQ, blockQ]
    refine AW.ret ?_
    try dsimp only [thenQ, blockQ]
    refine endQ_ret (.cons (.tmp 4) .nil) ?_
    simp only [retX, slotL, reduceIte, Nat.reduceEqDiff]
    first | rfl | (congr 2; simp only [szd, Mk.wt] at *; omega)
set_option maxHeartbeats 8000000 in
set_option maxRecDepth 10000 in
theorem szBProc_con (a : DBProc) (left : Int) (h1 : -1 ≤ left) (h2 : left ≤ 1048576) : Con Try.prog 117 [.g [.v (iv a.Pid), .v (iv a.Parent), .v (iv a.State), .v (iv a.Prog), .v (iv a.Cpu.Pc), .h base [], .h (base + 1) [], .h (base + 2) [], .v (iv a.Until), .v (iv a.Code)], .v (iv left)] [.rt base .ro (tr a.Cpu.Regs), .rt (base + 1) .ro (tr a.Pages), .rt (base + 2) .ro (tr a.Fds)] (fun y _ => y = .v (iv (szd (Mk.wt a) left))) := by
  refine Con.of_body Try.func117 rfl (by simp) ?_
  rw [Try.ntmps117]
  refine AW.seq ?_
  refine AW.region ?_
  refine AWL.step rfl rfl (Stp.boxB rfl (by decide) (by decide) rfl rfl rfl rfl) ?_
  refine AWL.nrm (by simp only [go_sem, Int.reduceToNat, Nat.reduceLT, reduceIte, Nat.reduceEqDiff, Nat.reduceAdd, Nat.reduceMul, Nat.reduceBEq, reduceCtorEq]; rfl) ?_
  refine AWL.q rfl rfl rfl (by decide) Qt.assign ?_
  refine AWL.nilE (by simp only [go_sem, Int.reduceToNat, Nat.reduceLT, reduceIte, Nat.reduceEqDiff, Nat.reduceAdd, Nat.reduceMul, Nat.reduceBEq, reduceCtorEq]; rfl) ?_
  try dsimp only [thenQ, blockQ]
  refine AW.seq ?_
  refine AW.region ?_
  refine AWL.q rfl rfl rfl (by decide) (Qt.fieldAddr rfl fl170_4 rfl rfl (by decide)) ?_
  refine AWL.q rfl rfl rfl (by decide) (Qt.loadG rfl rfl rfl ag168 sz168 (by decide)) ?_
  refine AWL.nrm (by simp only [go_sem, Int.reduceToNat, Nat.reduceLT, reduceIte, Nat.reduceEqDiff, Nat.reduceAdd, Nat.reduceMul, Nat.reduceBEq, reduceCtorEq]; rfl) ?_
  refine AWL.q rfl rfl rfl (by decide) Qt.move ?_
  refine AWL.step rfl rfl (Stp.callV rfl (by decide) Try.call181 rfl rfl (szCpu_con _ _ (by first | omega | (repeat (first | omega | apply szd_lo))) (by first | omega | (repeat (first | omega | apply szd_hi))))) ?_
  refine AWL.nrm (by simp only [go_sem, Int.reduceToNat, Nat.reduceLT, reduceIte, Nat.reduceEqDiff, Nat.reduceAdd, Nat.reduceMul, Nat.reduceBEq, reduceCtorEq]; rfl) ?_
  refine AWL.q rfl rfl rfl (by decide) Qt.assign ?_
  refine AWL.nilE (by simp only [go_sem, Int.reduceToNat, Nat.reduceLT, reduceIte, Nat.reduceEqDiff, Nat.reduceAdd, Nat.reduceMul, Nat.reduceBEq, reduceCtorEq]; rfl) ?_
  try dsimp only [thenQ, blockQ]
  refine AW.seq ?_
  refine AW.seq ?_
  refine AW.region ?_
  refine AWL.q rfl rfl rfl (by decide) Qt.move ?_
  refine AWL.q rfl rfl rfl (by decide) (Qt.binOp rfl rfl rfl) ?_
  refine AWL.nilE (by simp only [go_sem, Int.reduceToNat, Nat.reduceLT, reduceIte, Nat.reduceEqDiff, Nat.reduceAdd, Nat.reduceMul, Nat.reduceBEq, reduceCtorEq]; rfl) ?_
  try dsimp only [thenQ, blockQ]
  refine AW.cond rfl (fun c1 => ?_) (fun c1 => ?_)
  · have k1 := c1
    try simp only [decide_eq_true_eq, decide_eq_false_iff_not, bne_iff_ne, ne_eq, beq_iff_eq, beq_eq_false_iff_ne, bne_eq_false_iff_eq, Bool.not_eq_true', Bool.not_eq_false', Bool.and_eq_true, Bool.or_eq_true, Bool.and_eq_false_iff, Bool.or_eq_false_iff, Int.not_lt, Int.not_le, Int.toNat_natCast] at c1
    refine AW.seq ?_
    refine AW.region ?_
    refine AWL.q rfl rfl rfl (by decide) Qt.assign ?_
    refine AWL.nilE (by simp only [go_sem, Int.reduceToNat, Nat.reduceLT, reduceIte, Nat.reduceEqDiff, Nat.reduceAdd, Nat.reduceMul, Nat.reduceBEq, reduceCtorEq]; rfl) ?_
    try dsimp only [thenQ, blockQ]
    refine AW.ret ?_
    try dsimp only [thenQ, blockQ]
    refine endQ_ret (.cons (.tmp 4) .nil) ?_
    simp only [retX, slotL, reduceIte, Nat.reduceEqDiff]
    first | rfl | (congr 2; simp only [szd, Mk.wt] at *; omega)
  · have k1 := c1
    try simp only [decide_eq_true_eq, decide_eq_false_iff_not, bne_iff_ne, ne_eq, beq_iff_eq, beq_eq_false_iff_ne, bne_eq_false_iff_eq, Bool.not_eq_true', Bool.not_eq_false', Bool.and_eq_true, Bool.or_eq_true, Bool.and_eq_false_iff, Bool.or_eq_false_iff, Int.not_lt, Int.not_le, Int.toNat_natCast] at c1
    refine AW.skip ?_
    dsimp only [thenQ, blockQ]
    refine AW.seq ?_
    refine AW.region ?_
    refine AWL.q rfl rfl rfl (by decide) (Qt.fieldAddr rfl fl170_5 rfl rfl (by decide)) ?_
    refine AWL.nrm (by simp only [go_sem, Int.reduceToNat, Nat.reduceLT, reduceIte, Nat.reduceEqDiff, Nat.reduceAdd, Nat.reduceMul, Nat.reduceBEq, reduceCtorEq]; rfl) ?_
    refine AWL.q rfl rfl rfl (by decide) (Qt.load1 rfl rfl rfl ag24) ?_
    refine AWL.q rfl rfl rfl (by decide) Qt.move ?_
    refine AWL.step rfl rfl (Stp.callV rfl (by decide) Try.call37 rfl rfl (szIntS_con _ _ (by first | omega | (repeat (first | omega | apply szd_lo))) (by first | omega | (repeat (first | omega | apply szd_hi))))) ?_
    refine AWL.nrm (by simp only [go_sem, Int.reduceToNat, Nat.reduceLT, reduceIte, Nat.reduceEqDiff, Nat.reduceAdd, Nat.reduceMul, Nat.reduceBEq, reduceCtorEq]; rfl) ?_
    refine AWL.q rfl rfl rfl (by decide) Qt.assign ?_
    refine AWL.nilE (by simp only [go_sem, Int.reduceToNat, Nat.reduceLT, reduceIte, Nat.reduceEqDiff, Nat.reduceAdd, Nat.reduceMul, Nat.reduceBEq, reduceCtorEq]; rfl) ?_
    try dsimp only [thenQ, blockQ]
    refine AW.seq ?_
    refine AW.seq ?_
    refine AW.region ?_
    refine AWL.q rfl rfl rfl (by decide) Qt.move ?_
    refine AWL.q rfl rfl rfl (by decide) (Qt.binOp rfl rfl rfl) ?_
    refine AWL.nilE (by simp only [go_sem, Int.reduceToNat, Nat.reduceLT, reduceIte, Nat.reduceEqDiff, Nat.reduceAdd, Nat.reduceMul, Nat.reduceBEq, reduceCtorEq]; rfl) ?_
    try dsimp only [thenQ, blockQ]
    refine AW.cond rfl (fun c2 => ?_) (fun c2 => ?_)
    · have k2 := c2
      try simp only [decide_eq_true_eq, decide_eq_false_iff_not, bne_iff_ne, ne_eq, beq_iff_eq, beq_eq_false_iff_ne, bne_eq_false_iff_eq, Bool.not_eq_true', Bool.not_eq_false', Bool.and_eq_true, Bool.or_eq_true, Bool.and_eq_false_iff, Bool.or_eq_false_iff, Int.not_lt, Int.not_le, Int.toNat_natCast] at c2
      refine AW.seq ?_
      refine AW.region ?_
      refine AWL.q rfl rfl rfl (by decide) Qt.assign ?_
      refine AWL.nilE (by simp only [go_sem, Int.reduceToNat, Nat.reduceLT, reduceIte, Nat.reduceEqDiff, Nat.reduceAdd, Nat.reduceMul, Nat.reduceBEq, reduceCtorEq]; rfl) ?_
      try dsimp only [thenQ, blockQ]
      refine AW.ret ?_
      try dsimp only [thenQ, blockQ]
      refine endQ_ret (.cons (.tmp 4) .nil) ?_
      simp only [retX, slotL, reduceIte, Nat.reduceEqDiff]
      first | rfl | (congr 2; simp only [szd, Mk.wt] at *; omega)
    · have k2 := c2
      try simp only [decide_eq_true_eq, decide_eq_false_iff_not, bne_iff_ne, ne_eq, beq_iff_eq, beq_eq_false_iff_ne, bne_eq_false_iff_eq, Bool.not_eq_true', Bool.not_eq_false', Bool.and_eq_true, Bool.or_eq_true, Bool.and_eq_false_iff, Bool.or_eq_false_iff, Int.not_lt, Int.not_le, Int.toNat_natCast] at c2
      refine AW.skip ?_
      dsimp only [thenQ, blockQ]
      refine AW.seq ?_
      refine AW.region ?_
      refine AWL.q rfl rfl rfl (by decide) (Qt.fieldAddr rfl fl170_6 rfl rfl (by decide)) ?_
      refine AWL.nrm (by simp only [go_sem, Int.reduceToNat, Nat.reduceLT, reduceIte, Nat.reduceEqDiff, Nat.reduceAdd, Nat.reduceMul, Nat.reduceBEq, reduceCtorEq]; rfl) ?_
      refine AWL.q rfl rfl rfl (by decide) (Qt.load1 rfl rfl rfl ag24) ?_
      refine AWL.q rfl rfl rfl (by decide) Qt.move ?_
      refine AWL.step rfl rfl (Stp.callV rfl (by decide) Try.call37 rfl rfl (szIntS_con _ _ (by first | omega | (repeat (first | omega | apply szd_lo))) (by first | omega | (repeat (first | omega | apply szd_hi))))) ?_
      refine AWL.nrm (by simp only [go_sem, Int.reduceToNat, Nat.reduceLT, reduceIte, Nat.reduceEqDiff, Nat.reduceAdd, Nat.reduceMul, Nat.reduceBEq, reduceCtorEq]; rfl) ?_
      refine AWL.q rfl rfl rfl (by decide) Qt.assign ?_
      refine AWL.nilE (by simp only [go_sem, Int.reduceToNat, Nat.reduceLT, reduceIte, Nat.reduceEqDiff, Nat.reduceAdd, Nat.reduceMul, Nat.reduceBEq, reduceCtorEq]; rfl) ?_
      try dsimp only [thenQ, blockQ]
      refine AW.seq ?_
      refine AW.seq ?_
      refine AW.region ?_
      refine AWL.q rfl rfl rfl (by decide) Qt.move ?_
      refine AWL.q rfl rfl rfl (by decide) (Qt.binOp rfl rfl rfl) ?_
      refine AWL.nilE (by simp only [go_sem, Int.reduceToNat, Nat.reduceLT, reduceIte, Nat.reduceEqDiff, Nat.reduceAdd, Nat.reduceMul, Nat.reduceBEq, reduceCtorEq]; rfl) ?_
      try dsimp only [thenQ, blockQ]
      refine AW.cond rfl (fun c3 => ?_) (fun c3 => ?_)
      · have k3 := c3
        try simp only [decide_eq_true_eq, decide_eq_false_iff_not, bne_iff_ne, ne_eq, beq_iff_eq, beq_eq_false_iff_ne, bne_eq_false_iff_eq, Bool.not_eq_true', Bool.not_eq_false', Bool.and_eq_true, Bool.or_eq_true, Bool.and_eq_false_iff, Bool.or_eq_false_iff, Int.not_lt, Int.not_le, Int.toNat_natCast] at c3
        refine AW.seq ?_
        refine AW.region ?_
        refine AWL.q rfl rfl rfl (by decide) Qt.assign ?_
        refine AWL.nilE (by simp only [go_sem, Int.reduceToNat, Nat.reduceLT, reduceIte, Nat.reduceEqDiff, Nat.reduceAdd, Nat.reduceMul, Nat.reduceBEq, reduceCtorEq]; rfl) ?_
        try dsimp only [thenQ, blockQ]
        refine AW.ret ?_
        try dsimp only [thenQ, blockQ]
        refine endQ_ret (.cons (.tmp 4) .nil) ?_
        simp only [retX, slotL, reduceIte, Nat.reduceEqDiff]
        first | rfl | (congr 2; simp only [szd, Mk.wt] at *; omega)
      · have k3 := c3
        try simp only [decide_eq_true_eq, decide_eq_false_iff_not, bne_iff_ne, ne_eq, beq_iff_eq, beq_eq_false_iff_ne, bne_eq_false_iff_eq, Bool.not_eq_true', Bool.not_eq_false', Bool.and_eq_true, Bool.or_eq_true, Bool.and_eq_false_iff, Bool.or_eq_false_iff, Int.not_lt, Int.not_le, Int.toNat_natCast] at c3
        refine AW.skip ?_
        dsimp only [thenQ, blockQ]
        refine AW.seq ?_
        refine AW.region ?_
        refine AWL.q rfl rfl rfl (by decide) Qt.move ?_
        refine AWL.nrm (by simp only [go_sem, Int.reduceToNat, Nat.reduceLT, reduceIte, Nat.reduceEqDiff, Nat.reduceAdd, Nat.reduceMul, Nat.reduceBEq, reduceCtorEq]; rfl) ?_
        refine AWL.q rfl rfl rfl (by decide) Qt.assign ?_
        refine AWL.nilE (by simp only [go_sem, Int.reduceToNat, Nat.reduceLT, reduceIte, Nat.reduceEqDiff, Nat.reduceAdd, Nat.reduceMul, Nat.reduceBEq, reduceCtorEq]; rfl) ?_
        try dsimp only [thenQ, blockQ]
        refine AW.ret ?_
        try dsimp only [thenQ, blockQ]
        refine endQ_ret (.cons (.tmp 4) .nil) ?_
        simp only [retX, slotL, reduceIte, Nat.reduceEqDiff]
        first | rfl | (congr 2; simp only [szd, Mk.wt] at *; omega)
set_option maxHeartbeats 8000000 in
set_option maxRecDepth 10000 in
theorem szBProcS_con (a : List DBProc) (left : Int) (h1 : -1 ≤ left) (h2 : left ≤ 1048576) : Con Try.prog 36 [.h base [], .v (iv left)] [.rt base .ro (tr a)] (fun y _ => y = .v (iv (szd (Mk.wt a) left))) := by
  refine Con.of_body Try.func36 rfl (by simp) ?_
  rw [Try.ntmps36]
  have hw : Mk.wt a = a.length + wtL Mk.wt a := rfl
  refine AW.len base [] rfl (by simp [Okp]) rfl (fun hl => ?_)
  refine AW.seq ?_
  refine AW.region ?_
  refine AWL.q rfl rfl rfl (by decide) Qt.assign ?_
  refine AWL.nilE (by simp only [go_sem, Int.reduceToNat, Nat.reduceLT, reduceIte, Nat.reduceEqDiff, Nat.reduceAdd, Nat.reduceMul, Nat.reduceBEq, reduceCtorEq]; rfl) ?_
  try dsimp only [thenQ, blockQ]
  refine AW.seq ?_
  refine AW.region ?_
  refine AWL.q rfl rfl rfl (by decide) Qt.move ?_
  refine AWL.q rfl rfl rfl (by decide) Qt.move ?_
  refine AWL.nrm (by simp only [go_sem, Int.reduceToNat, Nat.reduceLT, reduceIte, Nat.reduceEqDiff, Nat.reduceAdd, Nat.reduceMul, Nat.reduceBEq, reduceCtorEq]; rfl) ?_
  refine AWL.q rfl rfl rfl (by decide) (Qt.lenH rfl rfl rfl sl23) ?_
  refine AWL.q rfl rfl rfl (by decide) (Qt.binOp rfl rfl (by first | exact pbSub (by omega) | rfl)) ?_
  refine AWL.q rfl rfl rfl (by decide) Qt.assign ?_
  refine AWL.nilE (by simp only [go_sem, Int.reduceToNat, Nat.reduceLT, reduceIte, Nat.reduceEqDiff, Nat.reduceAdd, Nat.reduceMul, Nat.reduceBEq, reduceCtorEq]; rfl) ?_
  try dsimp only [thenQ, blockQ]
  refine AW.seq ?_
  refine AW.seq ?_
  refine AW.region ?_
  refine AWL.q rfl rfl rfl (by decide) Qt.move ?_
  refine AWL.nrm (by simp only [go_sem, Int.reduceToNat, Nat.reduceLT, reduceIte, Nat.reduceEqDiff, Nat.reduceAdd, Nat.reduceMul, Nat.reduceBEq, reduceCtorEq]; rfl) ?_
  refine AWL.q rfl rfl rfl (by decide) (Qt.binOp rfl rfl rfl) ?_
  refine AWL.nilE (by simp only [go_sem, Int.reduceToNat, Nat.reduceLT, reduceIte, Nat.reduceEqDiff, Nat.reduceAdd, Nat.reduceMul, Nat.reduceBEq, reduceCtorEq]; rfl) ?_
  try dsimp only [thenQ, blockQ]
  refine AW.cond rfl (fun c1 => ?_) (fun c1 => ?_)
  · have k1 := c1
    try simp only [decide_eq_true_eq, decide_eq_false_iff_not, bne_iff_ne, ne_eq, beq_iff_eq, beq_eq_false_iff_ne, bne_eq_false_iff_eq, Bool.not_eq_true', Bool.not_eq_false', Bool.and_eq_true, Bool.or_eq_true, Bool.and_eq_false_iff, Bool.or_eq_false_iff, Int.not_lt, Int.not_le, Int.toNat_natCast] at c1
    refine AW.seq ?_
    refine AW.region ?_
    refine AWL.q rfl rfl rfl (by decide) Qt.assign ?_
    refine AWL.nilE (by simp only [go_sem, Int.reduceToNat, Nat.reduceLT, reduceIte, Nat.reduceEqDiff, Nat.reduceAdd, Nat.reduceMul, Nat.reduceBEq, reduceCtorEq]; rfl) ?_
    try dsimp only [thenQ, blockQ]
    refine AW.ret ?_
    try dsimp only [thenQ, blockQ]
    refine endQ_ret (.cons (.tmp 4) .nil) ?_
    simp only [retX, slotL, reduceIte, Nat.reduceEqDiff]
    try have hi0 := i.nn
    have hcw := cumN_wt a
    have hz := szd_cases (Mk.wt a) left
    try have hce : cumN Mk.wt En.dflt a i.k = cumN Mk.wt En.dflt a a.length := by rw [show i.k = a.length by omega]
    congr 2
    omega
  · have k1 := c1
    try simp only [decide_eq_true_eq, decide_eq_false_iff_not, bne_iff_ne, ne_eq, beq_iff_eq, beq_eq_false_iff_ne, bne_eq_false_iff_eq, Bool.not_eq_true', Bool.not_eq_false', Bool.and_eq_true, Bool.or_eq_true, Bool.and_eq_false_iff, Bool.or_eq_false_iff, Int.not_lt, Int.not_le, Int.toNat_natCast] at c1
    refine AW.skip ?_
    dsimp only [thenQ, blockQ]
    refine AW.seq ?_
    refine AW.seq ?_
    refine AW.region ?_
    refine AWL.q rfl rfl rfl (by decide) Qt.assign ?_
    refine AWL.nilE (by simp only [go_sem, Int.reduceToNat, Nat.reduceLT, reduceIte, Nat.reduceEqDiff, Nat.reduceAdd, Nat.reduceMul, Nat.reduceBEq, reduceCtorEq]; rfl) ?_
    try dsimp only [thenQ, blockQ]
    refine AW.block ?_
    refine AW.weak (L' := [.sl 5 (.v (iv (0 : Nat))), .sl 1 (.v (iv (left - a.length - (cumN Mk.wt En.dflt a 0 : Nat)))), .sl 0 (.h base []), .rt base .ro (tr a)]) (Weak.sim ⟨rfl, (by simp only [slotL, reduceIte, Nat.reduceEqDiff]; show X.v (iv (left - a.length)) = _; simp [cumN]), rfl, ⟨_, rfl, T.sim_refl _⟩, trivial⟩ rfl rfl) ?_
    refine AW.loop (fun i : SzInv left a => [.sl 5 (.v (iv i.k)), .sl 1 (.v (iv (left - a.length - (cumN Mk.wt En.dflt a i.k : Nat)))), .sl 0 (.h base []), .rt base .ro (tr a)]) (fun i => a.length - i.k) ⟨0, Nat.zero_le _, by simp only [cumN]; omega⟩ ?_
    intro i
    have hle := i.le
    refine AW.seq ?_
    refine AW.seq ?_
    refine AW.region ?_
    refine AWL.q rfl rfl rfl (by decide) Qt.move ?_
    refine AWL.nrm (by simp only [go_sem, Int.reduceToNat, Nat.reduceLT, reduceIte, Nat.reduceEqDiff, Nat.reduceAdd, Nat.reduceMul, Nat.reduceBEq, reduceCtorEq]; rfl) ?_
    refine AWL.q rfl rfl rfl (by decide) Qt.move ?_
    refine AWL.q rfl rfl rfl (by decide) (Qt.lenH rfl rfl rfl sl23) ?_
    refine AWL.q rfl rfl rfl (by decide) (Qt.binOp rfl rfl rfl) ?_
    refine AWL.nilE (by simp only [go_sem, Int.reduceToNat, Nat.reduceLT, reduceIte, Nat.reduceEqDiff, Nat.reduceAdd, Nat.reduceMul, Nat.reduceBEq, reduceCtorEq]; rfl) ?_
    try dsimp only [thenQ, blockQ]
    refine AW.cond rfl (fun c2 => ?_) (fun c2 => ?_)
    · have k2 := c2
      try simp only [decide_eq_true_eq, decide_eq_false_iff_not, bne_iff_ne, ne_eq, beq_iff_eq, beq_eq_false_iff_ne, bne_eq_false_iff_eq, Bool.not_eq_true', Bool.not_eq_false', Bool.and_eq_true, Bool.or_eq_true, Bool.and_eq_false_iff, Bool.or_eq_false_iff, Int.not_lt, Int.not_le, Int.toNat_natCast] at c2
      have hi0 := i.nn
      have hcw := cumN_wt a
      have hc1 := cumN_mono (c := Mk.wt) (d := En.dflt) (l := a) (show i.k + 1 ≤ a.length by omega)
      simp only [cumN] at hc1
      have hz2 := szd_cases (Mk.wt (a.getD i.k En.dflt)) (left - a.length - (cumN Mk.wt En.dflt a i.k : Nat))
      refine AW.skip ?_
      dsimp only [thenQ, blockQ]
      refine AW.seq ?_
      refine AW.block ?_
      refine AW.seq ?_
      refine AW.region ?_
      refine AWL.q rfl rfl rfl (by decide) Qt.move ?_
      refine AWL.nrm (by simp only [go_sem, Int.reduceToNat, Nat.reduceLT, reduceIte, Nat.reduceEqDiff, Nat.reduceAdd, Nat.reduceMul, Nat.reduceBEq, reduceCtorEq]; rfl) ?_
      refine AWL.q rfl rfl rfl (by decide) Qt.move ?_
      refine AWL.q rfl rfl rfl (by decide) (Qt.indexAddr rfl rfl rfl rfl sl23 sz170 (by decide) (by omega)) ?_
      refine AWL.q rfl rfl rfl (by decide) (Qt.loadG rfl rfl rfl ag170 sz170 (by decide)) ?_
      refine AWL.nrm (by simp only [go_sem, Int.reduceToNat, Nat.reduceLT, reduceIte, Nat.reduceEqDiff, Nat.reduceAdd, Nat.reduceMul, Nat.reduceBEq, reduceCtorEq]; rfl) ?_
      refine AWL.q rfl rfl rfl (by decide) Qt.move ?_
      refine AWL.step rfl rfl (Stp.callV rfl (by decide) Try.call117 rfl rfl (szBProc_con _ _ (by first | omega | (repeat (first | omega | apply szd_lo))) (by first | omega | (repeat (first | omega | apply szd_hi))))) ?_
      refine AWL.nrm (by simp only [go_sem, Int.reduceToNat, Nat.reduceLT, reduceIte, Nat.reduceEqDiff, Nat.reduceAdd, Nat.reduceMul, Nat.reduceBEq, reduceCtorEq]; rfl) ?_
      refine AWL.q rfl rfl rfl (by decide) Qt.assign ?_
      refine AWL.nilE (by simp only [go_sem, Int.reduceToNat, Nat.reduceLT, reduceIte, Nat.reduceEqDiff, Nat.reduceAdd, Nat.reduceMul, Nat.reduceBEq, reduceCtorEq]; rfl) ?_
      try dsimp only [thenQ, blockQ]
      refine AW.seq ?_
      refine AW.region ?_
      refine AWL.q rfl rfl rfl (by decide) Qt.move ?_
      refine AWL.q rfl rfl rfl (by decide) (Qt.binOp rfl rfl rfl) ?_
      refine AWL.nilE (by simp only [go_sem, Int.reduceToNat, Nat.reduceLT, reduceIte, Nat.reduceEqDiff, Nat.reduceAdd, Nat.reduceMul, Nat.reduceBEq, reduceCtorEq]; rfl) ?_
      try dsimp only [thenQ, blockQ]
      refine AW.cond rfl (fun c3 => ?_) (fun c3 => ?_)
      · have k3 := c3
        try simp only [decide_eq_true_eq, decide_eq_false_iff_not, bne_iff_ne, ne_eq, beq_iff_eq, beq_eq_false_iff_ne, bne_eq_false_iff_eq, Bool.not_eq_true', Bool.not_eq_false', Bool.and_eq_true, Bool.or_eq_true, Bool.and_eq_false_iff, Bool.or_eq_false_iff, Int.not_lt, Int.not_le, Int.toNat_natCast] at c3
        refine AW.seq ?_
        refine AW.region ?_
        refine AWL.q rfl rfl rfl (by decide) Qt.assign ?_
        refine AWL.nilE (by simp only [go_sem, Int.reduceToNat, Nat.reduceLT, reduceIte, Nat.reduceEqDiff, Nat.reduceAdd, Nat.reduceMul, Nat.reduceBEq, reduceCtorEq]; rfl) ?_
        try dsimp only [thenQ, blockQ]
        refine AW.ret ?_
        try dsimp only [thenQ, blockQ]
        refine endQ_ret (.cons (.tmp 4) .nil) ?_
        simp only [retX, slotL, reduceIte, Nat.reduceEqDiff]
        try have hi0 := i.nn
        have hcw := cumN_wt a
        have hz := szd_cases (Mk.wt a) left
        try have hce : cumN Mk.wt En.dflt a i.k = cumN Mk.wt En.dflt a a.length := by rw [show i.k = a.length by omega]
        congr 2
        omega
      · have k3 := c3
        try simp only [decide_eq_true_eq, decide_eq_false_iff_not, bne_iff_ne, ne_eq, beq_iff_eq, beq_eq_false_iff_ne, bne_eq_false_iff_eq, Bool.not_eq_true', Bool.not_eq_false', Bool.and_eq_true, Bool.or_eq_true, Bool.and_eq_false_iff, Bool.or_eq_false_iff, Int.not_lt, Int.not_le, Int.toNat_natCast] at c3
        refine AW.skip ?_
        dsimp only [thenQ, blockQ]
        refine AW.region ?_
        refine AWL.q rfl rfl rfl (by decide) Qt.move ?_
        refine AWL.nrm (by simp only [go_sem, Int.reduceToNat, Nat.reduceLT, reduceIte, Nat.reduceEqDiff, Nat.reduceAdd, Nat.reduceMul, Nat.reduceBEq, reduceCtorEq]; rfl) ?_
        refine AWL.q rfl rfl rfl (by decide) (Qt.binOp rfl rfl (by first | exact pbAdd (by omega) | rfl)) ?_
        refine AWL.q rfl rfl rfl (by decide) Qt.assign ?_
        refine AWL.nilE (by simp only [go_sem, Int.reduceToNat, Nat.reduceLT, reduceIte, Nat.reduceEqDiff, Nat.reduceAdd, Nat.reduceMul, Nat.reduceBEq, reduceCtorEq]; rfl) ?_
        try dsimp only [thenQ, blockQ]
        refine ⟨⟨i.k + 1, by omega, by simp only [cumN]; omega⟩, Weak.sim ⟨(by simp only [slotL, reduceIte, Nat.reduceEqDiff]; first | rfl | (rw [IntWalk.i64_in _ (by omega)]; rfl)), (by simp only [slotL, reduceIte, Nat.reduceEqDiff]; congr 2; simp only [cumN]; omega), rfl, ⟨_, rfl, T.sim_refl _⟩, trivial⟩ rfl rfl, ?_⟩
        show a.length - (i.k + 1) < a.length - i.k
        omega
    · have k2 := c2
      try simp only [decide_eq_true_eq, decide_eq_false_iff_not, bne_iff_ne, ne_eq, beq_iff_eq, beq_eq_false_iff_ne, bne_eq_false_iff_eq, Bool.not_eq_true', Bool.not_eq_false', Bool.and_eq_true, Bool.or_eq_true, Bool.and_eq_false_iff, Bool.or_eq_false_iff, Int.not_lt, Int.not_le, Int.toNat_natCast] at c2
      refine AW.exit ?_
      dsimp only [thenQ, blockQ, reduceIte]
      refine AW.seq ?_
      refine AW.region ?_
      refine AWL.q rfl rfl rfl (by decide) Qt.move ?_
      refine AWL.nrm (by simp only [go_sem, Int.reduceToNat, Nat.reduceLT, reduceIte, Nat.reduceEqDiff, Nat.reduceAdd, Nat.reduceMul, Nat.reduceBEq, reduceCtorEq]; rfl) ?_
      refine AWL.q rfl rfl rfl (by decide) Qt.assign ?_
      refine AWL.nilE (by simp only [go_sem, Int.reduceToNat, Nat.reduceLT, reduceIte, Nat.reduceEqDiff, Nat.reduceAdd, Nat.reduceMul, Nat.reduceBEq, reduceCtorEq]; rfl) ?_
      try dsimp only [thenQ, blockQ]
      refine AW.ret ?_
      try dsimp only [thenQ, blockQ]
      refine endQ_ret (.cons (.tmp 4) .nil) ?_
      simp only [retX, slotL, reduceIte, Nat.reduceEqDiff]
      try have hi0 := i.nn
      have hcw := cumN_wt a
      have hz := szd_cases (Mk.wt a) left
      try have hce : cumN Mk.wt En.dflt a i.k = cumN Mk.wt En.dflt a a.length := by rw [show i.k = a.length by omega]
      congr 2
      omega
set_option maxHeartbeats 8000000 in
set_option maxRecDepth 10000 in
theorem szOpenS_con (a : List DOpen) (left : Int) (h1 : -1 ≤ left) (h2 : left ≤ 1048576) : Con Try.prog 38 [.h base [], .v (iv left)] [.rt base .ro (tr a)] (fun y _ => y = .v (iv (szd (Mk.wt a) left))) := by
  refine Con.of_body Try.func38 rfl (by simp) ?_
  rw [Try.ntmps38]
  have hw : Mk.wt a = a.length := by rw [wt_list, wtL_zero (w := Mk.wt) (fun _ => rfl)]; rfl
  refine AW.len base [] rfl (by simp [Okp]) rfl (fun hl => ?_)
  refine AW.seq ?_
  refine AW.region ?_
  refine AWL.q rfl rfl rfl (by decide) Qt.assign ?_
  refine AWL.nilE (by simp only [go_sem, Int.reduceToNat, Nat.reduceLT, reduceIte, Nat.reduceEqDiff, Nat.reduceAdd, Nat.reduceMul, Nat.reduceBEq, reduceCtorEq]; rfl) ?_
  try dsimp only [thenQ, blockQ]
  refine AW.seq ?_
  refine AW.region ?_
  refine AWL.q rfl rfl rfl (by decide) Qt.move ?_
  refine AWL.q rfl rfl rfl (by decide) Qt.move ?_
  refine AWL.nrm (by simp only [go_sem, Int.reduceToNat, Nat.reduceLT, reduceIte, Nat.reduceEqDiff, Nat.reduceAdd, Nat.reduceMul, Nat.reduceBEq, reduceCtorEq]; rfl) ?_
  refine AWL.q rfl rfl rfl (by decide) (Qt.lenH rfl rfl rfl sl28) ?_
  refine AWL.q rfl rfl rfl (by decide) (Qt.binOp rfl rfl (by first | exact pbSub (by omega) | rfl)) ?_
  refine AWL.q rfl rfl rfl (by decide) Qt.assign ?_
  refine AWL.nilE (by simp only [go_sem, Int.reduceToNat, Nat.reduceLT, reduceIte, Nat.reduceEqDiff, Nat.reduceAdd, Nat.reduceMul, Nat.reduceBEq, reduceCtorEq]; rfl) ?_
  try dsimp only [thenQ, blockQ]
  refine AW.seq ?_
  refine AW.seq ?_
  refine AW.region ?_
  refine AWL.q rfl rfl rfl (by decide) Qt.move ?_
  refine AWL.nrm (by simp only [go_sem, Int.reduceToNat, Nat.reduceLT, reduceIte, Nat.reduceEqDiff, Nat.reduceAdd, Nat.reduceMul, Nat.reduceBEq, reduceCtorEq]; rfl) ?_
  refine AWL.q rfl rfl rfl (by decide) (Qt.binOp rfl rfl rfl) ?_
  refine AWL.nilE (by simp only [go_sem, Int.reduceToNat, Nat.reduceLT, reduceIte, Nat.reduceEqDiff, Nat.reduceAdd, Nat.reduceMul, Nat.reduceBEq, reduceCtorEq]; rfl) ?_
  try dsimp only [thenQ, blockQ]
  refine AW.cond rfl (fun c1 => ?_) (fun c1 => ?_)
  · have k1 := c1
    try simp only [decide_eq_true_eq, decide_eq_false_iff_not, bne_iff_ne, ne_eq, beq_iff_eq, beq_eq_false_iff_ne, bne_eq_false_iff_eq, Bool.not_eq_true', Bool.not_eq_false', Bool.and_eq_true, Bool.or_eq_true, Bool.and_eq_false_iff, Bool.or_eq_false_iff, Int.not_lt, Int.not_le, Int.toNat_natCast] at c1
    refine AW.seq ?_
    refine AW.region ?_
    refine AWL.q rfl rfl rfl (by decide) Qt.assign ?_
    refine AWL.nilE (by simp only [go_sem, Int.reduceToNat, Nat.reduceLT, reduceIte, Nat.reduceEqDiff, Nat.reduceAdd, Nat.reduceMul, Nat.reduceBEq, reduceCtorEq]; rfl) ?_
    try dsimp only [thenQ, blockQ]
    refine AW.ret ?_
    try dsimp only [thenQ, blockQ]
    refine endQ_ret (.cons (.tmp 4) .nil) ?_
    simp only [retX, slotL, reduceIte, Nat.reduceEqDiff, szd, hw]
    congr 2
    omega
  · have k1 := c1
    try simp only [decide_eq_true_eq, decide_eq_false_iff_not, bne_iff_ne, ne_eq, beq_iff_eq, beq_eq_false_iff_ne, bne_eq_false_iff_eq, Bool.not_eq_true', Bool.not_eq_false', Bool.and_eq_true, Bool.or_eq_true, Bool.and_eq_false_iff, Bool.or_eq_false_iff, Int.not_lt, Int.not_le, Int.toNat_natCast] at c1
    refine AW.skip ?_
    dsimp only [thenQ, blockQ]
    refine AW.seq ?_
    refine AW.region ?_
    refine AWL.q rfl rfl rfl (by decide) Qt.move ?_
    refine AWL.nrm (by simp only [go_sem, Int.reduceToNat, Nat.reduceLT, reduceIte, Nat.reduceEqDiff, Nat.reduceAdd, Nat.reduceMul, Nat.reduceBEq, reduceCtorEq]; rfl) ?_
    refine AWL.q rfl rfl rfl (by decide) Qt.assign ?_
    refine AWL.nilE (by simp only [go_sem, Int.reduceToNat, Nat.reduceLT, reduceIte, Nat.reduceEqDiff, Nat.reduceAdd, Nat.reduceMul, Nat.reduceBEq, reduceCtorEq]; rfl) ?_
    try dsimp only [thenQ, blockQ]
    refine AW.ret ?_
    try dsimp only [thenQ, blockQ]
    refine endQ_ret (.cons (.tmp 4) .nil) ?_
    simp only [retX, slotL, reduceIte, Nat.reduceEqDiff, szd, hw]
    congr 2
    omega
set_option maxHeartbeats 8000000 in
set_option maxRecDepth 10000 in
theorem szBPipe_con (a : DBPipe) (left : Int) (h1 : -1 ≤ left) (h2 : left ≤ 1048576) : Con Try.prog 118 [.g [.v (iv a.Id), .h base []], .v (iv left)] [.rt base .ro (tr a.Chunks)] (fun y _ => y = .v (iv (szd (Mk.wt a) left))) := by
  refine Con.of_body Try.func118 rfl (by simp) ?_
  rw [Try.ntmps118]
  refine AW.seq ?_
  refine AW.region ?_
  refine AWL.step rfl rfl (Stp.boxB rfl (by decide) (by decide) rfl rfl rfl rfl) ?_
  refine AWL.nrm (by simp only [go_sem, Int.reduceToNat, Nat.reduceLT, reduceIte, Nat.reduceEqDiff, Nat.reduceAdd, Nat.reduceMul, Nat.reduceBEq, reduceCtorEq]; rfl) ?_
  refine AWL.q rfl rfl rfl (by decide) Qt.assign ?_
  refine AWL.nilE (by simp only [go_sem, Int.reduceToNat, Nat.reduceLT, reduceIte, Nat.reduceEqDiff, Nat.reduceAdd, Nat.reduceMul, Nat.reduceBEq, reduceCtorEq]; rfl) ?_
  try dsimp only [thenQ, blockQ]
  refine AW.seq ?_
  refine AW.region ?_
  refine AWL.q rfl rfl rfl (by decide) (Qt.fieldAddr rfl fl172_1 rfl rfl (by decide)) ?_
  refine AWL.q rfl rfl rfl (by decide) (Qt.load1 rfl rfl rfl ag25) ?_
  refine AWL.nrm (by simp only [go_sem, Int.reduceToNat, Nat.reduceLT, reduceIte, Nat.reduceEqDiff, Nat.reduceAdd, Nat.reduceMul, Nat.reduceBEq, reduceCtorEq]; rfl) ?_
  refine AWL.q rfl rfl rfl (by decide) Qt.move ?_
  refine AWL.step rfl rfl (Stp.callV rfl (by decide) Try.call98 rfl rfl (szIntSS_con _ _ (by first | omega | (repeat (first | omega | apply szd_lo))) (by first | omega | (repeat (first | omega | apply szd_hi))))) ?_
  refine AWL.nrm (by simp only [go_sem, Int.reduceToNat, Nat.reduceLT, reduceIte, Nat.reduceEqDiff, Nat.reduceAdd, Nat.reduceMul, Nat.reduceBEq, reduceCtorEq]; rfl) ?_
  refine AWL.q rfl rfl rfl (by decide) Qt.assign ?_
  refine AWL.nilE (by simp only [go_sem, Int.reduceToNat, Nat.reduceLT, reduceIte, Nat.reduceEqDiff, Nat.reduceAdd, Nat.reduceMul, Nat.reduceBEq, reduceCtorEq]; rfl) ?_
  try dsimp only [thenQ, blockQ]
  refine AW.seq ?_
  refine AW.seq ?_
  refine AW.region ?_
  refine AWL.q rfl rfl rfl (by decide) Qt.move ?_
  refine AWL.q rfl rfl rfl (by decide) (Qt.binOp rfl rfl rfl) ?_
  refine AWL.nilE (by simp only [go_sem, Int.reduceToNat, Nat.reduceLT, reduceIte, Nat.reduceEqDiff, Nat.reduceAdd, Nat.reduceMul, Nat.reduceBEq, reduceCtorEq]; rfl) ?_
  try dsimp only [thenQ, blockQ]
  refine AW.cond rfl (fun c1 => ?_) (fun c1 => ?_)
  · have k1 := c1
    try simp only [decide_eq_true_eq, decide_eq_false_iff_not, bne_iff_ne, ne_eq, beq_iff_eq, beq_eq_false_iff_ne, bne_eq_false_iff_eq, Bool.not_eq_true', Bool.not_eq_false', Bool.and_eq_true, Bool.or_eq_true, Bool.and_eq_false_iff, Bool.or_eq_false_iff, Int.not_lt, Int.not_le, Int.toNat_natCast] at c1
    refine AW.seq ?_
    refine AW.region ?_
    refine AWL.q rfl rfl rfl (by decide) Qt.assign ?_
    refine AWL.nilE (by simp only [go_sem, Int.reduceToNat, Nat.reduceLT, reduceIte, Nat.reduceEqDiff, Nat.reduceAdd, Nat.reduceMul, Nat.reduceBEq, reduceCtorEq]; rfl) ?_
    try dsimp only [thenQ, blockQ]
    refine AW.ret ?_
    try dsimp only [thenQ, blockQ]
    refine endQ_ret (.cons (.tmp 4) .nil) ?_
    simp only [retX, slotL, reduceIte, Nat.reduceEqDiff]
    first | rfl | (congr 2; simp only [szd, Mk.wt] at *; omega)
  · have k1 := c1
    try simp only [decide_eq_true_eq, decide_eq_false_iff_not, bne_iff_ne, ne_eq, beq_iff_eq, beq_eq_false_iff_ne, bne_eq_false_iff_eq, Bool.not_eq_true', Bool.not_eq_false', Bool.and_eq_true, Bool.or_eq_true, Bool.and_eq_false_iff, Bool.or_eq_false_iff, Int.not_lt, Int.not_le, Int.toNat_natCast] at c1
    refine AW.skip ?_
    dsimp only [thenQ, blockQ]
    refine AW.seq ?_
    refine AW.region ?_
    refine AWL.q rfl rfl rfl (by decide) Qt.move ?_
    refine AWL.nrm (by simp only [go_sem, Int.reduceToNat, Nat.reduceLT, reduceIte, Nat.reduceEqDiff, Nat.reduceAdd, Nat.reduceMul, Nat.reduceBEq, reduceCtorEq]; rfl) ?_
    refine AWL.q rfl rfl rfl (by decide) Qt.assign ?_
    refine AWL.nilE (by simp only [go_sem, Int.reduceToNat, Nat.reduceLT, reduceIte, Nat.reduceEqDiff, Nat.reduceAdd, Nat.reduceMul, Nat.reduceBEq, reduceCtorEq]; rfl) ?_
    try dsimp only [thenQ, blockQ]
    refine AW.ret ?_
    try dsimp only [thenQ, blockQ]
    refine endQ_ret (.cons (.tmp 4) .nil) ?_
    simp only [retX, slotL, reduceIte, Nat.reduceEqDiff]
    first | rfl | (congr 2; simp only [szd, Mk.wt] at *; omega)
set_option maxHeartbeats 8000000 in
set_option maxRecDepth 10000 in
theorem szBPipeS_con (a : List DBPipe) (left : Int) (h1 : -1 ≤ left) (h2 : left ≤ 1048576) : Con Try.prog 39 [.h base [], .v (iv left)] [.rt base .ro (tr a)] (fun y _ => y = .v (iv (szd (Mk.wt a) left))) := by
  refine Con.of_body Try.func39 rfl (by simp) ?_
  rw [Try.ntmps39]
  have hw : Mk.wt a = a.length + wtL Mk.wt a := rfl
  refine AW.len base [] rfl (by simp [Okp]) rfl (fun hl => ?_)
  refine AW.seq ?_
  refine AW.region ?_
  refine AWL.q rfl rfl rfl (by decide) Qt.assign ?_
  refine AWL.nilE (by simp only [go_sem, Int.reduceToNat, Nat.reduceLT, reduceIte, Nat.reduceEqDiff, Nat.reduceAdd, Nat.reduceMul, Nat.reduceBEq, reduceCtorEq]; rfl) ?_
  try dsimp only [thenQ, blockQ]
  refine AW.seq ?_
  refine AW.region ?_
  refine AWL.q rfl rfl rfl (by decide) Qt.move ?_
  refine AWL.q rfl rfl rfl (by decide) Qt.move ?_
  refine AWL.nrm (by simp only [go_sem, Int.reduceToNat, Nat.reduceLT, reduceIte, Nat.reduceEqDiff, Nat.reduceAdd, Nat.reduceMul, Nat.reduceBEq, reduceCtorEq]; rfl) ?_
  refine AWL.q rfl rfl rfl (by decide) (Qt.lenH rfl rfl rfl sl29) ?_
  refine AWL.q rfl rfl rfl (by decide) (Qt.binOp rfl rfl (by first | exact pbSub (by omega) | rfl)) ?_
  refine AWL.q rfl rfl rfl (by decide) Qt.assign ?_
  refine AWL.nilE (by simp only [go_sem, Int.reduceToNat, Nat.reduceLT, reduceIte, Nat.reduceEqDiff, Nat.reduceAdd, Nat.reduceMul, Nat.reduceBEq, reduceCtorEq]; rfl) ?_
  try dsimp only [thenQ, blockQ]
  refine AW.seq ?_
  refine AW.seq ?_
  refine AW.region ?_
  refine AWL.q rfl rfl rfl (by decide) Qt.move ?_
  refine AWL.nrm (by simp only [go_sem, Int.reduceToNat, Nat.reduceLT, reduceIte, Nat.reduceEqDiff, Nat.reduceAdd, Nat.reduceMul, Nat.reduceBEq, reduceCtorEq]; rfl) ?_
  refine AWL.q rfl rfl rfl (by decide) (Qt.binOp rfl rfl rfl) ?_
  refine AWL.nilE (by simp only [go_sem, Int.reduceToNat, Nat.reduceLT, reduceIte, Nat.reduceEqDiff, Nat.reduceAdd, Nat.reduceMul, Nat.reduceBEq, reduceCtorEq]; rfl) ?_
  try dsimp only [thenQ, blockQ]
  refine AW.cond rfl (fun c1 => ?_) (fun c1 => ?_)
  · have k1 := c1
    try simp only [decide_eq_true_eq, decide_eq_false_iff_not, bne_iff_ne, ne_eq, beq_iff_eq, beq_eq_false_iff_ne, bne_eq_false_iff_eq, Bool.not_eq_true', Bool.not_eq_false', Bool.and_eq_true, Bool.or_eq_true, Bool.and_eq_false_iff, Bool.or_eq_false_iff, Int.not_lt, Int.not_le, Int.toNat_natCast] at c1
    refine AW.seq ?_
    refine AW.region ?_
    refine AWL.q rfl rfl rfl (by decide) Qt.assign ?_
    refine AWL.nilE (by simp only [go_sem, Int.reduceToNat, Nat.reduceLT, reduceIte, Nat.reduceEqDiff, Nat.reduceAdd, Nat.reduceMul, Nat.reduceBEq, reduceCtorEq]; rfl) ?_
    try dsimp only [thenQ, blockQ]
    refine AW.ret ?_
    try dsimp only [thenQ, blockQ]
    refine endQ_ret (.cons (.tmp 4) .nil) ?_
    simp only [retX, slotL, reduceIte, Nat.reduceEqDiff]
    try have hi0 := i.nn
    have hcw := cumN_wt a
    have hz := szd_cases (Mk.wt a) left
    try have hce : cumN Mk.wt En.dflt a i.k = cumN Mk.wt En.dflt a a.length := by rw [show i.k = a.length by omega]
    congr 2
    omega
  · have k1 := c1
    try simp only [decide_eq_true_eq, decide_eq_false_iff_not, bne_iff_ne, ne_eq, beq_iff_eq, beq_eq_false_iff_ne, bne_eq_false_iff_eq, Bool.not_eq_true', Bool.not_eq_false', Bool.and_eq_true, Bool.or_eq_true, Bool.and_eq_false_iff, Bool.or_eq_false_iff, Int.not_lt, Int.not_le, Int.toNat_natCast] at c1
    refine AW.skip ?_
    dsimp only [thenQ, blockQ]
    refine AW.seq ?_
    refine AW.seq ?_
    refine AW.region ?_
    refine AWL.q rfl rfl rfl (by decide) Qt.assign ?_
    refine AWL.nilE (by simp only [go_sem, Int.reduceToNat, Nat.reduceLT, reduceIte, Nat.reduceEqDiff, Nat.reduceAdd, Nat.reduceMul, Nat.reduceBEq, reduceCtorEq]; rfl) ?_
    try dsimp only [thenQ, blockQ]
    refine AW.block ?_
    refine AW.weak (L' := [.sl 5 (.v (iv (0 : Nat))), .sl 1 (.v (iv (left - a.length - (cumN Mk.wt En.dflt a 0 : Nat)))), .sl 0 (.h base []), .rt base .ro (tr a)]) (Weak.sim ⟨rfl, (by simp only [slotL, reduceIte, Nat.reduceEqDiff]; show X.v (iv (left - a.length)) = _; simp [cumN]), rfl, ⟨_, rfl, T.sim_refl _⟩, trivial⟩ rfl rfl) ?_
    refine AW.loop (fun i : SzInv left a => [.sl 5 (.v (iv i.k)), .sl 1 (.v (iv (left - a.length - (cumN Mk.wt En.dflt a i.k : Nat)))), .sl 0 (.h base []), .rt base .ro (tr a)]) (fun i => a.length - i.k) ⟨0, Nat.zero_le _, by simp only [cumN]; omega⟩ ?_
    intro i
    have hle := i.le
    refine AW.seq ?_
    refine AW.seq ?_
    refine AW.region ?_
    refine AWL.q rfl rfl rfl (by decide) Qt.move ?_
    refine AWL.nrm (by simp only [go_sem, Int.reduceToNat, Nat.reduceLT, reduceIte, Nat.reduceEqDiff, Nat.reduceAdd, Nat.reduceMul, Nat.reduceBEq, reduceCtorEq]; rfl) ?_
    refine AWL.q rfl rfl rfl (by decide) Qt.move ?_
    refine AWL.q rfl rfl rfl (by decide) (Qt.lenH rfl rfl rfl sl29) ?_
    refine AWL.q rfl rfl rfl (by decide) (Qt.binOp rfl rfl rfl) ?_
    refine AWL.nilE (by simp only [go_sem, Int.reduceToNat, Nat.reduceLT, reduceIte, Nat.reduceEqDiff, Nat.reduceAdd, Nat.reduceMul, Nat.reduceBEq, reduceCtorEq]; rfl) ?_
    try dsimp only [thenQ, blockQ]
    refine AW.cond rfl (fun c2 => ?_) (fun c2 => ?_)
    · have k2 := c2
      try simp only [decide_eq_true_eq, decide_eq_false_iff_not, bne_iff_ne, ne_eq, beq_iff_eq, beq_eq_false_iff_ne, bne_eq_false_iff_eq, Bool.not_eq_true', Bool.not_eq_false', Bool.and_eq_true, Bool.or_eq_true, Bool.and_eq_false_iff, Bool.or_eq_false_iff, Int.not_lt, Int.not_le, Int.toNat_natCast] at c2
      have hi0 := i.nn
      have hcw := cumN_wt a
      have hc1 := cumN_mono (c := Mk.wt) (d := En.dflt) (l := a) (show i.k + 1 ≤ a.length by omega)
      simp only [cumN] at hc1
      have hz2 := szd_cases (Mk.wt (a.getD i.k En.dflt)) (left - a.length - (cumN Mk.wt En.dflt a i.k : Nat))
      refine AW.skip ?_
      dsimp only [thenQ, blockQ]
      refine AW.seq ?_
      refine AW.block ?_
      refine AW.seq ?_
      refine AW.region ?_
      refine AWL.q rfl rfl rfl (by decide) Qt.move ?_
      refine AWL.nrm (by simp only [go_sem, Int.reduceToNat, Nat.reduceLT, reduceIte, Nat.reduceEqDiff, Nat.reduceAdd, Nat.reduceMul, Nat.reduceBEq, reduceCtorEq]; rfl) ?_
      refine AWL.q rfl rfl rfl (by decide) Qt.move ?_
      refine AWL.q rfl rfl rfl (by decide) (Qt.indexAddr rfl rfl rfl rfl sl29 sz172 (by decide) (by omega)) ?_
      refine AWL.q rfl rfl rfl (by decide) (Qt.loadG rfl rfl rfl ag172 sz172 (by decide)) ?_
      refine AWL.nrm (by simp only [go_sem, Int.reduceToNat, Nat.reduceLT, reduceIte, Nat.reduceEqDiff, Nat.reduceAdd, Nat.reduceMul, Nat.reduceBEq, reduceCtorEq]; rfl) ?_
      refine AWL.q rfl rfl rfl (by decide) Qt.move ?_
      refine AWL.step rfl rfl (Stp.callV rfl (by decide) Try.call118 rfl rfl (szBPipe_con _ _ (by first | omega | (repeat (first | omega | apply szd_lo))) (by first | omega | (repeat (first | omega | apply szd_hi))))) ?_
      refine AWL.nrm (by simp only [go_sem, Int.reduceToNat, Nat.reduceLT, reduceIte, Nat.reduceEqDiff, Nat.reduceAdd, Nat.reduceMul, Nat.reduceBEq, reduceCtorEq]; rfl) ?_
      refine AWL.q rfl rfl rfl (by decide) Qt.assign ?_
      refine AWL.nilE (by simp only [go_sem, Int.reduceToNat, Nat.reduceLT, reduceIte, Nat.reduceEqDiff, Nat.reduceAdd, Nat.reduceMul, Nat.reduceBEq, reduceCtorEq]; rfl) ?_
      try dsimp only [thenQ, blockQ]
      refine AW.seq ?_
      refine AW.region ?_
      refine AWL.q rfl rfl rfl (by decide) Qt.move ?_
      refine AWL.q rfl rfl rfl (by decide) (Qt.binOp rfl rfl rfl) ?_
      refine AWL.nilE (by simp only [go_sem, Int.reduceToNat, Nat.reduceLT, reduceIte, Nat.reduceEqDiff, Nat.reduceAdd, Nat.reduceMul, Nat.reduceBEq, reduceCtorEq]; rfl) ?_
      try dsimp only [thenQ, blockQ]
      refine AW.cond rfl (fun c3 => ?_) (fun c3 => ?_)
      · have k3 := c3
        try simp only [decide_eq_true_eq, decide_eq_false_iff_not, bne_iff_ne, ne_eq, beq_iff_eq, beq_eq_false_iff_ne, bne_eq_false_iff_eq, Bool.not_eq_true', Bool.not_eq_false', Bool.and_eq_true, Bool.or_eq_true, Bool.and_eq_false_iff, Bool.or_eq_false_iff, Int.not_lt, Int.not_le, Int.toNat_natCast] at c3
        refine AW.seq ?_
        refine AW.region ?_
        refine AWL.q rfl rfl rfl (by decide) Qt.assign ?_
        refine AWL.nilE (by simp only [go_sem, Int.reduceToNat, Nat.reduceLT, reduceIte, Nat.reduceEqDiff, Nat.reduceAdd, Nat.reduceMul, Nat.reduceBEq, reduceCtorEq]; rfl) ?_
        try dsimp only [thenQ, blockQ]
        refine AW.ret ?_
        try dsimp only [thenQ, blockQ]
        refine endQ_ret (.cons (.tmp 4) .nil) ?_
        simp only [retX, slotL, reduceIte, Nat.reduceEqDiff]
        try have hi0 := i.nn
        have hcw := cumN_wt a
        have hz := szd_cases (Mk.wt a) left
        try have hce : cumN Mk.wt En.dflt a i.k = cumN Mk.wt En.dflt a a.length := by rw [show i.k = a.length by omega]
        congr 2
        omega
      · have k3 := c3
        try simp only [decide_eq_true_eq, decide_eq_false_iff_not, bne_iff_ne, ne_eq, beq_iff_eq, beq_eq_false_iff_ne, bne_eq_false_iff_eq, Bool.not_eq_true', Bool.not_eq_false', Bool.and_eq_true, Bool.or_eq_true, Bool.and_eq_false_iff, Bool.or_eq_false_iff, Int.not_lt, Int.not_le, Int.toNat_natCast] at c3
        refine AW.skip ?_
        dsimp only [thenQ, blockQ]
        refine AW.region ?_
        refine AWL.q rfl rfl rfl (by decide) Qt.move ?_
        refine AWL.nrm (by simp only [go_sem, Int.reduceToNat, Nat.reduceLT, reduceIte, Nat.reduceEqDiff, Nat.reduceAdd, Nat.reduceMul, Nat.reduceBEq, reduceCtorEq]; rfl) ?_
        refine AWL.q rfl rfl rfl (by decide) (Qt.binOp rfl rfl (by first | exact pbAdd (by omega) | rfl)) ?_
        refine AWL.q rfl rfl rfl (by decide) Qt.assign ?_
        refine AWL.nilE (by simp only [go_sem, Int.reduceToNat, Nat.reduceLT, reduceIte, Nat.reduceEqDiff, Nat.reduceAdd, Nat.reduceMul, Nat.reduceBEq, reduceCtorEq]; rfl) ?_
        try dsimp only [thenQ, blockQ]
        refine ⟨⟨i.k + 1, by omega, by simp only [cumN]; omega⟩, Weak.sim ⟨(by simp only [slotL, reduceIte, Nat.reduceEqDiff]; first | rfl | (rw [IntWalk.i64_in _ (by omega)]; rfl)), (by simp only [slotL, reduceIte, Nat.reduceEqDiff]; congr 2; simp only [cumN]; omega), rfl, ⟨_, rfl, T.sim_refl _⟩, trivial⟩ rfl rfl, ?_⟩
        show a.length - (i.k + 1) < a.length - i.k
        omega
    · have k2 := c2
      try simp only [decide_eq_true_eq, decide_eq_false_iff_not, bne_iff_ne, ne_eq, beq_iff_eq, beq_eq_false_iff_ne, bne_eq_false_iff_eq, Bool.not_eq_true', Bool.not_eq_false', Bool.and_eq_true, Bool.or_eq_true, Bool.and_eq_false_iff, Bool.or_eq_false_iff, Int.not_lt, Int.not_le, Int.toNat_natCast] at c2
      refine AW.exit ?_
      dsimp only [thenQ, blockQ, reduceIte]
      refine AW.seq ?_
      refine AW.region ?_
      refine AWL.q rfl rfl rfl (by decide) Qt.move ?_
      refine AWL.nrm (by simp only [go_sem, Int.reduceToNat, Nat.reduceLT, reduceIte, Nat.reduceEqDiff, Nat.reduceAdd, Nat.reduceMul, Nat.reduceBEq, reduceCtorEq]; rfl) ?_
      refine AWL.q rfl rfl rfl (by decide) Qt.assign ?_
      refine AWL.nilE (by simp only [go_sem, Int.reduceToNat, Nat.reduceLT, reduceIte, Nat.reduceEqDiff, Nat.reduceAdd, Nat.reduceMul, Nat.reduceBEq, reduceCtorEq]; rfl) ?_
      try dsimp only [thenQ, blockQ]
      refine AW.ret ?_
      try dsimp only [thenQ, blockQ]
      refine endQ_ret (.cons (.tmp 4) .nil) ?_
      simp only [retX, slotL, reduceIte, Nat.reduceEqDiff]
      try have hi0 := i.nn
      have hcw := cumN_wt a
      have hz := szd_cases (Mk.wt a) left
      try have hce : cumN Mk.wt En.dflt a i.k = cumN Mk.wt En.dflt a a.length := by rw [show i.k = a.length by omega]
      congr 2
      omega
set_option maxHeartbeats 8000000 in
set_option maxRecDepth 10000 in
theorem szFile_con (a : DFile) (left : Int) (h1 : -1 ≤ left) (h2 : left ≤ 1048576) : Con Try.prog 119 [.g [.v (iv a.Name), .h base []], .v (iv left)] [.rt base .ro (tr a.Data)] (fun y _ => y = .v (iv (szd (Mk.wt a) left))) := by
  refine Con.of_body Try.func119 rfl (by simp) ?_
  rw [Try.ntmps119]
  refine AW.seq ?_
  refine AW.region ?_
  refine AWL.step rfl rfl (Stp.boxB rfl (by decide) (by decide) rfl rfl rfl rfl) ?_
  refine AWL.nrm (by simp only [go_sem, Int.reduceToNat, Nat.reduceLT, reduceIte, Nat.reduceEqDiff, Nat.reduceAdd, Nat.reduceMul, Nat.reduceBEq, reduceCtorEq]; rfl) ?_
  refine AWL.q rfl rfl rfl (by decide) Qt.assign ?_
  refine AWL.nilE (by simp only [go_sem, Int.reduceToNat, Nat.reduceLT, reduceIte, Nat.reduceEqDiff, Nat.reduceAdd, Nat.reduceMul, Nat.reduceBEq, reduceCtorEq]; rfl) ?_
  try dsimp only [thenQ, blockQ]
  refine AW.seq ?_
  refine AW.region ?_
  refine AWL.q rfl rfl rfl (by decide) (Qt.fieldAddr rfl fl175_1 rfl rfl (by decide)) ?_
  refine AWL.q rfl rfl rfl (by decide) (Qt.load1 rfl rfl rfl ag24) ?_
  refine AWL.nrm (by simp only [go_sem, Int.reduceToNat, Nat.reduceLT, reduceIte, Nat.reduceEqDiff, Nat.reduceAdd, Nat.reduceMul, Nat.reduceBEq, reduceCtorEq]; rfl) ?_
  refine AWL.q rfl rfl rfl (by decide) Qt.move ?_
  refine AWL.step rfl rfl (Stp.callV rfl (by decide) Try.call37 rfl rfl (szIntS_con _ _ (by first | omega | (repeat (first | omega | apply szd_lo))) (by first | omega | (repeat (first | omega | apply szd_hi))))) ?_
  refine AWL.nrm (by simp only [go_sem, Int.reduceToNat, Nat.reduceLT, reduceIte, Nat.reduceEqDiff, Nat.reduceAdd, Nat.reduceMul, Nat.reduceBEq, reduceCtorEq]; rfl) ?_
  refine AWL.q rfl rfl rfl (by decide) Qt.assign ?_
  refine AWL.nilE (by simp only [go_sem, Int.reduceToNat, Nat.reduceLT, reduceIte, Nat.reduceEqDiff, Nat.reduceAdd, Nat.reduceMul, Nat.reduceBEq, reduceCtorEq]; rfl) ?_
  try dsimp only [thenQ, blockQ]
  refine AW.seq ?_
  refine AW.seq ?_
  refine AW.region ?_
  refine AWL.q rfl rfl rfl (by decide) Qt.move ?_
  refine AWL.q rfl rfl rfl (by decide) (Qt.binOp rfl rfl rfl) ?_
  refine AWL.nilE (by simp only [go_sem, Int.reduceToNat, Nat.reduceLT, reduceIte, Nat.reduceEqDiff, Nat.reduceAdd, Nat.reduceMul, Nat.reduceBEq, reduceCtorEq]; rfl) ?_
  try dsimp only [thenQ, blockQ]
  refine AW.cond rfl (fun c1 => ?_) (fun c1 => ?_)
  · have k1 := c1
    try simp only [decide_eq_true_eq, decide_eq_false_iff_not, bne_iff_ne, ne_eq, beq_iff_eq, beq_eq_false_iff_ne, bne_eq_false_iff_eq, Bool.not_eq_true', Bool.not_eq_false', Bool.and_eq_true, Bool.or_eq_true, Bool.and_eq_false_iff, Bool.or_eq_false_iff, Int.not_lt, Int.not_le, Int.toNat_natCast] at c1
    refine AW.seq ?_
    refine AW.region ?_
    refine AWL.q rfl rfl rfl (by decide) Qt.assign ?_
    refine AWL.nilE (by simp only [go_sem, Int.reduceToNat, Nat.reduceLT, reduceIte, Nat.reduceEqDiff, Nat.reduceAdd, Nat.reduceMul, Nat.reduceBEq, reduceCtorEq]; rfl) ?_
    try dsimp only [thenQ, blockQ]
    refine AW.ret ?_
    try dsimp only [thenQ, blockQ]
    refine endQ_ret (.cons (.tmp 4) .nil) ?_
    simp only [retX, slotL, reduceIte, Nat.reduceEqDiff]
    first | rfl | (congr 2; simp only [szd, Mk.wt] at *; omega)
  · have k1 := c1
    try simp only [decide_eq_true_eq, decide_eq_false_iff_not, bne_iff_ne, ne_eq, beq_iff_eq, beq_eq_false_iff_ne, bne_eq_false_iff_eq, Bool.not_eq_true', Bool.not_eq_false', Bool.and_eq_true, Bool.or_eq_true, Bool.and_eq_false_iff, Bool.or_eq_false_iff, Int.not_lt, Int.not_le, Int.toNat_natCast] at c1
    refine AW.skip ?_
    dsimp only [thenQ, blockQ]
    refine AW.seq ?_
    refine AW.region ?_
    refine AWL.q rfl rfl rfl (by decide) Qt.move ?_
    refine AWL.nrm (by simp only [go_sem, Int.reduceToNat, Nat.reduceLT, reduceIte, Nat.reduceEqDiff, Nat.reduceAdd, Nat.reduceMul, Nat.reduceBEq, reduceCtorEq]; rfl) ?_
    refine AWL.q rfl rfl rfl (by decide) Qt.assign ?_
    refine AWL.nilE (by simp only [go_sem, Int.reduceToNat, Nat.reduceLT, reduceIte, Nat.reduceEqDiff, Nat.reduceAdd, Nat.reduceMul, Nat.reduceBEq, reduceCtorEq]; rfl) ?_
    try dsimp only [thenQ, blockQ]
    refine AW.ret ?_
    try dsimp only [thenQ, blockQ]
    refine endQ_ret (.cons (.tmp 4) .nil) ?_
    simp only [retX, slotL, reduceIte, Nat.reduceEqDiff]
    first | rfl | (congr 2; simp only [szd, Mk.wt] at *; omega)
set_option maxHeartbeats 8000000 in
set_option maxRecDepth 10000 in
theorem szFileS_con (a : List DFile) (left : Int) (h1 : -1 ≤ left) (h2 : left ≤ 1048576) : Con Try.prog 40 [.h base [], .v (iv left)] [.rt base .ro (tr a)] (fun y _ => y = .v (iv (szd (Mk.wt a) left))) := by
  refine Con.of_body Try.func40 rfl (by simp) ?_
  rw [Try.ntmps40]
  have hw : Mk.wt a = a.length + wtL Mk.wt a := rfl
  refine AW.len base [] rfl (by simp [Okp]) rfl (fun hl => ?_)
  refine AW.seq ?_
  refine AW.region ?_
  refine AWL.q rfl rfl rfl (by decide) Qt.assign ?_
  refine AWL.nilE (by simp only [go_sem, Int.reduceToNat, Nat.reduceLT, reduceIte, Nat.reduceEqDiff, Nat.reduceAdd, Nat.reduceMul, Nat.reduceBEq, reduceCtorEq]; rfl) ?_
  try dsimp only [thenQ, blockQ]
  refine AW.seq ?_
  refine AW.region ?_
  refine AWL.q rfl rfl rfl (by decide) Qt.move ?_
  refine AWL.q rfl rfl rfl (by decide) Qt.move ?_
  refine AWL.nrm (by simp only [go_sem, Int.reduceToNat, Nat.reduceLT, reduceIte, Nat.reduceEqDiff, Nat.reduceAdd, Nat.reduceMul, Nat.reduceBEq, reduceCtorEq]; rfl) ?_
  refine AWL.q rfl rfl rfl (by decide) (Qt.lenH rfl rfl rfl sl30) ?_
  refine AWL.q rfl rfl rfl (by decide) (Qt.binOp rfl rfl (by first | exact pbSub (by omega) | rfl)) ?_
  refine AWL.q rfl rfl rfl (by decide) Qt.assign ?_
  refine AWL.nilE (by simp only [go_sem, Int.reduceToNat, Nat.reduceLT, reduceIte, Nat.reduceEqDiff, Nat.reduceAdd, Nat.reduceMul, Nat.reduceBEq, reduceCtorEq]; rfl) ?_
  try dsimp only [thenQ, blockQ]
  refine AW.seq ?_
  refine AW.seq ?_
  refine AW.region ?_
  refine AWL.q rfl rfl rfl (by decide) Qt.move ?_
  refine AWL.nrm (by simp only [go_sem, Int.reduceToNat, Nat.reduceLT, reduceIte, Nat.reduceEqDiff, Nat.reduceAdd, Nat.reduceMul, Nat.reduceBEq, reduceCtorEq]; rfl) ?_
  refine AWL.q rfl rfl rfl (by decide) (Qt.binOp rfl rfl rfl) ?_
  refine AWL.nilE (by simp only [go_sem, Int.reduceToNat, Nat.reduceLT, reduceIte, Nat.reduceEqDiff, Nat.reduceAdd, Nat.reduceMul, Nat.reduceBEq, reduceCtorEq]; rfl) ?_
  try dsimp only [thenQ, blockQ]
  refine AW.cond rfl (fun c1 => ?_) (fun c1 => ?_)
  · have k1 := c1
    try simp only [decide_eq_true_eq, decide_eq_false_iff_not, bne_iff_ne, ne_eq, beq_iff_eq, beq_eq_false_iff_ne, bne_eq_false_iff_eq, Bool.not_eq_true', Bool.not_eq_false', Bool.and_eq_true, Bool.or_eq_true, Bool.and_eq_false_iff, Bool.or_eq_false_iff, Int.not_lt, Int.not_le, Int.toNat_natCast] at c1
    refine AW.seq ?_
    refine AW.region ?_
    refine AWL.q rfl rfl rfl (by decide) Qt.assign ?_
    refine AWL.nilE (by simp only [go_sem, Int.reduceToNat, Nat.reduceLT, reduceIte, Nat.reduceEqDiff, Nat.reduceAdd, Nat.reduceMul, Nat.reduceBEq, reduceCtorEq]; rfl) ?_
    try dsimp only [thenQ, blockQ]
    refine AW.ret ?_
    try dsimp only [thenQ, blockQ]
    refine endQ_ret (.cons (.tmp 4) .nil) ?_
    simp only [retX, slotL, reduceIte, Nat.reduceEqDiff]
    try have hi0 := i.nn
    have hcw := cumN_wt a
    have hz := szd_cases (Mk.wt a) left
    try have hce : cumN Mk.wt En.dflt a i.k = cumN Mk.wt En.dflt a a.length := by rw [show i.k = a.length by omega]
    congr 2
    omega
  · have k1 := c1
    try simp only [decide_eq_true_eq, decide_eq_false_iff_not, bne_iff_ne, ne_eq, beq_iff_eq, beq_eq_false_iff_ne, bne_eq_false_iff_eq, Bool.not_eq_true', Bool.not_eq_false', Bool.and_eq_true, Bool.or_eq_true, Bool.and_eq_false_iff, Bool.or_eq_false_iff, Int.not_lt, Int.not_le, Int.toNat_natCast] at c1
    refine AW.skip ?_
    dsimp only [thenQ, blockQ]
    refine AW.seq ?_
    refine AW.seq ?_
    refine AW.region ?_
    refine AWL.q rfl rfl rfl (by decide) Qt.assign ?_
    refine AWL.nilE (by simp only [go_sem, Int.reduceToNat, Nat.reduceLT, reduceIte, Nat.reduceEqDiff, Nat.reduceAdd, Nat.reduceMul, Nat.reduceBEq, reduceCtorEq]; rfl) ?_
    try dsimp only [thenQ, blockQ]
    refine AW.block ?_
    refine AW.weak (L' := [.sl 5 (.v (iv (0 : Nat))), .sl 1 (.v (iv (left - a.length - (cumN Mk.wt En.dflt a 0 : Nat)))), .sl 0 (.h base []), .rt base .ro (tr a)]) (Weak.sim ⟨rfl, (by simp only [slotL, reduceIte, Nat.reduceEqDiff]; show X.v (iv (left - a.length)) = _; simp [cumN]), rfl, ⟨_, rfl, T.sim_refl _⟩, trivial⟩ rfl rfl) ?_
    refine AW.loop (fun i : SzInv left a => [.sl 5 (.v (iv i.k)), .sl 1 (.v (iv (left - a.length - (cumN Mk.wt En.dflt a i.k : Nat)))), .sl 0 (.h base []), .rt base .ro (tr a)]) (fun i => a.length - i.k) ⟨0, Nat.zero_le _, by simp only [cumN]; omega⟩ ?_
    intro i
    have hle := i.le
    refine AW.seq ?_
    refine AW.seq ?_
    refine AW.region ?_
    refine AWL.q rfl rfl rfl (by decide) Qt.move ?_
    refine AWL.nrm (by simp only [go_sem, Int.reduceToNat, Nat.reduceLT, reduceIte, Nat.reduceEqDiff, Nat.reduceAdd, Nat.reduceMul, Nat.reduceBEq, reduceCtorEq]; rfl) ?_
    refine AWL.q rfl rfl rfl (by decide) Qt.move ?_
    refine AWL.q rfl rfl rfl (by decide) (Qt.lenH rfl rfl rfl sl30) ?_
    refine AWL.q rfl rfl rfl (by decide) (Qt.binOp rfl rfl rfl) ?_
    refine AWL.nilE (by simp only [go_sem, Int.reduceToNat, Nat.reduceLT, reduceIte, Nat.reduceEqDiff, Nat.reduceAdd, Nat.reduceMul, Nat.reduceBEq, reduceCtorEq]; rfl) ?_
    try dsimp only [thenQ, blockQ]
    refine AW.cond rfl (fun c2 => ?_) (fun c2 => ?_)
    · have k2 := c2
      try simp only [decide_eq_true_eq, decide_eq_false_iff_not, bne_iff_ne, ne_eq, beq_iff_eq, beq_eq_false_iff_ne, bne_eq_false_iff_eq, Bool.not_eq_true', Bool.not_eq_false', Bool.and_eq_true, Bool.or_eq_true, Bool.and_eq_false_iff, Bool.or_eq_false_iff, Int.not_lt, Int.not_le, Int.toNat_natCast] at c2
      have hi0 := i.nn
      have hcw := cumN_wt a
      have hc1 := cumN_mono (c := Mk.wt) (d := En.dflt) (l := a) (show i.k + 1 ≤ a.length by omega)
      simp only [cumN] at hc1
      have hz2 := szd_cases (Mk.wt (a.getD i.k En.dflt)) (left - a.length - (cumN Mk.wt En.dflt a i.k : Nat))
      refine AW.skip ?_
      dsimp only [thenQ, blockQ]
      refine AW.seq ?_
      refine AW.block ?_
      refine AW.seq ?_
      refine AW.region ?_
      refine AWL.q rfl rfl rfl (by decide) Qt.move ?_
      refine AWL.nrm (by simp only [go_sem, Int.reduceToNat, Nat.reduceLT, reduceIte, Nat.reduceEqDiff, Nat.reduceAdd, Nat.reduceMul, Nat.reduceBEq, reduceCtorEq]; rfl) ?_
      refine AWL.q rfl rfl rfl (by decide) Qt.move ?_
      refine AWL.q rfl rfl rfl (by decide) (Qt.indexAddr rfl rfl rfl rfl sl30 sz175 (by decide) (by omega)) ?_
      refine AWL.q rfl rfl rfl (by decide) (Qt.loadG rfl rfl rfl ag175 sz175 (by decide)) ?_
      refine AWL.nrm (by simp only [go_sem, Int.reduceToNat, Nat.reduceLT, reduceIte, Nat.reduceEqDiff, Nat.reduceAdd, Nat.reduceMul, Nat.reduceBEq, reduceCtorEq]; rfl) ?_
      refine AWL.q rfl rfl rfl (by decide) Qt.move ?_
      refine AWL.step rfl rfl (Stp.callV rfl (by decide) Try.call119 rfl rfl (szFile_con _ _ (by first | omega | (repeat (first | omega | apply szd_lo))) (by first | omega | (repeat (first | omega | apply szd_hi))))) ?_
      refine AWL.nrm (by simp only [go_sem, Int.reduceToNat, Nat.reduceLT, reduceIte, Nat.reduceEqDiff, Nat.reduceAdd, Nat.reduceMul, Nat.reduceBEq, reduceCtorEq]; rfl) ?_
      refine AWL.q rfl rfl rfl (by decide) Qt.assign ?_
      refine AWL.nilE (by simp only [go_sem, Int.reduceToNat, Nat.reduceLT, reduceIte, Nat.reduceEqDiff, Nat.reduceAdd, Nat.reduceMul, Nat.reduceBEq, reduceCtorEq]; rfl) ?_
      try dsimp only [thenQ, blockQ]
      refine AW.seq ?_
      refine AW.region ?_
      refine AWL.q rfl rfl rfl (by decide) Qt.move ?_
      refine AWL.q rfl rfl rfl (by decide) (Qt.binOp rfl rfl rfl) ?_
      refine AWL.nilE (by simp only [go_sem, Int.reduceToNat, Nat.reduceLT, reduceIte, Nat.reduceEqDiff, Nat.reduceAdd, Nat.reduceMul, Nat.reduceBEq, reduceCtorEq]; rfl) ?_
      try dsimp only [thenQ, blockQ]
      refine AW.cond rfl (fun c3 => ?_) (fun c3 => ?_)
      · have k3 := c3
        try simp only [decide_eq_true_eq, decide_eq_false_iff_not, bne_iff_ne, ne_eq, beq_iff_eq, beq_eq_false_iff_ne, bne_eq_false_iff_eq, Bool.not_eq_true', Bool.not_eq_false', Bool.and_eq_true, Bool.or_eq_true, Bool.and_eq_false_iff, Bool.or_eq_false_iff, Int.not_lt, Int.not_le, Int.toNat_natCast] at c3
        refine AW.seq ?_
        refine AW.region ?_
        refine AWL.q rfl rfl rfl (by decide) Qt.assign ?_
        refine AWL.nilE (by simp only [go_sem, Int.reduceToNat, Nat.reduceLT, reduceIte, Nat.reduceEqDiff, Nat.reduceAdd, Nat.reduceMul, Nat.reduceBEq, reduceCtorEq]; rfl) ?_
        try dsimp only [thenQ, blockQ]
        refine AW.ret ?_
        try dsimp only [thenQ, blockQ]
        refine endQ_ret (.cons (.tmp 4) .nil) ?_
        simp only [retX, slotL, reduceIte, Nat.reduceEqDiff]
        try have hi0 := i.nn
        have hcw := cumN_wt a
        have hz := szd_cases (Mk.wt a) left
        try have hce : cumN Mk.wt En.dflt a i.k = cumN Mk.wt En.dflt a a.length := by rw [show i.k = a.length by omega]
        congr 2
        omega
      · have k3 := c3
        try simp only [decide_eq_true_eq, decide_eq_false_iff_not, bne_iff_ne, ne_eq, beq_iff_eq, beq_eq_false_iff_ne, bne_eq_false_iff_eq, Bool.not_eq_true', Bool.not_eq_false', Bool.and_eq_true, Bool.or_eq_true, Bool.and_eq_false_iff, Bool.or_eq_false_iff, Int.not_lt, Int.not_le, Int.toNat_natCast] at c3
        refine AW.skip ?_
        dsimp only [thenQ, blockQ]
        refine AW.region ?_
        refine AWL.q rfl rfl rfl (by decide) Qt.move ?_
        refine AWL.nrm (by simp only [go_sem, Int.reduceToNat, Nat.reduceLT, reduceIte, Nat.reduceEqDiff, Nat.reduceAdd, Nat.reduceMul, Nat.reduceBEq, reduceCtorEq]; rfl) ?_
        refine AWL.q rfl rfl rfl (by decide) (Qt.binOp rfl rfl (by first | exact pbAdd (by omega) | rfl)) ?_
        refine AWL.q rfl rfl rfl (by decide) Qt.assign ?_
        refine AWL.nilE (by simp only [go_sem, Int.reduceToNat, Nat.reduceLT, reduceIte, Nat.reduceEqDiff, Nat.reduceAdd, Nat.reduceMul, Nat.reduceBEq, reduceCtorEq]; rfl) ?_
        try dsimp only [thenQ, blockQ]
        refine ⟨⟨i.k + 1, by omega, by simp only [cumN]; omega⟩, Weak.sim ⟨(by simp only [slotL, reduceIte, Nat.reduceEqDiff]; first | rfl | (rw [IntWalk.i64_in _ (by omega)]; rfl)), (by simp only [slotL, reduceIte, Nat.reduceEqDiff]; congr 2; simp only [cumN]; omega), rfl, ⟨_, rfl, T.sim_refl _⟩, trivial⟩ rfl rfl, ?_⟩
        show a.length - (i.k + 1) < a.length - i.k
        omega
    · have k2 := c2
      try simp only [decide_eq_true_eq, decide_eq_false_iff_not, bne_iff_ne, ne_eq, beq_iff_eq, beq_eq_false_iff_ne, bne_eq_false_iff_eq, Bool.not_eq_true', Bool.not_eq_false', Bool.and_eq_true, Bool.or_eq_true, Bool.and_eq_false_iff, Bool.or_eq_false_iff, Int.not_lt, Int.not_le, Int.toNat_natCast] at c2
      refine AW.exit ?_
      dsimp only [thenQ, blockQ, reduceIte]
      refine AW.seq ?_
      refine AW.region ?_
      refine AWL.q rfl rfl rfl (by decide) Qt.move ?_
      refine AWL.nrm (by simp only [go_sem, Int.reduceToNat, Nat.reduceLT, reduceIte, Nat.reduceEqDiff, Nat.reduceAdd, Nat.reduceMul, Nat.reduceBEq, reduceCtorEq]; rfl) ?_
      refine AWL.q rfl rfl rfl (by decide) Qt.assign ?_
      refine AWL.nilE (by simp only [go_sem, Int.reduceToNat, Nat.reduceLT, reduceIte, Nat.reduceEqDiff, Nat.reduceAdd, Nat.reduceMul, Nat.reduceBEq, reduceCtorEq]; rfl) ?_
      try dsimp only [thenQ, blockQ]
      refine AW.ret ?_
      try dsimp only [thenQ, blockQ]
      refine endQ_ret (.cons (.tmp 4) .nil) ?_
      simp only [retX, slotL, reduceIte, Nat.reduceEqDiff]
      try have hi0 := i.nn
      have hcw := cumN_wt a
      have hz := szd_cases (Mk.wt a) left
      try have hce : cumN Mk.wt En.dflt a i.k = cumN Mk.wt En.dflt a a.length := by rw [show i.k = a.length by omega]
      congr 2
      omega
set_option maxHeartbeats 8000000 in
set_option maxRecDepth 10000 in
theorem szNodes_con (a : DNodes) (left : Int) (h1 : -1 ≤ left) (h2 : left ≤ 1048576) : Con Try.prog 8 [.g [.v (iv a.Next), .v (iv a.Tick), .h base [], .h (base + 1) [], .h (base + 2) [], .h (base + 3) [], .h (base + 4) [], .h (base + 5) [], .h (base + 6) [], .h (base + 7) [], .h (base + 8) []], .v (iv left)] [.rt base .ro (tr a.Progs), .rt (base + 1) .ro (tr a.Procs), .rt (base + 2) .ro (tr a.Ram), .rt (base + 3) .ro (tr a.Heap.Free), .rt (base + 4) .ro (tr a.Opens), .rt (base + 5) .ro (tr a.Pipes), .rt (base + 6) .ro (tr a.Files), .rt (base + 7) .ro (tr a.Ready), .rt (base + 8) .ro (tr a.Out)] (fun y _ => y = .v (iv (szd (Mk.wt a) left))) := by
  refine Con.of_body Try.func8 rfl (by simp) ?_
  rw [Try.ntmps8]
  refine AW.seq ?_
  refine AW.region ?_
  refine AWL.step rfl rfl (Stp.boxB rfl (by decide) (by decide) rfl rfl rfl rfl) ?_
  refine AWL.nrm (by simp only [go_sem, Int.reduceToNat, Nat.reduceLT, reduceIte, Nat.reduceEqDiff, Nat.reduceAdd, Nat.reduceMul, Nat.reduceBEq, reduceCtorEq]; rfl) ?_
  refine AWL.q rfl rfl rfl (by decide) Qt.assign ?_
  refine AWL.nilE (by simp only [go_sem, Int.reduceToNat, Nat.reduceLT, reduceIte, Nat.reduceEqDiff, Nat.reduceAdd, Nat.reduceMul, Nat.reduceBEq, reduceCtorEq]; rfl) ?_
  try dsimp only [thenQ, blockQ]
  refine AW.seq ?_
  refine AW.region ?_
  refine AWL.q rfl rfl rfl (by decide) (Qt.fieldAddr rfl fl32_2 rfl rfl (by decide)) ?_
  refine AWL.q rfl rfl rfl (by decide) (Qt.load1 rfl rfl rfl ag22) ?_
  refine AWL.nrm (by simp only [go_sem, Int.reduceToNat, Nat.reduceLT, reduceIte, Nat.reduceEqDiff, Nat.reduceAdd, Nat.reduceMul, Nat.reduceBEq, reduceCtorEq]; rfl) ?_
  refine AWL.q rfl rfl rfl (by decide) Qt.move ?_
  refine AWL.step rfl rfl (Stp.callV rfl (by decide) Try.call18 rfl rfl (szInsSS_con _ _ (by first | omega | (repeat (first | omega | apply szd_lo))) (by first | omega | (repeat (first | omega | apply szd_hi))))) ?_
  refine AWL.nrm (by simp only [go_sem, Int.reduceToNat, Nat.reduceLT, reduceIte, Nat.reduceEqDiff, Nat.reduceAdd, Nat.reduceMul, Nat.reduceBEq, reduceCtorEq]; rfl) ?_
  refine AWL.q rfl rfl rfl (by decide) Qt.assign ?_
  refine AWL.nilE (by simp only [go_sem, Int.reduceToNat, Nat.reduceLT, reduceIte, Nat.reduceEqDiff, Nat.reduceAdd, Nat.reduceMul, Nat.reduceBEq, reduceCtorEq]; rfl) ?_
  try dsimp only [thenQ, blockQ]
  refine AW.seq ?_
  refine AW.seq ?_
  refine AW.region ?_
  refine AWL.q rfl rfl rfl (by decide) Qt.move ?_
  refine AWL.q rfl rfl rfl (by decide) (Qt.binOp rfl rfl rfl) ?_
  refine AWL.nilE (by simp only [go_sem, Int.reduceToNat, Nat.reduceLT, reduceIte, Nat.reduceEqDiff, Nat.reduceAdd, Nat.reduceMul, Nat.reduceBEq, reduceCtorEq]; rfl) ?_
  try dsimp only [thenQ, blockQ]
  refine AW.cond rfl (fun c1 => ?_) (fun c1 => ?_)
  · have k1 := c1
    try simp only [decide_eq_true_eq, decide_eq_false_iff_not, bne_iff_ne, ne_eq, beq_iff_eq, beq_eq_false_iff_ne, bne_eq_false_iff_eq, Bool.not_eq_true', Bool.not_eq_false', Bool.and_eq_true, Bool.or_eq_true, Bool.and_eq_false_iff, Bool.or_eq_false_iff, Int.not_lt, Int.not_le, Int.toNat_natCast] at c1
    refine AW.seq ?_
    refine AW.region ?_
    refine AWL.q rfl rfl rfl (by decide) Qt.assign ?_
    refine AWL.nilE (by simp only [go_sem, Int.reduceToNat, Nat.reduceLT, reduceIte, Nat.reduceEqDiff, Nat.reduceAdd, Nat.reduceMul, Nat.reduceBEq, reduceCtorEq]; rfl) ?_
    try dsimp only [thenQ, blockQ]
    refine AW.ret ?_
    try dsimp only [thenQ, blockQ]
    refine endQ_ret (.cons (.tmp 4) .nil) ?_
    simp only [retX, slotL, reduceIte, Nat.reduceEqDiff]
    first | rfl | (congr 2; simp only [szd, Mk.wt] at *; omega)
  · have k1 := c1
    try simp only [decide_eq_true_eq, decide_eq_false_iff_not, bne_iff_ne, ne_eq, beq_iff_eq, beq_eq_false_iff_ne, bne_eq_false_iff_eq, Bool.not_eq_true', Bool.not_eq_false', Bool.and_eq_true, Bool.or_eq_true, Bool.and_eq_false_iff, Bool.or_eq_false_iff, Int.not_lt, Int.not_le, Int.toNat_natCast] at c1
    refine AW.skip ?_
    dsimp only [thenQ, blockQ]
    refine AW.seq ?_
    refine AW.region ?_
    refine AWL.q rfl rfl rfl (by decide) (Qt.fieldAddr rfl fl32_3 rfl rfl (by decide)) ?_
    refine AWL.nrm (by simp only [go_sem, Int.reduceToNat, Nat.reduceLT, reduceIte, Nat.reduceEqDiff, Nat.reduceAdd, Nat.reduceMul, Nat.reduceBEq, reduceCtorEq]; rfl) ?_
    refine AWL.q rfl rfl rfl (by decide) (Qt.load1 rfl rfl rfl ag23) ?_
    refine AWL.q rfl rfl rfl (by decide) Qt.move ?_
    refine AWL.step rfl rfl (Stp.callV rfl (by decide) Try.call36 rfl rfl (szBProcS_con _ _ (by first | omega | (repeat (first | omega | apply szd_lo))) (by first | omega | (repeat (first | omega | apply szd_hi))))) ?_
    refine AWL.nrm (by simp only [go_sem, Int.reduceToNat, Nat.reduceLT, reduceIte, Nat.reduceEqDiff, Nat.reduceAdd, Nat.reduceMul, Nat.reduceBEq, reduceCtorEq]; rfl) ?_
    refine AWL.q rfl rfl rfl (by decide) Qt.assign ?_
    refine AWL.nilE (by simp only [go_sem, Int.reduceToNat, Nat.reduceLT, reduceIte, Nat.reduceEqDiff, Nat.reduceAdd, Nat.reduceMul, Nat.reduceBEq, reduceCtorEq]; rfl) ?_
    try dsimp only [thenQ, blockQ]
    refine AW.seq ?_
    refine AW.seq ?_
    refine AW.region ?_
    refine AWL.q rfl rfl rfl (by decide) Qt.move ?_
    refine AWL.q rfl rfl rfl (by decide) (Qt.binOp rfl rfl rfl) ?_
    refine AWL.nilE (by simp only [go_sem, Int.reduceToNat, Nat.reduceLT, reduceIte, Nat.reduceEqDiff, Nat.reduceAdd, Nat.reduceMul, Nat.reduceBEq, reduceCtorEq]; rfl) ?_
    try dsimp only [thenQ, blockQ]
    refine AW.cond rfl (fun c2 => ?_) (fun c2 => ?_)
    · have k2 := c2
      try simp only [decide_eq_true_eq, decide_eq_false_iff_not, bne_iff_ne, ne_eq, beq_iff_eq, beq_eq_false_iff_ne, bne_eq_false_iff_eq, Bool.not_eq_true', Bool.not_eq_false', Bool.and_eq_true, Bool.or_eq_true, Bool.and_eq_false_iff, Bool.or_eq_false_iff, Int.not_lt, Int.not_le, Int.toNat_natCast] at c2
      refine AW.seq ?_
      refine AW.region ?_
      refine AWL.q rfl rfl rfl (by decide) Qt.assign ?_
      refine AWL.nilE (by simp only [go_sem, Int.reduceToNat, Nat.reduceLT, reduceIte, Nat.reduceEqDiff, Nat.reduceAdd, Nat.reduceMul, Nat.reduceBEq, reduceCtorEq]; rfl) ?_
      try dsimp only [thenQ, blockQ]
      refine AW.ret ?_
      try dsimp only [thenQ, blockQ]
      refine endQ_ret (.cons (.tmp 4) .nil) ?_
      simp only [retX, slotL, reduceIte, Nat.reduceEqDiff]
      first | rfl | (congr 2; simp only [szd, Mk.wt] at *; omega)
    · have k2 := c2
      try simp only [decide_eq_true_eq, decide_eq_false_iff_not, bne_iff_ne, ne_eq, beq_iff_eq, beq_eq_false_iff_ne, bne_eq_false_iff_eq, Bool.not_eq_true', Bool.not_eq_false', Bool.and_eq_true, Bool.or_eq_true, Bool.and_eq_false_iff, Bool.or_eq_false_iff, Int.not_lt, Int.not_le, Int.toNat_natCast] at c2
      refine AW.skip ?_
      dsimp only [thenQ, blockQ]
      refine AW.seq ?_
      refine AW.region ?_
      refine AWL.q rfl rfl rfl (by decide) (Qt.fieldAddr rfl fl32_4 rfl rfl (by decide)) ?_
      refine AWL.nrm (by simp only [go_sem, Int.reduceToNat, Nat.reduceLT, reduceIte, Nat.reduceEqDiff, Nat.reduceAdd, Nat.reduceMul, Nat.reduceBEq, reduceCtorEq]; rfl) ?_
      refine AWL.q rfl rfl rfl (by decide) (Qt.load1 rfl rfl rfl ag24) ?_
      refine AWL.q rfl rfl rfl (by decide) Qt.move ?_
      refine AWL.step rfl rfl (Stp.callV rfl (by decide) Try.call37 rfl rfl (szIntS_con _ _ (by first | omega | (repeat (first | omega | apply szd_lo))) (by first | omega | (repeat (first | omega | apply szd_hi))))) ?_
      refine AWL.nrm (by simp only [go_sem, Int.reduceToNat, Nat.reduceLT, reduceIte, Nat.reduceEqDiff, Nat.reduceAdd, Nat.reduceMul, Nat.reduceBEq, reduceCtorEq]; rfl) ?_
      refine AWL.q rfl rfl rfl (by decide) Qt.assign ?_
      refine AWL.nilE (by simp only [go_sem, Int.reduceToNat, Nat.reduceLT, reduceIte, Nat.reduceEqDiff, Nat.reduceAdd, Nat.reduceMul, Nat.reduceBEq, reduceCtorEq]; rfl) ?_
      try dsimp only [thenQ, blockQ]
      refine AW.seq ?_
      refine AW.seq ?_
      refine AW.region ?_
      refine AWL.q rfl rfl rfl (by decide) Qt.move ?_
      refine AWL.q rfl rfl rfl (by decide) (Qt.binOp rfl rfl rfl) ?_
      refine AWL.nilE (by simp only [go_sem, Int.reduceToNat, Nat.reduceLT, reduceIte, Nat.reduceEqDiff, Nat.reduceAdd, Nat.reduceMul, Nat.reduceBEq, reduceCtorEq]; rfl) ?_
      try dsimp only [thenQ, blockQ]
      refine AW.cond rfl (fun c3 => ?_) (fun c3 => ?_)
      · have k3 := c3
        try simp only [decide_eq_true_eq, decide_eq_false_iff_not, bne_iff_ne, ne_eq, beq_iff_eq, beq_eq_false_iff_ne, bne_eq_false_iff_eq, Bool.not_eq_true', Bool.not_eq_false', Bool.and_eq_true, Bool.or_eq_true, Bool.and_eq_false_iff, Bool.or_eq_false_iff, Int.not_lt, Int.not_le, Int.toNat_natCast] at c3
        refine AW.seq ?_
        refine AW.region ?_
        refine AWL.q rfl rfl rfl (by decide) Qt.assign ?_
        refine AWL.nilE (by simp only [go_sem, Int.reduceToNat, Nat.reduceLT, reduceIte, Nat.reduceEqDiff, Nat.reduceAdd, Nat.reduceMul, Nat.reduceBEq, reduceCtorEq]; rfl) ?_
        try dsimp only [thenQ, blockQ]
        refine AW.ret ?_
        try dsimp only [thenQ, blockQ]
        refine endQ_ret (.cons (.tmp 4) .nil) ?_
        simp only [retX, slotL, reduceIte, Nat.reduceEqDiff]
        first | rfl | (congr 2; simp only [szd, Mk.wt] at *; omega)
      · have k3 := c3
        try simp only [decide_eq_true_eq, decide_eq_false_iff_not, bne_iff_ne, ne_eq, beq_iff_eq, beq_eq_false_iff_ne, bne_eq_false_iff_eq, Bool.not_eq_true', Bool.not_eq_false', Bool.and_eq_true, Bool.or_eq_true, Bool.and_eq_false_iff, Bool.or_eq_false_iff, Int.not_lt, Int.not_le, Int.toNat_natCast] at c3
        refine AW.skip ?_
        dsimp only [thenQ, blockQ]
        refine AW.seq ?_
        refine AW.region ?_
        refine AWL.q rfl rfl rfl (by decide) (Qt.fieldAddr rfl fl32_5 rfl rfl (by decide)) ?_
        refine AWL.nrm (by simp only [go_sem, Int.reduceToNat, Nat.reduceLT, reduceIte, Nat.reduceEqDiff, Nat.reduceAdd, Nat.reduceMul, Nat.reduceBEq, reduceCtorEq]; rfl) ?_
        refine AWL.q rfl rfl rfl (by decide) (Qt.loadG rfl rfl rfl ag27 sz27 (by decide)) ?_
        refine AWL.q rfl rfl rfl (by decide) Qt.move ?_
        refine AWL.step rfl rfl (Stp.callV rfl (by decide) Try.call27 rfl rfl (szBuddy_con _ _ (by first | omega | (repeat (first | omega | apply szd_lo))) (by first | omega | (repeat (first | omega | apply szd_hi))))) ?_
        refine AWL.nrm (by simp only [go_sem, Int.reduceToNat, Nat.reduceLT, reduceIte, Nat.reduceEqDiff, Nat.reduceAdd, Nat.reduceMul, Nat.reduceBEq, reduceCtorEq]; rfl) ?_
        refine AWL.q rfl rfl rfl (by decide) Qt.assign ?_
        refine AWL.nilE (by simp only [go_sem, Int.reduceToNat, Nat.reduceLT, reduceIte, Nat.reduceEqDiff, Nat.reduceAdd, Nat.reduceMul, Nat.reduceBEq, reduceCtorEq]; rfl) ?_
        try dsimp only [thenQ, blockQ]
        refine AW.seq ?_
        refine AW.seq ?_
        refine AW.region ?_
        refine AWL.q rfl rfl rfl (by decide) Qt.move ?_
        refine AWL.q rfl rfl rfl (by decide) (Qt.binOp rfl rfl rfl) ?_
        refine AWL.nilE (by simp only [go_sem, Int.reduceToNat, Nat.reduceLT, reduceIte, Nat.reduceEqDiff, Nat.reduceAdd, Nat.reduceMul, Nat.reduceBEq, reduceCtorEq]; rfl) ?_
        try dsimp only [thenQ, blockQ]
        refine AW.cond rfl (fun c4 => ?_) (fun c4 => ?_)
        · have k4 := c4
          try simp only [decide_eq_true_eq, decide_eq_false_iff_not, bne_iff_ne, ne_eq, beq_iff_eq, beq_eq_false_iff_ne, bne_eq_false_iff_eq, Bool.not_eq_true', Bool.not_eq_false', Bool.and_eq_true, Bool.or_eq_true, Bool.and_eq_false_iff, Bool.or_eq_false_iff, Int.not_lt, Int.not_le, Int.toNat_natCast] at c4
          refine AW.seq ?_
          refine AW.region ?_
          refine AWL.q rfl rfl rfl (by decide) Qt.assign ?_
          refine AWL.nilE (by simp only [go_sem, Int.reduceToNat, Nat.reduceLT, reduceIte, Nat.reduceEqDiff, Nat.reduceAdd, Nat.reduceMul, Nat.reduceBEq, reduceCtorEq]; rfl) ?_
          try dsimp only [thenQ, blockQ]
          refine AW.ret ?_
          try dsimp only [thenQ, blockQ]
          refine endQ_ret (.cons (.tmp 4) .nil) ?_
          simp only [retX, slotL, reduceIte, Nat.reduceEqDiff]
          first | rfl | (congr 2; simp only [szd, Mk.wt] at *; omega)
        · have k4 := c4
          try simp only [decide_eq_true_eq, decide_eq_false_iff_not, bne_iff_ne, ne_eq, beq_iff_eq, beq_eq_false_iff_ne, bne_eq_false_iff_eq, Bool.not_eq_true', Bool.not_eq_false', Bool.and_eq_true, Bool.or_eq_true, Bool.and_eq_false_iff, Bool.or_eq_false_iff, Int.not_lt, Int.not_le, Int.toNat_natCast] at c4
          refine AW.skip ?_
          dsimp only [thenQ, blockQ]
          refine AW.seq ?_
          refine AW.region ?_
          refine AWL.q rfl rfl rfl (by decide) (Qt.fieldAddr rfl fl32_6 rfl rfl (by decide)) ?_
          refine AWL.nrm (by simp only [go_sem, Int.reduceToNat, Nat.reduceLT, reduceIte, Nat.reduceEqDiff, Nat.reduceAdd, Nat.reduceMul, Nat.reduceBEq, reduceCtorEq]; rfl) ?_
          refine AWL.q rfl rfl rfl (by decide) (Qt.load1 rfl rfl rfl ag28) ?_
          refine AWL.q rfl rfl rfl (by decide) Qt.move ?_
          refine AWL.step rfl rfl (Stp.callV rfl (by decide) Try.call38 rfl rfl (szOpenS_con _ _ (by first | omega | (repeat (first | omega | apply szd_lo))) (by first | omega | (repeat (first | omega | apply szd_hi))))) ?_
          refine AWL.nrm (by simp only [go_sem, Int.reduceToNat, Nat.reduceLT, reduceIte, Nat.reduceEqDiff, Nat.reduceAdd, Nat.reduceMul, Nat.reduceBEq, reduceCtorEq]; rfl) ?_
          refine AWL.q rfl rfl rfl (by decide) Qt.assign ?_
          refine AWL.nilE (by simp only [go_sem, Int.reduceToNat, Nat.reduceLT, reduceIte, Nat.reduceEqDiff, Nat.reduceAdd, Nat.reduceMul, Nat.reduceBEq, reduceCtorEq]; rfl) ?_
          try dsimp only [thenQ, blockQ]
          refine AW.seq ?_
          refine AW.seq ?_
          refine AW.region ?_
          refine AWL.q rfl rfl rfl (by decide) Qt.move ?_
          refine AWL.q rfl rfl rfl (by decide) (Qt.binOp rfl rfl rfl) ?_
          refine AWL.nilE (by simp only [go_sem, Int.reduceToNat, Nat.reduceLT, reduceIte, Nat.reduceEqDiff, Nat.reduceAdd, Nat.reduceMul, Nat.reduceBEq, reduceCtorEq]; rfl) ?_
          try dsimp only [thenQ, blockQ]
          refine AW.cond rfl (fun c5 => ?_) (fun c5 => ?_)
          · have k5 := c5
            try simp only [decide_eq_true_eq, decide_eq_false_iff_not, bne_iff_ne, ne_eq, beq_iff_eq, beq_eq_false_iff_ne, bne_eq_false_iff_eq, Bool.not_eq_true', Bool.not_eq_false', Bool.and_eq_true, Bool.or_eq_true, Bool.and_eq_false_iff, Bool.or_eq_false_iff, Int.not_lt, Int.not_le, Int.toNat_natCast] at c5
            refine AW.seq ?_
            refine AW.region ?_
            refine AWL.q rfl rfl rfl (by decide) Qt.assign ?_
            refine AWL.nilE (by simp only [go_sem, Int.reduceToNat, Nat.reduceLT, reduceIte, Nat.reduceEqDiff, Nat.reduceAdd, Nat.reduceMul, Nat.reduceBEq, reduceCtorEq]; rfl) ?_
            try dsimp only [thenQ, blockQ]
            refine AW.ret ?_
            try dsimp only [thenQ, blockQ]
            refine endQ_ret (.cons (.tmp 4) .nil) ?_
            simp only [retX, slotL, reduceIte, Nat.reduceEqDiff]
            first | rfl | (congr 2; simp only [szd, Mk.wt] at *; omega)
          · have k5 := c5
            try simp only [decide_eq_true_eq, decide_eq_false_iff_not, bne_iff_ne, ne_eq, beq_iff_eq, beq_eq_false_iff_ne, bne_eq_false_iff_eq, Bool.not_eq_true', Bool.not_eq_false', Bool.and_eq_true, Bool.or_eq_true, Bool.and_eq_false_iff, Bool.or_eq_false_iff, Int.not_lt, Int.not_le, Int.toNat_natCast] at c5
            refine AW.skip ?_
            dsimp only [thenQ, blockQ]
            refine AW.seq ?_
            refine AW.region ?_
            refine AWL.q rfl rfl rfl (by decide) (Qt.fieldAddr rfl fl32_7 rfl rfl (by decide)) ?_
            refine AWL.nrm (by simp only [go_sem, Int.reduceToNat, Nat.reduceLT, reduceIte, Nat.reduceEqDiff, Nat.reduceAdd, Nat.reduceMul, Nat.reduceBEq, reduceCtorEq]; rfl) ?_
            refine AWL.q rfl rfl rfl (by decide) (Qt.load1 rfl rfl rfl ag29) ?_
            refine AWL.q rfl rfl rfl (by decide) Qt.move ?_
            refine AWL.step rfl rfl (Stp.callV rfl (by decide) Try.call39 rfl rfl (szBPipeS_con _ _ (by first | omega | (repeat (first | omega | apply szd_lo))) (by first | omega | (repeat (first | omega | apply szd_hi))))) ?_
            refine AWL.nrm (by simp only [go_sem, Int.reduceToNat, Nat.reduceLT, reduceIte, Nat.reduceEqDiff, Nat.reduceAdd, Nat.reduceMul, Nat.reduceBEq, reduceCtorEq]; rfl) ?_
            refine AWL.q rfl rfl rfl (by decide) Qt.assign ?_
            refine AWL.nilE (by simp only [go_sem, Int.reduceToNat, Nat.reduceLT, reduceIte, Nat.reduceEqDiff, Nat.reduceAdd, Nat.reduceMul, Nat.reduceBEq, reduceCtorEq]; rfl) ?_
            try dsimp only [thenQ, blockQ]
            refine AW.seq ?_
            refine AW.seq ?_
            refine AW.region ?_
            refine AWL.q rfl rfl rfl (by decide) Qt.move ?_
            refine AWL.q rfl rfl rfl (by decide) (Qt.binOp rfl rfl rfl) ?_
            refine AWL.nilE (by simp only [go_sem, Int.reduceToNat, Nat.reduceLT, reduceIte, Nat.reduceEqDiff, Nat.reduceAdd, Nat.reduceMul, Nat.reduceBEq, reduceCtorEq]; rfl) ?_
            try dsimp only [thenQ, blockQ]
            refine AW.cond rfl (fun c6 => ?_) (fun c6 => ?_)
            · have k6 := c6
              try simp only [decide_eq_true_eq, decide_eq_false_iff_not, bne_iff_ne, ne_eq, beq_iff_eq, beq_eq_false_iff_ne, bne_eq_false_iff_eq, Bool.not_eq_true', Bool.not_eq_false', Bool.and_eq_true, Bool.or_eq_true, Bool.and_eq_false_iff, Bool.or_eq_false_iff, Int.not_lt, Int.not_le, Int.toNat_natCast] at c6
              refine AW.seq ?_
              refine AW.region ?_
              refine AWL.q rfl rfl rfl (by decide) Qt.assign ?_
              refine AWL.nilE (by simp only [go_sem, Int.reduceToNat, Nat.reduceLT, reduceIte, Nat.reduceEqDiff, Nat.reduceAdd, Nat.reduceMul, Nat.reduceBEq, reduceCtorEq]; rfl) ?_
              try dsimp only [thenQ, blockQ]
              refine AW.ret ?_
              try dsimp only [thenQ, blockQ]
              refine endQ_ret (.cons (.tmp 4) .nil) ?_
              simp only [retX, slotL, reduceIte, Nat.reduceEqDiff]
              first | rfl | (congr 2; simp only [szd, Mk.wt] at *; omega)
            · have k6 := c6
              try simp only [decide_eq_true_eq, decide_eq_false_iff_not, bne_iff_ne, ne_eq, beq_iff_eq, beq_eq_false_iff_ne, bne_eq_false_iff_eq, Bool.not_eq_true', Bool.not_eq_false', Bool.and_eq_true, Bool.or_eq_true, Bool.and_eq_false_iff, Bool.or_eq_false_iff, Int.not_lt, Int.not_le, Int.toNat_natCast] at c6
              refine AW.skip ?_
              dsimp only [thenQ, blockQ]
              refine AW.seq ?_
              refine AW.region ?_
              refine AWL.q rfl rfl rfl (by decide) (Qt.fieldAddr rfl fl32_8 rfl rfl (by decide)) ?_
              refine AWL.nrm (by simp only [go_sem, Int.reduceToNat, Nat.reduceLT, reduceIte, Nat.reduceEqDiff, Nat.reduceAdd, Nat.reduceMul, Nat.reduceBEq, reduceCtorEq]; rfl) ?_
              refine AWL.q rfl rfl rfl (by decide) (Qt.load1 rfl rfl rfl ag30) ?_
              refine AWL.q rfl rfl rfl (by decide) Qt.move ?_
              refine AWL.step rfl rfl (Stp.callV rfl (by decide) Try.call40 rfl rfl (szFileS_con _ _ (by first | omega | (repeat (first | omega | apply szd_lo))) (by first | omega | (repeat (first | omega | apply szd_hi))))) ?_
              refine AWL.nrm (by simp only [go_sem, Int.reduceToNat, Nat.reduceLT, reduceIte, Nat.reduceEqDiff, Nat.reduceAdd, Nat.reduceMul, Nat.reduceBEq, reduceCtorEq]; rfl) ?_
              refine AWL.q rfl rfl rfl (by decide) Qt.assign ?_
              refine AWL.nilE (by simp only [go_sem, Int.reduceToNat, Nat.reduceLT, reduceIte, Nat.reduceEqDiff, Nat.reduceAdd, Nat.reduceMul, Nat.reduceBEq, reduceCtorEq]; rfl) ?_
              try dsimp only [thenQ, blockQ]
              refine AW.seq ?_
              refine AW.seq ?_
              refine AW.region ?_
              refine AWL.q rfl rfl rfl (by decide) Qt.move ?_
              refine AWL.q rfl rfl rfl (by decide) (Qt.binOp rfl rfl rfl) ?_
              refine AWL.nilE (by simp only [go_sem, Int.reduceToNat, Nat.reduceLT, reduceIte, Nat.reduceEqDiff, Nat.reduceAdd, Nat.reduceMul, Nat.reduceBEq, reduceCtorEq]; rfl) ?_
              try dsimp only [thenQ, blockQ]
              refine AW.cond rfl (fun c7 => ?_) (fun c7 => ?_)
              · have k7 := c7
                try simp only [decide_eq_true_eq, decide_eq_false_iff_not, bne_iff_ne, ne_eq, beq_iff_eq, beq_eq_false_iff_ne, bne_eq_false_iff_eq, Bool.not_eq_true', Bool.not_eq_false', Bool.and_eq_true, Bool.or_eq_true, Bool.and_eq_false_iff, Bool.or_eq_false_iff, Int.not_lt, Int.not_le, Int.toNat_natCast] at c7
                refine AW.seq ?_
                refine AW.region ?_
                refine AWL.q rfl rfl rfl (by decide) Qt.assign ?_
                refine AWL.nilE (by simp only [go_sem, Int.reduceToNat, Nat.reduceLT, reduceIte, Nat.reduceEqDiff, Nat.reduceAdd, Nat.reduceMul, Nat.reduceBEq, reduceCtorEq]; rfl) ?_
                try dsimp only [thenQ, blockQ]
                refine AW.ret ?_
                try dsimp only [thenQ, blockQ]
                refine endQ_ret (.cons (.tmp 4) .nil) ?_
                simp only [retX, slotL, reduceIte, Nat.reduceEqDiff]
                first | rfl | (congr 2; simp only [szd, Mk.wt] at *; omega)
              · have k7 := c7
                try simp only [decide_eq_true_eq, decide_eq_false_iff_not, bne_iff_ne, ne_eq, beq_iff_eq, beq_eq_false_iff_ne, bne_eq_false_iff_eq, Bool.not_eq_true', Bool.not_eq_false', Bool.and_eq_true, Bool.or_eq_true, Bool.and_eq_false_iff, Bool.or_eq_false_iff, Int.not_lt, Int.not_le, Int.toNat_natCast] at c7
                refine AW.skip ?_
                dsimp only [thenQ, blockQ]
                refine AW.seq ?_
                refine AW.region ?_
                refine AWL.q rfl rfl rfl (by decide) (Qt.fieldAddr rfl fl32_9 rfl rfl (by decide)) ?_
                refine AWL.nrm (by simp only [go_sem, Int.reduceToNat, Nat.reduceLT, reduceIte, Nat.reduceEqDiff, Nat.reduceAdd, Nat.reduceMul, Nat.reduceBEq, reduceCtorEq]; rfl) ?_
                refine AWL.q rfl rfl rfl (by decide) (Qt.load1 rfl rfl rfl ag24) ?_
                refine AWL.q rfl rfl rfl (by decide) Qt.move ?_
                refine AWL.step rfl rfl (Stp.callV rfl (by decide) Try.call37 rfl rfl (szIntS_con _ _ (by first | omega | (repeat (first | omega | apply szd_lo))) (by first | omega | (repeat (first | omega | apply szd_hi))))) ?_
                refine AWL.nrm (by simp only [go_sem, Int.reduceToNat, Nat.reduceLT, reduceIte, Nat.reduceEqDiff, Nat.reduceAdd, Nat.reduceMul, Nat.reduceBEq, reduceCtorEq]; rfl) ?_
                refine AWL.q rfl rfl rfl (by decide) Qt.assign ?_
                refine AWL.nilE (by simp only [go_sem, Int.reduceToNat, Nat.reduceLT, reduceIte, Nat.reduceEqDiff, Nat.reduceAdd, Nat.reduceMul, Nat.reduceBEq, reduceCtorEq]; rfl) ?_
                try dsimp only [thenQ, blockQ]
                refine AW.seq ?_
                refine AW.seq ?_
                refine AW.region ?_
                refine AWL.q rfl rfl rfl (by decide) Qt.move ?_
                refine AWL.q rfl rfl rfl (by decide) (Qt.binOp rfl rfl rfl) ?_
                refine AWL.nilE (by simp only [go_sem, Int.reduceToNat, Nat.reduceLT, reduceIte, Nat.reduceEqDiff, Nat.reduceAdd, Nat.reduceMul, Nat.reduceBEq, reduceCtorEq]; rfl) ?_
                try dsimp only [thenQ, blockQ]
                refine AW.cond rfl (fun c8 => ?_) (fun c8 => ?_)
                · have k8 := c8
                  try simp only [decide_eq_true_eq, decide_eq_false_iff_not, bne_iff_ne, ne_eq, beq_iff_eq, beq_eq_false_iff_ne, bne_eq_false_iff_eq, Bool.not_eq_true', Bool.not_eq_false', Bool.and_eq_true, Bool.or_eq_true, Bool.and_eq_false_iff, Bool.or_eq_false_iff, Int.not_lt, Int.not_le, Int.toNat_natCast] at c8
                  refine AW.seq ?_
                  refine AW.region ?_
                  refine AWL.q rfl rfl rfl (by decide) Qt.assign ?_
                  refine AWL.nilE (by simp only [go_sem, Int.reduceToNat, Nat.reduceLT, reduceIte, Nat.reduceEqDiff, Nat.reduceAdd, Nat.reduceMul, Nat.reduceBEq, reduceCtorEq]; rfl) ?_
                  try dsimp only [thenQ, blockQ]
                  refine AW.ret ?_
                  try dsimp only [thenQ, blockQ]
                  refine endQ_ret (.cons (.tmp 4) .nil) ?_
                  simp only [retX, slotL, reduceIte, Nat.reduceEqDiff]
                  first | rfl | (congr 2; simp only [szd, Mk.wt] at *; omega)
                · have k8 := c8
                  try simp only [decide_eq_true_eq, decide_eq_false_iff_not, bne_iff_ne, ne_eq, beq_iff_eq, beq_eq_false_iff_ne, bne_eq_false_iff_eq, Bool.not_eq_true', Bool.not_eq_false', Bool.and_eq_true, Bool.or_eq_true, Bool.and_eq_false_iff, Bool.or_eq_false_iff, Int.not_lt, Int.not_le, Int.toNat_natCast] at c8
                  refine AW.skip ?_
                  dsimp only [thenQ, blockQ]
                  refine AW.seq ?_
                  refine AW.region ?_
                  refine AWL.q rfl rfl rfl (by decide) (Qt.fieldAddr rfl fl32_10 rfl rfl (by decide)) ?_
                  refine AWL.nrm (by simp only [go_sem, Int.reduceToNat, Nat.reduceLT, reduceIte, Nat.reduceEqDiff, Nat.reduceAdd, Nat.reduceMul, Nat.reduceBEq, reduceCtorEq]; rfl) ?_
                  refine AWL.q rfl rfl rfl (by decide) (Qt.load1 rfl rfl rfl ag24) ?_
                  refine AWL.q rfl rfl rfl (by decide) Qt.move ?_
                  refine AWL.step rfl rfl (Stp.callV rfl (by decide) Try.call37 rfl rfl (szIntS_con _ _ (by first | omega | (repeat (first | omega | apply szd_lo))) (by first | omega | (repeat (first | omega | apply szd_hi))))) ?_
                  refine AWL.nrm (by simp only [go_sem, Int.reduceToNat, Nat.reduceLT, reduceIte, Nat.reduceEqDiff, Nat.reduceAdd, Nat.reduceMul, Nat.reduceBEq, reduceCtorEq]; rfl) ?_
                  refine AWL.q rfl rfl rfl (by decide) Qt.assign ?_
                  refine AWL.nilE (by simp only [go_sem, Int.reduceToNat, Nat.reduceLT, reduceIte, Nat.reduceEqDiff, Nat.reduceAdd, Nat.reduceMul, Nat.reduceBEq, reduceCtorEq]; rfl) ?_
                  try dsimp only [thenQ, blockQ]
                  refine AW.seq ?_
                  refine AW.seq ?_
                  refine AW.region ?_
                  refine AWL.q rfl rfl rfl (by decide) Qt.move ?_
                  refine AWL.q rfl rfl rfl (by decide) (Qt.binOp rfl rfl rfl) ?_
                  refine AWL.nilE (by simp only [go_sem, Int.reduceToNat, Nat.reduceLT, reduceIte, Nat.reduceEqDiff, Nat.reduceAdd, Nat.reduceMul, Nat.reduceBEq, reduceCtorEq]; rfl) ?_
                  try dsimp only [thenQ, blockQ]
                  refine AW.cond rfl (fun c9 => ?_) (fun c9 => ?_)
                  · have k9 := c9
                    try simp only [decide_eq_true_eq, decide_eq_false_iff_not, bne_iff_ne, ne_eq, beq_iff_eq, beq_eq_false_iff_ne, bne_eq_false_iff_eq, Bool.not_eq_true', Bool.not_eq_false', Bool.and_eq_true, Bool.or_eq_true, Bool.and_eq_false_iff, Bool.or_eq_false_iff, Int.not_lt, Int.not_le, Int.toNat_natCast] at c9
                    refine AW.seq ?_
                    refine AW.region ?_
                    refine AWL.q rfl rfl rfl (by decide) Qt.assign ?_
                    refine AWL.nilE (by simp only [go_sem, Int.reduceToNat, Nat.reduceLT, reduceIte, Nat.reduceEqDiff, Nat.reduceAdd, Nat.reduceMul, Nat.reduceBEq, reduceCtorEq]; rfl) ?_
                    try dsimp only [thenQ, blockQ]
                    refine AW.ret ?_
                    try dsimp only [thenQ, blockQ]
                    refine endQ_ret (.cons (.tmp 4) .nil) ?_
                    simp only [retX, slotL, reduceIte, Nat.reduceEqDiff]
                    first | rfl | (congr 2; simp only [szd, Mk.wt] at *; omega)
                  · have k9 := c9
                    try simp only [decide_eq_true_eq, decide_eq_false_iff_not, bne_iff_ne, ne_eq, beq_iff_eq, beq_eq_false_iff_ne, bne_eq_false_iff_eq, Bool.not_eq_true', Bool.not_eq_false', Bool.and_eq_true, Bool.or_eq_true, Bool.and_eq_false_iff, Bool.or_eq_false_iff, Int.not_lt, Int.not_le, Int.toNat_natCast] at c9
                    refine AW.skip ?_
                    dsimp only [thenQ, blockQ]
                    refine AW.seq ?_
                    refine AW.region ?_
                    refine AWL.q rfl rfl rfl (by decide) Qt.move ?_
                    refine AWL.nrm (by simp only [go_sem, Int.reduceToNat, Nat.reduceLT, reduceIte, Nat.reduceEqDiff, Nat.reduceAdd, Nat.reduceMul, Nat.reduceBEq, reduceCtorEq]; rfl) ?_
                    refine AWL.q rfl rfl rfl (by decide) Qt.assign ?_
                    refine AWL.nilE (by simp only [go_sem, Int.reduceToNat, Nat.reduceLT, reduceIte, Nat.reduceEqDiff, Nat.reduceAdd, Nat.reduceMul, Nat.reduceBEq, reduceCtorEq]; rfl) ?_
                    try dsimp only [thenQ, blockQ]
                    refine AW.ret ?_
                    try dsimp only [thenQ, blockQ]
                    refine endQ_ret (.cons (.tmp 4) .nil) ?_
                    simp only [retX, slotL, reduceIte, Nat.reduceEqDiff]
                    first | rfl | (congr 2; simp only [szd, Mk.wt] at *; omega)
set_option maxHeartbeats 8000000 in
set_option maxRecDepth 10000 in
theorem toIns_con (a : DIns) : Con Try.prog 161 [.g [.v (iv a.Op), .v (iv a.A), .v (iv a.B), .v (iv a.C)]] [] (Ret (.g [.v (iv a.Op), .v (iv a.A), .v (iv a.B), .v (iv a.C)]) []) := by
  refine Con.of_body Try.func161 rfl (by simp) ?_
  rw [Try.ntmps161]
  refine AW.seq ?_
  refine AW.region ?_
  refine AWL.step rfl rfl (Stp.boxB rfl (by decide) (by decide) rfl rfl rfl rfl) ?_
  refine AWL.nrm (by simp only [go_sem, Int.reduceToNat, Nat.reduceLT, reduceIte, Nat.reduceEqDiff, Nat.reduceAdd, Nat.reduceMul, Nat.reduceBEq, reduceCtorEq]; rfl) ?_
  refine AWL.step rfl rfl (Stp.alloc rfl (by decide) (by decide)) ?_
  refine AWL.nilE (by simp only [go_sem, Int.reduceToNat, Nat.reduceLT, reduceIte, Nat.reduceEqDiff, Nat.reduceAdd, Nat.reduceMul, Nat.reduceBEq, reduceCtorEq]; rfl) ?_
  try dsimp only [thenQ, blockQ]
  refine AW.seq ?_
  refine AW.region ?_
  refine AWL.step rfl rfl (Stp.alloc rfl (by decide) (by decide)) ?_
  refine AWL.nilE (by simp only [go_sem, Int.reduceToNat, Nat.reduceLT, reduceIte, Nat.reduceEqDiff, Nat.reduceAdd, Nat.reduceMul, Nat.reduceBEq, reduceCtorEq]; rfl) ?_
  try dsimp only [thenQ, blockQ]
  refine AW.seq ?_
  refine AW.region ?_
  refine AWL.q rfl rfl rfl (by decide) (Qt.fieldAddr rfl fl220_0 rfl rfl (by decide)) ?_
  refine AWL.nrm (by simp only [go_sem, Int.reduceToNat, Nat.reduceLT, reduceIte, Nat.reduceEqDiff, Nat.reduceAdd, Nat.reduceMul, Nat.reduceBEq, reduceCtorEq]; rfl) ?_
  refine AWL.q rfl rfl rfl (by decide) (Qt.load1 rfl rfl rfl ag3) ?_
  refine AWL.q rfl rfl rfl (by decide) (Qt.fieldAddr rfl fl218_0 rfl rfl (by decide)) ?_
  refine AWL.step rfl rfl (by first | exact Stp.storeA rfl rfl rfl rfl (by decide) rfl | exact Stp.store rfl rfl (by simp) rfl rfl rfl (by decide) rfl) ?_
  refine AWL.nilE (by simp only [go_sem, Int.reduceToNat, Nat.reduceLT, reduceIte, Nat.reduceEqDiff, Nat.reduceAdd, Nat.reduceMul, Nat.reduceBEq, reduceCtorEq]; rfl) ?_
  try dsimp only [thenQ, blockQ]
  refine AW.seq ?_
  refine AW.region ?_
  refine AWL.q rfl rfl rfl (by decide) (Qt.fieldAddr rfl fl220_1 rfl rfl (by decide)) ?_
  refine AWL.nrm (by simp only [go_sem, Int.reduceToNat, Nat.reduceLT, reduceIte, Nat.reduceEqDiff, Nat.reduceAdd, Nat.reduceMul, Nat.reduceBEq, reduceCtorEq]; rfl) ?_
  refine AWL.q rfl rfl rfl (by decide) (Qt.load1 rfl rfl rfl ag3) ?_
  refine AWL.q rfl rfl rfl (by decide) (Qt.fieldAddr rfl fl218_1 rfl rfl (by decide)) ?_
  refine AWL.step rfl rfl (by first | exact Stp.storeA rfl rfl rfl rfl (by decide) rfl | exact Stp.store rfl rfl (by simp) rfl rfl rfl (by decide) rfl) ?_
  refine AWL.nilE (by simp only [go_sem, Int.reduceToNat, Nat.reduceLT, reduceIte, Nat.reduceEqDiff, Nat.reduceAdd, Nat.reduceMul, Nat.reduceBEq, reduceCtorEq]; rfl) ?_
  try dsimp only [thenQ, blockQ]
  refine AW.seq ?_
  refine AW.region ?_
  refine AWL.q rfl rfl rfl (by decide) (Qt.fieldAddr rfl fl220_2 rfl rfl (by decide)) ?_
  refine AWL.nrm (by simp only [go_sem, Int.reduceToNat, Nat.reduceLT, reduceIte, Nat.reduceEqDiff, Nat.reduceAdd, Nat.reduceMul, Nat.reduceBEq, reduceCtorEq]; rfl) ?_
  refine AWL.q rfl rfl rfl (by decide) (Qt.load1 rfl rfl rfl ag3) ?_
  refine AWL.q rfl rfl rfl (by decide) (Qt.fieldAddr rfl fl218_2 rfl rfl (by decide)) ?_
  refine AWL.step rfl rfl (by first | exact Stp.storeA rfl rfl rfl rfl (by decide) rfl | exact Stp.store rfl rfl (by simp) rfl rfl rfl (by decide) rfl) ?_
  refine AWL.nilE (by simp only [go_sem, Int.reduceToNat, Nat.reduceLT, reduceIte, Nat.reduceEqDiff, Nat.reduceAdd, Nat.reduceMul, Nat.reduceBEq, reduceCtorEq]; rfl) ?_
  try dsimp only [thenQ, blockQ]
  refine AW.seq ?_
  refine AW.region ?_
  refine AWL.q rfl rfl rfl (by decide) (Qt.fieldAddr rfl fl220_3 rfl rfl (by decide)) ?_
  refine AWL.nrm (by simp only [go_sem, Int.reduceToNat, Nat.reduceLT, reduceIte, Nat.reduceEqDiff, Nat.reduceAdd, Nat.reduceMul, Nat.reduceBEq, reduceCtorEq]; rfl) ?_
  refine AWL.q rfl rfl rfl (by decide) (Qt.load1 rfl rfl rfl ag3) ?_
  refine AWL.q rfl rfl rfl (by decide) (Qt.fieldAddr rfl fl218_3 rfl rfl (by decide)) ?_
  refine AWL.step rfl rfl (by first | exact Stp.storeA rfl rfl rfl rfl (by decide) rfl | exact Stp.store rfl rfl (by simp) rfl rfl rfl (by decide) rfl) ?_
  refine AWL.nilE (by simp only [go_sem, Int.reduceToNat, Nat.reduceLT, reduceIte, Nat.reduceEqDiff, Nat.reduceAdd, Nat.reduceMul, Nat.reduceBEq, reduceCtorEq]; rfl) ?_
  try dsimp only [thenQ, blockQ]
  refine AW.seq ?_
  refine AW.region ?_
  refine AWL.q rfl rfl rfl (by decide) (Qt.loadG rfl rfl rfl ag218 sz218 (by decide)) ?_
  refine AWL.nrm (by simp only [go_sem, Int.reduceToNat, Nat.reduceLT, reduceIte, Nat.reduceEqDiff, Nat.reduceAdd, Nat.reduceMul, Nat.reduceBEq, reduceCtorEq]; rfl) ?_
  refine AWL.step rfl rfl (by first | exact Stp.storeA rfl rfl rfl rfl (by decide) rfl | exact Stp.store rfl rfl (by simp) rfl rfl rfl (by decide) rfl) ?_
  refine AWL.nilE (by simp only [go_sem, Int.reduceToNat, Nat.reduceLT, reduceIte, Nat.reduceEqDiff, Nat.reduceAdd, Nat.reduceMul, Nat.reduceBEq, reduceCtorEq]; rfl) ?_
  try dsimp only [thenQ, blockQ]
  refine AW.ret ?_
  try dsimp only [thenQ, blockQ]
  refine endQ_ret (.cons (.cellG 2 218 rfl rfl rfl ag218 sz218 (by decide)) .nil) ?_
  refine ⟨fun _ => 0, rfl, nodup_of rfl, ?_⟩
  intro r hr
  cases hr
set_option maxHeartbeats 8000000 in
set_option maxRecDepth 10000 in
theorem toInsS_con (a : List DIns) (hw : Mk.wt a ≤ 1048576) : Con Try.prog 76 [.h base []] [.rt base .ro (tr a)] (Ret (.h 0 []) [(0, .row, tr a)]) := by
  refine Con.of_body Try.func76 rfl (by simp) ?_
  rw [Try.ntmps76]
  have hw2 : a.length + wtL Mk.wt a ≤ 1048576 := hw
  refine AW.seq ?_
  refine AW.region ?_
  refine AWL.q rfl rfl rfl (by decide) Qt.assign ?_
  refine AWL.nilE (by simp only [go_sem, Int.reduceToNat, Nat.reduceLT, reduceIte, Nat.reduceEqDiff, Nat.reduceAdd, Nat.reduceMul, Nat.reduceBEq, reduceCtorEq]; rfl) ?_
  try dsimp only [thenQ, blockQ]
  refine AW.seq ?_
  refine AW.region ?_
  refine AWL.q rfl rfl rfl (by decide) Qt.move ?_
  refine AWL.q rfl rfl rfl (by decide) (Qt.lenH rfl rfl rfl sl134) ?_
  refine AWL.nrm (by simp only [go_sem, Int.reduceToNat, Nat.reduceLT, reduceIte, Nat.reduceEqDiff, Nat.reduceAdd, Nat.reduceMul, Nat.reduceBEq, reduceCtorEq]; rfl) ?_
  refine AWL.step rfl rfl (Stp.makeSlice rfl (by decide) (by decide) rfl rfl (by omega) (by omega) (by omega)) ?_
  refine AWL.nrm (by simp only [go_sem, Int.reduceToNat, Nat.reduceLT, reduceIte, Nat.reduceEqDiff, Nat.reduceAdd, Nat.reduceMul, Nat.reduceBEq, reduceCtorEq]; rfl) ?_
  refine AWL.q rfl rfl rfl (by decide) Qt.assign ?_
  refine AWL.nilE (by simp only [go_sem, Int.reduceToNat, Nat.reduceLT, reduceIte, Nat.reduceEqDiff, Nat.reduceAdd, Nat.reduceMul, Nat.reduceBEq, reduceCtorEq]; rfl) ?_
  try dsimp only [thenQ, blockQ]
  refine AW.seq ?_
  refine AW.seq ?_
  refine AW.region ?_
  refine AWL.q rfl rfl rfl (by decide) Qt.assign ?_
  refine AWL.nilE (by simp only [go_sem, Int.reduceToNat, Nat.reduceLT, reduceIte, Nat.reduceEqDiff, Nat.reduceAdd, Nat.reduceMul, Nat.reduceBEq, reduceCtorEq]; rfl) ?_
  try dsimp only [thenQ, blockQ]
  refine AW.block ?_
  refine AW.weak (L' := [.sl 4 (.v (iv (0 : Nat))), .sl 3 (.h 7 []), .sl 0 (.h base []), .rt 7 .row (trMix (0 : Nat) a.length (fun j => a.getD j En.dflt) fun _ => En.dflt), .rt base .ro (tr a)]) (Weak.sim ⟨rfl, rfl, rfl, ⟨_, rfl, (trMix_start rfl (fun c hc => match c, hc with | 0, _ => T.sim_refl _ | 1, _ => T.sim_refl _ | 2, _ => T.sim_refl _ | 3, _ => T.sim_refl _ | c + 4, hc => absurd hc (by simp only [En.n]; omega)))⟩, ⟨_, rfl, T.sim_refl _⟩, trivial⟩ rfl rfl) ?_
  refine AW.loop (fun i : KInv a.length => [.sl 4 (.v (iv i.k)), .sl 3 (.h 7 []), .sl 0 (.h base []), .rt 7 .row (trMix i.k a.length (fun j => a.getD j En.dflt) fun _ => En.dflt), .rt base .ro (tr a)]) (fun i => a.length - i.k) ⟨0, Nat.zero_le _⟩ ?_
  intro i
  have hle := i.le
  refine AW.seq ?_
  refine AW.seq ?_
  refine AW.region ?_
  refine AWL.q rfl rfl rfl (by decide) Qt.move ?_
  refine AWL.nrm (by simp only [go_sem, Int.reduceToNat, Nat.reduceLT, reduceIte, Nat.reduceEqDiff, Nat.reduceAdd, Nat.reduceMul, Nat.reduceBEq, reduceCtorEq]; rfl) ?_
  refine AWL.q rfl rfl rfl (by decide) Qt.move ?_
  refine AWL.q rfl rfl rfl (by decide) (Qt.lenH rfl rfl rfl sl134) ?_
  refine AWL.q rfl rfl rfl (by decide) (Qt.binOp rfl rfl rfl) ?_
  refine AWL.nilE (by simp only [go_sem, Int.reduceToNat, Nat.reduceLT, reduceIte, Nat.reduceEqDiff, Nat.reduceAdd, Nat.reduceMul, Nat.reduceBEq, reduceCtorEq]; rfl) ?_
  try dsimp only [thenQ, blockQ]
  refine AW.cond rfl (fun c1 => ?_) (fun c1 => ?_)
  · have k1 := c1
    try simp only [decide_eq_true_eq, decide_eq_false_iff_not, bne_iff_ne, ne_eq, beq_iff_eq, beq_eq_false_iff_ne, bne_eq_false_iff_eq, Bool.not_eq_true', Bool.not_eq_false', Bool.and_eq_true, Bool.or_eq_true, Bool.and_eq_false_iff, Bool.or_eq_false_iff, Int.not_lt, Int.not_le, Int.toNat_natCast] at c1
    have hwk := wtL_get (w := Mk.wt) (d := En.dflt) (l := a) (i := i.k) (by omega)
    refine AW.skip ?_
    dsimp only [thenQ, blockQ]
    refine AW.seq ?_
    refine AW.block ?_
    refine AW.region ?_
    refine AWL.q rfl rfl rfl (by decide) Qt.move ?_
    refine AWL.nrm (by simp only [go_sem, Int.reduceToNat, Nat.reduceLT, reduceIte, Nat.reduceEqDiff, Nat.reduceAdd, Nat.reduceMul, Nat.reduceBEq, reduceCtorEq]; rfl) ?_
    refine AWL.q rfl rfl rfl (by decide) Qt.move ?_
    refine AWL.q rfl rfl rfl (by decide) Qt.move ?_
    refine AWL.q rfl rfl rfl (by decide) Qt.move ?_
    refine AWL.nrm (by simp only [go_sem, Int.reduceToNat, Nat.reduceLT, reduceIte, Nat.reduceEqDiff, Nat.reduceAdd, Nat.reduceMul, Nat.reduceBEq, reduceCtorEq]; rfl) ?_
    refine AWL.q rfl rfl rfl (by decide) (Qt.indexAddr rfl rfl rfl rfl sl134 sz220 (by decide) (by omega)) ?_
    refine AWL.q rfl rfl rfl (by decide) (Qt.loadG rfl rfl rfl ag220 sz220 (by decide)) ?_
    refine AWL.step rfl rfl (Stp.callR rfl (by decide) Try.call161 rfl rfl (toIns_con _) (nodup_of rfl) rfl rfl) ?_
    refine AWL.nrm (by simp only [go_sem, Int.reduceToNat, Nat.reduceLT, reduceIte, Nat.reduceEqDiff, Nat.reduceAdd, Nat.reduceMul, Nat.reduceBEq, reduceCtorEq]; rfl) ?_
    refine AWL.q rfl rfl rfl (by decide) (Qt.indexAddr rfl rfl rfl rfl sl138 sz218 (by decide) (by omega)) ?_
    refine AWL.step rfl rfl (by first | exact Stp.storeA rfl rfl rfl rfl (by decide) rfl | exact Stp.store rfl rfl (by simp) rfl rfl rfl (by decide) rfl) ?_
    refine AWL.nilE (by simp only [go_sem, Int.reduceToNat, Nat.reduceLT, reduceIte, Nat.reduceEqDiff, Nat.reduceAdd, Nat.reduceMul, Nat.reduceBEq, reduceCtorEq]; rfl) ?_
    try dsimp only [thenQ, blockQ]
    refine AW.region ?_
    refine AWL.q rfl rfl rfl (by decide) Qt.move ?_
    refine AWL.nrm (by simp only [go_sem, Int.reduceToNat, Nat.reduceLT, reduceIte, Nat.reduceEqDiff, Nat.reduceAdd, Nat.reduceMul, Nat.reduceBEq, reduceCtorEq]; rfl) ?_
    refine AWL.q rfl rfl rfl (by decide) (Qt.binOp rfl rfl (by first | exact pbAdd (by omega) | rfl)) ?_
    refine AWL.q rfl rfl rfl (by decide) Qt.assign ?_
    refine AWL.nilE (by simp only [go_sem, Int.reduceToNat, Nat.reduceLT, reduceIte, Nat.reduceEqDiff, Nat.reduceAdd, Nat.reduceMul, Nat.reduceBEq, reduceCtorEq]; rfl) ?_
    try dsimp only [thenQ, blockQ]
    refine ⟨⟨i.k + 1, by omega⟩, Weak.sim ⟨(by simp only [slotL, reduceIte, Nat.reduceEqDiff]; first | rfl | (rw [IntWalk.i64_in _ (by omega)]; rfl)), rfl, rfl, ⟨_, rfl, trMix_next (fun i c hi => by simp only [upd_app, hi, false_and, if_false]; rfl) (fun c hc => match c, hc with | 0, _ => (by simp only [upd_app, eq_self, and_true, and_false, Nat.reduceEqDiff, if_true, if_false]; exact T.sim_refl _) | 1, _ => (by simp only [upd_app, eq_self, and_true, and_false, Nat.reduceEqDiff, if_true, if_false]; exact T.sim_refl _) | 2, _ => (by simp only [upd_app, eq_self, and_true, and_false, Nat.reduceEqDiff, if_true, if_false]; exact T.sim_refl _) | 3, _ => (by simp only [upd_app, eq_self, and_true, and_false, Nat.reduceEqDiff, if_true, if_false]; exact T.sim_refl _) | c + 4, hc => absurd hc (by simp only [En.n]; omega))⟩, ⟨_, rfl, T.sim_refl _⟩, trivial⟩ rfl rfl, ?_⟩
    show a.length - (i.k + 1) < a.length - i.k
    omega
  · have k1 := c1
    try simp only [decide_eq_true_eq, decide_eq_false_iff_not, bne_iff_ne, ne_eq, beq_iff_eq, beq_eq_false_iff_ne, bne_eq_false_iff_eq, Bool.not_eq_true', Bool.not_eq_false', Bool.and_eq_true, Bool.or_eq_true, Bool.and_eq_false_iff, Bool.or_eq_false_iff, Int.not_lt, Int.not_le, Int.toNat_natCast] at c1
    refine AW.exit ?_
    dsimp only [thenQ, blockQ, reduceIte]
    refine AW.seq ?_
    refine AW.region ?_
    refine AWL.q rfl rfl rfl (by decide) Qt.move ?_
    refine AWL.nrm (by simp only [go_sem, Int.reduceToNat, Nat.reduceLT, reduceIte, Nat.reduceEqDiff, Nat.reduceAdd, Nat.reduceMul, Nat.reduceBEq, reduceCtorEq]; rfl) ?_
    refine AWL.q rfl rfl rfl (by decide) Qt.assign ?_
    refine AWL.nilE (by simp only [go_sem, Int.reduceToNat, Nat.reduceLT, reduceIte, Nat.reduceEqDiff, Nat.reduceAdd, Nat.reduceMul, Nat.reduceBEq, reduceCtorEq]; rfl) ?_
    try dsimp only [thenQ, blockQ]
    refine AW.weak (L' := [.rt 7 .row (tr a), .sl 2 (.h 7 [])]) (Weak.sim ⟨⟨_, rfl, trMix_full (by omega) rfl (fun _ _ => rfl)⟩, rfl, trivial⟩ rfl rfl) ?_
    refine AW.ret ?_
    try dsimp only [thenQ, blockQ]
    refine endQ_ret (.cons (.tmp 2) .nil) ?_
    refine ⟨fun _ => 7, rfl, nodup_of rfl, ?_⟩
    intro r hr
    cases List.mem_singleton.1 hr
    exact ⟨by simp, rootL_mem rfl⟩
set_option maxHeartbeats 8000000 in
set_option maxRecDepth 10000 in
theorem toInsSS_con (a : List (List DIns)) (hw : Mk.wt a ≤ 1048576) : Con Try.prog 20 [.h base []] [.rt base .ro (tr a)] (Ret (.h 0 []) [(0, .row, tr a)]) := by
  refine Con.of_body Try.func20 rfl (by simp) ?_
  rw [Try.ntmps20]
  have hw2 : a.length + wtL Mk.wt a ≤ 1048576 := hw
  refine AW.seq ?_
  refine AW.region ?_
  refine AWL.q rfl rfl rfl (by decide) Qt.assign ?_
  refine AWL.nilE (by simp only [go_sem, Int.reduceToNat, Nat.reduceLT, reduceIte, Nat.reduceEqDiff, Nat.reduceAdd, Nat.reduceMul, Nat.reduceBEq, reduceCtorEq]; rfl) ?_
  try dsimp only [thenQ, blockQ]
  refine AW.seq ?_
  refine AW.region ?_
  refine AWL.q rfl rfl rfl (by decide) Qt.move ?_
  refine AWL.q rfl rfl rfl (by decide) (Qt.lenH rfl rfl rfl sl22) ?_
  refine AWL.nrm (by simp only [go_sem, Int.reduceToNat, Nat.reduceLT, reduceIte, Nat.reduceEqDiff, Nat.reduceAdd, Nat.reduceMul, Nat.reduceBEq, reduceCtorEq]; rfl) ?_
  refine AWL.step rfl rfl (Stp.makeSlice rfl (by decide) (by decide) rfl rfl (by omega) (by omega) (by omega)) ?_
  refine AWL.nrm (by simp only [go_sem, Int.reduceToNat, Nat.reduceLT, reduceIte, Nat.reduceEqDiff, Nat.reduceAdd, Nat.reduceMul, Nat.reduceBEq, reduceCtorEq]; rfl) ?_
  refine AWL.q rfl rfl rfl (by decide) Qt.assign ?_
  refine AWL.nilE (by simp only [go_sem, Int.reduceToNat, Nat.reduceLT, reduceIte, Nat.reduceEqDiff, Nat.reduceAdd, Nat.reduceMul, Nat.reduceBEq, reduceCtorEq]; rfl) ?_
  try dsimp only [thenQ, blockQ]
  refine AW.seq ?_
  refine AW.seq ?_
  refine AW.region ?_
  refine AWL.q rfl rfl rfl (by decide) Qt.assign ?_
  refine AWL.nilE (by simp only [go_sem, Int.reduceToNat, Nat.reduceLT, reduceIte, Nat.reduceEqDiff, Nat.reduceAdd, Nat.reduceMul, Nat.reduceBEq, reduceCtorEq]; rfl) ?_
  try dsimp only [thenQ, blockQ]
  refine AW.block ?_
  refine AW.weak (L' := [.sl 4 (.v (iv (0 : Nat))), .sl 3 (.h 7 []), .sl 0 (.h base []), .rt 7 .row (trMix (0 : Nat) a.length (fun j => a.getD j En.dflt) fun _ => En.dflt), .rt base .ro (tr a)]) (Weak.sim ⟨rfl, rfl, rfl, ⟨_, rfl, (trMix_start rfl (fun c hc => match c, hc with | 0, _ => sim_nil | c + 1, hc => absurd hc (by simp only [En.n]; omega)))⟩, ⟨_, rfl, T.sim_refl _⟩, trivial⟩ rfl rfl) ?_
  refine AW.loop (fun i : KInv a.length => [.sl 4 (.v (iv i.k)), .sl 3 (.h 7 []), .sl 0 (.h base []), .rt 7 .row (trMix i.k a.length (fun j => a.getD j En.dflt) fun _ => En.dflt), .rt base .ro (tr a)]) (fun i => a.length - i.k) ⟨0, Nat.zero_le _⟩ ?_
  intro i
  have hle := i.le
  refine AW.seq ?_
  refine AW.seq ?_
  refine AW.region ?_
  refine AWL.q rfl rfl rfl (by decide) Qt.move ?_
  refine AWL.nrm (by simp only [go_sem, Int.reduceToNat, Nat.reduceLT, reduceIte, Nat.reduceEqDiff, Nat.reduceAdd, Nat.reduceMul, Nat.reduceBEq, reduceCtorEq]; rfl) ?_
  refine AWL.q rfl rfl rfl (by decide) Qt.move ?_
  refine AWL.q rfl rfl rfl (by decide) (Qt.lenH rfl rfl rfl sl22) ?_
  refine AWL.q rfl rfl rfl (by decide) (Qt.binOp rfl rfl rfl) ?_
  refine AWL.nilE (by simp only [go_sem, Int.reduceToNat, Nat.reduceLT, reduceIte, Nat.reduceEqDiff, Nat.reduceAdd, Nat.reduceMul, Nat.reduceBEq, reduceCtorEq]; rfl) ?_
  try dsimp only [thenQ, blockQ]
  refine AW.cond rfl (fun c1 => ?_) (fun c1 => ?_)
  · have k1 := c1
    try simp only [decide_eq_true_eq, decide_eq_false_iff_not, bne_iff_ne, ne_eq, beq_iff_eq, beq_eq_false_iff_ne, bne_eq_false_iff_eq, Bool.not_eq_true', Bool.not_eq_false', Bool.and_eq_true, Bool.or_eq_true, Bool.and_eq_false_iff, Bool.or_eq_false_iff, Int.not_lt, Int.not_le, Int.toNat_natCast] at c1
    have hwk := wtL_get (w := Mk.wt) (d := En.dflt) (l := a) (i := i.k) (by omega)
    refine AW.skip ?_
    dsimp only [thenQ, blockQ]
    refine AW.seq ?_
    refine AW.block ?_
    refine AW.region ?_
    refine AWL.q rfl rfl rfl (by decide) Qt.move ?_
    refine AWL.nrm (by simp only [go_sem, Int.reduceToNat, Nat.reduceLT, reduceIte, Nat.reduceEqDiff, Nat.reduceAdd, Nat.reduceMul, Nat.reduceBEq, reduceCtorEq]; rfl) ?_
    refine AWL.q rfl rfl rfl (by decide) Qt.move ?_
    refine AWL.q rfl rfl rfl (by decide) Qt.move ?_
    refine AWL.q rfl rfl rfl (by decide) Qt.move ?_
    refine AWL.nrm (by simp only [go_sem, Int.reduceToNat, Nat.reduceLT, reduceIte, Nat.reduceEqDiff, Nat.reduceAdd, Nat.reduceMul, Nat.reduceBEq, reduceCtorEq]; rfl) ?_
    refine AWL.q rfl rfl rfl (by decide) (Qt.indexAddr rfl rfl rfl rfl sl22 sz134 (by decide) (by omega)) ?_
    refine AWL.q rfl rfl rfl (by decide) (Qt.load1 rfl rfl rfl ag134) ?_
    refine AWL.step rfl rfl (Stp.callR rfl (by decide) Try.call76 rfl rfl (toInsS_con _ (by first | omega | (simp only [Int.toNat_natCast]; omega) | (simp only [Mk.wt] at *; omega))) (nodup_of rfl) rfl rfl) ?_
    refine AWL.nrm (by simp only [go_sem, Int.reduceToNat, Nat.reduceLT, reduceIte, Nat.reduceEqDiff, Nat.reduceAdd, Nat.reduceMul, Nat.reduceBEq, reduceCtorEq]; rfl) ?_
    refine AWL.q rfl rfl rfl (by decide) (Qt.indexAddr rfl rfl rfl rfl sl35 sz138 (by decide) (by omega)) ?_
    refine AWL.step rfl rfl (by first | exact Stp.storeA rfl rfl rfl rfl (by decide) rfl | exact Stp.store rfl rfl (by simp) rfl rfl rfl (by decide) rfl) ?_
    refine AWL.nilE (by simp only [go_sem, Int.reduceToNat, Nat.reduceLT, reduceIte, Nat.reduceEqDiff, Nat.reduceAdd, Nat.reduceMul, Nat.reduceBEq, reduceCtorEq]; rfl) ?_
    try dsimp only [thenQ, blockQ]
    refine AW.region ?_
    refine AWL.q rfl rfl rfl (by decide) Qt.move ?_
    refine AWL.nrm (by simp only [go_sem, Int.reduceToNat, Nat.reduceLT, reduceIte, Nat.reduceEqDiff, Nat.reduceAdd, Nat.reduceMul, Nat.reduceBEq, reduceCtorEq]; rfl) ?_
    refine AWL.q rfl rfl rfl (by decide) (Qt.binOp rfl rfl (by first | exact pbAdd (by omega) | rfl)) ?_
    refine AWL.q rfl rfl rfl (by decide) Qt.assign ?_
    refine AWL.nilE (by simp only [go_sem, Int.reduceToNat, Nat.reduceLT, reduceIte, Nat.reduceEqDiff, Nat.reduceAdd, Nat.reduceMul, Nat.reduceBEq, reduceCtorEq]; rfl) ?_
    try dsimp only [thenQ, blockQ]
    refine ⟨⟨i.k + 1, by omega⟩, Weak.sim ⟨(by simp only [slotL, reduceIte, Nat.reduceEqDiff]; first | rfl | (rw [IntWalk.i64_in _ (by omega)]; rfl)), rfl, rfl, ⟨_, rfl, trMix_next (fun i c hi => by simp only [upd_app, hi, false_and, if_false]; rfl) (fun c hc => match c, hc with | 0, _ => (by simp only [upd_app, eq_self, and_true, and_false, Nat.reduceEqDiff, if_true, if_false]; exact T.sim_refl _) | c + 1, hc => absurd hc (by simp only [En.n]; omega))⟩, ⟨_, rfl, T.sim_refl _⟩, trivial⟩ rfl rfl, ?_⟩
    show a.length - (i.k + 1) < a.length - i.k
    omega
  · have k1 := c1
    try simp only [decide_eq_true_eq, decide_eq_false_iff_not, bne_iff_ne, ne_eq, beq_iff_eq, beq_eq_false_iff_ne, bne_eq_false_iff_eq, Bool.not_eq_true', Bool.not_eq_false', Bool.and_eq_true, Bool.or_eq_true, Bool.and_eq_false_iff, Bool.or_eq_false_iff, Int.not_lt, Int.not_le, Int.toNat_natCast] at c1
    refine AW.exit ?_
    dsimp only [thenQ, blockQ, reduceIte]
    refine AW.seq ?_
    refine AW.region ?_
    refine AWL.q rfl rfl rfl (by decide) Qt.move ?_
    refine AWL.nrm (by simp only [go_sem, Int.reduceToNat, Nat.reduceLT, reduceIte, Nat.reduceEqDiff, Nat.reduceAdd, Nat.reduceMul, Nat.reduceBEq, reduceCtorEq]; rfl) ?_
    refine AWL.q rfl rfl rfl (by decide) Qt.assign ?_
    refine AWL.nilE (by simp only [go_sem, Int.reduceToNat, Nat.reduceLT, reduceIte, Nat.reduceEqDiff, Nat.reduceAdd, Nat.reduceMul, Nat.reduceBEq, reduceCtorEq]; rfl) ?_
    try dsimp only [thenQ, blockQ]
    refine AW.weak (L' := [.rt 7 .row (tr a), .sl 2 (.h 7 [])]) (Weak.sim ⟨⟨_, rfl, trMix_full (by omega) rfl (fun _ _ => rfl)⟩, rfl, trivial⟩ rfl rfl) ?_
    refine AW.ret ?_
    try dsimp only [thenQ, blockQ]
    refine endQ_ret (.cons (.tmp 2) .nil) ?_
    refine ⟨fun _ => 7, rfl, nodup_of rfl, ?_⟩
    intro r hr
    cases List.mem_singleton.1 hr
    exact ⟨by simp, rootL_mem rfl⟩
set_option maxHeartbeats 8000000 in
set_option maxRecDepth 10000 in
theorem toIntS_con (a : List Int) (hw : Mk.wt a ≤ 1048576) : Con Try.prog 43 [.h base []] [.rt base .ro (tr a)] (Ret (.h 0 []) [(0, .row, tr a)]) := by
  refine Con.of_body Try.func43 rfl (by simp) ?_
  rw [Try.ntmps43]
  have hw2 : a.length + wtL Mk.wt a ≤ 1048576 := hw
  refine AW.seq ?_
  refine AW.region ?_
  refine AWL.q rfl rfl rfl (by decide) Qt.assign ?_
  refine AWL.nilE (by simp only [go_sem, Int.reduceToNat, Nat.reduceLT, reduceIte, Nat.reduceEqDiff, Nat.reduceAdd, Nat.reduceMul, Nat.reduceBEq, reduceCtorEq]; rfl) ?_
  try dsimp only [thenQ, blockQ]
  refine AW.seq ?_
  refine AW.region ?_
  refine AWL.q rfl rfl rfl (by decide) Qt.move ?_
  refine AWL.q rfl rfl rfl (by decide) (Qt.lenH rfl rfl rfl sl24) ?_
  refine AWL.nrm (by simp only [go_sem, Int.reduceToNat, Nat.reduceLT, reduceIte, Nat.reduceEqDiff, Nat.reduceAdd, Nat.reduceMul, Nat.reduceBEq, reduceCtorEq]; rfl) ?_
  refine AWL.step rfl rfl (Stp.makeSlice rfl (by decide) (by decide) rfl rfl (by omega) (by omega) (by omega)) ?_
  refine AWL.nrm (by simp only [go_sem, Int.reduceToNat, Nat.reduceLT, reduceIte, Nat.reduceEqDiff, Nat.reduceAdd, Nat.reduceMul, Nat.reduceBEq, reduceCtorEq]; rfl) ?_
  refine AWL.q rfl rfl rfl (by decide) Qt.assign ?_
  refine AWL.nilE (by simp only [go_sem, Int.reduceToNat, Nat.reduceLT, reduceIte, Nat.reduceEqDiff, Nat.reduceAdd, Nat.reduceMul, Nat.reduceBEq, reduceCtorEq]; rfl) ?_
  try dsimp only [thenQ, blockQ]
  refine AW.seq ?_
  refine AW.seq ?_
  refine AW.region ?_
  refine AWL.q rfl rfl rfl (by decide) Qt.assign ?_
  refine AWL.nilE (by simp only [go_sem, Int.reduceToNat, Nat.reduceLT, reduceIte, Nat.reduceEqDiff, Nat.reduceAdd, Nat.reduceMul, Nat.reduceBEq, reduceCtorEq]; rfl) ?_
  try dsimp only [thenQ, blockQ]
  refine AW.block ?_
  refine AW.weak (L' := [.sl 4 (.v (iv (0 : Nat))), .sl 3 (.h 7 []), .sl 0 (.h base []), .rt 7 .row (trMix (0 : Nat) a.length (fun j => a.getD j En.dflt) fun _ => En.dflt), .rt base .ro (tr a)]) (Weak.sim ⟨rfl, rfl, rfl, ⟨_, rfl, (trMix_start rfl (fun c hc => match c, hc with | 0, _ => T.sim_refl _ | c + 1, hc => absurd hc (by simp only [En.n]; omega)))⟩, ⟨_, rfl, T.sim_refl _⟩, trivial⟩ rfl rfl) ?_
  refine AW.loop (fun i : KInv a.length => [.sl 4 (.v (iv i.k)), .sl 3 (.h 7 []), .sl 0 (.h base []), .rt 7 .row (trMix i.k a.length (fun j => a.getD j En.dflt) fun _ => En.dflt), .rt base .ro (tr a)]) (fun i => a.length - i.k) ⟨0, Nat.zero_le _⟩ ?_
  intro i
  have hle := i.le
  refine AW.seq ?_
  refine AW.seq ?_
  refine AW.region ?_
  refine AWL.q rfl rfl rfl (by decide) Qt.move ?_
  refine AWL.nrm (by simp only [go_sem, Int.reduceToNat, Nat.reduceLT, reduceIte, Nat.reduceEqDiff, Nat.reduceAdd, Nat.reduceMul, Nat.reduceBEq, reduceCtorEq]; rfl) ?_
  refine AWL.q rfl rfl rfl (by decide) Qt.move ?_
  refine AWL.q rfl rfl rfl (by decide) (Qt.lenH rfl rfl rfl sl24) ?_
  refine AWL.q rfl rfl rfl (by decide) (Qt.binOp rfl rfl rfl) ?_
  refine AWL.nilE (by simp only [go_sem, Int.reduceToNat, Nat.reduceLT, reduceIte, Nat.reduceEqDiff, Nat.reduceAdd, Nat.reduceMul, Nat.reduceBEq, reduceCtorEq]; rfl) ?_
  try dsimp only [thenQ, blockQ]
  refine AW.cond rfl (fun c1 => ?_) (fun c1 => ?_)
  · have k1 := c1
    try simp only [decide_eq_true_eq, decide_eq_false_iff_not, bne_iff_ne, ne_eq, beq_iff_eq, beq_eq_false_iff_ne, bne_eq_false_iff_eq, Bool.not_eq_true', Bool.not_eq_false', Bool.and_eq_true, Bool.or_eq_true, Bool.and_eq_false_iff, Bool.or_eq_false_iff, Int.not_lt, Int.not_le, Int.toNat_natCast] at c1
    have hwk := wtL_get (w := Mk.wt) (d := En.dflt) (l := a) (i := i.k) (by omega)
    refine AW.skip ?_
    dsimp only [thenQ, blockQ]
    refine AW.seq ?_
    refine AW.block ?_
    refine AW.region ?_
    refine AWL.q rfl rfl rfl (by decide) Qt.move ?_
    refine AWL.nrm (by simp only [go_sem, Int.reduceToNat, Nat.reduceLT, reduceIte, Nat.reduceEqDiff, Nat.reduceAdd, Nat.reduceMul, Nat.reduceBEq, reduceCtorEq]; rfl) ?_
    refine AWL.q rfl rfl rfl (by decide) Qt.move ?_
    refine AWL.q rfl rfl rfl (by decide) Qt.move ?_
    refine AWL.q rfl rfl rfl (by decide) Qt.move ?_
    refine AWL.nrm (by simp only [go_sem, Int.reduceToNat, Nat.reduceLT, reduceIte, Nat.reduceEqDiff, Nat.reduceAdd, Nat.reduceMul, Nat.reduceBEq, reduceCtorEq]; rfl) ?_
    refine AWL.q rfl rfl rfl (by decide) (Qt.indexAddr rfl rfl rfl rfl sl24 sz3 (by decide) (by omega)) ?_
    refine AWL.q rfl rfl rfl (by decide) (Qt.load1 rfl rfl rfl ag3) ?_
    refine AWL.q rfl rfl rfl (by decide) (Qt.indexAddr rfl rfl rfl rfl sl24 sz3 (by decide) (by omega)) ?_
    refine AWL.nrm (by simp only [go_sem, Int.reduceToNat, Nat.reduceLT, reduceIte, Nat.reduceEqDiff, Nat.reduceAdd, Nat.reduceMul, Nat.reduceBEq, reduceCtorEq]; rfl) ?_
    refine AWL.step rfl rfl (by first | exact Stp.storeA rfl rfl rfl rfl (by decide) rfl | exact Stp.store rfl rfl (by simp) rfl rfl rfl (by decide) rfl) ?_
    refine AWL.nilE (by simp only [go_sem, Int.reduceToNat, Nat.reduceLT, reduceIte, Nat.reduceEqDiff, Nat.reduceAdd, Nat.reduceMul, Nat.reduceBEq, reduceCtorEq]; rfl) ?_
    try dsimp only [thenQ, blockQ]
    refine AW.region ?_
    refine AWL.q rfl rfl rfl (by decide) Qt.move ?_
    refine AWL.nrm (by simp only [go_sem, Int.reduceToNat, Nat.reduceLT, reduceIte, Nat.reduceEqDiff, Nat.reduceAdd, Nat.reduceMul, Nat.reduceBEq, reduceCtorEq]; rfl) ?_
    refine AWL.q rfl rfl rfl (by decide) (Qt.binOp rfl rfl (by first | exact pbAdd (by omega) | rfl)) ?_
    refine AWL.q rfl rfl rfl (by decide) Qt.assign ?_
    refine AWL.nilE (by simp only [go_sem, Int.reduceToNat, Nat.reduceLT, reduceIte, Nat.reduceEqDiff, Nat.reduceAdd, Nat.reduceMul, Nat.reduceBEq, reduceCtorEq]; rfl) ?_
    try dsimp only [thenQ, blockQ]
    refine ⟨⟨i.k + 1, by omega⟩, Weak.sim ⟨(by simp only [slotL, reduceIte, Nat.reduceEqDiff]; first | rfl | (rw [IntWalk.i64_in _ (by omega)]; rfl)), rfl, rfl, ⟨_, rfl, trMix_next (fun i c hi => by simp only [upd_app, hi, false_and, if_false]; rfl) (fun c hc => match c, hc with | 0, _ => (by simp only [upd_app, eq_self, and_true, and_false, Nat.reduceEqDiff, if_true, if_false]; exact T.sim_refl _) | c + 1, hc => absurd hc (by simp only [En.n]; omega))⟩, ⟨_, rfl, T.sim_refl _⟩, trivial⟩ rfl rfl, ?_⟩
    show a.length - (i.k + 1) < a.length - i.k
    omega
  · have k1 := c1
    try simp only [decide_eq_true_eq, decide_eq_false_iff_not, bne_iff_ne, ne_eq, beq_iff_eq, beq_eq_false_iff_ne, bne_eq_false_iff_eq, Bool.not_eq_true', Bool.not_eq_false', Bool.and_eq_true, Bool.or_eq_true, Bool.and_eq_false_iff, Bool.or_eq_false_iff, Int.not_lt, Int.not_le, Int.toNat_natCast] at c1
    refine AW.exit ?_
    dsimp only [thenQ, blockQ, reduceIte]
    refine AW.seq ?_
    refine AW.region ?_
    refine AWL.q rfl rfl rfl (by decide) Qt.move ?_
    refine AWL.nrm (by simp only [go_sem, Int.reduceToNat, Nat.reduceLT, reduceIte, Nat.reduceEqDiff, Nat.reduceAdd, Nat.reduceMul, Nat.reduceBEq, reduceCtorEq]; rfl) ?_
    refine AWL.q rfl rfl rfl (by decide) Qt.assign ?_
    refine AWL.nilE (by simp only [go_sem, Int.reduceToNat, Nat.reduceLT, reduceIte, Nat.reduceEqDiff, Nat.reduceAdd, Nat.reduceMul, Nat.reduceBEq, reduceCtorEq]; rfl) ?_
    try dsimp only [thenQ, blockQ]
    refine AW.weak (L' := [.rt 7 .row (tr a), .sl 2 (.h 7 [])]) (Weak.sim ⟨⟨_, rfl, trMix_full (by omega) rfl (fun _ _ => rfl)⟩, rfl, trivial⟩ rfl rfl) ?_
    refine AW.ret ?_
    try dsimp only [thenQ, blockQ]
    refine endQ_ret (.cons (.tmp 2) .nil) ?_
    refine ⟨fun _ => 7, rfl, nodup_of rfl, ?_⟩
    intro r hr
    cases List.mem_singleton.1 hr
    exact ⟨by simp, rootL_mem rfl⟩
set_option maxHeartbeats 8000000 in
set_option maxRecDepth 10000 in
theorem toIntSS_con (a : List (List Int)) (hw : Mk.wt a ≤ 1048576) : Con Try.prog 102 [.h base []] [.rt base .ro (tr a)] (Ret (.h 0 []) [(0, .row, tr a)]) := by
  refine Con.of_body Try.func102 rfl (by simp) ?_
  rw [Try.ntmps102]
  have hw2 : a.length + wtL Mk.wt a ≤ 1048576 := hw
  refine AW.seq ?_
  refine AW.region ?_
  refine AWL.q rfl rfl rfl (by decide) Qt.assign ?_
  refine AWL.nilE (by simp only [go_sem, Int.reduceToNat, Nat.reduceLT, reduceIte, Nat.reduceEqDiff, Nat.reduceAdd, Nat.reduceMul, Nat.reduceBEq, reduceCtorEq]; rfl) ?_
  try dsimp only [thenQ, blockQ]
  refine AW.seq ?_
  refine AW.region ?_
  refine AWL.q rfl rfl rfl (by decide) Qt.move ?_
  refine AWL.q rfl rfl rfl (by decide) (Qt.lenH rfl rfl rfl sl25) ?_
  refine AWL.nrm (by simp only [go_sem, Int.reduceToNat, Nat.reduceLT, reduceIte, Nat.reduceEqDiff, Nat.reduceAdd, Nat.reduceMul, Nat.reduceBEq, reduceCtorEq]; rfl) ?_
  refine AWL.step rfl rfl (Stp.makeSlice rfl (by decide) (by decide) rfl rfl (by omega) (by omega) (by omega)) ?_
  refine AWL.nrm (by simp only [go_sem, Int.reduceToNat, Nat.reduceLT, reduceIte, Nat.reduceEqDiff, Nat.reduceAdd, Nat.reduceMul, Nat.reduceBEq, reduceCtorEq]; rfl) ?_
  refine AWL.q rfl rfl rfl (by decide) Qt.assign ?_
  refine AWL.nilE (by simp only [go_sem, Int.reduceToNat, Nat.reduceLT, reduceIte, Nat.reduceEqDiff, Nat.reduceAdd, Nat.reduceMul, Nat.reduceBEq, reduceCtorEq]; rfl) ?_
  try dsimp only [thenQ, blockQ]
  refine AW.seq ?_
  refine AW.seq ?_
  refine AW.region ?_
  refine AWL.q rfl rfl rfl (by decide) Qt.assign ?_
  refine AWL.nilE (by simp only [go_sem, Int.reduceToNat, Nat.reduceLT, reduceIte, Nat.reduceEqDiff, Nat.reduceAdd, Nat.reduceMul, Nat.reduceBEq, reduceCtorEq]; rfl) ?_
  try dsimp only [thenQ, blockQ]
  refine AW.block ?_
  refine AW.weak (L' := [.sl 4 (.v (iv (0 : Nat))), .sl 3 (.h 7 []), .sl 0 (.h base []), .rt 7 .row (trMix (0 : Nat) a.length (fun j => a.getD j En.dflt) fun _ => En.dflt), .rt base .ro (tr a)]) (Weak.sim ⟨rfl, rfl, rfl, ⟨_, rfl, (trMix_start rfl (fun c hc => match c, hc with | 0, _ => sim_nil | c + 1, hc => absurd hc (by simp only [En.n]; omega)))⟩, ⟨_, rfl, T.sim_refl _⟩, trivial⟩ rfl rfl) ?_
  refine AW.loop (fun i : KInv a.length => [.sl 4 (.v (iv i.k)), .sl 3 (.h 7 []), .sl 0 (.h base []), .rt 7 .row (trMix i.k a.length (fun j => a.getD j En.dflt) fun _ => En.dflt), .rt base .ro (tr a)]) (fun i => a.length - i.k) ⟨0, Nat.zero_le _⟩ ?_
  intro i
  have hle := i.le
  refine AW.seq ?_
  refine AW.seq ?_
  refine AW.region ?_
  refine AWL.q rfl rfl rfl (by decide) Qt.move ?_
  refine AWL.nrm (by simp only [go_sem, Int.reduceToNat, Nat.reduceLT, reduceIte, Nat.reduceEqDiff, Nat.reduceAdd, Nat.reduceMul, Nat.reduceBEq, reduceCtorEq]; rfl) ?_
  refine AWL.q rfl rfl rfl (by decide) Qt.move ?_
  refine AWL.q rfl rfl rfl (by decide) (Qt.lenH rfl rfl rfl sl25) ?_
  refine AWL.q rfl rfl rfl (by decide) (Qt.binOp rfl rfl rfl) ?_
  refine AWL.nilE (by simp only [go_sem, Int.reduceToNat, Nat.reduceLT, reduceIte, Nat.reduceEqDiff, Nat.reduceAdd, Nat.reduceMul, Nat.reduceBEq, reduceCtorEq]; rfl) ?_
  try dsimp only [thenQ, blockQ]
  refine AW.cond rfl (fun c1 => ?_) (fun c1 => ?_)
  · have k1 := c1
    try simp only [decide_eq_true_eq, decide_eq_false_iff_not, bne_iff_ne, ne_eq, beq_iff_eq, beq_eq_false_iff_ne, bne_eq_false_iff_eq, Bool.not_eq_true', Bool.not_eq_false', Bool.and_eq_true, Bool.or_eq_true, Bool.and_eq_false_iff, Bool.or_eq_false_iff, Int.not_lt, Int.not_le, Int.toNat_natCast] at c1
    have hwk := wtL_get (w := Mk.wt) (d := En.dflt) (l := a) (i := i.k) (by omega)
    refine AW.skip ?_
    dsimp only [thenQ, blockQ]
    refine AW.seq ?_
    refine AW.block ?_
    refine AW.region ?_
    refine AWL.q rfl rfl rfl (by decide) Qt.move ?_
    refine AWL.nrm (by simp only [go_sem, Int.reduceToNat, Nat.reduceLT, reduceIte, Nat.reduceEqDiff, Nat.reduceAdd, Nat.reduceMul, Nat.reduceBEq, reduceCtorEq]; rfl) ?_
    refine AWL.q rfl rfl rfl (by decide) Qt.move ?_
    refine AWL.q rfl rfl rfl (by decide) Qt.move ?_
    refine AWL.q rfl rfl rfl (by decide) Qt.move ?_
    refine AWL.nrm (by simp only [go_sem, Int.reduceToNat, Nat.reduceLT, reduceIte, Nat.reduceEqDiff, Nat.reduceAdd, Nat.reduceMul, Nat.reduceBEq, reduceCtorEq]; rfl) ?_
    refine AWL.q rfl rfl rfl (by decide) (Qt.indexAddr rfl rfl rfl rfl sl25 sz24 (by decide) (by omega)) ?_
    refine AWL.q rfl rfl rfl (by decide) (Qt.load1 rfl rfl rfl ag24) ?_
    refine AWL.step rfl rfl (Stp.callR rfl (by decide) Try.call43 rfl rfl (toIntS_con _ (by first | omega | (simp only [Int.toNat_natCast]; omega) | (simp only [Mk.wt] at *; omega))) (nodup_of rfl) rfl rfl) ?_
    refine AWL.nrm (by simp only [go_sem, Int.reduceToNat, Nat.reduceLT, reduceIte, Nat.reduceEqDiff, Nat.reduceAdd, Nat.reduceMul, Nat.reduceBEq, reduceCtorEq]; rfl) ?_
    refine AWL.q rfl rfl rfl (by decide) (Qt.indexAddr rfl rfl rfl rfl sl25 sz24 (by decide) (by omega)) ?_
    refine AWL.step rfl rfl (by first | exact Stp.storeA rfl rfl rfl rfl (by decide) rfl | exact Stp.store rfl rfl (by simp) rfl rfl rfl (by decide) rfl) ?_
    refine AWL.nilE (by simp only [go_sem, Int.reduceToNat, Nat.reduceLT, reduceIte, Nat.reduceEqDiff, Nat.reduceAdd, Nat.reduceMul, Nat.reduceBEq, reduceCtorEq]; rfl) ?_
    try dsimp only [thenQ, blockQ]
    refine AW.region ?_
    refine AWL.q rfl rfl rfl (by decide) Qt.move ?_
    refine AWL.nrm (by simp only [go_sem, Int.reduceToNat, Nat.reduceLT, reduceIte, Nat.reduceEqDiff, Nat.reduceAdd, Nat.reduceMul, Nat.reduceBEq, reduceCtorEq]; rfl) ?_
    refine AWL.q rfl rfl rfl (by decide) (Qt.binOp rfl rfl (by first | exact pbAdd (by omega) | rfl)) ?_
    refine AWL.q rfl rfl rfl (by decide) Qt.assign ?_
    refine AWL.nilE (by simp only [go_sem, Int.reduceToNat, Nat.reduceLT, reduceIte, Nat.reduceEqDiff, Nat.reduceAdd, Nat.reduceMul, Nat.reduceBEq, reduceCtorEq]; rfl) ?_
    try dsimp only [thenQ, blockQ]
    refine ⟨⟨i.k + 1, by omega⟩, Weak.sim ⟨(by simp only [slotL, reduceIte, Nat.reduceEqDiff]; first | rfl | (rw [IntWalk.i64_in _ (by omega)]; rfl)), rfl, rfl, ⟨_, rfl, trMix_next (fun i c hi => by simp only [upd_app, hi, false_and, if_false]; rfl) (fun c hc => match c, hc with | 0, _ => (by simp only [upd_app, eq_self, and_true, and_false, Nat.reduceEqDiff, if_true, if_false]; exact T.sim_refl _) | c + 1, hc => absurd hc (by simp only [En.n]; omega))⟩, ⟨_, rfl, T.sim_refl _⟩, trivial⟩ rfl rfl, ?_⟩
    show a.length - (i.k + 1) < a.length - i.k
    omega
  · have k1 := c1
    try simp only [decide_eq_true_eq, decide_eq_false_iff_not, bne_iff_ne, ne_eq, beq_iff_eq, beq_eq_false_iff_ne, bne_eq_false_iff_eq, Bool.not_eq_true', Bool.not_eq_false', Bool.and_eq_true, Bool.or_eq_true, Bool.and_eq_false_iff, Bool.or_eq_false_iff, Int.not_lt, Int.not_le, Int.toNat_natCast] at c1
    refine AW.exit ?_
    dsimp only [thenQ, blockQ, reduceIte]
    refine AW.seq ?_
    refine AW.region ?_
    refine AWL.q rfl rfl rfl (by decide) Qt.move ?_
    refine AWL.nrm (by simp only [go_sem, Int.reduceToNat, Nat.reduceLT, reduceIte, Nat.reduceEqDiff, Nat.reduceAdd, Nat.reduceMul, Nat.reduceBEq, reduceCtorEq]; rfl) ?_
    refine AWL.q rfl rfl rfl (by decide) Qt.assign ?_
    refine AWL.nilE (by simp only [go_sem, Int.reduceToNat, Nat.reduceLT, reduceIte, Nat.reduceEqDiff, Nat.reduceAdd, Nat.reduceMul, Nat.reduceBEq, reduceCtorEq]; rfl) ?_
    try dsimp only [thenQ, blockQ]
    refine AW.weak (L' := [.rt 7 .row (tr a), .sl 2 (.h 7 [])]) (Weak.sim ⟨⟨_, rfl, trMix_full (by omega) rfl (fun _ _ => rfl)⟩, rfl, trivial⟩ rfl rfl) ?_
    refine AW.ret ?_
    try dsimp only [thenQ, blockQ]
    refine endQ_ret (.cons (.tmp 2) .nil) ?_
    refine ⟨fun _ => 7, rfl, nodup_of rfl, ?_⟩
    intro r hr
    cases List.mem_singleton.1 hr
    exact ⟨by simp, rootL_mem rfl⟩
set_option maxHeartbeats 8000000 in
set_option maxRecDepth 10000 in
theorem toBuddy_con (a : DBuddy) (hw : Mk.wt a ≤ 1048576) : Con Try.prog 29 [.g [.h base []]] [.rt base .ro (tr a.Free)] (Ret (.g [.h 0 []]) [(0, .row, tr a.Free)]) := by
  refine Con.of_body Try.func29 rfl (by simp) ?_
  rw [Try.ntmps29]
  refine AW.seq ?_
  refine AW.region ?_
  refine AWL.step rfl rfl (Stp.boxB rfl (by decide) (by decide) rfl rfl rfl rfl) ?_
  refine AWL.nrm (by simp only [go_sem, Int.reduceToNat, Nat.reduceLT, reduceIte, Nat.reduceEqDiff, Nat.reduceAdd, Nat.reduceMul, Nat.reduceBEq, reduceCtorEq]; rfl) ?_
  refine AWL.step rfl rfl (Stp.alloc rfl (by decide) (by decide)) ?_
  refine AWL.nilE (by simp only [go_sem, Int.reduceToNat, Nat.reduceLT, reduceIte, Nat.reduceEqDiff, Nat.reduceAdd, Nat.reduceMul, Nat.reduceBEq, reduceCtorEq]; rfl) ?_
  try dsimp only [thenQ, blockQ]
  refine AW.seq ?_
  refine AW.region ?_
  refine AWL.step rfl rfl (Stp.alloc rfl (by decide) (by decide)) ?_
  refine AWL.nilE (by simp only [go_sem, Int.reduceToNat, Nat.reduceLT, reduceIte, Nat.reduceEqDiff, Nat.reduceAdd, Nat.reduceMul, Nat.reduceBEq, reduceCtorEq]; rfl) ?_
  try dsimp only [thenQ, blockQ]
  refine AW.seq ?_
  refine AW.region ?_
  refine AWL.q rfl rfl rfl (by decide) (Qt.fieldAddr rfl fl27_0 rfl rfl (by decide)) ?_
  refine AWL.nrm (by simp only [go_sem, Int.reduceToNat, Nat.reduceLT, reduceIte, Nat.reduceEqDiff, Nat.reduceAdd, Nat.reduceMul, Nat.reduceBEq, reduceCtorEq]; rfl) ?_
  refine AWL.q rfl rfl rfl (by decide) (Qt.load1 rfl rfl rfl ag25) ?_
  refine AWL.step rfl rfl (Stp.callR rfl (by decide) Try.call102 rfl rfl (toIntSS_con _ (by first | omega | (simp only [Int.toNat_natCast]; omega) | (simp only [Mk.wt] at *; omega))) (nodup_of rfl) rfl rfl) ?_
  refine AWL.nrm (by simp only [go_sem, Int.reduceToNat, Nat.reduceLT, reduceIte, Nat.reduceEqDiff, Nat.reduceAdd, Nat.reduceMul, Nat.reduceBEq, reduceCtorEq]; rfl) ?_
  refine AWL.q rfl rfl rfl (by decide) (Qt.fieldAddr rfl fl37_0 rfl rfl (by decide)) ?_
  refine AWL.step rfl rfl (by first | exact Stp.storeA rfl rfl rfl rfl (by decide) rfl | exact Stp.store rfl rfl (by simp) rfl rfl rfl (by decide) rfl) ?_
  refine AWL.nilE (by simp only [go_sem, Int.reduceToNat, Nat.reduceLT, reduceIte, Nat.reduceEqDiff, Nat.reduceAdd, Nat.reduceMul, Nat.reduceBEq, reduceCtorEq]; rfl) ?_
  try dsimp only [thenQ, blockQ]
  refine AW.seq ?_
  refine AW.region ?_
  refine AWL.q rfl rfl rfl (by decide) (Qt.loadG rfl rfl rfl ag37 sz37 (by decide)) ?_
  refine AWL.nrm (by simp only [go_sem, Int.reduceToNat, Nat.reduceLT, reduceIte, Nat.reduceEqDiff, Nat.reduceAdd, Nat.reduceMul, Nat.reduceBEq, reduceCtorEq]; rfl) ?_
  refine AWL.step rfl rfl (by first | exact Stp.storeA rfl rfl rfl rfl (by decide) rfl | exact Stp.store rfl rfl (by simp) rfl rfl rfl (by decide) rfl) ?_
  refine AWL.nilE (by simp only [go_sem, Int.reduceToNat, Nat.reduceLT, reduceIte, Nat.reduceEqDiff, Nat.reduceAdd, Nat.reduceMul, Nat.reduceBEq, reduceCtorEq]; rfl) ?_
  try dsimp only [thenQ, blockQ]
  refine AW.ret ?_
  try dsimp only [thenQ, blockQ]
  refine endQ_ret (.cons (.cellG 2 37 rfl rfl rfl ag37 sz37 (by decide)) .nil) ?_
  refine ⟨fun _ => 6, rfl, nodup_of rfl, ?_⟩
  intro r hr
  cases List.mem_singleton.1 hr
  exact ⟨by simp, rootL_mem rfl⟩
set_option maxHeartbeats 8000000 in
set_option maxRecDepth 10000 in
theorem toCpu_con (a : DCpu) (hw : Mk.wt a ≤ 1048576) : Con Try.prog 182 [.g [.v (iv a.Pc), .h base []]] [.rt base .ro (tr a.Regs)] (Ret (.g [.v (iv a.Pc), .h 0 []]) [(0, .row, tr a.Regs)]) := by
  refine Con.of_body Try.func182 rfl (by simp) ?_
  rw [Try.ntmps182]
  refine AW.seq ?_
  refine AW.region ?_
  refine AWL.step rfl rfl (Stp.boxB rfl (by decide) (by decide) rfl rfl rfl rfl) ?_
  refine AWL.nrm (by simp only [go_sem, Int.reduceToNat, Nat.reduceLT, reduceIte, Nat.reduceEqDiff, Nat.reduceAdd, Nat.reduceMul, Nat.reduceBEq, reduceCtorEq]; rfl) ?_
  refine AWL.step rfl rfl (Stp.alloc rfl (by decide) (by decide)) ?_
  refine AWL.nilE (by simp only [go_sem, Int.reduceToNat, Nat.reduceLT, reduceIte, Nat.reduceEqDiff, Nat.reduceAdd, Nat.reduceMul, Nat.reduceBEq, reduceCtorEq]; rfl) ?_
  try dsimp only [thenQ, blockQ]
  refine AW.seq ?_
  refine AW.region ?_
  refine AWL.step rfl rfl (Stp.alloc rfl (by decide) (by decide)) ?_
  refine AWL.nilE (by simp only [go_sem, Int.reduceToNat, Nat.reduceLT, reduceIte, Nat.reduceEqDiff, Nat.reduceAdd, Nat.reduceMul, Nat.reduceBEq, reduceCtorEq]; rfl) ?_
  try dsimp only [thenQ, blockQ]
  refine AW.seq ?_
  refine AW.region ?_
  refine AWL.q rfl rfl rfl (by decide) (Qt.fieldAddr rfl fl168_0 rfl rfl (by decide)) ?_
  refine AWL.nrm (by simp only [go_sem, Int.reduceToNat, Nat.reduceLT, reduceIte, Nat.reduceEqDiff, Nat.reduceAdd, Nat.reduceMul, Nat.reduceBEq, reduceCtorEq]; rfl) ?_
  refine AWL.q rfl rfl rfl (by decide) (Qt.load1 rfl rfl rfl ag3) ?_
  refine AWL.q rfl rfl rfl (by decide) (Qt.fieldAddr rfl fl97_0 rfl rfl (by decide)) ?_
  refine AWL.step rfl rfl (by first | exact Stp.storeA rfl rfl rfl rfl (by decide) rfl | exact Stp.store rfl rfl (by simp) rfl rfl rfl (by decide) rfl) ?_
  refine AWL.nilE (by simp only [go_sem, Int.reduceToNat, Nat.reduceLT, reduceIte, Nat.reduceEqDiff, Nat.reduceAdd, Nat.reduceMul, Nat.reduceBEq, reduceCtorEq]; rfl) ?_
  try dsimp only [thenQ, blockQ]
  refine AW.seq ?_
  refine AW.region ?_
  refine AWL.q rfl rfl rfl (by decide) (Qt.fieldAddr rfl fl168_1 rfl rfl (by decide)) ?_
  refine AWL.nrm (by simp only [go_sem, Int.reduceToNat, Nat.reduceLT, reduceIte, Nat.reduceEqDiff, Nat.reduceAdd, Nat.reduceMul, Nat.reduceBEq, reduceCtorEq]; rfl) ?_
  refine AWL.q rfl rfl rfl (by decide) (Qt.load1 rfl rfl rfl ag24) ?_
  refine AWL.step rfl rfl (Stp.callR rfl (by decide) Try.call43 rfl rfl (toIntS_con _ (by first | omega | (simp only [Int.toNat_natCast]; omega) | (simp only [Mk.wt] at *; omega))) (nodup_of rfl) rfl rfl) ?_
  refine AWL.nrm (by simp only [go_sem, Int.reduceToNat, Nat.reduceLT, reduceIte, Nat.reduceEqDiff, Nat.reduceAdd, Nat.reduceMul, Nat.reduceBEq, reduceCtorEq]; rfl) ?_
  refine AWL.q rfl rfl rfl (by decide) (Qt.fieldAddr rfl fl97_1 rfl rfl (by decide)) ?_
  refine AWL.step rfl rfl (by first | exact Stp.storeA rfl rfl rfl rfl (by decide) rfl | exact Stp.store rfl rfl (by simp) rfl rfl rfl (by decide) rfl) ?_
  refine AWL.nilE (by simp only [go_sem, Int.reduceToNat, Nat.reduceLT, reduceIte, Nat.reduceEqDiff, Nat.reduceAdd, Nat.reduceMul, Nat.reduceBEq, reduceCtorEq]; rfl) ?_
  try dsimp only [thenQ, blockQ]
  refine AW.seq ?_
  refine AW.region ?_
  refine AWL.q rfl rfl rfl (by decide) (Qt.loadG rfl rfl rfl ag97 sz97 (by decide)) ?_
  refine AWL.nrm (by simp only [go_sem, Int.reduceToNat, Nat.reduceLT, reduceIte, Nat.reduceEqDiff, Nat.reduceAdd, Nat.reduceMul, Nat.reduceBEq, reduceCtorEq]; rfl) ?_
  refine AWL.step rfl rfl (by first | exact Stp.storeA rfl rfl rfl rfl (by decide) rfl | exact Stp.store rfl rfl (by simp) rfl rfl rfl (by decide) rfl) ?_
  refine AWL.nilE (by simp only [go_sem, Int.reduceToNat, Nat.reduceLT, reduceIte, Nat.reduceEqDiff, Nat.reduceAdd, Nat.reduceMul, Nat.reduceBEq, reduceCtorEq]; rfl) ?_
  try dsimp only [thenQ, blockQ]
  refine AW.ret ?_
  try dsimp only [thenQ, blockQ]
  refine endQ_ret (.cons (.cellG 2 97 rfl rfl rfl ag97 sz97 (by decide)) .nil) ?_
  refine ⟨fun _ => 9, rfl, nodup_of rfl, ?_⟩
  intro r hr
  cases List.mem_singleton.1 hr
  exact ⟨by simp, rootL_mem rfl⟩
set_option maxHeartbeats 8000000 in
set_option maxRecDepth 10000 in
theorem toBProc_con (a : DBProc) (hw : Mk.wt a ≤ 1048576) : Con Try.prog 121 [.g [.v (iv a.Pid), .v (iv a.Parent), .v (iv a.State), .v (iv a.Prog), .v (iv a.Cpu.Pc), .h base [], .h (base + 1) [], .h (base + 2) [], .v (iv a.Until), .v (iv a.Code)]] [.rt base .ro (tr a.Cpu.Regs), .rt (base + 1) .ro (tr a.Pages), .rt (base + 2) .ro (tr a.Fds)] (Ret (.g [.v (iv a.Pid), .v (iv a.Parent), .v (iv a.State), .v (iv a.Prog), .v (iv a.Cpu.Pc), .h 0 [], .h 1 [], .h 2 [], .v (iv a.Until), .v (iv a.Code)]) [(0, .row, tr a.Cpu.Regs), (1, .row, tr a.Pages), (2, .row, tr a.Fds)]) := by
  refine Con.of_body Try.func121 rfl (by simp) ?_
  rw [Try.ntmps121]
  refine AW.seq ?_
  refine AW.region ?_
  refine AWL.step rfl rfl (Stp.boxB rfl (by decide) (by decide) rfl rfl rfl rfl) ?_
  refine AWL.nrm (by simp only [go_sem, Int.reduceToNat, Nat.reduceLT, reduceIte, Nat.reduceEqDiff, Nat.reduceAdd, Nat.reduceMul, Nat.reduceBEq, reduceCtorEq]; rfl) ?_
  refine AWL.step rfl rfl (Stp.alloc rfl (by decide) (by decide)) ?_
  refine AWL.nilE (by simp only [go_sem, Int.reduceToNat, Nat.reduceLT, reduceIte, Nat.reduceEqDiff, Nat.reduceAdd, Nat.reduceMul, Nat.reduceBEq, reduceCtorEq]; rfl) ?_
  try dsimp only [thenQ, blockQ]
  refine AW.seq ?_
  refine AW.region ?_
  refine AWL.step rfl rfl (Stp.alloc rfl (by decide) (by decide)) ?_
  refine AWL.nilE (by simp only [go_sem, Int.reduceToNat, Nat.reduceLT, reduceIte, Nat.reduceEqDiff, Nat.reduceAdd, Nat.reduceMul, Nat.reduceBEq, reduceCtorEq]; rfl) ?_
  try dsimp only [thenQ, blockQ]
  refine AW.seq ?_
  refine AW.region ?_
  refine AWL.q rfl rfl rfl (by decide) (Qt.fieldAddr rfl fl170_0 rfl rfl (by decide)) ?_
  refine AWL.nrm (by simp only [go_sem, Int.reduceToNat, Nat.reduceLT, reduceIte, Nat.reduceEqDiff, Nat.reduceAdd, Nat.reduceMul, Nat.reduceBEq, reduceCtorEq]; rfl) ?_
  refine AWL.q rfl rfl rfl (by decide) (Qt.load1 rfl rfl rfl ag3) ?_
  refine AWL.q rfl rfl rfl (by decide) (Qt.fieldAddr rfl fl99_0 rfl rfl (by decide)) ?_
  refine AWL.step rfl rfl (by first | exact Stp.storeA rfl rfl rfl rfl (by decide) rfl | exact Stp.store rfl rfl (by simp) rfl rfl rfl (by decide) rfl) ?_
  refine AWL.nilE (by simp only [go_sem, Int.reduceToNat, Nat.reduceLT, reduceIte, Nat.reduceEqDiff, Nat.reduceAdd, Nat.reduceMul, Nat.reduceBEq, reduceCtorEq]; rfl) ?_
  try dsimp only [thenQ, blockQ]
  refine AW.seq ?_
  refine AW.region ?_
  refine AWL.q rfl rfl rfl (by decide) (Qt.fieldAddr rfl fl170_1 rfl rfl (by decide)) ?_
  refine AWL.nrm (by simp only [go_sem, Int.reduceToNat, Nat.reduceLT, reduceIte, Nat.reduceEqDiff, Nat.reduceAdd, Nat.reduceMul, Nat.reduceBEq, reduceCtorEq]; rfl) ?_
  refine AWL.q rfl rfl rfl (by decide) (Qt.load1 rfl rfl rfl ag3) ?_
  refine AWL.q rfl rfl rfl (by decide) (Qt.fieldAddr rfl fl99_1 rfl rfl (by decide)) ?_
  refine AWL.step rfl rfl (by first | exact Stp.storeA rfl rfl rfl rfl (by decide) rfl | exact Stp.store rfl rfl (by simp) rfl rfl rfl (by decide) rfl) ?_
  refine AWL.nilE (by simp only [go_sem, Int.reduceToNat, Nat.reduceLT, reduceIte, Nat.reduceEqDiff, Nat.reduceAdd, Nat.reduceMul, Nat.reduceBEq, reduceCtorEq]; rfl) ?_
  try dsimp only [thenQ, blockQ]
  refine AW.seq ?_
  refine AW.region ?_
  refine AWL.q rfl rfl rfl (by decide) (Qt.fieldAddr rfl fl170_2 rfl rfl (by decide)) ?_
  refine AWL.nrm (by simp only [go_sem, Int.reduceToNat, Nat.reduceLT, reduceIte, Nat.reduceEqDiff, Nat.reduceAdd, Nat.reduceMul, Nat.reduceBEq, reduceCtorEq]; rfl) ?_
  refine AWL.q rfl rfl rfl (by decide) (Qt.load1 rfl rfl rfl ag3) ?_
  refine AWL.q rfl rfl rfl (by decide) (Qt.fieldAddr rfl fl99_2 rfl rfl (by decide)) ?_
  refine AWL.step rfl rfl (by first | exact Stp.storeA rfl rfl rfl rfl (by decide) rfl | exact Stp.store rfl rfl (by simp) rfl rfl rfl (by decide) rfl) ?_
  refine AWL.nilE (by simp only [go_sem, Int.reduceToNat, Nat.reduceLT, reduceIte, Nat.reduceEqDiff, Nat.reduceAdd, Nat.reduceMul, Nat.reduceBEq, reduceCtorEq]; rfl) ?_
  try dsimp only [thenQ, blockQ]
  refine AW.seq ?_
  refine AW.region ?_
  refine AWL.q rfl rfl rfl (by decide) (Qt.fieldAddr rfl fl170_3 rfl rfl (by decide)) ?_
  refine AWL.nrm (by simp only [go_sem, Int.reduceToNat, Nat.reduceLT, reduceIte, Nat.reduceEqDiff, Nat.reduceAdd, Nat.reduceMul, Nat.reduceBEq, reduceCtorEq]; rfl) ?_
  refine AWL.q rfl rfl rfl (by decide) (Qt.load1 rfl rfl rfl ag3) ?_
  refine AWL.q rfl rfl rfl (by decide) (Qt.fieldAddr rfl fl99_3 rfl rfl (by decide)) ?_
  refine AWL.step rfl rfl (by first | exact Stp.storeA rfl rfl rfl rfl (by decide) rfl | exact Stp.store rfl rfl (by simp) rfl rfl rfl (by decide) rfl) ?_
  refine AWL.nilE (by simp only [go_sem, Int.reduceToNat, Nat.reduceLT, reduceIte, Nat.reduceEqDiff, Nat.reduceAdd, Nat.reduceMul, Nat.reduceBEq, reduceCtorEq]; rfl) ?_
  try dsimp only [thenQ, blockQ]
  refine AW.seq ?_
  refine AW.region ?_
  refine AWL.q rfl rfl rfl (by decide) (Qt.fieldAddr rfl fl170_4 rfl rfl (by decide)) ?_
  refine AWL.nrm (by simp only [go_sem, Int.reduceToNat, Nat.reduceLT, reduceIte, Nat.reduceEqDiff, Nat.reduceAdd, Nat.reduceMul, Nat.reduceBEq, reduceCtorEq]; rfl) ?_
  refine AWL.q rfl rfl rfl (by decide) (Qt.loadG rfl rfl rfl ag168 sz168 (by decide)) ?_
  refine AWL.step rfl rfl (Stp.callR rfl (by decide) Try.call182 rfl rfl (toCpu_con _ (by first | omega | (simp only [Int.toNat_natCast]; omega) | (simp only [Mk.wt] at *; omega))) (nodup_of rfl) rfl rfl) ?_
  refine AWL.nrm (by simp only [go_sem, Int.reduceToNat, Nat.reduceLT, reduceIte, Nat.reduceEqDiff, Nat.reduceAdd, Nat.reduceMul, Nat.reduceBEq, reduceCtorEq]; rfl) ?_
  refine AWL.q rfl rfl rfl (by decide) (Qt.fieldAddr rfl fl99_4 rfl rfl (by decide)) ?_
  refine AWL.step rfl rfl (by first | exact Stp.storeA rfl rfl rfl rfl (by decide) rfl | exact Stp.store rfl rfl (by simp) rfl rfl rfl (by decide) rfl) ?_
  refine AWL.nilE (by simp only [go_sem, Int.reduceToNat, Nat.reduceLT, reduceIte, Nat.reduceEqDiff, Nat.reduceAdd, Nat.reduceMul, Nat.reduceBEq, reduceCtorEq]; rfl) ?_
  try dsimp only [thenQ, blockQ]
  refine AW.seq ?_
  refine AW.region ?_
  refine AWL.q rfl rfl rfl (by decide) (Qt.fieldAddr rfl fl170_5 rfl rfl (by decide)) ?_
  refine AWL.nrm (by simp only [go_sem, Int.reduceToNat, Nat.reduceLT, reduceIte, Nat.reduceEqDiff, Nat.reduceAdd, Nat.reduceMul, Nat.reduceBEq, reduceCtorEq]; rfl) ?_
  refine AWL.q rfl rfl rfl (by decide) (Qt.load1 rfl rfl rfl ag24) ?_
  refine AWL.step rfl rfl (Stp.callR rfl (by decide) Try.call43 rfl rfl (toIntS_con _ (by first | omega | (simp only [Int.toNat_natCast]; omega) | (simp only [Mk.wt] at *; omega))) (nodup_of rfl) rfl rfl) ?_
  refine AWL.nrm (by simp only [go_sem, Int.reduceToNat, Nat.reduceLT, reduceIte, Nat.reduceEqDiff, Nat.reduceAdd, Nat.reduceMul, Nat.reduceBEq, reduceCtorEq]; rfl) ?_
  refine AWL.q rfl rfl rfl (by decide) (Qt.fieldAddr rfl fl99_5 rfl rfl (by decide)) ?_
  refine AWL.step rfl rfl (by first | exact Stp.storeA rfl rfl rfl rfl (by decide) rfl | exact Stp.store rfl rfl (by simp) rfl rfl rfl (by decide) rfl) ?_
  refine AWL.nilE (by simp only [go_sem, Int.reduceToNat, Nat.reduceLT, reduceIte, Nat.reduceEqDiff, Nat.reduceAdd, Nat.reduceMul, Nat.reduceBEq, reduceCtorEq]; rfl) ?_
  try dsimp only [thenQ, blockQ]
  refine AW.seq ?_
  refine AW.region ?_
  refine AWL.q rfl rfl rfl (by decide) (Qt.fieldAddr rfl fl170_6 rfl rfl (by decide)) ?_
  refine AWL.nrm (by simp only [go_sem, Int.reduceToNat, Nat.reduceLT, reduceIte, Nat.reduceEqDiff, Nat.reduceAdd, Nat.reduceMul, Nat.reduceBEq, reduceCtorEq]; rfl) ?_
  refine AWL.q rfl rfl rfl (by decide) (Qt.load1 rfl rfl rfl ag24) ?_
  refine AWL.step rfl rfl (Stp.callR rfl (by decide) Try.call43 rfl rfl (toIntS_con _ (by first | omega | (simp only [Int.toNat_natCast]; omega) | (simp only [Mk.wt] at *; omega))) (nodup_of rfl) rfl rfl) ?_
  refine AWL.nrm (by simp only [go_sem, Int.reduceToNat, Nat.reduceLT, reduceIte, Nat.reduceEqDiff, Nat.reduceAdd, Nat.reduceMul, Nat.reduceBEq, reduceCtorEq]; rfl) ?_
  refine AWL.q rfl rfl rfl (by decide) (Qt.fieldAddr rfl fl99_6 rfl rfl (by decide)) ?_
  refine AWL.step rfl rfl (by first | exact Stp.storeA rfl rfl rfl rfl (by decide) rfl | exact Stp.store rfl rfl (by simp) rfl rfl rfl (by decide) rfl) ?_
  refine AWL.nilE (by simp only [go_sem, Int.reduceToNat, Nat.reduceLT, reduceIte, Nat.reduceEqDiff, Nat.reduceAdd, Nat.reduceMul, Nat.reduceBEq, reduceCtorEq]; rfl) ?_
  try dsimp only [thenQ, blockQ]
  refine AW.seq ?_
  refine AW.region ?_
  refine AWL.q rfl rfl rfl (by decide) (Qt.fieldAddr rfl fl170_7 rfl rfl (by decide)) ?_
  refine AWL.nrm (by simp only [go_sem, Int.reduceToNat, Nat.reduceLT, reduceIte, Nat.reduceEqDiff, Nat.reduceAdd, Nat.reduceMul, Nat.reduceBEq, reduceCtorEq]; rfl) ?_
  refine AWL.q rfl rfl rfl (by decide) (Qt.load1 rfl rfl rfl ag3) ?_
  refine AWL.q rfl rfl rfl (by decide) (Qt.fieldAddr rfl fl99_7 rfl rfl (by decide)) ?_
  refine AWL.step rfl rfl (by first | exact Stp.storeA rfl rfl rfl rfl (by decide) rfl | exact Stp.store rfl rfl (by simp) rfl rfl rfl (by decide) rfl) ?_
  refine AWL.nilE (by simp only [go_sem, Int.reduceToNat, Nat.reduceLT, reduceIte, Nat.reduceEqDiff, Nat.reduceAdd, Nat.reduceMul, Nat.reduceBEq, reduceCtorEq]; rfl) ?_
  try dsimp only [thenQ, blockQ]
  refine AW.seq ?_
  refine AW.region ?_
  refine AWL.q rfl rfl rfl (by decide) (Qt.fieldAddr rfl fl170_8 rfl rfl (by decide)) ?_
  refine AWL.nrm (by simp only [go_sem, Int.reduceToNat, Nat.reduceLT, reduceIte, Nat.reduceEqDiff, Nat.reduceAdd, Nat.reduceMul, Nat.reduceBEq, reduceCtorEq]; rfl) ?_
  refine AWL.q rfl rfl rfl (by decide) (Qt.load1 rfl rfl rfl ag3) ?_
  refine AWL.q rfl rfl rfl (by decide) (Qt.fieldAddr rfl fl99_8 rfl rfl (by decide)) ?_
  refine AWL.step rfl rfl (by first | exact Stp.storeA rfl rfl rfl rfl (by decide) rfl | exact Stp.store rfl rfl (by simp) rfl rfl rfl (by decide) rfl) ?_
  refine AWL.nilE (by simp only [go_sem, Int.reduceToNat, Nat.reduceLT, reduceIte, Nat.reduceEqDiff, Nat.reduceAdd, Nat.reduceMul, Nat.reduceBEq, reduceCtorEq]; rfl) ?_
  try dsimp only [thenQ, blockQ]
  refine AW.seq ?_
  refine AW.region ?_
  refine AWL.q rfl rfl rfl (by decide) (Qt.loadG rfl rfl rfl ag99 sz99 (by decide)) ?_
  refine AWL.nrm (by simp only [go_sem, Int.reduceToNat, Nat.reduceLT, reduceIte, Nat.reduceEqDiff, Nat.reduceAdd, Nat.reduceMul, Nat.reduceBEq, reduceCtorEq]; rfl) ?_
  refine AWL.step rfl rfl (by first | exact Stp.storeA rfl rfl rfl rfl (by decide) rfl | exact Stp.store rfl rfl (by simp) rfl rfl rfl (by decide) rfl) ?_
  refine AWL.nilE (by simp only [go_sem, Int.reduceToNat, Nat.reduceLT, reduceIte, Nat.reduceEqDiff, Nat.reduceAdd, Nat.reduceMul, Nat.reduceBEq, reduceCtorEq]; rfl) ?_
  try dsimp only [thenQ, blockQ]
  refine AW.ret ?_
  try dsimp only [thenQ, blockQ]
  refine endQ_ret (.cons (.cellG 2 99 rfl rfl rfl ag99 sz99 (by decide)) .nil) ?_
  refine ⟨fun i => if i = 0 then 18 else if i = 1 then 22 else 26, rfl, nodup_of rfl, ?_⟩
  intro r hr
  simp only [List.mem_cons, List.not_mem_nil, or_false] at hr
  rcases hr with rfl | rfl | rfl <;> exact ⟨by simp, rootL_mem rfl⟩
set_option maxHeartbeats 8000000 in
set_option maxRecDepth 10000 in
theorem toBProcS_con (a : List DBProc) (hw : Mk.wt a ≤ 1048576) : Con Try.prog 42 [.h base []] [.rt base .ro (tr a)] (Ret (.h 0 []) [(0, .row, tr a)]) := by
  refine Con.of_body Try.func42 rfl (by simp) ?_
  rw [Try.ntmps42]
  have hw2 : a.length + wtL Mk.wt a ≤ 1048576 := hw
  refine AW.seq ?_
  refine AW.region ?_
  refine AWL.q rfl rfl rfl (by decide) Qt.assign ?_
  refine AWL.nilE (by simp only [go_sem, Int.reduceToNat, Nat.reduceLT, reduceIte, Nat.reduceEqDiff, Nat.reduceAdd, Nat.reduceMul, Nat.reduceBEq, reduceCtorEq]; rfl) ?_
  try dsimp only [thenQ, blockQ]
  refine AW.seq ?_
  refine AW.region ?_
  refine AWL.q rfl rfl rfl (by decide) Qt.move ?_
  refine AWL.q rfl rfl rfl (by decide) (Qt.lenH rfl rfl rfl sl23) ?_
  refine AWL.nrm (by simp only [go_sem, Int.reduceToNat, Nat.reduceLT, reduceIte, Nat.reduceEqDiff, Nat.reduceAdd, Nat.reduceMul, Nat.reduceBEq, reduceCtorEq]; rfl) ?_
  refine AWL.step rfl rfl (Stp.makeSlice rfl (by decide) (by decide) rfl rfl (by omega) (by omega) (by omega)) ?_
  refine AWL.nrm (by simp only [go_sem, Int.reduceToNat, Nat.reduceLT, reduceIte, Nat.reduceEqDiff, Nat.reduceAdd, Nat.reduceMul, Nat.reduceBEq, reduceCtorEq]; rfl) ?_
  refine AWL.q rfl rfl rfl (by decide) Qt.assign ?_
  refine AWL.nilE (by simp only [go_sem, Int.reduceToNat, Nat.reduceLT, reduceIte, Nat.reduceEqDiff, Nat.reduceAdd, Nat.reduceMul, Nat.reduceBEq, reduceCtorEq]; rfl) ?_
  try dsimp only [thenQ, blockQ]
  refine AW.seq ?_
  refine AW.seq ?_
  refine AW.region ?_
  refine AWL.q rfl rfl rfl (by decide) Qt.assign ?_
  refine AWL.nilE (by simp only [go_sem, Int.reduceToNat, Nat.reduceLT, reduceIte, Nat.reduceEqDiff, Nat.reduceAdd, Nat.reduceMul, Nat.reduceBEq, reduceCtorEq]; rfl) ?_
  try dsimp only [thenQ, blockQ]
  refine AW.block ?_
  refine AW.weak (L' := [.sl 4 (.v (iv (0 : Nat))), .sl 3 (.h 7 []), .sl 0 (.h base []), .rt 7 .row (trMix (0 : Nat) a.length (fun j => a.getD j En.dflt) fun _ => En.dflt), .rt base .ro (tr a)]) (Weak.sim ⟨rfl, rfl, rfl, ⟨_, rfl, (trMix_start rfl (fun c hc => match c, hc with | 0, _ => T.sim_refl _ | 1, _ => T.sim_refl _ | 2, _ => T.sim_refl _ | 3, _ => T.sim_refl _ | 4, _ => T.sim_refl _ | 5, _ => sim_nil | 6, _ => sim_nil | 7, _ => sim_nil | 8, _ => T.sim_refl _ | 9, _ => T.sim_refl _ | c + 10, hc => absurd hc (by simp only [En.n]; omega)))⟩, ⟨_, rfl, T.sim_refl _⟩, trivial⟩ rfl rfl) ?_
  refine AW.loop (fun i : KInv a.length => [.sl 4 (.v (iv i.k)), .sl 3 (.h 7 []), .sl 0 (.h base []), .rt 7 .row (trMix i.k a.length (fun j => a.getD j En.dflt) fun _ => En.dflt), .rt base .ro (tr a)]) (fun i => a.length - i.k) ⟨0, Nat.zero_le _⟩ ?_
  intro i
  have hle := i.le
  refine AW.seq ?_
  refine AW.seq ?_
  refine AW.region ?_
  refine AWL.q rfl rfl rfl (by decide) Qt.move ?_
  refine AWL.nrm (by simp only [go_sem, Int.reduceToNat, Nat.reduceLT, reduceIte, Nat.reduceEqDiff, Nat.reduceAdd, Nat.reduceMul, Nat.reduceBEq, reduceCtorEq]; rfl) ?_
  refine AWL.q rfl rfl rfl (by decide) Qt.move ?_
  refine AWL.q rfl rfl rfl (by decide) (Qt.lenH rfl rfl rfl sl23) ?_
  refine AWL.q rfl rfl rfl (by decide) (Qt.binOp rfl rfl rfl) ?_
  refine AWL.nilE (by simp only [go_sem, Int.reduceToNat, Nat.reduceLT, reduceIte, Nat.reduceEqDiff, Nat.reduceAdd, Nat.reduceMul, Nat.reduceBEq, reduceCtorEq]; rfl) ?_
  try dsimp only [thenQ, blockQ]
  refine AW.cond rfl (fun c1 => ?_) (fun c1 => ?_)
  · have k1 := c1
    try simp only [decide_eq_true_eq, decide_eq_false_iff_not, bne_iff_ne, ne_eq, beq_iff_eq, beq_eq_false_iff_ne, bne_eq_false_iff_eq, Bool.not_eq_true', Bool.not_eq_false', Bool.and_eq_true, Bool.or_eq_true, Bool.and_eq_false_iff, Bool.or_eq_false_iff, Int.not_lt, Int.not_le, Int.toNat_natCast] at c1
    have hwk := wtL_get (w := Mk.wt) (d := En.dflt) (l := a) (i := i.k) (by omega)
    refine AW.skip ?_
    dsimp only [thenQ, blockQ]
    refine AW.seq ?_
    refine AW.block ?_
    refine AW.region ?_
    refine AWL.q rfl rfl rfl (by decide) Qt.move ?_
    refine AWL.nrm (by simp only [go_sem, Int.reduceToNat, Nat.reduceLT, reduceIte, Nat.reduceEqDiff, Nat.reduceAdd, Nat.reduceMul, Nat.reduceBEq, reduceCtorEq]; rfl) ?_
    refine AWL.q rfl rfl rfl (by decide) Qt.move ?_
    refine AWL.q rfl rfl rfl (by decide) Qt.move ?_
    refine AWL.q rfl rfl rfl (by decide) Qt.move ?_
    refine AWL.nrm (by simp only [go_sem, Int.reduceToNat, Nat.reduceLT, reduceIte, Nat.reduceEqDiff, Nat.reduceAdd, Nat.reduceMul, Nat.reduceBEq, reduceCtorEq]; rfl) ?_
    refine AWL.q rfl rfl rfl (by decide) (Qt.indexAddr rfl rfl rfl rfl sl23 sz170 (by decide) (by omega)) ?_
    refine AWL.q rfl rfl rfl (by decide) (Qt.loadG rfl rfl rfl ag170 sz170 (by decide)) ?_
    refine AWL.step rfl rfl (Stp.callR rfl (by decide) Try.call121 rfl rfl (toBProc_con _ (by first | omega | (simp only [Int.toNat_natCast]; omega) | (simp only [Mk.wt] at *; omega))) (nodup_of rfl) rfl rfl) ?_
    refine AWL.nrm (by simp only [go_sem, Int.reduceToNat, Nat.reduceLT, reduceIte, Nat.reduceEqDiff, Nat.reduceAdd, Nat.reduceMul, Nat.reduceBEq, reduceCtorEq]; rfl) ?_
    refine AWL.q rfl rfl rfl (by decide) (Qt.indexAddr rfl rfl rfl rfl sl36 sz99 (by decide) (by omega)) ?_
    refine AWL.step rfl rfl (by first | exact Stp.storeA rfl rfl rfl rfl (by decide) rfl | exact Stp.store rfl rfl (by simp) rfl rfl rfl (by decide) rfl) ?_
    refine AWL.nilE (by simp only [go_sem, Int.reduceToNat, Nat.reduceLT, reduceIte, Nat.reduceEqDiff, Nat.reduceAdd, Nat.reduceMul, Nat.reduceBEq, reduceCtorEq]; rfl) ?_
    try dsimp only [thenQ, blockQ]
    refine AW.region ?_
    refine AWL.q rfl rfl rfl (by decide) Qt.move ?_
    refine AWL.nrm (by simp only [go_sem, Int.reduceToNat, Nat.reduceLT, reduceIte, Nat.reduceEqDiff, Nat.reduceAdd, Nat.reduceMul, Nat.reduceBEq, reduceCtorEq]; rfl) ?_
    refine AWL.q rfl rfl rfl (by decide) (Qt.binOp rfl rfl (by first | exact pbAdd (by omega) | rfl)) ?_
    refine AWL.q rfl rfl rfl (by decide) Qt.assign ?_
    refine AWL.nilE (by simp only [go_sem, Int.reduceToNat, Nat.reduceLT, reduceIte, Nat.reduceEqDiff, Nat.reduceAdd, Nat.reduceMul, Nat.reduceBEq, reduceCtorEq]; rfl) ?_
    try dsimp only [thenQ, blockQ]
    refine ⟨⟨i.k + 1, by omega⟩, Weak.sim ⟨(by simp only [slotL, reduceIte, Nat.reduceEqDiff]; first | rfl | (rw [IntWalk.i64_in _ (by omega)]; rfl)), rfl, rfl, ⟨_, rfl, trMix_next (fun i c hi => by simp only [upd_app, hi, false_and, if_false]; rfl) (fun c hc => match c, hc with | 0, _ => (by simp only [upd_app, eq_self, and_true, and_false, Nat.reduceEqDiff, if_true, if_false]; exact T.sim_refl _) | 1, _ => (by simp only [upd_app, eq_self, and_true, and_false, Nat.reduceEqDiff, if_true, if_false]; exact T.sim_refl _) | 2, _ => (by simp only [upd_app, eq_self, and_true, and_false, Nat.reduceEqDiff, if_true, if_false]; exact T.sim_refl _) | 3, _ => (by simp only [upd_app, eq_self, and_true, and_false, Nat.reduceEqDiff, if_true, if_false]; exact T.sim_refl _) | 4, _ => (by simp only [upd_app, eq_self, and_true, and_false, Nat.reduceEqDiff, if_true, if_false]; exact T.sim_refl _) | 5, _ => (by simp only [upd_app, eq_self, and_true, and_false, Nat.reduceEqDiff, if_true, if_false]; exact T.sim_refl _) | 6, _ => (by simp only [upd_app, eq_self, and_true, and_false, Nat.reduceEqDiff, if_true, if_false]; exact T.sim_refl _) | 7, _ => (by simp only [upd_app, eq_self, and_true, and_false, Nat.reduceEqDiff, if_true, if_false]; exact T.sim_refl _) | 8, _ => (by simp only [upd_app, eq_self, and_true, and_false, Nat.reduceEqDiff, if_true, if_false]; exact T.sim_refl _) | 9, _ => (by simp only [upd_app, eq_self, and_true, and_false, Nat.reduceEqDiff, if_true, if_false]; exact T.sim_refl _) | c + 10, hc => absurd hc (by simp only [En.n]; omega))⟩, ⟨_, rfl, T.sim_refl _⟩, trivial⟩ rfl rfl, ?_⟩
    show a.length - (i.k + 1) < a.length - i.k
    omega
  · have k1 := c1
    try simp only [decide_eq_true_eq, decide_eq_false_iff_not, bne_iff_ne, ne_eq, beq_iff_eq, beq_eq_false_iff_ne, bne_eq_false_iff_eq, Bool.not_eq_true', Bool.not_eq_false', Bool.and_eq_true, Bool.or_eq_true, Bool.and_eq_false_iff, Bool.or_eq_false_iff, Int.not_lt, Int.not_le, Int.toNat_natCast] at c1
    refine AW.exit ?_
    dsimp only [thenQ, blockQ, reduceIte]
    refine AW.seq ?_
    refine AW.region ?_
    refine AWL.q rfl rfl rfl (by decide) Qt.move ?_
    refine AWL.nrm (by simp only [go_sem, Int.reduceToNat, Nat.reduceLT, reduceIte, Nat.reduceEqDiff, Nat.reduceAdd, Nat.reduceMul, Nat.reduceBEq, reduceCtorEq]; rfl) ?_
    refine AWL.q rfl rfl rfl (by decide) Qt.assign ?_
    refine AWL.nilE (by simp only [go_sem, Int.reduceToNat, Nat.reduceLT, reduceIte, Nat.reduceEqDiff, Nat.reduceAdd, Nat.reduceMul, Nat.reduceBEq, reduceCtorEq]; rfl) ?_
    try dsimp only [thenQ, blockQ]
    refine AW.weak (L' := [.rt 7 .row (tr a), .sl 2 (.h 7 [])]) (Weak.sim ⟨⟨_, rfl, trMix_full (by omega) rfl (fun _ _ => rfl)⟩, rfl, trivial⟩ rfl rfl) ?_
    refine AW.ret ?_
    try dsimp only [thenQ, blockQ]
    refine endQ_ret (.cons (.tmp 2) .nil) ?_
    refine ⟨fun _ => 7, rfl, nodup_of rfl, ?_⟩
    intro r hr
    cases List.mem_singleton.1 hr
    exact ⟨by simp, rootL_mem rfl⟩
set_option maxHeartbeats 8000000 in
set_option maxRecDepth 10000 in
theorem toOpen_con (a : DOpen) : Con Try.prog 122 [.g [.v (iv a.Id), .v (iv a.Kind), .v (iv a.Target), .v (iv a.Off), .v (iv a.Refs)]] [] (Ret (.g [.v (iv a.Id), .v (iv a.Kind), .v (iv a.Target), .v (iv a.Off), .v (iv a.Refs)]) []) := by
  refine Con.of_body Try.func122 rfl (by simp) ?_
  rw [Try.ntmps122]
  refine AW.seq ?_
  refine AW.region ?_
  refine AWL.step rfl rfl (Stp.boxB rfl (by decide) (by decide) rfl rfl rfl rfl) ?_
  refine AWL.nrm (by simp only [go_sem, Int.reduceToNat, Nat.reduceLT, reduceIte, Nat.reduceEqDiff, Nat.reduceAdd, Nat.reduceMul, Nat.reduceBEq, reduceCtorEq]; rfl) ?_
  refine AWL.step rfl rfl (Stp.alloc rfl (by decide) (by decide)) ?_
  refine AWL.nilE (by simp only [go_sem, Int.reduceToNat, Nat.reduceLT, reduceIte, Nat.reduceEqDiff, Nat.reduceAdd, Nat.reduceMul, Nat.reduceBEq, reduceCtorEq]; rfl) ?_
  try dsimp only [thenQ, blockQ]
  refine AW.seq ?_
  refine AW.region ?_
  refine AWL.step rfl rfl (Stp.alloc rfl (by decide) (by decide)) ?_
  refine AWL.nilE (by simp only [go_sem, Int.reduceToNat, Nat.reduceLT, reduceIte, Nat.reduceEqDiff, Nat.reduceAdd, Nat.reduceMul, Nat.reduceBEq, reduceCtorEq]; rfl) ?_
  try dsimp only [thenQ, blockQ]
  refine AW.seq ?_
  refine AW.region ?_
  refine AWL.q rfl rfl rfl (by decide) (Qt.fieldAddr rfl fl178_0 rfl rfl (by decide)) ?_
  refine AWL.nrm (by simp only [go_sem, Int.reduceToNat, Nat.reduceLT, reduceIte, Nat.reduceEqDiff, Nat.reduceAdd, Nat.reduceMul, Nat.reduceBEq, reduceCtorEq]; rfl) ?_
  refine AWL.q rfl rfl rfl (by decide) (Qt.load1 rfl rfl rfl ag3) ?_
  refine AWL.q rfl rfl rfl (by decide) (Qt.fieldAddr rfl fl137_0 rfl rfl (by decide)) ?_
  refine AWL.step rfl rfl (by first | exact Stp.storeA rfl rfl rfl rfl (by decide) rfl | exact Stp.store rfl rfl (by simp) rfl rfl rfl (by decide) rfl) ?_
  refine AWL.nilE (by simp only [go_sem, Int.reduceToNat, Nat.reduceLT, reduceIte, Nat.reduceEqDiff, Nat.reduceAdd, Nat.reduceMul, Nat.reduceBEq, reduceCtorEq]; rfl) ?_
  try dsimp only [thenQ, blockQ]
  refine AW.seq ?_
  refine AW.region ?_
  refine AWL.q rfl rfl rfl (by decide) (Qt.fieldAddr rfl fl178_1 rfl rfl (by decide)) ?_
  refine AWL.nrm (by simp only [go_sem, Int.reduceToNat, Nat.reduceLT, reduceIte, Nat.reduceEqDiff, Nat.reduceAdd, Nat.reduceMul, Nat.reduceBEq, reduceCtorEq]; rfl) ?_
  refine AWL.q rfl rfl rfl (by decide) (Qt.load1 rfl rfl rfl ag3) ?_
  refine AWL.q rfl rfl rfl (by decide) (Qt.fieldAddr rfl fl137_1 rfl rfl (by decide)) ?_
  refine AWL.step rfl rfl (by first | exact Stp.storeA rfl rfl rfl rfl (by decide) rfl | exact Stp.store rfl rfl (by simp) rfl rfl rfl (by decide) rfl) ?_
  refine AWL.nilE (by simp only [go_sem, Int.reduceToNat, Nat.reduceLT, reduceIte, Nat.reduceEqDiff, Nat.reduceAdd, Nat.reduceMul, Nat.reduceBEq, reduceCtorEq]; rfl) ?_
  try dsimp only [thenQ, blockQ]
  refine AW.seq ?_
  refine AW.region ?_
  refine AWL.q rfl rfl rfl (by decide) (Qt.fieldAddr rfl fl178_2 rfl rfl (by decide)) ?_
  refine AWL.nrm (by simp only [go_sem, Int.reduceToNat, Nat.reduceLT, reduceIte, Nat.reduceEqDiff, Nat.reduceAdd, Nat.reduceMul, Nat.reduceBEq, reduceCtorEq]; rfl) ?_
  refine AWL.q rfl rfl rfl (by decide) (Qt.load1 rfl rfl rfl ag3) ?_
  refine AWL.q rfl rfl rfl (by decide) (Qt.fieldAddr rfl fl137_2 rfl rfl (by decide)) ?_
  refine AWL.step rfl rfl (by first | exact Stp.storeA rfl rfl rfl rfl (by decide) rfl | exact Stp.store rfl rfl (by simp) rfl rfl rfl (by decide) rfl) ?_
  refine AWL.nilE (by simp only [go_sem, Int.reduceToNat, Nat.reduceLT, reduceIte, Nat.reduceEqDiff, Nat.reduceAdd, Nat.reduceMul, Nat.reduceBEq, reduceCtorEq]; rfl) ?_
  try dsimp only [thenQ, blockQ]
  refine AW.seq ?_
  refine AW.region ?_
  refine AWL.q rfl rfl rfl (by decide) (Qt.fieldAddr rfl fl178_3 rfl rfl (by decide)) ?_
  refine AWL.nrm (by simp only [go_sem, Int.reduceToNat, Nat.reduceLT, reduceIte, Nat.reduceEqDiff, Nat.reduceAdd, Nat.reduceMul, Nat.reduceBEq, reduceCtorEq]; rfl) ?_
  refine AWL.q rfl rfl rfl (by decide) (Qt.load1 rfl rfl rfl ag3) ?_
  refine AWL.q rfl rfl rfl (by decide) (Qt.fieldAddr rfl fl137_3 rfl rfl (by decide)) ?_
  refine AWL.step rfl rfl (by first | exact Stp.storeA rfl rfl rfl rfl (by decide) rfl | exact Stp.store rfl rfl (by simp) rfl rfl rfl (by decide) rfl) ?_
  refine AWL.nilE (by simp only [go_sem, Int.reduceToNat, Nat.reduceLT, reduceIte, Nat.reduceEqDiff, Nat.reduceAdd, Nat.reduceMul, Nat.reduceBEq, reduceCtorEq]; rfl) ?_
  try dsimp only [thenQ, blockQ]
  refine AW.seq ?_
  refine AW.region ?_
  refine AWL.q rfl rfl rfl (by decide) (Qt.fieldAddr rfl fl178_4 rfl rfl (by decide)) ?_
  refine AWL.nrm (by simp only [go_sem, Int.reduceToNat, Nat.reduceLT, reduceIte, Nat.reduceEqDiff, Nat.reduceAdd, Nat.reduceMul, Nat.reduceBEq, reduceCtorEq]; rfl) ?_
  refine AWL.q rfl rfl rfl (by decide) (Qt.load1 rfl rfl rfl ag3) ?_
  refine AWL.q rfl rfl rfl (by decide) (Qt.fieldAddr rfl fl137_4 rfl rfl (by decide)) ?_
  refine AWL.step rfl rfl (by first | exact Stp.storeA rfl rfl rfl rfl (by decide) rfl | exact Stp.store rfl rfl (by simp) rfl rfl rfl (by decide) rfl) ?_
  refine AWL.nilE (by simp only [go_sem, Int.reduceToNat, Nat.reduceLT, reduceIte, Nat.reduceEqDiff, Nat.reduceAdd, Nat.reduceMul, Nat.reduceBEq, reduceCtorEq]; rfl) ?_
  try dsimp only [thenQ, blockQ]
  refine AW.seq ?_
  refine AW.region ?_
  refine AWL.q rfl rfl rfl (by decide) (Qt.loadG rfl rfl rfl ag137 sz137 (by decide)) ?_
  refine AWL.nrm (by simp only [go_sem, Int.reduceToNat, Nat.reduceLT, reduceIte, Nat.reduceEqDiff, Nat.reduceAdd, Nat.reduceMul, Nat.reduceBEq, reduceCtorEq]; rfl) ?_
  refine AWL.step rfl rfl (by first | exact Stp.storeA rfl rfl rfl rfl (by decide) rfl | exact Stp.store rfl rfl (by simp) rfl rfl rfl (by decide) rfl) ?_
  refine AWL.nilE (by simp only [go_sem, Int.reduceToNat, Nat.reduceLT, reduceIte, Nat.reduceEqDiff, Nat.reduceAdd, Nat.reduceMul, Nat.reduceBEq, reduceCtorEq]; rfl) ?_
  try dsimp only [thenQ, blockQ]
  refine AW.ret ?_
  try dsimp only [thenQ, blockQ]
  refine endQ_ret (.cons (.cellG 2 137 rfl rfl rfl ag137 sz137 (by decide)) .nil) ?_
  refine ⟨fun _ => 0, rfl, nodup_of rfl, ?_⟩
  intro r hr
  cases hr
set_option maxHeartbeats 8000000 in
set_option maxRecDepth 10000 in
theorem toOpenS_con (a : List DOpen) (hw : Mk.wt a ≤ 1048576) : Con Try.prog 44 [.h base []] [.rt base .ro (tr a)] (Ret (.h 0 []) [(0, .row, tr a)]) := by
  refine Con.of_body Try.func44 rfl (by simp) ?_
  rw [Try.ntmps44]
  have hw2 : a.length + wtL Mk.wt a ≤ 1048576 := hw
  refine AW.seq ?_
  refine AW.region ?_
  refine AWL.q rfl rfl rfl (by decide) Qt.assign ?_
  refine AWL.nilE (by simp only [go_sem, Int.reduceToNat, Nat.reduceLT, reduceIte, Nat.reduceEqDiff, Nat.reduceAdd, Nat.reduceMul, Nat.reduceBEq, reduceCtorEq]; rfl) ?_
  try dsimp only [thenQ, blockQ]
  refine AW.seq ?_
  refine AW.region ?_
  refine AWL.q rfl rfl rfl (by decide) Qt.move ?_
  refine AWL.q rfl rfl rfl (by decide) (Qt.lenH rfl rfl rfl sl28) ?_
  refine AWL.nrm (by simp only [go_sem, Int.reduceToNat, Nat.reduceLT, reduceIte, Nat.reduceEqDiff, Nat.reduceAdd, Nat.reduceMul, Nat.reduceBEq, reduceCtorEq]; rfl) ?_
  refine AWL.step rfl rfl (Stp.makeSlice rfl (by decide) (by decide) rfl rfl (by omega) (by omega) (by omega)) ?_
  refine AWL.nrm (by simp only [go_sem, Int.reduceToNat, Nat.reduceLT, reduceIte, Nat.reduceEqDiff, Nat.reduceAdd, Nat.reduceMul, Nat.reduceBEq, reduceCtorEq]; rfl) ?_
  refine AWL.q rfl rfl rfl (by decide) Qt.assign ?_
  refine AWL.nilE (by simp only [go_sem, Int.reduceToNat, Nat.reduceLT, reduceIte, Nat.reduceEqDiff, Nat.reduceAdd, Nat.reduceMul, Nat.reduceBEq, reduceCtorEq]; rfl) ?_
  try dsimp only [thenQ, blockQ]
  refine AW.seq ?_
  refine AW.seq ?_
  refine AW.region ?_
  refine AWL.q rfl rfl rfl (by decide) Qt.assign ?_
  refine AWL.nilE (by simp only [go_sem, Int.reduceToNat, Nat.reduceLT, reduceIte, Nat.reduceEqDiff, Nat.reduceAdd, Nat.reduceMul, Nat.reduceBEq, reduceCtorEq]; rfl) ?_
  try dsimp only [thenQ, blockQ]
  refine AW.block ?_
  refine AW.weak (L' := [.sl 4 (.v (iv (0 : Nat))), .sl 3 (.h 7 []), .sl 0 (.h base []), .rt 7 .row (trMix (0 : Nat) a.length (fun j => a.getD j En.dflt) fun _ => En.dflt), .rt base .ro (tr a)]) (Weak.sim ⟨rfl, rfl, rfl, ⟨_, rfl, (trMix_start rfl (fun c hc => match c, hc with | 0, _ => T.sim_refl _ | 1, _ => T.sim_refl _ | 2, _ => T.sim_refl _ | 3, _ => T.sim_refl _ | 4, _ => T.sim_refl _ | c + 5, hc => absurd hc (by simp only [En.n]; omega)))⟩, ⟨_, rfl, T.sim_refl _⟩, trivial⟩ rfl rfl) ?_
  refine AW.loop (fun i : KInv a.length => [.sl 4 (.v (iv i.k)), .sl 3 (.h 7 []), .sl 0 (.h base []), .rt 7 .row (trMix i.k a.length (fun j => a.getD j En.dflt) fun _ => En.dflt), .rt base .ro (tr a)]) (fun i => a.length - i.k) ⟨0, Nat.zero_le _⟩ ?_
  intro i
  have hle := i.le
  refine AW.seq ?_
  refine AW.seq ?_
  refine AW.region ?_
  refine AWL.q rfl rfl rfl (by decide) Qt.move ?_
  refine AWL.nrm (by simp only [go_sem, Int.reduceToNat, Nat.reduceLT, reduceIte, Nat.reduceEqDiff, Nat.reduceAdd, Nat.reduceMul, Nat.reduceBEq, reduceCtorEq]; rfl) ?_
  refine AWL.q rfl rfl rfl (by decide) Qt.move ?_
  refine AWL.q rfl rfl rfl (by decide) (Qt.lenH rfl rfl rfl sl28) ?_
  refine AWL.q rfl rfl rfl (by decide) (Qt.binOp rfl rfl rfl) ?_
  refine AWL.nilE (by simp only [go_sem, Int.reduceToNat, Nat.reduceLT, reduceIte, Nat.reduceEqDiff, Nat.reduceAdd, Nat.reduceMul, Nat.reduceBEq, reduceCtorEq]; rfl) ?_
  try dsimp only [thenQ, blockQ]
  refine AW.cond rfl (fun c1 => ?_) (fun c1 => ?_)
  · have k1 := c1
    try simp only [decide_eq_true_eq, decide_eq_false_iff_not, bne_iff_ne, ne_eq, beq_iff_eq, beq_eq_false_iff_ne, bne_eq_false_iff_eq, Bool.not_eq_true', Bool.not_eq_false', Bool.and_eq_true, Bool.or_eq_true, Bool.and_eq_false_iff, Bool.or_eq_false_iff, Int.not_lt, Int.not_le, Int.toNat_natCast] at c1
    have hwk := wtL_get (w := Mk.wt) (d := En.dflt) (l := a) (i := i.k) (by omega)
    refine AW.skip ?_
    dsimp only [thenQ, blockQ]
    refine AW.seq ?_
    refine AW.block ?_
    refine AW.region ?_
    refine AWL.q rfl rfl rfl (by decide) Qt.move ?_
    refine AWL.nrm (by simp only [go_sem, Int.reduceToNat, Nat.reduceLT, reduceIte, Nat.reduceEqDiff, Nat.reduceAdd, Nat.reduceMul, Nat.reduceBEq, reduceCtorEq]; rfl) ?_
    refine AWL.q rfl rfl rfl (by decide) Qt.move ?_
    refine AWL.q rfl rfl rfl (by decide) Qt.move ?_
    refine AWL.q rfl rfl rfl (by decide) Qt.move ?_
    refine AWL.nrm (by simp only [go_sem, Int.reduceToNat, Nat.reduceLT, reduceIte, Nat.reduceEqDiff, Nat.reduceAdd, Nat.reduceMul, Nat.reduceBEq, reduceCtorEq]; rfl) ?_
    refine AWL.q rfl rfl rfl (by decide) (Qt.indexAddr rfl rfl rfl rfl sl28 sz178 (by decide) (by omega)) ?_
    refine AWL.q rfl rfl rfl (by decide) (Qt.loadG rfl rfl rfl ag178 sz178 (by decide)) ?_
    refine AWL.step rfl rfl (Stp.callR rfl (by decide) Try.call122 rfl rfl (toOpen_con _) (nodup_of rfl) rfl rfl) ?_
    refine AWL.nrm (by simp only [go_sem, Int.reduceToNat, Nat.reduceLT, reduceIte, Nat.reduceEqDiff, Nat.reduceAdd, Nat.reduceMul, Nat.reduceBEq, reduceCtorEq]; rfl) ?_
    refine AWL.q rfl rfl rfl (by decide) (Qt.indexAddr rfl rfl rfl rfl sl38 sz137 (by decide) (by omega)) ?_
    refine AWL.step rfl rfl (by first | exact Stp.storeA rfl rfl rfl rfl (by decide) rfl | exact Stp.store rfl rfl (by simp) rfl rfl rfl (by decide) rfl) ?_
    refine AWL.nilE (by simp only [go_sem, Int.reduceToNat, Nat.reduceLT, reduceIte, Nat.reduceEqDiff, Nat.reduceAdd, Nat.reduceMul, Nat.reduceBEq, reduceCtorEq]; rfl) ?_
    try dsimp only [thenQ, blockQ]
    refine AW.region ?_
    refine AWL.q rfl rfl rfl (by decide) Qt.move ?_
    refine AWL.nrm (by simp only [go_sem, Int.reduceToNat, Nat.reduceLT, reduceIte, Nat.reduceEqDiff, Nat.reduceAdd, Nat.reduceMul, Nat.reduceBEq, reduceCtorEq]; rfl) ?_
    refine AWL.q rfl rfl rfl (by decide) (Qt.binOp rfl rfl (by first | exact pbAdd (by omega) | rfl)) ?_
    refine AWL.q rfl rfl rfl (by decide) Qt.assign ?_
    refine AWL.nilE (by simp only [go_sem, Int.reduceToNat, Nat.reduceLT, reduceIte, Nat.reduceEqDiff, Nat.reduceAdd, Nat.reduceMul, Nat.reduceBEq, reduceCtorEq]; rfl) ?_
    try dsimp only [thenQ, blockQ]
    refine ⟨⟨i.k + 1, by omega⟩, Weak.sim ⟨(by simp only [slotL, reduceIte, Nat.reduceEqDiff]; first | rfl | (rw [IntWalk.i64_in _ (by omega)]; rfl)), rfl, rfl, ⟨_, rfl, trMix_next (fun i c hi => by simp only [upd_app, hi, false_and, if_false]; rfl) (fun c hc => match c, hc with | 0, _ => (by simp only [upd_app, eq_self, and_true, and_false, Nat.reduceEqDiff, if_true, if_false]; exact T.sim_refl _) | 1, _ => (by simp only [upd_app, eq_self, and_true, and_false, Nat.reduceEqDiff, if_true, if_false]; exact T.sim_refl _) | 2, _ => (by simp only [upd_app, eq_self, and_true, and_false, Nat.reduceEqDiff, if_true, if_false]; exact T.sim_refl _) | 3, _ => (by simp only [upd_app, eq_self, and_true, and_false, Nat.reduceEqDiff, if_true, if_false]; exact T.sim_refl _) | 4, _ => (by simp only [upd_app, eq_self, and_true, and_false, Nat.reduceEqDiff, if_true, if_false]; exact T.sim_refl _) | c + 5, hc => absurd hc (by simp only [En.n]; omega))⟩, ⟨_, rfl, T.sim_refl _⟩, trivial⟩ rfl rfl, ?_⟩
    show a.length - (i.k + 1) < a.length - i.k
    omega
  · have k1 := c1
    try simp only [decide_eq_true_eq, decide_eq_false_iff_not, bne_iff_ne, ne_eq, beq_iff_eq, beq_eq_false_iff_ne, bne_eq_false_iff_eq, Bool.not_eq_true', Bool.not_eq_false', Bool.and_eq_true, Bool.or_eq_true, Bool.and_eq_false_iff, Bool.or_eq_false_iff, Int.not_lt, Int.not_le, Int.toNat_natCast] at c1
    refine AW.exit ?_
    dsimp only [thenQ, blockQ, reduceIte]
    refine AW.seq ?_
    refine AW.region ?_
    refine AWL.q rfl rfl rfl (by decide) Qt.move ?_
    refine AWL.nrm (by simp only [go_sem, Int.reduceToNat, Nat.reduceLT, reduceIte, Nat.reduceEqDiff, Nat.reduceAdd, Nat.reduceMul, Nat.reduceBEq, reduceCtorEq]; rfl) ?_
    refine AWL.q rfl rfl rfl (by decide) Qt.assign ?_
    refine AWL.nilE (by simp only [go_sem, Int.reduceToNat, Nat.reduceLT, reduceIte, Nat.reduceEqDiff, Nat.reduceAdd, Nat.reduceMul, Nat.reduceBEq, reduceCtorEq]; rfl) ?_
    try dsimp only [thenQ, blockQ]
    refine AW.weak (L' := [.rt 7 .row (tr a), .sl 2 (.h 7 [])]) (Weak.sim ⟨⟨_, rfl, trMix_full (by omega) rfl (fun _ _ => rfl)⟩, rfl, trivial⟩ rfl rfl) ?_
    refine AW.ret ?_
    try dsimp only [thenQ, blockQ]
    refine endQ_ret (.cons (.tmp 2) .nil) ?_
    refine ⟨fun _ => 7, rfl, nodup_of rfl, ?_⟩
    intro r hr
    cases List.mem_singleton.1 hr
    exact ⟨by simp, rootL_mem rfl⟩
set_option maxHeartbeats 8000000 in
set_option maxRecDepth 10000 in
theorem toBPipe_con (a : DBPipe) (hw : Mk.wt a ≤ 1048576) : Con Try.prog 123 [.g [.v (iv a.Id), .h base []]] [.rt base .ro (tr a.Chunks)] (Ret (.g [.v (iv a.Id), .h 0 []]) [(0, .row, tr a.Chunks)]) := by
  refine Con.of_body Try.func123 rfl (by simp) ?_
  rw [Try.ntmps123]
  refine AW.seq ?_
  refine AW.region ?_
  refine AWL.step rfl rfl (Stp.boxB rfl (by decide) (by decide) rfl rfl rfl rfl) ?_
  refine AWL.nrm (by simp only [go_sem, Int.reduceToNat, Nat.reduceLT, reduceIte, Nat.reduceEqDiff, Nat.reduceAdd, Nat.reduceMul, Nat.reduceBEq, reduceCtorEq]; rfl) ?_
  refine AWL.step rfl rfl (Stp.alloc rfl (by decide) (by decide)) ?_
  refine AWL.nilE (by simp only [go_sem, Int.reduceToNat, Nat.reduceLT, reduceIte, Nat.reduceEqDiff, Nat.reduceAdd, Nat.reduceMul, Nat.reduceBEq, reduceCtorEq]; rfl) ?_
  try dsimp only [thenQ, blockQ]
  refine AW.seq ?_
  refine AW.region ?_
  refine AWL.step rfl rfl (Stp.alloc rfl (by decide) (by decide)) ?_
  refine AWL.nilE (by simp only [go_sem, Int.reduceToNat, Nat.reduceLT, reduceIte, Nat.reduceEqDiff, Nat.reduceAdd, Nat.reduceMul, Nat.reduceBEq, reduceCtorEq]; rfl) ?_
  try dsimp only [thenQ, blockQ]
  refine AW.seq ?_
  refine AW.region ?_
  refine AWL.q rfl rfl rfl (by decide) (Qt.fieldAddr rfl fl172_0 rfl rfl (by decide)) ?_
  refine AWL.nrm (by simp only [go_sem, Int.reduceToNat, Nat.reduceLT, reduceIte, Nat.reduceEqDiff, Nat.reduceAdd, Nat.reduceMul, Nat.reduceBEq, reduceCtorEq]; rfl) ?_
  refine AWL.q rfl rfl rfl (by decide) (Qt.load1 rfl rfl rfl ag3) ?_
  refine AWL.q rfl rfl rfl (by decide) (Qt.fieldAddr rfl fl101_0 rfl rfl (by decide)) ?_
  refine AWL.step rfl rfl (by first | exact Stp.storeA rfl rfl rfl rfl (by decide) rfl | exact Stp.store rfl rfl (by simp) rfl rfl rfl (by decide) rfl) ?_
  refine AWL.nilE (by simp only [go_sem, Int.reduceToNat, Nat.reduceLT, reduceIte, Nat.reduceEqDiff, Nat.reduceAdd, Nat.reduceMul, Nat.reduceBEq, reduceCtorEq]; rfl) ?_
  try dsimp only [thenQ, blockQ]
  refine AW.seq ?_
  refine AW.region ?_
  refine AWL.q rfl rfl rfl (by decide) (Qt.fieldAddr rfl fl172_1 rfl rfl (by decide)) ?_
  refine AWL.nrm (by simp only [go_sem, Int.reduceToNat, Nat.reduceLT, reduceIte, Nat.reduceEqDiff, Nat.reduceAdd, Nat.reduceMul, Nat.reduceBEq, reduceCtorEq]; rfl) ?_
  refine AWL.q rfl rfl rfl (by decide) (Qt.load1 rfl rfl rfl ag25) ?_
  refine AWL.step rfl rfl (Stp.callR rfl (by decide) Try.call102 rfl rfl (toIntSS_con _ (by first | omega | (simp only [Int.toNat_natCast]; omega) | (simp only [Mk.wt] at *; omega))) (nodup_of rfl) rfl rfl) ?_
  refine AWL.nrm (by simp only [go_sem, Int.reduceToNat, Nat.reduceLT, reduceIte, Nat.reduceEqDiff, Nat.reduceAdd, Nat.reduceMul, Nat.reduceBEq, reduceCtorEq]; rfl) ?_
  refine AWL.q rfl rfl rfl (by decide) (Qt.fieldAddr rfl fl101_1 rfl rfl (by decide)) ?_
  refine AWL.step rfl rfl (by first | exact Stp.storeA rfl rfl rfl rfl (by decide) rfl | exact Stp.store rfl rfl (by simp) rfl rfl rfl (by decide) rfl) ?_
  refine AWL.nilE (by simp only [go_sem, Int.reduceToNat, Nat.reduceLT, reduceIte, Nat.reduceEqDiff, Nat.reduceAdd, Nat.reduceMul, Nat.reduceBEq, reduceCtorEq]; rfl) ?_
  try dsimp only [thenQ, blockQ]
  refine AW.seq ?_
  refine AW.region ?_
  refine AWL.q rfl rfl rfl (by decide) (Qt.loadG rfl rfl rfl ag101 sz101 (by decide)) ?_
  refine AWL.nrm (by simp only [go_sem, Int.reduceToNat, Nat.reduceLT, reduceIte, Nat.reduceEqDiff, Nat.reduceAdd, Nat.reduceMul, Nat.reduceBEq, reduceCtorEq]; rfl) ?_
  refine AWL.step rfl rfl (by first | exact Stp.storeA rfl rfl rfl rfl (by decide) rfl | exact Stp.store rfl rfl (by simp) rfl rfl rfl (by decide) rfl) ?_
  refine AWL.nilE (by simp only [go_sem, Int.reduceToNat, Nat.reduceLT, reduceIte, Nat.reduceEqDiff, Nat.reduceAdd, Nat.reduceMul, Nat.reduceBEq, reduceCtorEq]; rfl) ?_
  try dsimp only [thenQ, blockQ]
  refine AW.ret ?_
  try dsimp only [thenQ, blockQ]
  refine endQ_ret (.cons (.cellG 2 101 rfl rfl rfl ag101 sz101 (by decide)) .nil) ?_
  refine ⟨fun _ => 9, rfl, nodup_of rfl, ?_⟩
  intro r hr
  cases List.mem_singleton.1 hr
  exact ⟨by simp, rootL_mem rfl⟩
set_option maxHeartbeats 8000000 in
set_option maxRecDepth 10000 in
theorem toBPipeS_con (a : List DBPipe) (hw : Mk.wt a ≤ 1048576) : Con Try.prog 45 [.h base []] [.rt base .ro (tr a)] (Ret (.h 0 []) [(0, .row, tr a)]) := by
  refine Con.of_body Try.func45 rfl (by simp) ?_
  rw [Try.ntmps45]
  have hw2 : a.length + wtL Mk.wt a ≤ 1048576 := hw
  refine AW.seq ?_
  refine AW.region ?_
  refine AWL.q rfl rfl rfl (by decide) Qt.assign ?_
  refine AWL.nilE (by simp only [go_sem, Int.reduceToNat, Nat.reduceLT, reduceIte, Nat.reduceEqDiff, Nat.reduceAdd, Nat.reduceMul, Nat.reduceBEq, reduceCtorEq]; rfl) ?_
  try dsimp only [thenQ, blockQ]
  refine AW.seq ?_
  refine AW.region ?_
  refine AWL.q rfl rfl rfl (by decide) Qt.move ?_
  refine AWL.q rfl rfl rfl (by decide) (Qt.lenH rfl rfl rfl sl29) ?_
  refine AWL.nrm (by simp only [go_sem, Int.reduceToNat, Nat.reduceLT, reduceIte, Nat.reduceEqDiff, Nat.reduceAdd, Nat.reduceMul, Nat.reduceBEq, reduceCtorEq]; rfl) ?_
  refine AWL.step rfl rfl (Stp.makeSlice rfl (by decide) (by decide) rfl rfl (by omega) (by omega) (by omega)) ?_
  refine AWL.nrm (by simp only [go_sem, Int.reduceToNat, Nat.reduceLT, reduceIte, Nat.reduceEqDiff, Nat.reduceAdd, Nat.reduceMul, Nat.reduceBEq, reduceCtorEq]; rfl) ?_
  refine AWL.q rfl rfl rfl (by decide) Qt.assign ?_
  refine AWL.nilE (by simp only [go_sem, Int.reduceToNat, Nat.reduceLT, reduceIte, Nat.reduceEqDiff, Nat.reduceAdd, Nat.reduceMul, Nat.reduceBEq, reduceCtorEq]; rfl) ?_
  try dsimp only [thenQ, blockQ]
  refine AW.seq ?_
  refine AW.seq ?_
  refine AW.region ?_
  refine AWL.q rfl rfl rfl (by decide) Qt.assign ?_
  refine AWL.nilE (by simp only [go_sem, Int.reduceToNat, Nat.reduceLT, reduceIte, Nat.reduceEqDiff, Nat.reduceAdd, Nat.reduceMul, Nat.reduceBEq, reduceCtorEq]; rfl) ?_
  try dsimp only [thenQ, blockQ]
  refine AW.block ?_
  refine AW.weak (L' := [.sl 4 (.v (iv (0 : Nat))), .sl 3 (.h 7 []), .sl 0 (.h base []), .rt 7 .row (trMix (0 : Nat) a.length (fun j => a.getD j En.dflt) fun _ => En.dflt), .rt base .ro (tr a)]) (Weak.sim ⟨rfl, rfl, rfl, ⟨_, rfl, (trMix_start rfl (fun c hc => match c, hc with | 0, _ => T.sim_refl _ | 1, _ => sim_nil | c + 2, hc => absurd hc (by simp only [En.n]; omega)))⟩, ⟨_, rfl, T.sim_refl _⟩, trivial⟩ rfl rfl) ?_
  refine AW.loop (fun i : KInv a.length => [.sl 4 (.v (iv i.k)), .sl 3 (.h 7 []), .sl 0 (.h base []), .rt 7 .row (trMix i.k a.length (fun j => a.getD j En.dflt) fun _ => En.dflt), .rt base .ro (tr a)]) (fun i => a.length - i.k) ⟨0, Nat.zero_le _⟩ ?_
  intro i
  have hle := i.le
  refine AW.seq ?_
  refine AW.seq ?_
  refine AW.region ?_
  refine AWL.q rfl rfl rfl (by decide) Qt.move ?_
  refine AWL.nrm (by simp only [go_sem, Int.reduceToNat, Nat.reduceLT, reduceIte, Nat.reduceEqDiff, Nat.reduceAdd, Nat.reduceMul, Nat.reduceBEq, reduceCtorEq]; rfl) ?_
  refine AWL.q rfl rfl rfl (by decide) Qt.move ?_
  refine AWL.q rfl rfl rfl (by decide) (Qt.lenH rfl rfl rfl sl29) ?_
  refine AWL.q rfl rfl rfl (by decide) (Qt.binOp rfl rfl rfl) ?_
  refine AWL.nilE (by simp only [go_sem, Int.reduceToNat, Nat.reduceLT, reduceIte, Nat.reduceEqDiff, Nat.reduceAdd, Nat.reduceMul, Nat.reduceBEq, reduceCtorEq]; rfl) ?_
  try dsimp only [thenQ, blockQ]
  refine AW.cond rfl (fun c1 => ?_) (fun c1 => ?_)
  · have k1 := c1
    try simp only [decide_eq_true_eq, decide_eq_false_iff_not, bne_iff_ne, ne_eq, beq_iff_eq, beq_eq_false_iff_ne, bne_eq_false_iff_eq, Bool.not_eq_true', Bool.not_eq_false', Bool.and_eq_true, Bool.or_eq_true, Bool.and_eq_false_iff, Bool.or_eq_false_iff, Int.not_lt, Int.not_le, Int.toNat_natCast] at c1
    have hwk := wtL_get (w := Mk.wt) (d := En.dflt) (l := a) (i := i.k) (by omega)
    refine AW.skip ?_
    dsimp only [thenQ, blockQ]
    refine AW.seq ?_
    refine AW.block ?_
    refine AW.region ?_
    refine AWL.q rfl rfl rfl (by decide) Qt.move ?_
    refine AWL.nrm (by simp only [go_sem, Int.reduceToNat, Nat.reduceLT, reduceIte, Nat.reduceEqDiff, Nat.reduceAdd, Nat.reduceMul, Nat.reduceBEq, reduceCtorEq]; rfl) ?_
    refine AWL.q rfl rfl rfl (by decide) Qt.move ?_
    refine AWL.q rfl rfl rfl (by decide) Qt.move ?_
    refine AWL.q rfl rfl rfl (by decide) Qt.move ?_
    refine AWL.nrm (by simp only [go_sem, Int.reduceToNat, Nat.reduceLT, reduceIte, Nat.reduceEqDiff, Nat.reduceAdd, Nat.reduceMul, Nat.reduceBEq, reduceCtorEq]; rfl) ?_
    refine AWL.q rfl rfl rfl (by decide) (Qt.indexAddr rfl rfl rfl rfl sl29 sz172 (by decide) (by omega)) ?_
    refine AWL.q rfl rfl rfl (by decide) (Qt.loadG rfl rfl rfl ag172 sz172 (by decide)) ?_
    refine AWL.step rfl rfl (Stp.callR rfl (by decide) Try.call123 rfl rfl (toBPipe_con _ (by first | omega | (simp only [Int.toNat_natCast]; omega) | (simp only [Mk.wt] at *; omega))) (nodup_of rfl) rfl rfl) ?_
    refine AWL.nrm (by simp only [go_sem, Int.reduceToNat, Nat.reduceLT, reduceIte, Nat.reduceEqDiff, Nat.reduceAdd, Nat.reduceMul, Nat.reduceBEq, reduceCtorEq]; rfl) ?_
    refine AWL.q rfl rfl rfl (by decide) (Qt.indexAddr rfl rfl rfl rfl sl39 sz101 (by decide) (by omega)) ?_
    refine AWL.step rfl rfl (by first | exact Stp.storeA rfl rfl rfl rfl (by decide) rfl | exact Stp.store rfl rfl (by simp) rfl rfl rfl (by decide) rfl) ?_
    refine AWL.nilE (by simp only [go_sem, Int.reduceToNat, Nat.reduceLT, reduceIte, Nat.reduceEqDiff, Nat.reduceAdd, Nat.reduceMul, Nat.reduceBEq, reduceCtorEq]; rfl) ?_
    try dsimp only [thenQ, blockQ]
    refine AW.region ?_
    refine AWL.q rfl rfl rfl (by decide) Qt.move ?_
    refine AWL.nrm (by simp only [go_sem, Int.reduceToNat, Nat.reduceLT, reduceIte, Nat.reduceEqDiff, Nat.reduceAdd, Nat.reduceMul, Nat.reduceBEq, reduceCtorEq]; rfl) ?_
    refine AWL.q rfl rfl rfl (by decide) (Qt.binOp rfl rfl (by first | exact pbAdd (by omega) | rfl)) ?_
    refine AWL.q rfl rfl rfl (by decide) Qt.assign ?_
    refine AWL.nilE (by simp only [go_sem, Int.reduceToNat, Nat.reduceLT, reduceIte, Nat.reduceEqDiff, Nat.reduceAdd, Nat.reduceMul, Nat.reduceBEq, reduceCtorEq]; rfl) ?_
    try dsimp only [thenQ, blockQ]
    refine ⟨⟨i.k + 1, by omega⟩, Weak.sim ⟨(by simp only [slotL, reduceIte, Nat.reduceEqDiff]; first | rfl | (rw [IntWalk.i64_in _ (by omega)]; rfl)), rfl, rfl, ⟨_, rfl, trMix_next (fun i c hi => by simp only [upd_app, hi, false_and, if_false]; rfl) (fun c hc => match c, hc with | 0, _ => (by simp only [upd_app, eq_self, and_true, and_false, Nat.reduceEqDiff, if_true, if_false]; exact T.sim_refl _) | 1, _ => (by simp only [upd_app, eq_self, and_true, and_false, Nat.reduceEqDiff, if_true, if_false]; exact T.sim_refl _) | c + 2, hc => absurd hc (by simp only [En.n]; omega))⟩, ⟨_, rfl, T.sim_refl _⟩, trivial⟩ rfl rfl, ?_⟩
    show a.length - (i.k + 1) < a.length - i.k
    omega
  · have k1 := c1
    try simp only [decide_eq_true_eq, decide_eq_false_iff_not, bne_iff_ne, ne_eq, beq_iff_eq, beq_eq_false_iff_ne, bne_eq_false_iff_eq, Bool.not_eq_true', Bool.not_eq_false', Bool.and_eq_true, Bool.or_eq_true, Bool.and_eq_false_iff, Bool.or_eq_false_iff, Int.not_lt, Int.not_le, Int.toNat_natCast] at c1
    refine AW.exit ?_
    dsimp only [thenQ, blockQ, reduceIte]
    refine AW.seq ?_
    refine AW.region ?_
    refine AWL.q rfl rfl rfl (by decide) Qt.move ?_
    refine AWL.nrm (by simp only [go_sem, Int.reduceToNat, Nat.reduceLT, reduceIte, Nat.reduceEqDiff, Nat.reduceAdd, Nat.reduceMul, Nat.reduceBEq, reduceCtorEq]; rfl) ?_
    refine AWL.q rfl rfl rfl (by decide) Qt.assign ?_
    refine AWL.nilE (by simp only [go_sem, Int.reduceToNat, Nat.reduceLT, reduceIte, Nat.reduceEqDiff, Nat.reduceAdd, Nat.reduceMul, Nat.reduceBEq, reduceCtorEq]; rfl) ?_
    try dsimp only [thenQ, blockQ]
    refine AW.weak (L' := [.rt 7 .row (tr a), .sl 2 (.h 7 [])]) (Weak.sim ⟨⟨_, rfl, trMix_full (by omega) rfl (fun _ _ => rfl)⟩, rfl, trivial⟩ rfl rfl) ?_
    refine AW.ret ?_
    try dsimp only [thenQ, blockQ]
    refine endQ_ret (.cons (.tmp 2) .nil) ?_
    refine ⟨fun _ => 7, rfl, nodup_of rfl, ?_⟩
    intro r hr
    cases List.mem_singleton.1 hr
    exact ⟨by simp, rootL_mem rfl⟩
end Go.Proofs.Ytimmbmphfgnelaa.VM
