/- Contracts of functions of the program. No conditions beyond those that each states. -/
import Derived.Test.YtfbefcmeghpalaaGreatCU0
set_option linter.all false
set_option maxHeartbeats 8000000
set_option maxRecDepth 10000
namespace Go.Proofs.YtfbefcmeghpalaaGreat.VM
open Go Go.RowKit Go.Proofs
structure DIns where
 Op : Int
 A : Int
 B : Int
 C : Int
deriving DecidableEq
instance : En DIns := ⟨4, by omega, fun a => [.v (iv a.Op), .v (iv a.A), .v (iv a.B), .v (iv a.C)], fun _ => rfl, fun a => En.fit a.Op ∧ En.fit a.A ∧ En.fit a.B ∧ En.fit a.C, ⟨0, 0, 0, 0⟩⟩
@[go_sem] theorem cs_Ins (a : DIns) : En.cs a = [.v (iv a.Op), .v (iv a.A), .v (iv a.B), .v (iv a.C)] := rfl
instance : Mk DIns := { wt := fun _ => 0, cnt := fun a => 1 + 1 + 1 + 1, mark := fun _ k => ⟨k, k + 1, k + 1 + 1, k + 1 + 1 + 1⟩, cnt_mk := fun a k => by simp [Mk.cnt_mk] }
theorem cnt_Ins (a : DIns) : Mk.cnt a = 1 + 1 + 1 + 1 := rfl
structure DCpu where
 Pc : Int
 Regs : List Int
deriving DecidableEq
instance : En DCpu := ⟨2, by omega, fun a => [.v (iv a.Pc), tr a.Regs], fun _ => rfl, fun a => En.fit a.Pc ∧ En.fit a.Regs, ⟨0, []⟩⟩
@[go_sem] theorem cs_Cpu (a : DCpu) : En.cs a = [.v (iv a.Pc), tr a.Regs] := rfl
instance : Mk DCpu := { wt := fun a => Mk.wt a.Regs, cnt := fun a => 1 + (Mk.cnt a.Regs), mark := fun a k => ⟨k, Mk.mark a.Regs (k + 1)⟩, cnt_mk := fun a k => by simp [Mk.cnt_mk] }
structure DProc where
 Pid : Int
 Parent : Int
 State : Int
 Prog : Int
 Cpu : DCpu
 Mem : List Int
 Fds : List Int
 Until : Int
 Code : Int
deriving DecidableEq
instance : En DProc := ⟨10, by omega, fun a => [.v (iv a.Pid), .v (iv a.Parent), .v (iv a.State), .v (iv a.Prog), .v (iv a.Cpu.Pc), tr a.Cpu.Regs, tr a.Mem, tr a.Fds, .v (iv a.Until), .v (iv a.Code)], fun _ => rfl, fun a => En.fit a.Pid ∧ En.fit a.Parent ∧ En.fit a.State ∧ En.fit a.Prog ∧ En.fit a.Cpu ∧ En.fit a.Mem ∧ En.fit a.Fds ∧ En.fit a.Until ∧ En.fit a.Code, ⟨0, 0, 0, 0, ⟨0, []⟩, [], [], 0, 0⟩⟩
@[go_sem] theorem cs_Proc (a : DProc) : En.cs a = [.v (iv a.Pid), .v (iv a.Parent), .v (iv a.State), .v (iv a.Prog), .v (iv a.Cpu.Pc), tr a.Cpu.Regs, tr a.Mem, tr a.Fds, .v (iv a.Until), .v (iv a.Code)] := rfl
instance : Mk DProc := { wt := fun a => Mk.wt a.Cpu.Regs + Mk.wt a.Mem + Mk.wt a.Fds, cnt := fun a => 1 + 1 + 1 + 1 + 1 + (Mk.cnt a.Cpu.Regs) + (Mk.cnt a.Mem) + (Mk.cnt a.Fds) + 1 + 1, mark := fun a k => ⟨k, k + 1, k + 1 + 1, k + 1 + 1 + 1, ⟨k + 1 + 1 + 1 + 1, Mk.mark a.Cpu.Regs (k + 1 + 1 + 1 + 1 + 1)⟩, Mk.mark a.Mem (k + 1 + 1 + 1 + 1 + 1 + (Mk.cnt a.Cpu.Regs : Nat)), Mk.mark a.Fds (k + 1 + 1 + 1 + 1 + 1 + (Mk.cnt a.Cpu.Regs : Nat) + (Mk.cnt a.Mem : Nat)), k + 1 + 1 + 1 + 1 + 1 + (Mk.cnt a.Cpu.Regs : Nat) + (Mk.cnt a.Mem : Nat) + (Mk.cnt a.Fds : Nat), k + 1 + 1 + 1 + 1 + 1 + (Mk.cnt a.Cpu.Regs : Nat) + (Mk.cnt a.Mem : Nat) + (Mk.cnt a.Fds : Nat) + 1⟩, cnt_mk := fun a k => by simp [Mk.cnt_mk] }
theorem cnt_Proc (a : DProc) : Mk.cnt a = 1 + 1 + 1 + 1 + 1 + (Mk.cnt a.Cpu.Regs) + (Mk.cnt a.Mem) + (Mk.cnt a.Fds) + 1 + 1 := rfl
structure DOpen where
 Id : Int
 Kind : Int
 Target : Int
 Off : Int
 Refs : Int
deriving DecidableEq
instance : En DOpen := ⟨5, by omega, fun a => [.v (iv a.Id), .v (iv a.Kind), .v (iv a.Target), .v (iv a.Off), .v (iv a.Refs)], fun _ => rfl, fun a => En.fit a.Id ∧ En.fit a.Kind ∧ En.fit a.Target ∧ En.fit a.Off ∧ En.fit a.Refs, ⟨0, 0, 0, 0, 0⟩⟩
@[go_sem] theorem cs_Open (a : DOpen) : En.cs a = [.v (iv a.Id), .v (iv a.Kind), .v (iv a.Target), .v (iv a.Off), .v (iv a.Refs)] := rfl
instance : Mk DOpen := { wt := fun _ => 0, cnt := fun a => 1 + 1 + 1 + 1 + 1, mark := fun _ k => ⟨k, k + 1, k + 1 + 1, k + 1 + 1 + 1, k + 1 + 1 + 1 + 1⟩, cnt_mk := fun a k => by simp [Mk.cnt_mk] }
theorem cnt_Open (a : DOpen) : Mk.cnt a = 1 + 1 + 1 + 1 + 1 := rfl
structure DPipe where
 Id : Int
 Data : List Int
deriving DecidableEq
instance : En DPipe := ⟨2, by omega, fun a => [.v (iv a.Id), tr a.Data], fun _ => rfl, fun a => En.fit a.Id ∧ En.fit a.Data, ⟨0, []⟩⟩
@[go_sem] theorem cs_Pipe (a : DPipe) : En.cs a = [.v (iv a.Id), tr a.Data] := rfl
instance : Mk DPipe := { wt := fun a => Mk.wt a.Data, cnt := fun a => 1 + (Mk.cnt a.Data), mark := fun a k => ⟨k, Mk.mark a.Data (k + 1)⟩, cnt_mk := fun a k => by simp [Mk.cnt_mk] }
theorem cnt_Pipe (a : DPipe) : Mk.cnt a = 1 + (Mk.cnt a.Data) := rfl
structure DFile where
 Name : Int
 Data : List Int
deriving DecidableEq
instance : En DFile := ⟨2, by omega, fun a => [.v (iv a.Name), tr a.Data], fun _ => rfl, fun a => En.fit a.Name ∧ En.fit a.Data, ⟨0, []⟩⟩
@[go_sem] theorem cs_File (a : DFile) : En.cs a = [.v (iv a.Name), tr a.Data] := rfl
instance : Mk DFile := { wt := fun a => Mk.wt a.Data, cnt := fun a => 1 + (Mk.cnt a.Data), mark := fun a k => ⟨k, Mk.mark a.Data (k + 1)⟩, cnt_mk := fun a k => by simp [Mk.cnt_mk] }
theorem cnt_File (a : DFile) : Mk.cnt a = 1 + (Mk.cnt a.Data) := rfl
structure DUnix where
 Next : Int
 Tick : Int
 Progs : List (List DIns)
 Procs : List DProc
 Opens : List DOpen
 Pipes : List DPipe
 Files : List DFile
 Ready : List Int
 Out : List Int
deriving DecidableEq
instance : En DUnix := ⟨9, by omega, fun a => [.v (iv a.Next), .v (iv a.Tick), tr a.Progs, tr a.Procs, tr a.Opens, tr a.Pipes, tr a.Files, tr a.Ready, tr a.Out], fun _ => rfl, fun a => En.fit a.Next ∧ En.fit a.Tick ∧ En.fit a.Progs ∧ En.fit a.Procs ∧ En.fit a.Opens ∧ En.fit a.Pipes ∧ En.fit a.Files ∧ En.fit a.Ready ∧ En.fit a.Out, ⟨0, 0, [], [], [], [], [], [], []⟩⟩
@[go_sem] theorem cs_Unix (a : DUnix) : En.cs a = [.v (iv a.Next), .v (iv a.Tick), tr a.Progs, tr a.Procs, tr a.Opens, tr a.Pipes, tr a.Files, tr a.Ready, tr a.Out] := rfl
instance : Mk DUnix := { wt := fun a => Mk.wt a.Progs + Mk.wt a.Procs + Mk.wt a.Opens + Mk.wt a.Pipes + Mk.wt a.Files + Mk.wt a.Ready + Mk.wt a.Out, cnt := fun a => 1 + 1 + (Mk.cnt a.Progs) + (Mk.cnt a.Procs) + (Mk.cnt a.Opens) + (Mk.cnt a.Pipes) + (Mk.cnt a.Files) + (Mk.cnt a.Ready) + (Mk.cnt a.Out), mark := fun a k => ⟨k, k + 1, Mk.mark a.Progs (k + 1 + 1), Mk.mark a.Procs (k + 1 + 1 + (Mk.cnt a.Progs : Nat)), Mk.mark a.Opens (k + 1 + 1 + (Mk.cnt a.Progs : Nat) + (Mk.cnt a.Procs : Nat)), Mk.mark a.Pipes (k + 1 + 1 + (Mk.cnt a.Progs : Nat) + (Mk.cnt a.Procs : Nat) + (Mk.cnt a.Opens : Nat)), Mk.mark a.Files (k + 1 + 1 + (Mk.cnt a.Progs : Nat) + (Mk.cnt a.Procs : Nat) + (Mk.cnt a.Opens : Nat) + (Mk.cnt a.Pipes : Nat)), Mk.mark a.Ready (k + 1 + 1 + (Mk.cnt a.Progs : Nat) + (Mk.cnt a.Procs : Nat) + (Mk.cnt a.Opens : Nat) + (Mk.cnt a.Pipes : Nat) + (Mk.cnt a.Files : Nat)), Mk.mark a.Out (k + 1 + 1 + (Mk.cnt a.Progs : Nat) + (Mk.cnt a.Procs : Nat) + (Mk.cnt a.Opens : Nat) + (Mk.cnt a.Pipes : Nat) + (Mk.cnt a.Files : Nat) + (Mk.cnt a.Ready : Nat))⟩, cnt_mk := fun a k => by simp [Mk.cnt_mk] }
theorem szInsS_con (a : List DIns) (left : Int) (h1 : -1 ≤ left) (h2 : left ≤ 1048576) : Con Tryz.prog 113 [.h base [], .v (iv left)] [.rt base .ro (tr a)] (fun y _ => y = .v (iv (szd (Mk.wt a) left))) := by
 refine ob Tryz.func113 Tryz.ntmps113 ?_
 have hw : Mk.wt a = a.length := by rw [wt_list, wtL_zero (w := Mk.wt) (fun _ => rfl)]; rfl
 refine AW.len base [] rfl (by simp [Okp]) rfl (fun hl => ?_)
 refine sr ?_
 refine qs' ?_
 refine qm ?_
 refine mn ?_
 refine qh sl135 ?_
 refine qq (Qt.binOp rfl rfl (by first | exact pbSub (by omega) | rfl)) ?_
 refine qn ?_
 refine sr2 ?_
 refine mn ?_
 refine qb ?_
 refine nc (fun c1 => ?_) fun c1 => ?_
 ·try simp only [cnd] at c1
  refine sr ?_
  refine qr 4 ?_
  simp only [retX, slotL, reduceIte, Nat.reduceEqDiff, szd, hw]
  congr 2
  omega
 try simp only [cnd] at c1
 refine jd (sr ?_)
 refine mn ?_
 refine qr 4 ?_
 simp only [retX, slotL, reduceIte, Nat.reduceEqDiff, szd, hw]
 congr 2
 omega
theorem szInsSS_con (a : List (List DIns)) (left : Int) (h1 : -1 ≤ left) (h2 : left ≤ 1048576) : Con Tryz.prog 46 [.h base [], .v (iv left)] [.rt base .ro (tr a)] (fun y _ => y = .v (iv (szd (Mk.wt a) left))) := by
 refine ob Tryz.func46 Tryz.ntmps46 ?_
 have hw : Mk.wt a = a.length + wtL Mk.wt a := rfl
 refine AW.len base [] rfl (by simp [Okp]) rfl (fun hl => ?_)
 refine sr ?_
 refine qs' ?_
 refine qm ?_
 refine mn ?_
 refine qh sl35 ?_
 refine qq (Qt.binOp rfl rfl (by first | exact pbSub (by omega) | rfl)) ?_
 refine qn ?_
 refine sr2 ?_
 refine mn ?_
 refine qb ?_
 refine nc (fun c1 => ?_) fun c1 => ?_
 ·try simp only [cnd] at c1
  refine sr ?_
  refine qr 4 ?_
  simp only [retX, slotL, reduceIte, Nat.reduceEqDiff]
  try have hi0 := i.nn
  have hcw := cumN_wt a
  have hz := szd_cases (Mk.wt a) left
  try have hce : cumN Mk.wt En.dflt a i.k = cumN Mk.wt En.dflt a a.length := by rw [show i.k = a.length by omega]
  congr 2
  omega
 try simp only [cnd] at c1
 refine jd (sr2 ?_)
 refine qn ?_
 refine AW.block ?_
 refine AW.weak (L' := [.sl 5 (.v (iv (0 : Nat))), .sl 1 (.v (iv (left - a.length - (cumN Mk.wt En.dflt a 0 : Nat)))), .sl 0 (.h base []), .rt base .ro (tr a)]) (Weak.sim ⟨rfl, (by simp only [slotL, reduceIte, Nat.reduceEqDiff]; show X.v (iv (left - a.length)) = _; simp [cumN]), rfl, Rf rfl, trivial⟩ rfl rfl) ?_
 refine AW.loop (fun i : SzInv left a => [.sl 5 (.v (iv i.k)), .sl 1 (.v (iv (left - a.length - (cumN Mk.wt En.dflt a i.k : Nat)))), .sl 0 (.h base []), .rt base .ro (tr a)]) (fun i => a.length - i.k) ⟨0, Nat.zero_le _, by simp only [cumN]; omega⟩ ?_
 intro i
 have hle := i.le
 refine sr2 ?_
 refine mn ?_
 refine qm ?_
 refine qh sl35 ?_
 refine qb ?_
 refine nc (fun c2 => ?_) fun c2 => ?_
 ·try simp only [cnd] at c2
  have hi0 := i.nn
  have hcw := cumN_wt a
  have hc1 := cumN_mono (c := Mk.wt) (d := En.dflt) (l := a) (show i.k + 1 ≤ a.length by omega)
  simp only [cumN] at hc1
  have hz2 := szd_cases (Mk.wt (a.getD i.k En.dflt)) (left - a.length - (cumN Mk.wt En.dflt a i.k : Nat))
  refine jd (AW.seq (AW.block (sr ?_)))
  refine mn ?_
  refine qm ?_
  refine qq (ix sl35 sz135) ?_
  refine ql ag135 ?_
  refine nm ?_
  refine qm ?_
  refine cv Tryz.call113 rfl rfl (szInsS_con _ _ (by first | omega | (repeat (first | omega | apply szd_lo))) (by first | omega | (repeat (first | omega | apply szd_hi)))) ?_
  refine nm ?_
  refine qs' ?_
  refine qm ?_
  refine qb ?_
  refine nc (fun c3 => ?_) fun c3 => ?_
  ·try simp only [cnd] at c3
   refine sr ?_
   refine qr 4 ?_
   simp only [retX, slotL, reduceIte, Nat.reduceEqDiff]
   try have hi0 := i.nn
   have hcw := cumN_wt a
   have hz := szd_cases (Mk.wt a) left
   try have hce : cumN Mk.wt En.dflt a i.k = cumN Mk.wt En.dflt a a.length := by rw [show i.k = a.length by omega]
   congr 2
   omega
  try simp only [cnd] at c3
  refine jd (AW.region ?_)
  refine mn ?_
  refine ba ?_
  refine qn ?_
  refine ⟨⟨i.k + 1, by omega, by simp only [cumN]; omega⟩, Weak.sim ⟨st1, (by simp only [slotL, reduceIte, Nat.reduceEqDiff]; congr 2; simp only [cumN]; omega), rfl, Rf rfl, trivial⟩ rfl rfl, ?_⟩
  show a.length - (i.k + 1) < a.length - i.k
  omega
 try simp only [cnd] at c2
 refine AW.exit ?_
 dsimp only [thenQ, blockQ, reduceIte]
 refine sr ?_
 refine mn ?_
 refine qr 4 ?_
 simp only [retX, slotL, reduceIte, Nat.reduceEqDiff]
 try have hi0 := i.nn
 have hcw := cumN_wt a
 have hz := szd_cases (Mk.wt a) left
 try have hce : cumN Mk.wt En.dflt a i.k = cumN Mk.wt En.dflt a a.length := by rw [show i.k = a.length by omega]
 congr 2
 omega
theorem szIntS_con (a : List Int) (left : Int) (h1 : -1 ≤ left) (h2 : left ≤ 1048576) : Con Tryz.prog 66 [.h base [], .v (iv left)] [.rt base .ro (tr a)] (fun y _ => y = .v (iv (szd (Mk.wt a) left))) := by
 refine ob Tryz.func66 Tryz.ntmps66 ?_
 have hw : Mk.wt a = a.length := by rw [wt_list, wtL_zero (w := Mk.wt) (fun _ => rfl)]; rfl
 refine AW.len base [] rfl (by simp [Okp]) rfl (fun hl => ?_)
 refine sr ?_
 refine qs' ?_
 refine qm ?_
 refine mn ?_
 refine qh sl29 ?_
 refine qq (Qt.binOp rfl rfl (by first | exact pbSub (by omega) | rfl)) ?_
 refine qn ?_
 refine sr2 ?_
 refine mn ?_
 refine qb ?_
 refine nc (fun c1 => ?_) fun c1 => ?_
 ·try simp only [cnd] at c1
  refine sr ?_
  refine qr 4 ?_
  simp only [retX, slotL, reduceIte, Nat.reduceEqDiff, szd, hw]
  congr 2
  omega
 try simp only [cnd] at c1
 refine jd (sr ?_)
 refine mn ?_
 refine qr 4 ?_
 simp only [retX, slotL, reduceIte, Nat.reduceEqDiff, szd, hw]
 congr 2
 omega
theorem szCpu_con (a : DCpu) (left : Int) (h1 : -1 ≤ left) (h2 : left ≤ 1048576) : Con Tryz.prog 232 [.g [.v (iv a.Pc), .h base []], .v (iv left)] [.rt base .ro (tr a.Regs)] (fun y _ => y = .v (iv (szd (Mk.wt a) left))) := by
 refine ob Tryz.func232 Tryz.ntmps232 ?_
 refine sr ?_
 refine bx ?_
 refine nm ?_
 refine qs' ?_
 refine qq (fA fl163_1) ?_
 refine ql ag29 ?_
 refine nm ?_
 refine qm ?_
 refine cv Tryz.call66 rfl rfl (szIntS_con _ _ (by first | omega | (repeat (first | omega | apply szd_lo))) (by first | omega | (repeat (first | omega | apply szd_hi)))) ?_
 refine nm ?_
 refine qn ?_
 refine sr2 ?_
 refine qm ?_
 refine qb ?_
 refine nc (fun c1 => ?_) fun c1 => ?_
 ·try simp only [cnd] at c1
  refine sr ?_
  refine qr 4 ?_
  simp only [retX, slotL, reduceIte, Nat.reduceEqDiff]
  first | rfl | (congr 2; simp only [szd, Mk.wt] at *; omega)
 try simp only [cnd] at c1
 refine jd (sr ?_)
 refine mn ?_
 refine qr 4 ?_
 simp only [retX, slotL, reduceIte, Nat.reduceEqDiff]
 first | rfl | (congr 2; simp only [szd, Mk.wt] at *; omega)
theorem szProc_con (a : DProc) (left : Int) (h1 : -1 ≤ left) (h2 : left ≤ 1048576) : Con Tryz.prog 142 [.g [.v (iv a.Pid), .v (iv a.Parent), .v (iv a.State), .v (iv a.Prog), .v (iv a.Cpu.Pc), .h base [], .h (base + 1) [], .h (base + 2) [], .v (iv a.Until), .v (iv a.Code)], .v (iv left)] [.rt base .ro (tr a.Cpu.Regs), .rt (base + 1) .ro (tr a.Mem), .rt (base + 2) .ro (tr a.Fds)] (fun y _ => y = .v (iv (szd (Mk.wt a) left))) := by
 refine ob Tryz.func142 Tryz.ntmps142 ?_
 refine sr ?_
 refine bx ?_
 refine nm ?_
 refine qs' ?_
 refine qq (fA fl165_4) ?_
 refine qG ag163 sz163 ?_
 refine nm ?_
 refine qm ?_
 refine cv Tryz.call232 rfl rfl (szCpu_con _ _ (by first | omega | (repeat (first | omega | apply szd_lo))) (by first | omega | (repeat (first | omega | apply szd_hi)))) ?_
 refine nm ?_
 refine qn ?_
 refine sr2 ?_
 refine qm ?_
 refine qb ?_
 refine nc (fun c1 => ?_) fun c1 => ?_
 ·try simp only [cnd] at c1
  refine sr ?_
  refine qr 4 ?_
  simp only [retX, slotL, reduceIte, Nat.reduceEqDiff]
  first | rfl | (congr 2; simp only [szd, Mk.wt] at *; omega)
 try simp only [cnd] at c1
 refine jd (sr ?_)
 refine qq (fA fl165_5) ?_
 refine nm ?_
 refine ql ag29 ?_
 refine qm ?_
 refine cv Tryz.call66 rfl rfl (szIntS_con _ _ (by first | omega | (repeat (first | omega | apply szd_lo))) (by first | omega | (repeat (first | omega | apply szd_hi)))) ?_
 refine nm ?_
 refine qn ?_
 refine sr2 ?_
 refine qm ?_
 refine qb ?_
 refine nc (fun c2 => ?_) fun c2 => ?_
 ·try simp only [cnd] at c2
  refine sr ?_
  refine qr 4 ?_
  simp only [retX, slotL, reduceIte, Nat.reduceEqDiff]
  first | rfl | (congr 2; simp only [szd, Mk.wt] at *; omega)
 try simp only [cnd] at c2
 refine jd (sr ?_)
 refine qq (fA fl165_6) ?_
 refine nm ?_
 refine ql ag29 ?_
 refine qm ?_
 refine cv Tryz.call66 rfl rfl (szIntS_con _ _ (by first | omega | (repeat (first | omega | apply szd_lo))) (by first | omega | (repeat (first | omega | apply szd_hi)))) ?_
 refine nm ?_
 refine qn ?_
 refine sr2 ?_
 refine qm ?_
 refine qb ?_
 refine nc (fun c3 => ?_) fun c3 => ?_
 ·try simp only [cnd] at c3
  refine sr ?_
  refine qr 4 ?_
  simp only [retX, slotL, reduceIte, Nat.reduceEqDiff]
  first | rfl | (congr 2; simp only [szd, Mk.wt] at *; omega)
 try simp only [cnd] at c3
 refine jd (sr ?_)
 refine mn ?_
 refine qr 4 ?_
 simp only [retX, slotL, reduceIte, Nat.reduceEqDiff]
 first | rfl | (congr 2; simp only [szd, Mk.wt] at *; omega)
theorem szProcS_con (a : List DProc) (left : Int) (h1 : -1 ≤ left) (h2 : left ≤ 1048576) : Con Tryz.prog 62 [.h base [], .v (iv left)] [.rt base .ro (tr a)] (fun y _ => y = .v (iv (szd (Mk.wt a) left))) := by
 refine ob Tryz.func62 Tryz.ntmps62 ?_
 have hw : Mk.wt a = a.length + wtL Mk.wt a := rfl
 refine AW.len base [] rfl (by simp [Okp]) rfl (fun hl => ?_)
 refine sr ?_
 refine qs' ?_
 refine qm ?_
 refine mn ?_
 refine qh sl36 ?_
 refine qq (Qt.binOp rfl rfl (by first | exact pbSub (by omega) | rfl)) ?_
 refine qn ?_
 refine sr2 ?_
 refine mn ?_
 refine qb ?_
 refine nc (fun c1 => ?_) fun c1 => ?_
 ·try simp only [cnd] at c1
  refine sr ?_
  refine qr 4 ?_
  simp only [retX, slotL, reduceIte, Nat.reduceEqDiff]
  try have hi0 := i.nn
  have hcw := cumN_wt a
  have hz := szd_cases (Mk.wt a) left
  try have hce : cumN Mk.wt En.dflt a i.k = cumN Mk.wt En.dflt a a.length := by rw [show i.k = a.length by omega]
  congr 2
  omega
 try simp only [cnd] at c1
 refine jd (sr2 ?_)
 refine qn ?_
 refine AW.block ?_
 refine AW.weak (L' := [.sl 5 (.v (iv (0 : Nat))), .sl 1 (.v (iv (left - a.length - (cumN Mk.wt En.dflt a 0 : Nat)))), .sl 0 (.h base []), .rt base .ro (tr a)]) (Weak.sim ⟨rfl, (by simp only [slotL, reduceIte, Nat.reduceEqDiff]; show X.v (iv (left - a.length)) = _; simp [cumN]), rfl, Rf rfl, trivial⟩ rfl rfl) ?_
 refine AW.loop (fun i : SzInv left a => [.sl 5 (.v (iv i.k)), .sl 1 (.v (iv (left - a.length - (cumN Mk.wt En.dflt a i.k : Nat)))), .sl 0 (.h base []), .rt base .ro (tr a)]) (fun i => a.length - i.k) ⟨0, Nat.zero_le _, by simp only [cumN]; omega⟩ ?_
 intro i
 have hle := i.le
 refine sr2 ?_
 refine mn ?_
 refine qm ?_
 refine qh sl36 ?_
 refine qb ?_
 refine nc (fun c2 => ?_) fun c2 => ?_
 ·try simp only [cnd] at c2
  have hi0 := i.nn
  have hcw := cumN_wt a
  have hc1 := cumN_mono (c := Mk.wt) (d := En.dflt) (l := a) (show i.k + 1 ≤ a.length by omega)
  simp only [cumN] at hc1
  have hz2 := szd_cases (Mk.wt (a.getD i.k En.dflt)) (left - a.length - (cumN Mk.wt En.dflt a i.k : Nat))
  refine jd (AW.seq (AW.block (sr ?_)))
  refine mn ?_
  refine qm ?_
  refine qq (ix sl36 sz165) ?_
  refine qG ag165 sz165 ?_
  refine nm ?_
  refine qm ?_
  refine cv Tryz.call142 rfl rfl (szProc_con _ _ (by first | omega | (repeat (first | omega | apply szd_lo))) (by first | omega | (repeat (first | omega | apply szd_hi)))) ?_
  refine nm ?_
  refine qs' ?_
  refine qm ?_
  refine qb ?_
  refine nc (fun c3 => ?_) fun c3 => ?_
  ·try simp only [cnd] at c3
   refine sr ?_
   refine qr 4 ?_
   simp only [retX, slotL, reduceIte, Nat.reduceEqDiff]
   try have hi0 := i.nn
   have hcw := cumN_wt a
   have hz := szd_cases (Mk.wt a) left
   try have hce : cumN Mk.wt En.dflt a i.k = cumN Mk.wt En.dflt a a.length := by rw [show i.k = a.length by omega]
   congr 2
   omega
  try simp only [cnd] at c3
  refine jd (AW.region ?_)
  refine mn ?_
  refine ba ?_
  refine qn ?_
  refine ⟨⟨i.k + 1, by omega, by simp only [cumN]; omega⟩, Weak.sim ⟨st1, (by simp only [slotL, reduceIte, Nat.reduceEqDiff]; congr 2; simp only [cumN]; omega), rfl, Rf rfl, trivial⟩ rfl rfl, ?_⟩
  show a.length - (i.k + 1) < a.length - i.k
  omega
 try simp only [cnd] at c2
 refine AW.exit ?_
 dsimp only [thenQ, blockQ, reduceIte]
 refine sr ?_
 refine mn ?_
 refine qr 4 ?_
 simp only [retX, slotL, reduceIte, Nat.reduceEqDiff]
 try have hi0 := i.nn
 have hcw := cumN_wt a
 have hz := szd_cases (Mk.wt a) left
 try have hce : cumN Mk.wt En.dflt a i.k = cumN Mk.wt En.dflt a a.length := by rw [show i.k = a.length by omega]
 congr 2
 omega
theorem szOpenS_con (a : List DOpen) (left : Int) (h1 : -1 ≤ left) (h2 : left ≤ 1048576) : Con Tryz.prog 63 [.h base [], .v (iv left)] [.rt base .ro (tr a)] (fun y _ => y = .v (iv (szd (Mk.wt a) left))) := by
 refine ob Tryz.func63 Tryz.ntmps63 ?_
 have hw : Mk.wt a = a.length := by rw [wt_list, wtL_zero (w := Mk.wt) (fun _ => rfl)]; rfl
 refine AW.len base [] rfl (by simp [Okp]) rfl (fun hl => ?_)
 refine sr ?_
 refine qs' ?_
 refine qm ?_
 refine mn ?_
 refine qh sl37 ?_
 refine qq (Qt.binOp rfl rfl (by first | exact pbSub (by omega) | rfl)) ?_
 refine qn ?_
 refine sr2 ?_
 refine mn ?_
 refine qb ?_
 refine nc (fun c1 => ?_) fun c1 => ?_
 ·try simp only [cnd] at c1
  refine sr ?_
  refine qr 4 ?_
  simp only [retX, slotL, reduceIte, Nat.reduceEqDiff, szd, hw]
  congr 2
  omega
 try simp only [cnd] at c1
 refine jd (sr ?_)
 refine mn ?_
 refine qr 4 ?_
 simp only [retX, slotL, reduceIte, Nat.reduceEqDiff, szd, hw]
 congr 2
 omega
theorem szPipe_con (a : DPipe) (left : Int) (h1 : -1 ≤ left) (h2 : left ≤ 1048576) : Con Tryz.prog 143 [.g [.v (iv a.Id), .h base []], .v (iv left)] [.rt base .ro (tr a.Data)] (fun y _ => y = .v (iv (szd (Mk.wt a) left))) := by
 refine ob Tryz.func143 Tryz.ntmps143 ?_
 refine sr ?_
 refine bx ?_
 refine nm ?_
 refine qs' ?_
 refine qq (fA fl167_1) ?_
 refine ql ag29 ?_
 refine nm ?_
 refine qm ?_
 refine cv Tryz.call66 rfl rfl (szIntS_con _ _ (by first | omega | (repeat (first | omega | apply szd_lo))) (by first | omega | (repeat (first | omega | apply szd_hi)))) ?_
 refine nm ?_
 refine qn ?_
 refine sr2 ?_
 refine qm ?_
 refine qb ?_
 refine nc (fun c1 => ?_) fun c1 => ?_
 ·try simp only [cnd] at c1
  refine sr ?_
  refine qr 4 ?_
  simp only [retX, slotL, reduceIte, Nat.reduceEqDiff]
  first | rfl | (congr 2; simp only [szd, Mk.wt] at *; omega)
 try simp only [cnd] at c1
 refine jd (sr ?_)
 refine mn ?_
 refine qr 4 ?_
 simp only [retX, slotL, reduceIte, Nat.reduceEqDiff]
 first | rfl | (congr 2; simp only [szd, Mk.wt] at *; omega)
theorem szPipeS_con (a : List DPipe) (left : Int) (h1 : -1 ≤ left) (h2 : left ≤ 1048576) : Con Tryz.prog 64 [.h base [], .v (iv left)] [.rt base .ro (tr a)] (fun y _ => y = .v (iv (szd (Mk.wt a) left))) := by
 refine ob Tryz.func64 Tryz.ntmps64 ?_
 have hw : Mk.wt a = a.length + wtL Mk.wt a := rfl
 refine AW.len base [] rfl (by simp [Okp]) rfl (fun hl => ?_)
 refine sr ?_
 refine qs' ?_
 refine qm ?_
 refine mn ?_
 refine qh sl38 ?_
 refine qq (Qt.binOp rfl rfl (by first | exact pbSub (by omega) | rfl)) ?_
 refine qn ?_
 refine sr2 ?_
 refine mn ?_
 refine qb ?_
 refine nc (fun c1 => ?_) fun c1 => ?_
 ·try simp only [cnd] at c1
  refine sr ?_
  refine qr 4 ?_
  simp only [retX, slotL, reduceIte, Nat.reduceEqDiff]
  try have hi0 := i.nn
  have hcw := cumN_wt a
  have hz := szd_cases (Mk.wt a) left
  try have hce : cumN Mk.wt En.dflt a i.k = cumN Mk.wt En.dflt a a.length := by rw [show i.k = a.length by omega]
  congr 2
  omega
 try simp only [cnd] at c1
 refine jd (sr2 ?_)
 refine qn ?_
 refine AW.block ?_
 refine AW.weak (L' := [.sl 5 (.v (iv (0 : Nat))), .sl 1 (.v (iv (left - a.length - (cumN Mk.wt En.dflt a 0 : Nat)))), .sl 0 (.h base []), .rt base .ro (tr a)]) (Weak.sim ⟨rfl, (by simp only [slotL, reduceIte, Nat.reduceEqDiff]; show X.v (iv (left - a.length)) = _; simp [cumN]), rfl, Rf rfl, trivial⟩ rfl rfl) ?_
 refine AW.loop (fun i : SzInv left a => [.sl 5 (.v (iv i.k)), .sl 1 (.v (iv (left - a.length - (cumN Mk.wt En.dflt a i.k : Nat)))), .sl 0 (.h base []), .rt base .ro (tr a)]) (fun i => a.length - i.k) ⟨0, Nat.zero_le _, by simp only [cumN]; omega⟩ ?_
 intro i
 have hle := i.le
 refine sr2 ?_
 refine mn ?_
 refine qm ?_
 refine qh sl38 ?_
 refine qb ?_
 refine nc (fun c2 => ?_) fun c2 => ?_
 ·try simp only [cnd] at c2
  have hi0 := i.nn
  have hcw := cumN_wt a
  have hc1 := cumN_mono (c := Mk.wt) (d := En.dflt) (l := a) (show i.k + 1 ≤ a.length by omega)
  simp only [cumN] at hc1
  have hz2 := szd_cases (Mk.wt (a.getD i.k En.dflt)) (left - a.length - (cumN Mk.wt En.dflt a i.k : Nat))
  refine jd (AW.seq (AW.block (sr ?_)))
  refine mn ?_
  refine qm ?_
  refine qq (ix sl38 sz167) ?_
  refine qG ag167 sz167 ?_
  refine nm ?_
  refine qm ?_
  refine cv Tryz.call143 rfl rfl (szPipe_con _ _ (by first | omega | (repeat (first | omega | apply szd_lo))) (by first | omega | (repeat (first | omega | apply szd_hi)))) ?_
  refine nm ?_
  refine qs' ?_
  refine qm ?_
  refine qb ?_
  refine nc (fun c3 => ?_) fun c3 => ?_
  ·try simp only [cnd] at c3
   refine sr ?_
   refine qr 4 ?_
   simp only [retX, slotL, reduceIte, Nat.reduceEqDiff]
   try have hi0 := i.nn
   have hcw := cumN_wt a
   have hz := szd_cases (Mk.wt a) left
   try have hce : cumN Mk.wt En.dflt a i.k = cumN Mk.wt En.dflt a a.length := by rw [show i.k = a.length by omega]
   congr 2
   omega
  try simp only [cnd] at c3
  refine jd (AW.region ?_)
  refine mn ?_
  refine ba ?_
  refine qn ?_
  refine ⟨⟨i.k + 1, by omega, by simp only [cumN]; omega⟩, Weak.sim ⟨st1, (by simp only [slotL, reduceIte, Nat.reduceEqDiff]; congr 2; simp only [cumN]; omega), rfl, Rf rfl, trivial⟩ rfl rfl, ?_⟩
  show a.length - (i.k + 1) < a.length - i.k
  omega
 try simp only [cnd] at c2
 refine AW.exit ?_
 dsimp only [thenQ, blockQ, reduceIte]
 refine sr ?_
 refine mn ?_
 refine qr 4 ?_
 simp only [retX, slotL, reduceIte, Nat.reduceEqDiff]
 try have hi0 := i.nn
 have hcw := cumN_wt a
 have hz := szd_cases (Mk.wt a) left
 try have hce : cumN Mk.wt En.dflt a i.k = cumN Mk.wt En.dflt a a.length := by rw [show i.k = a.length by omega]
 congr 2
 omega
theorem szFile_con (a : DFile) (left : Int) (h1 : -1 ≤ left) (h2 : left ≤ 1048576) : Con Tryz.prog 144 [.g [.v (iv a.Name), .h base []], .v (iv left)] [.rt base .ro (tr a.Data)] (fun y _ => y = .v (iv (szd (Mk.wt a) left))) := by
 refine ob Tryz.func144 Tryz.ntmps144 ?_
 refine sr ?_
 refine bx ?_
 refine nm ?_
 refine qs' ?_
 refine qq (fA fl169_1) ?_
 refine ql ag29 ?_
 refine nm ?_
 refine qm ?_
 refine cv Tryz.call66 rfl rfl (szIntS_con _ _ (by first | omega | (repeat (first | omega | apply szd_lo))) (by first | omega | (repeat (first | omega | apply szd_hi)))) ?_
 refine nm ?_
 refine qn ?_
 refine sr2 ?_
 refine qm ?_
 refine qb ?_
 refine nc (fun c1 => ?_) fun c1 => ?_
 ·try simp only [cnd] at c1
  refine sr ?_
  refine qr 4 ?_
  simp only [retX, slotL, reduceIte, Nat.reduceEqDiff]
  first | rfl | (congr 2; simp only [szd, Mk.wt] at *; omega)
 try simp only [cnd] at c1
 refine jd (sr ?_)
 refine mn ?_
 refine qr 4 ?_
 simp only [retX, slotL, reduceIte, Nat.reduceEqDiff]
 first | rfl | (congr 2; simp only [szd, Mk.wt] at *; omega)
theorem szFileS_con (a : List DFile) (left : Int) (h1 : -1 ≤ left) (h2 : left ≤ 1048576) : Con Tryz.prog 65 [.h base [], .v (iv left)] [.rt base .ro (tr a)] (fun y _ => y = .v (iv (szd (Mk.wt a) left))) := by
 refine ob Tryz.func65 Tryz.ntmps65 ?_
 have hw : Mk.wt a = a.length + wtL Mk.wt a := rfl
 refine AW.len base [] rfl (by simp [Okp]) rfl (fun hl => ?_)
 refine sr ?_
 refine qs' ?_
 refine qm ?_
 refine mn ?_
 refine qh sl39 ?_
 refine qq (Qt.binOp rfl rfl (by first | exact pbSub (by omega) | rfl)) ?_
 refine qn ?_
 refine sr2 ?_
 refine mn ?_
 refine qb ?_
 refine nc (fun c1 => ?_) fun c1 => ?_
 ·try simp only [cnd] at c1
  refine sr ?_
  refine qr 4 ?_
  simp only [retX, slotL, reduceIte, Nat.reduceEqDiff]
  try have hi0 := i.nn
  have hcw := cumN_wt a
  have hz := szd_cases (Mk.wt a) left
  try have hce : cumN Mk.wt En.dflt a i.k = cumN Mk.wt En.dflt a a.length := by rw [show i.k = a.length by omega]
  congr 2
  omega
 try simp only [cnd] at c1
 refine jd (sr2 ?_)
 refine qn ?_
 refine AW.block ?_
 refine AW.weak (L' := [.sl 5 (.v (iv (0 : Nat))), .sl 1 (.v (iv (left - a.length - (cumN Mk.wt En.dflt a 0 : Nat)))), .sl 0 (.h base []), .rt base .ro (tr a)]) (Weak.sim ⟨rfl, (by simp only [slotL, reduceIte, Nat.reduceEqDiff]; show X.v (iv (left - a.length)) = _; simp [cumN]), rfl, Rf rfl, trivial⟩ rfl rfl) ?_
 refine AW.loop (fun i : SzInv left a => [.sl 5 (.v (iv i.k)), .sl 1 (.v (iv (left - a.length - (cumN Mk.wt En.dflt a i.k : Nat)))), .sl 0 (.h base []), .rt base .ro (tr a)]) (fun i => a.length - i.k) ⟨0, Nat.zero_le _, by simp only [cumN]; omega⟩ ?_
 intro i
 have hle := i.le
 refine sr2 ?_
 refine mn ?_
 refine qm ?_
 refine qh sl39 ?_
 refine qb ?_
 refine nc (fun c2 => ?_) fun c2 => ?_
 ·try simp only [cnd] at c2
  have hi0 := i.nn
  have hcw := cumN_wt a
  have hc1 := cumN_mono (c := Mk.wt) (d := En.dflt) (l := a) (show i.k + 1 ≤ a.length by omega)
  simp only [cumN] at hc1
  have hz2 := szd_cases (Mk.wt (a.getD i.k En.dflt)) (left - a.length - (cumN Mk.wt En.dflt a i.k : Nat))
  refine jd (AW.seq (AW.block (sr ?_)))
  refine mn ?_
  refine qm ?_
  refine qq (ix sl39 sz169) ?_
  refine qG ag169 sz169 ?_
  refine nm ?_
  refine qm ?_
  refine cv Tryz.call144 rfl rfl (szFile_con _ _ (by first | omega | (repeat (first | omega | apply szd_lo))) (by first | omega | (repeat (first | omega | apply szd_hi)))) ?_
  refine nm ?_
  refine qs' ?_
  refine qm ?_
  refine qb ?_
  refine nc (fun c3 => ?_) fun c3 => ?_
  ·try simp only [cnd] at c3
   refine sr ?_
   refine qr 4 ?_
   simp only [retX, slotL, reduceIte, Nat.reduceEqDiff]
   try have hi0 := i.nn
   have hcw := cumN_wt a
   have hz := szd_cases (Mk.wt a) left
   try have hce : cumN Mk.wt En.dflt a i.k = cumN Mk.wt En.dflt a a.length := by rw [show i.k = a.length by omega]
   congr 2
   omega
  try simp only [cnd] at c3
  refine jd (AW.region ?_)
  refine mn ?_
  refine ba ?_
  refine qn ?_
  refine ⟨⟨i.k + 1, by omega, by simp only [cumN]; omega⟩, Weak.sim ⟨st1, (by simp only [slotL, reduceIte, Nat.reduceEqDiff]; congr 2; simp only [cumN]; omega), rfl, Rf rfl, trivial⟩ rfl rfl, ?_⟩
  show a.length - (i.k + 1) < a.length - i.k
  omega
 try simp only [cnd] at c2
 refine AW.exit ?_
 dsimp only [thenQ, blockQ, reduceIte]
 refine sr ?_
 refine mn ?_
 refine qr 4 ?_
 simp only [retX, slotL, reduceIte, Nat.reduceEqDiff]
 try have hi0 := i.nn
 have hcw := cumN_wt a
 have hz := szd_cases (Mk.wt a) left
 try have hce : cumN Mk.wt En.dflt a i.k = cumN Mk.wt En.dflt a a.length := by rw [show i.k = a.length by omega]
 congr 2
 omega
theorem szUnix_con (a : DUnix) (left : Int) (h1 : -1 ≤ left) (h2 : left ≤ 1048576) : Con Tryz.prog 18 [.g [.v (iv a.Next), .v (iv a.Tick), .h base [], .h (base + 1) [], .h (base + 2) [], .h (base + 3) [], .h (base + 4) [], .h (base + 5) [], .h (base + 6) []], .v (iv left)] [.rt base .ro (tr a.Progs), .rt (base + 1) .ro (tr a.Procs), .rt (base + 2) .ro (tr a.Opens), .rt (base + 3) .ro (tr a.Pipes), .rt (base + 4) .ro (tr a.Files), .rt (base + 5) .ro (tr a.Ready), .rt (base + 6) .ro (tr a.Out)] (fun y _ => y = .v (iv (szd (Mk.wt a) left))) := by
 refine ob Tryz.func18 Tryz.ntmps18 ?_
 refine sr ?_
 refine bx ?_
 refine nm ?_
 refine qs' ?_
 refine qq (fA fl41_2) ?_
 refine ql ag35 ?_
 refine nm ?_
 refine qm ?_
 refine cv Tryz.call46 rfl rfl (szInsSS_con _ _ (by first | omega | (repeat (first | omega | apply szd_lo))) (by first | omega | (repeat (first | omega | apply szd_hi)))) ?_
 refine nm ?_
 refine qn ?_
 refine sr2 ?_
 refine qm ?_
 refine qb ?_
 refine nc (fun c1 => ?_) fun c1 => ?_
 ·try simp only [cnd] at c1
  refine sr ?_
  refine qr 4 ?_
  simp only [retX, slotL, reduceIte, Nat.reduceEqDiff]
  first | rfl | (congr 2; simp only [szd, Mk.wt] at *; omega)
 try simp only [cnd] at c1
 refine jd (sr ?_)
 refine qq (fA fl41_3) ?_
 refine nm ?_
 refine ql ag36 ?_
 refine qm ?_
 refine cv Tryz.call62 rfl rfl (szProcS_con _ _ (by first | omega | (repeat (first | omega | apply szd_lo))) (by first | omega | (repeat (first | omega | apply szd_hi)))) ?_
 refine nm ?_
 refine qn ?_
 refine sr2 ?_
 refine qm ?_
 refine qb ?_
 refine nc (fun c2 => ?_) fun c2 => ?_
 ·try simp only [cnd] at c2
  refine sr ?_
  refine qr 4 ?_
  simp only [retX, slotL, reduceIte, Nat.reduceEqDiff]
  first | rfl | (congr 2; simp only [szd, Mk.wt] at *; omega)
 try simp only [cnd] at c2
 refine jd (sr ?_)
 refine qq (fA fl41_4) ?_
 refine nm ?_
 refine ql ag37 ?_
 refine qm ?_
 refine cv Tryz.call63 rfl rfl (szOpenS_con _ _ (by first | omega | (repeat (first | omega | apply szd_lo))) (by first | omega | (repeat (first | omega | apply szd_hi)))) ?_
 refine nm ?_
 refine qn ?_
 refine sr2 ?_
 refine qm ?_
 refine qb ?_
 refine nc (fun c3 => ?_) fun c3 => ?_
 ·try simp only [cnd] at c3
  refine sr ?_
  refine qr 4 ?_
  simp only [retX, slotL, reduceIte, Nat.reduceEqDiff]
  first | rfl | (congr 2; simp only [szd, Mk.wt] at *; omega)
 try simp only [cnd] at c3
 refine jd (sr ?_)
 refine qq (fA fl41_5) ?_
 refine nm ?_
 refine ql ag38 ?_
 refine qm ?_
 refine cv Tryz.call64 rfl rfl (szPipeS_con _ _ (by first | omega | (repeat (first | omega | apply szd_lo))) (by first | omega | (repeat (first | omega | apply szd_hi)))) ?_
 refine nm ?_
 refine qn ?_
 refine sr2 ?_
 refine qm ?_
 refine qb ?_
 refine nc (fun c4 => ?_) fun c4 => ?_
 ·try simp only [cnd] at c4
  refine sr ?_
  refine qr 4 ?_
  simp only [retX, slotL, reduceIte, Nat.reduceEqDiff]
  first | rfl | (congr 2; simp only [szd, Mk.wt] at *; omega)
 try simp only [cnd] at c4
 refine jd (sr ?_)
 refine qq (fA fl41_6) ?_
 refine nm ?_
 refine ql ag39 ?_
 refine qm ?_
 refine cv Tryz.call65 rfl rfl (szFileS_con _ _ (by first | omega | (repeat (first | omega | apply szd_lo))) (by first | omega | (repeat (first | omega | apply szd_hi)))) ?_
 refine nm ?_
 refine qn ?_
 refine sr2 ?_
 refine qm ?_
 refine qb ?_
 refine nc (fun c5 => ?_) fun c5 => ?_
 ·try simp only [cnd] at c5
  refine sr ?_
  refine qr 4 ?_
  simp only [retX, slotL, reduceIte, Nat.reduceEqDiff]
  first | rfl | (congr 2; simp only [szd, Mk.wt] at *; omega)
 try simp only [cnd] at c5
 refine jd (sr ?_)
 refine qq (fA fl41_7) ?_
 refine nm ?_
 refine ql ag29 ?_
 refine qm ?_
 refine cv Tryz.call66 rfl rfl (szIntS_con _ _ (by first | omega | (repeat (first | omega | apply szd_lo))) (by first | omega | (repeat (first | omega | apply szd_hi)))) ?_
 refine nm ?_
 refine qn ?_
 refine sr2 ?_
 refine qm ?_
 refine qb ?_
 refine nc (fun c6 => ?_) fun c6 => ?_
 ·try simp only [cnd] at c6
  refine sr ?_
  refine qr 4 ?_
  simp only [retX, slotL, reduceIte, Nat.reduceEqDiff]
  first | rfl | (congr 2; simp only [szd, Mk.wt] at *; omega)
 try simp only [cnd] at c6
 refine jd (sr ?_)
 refine qq (fA fl41_8) ?_
 refine nm ?_
 refine ql ag29 ?_
 refine qm ?_
 refine cv Tryz.call66 rfl rfl (szIntS_con _ _ (by first | omega | (repeat (first | omega | apply szd_lo))) (by first | omega | (repeat (first | omega | apply szd_hi)))) ?_
 refine nm ?_
 refine qn ?_
 refine sr2 ?_
 refine qm ?_
 refine qb ?_
 refine nc (fun c7 => ?_) fun c7 => ?_
 ·try simp only [cnd] at c7
  refine sr ?_
  refine qr 4 ?_
  simp only [retX, slotL, reduceIte, Nat.reduceEqDiff]
  first | rfl | (congr 2; simp only [szd, Mk.wt] at *; omega)
 try simp only [cnd] at c7
 refine jd (sr ?_)
 refine mn ?_
 refine qr 4 ?_
 simp only [retX, slotL, reduceIte, Nat.reduceEqDiff]
 first | rfl | (congr 2; simp only [szd, Mk.wt] at *; omega)
theorem toIns_con (a : DIns) : Con Tryz.prog 202 [.g [.v (iv a.Op), .v (iv a.A), .v (iv a.B), .v (iv a.C)]] [] (Ret (.g [.v (iv a.Op), .v (iv a.A), .v (iv a.B), .v (iv a.C)]) []) := by
 refine ob Tryz.func202 Tryz.ntmps202 ?_
 refine sr ?_
 refine bx ?_
 refine nm ?_
 refine sp sA ?_
 refine ns ?_
 refine sp sA ?_
 refine ns ?_
 refine qq (fA fl206_0) ?_
 refine nm ?_
 refine ql ag3 ?_
 refine qq (fA fl187_0) ?_
 refine ss ?_
 refine ns ?_
 refine qq (fA fl206_1) ?_
 refine nm ?_
 refine ql ag3 ?_
 refine qq (fA fl187_1) ?_
 refine ss ?_
 refine ns ?_
 refine qq (fA fl206_2) ?_
 refine nm ?_
 refine ql ag3 ?_
 refine qq (fA fl187_2) ?_
 refine ss ?_
 refine ns ?_
 refine qq (fA fl206_3) ?_
 refine nm ?_
 refine ql ag3 ?_
 refine qq (fA fl187_3) ?_
 refine ss ?_
 refine ns ?_
 refine qG ag187 sz187 ?_
 refine nm ?_
 refine ss ?_
 refine nl ?_
 refine AW.ret (endQ_ret (.cons (.cellG 2 187 rfl rfl rfl ag187 sz187 (by decide)) .nil) ?_)
 refine ⟨fun _ => 0, rfl, nodup_of rfl, ?_⟩
 intro r hr
 cases hr
theorem toInsS_con (a : List DIns) (hw : Mk.wt a ≤ 1048576) : Con Tryz.prog 114 [.h base []] [.rt base .ro (tr a)] (Ret (.h 0 []) [(0, .row, tr a)]) := by
 refine ob Tryz.func114 Tryz.ntmps114 ?_
 have hw2 : a.length + wtL Mk.wt a ≤ 1048576 := hw
 refine sr ?_
 refine qs' ?_
 refine qm ?_
 refine qh sl135 ?_
 refine nm ?_
 refine sp (Stp.makeSlice rfl (by decide) (by decide) rfl rfl (by omega) (by omega) (by omega)) ?_
 refine nm ?_
 refine qn ?_
 refine sr2 ?_
 refine qn ?_
 refine AW.block ?_
 refine AW.weak (L' := [.sl 4 (.v (iv (0 : Nat))), .sl 3 (.h 7 []), .sl 0 (.h base []), .rt 7 .row (trMix (0 : Nat) a.length (fun j => a.getD j En.dflt) fun _ => En.dflt), .rt base .ro (tr a)]) (Weak.sim ⟨rfl, rfl, rfl, ⟨_, rfl, (trMix_start rfl (fun c hc => match c, hc with | 0, _ => T.sim_refl _ | 1, _ => T.sim_refl _ | 2, _ => T.sim_refl _ | 3, _ => T.sim_refl _ | c + 4, hc => absurd hc (by simp only [En.n]; omega)))⟩, Rf rfl, trivial⟩ rfl rfl) ?_
 refine AW.loop (fun i : KInv a.length => [.sl 4 (.v (iv i.k)), .sl 3 (.h 7 []), .sl 0 (.h base []), .rt 7 .row (trMix i.k a.length (fun j => a.getD j En.dflt) fun _ => En.dflt), .rt base .ro (tr a)]) (fun i => a.length - i.k) ⟨0, Nat.zero_le _⟩ ?_
 intro i
 have hle := i.le
 refine sr2 ?_
 refine mn ?_
 refine qm ?_
 refine qh sl135 ?_
 refine qb ?_
 refine nc (fun c1 => ?_) fun c1 => ?_
 ·try simp only [cnd] at c1
  have hwk := wtL_get (w := Mk.wt) (d := En.dflt) (l := a) (i := i.k) (by omega)
  refine jd (AW.seq (AW.block (AW.region ?_)))
  refine mn ?_
  refine qm ?_
  refine qm ?_
  refine mn ?_
  refine qq (ix sl135 sz206) ?_
  refine qG ag206 sz206 ?_
  refine sp (Stp.callR rfl (by decide) Tryz.call202 rfl rfl (toIns_con _) (nodup_of rfl) rfl rfl) ?_
  refine nm ?_
  refine qq (ix sl65 sz187) ?_
  refine ss ?_
  refine nl ?_
  refine AW.region ?_
  refine mn ?_
  refine ba ?_
  refine qn ?_
  refine ⟨⟨i.k + 1, by omega⟩, Weak.sim ⟨st1, rfl, rfl, ⟨_, rfl, trMix_next (fun i c hi => by simp only [upd_app, hi, false_and, if_false]; rfl) (fun c hc => match c, hc with | 0, _ => (by simp only [upd_app, eq_self, and_true, and_false, Nat.reduceEqDiff, if_true, if_false]; exact T.sim_refl _) | 1, _ => (by simp only [upd_app, eq_self, and_true, and_false, Nat.reduceEqDiff, if_true, if_false]; exact T.sim_refl _) | 2, _ => (by simp only [upd_app, eq_self, and_true, and_false, Nat.reduceEqDiff, if_true, if_false]; exact T.sim_refl _) | 3, _ => (by simp only [upd_app, eq_self, and_true, and_false, Nat.reduceEqDiff, if_true, if_false]; exact T.sim_refl _) | c + 4, hc => absurd hc (by simp only [En.n]; omega))⟩, Rf rfl, trivial⟩ rfl rfl, ?_⟩
  show a.length - (i.k + 1) < a.length - i.k
  omega
 try simp only [cnd] at c1
 refine AW.exit ?_
 dsimp only [thenQ, blockQ, reduceIte]
 refine sr ?_
 refine mn ?_
 refine qn ?_
 refine AW.weak (L' := [.rt 7 .row (tr a), .sl 2 (.h 7 [])]) (Weak.sim ⟨⟨_, rfl, trMix_full (by omega) rfl (fun _ _ => rfl)⟩, rfl, trivial⟩ rfl rfl) ?_
 refine rt1 2 ?_
 refine ⟨fun _ => 7, rfl, nodup_of rfl, ?_⟩
 intro r hr
 cases List.mem_singleton.1 hr
 exact ⟨by simp, rootL_mem rfl⟩
theorem toInsSS_con (a : List (List DIns)) (hw : Mk.wt a ≤ 1048576) : Con Tryz.prog 47 [.h base []] [.rt base .ro (tr a)] (Ret (.h 0 []) [(0, .row, tr a)]) := by
 refine ob Tryz.func47 Tryz.ntmps47 ?_
 have hw2 : a.length + wtL Mk.wt a ≤ 1048576 := hw
 refine sr ?_
 refine qs' ?_
 refine qm ?_
 refine qh sl35 ?_
 refine nm ?_
 refine sp (Stp.makeSlice rfl (by decide) (by decide) rfl rfl (by omega) (by omega) (by omega)) ?_
 refine nm ?_
 refine qn ?_
 refine sr2 ?_
 refine qn ?_
 refine AW.block ?_
 refine AW.weak (L' := [.sl 4 (.v (iv (0 : Nat))), .sl 3 (.h 7 []), .sl 0 (.h base []), .rt 7 .row (trMix (0 : Nat) a.length (fun j => a.getD j En.dflt) fun _ => En.dflt), .rt base .ro (tr a)]) (Weak.sim ⟨rfl, rfl, rfl, ⟨_, rfl, (trMix_start rfl (fun c hc => match c, hc with | 0, _ => sim_nil | c + 1, hc => absurd hc (by simp only [En.n]; omega)))⟩, Rf rfl, trivial⟩ rfl rfl) ?_
 refine AW.loop (fun i : KInv a.length => [.sl 4 (.v (iv i.k)), .sl 3 (.h 7 []), .sl 0 (.h base []), .rt 7 .row (trMix i.k a.length (fun j => a.getD j En.dflt) fun _ => En.dflt), .rt base .ro (tr a)]) (fun i => a.length - i.k) ⟨0, Nat.zero_le _⟩ ?_
 intro i
 have hle := i.le
 refine sr2 ?_
 refine mn ?_
 refine qm ?_
 refine qh sl35 ?_
 refine qb ?_
 refine nc (fun c1 => ?_) fun c1 => ?_
 ·try simp only [cnd] at c1
  have hwk := wtL_get (w := Mk.wt) (d := En.dflt) (l := a) (i := i.k) (by omega)
  refine jd (AW.seq (AW.block (AW.region ?_)))
  refine mn ?_
  refine qm ?_
  refine qm ?_
  refine mn ?_
  refine qq (ix sl35 sz135) ?_
  refine ql ag135 ?_
  refine sp (Stp.callR rfl (by decide) Tryz.call114 rfl rfl (toInsS_con _ (by first | omega | (simp only [Int.toNat_natCast]; omega) | (simp only [Mk.wt] at *; omega))) (nodup_of rfl) rfl rfl) ?_
  refine nm ?_
  refine qq (ix sl24 sz65) ?_
  refine ss ?_
  refine nl ?_
  refine AW.region ?_
  refine mn ?_
  refine ba ?_
  refine qn ?_
  refine ⟨⟨i.k + 1, by omega⟩, Weak.sim ⟨st1, rfl, rfl, ⟨_, rfl, trMix_next (fun i c hi => by simp only [upd_app, hi, false_and, if_false]; rfl) (fun c hc => match c, hc with | 0, _ => (by simp only [upd_app, eq_self, and_true, and_false, Nat.reduceEqDiff, if_true, if_false]; exact T.sim_refl _) | c + 1, hc => absurd hc (by simp only [En.n]; omega))⟩, Rf rfl, trivial⟩ rfl rfl, ?_⟩
  show a.length - (i.k + 1) < a.length - i.k
  omega
 try simp only [cnd] at c1
 refine AW.exit ?_
 dsimp only [thenQ, blockQ, reduceIte]
 refine sr ?_
 refine mn ?_
 refine qn ?_
 refine AW.weak (L' := [.rt 7 .row (tr a), .sl 2 (.h 7 [])]) (Weak.sim ⟨⟨_, rfl, trMix_full (by omega) rfl (fun _ _ => rfl)⟩, rfl, trivial⟩ rfl rfl) ?_
 refine rt1 2 ?_
 refine ⟨fun _ => 7, rfl, nodup_of rfl, ?_⟩
 intro r hr
 cases List.mem_singleton.1 hr
 exact ⟨by simp, rootL_mem rfl⟩
theorem toIntS_con (a : List Int) (hw : Mk.wt a ≤ 1048576) : Con Tryz.prog 48 [.h base []] [.rt base .ro (tr a)] (Ret (.h 0 []) [(0, .row, tr a)]) := by
 refine ob Tryz.func48 Tryz.ntmps48 ?_
 have hw2 : a.length + wtL Mk.wt a ≤ 1048576 := hw
 refine sr ?_
 refine qs' ?_
 refine qm ?_
 refine qh sl29 ?_
 refine nm ?_
 refine sp (Stp.makeSlice rfl (by decide) (by decide) rfl rfl (by omega) (by omega) (by omega)) ?_
 refine nm ?_
 refine qn ?_
 refine sr2 ?_
 refine qn ?_
 refine AW.block ?_
 refine AW.weak (L' := [.sl 4 (.v (iv (0 : Nat))), .sl 3 (.h 7 []), .sl 0 (.h base []), .rt 7 .row (trMix (0 : Nat) a.length (fun j => a.getD j En.dflt) fun _ => En.dflt), .rt base .ro (tr a)]) (Weak.sim ⟨rfl, rfl, rfl, ⟨_, rfl, (trMix_start rfl (fun c hc => match c, hc with | 0, _ => T.sim_refl _ | c + 1, hc => absurd hc (by simp only [En.n]; omega)))⟩, Rf rfl, trivial⟩ rfl rfl) ?_
 refine AW.loop (fun i : KInv a.length => [.sl 4 (.v (iv i.k)), .sl 3 (.h 7 []), .sl 0 (.h base []), .rt 7 .row (trMix i.k a.length (fun j => a.getD j En.dflt) fun _ => En.dflt), .rt base .ro (tr a)]) (fun i => a.length - i.k) ⟨0, Nat.zero_le _⟩ ?_
 intro i
 have hle := i.le
 refine sr2 ?_
 refine mn ?_
 refine qm ?_
 refine qh sl29 ?_
 refine qb ?_
 refine nc (fun c1 => ?_) fun c1 => ?_
 ·try simp only [cnd] at c1
  have hwk := wtL_get (w := Mk.wt) (d := En.dflt) (l := a) (i := i.k) (by omega)
  refine jd (AW.seq (AW.block (AW.region ?_)))
  refine mn ?_
  refine qm ?_
  refine qm ?_
  refine mn ?_
  refine qq (ix sl29 sz3) ?_
  refine ql ag3 ?_
  refine qq (ix sl29 sz3) ?_
  refine nm ?_
  refine ss ?_
  refine nl ?_
  refine AW.region ?_
  refine mn ?_
  refine ba ?_
  refine qn ?_
  refine ⟨⟨i.k + 1, by omega⟩, Weak.sim ⟨st1, rfl, rfl, ⟨_, rfl, trMix_next (fun i c hi => by simp only [upd_app, hi, false_and, if_false]; rfl) (fun c hc => match c, hc with | 0, _ => (by simp only [upd_app, eq_self, and_true, and_false, Nat.reduceEqDiff, if_true, if_false]; exact T.sim_refl _) | c + 1, hc => absurd hc (by simp only [En.n]; omega))⟩, Rf rfl, trivial⟩ rfl rfl, ?_⟩
  show a.length - (i.k + 1) < a.length - i.k
  omega
 try simp only [cnd] at c1
 refine AW.exit ?_
 dsimp only [thenQ, blockQ, reduceIte]
 refine sr ?_
 refine mn ?_
 refine qn ?_
 refine AW.weak (L' := [.rt 7 .row (tr a), .sl 2 (.h 7 [])]) (Weak.sim ⟨⟨_, rfl, trMix_full (by omega) rfl (fun _ _ => rfl)⟩, rfl, trivial⟩ rfl rfl) ?_
 refine rt1 2 ?_
 refine ⟨fun _ => 7, rfl, nodup_of rfl, ?_⟩
 intro r hr
 cases List.mem_singleton.1 hr
 exact ⟨by simp, rootL_mem rfl⟩
theorem toCpu_con (a : DCpu) (hw : Mk.wt a ≤ 1048576) : Con Tryz.prog 235 [.g [.v (iv a.Pc), .h base []]] [.rt base .ro (tr a.Regs)] (Ret (.g [.v (iv a.Pc), .h 0 []]) [(0, .row, tr a.Regs)]) := by
 refine ob Tryz.func235 Tryz.ntmps235 ?_
 refine sr ?_
 refine bx ?_
 refine nm ?_
 refine sp sA ?_
 refine ns ?_
 refine sp sA ?_
 refine ns ?_
 refine qq (fA fl163_0) ?_
 refine nm ?_
 refine ql ag3 ?_
 refine qq (fA fl70_0) ?_
 refine ss ?_
 refine ns ?_
 refine qq (fA fl163_1) ?_
 refine nm ?_
 refine ql ag29 ?_
 refine sp (Stp.callR rfl (by decide) Tryz.call48 rfl rfl (toIntS_con _ (by first | omega | (simp only [Int.toNat_natCast]; omega) | (simp only [Mk.wt] at *; omega))) (nodup_of rfl) rfl rfl) ?_
 refine nm ?_
 refine qq (fA fl70_1) ?_
 refine ss ?_
 refine ns ?_
 refine qG ag70 sz70 ?_
 refine nm ?_
 refine ss ?_
 refine nl ?_
 refine AW.ret (endQ_ret (.cons (.cellG 2 70 rfl rfl rfl ag70 sz70 (by decide)) .nil) ?_)
 refine ⟨fun _ => 9, rfl, nodup_of rfl, ?_⟩
 intro r hr
 cases List.mem_singleton.1 hr
 exact ⟨by simp, rootL_mem rfl⟩
theorem toProc_con (a : DProc) (hw : Mk.wt a ≤ 1048576) : Con Tryz.prog 153 [.g [.v (iv a.Pid), .v (iv a.Parent), .v (iv a.State), .v (iv a.Prog), .v (iv a.Cpu.Pc), .h base [], .h (base + 1) [], .h (base + 2) [], .v (iv a.Until), .v (iv a.Code)]] [.rt base .ro (tr a.Cpu.Regs), .rt (base + 1) .ro (tr a.Mem), .rt (base + 2) .ro (tr a.Fds)] (Ret (.g [.v (iv a.Pid), .v (iv a.Parent), .v (iv a.State), .v (iv a.Prog), .v (iv a.Cpu.Pc), .h 0 [], .h 1 [], .h 2 [], .v (iv a.Until), .v (iv a.Code)]) [(0, .row, tr a.Cpu.Regs), (1, .row, tr a.Mem), (2, .row, tr a.Fds)]) := by
 refine ob Tryz.func153 Tryz.ntmps153 ?_
 refine sr ?_
 refine bx ?_
 refine nm ?_
 refine sp sA ?_
 refine ns ?_
 refine sp sA ?_
 refine ns ?_
 refine qq (fA fl165_0) ?_
 refine nm ?_
 refine ql ag3 ?_
 refine qq (fA fl72_0) ?_
 refine ss ?_
 refine ns ?_
 refine qq (fA fl165_1) ?_
 refine nm ?_
 refine ql ag3 ?_
 refine qq (fA fl72_1) ?_
 refine ss ?_
 refine ns ?_
 refine qq (fA fl165_2) ?_
 refine nm ?_
 refine ql ag3 ?_
 refine qq (fA fl72_2) ?_
 refine ss ?_
 refine ns ?_
 refine qq (fA fl165_3) ?_
 refine nm ?_
 refine ql ag3 ?_
 refine qq (fA fl72_3) ?_
 refine ss ?_
 refine ns ?_
 refine qq (fA fl165_4) ?_
 refine nm ?_
 refine qG ag163 sz163 ?_
 refine sp (Stp.callR rfl (by decide) Tryz.call235 rfl rfl (toCpu_con _ (by first | omega | (simp only [Int.toNat_natCast]; omega) | (simp only [Mk.wt] at *; omega))) (nodup_of rfl) rfl rfl) ?_
 refine nm ?_
 refine qq (fA fl72_4) ?_
 refine ss ?_
 refine ns ?_
 refine qq (fA fl165_5) ?_
 refine nm ?_
 refine ql ag29 ?_
 refine sp (Stp.callR rfl (by decide) Tryz.call48 rfl rfl (toIntS_con _ (by first | omega | (simp only [Int.toNat_natCast]; omega) | (simp only [Mk.wt] at *; omega))) (nodup_of rfl) rfl rfl) ?_
 refine nm ?_
 refine qq (fA fl72_5) ?_
 refine ss ?_
 refine ns ?_
 refine qq (fA fl165_6) ?_
 refine nm ?_
 refine ql ag29 ?_
 refine sp (Stp.callR rfl (by decide) Tryz.call48 rfl rfl (toIntS_con _ (by first | omega | (simp only [Int.toNat_natCast]; omega) | (simp only [Mk.wt] at *; omega))) (nodup_of rfl) rfl rfl) ?_
 refine nm ?_
 refine qq (fA fl72_6) ?_
 refine ss ?_
 refine ns ?_
 refine qq (fA fl165_7) ?_
 refine nm ?_
 refine ql ag3 ?_
 refine qq (fA fl72_7) ?_
 refine ss ?_
 refine ns ?_
 refine qq (fA fl165_8) ?_
 refine nm ?_
 refine ql ag3 ?_
 refine qq (fA fl72_8) ?_
 refine ss ?_
 refine ns ?_
 refine qG ag72 sz72 ?_
 refine nm ?_
 refine ss ?_
 refine nl ?_
 refine AW.ret (endQ_ret (.cons (.cellG 2 72 rfl rfl rfl ag72 sz72 (by decide)) .nil) ?_)
 refine ⟨fun i => if i = 0 then 18 else if i = 1 then 22 else 26, rfl, nodup_of rfl, ?_⟩
 intro r hr
 simp only [List.mem_cons, List.not_mem_nil, or_false] at hr
 rcases hr with rfl | rfl | rfl <;> exact ⟨by simp, rootL_mem rfl⟩
theorem toProcS_con (a : List DProc) (hw : Mk.wt a ≤ 1048576) : Con Tryz.prog 69 [.h base []] [.rt base .ro (tr a)] (Ret (.h 0 []) [(0, .row, tr a)]) := by
 refine ob Tryz.func69 Tryz.ntmps69 ?_
 have hw2 : a.length + wtL Mk.wt a ≤ 1048576 := hw
 refine sr ?_
 refine qs' ?_
 refine qm ?_
 refine qh sl36 ?_
 refine nm ?_
 refine sp (Stp.makeSlice rfl (by decide) (by decide) rfl rfl (by omega) (by omega) (by omega)) ?_
 refine nm ?_
 refine qn ?_
 refine sr2 ?_
 refine qn ?_
 refine AW.block ?_
 refine AW.weak (L' := [.sl 4 (.v (iv (0 : Nat))), .sl 3 (.h 7 []), .sl 0 (.h base []), .rt 7 .row (trMix (0 : Nat) a.length (fun j => a.getD j En.dflt) fun _ => En.dflt), .rt base .ro (tr a)]) (Weak.sim ⟨rfl, rfl, rfl, ⟨_, rfl, (trMix_start rfl (fun c hc => match c, hc with | 0, _ => T.sim_refl _ | 1, _ => T.sim_refl _ | 2, _ => T.sim_refl _ | 3, _ => T.sim_refl _ | 4, _ => T.sim_refl _ | 5, _ => sim_nil | 6, _ => sim_nil | 7, _ => sim_nil | 8, _ => T.sim_refl _ | 9, _ => T.sim_refl _ | c + 10, hc => absurd hc (by simp only [En.n]; omega)))⟩, Rf rfl, trivial⟩ rfl rfl) ?_
 refine AW.loop (fun i : KInv a.length => [.sl 4 (.v (iv i.k)), .sl 3 (.h 7 []), .sl 0 (.h base []), .rt 7 .row (trMix i.k a.length (fun j => a.getD j En.dflt) fun _ => En.dflt), .rt base .ro (tr a)]) (fun i => a.length - i.k) ⟨0, Nat.zero_le _⟩ ?_
 intro i
 have hle := i.le
 refine sr2 ?_
 refine mn ?_
 refine qm ?_
 refine qh sl36 ?_
 refine qb ?_
 refine nc (fun c1 => ?_) fun c1 => ?_
 ·try simp only [cnd] at c1
  have hwk := wtL_get (w := Mk.wt) (d := En.dflt) (l := a) (i := i.k) (by omega)
  refine jd (AW.seq (AW.block (AW.region ?_)))
  refine mn ?_
  refine qm ?_
  refine qm ?_
  refine mn ?_
  refine qq (ix sl36 sz165) ?_
  refine qG ag165 sz165 ?_
  refine sp (Stp.callR rfl (by decide) Tryz.call153 rfl rfl (toProc_con _ (by first | omega | (simp only [Int.toNat_natCast]; omega) | (simp only [Mk.wt] at *; omega))) (nodup_of rfl) rfl rfl) ?_
  refine nm ?_
  refine qq (ix sl25 sz72) ?_
  refine ss ?_
  refine nl ?_
  refine AW.region ?_
  refine mn ?_
  refine ba ?_
  refine qn ?_
  refine ⟨⟨i.k + 1, by omega⟩, Weak.sim ⟨st1, rfl, rfl, ⟨_, rfl, trMix_next (fun i c hi => by simp only [upd_app, hi, false_and, if_false]; rfl) (fun c hc => match c, hc with | 0, _ => (by simp only [upd_app, eq_self, and_true, and_false, Nat.reduceEqDiff, if_true, if_false]; exact T.sim_refl _) | 1, _ => (by simp only [upd_app, eq_self, and_true, and_false, Nat.reduceEqDiff, if_true, if_false]; exact T.sim_refl _) | 2, _ => (by simp only [upd_app, eq_self, and_true, and_false, Nat.reduceEqDiff, if_true, if_false]; exact T.sim_refl _) | 3, _ => (by simp only [upd_app, eq_self, and_true, and_false, Nat.reduceEqDiff, if_true, if_false]; exact T.sim_refl _) | 4, _ => (by simp only [upd_app, eq_self, and_true, and_false, Nat.reduceEqDiff, if_true, if_false]; exact T.sim_refl _) | 5, _ => (by simp only [upd_app, eq_self, and_true, and_false, Nat.reduceEqDiff, if_true, if_false]; exact T.sim_refl _) | 6, _ => (by simp only [upd_app, eq_self, and_true, and_false, Nat.reduceEqDiff, if_true, if_false]; exact T.sim_refl _) | 7, _ => (by simp only [upd_app, eq_self, and_true, and_false, Nat.reduceEqDiff, if_true, if_false]; exact T.sim_refl _) | 8, _ => (by simp only [upd_app, eq_self, and_true, and_false, Nat.reduceEqDiff, if_true, if_false]; exact T.sim_refl _) | 9, _ => (by simp only [upd_app, eq_self, and_true, and_false, Nat.reduceEqDiff, if_true, if_false]; exact T.sim_refl _) | c + 10, hc => absurd hc (by simp only [En.n]; omega))⟩, Rf rfl, trivial⟩ rfl rfl, ?_⟩
  show a.length - (i.k + 1) < a.length - i.k
  omega
 try simp only [cnd] at c1
 refine AW.exit ?_
 dsimp only [thenQ, blockQ, reduceIte]
 refine sr ?_
 refine mn ?_
 refine qn ?_
 refine AW.weak (L' := [.rt 7 .row (tr a), .sl 2 (.h 7 [])]) (Weak.sim ⟨⟨_, rfl, trMix_full (by omega) rfl (fun _ _ => rfl)⟩, rfl, trivial⟩ rfl rfl) ?_
 refine rt1 2 ?_
 refine ⟨fun _ => 7, rfl, nodup_of rfl, ?_⟩
 intro r hr
 cases List.mem_singleton.1 hr
 exact ⟨by simp, rootL_mem rfl⟩
theorem toOpen_con (a : DOpen) : Con Tryz.prog 154 [.g [.v (iv a.Id), .v (iv a.Kind), .v (iv a.Target), .v (iv a.Off), .v (iv a.Refs)]] [] (Ret (.g [.v (iv a.Id), .v (iv a.Kind), .v (iv a.Target), .v (iv a.Off), .v (iv a.Refs)]) []) := by
 refine ob Tryz.func154 Tryz.ntmps154 ?_
 refine sr ?_
 refine bx ?_
 refine nm ?_
 refine sp sA ?_
 refine ns ?_
 refine sp sA ?_
 refine ns ?_
 refine qq (fA fl174_0) ?_
 refine nm ?_
 refine ql ag3 ?_
 refine qq (fA fl130_0) ?_
 refine ss ?_
 refine ns ?_
 refine qq (fA fl174_1) ?_
 refine nm ?_
 refine ql ag3 ?_
 refine qq (fA fl130_1) ?_
 refine ss ?_
 refine ns ?_
 refine qq (fA fl174_2) ?_
 refine nm ?_
 refine ql ag3 ?_
 refine qq (fA fl130_2) ?_
 refine ss ?_
 refine ns ?_
 refine qq (fA fl174_3) ?_
 refine nm ?_
 refine ql ag3 ?_
 refine qq (fA fl130_3) ?_
 refine ss ?_
 refine ns ?_
 refine qq (fA fl174_4) ?_
 refine nm ?_
 refine ql ag3 ?_
 refine qq (fA fl130_4) ?_
 refine ss ?_
 refine ns ?_
 refine qG ag130 sz130 ?_
 refine nm ?_
 refine ss ?_
 refine nl ?_
 refine AW.ret (endQ_ret (.cons (.cellG 2 130 rfl rfl rfl ag130 sz130 (by decide)) .nil) ?_)
 refine ⟨fun _ => 0, rfl, nodup_of rfl, ?_⟩
 intro r hr
 cases hr
theorem toOpenS_con (a : List DOpen) (hw : Mk.wt a ≤ 1048576) : Con Tryz.prog 70 [.h base []] [.rt base .ro (tr a)] (Ret (.h 0 []) [(0, .row, tr a)]) := by
 refine ob Tryz.func70 Tryz.ntmps70 ?_
 have hw2 : a.length + wtL Mk.wt a ≤ 1048576 := hw
 refine sr ?_
 refine qs' ?_
 refine qm ?_
 refine qh sl37 ?_
 refine nm ?_
 refine sp (Stp.makeSlice rfl (by decide) (by decide) rfl rfl (by omega) (by omega) (by omega)) ?_
 refine nm ?_
 refine qn ?_
 refine sr2 ?_
 refine qn ?_
 refine AW.block ?_
 refine AW.weak (L' := [.sl 4 (.v (iv (0 : Nat))), .sl 3 (.h 7 []), .sl 0 (.h base []), .rt 7 .row (trMix (0 : Nat) a.length (fun j => a.getD j En.dflt) fun _ => En.dflt), .rt base .ro (tr a)]) (Weak.sim ⟨rfl, rfl, rfl, ⟨_, rfl, (trMix_start rfl (fun c hc => match c, hc with | 0, _ => T.sim_refl _ | 1, _ => T.sim_refl _ | 2, _ => T.sim_refl _ | 3, _ => T.sim_refl _ | 4, _ => T.sim_refl _ | c + 5, hc => absurd hc (by simp only [En.n]; omega)))⟩, Rf rfl, trivial⟩ rfl rfl) ?_
 refine AW.loop (fun i : KInv a.length => [.sl 4 (.v (iv i.k)), .sl 3 (.h 7 []), .sl 0 (.h base []), .rt 7 .row (trMix i.k a.length (fun j => a.getD j En.dflt) fun _ => En.dflt), .rt base .ro (tr a)]) (fun i => a.length - i.k) ⟨0, Nat.zero_le _⟩ ?_
 intro i
 have hle := i.le
 refine sr2 ?_
 refine mn ?_
 refine qm ?_
 refine qh sl37 ?_
 refine qb ?_
 refine nc (fun c1 => ?_) fun c1 => ?_
 ·try simp only [cnd] at c1
  have hwk := wtL_get (w := Mk.wt) (d := En.dflt) (l := a) (i := i.k) (by omega)
  refine jd (AW.seq (AW.block (AW.region ?_)))
  refine mn ?_
  refine qm ?_
  refine qm ?_
  refine mn ?_
  refine qq (ix sl37 sz174) ?_
  refine qG ag174 sz174 ?_
  refine sp (Stp.callR rfl (by decide) Tryz.call154 rfl rfl (toOpen_con _) (nodup_of rfl) rfl rfl) ?_
  refine nm ?_
  refine qq (ix sl26 sz130) ?_
  refine ss ?_
  refine nl ?_
  refine AW.region ?_
  refine mn ?_
  refine ba ?_
  refine qn ?_
  refine ⟨⟨i.k + 1, by omega⟩, Weak.sim ⟨st1, rfl, rfl, ⟨_, rfl, trMix_next (fun i c hi => by simp only [upd_app, hi, false_and, if_false]; rfl) (fun c hc => match c, hc with | 0, _ => (by simp only [upd_app, eq_self, and_true, and_false, Nat.reduceEqDiff, if_true, if_false]; exact T.sim_refl _) | 1, _ => (by simp only [upd_app, eq_self, and_true, and_false, Nat.reduceEqDiff, if_true, if_false]; exact T.sim_refl _) | 2, _ => (by simp only [upd_app, eq_self, and_true, and_false, Nat.reduceEqDiff, if_true, if_false]; exact T.sim_refl _) | 3, _ => (by simp only [upd_app, eq_self, and_true, and_false, Nat.reduceEqDiff, if_true, if_false]; exact T.sim_refl _) | 4, _ => (by simp only [upd_app, eq_self, and_true, and_false, Nat.reduceEqDiff, if_true, if_false]; exact T.sim_refl _) | c + 5, hc => absurd hc (by simp only [En.n]; omega))⟩, Rf rfl, trivial⟩ rfl rfl, ?_⟩
  show a.length - (i.k + 1) < a.length - i.k
  omega
 try simp only [cnd] at c1
 refine AW.exit ?_
 dsimp only [thenQ, blockQ, reduceIte]
 refine sr ?_
 refine mn ?_
 refine qn ?_
 refine AW.weak (L' := [.rt 7 .row (tr a), .sl 2 (.h 7 [])]) (Weak.sim ⟨⟨_, rfl, trMix_full (by omega) rfl (fun _ _ => rfl)⟩, rfl, trivial⟩ rfl rfl) ?_
 refine rt1 2 ?_
 refine ⟨fun _ => 7, rfl, nodup_of rfl, ?_⟩
 intro r hr
 cases List.mem_singleton.1 hr
 exact ⟨by simp, rootL_mem rfl⟩
theorem toPipe_con (a : DPipe) (hw : Mk.wt a ≤ 1048576) : Con Tryz.prog 155 [.g [.v (iv a.Id), .h base []]] [.rt base .ro (tr a.Data)] (Ret (.g [.v (iv a.Id), .h 0 []]) [(0, .row, tr a.Data)]) := by
 refine ob Tryz.func155 Tryz.ntmps155 ?_
 refine sr ?_
 refine bx ?_
 refine nm ?_
 refine sp sA ?_
 refine ns ?_
 refine sp sA ?_
 refine ns ?_
 refine qq (fA fl167_0) ?_
 refine nm ?_
 refine ql ag3 ?_
 refine qq (fA fl153_0) ?_
 refine ss ?_
 refine ns ?_
 refine qq (fA fl167_1) ?_
 refine nm ?_
 refine ql ag29 ?_
 refine sp (Stp.callR rfl (by decide) Tryz.call48 rfl rfl (toIntS_con _ (by first | omega | (simp only [Int.toNat_natCast]; omega) | (simp only [Mk.wt] at *; omega))) (nodup_of rfl) rfl rfl) ?_
 refine nm ?_
 refine qq (fA fl153_1) ?_
 refine ss ?_
 refine ns ?_
 refine qG ag153 sz153 ?_
 refine nm ?_
 refine ss ?_
 refine nl ?_
 refine AW.ret (endQ_ret (.cons (.cellG 2 153 rfl rfl rfl ag153 sz153 (by decide)) .nil) ?_)
 refine ⟨fun _ => 9, rfl, nodup_of rfl, ?_⟩
 intro r hr
 cases List.mem_singleton.1 hr
 exact ⟨by simp, rootL_mem rfl⟩
theorem toPipeS_con (a : List DPipe) (hw : Mk.wt a ≤ 1048576) : Con Tryz.prog 71 [.h base []] [.rt base .ro (tr a)] (Ret (.h 0 []) [(0, .row, tr a)]) := by
 refine ob Tryz.func71 Tryz.ntmps71 ?_
 have hw2 : a.length + wtL Mk.wt a ≤ 1048576 := hw
 refine sr ?_
 refine qs' ?_
 refine qm ?_
 refine qh sl38 ?_
 refine nm ?_
 refine sp (Stp.makeSlice rfl (by decide) (by decide) rfl rfl (by omega) (by omega) (by omega)) ?_
 refine nm ?_
 refine qn ?_
 refine sr2 ?_
 refine qn ?_
 refine AW.block ?_
 refine AW.weak (L' := [.sl 4 (.v (iv (0 : Nat))), .sl 3 (.h 7 []), .sl 0 (.h base []), .rt 7 .row (trMix (0 : Nat) a.length (fun j => a.getD j En.dflt) fun _ => En.dflt), .rt base .ro (tr a)]) (Weak.sim ⟨rfl, rfl, rfl, ⟨_, rfl, (trMix_start rfl (fun c hc => match c, hc with | 0, _ => T.sim_refl _ | 1, _ => sim_nil | c + 2, hc => absurd hc (by simp only [En.n]; omega)))⟩, Rf rfl, trivial⟩ rfl rfl) ?_
 refine AW.loop (fun i : KInv a.length => [.sl 4 (.v (iv i.k)), .sl 3 (.h 7 []), .sl 0 (.h base []), .rt 7 .row (trMix i.k a.length (fun j => a.getD j En.dflt) fun _ => En.dflt), .rt base .ro (tr a)]) (fun i => a.length - i.k) ⟨0, Nat.zero_le _⟩ ?_
 intro i
 have hle := i.le
 refine sr2 ?_
 refine mn ?_
 refine qm ?_
 refine qh sl38 ?_
 refine qb ?_
 refine nc (fun c1 => ?_) fun c1 => ?_
 ·try simp only [cnd] at c1
  have hwk := wtL_get (w := Mk.wt) (d := En.dflt) (l := a) (i := i.k) (by omega)
  refine jd (AW.seq (AW.block (AW.region ?_)))
  refine mn ?_
  refine qm ?_
  refine qm ?_
  refine mn ?_
  refine qq (ix sl38 sz167) ?_
  refine qG ag167 sz167 ?_
  refine sp (Stp.callR rfl (by decide) Tryz.call155 rfl rfl (toPipe_con _ (by first | omega | (simp only [Int.toNat_natCast]; omega) | (simp only [Mk.wt] at *; omega))) (nodup_of rfl) rfl rfl) ?_
  refine nm ?_
  refine qq (ix sl27 sz153) ?_
  refine ss ?_
  refine nl ?_
  refine AW.region ?_
  refine mn ?_
  refine ba ?_
  refine qn ?_
  refine ⟨⟨i.k + 1, by omega⟩, Weak.sim ⟨st1, rfl, rfl, ⟨_, rfl, trMix_next (fun i c hi => by simp only [upd_app, hi, false_and, if_false]; rfl) (fun c hc => match c, hc with | 0, _ => (by simp only [upd_app, eq_self, and_true, and_false, Nat.reduceEqDiff, if_true, if_false]; exact T.sim_refl _) | 1, _ => (by simp only [upd_app, eq_self, and_true, and_false, Nat.reduceEqDiff, if_true, if_false]; exact T.sim_refl _) | c + 2, hc => absurd hc (by simp only [En.n]; omega))⟩, Rf rfl, trivial⟩ rfl rfl, ?_⟩
  show a.length - (i.k + 1) < a.length - i.k
  omega
 try simp only [cnd] at c1
 refine AW.exit ?_
 dsimp only [thenQ, blockQ, reduceIte]
 refine sr ?_
 refine mn ?_
 refine qn ?_
 refine AW.weak (L' := [.rt 7 .row (tr a), .sl 2 (.h 7 [])]) (Weak.sim ⟨⟨_, rfl, trMix_full (by omega) rfl (fun _ _ => rfl)⟩, rfl, trivial⟩ rfl rfl) ?_
 refine rt1 2 ?_
 refine ⟨fun _ => 7, rfl, nodup_of rfl, ?_⟩
 intro r hr
 cases List.mem_singleton.1 hr
 exact ⟨by simp, rootL_mem rfl⟩
theorem toFile_con (a : DFile) (hw : Mk.wt a ≤ 1048576) : Con Tryz.prog 156 [.g [.v (iv a.Name), .h base []]] [.rt base .ro (tr a.Data)] (Ret (.g [.v (iv a.Name), .h 0 []]) [(0, .row, tr a.Data)]) := by
 refine ob Tryz.func156 Tryz.ntmps156 ?_
 refine sr ?_
 refine bx ?_
 refine nm ?_
 refine sp sA ?_
 refine ns ?_
 refine sp sA ?_
 refine ns ?_
 refine qq (fA fl169_0) ?_
 refine nm ?_
 refine ql ag3 ?_
 refine qq (fA fl155_0) ?_
 refine ss ?_
 refine ns ?_
 refine qq (fA fl169_1) ?_
 refine nm ?_
 refine ql ag29 ?_
 refine sp (Stp.callR rfl (by decide) Tryz.call48 rfl rfl (toIntS_con _ (by first | omega | (simp only [Int.toNat_natCast]; omega) | (simp only [Mk.wt] at *; omega))) (nodup_of rfl) rfl rfl) ?_
 refine nm ?_
 refine qq (fA fl155_1) ?_
 refine ss ?_
 refine ns ?_
 refine qG ag155 sz155 ?_
 refine nm ?_
 refine ss ?_
 refine nl ?_
 refine AW.ret (endQ_ret (.cons (.cellG 2 155 rfl rfl rfl ag155 sz155 (by decide)) .nil) ?_)
 refine ⟨fun _ => 9, rfl, nodup_of rfl, ?_⟩
 intro r hr
 cases List.mem_singleton.1 hr
 exact ⟨by simp, rootL_mem rfl⟩
theorem toFileS_con (a : List DFile) (hw : Mk.wt a ≤ 1048576) : Con Tryz.prog 72 [.h base []] [.rt base .ro (tr a)] (Ret (.h 0 []) [(0, .row, tr a)]) := by
 refine ob Tryz.func72 Tryz.ntmps72 ?_
 have hw2 : a.length + wtL Mk.wt a ≤ 1048576 := hw
 refine sr ?_
 refine qs' ?_
 refine qm ?_
 refine qh sl39 ?_
 refine nm ?_
 refine sp (Stp.makeSlice rfl (by decide) (by decide) rfl rfl (by omega) (by omega) (by omega)) ?_
 refine nm ?_
 refine qn ?_
 refine sr2 ?_
 refine qn ?_
 refine AW.block ?_
 refine AW.weak (L' := [.sl 4 (.v (iv (0 : Nat))), .sl 3 (.h 7 []), .sl 0 (.h base []), .rt 7 .row (trMix (0 : Nat) a.length (fun j => a.getD j En.dflt) fun _ => En.dflt), .rt base .ro (tr a)]) (Weak.sim ⟨rfl, rfl, rfl, ⟨_, rfl, (trMix_start rfl (fun c hc => match c, hc with | 0, _ => T.sim_refl _ | 1, _ => sim_nil | c + 2, hc => absurd hc (by simp only [En.n]; omega)))⟩, Rf rfl, trivial⟩ rfl rfl) ?_
 refine AW.loop (fun i : KInv a.length => [.sl 4 (.v (iv i.k)), .sl 3 (.h 7 []), .sl 0 (.h base []), .rt 7 .row (trMix i.k a.length (fun j => a.getD j En.dflt) fun _ => En.dflt), .rt base .ro (tr a)]) (fun i => a.length - i.k) ⟨0, Nat.zero_le _⟩ ?_
 intro i
 have hle := i.le
 refine sr2 ?_
 refine mn ?_
 refine qm ?_
 refine qh sl39 ?_
 refine qb ?_
 refine nc (fun c1 => ?_) fun c1 => ?_
 ·try simp only [cnd] at c1
  have hwk := wtL_get (w := Mk.wt) (d := En.dflt) (l := a) (i := i.k) (by omega)
  refine jd (AW.seq (AW.block (AW.region ?_)))
  refine mn ?_
  refine qm ?_
  refine qm ?_
  refine mn ?_
  refine qq (ix sl39 sz169) ?_
  refine qG ag169 sz169 ?_
  refine sp (Stp.callR rfl (by decide) Tryz.call156 rfl rfl (toFile_con _ (by first | omega | (simp only [Int.toNat_natCast]; omega) | (simp only [Mk.wt] at *; omega))) (nodup_of rfl) rfl rfl) ?_
  refine nm ?_
  refine qq (ix sl28 sz155) ?_
  refine ss ?_
  refine nl ?_
  refine AW.region ?_
  refine mn ?_
  refine ba ?_
  refine qn ?_
  refine ⟨⟨i.k + 1, by omega⟩, Weak.sim ⟨st1, rfl, rfl, ⟨_, rfl, trMix_next (fun i c hi => by simp only [upd_app, hi, false_and, if_false]; rfl) (fun c hc => match c, hc with | 0, _ => (by simp only [upd_app, eq_self, and_true, and_false, Nat.reduceEqDiff, if_true, if_false]; exact T.sim_refl _) | 1, _ => (by simp only [upd_app, eq_self, and_true, and_false, Nat.reduceEqDiff, if_true, if_false]; exact T.sim_refl _) | c + 2, hc => absurd hc (by simp only [En.n]; omega))⟩, Rf rfl, trivial⟩ rfl rfl, ?_⟩
  show a.length - (i.k + 1) < a.length - i.k
  omega
 try simp only [cnd] at c1
 refine AW.exit ?_
 dsimp only [thenQ, blockQ, reduceIte]
 refine sr ?_
 refine mn ?_
 refine qn ?_
 refine AW.weak (L' := [.rt 7 .row (tr a), .sl 2 (.h 7 [])]) (Weak.sim ⟨⟨_, rfl, trMix_full (by omega) rfl (fun _ _ => rfl)⟩, rfl, trivial⟩ rfl rfl) ?_
 refine rt1 2 ?_
 refine ⟨fun _ => 7, rfl, nodup_of rfl, ?_⟩
 intro r hr
 cases List.mem_singleton.1 hr
 exact ⟨by simp, rootL_mem rfl⟩
theorem toUnix_con (a : DUnix) (hw : Mk.wt a ≤ 1048576) : Con Tryz.prog 21 [.g [.v (iv a.Next), .v (iv a.Tick), .h base [], .h (base + 1) [], .h (base + 2) [], .h (base + 3) [], .h (base + 4) [], .h (base + 5) [], .h (base + 6) []]] [.rt base .ro (tr a.Progs), .rt (base + 1) .ro (tr a.Procs), .rt (base + 2) .ro (tr a.Opens), .rt (base + 3) .ro (tr a.Pipes), .rt (base + 4) .ro (tr a.Files), .rt (base + 5) .ro (tr a.Ready), .rt (base + 6) .ro (tr a.Out)] (Ret (.g [.v (iv a.Next), .v (iv a.Tick), .h 0 [], .h 1 [], .h 2 [], .h 3 [], .h 4 [], .h 5 [], .h 6 []]) [(0, .row, tr a.Progs), (1, .row, tr a.Procs), (2, .row, tr a.Opens), (3, .row, tr a.Pipes), (4, .row, tr a.Files), (5, .row, tr a.Ready), (6, .row, tr a.Out)]) := by
 refine ob Tryz.func21 Tryz.ntmps21 ?_
 refine sr ?_
 refine bx ?_
 refine nm ?_
 refine sp sA ?_
 refine ns ?_
 refine sp sA ?_
 refine ns ?_
 refine qq (fA fl41_0) ?_
 refine nm ?_
 refine ql ag3 ?_
 refine qq (fA fl31_0) ?_
 refine ss ?_
 refine ns ?_
 refine qq (fA fl41_1) ?_
 refine nm ?_
 refine ql ag3 ?_
 refine qq (fA fl31_1) ?_
 refine ss ?_
 refine ns ?_
 refine qq (fA fl41_2) ?_
 refine nm ?_
 refine ql ag35 ?_
 refine sp (Stp.callR rfl (by decide) Tryz.call47 rfl rfl (toInsSS_con _ (by first | omega | (simp only [Int.toNat_natCast]; omega) | (simp only [Mk.wt] at *; omega))) (nodup_of rfl) rfl rfl) ?_
 refine nm ?_
 refine qq (fA fl31_2) ?_
 refine ss ?_
 refine ns ?_
 refine qq (fA fl41_3) ?_
 refine nm ?_
 refine ql ag36 ?_
 refine sp (Stp.callR rfl (by decide) Tryz.call69 rfl rfl (toProcS_con _ (by first | omega | (simp only [Int.toNat_natCast]; omega) | (simp only [Mk.wt] at *; omega))) (nodup_of rfl) rfl rfl) ?_
 refine nm ?_
 refine qq (fA fl31_3) ?_
 refine ss ?_
 refine ns ?_
 refine qq (fA fl41_4) ?_
 refine nm ?_
 refine ql ag37 ?_
 refine sp (Stp.callR rfl (by decide) Tryz.call70 rfl rfl (toOpenS_con _ (by first | omega | (simp only [Int.toNat_natCast]; omega) | (simp only [Mk.wt] at *; omega))) (nodup_of rfl) rfl rfl) ?_
 refine nm ?_
 refine qq (fA fl31_4) ?_
 refine ss ?_
 refine ns ?_
 refine qq (fA fl41_5) ?_
 refine nm ?_
 refine ql ag38 ?_
 refine sp (Stp.callR rfl (by decide) Tryz.call71 rfl rfl (toPipeS_con _ (by first | omega | (simp only [Int.toNat_natCast]; omega) | (simp only [Mk.wt] at *; omega))) (nodup_of rfl) rfl rfl) ?_
 refine nm ?_
 refine qq (fA fl31_5) ?_
 refine ss ?_
 refine ns ?_
 refine qq (fA fl41_6) ?_
 refine nm ?_
 refine ql ag39 ?_
 refine sp (Stp.callR rfl (by decide) Tryz.call72 rfl rfl (toFileS_con _ (by first | omega | (simp only [Int.toNat_natCast]; omega) | (simp only [Mk.wt] at *; omega))) (nodup_of rfl) rfl rfl) ?_
 refine nm ?_
 refine qq (fA fl31_6) ?_
 refine ss ?_
 refine ns ?_
 refine qq (fA fl41_7) ?_
 refine nm ?_
 refine ql ag29 ?_
 refine sp (Stp.callR rfl (by decide) Tryz.call48 rfl rfl (toIntS_con _ (by first | omega | (simp only [Int.toNat_natCast]; omega) | (simp only [Mk.wt] at *; omega))) (nodup_of rfl) rfl rfl) ?_
 refine nm ?_
 refine qq (fA fl31_7) ?_
 refine ss ?_
 refine ns ?_
 refine qq (fA fl41_8) ?_
 refine nm ?_
 refine ql ag29 ?_
 refine sp (Stp.callR rfl (by decide) Tryz.call48 rfl rfl (toIntS_con _ (by first | omega | (simp only [Int.toNat_natCast]; omega) | (simp only [Mk.wt] at *; omega))) (nodup_of rfl) rfl rfl) ?_
 refine nm ?_
 refine qq (fA fl31_8) ?_
 refine ss ?_
 refine ns ?_
 refine qG ag31 sz31 ?_
 refine nm ?_
 refine ss ?_
 refine nl ?_
 refine AW.ret (endQ_ret (.cons (.cellG 2 31 rfl rfl rfl ag31 sz31 (by decide)) .nil) ?_)
 refine ⟨fun i => if i = 0 then 12 else if i = 1 then 16 else if i = 2 then 20 else if i = 3 then 24 else if i = 4 then 28 else if i = 5 then 32 else 36, rfl, nodup_of rfl, ?_⟩
 intro r hr
 simp only [List.mem_cons, List.not_mem_nil, or_false] at hr
 rcases hr with rfl | rfl | rfl | rfl | rfl | rfl | rfl <;> exact ⟨by simp, rootL_mem rfl⟩
theorem eqIns_con (a b : DIns) : Con Tryz.prog 203 [.g [.v (iv a.Op), .v (iv a.A), .v (iv a.B), .v (iv a.C)], .g [.v (iv b.Op), .v (iv b.A), .v (iv b.B), .v (iv b.C)]] [] (fun y _ => y = .v (.bool (decide (a = b)))) := by
 refine ob Tryz.func203 Tryz.ntmps203 ?_
 refine sr ?_
 refine bx ?_
 refine nm ?_
 refine bx ?_
 refine nm ?_
 refine qn ?_
 refine sr2 ?_
 refine qq (fA fl187_0) ?_
 refine ql ag3 ?_
 refine nm ?_
 refine qq (fA fl187_0) ?_
 refine ql ag3 ?_
 refine qb ?_
 refine nc (fun c1 => ?_) fun c1 => ?_
 ·try simp only [cnd] at c1
  refine sr ?_
  refine qr 4 ?_
  simp only [retX, slotL, reduceIte, Nat.reduceEqDiff]
  cases a
  cases b
  simp_all
 try simp only [cnd] at c1
 refine jd (sr2 ?_)
 refine qq (fA fl187_1) ?_
 refine nm ?_
 refine ql ag3 ?_
 refine qq (fA fl187_1) ?_
 refine ql ag3 ?_
 refine nm ?_
 refine qb ?_
 refine nc (fun c2 => ?_) fun c2 => ?_
 ·try simp only [cnd] at c2
  refine sr ?_
  refine qr 4 ?_
  simp only [retX, slotL, reduceIte, Nat.reduceEqDiff]
  cases a
  cases b
  simp_all
 try simp only [cnd] at c2
 refine jd (sr2 ?_)
 refine qq (fA fl187_2) ?_
 refine nm ?_
 refine ql ag3 ?_
 refine qq (fA fl187_2) ?_
 refine ql ag3 ?_
 refine nm ?_
 refine qb ?_
 refine nc (fun c3 => ?_) fun c3 => ?_
 ·try simp only [cnd] at c3
  refine sr ?_
  refine qr 4 ?_
  simp only [retX, slotL, reduceIte, Nat.reduceEqDiff]
  cases a
  cases b
  simp_all
 try simp only [cnd] at c3
 refine jd (sr2 ?_)
 refine qq (fA fl187_3) ?_
 refine nm ?_
 refine ql ag3 ?_
 refine qq (fA fl187_3) ?_
 refine ql ag3 ?_
 refine nm ?_
 refine qb ?_
 refine nc (fun c4 => ?_) fun c4 => ?_
 ·try simp only [cnd] at c4
  refine sr ?_
  refine qr 4 ?_
  simp only [retX, slotL, reduceIte, Nat.reduceEqDiff]
  cases a
  cases b
  simp_all
 try simp only [cnd] at c4
 refine jd (sr ?_)
 refine qr 4 ?_
 simp only [retX, slotL, reduceIte, Nat.reduceEqDiff]
 cases a
 cases b
 simp_all
theorem eqInsS_con (a b : List DIns) : Con Tryz.prog 115 [.h base [], .h (base + 1) []] [.rt base .ro (tr a), .rt (base + 1) .ro (tr b)] (fun y _ => y = .v (.bool (decide (a = b)))) := by
 refine ob Tryz.func115 Tryz.ntmps115 ?_
 refine AW.len base [] rfl (by simp [Okp]) rfl (fun hl => ?_)
 refine AW.len (base + 1) [] rfl (by simp [Okp]) rfl (fun hl2 => ?_)
 refine sr ?_
 refine qn ?_
 refine sr2 ?_
 refine qm ?_
 refine qh sl65 ?_
 refine nm ?_
 refine qm ?_
 refine qh sl65 ?_
 refine qb ?_
 refine nc (fun c1 => ?_) fun c1 => ?_
 ·try simp only [cnd] at c1
  refine sr ?_
  refine qr 4 ?_
  simp only [retX, slotL, reduceIte, Nat.reduceEqDiff]
  rw [decide_eq_false (show a ≠ b from ne_of_len (by omega))]
 try simp only [cnd] at c1
 refine jd (sr2 ?_)
 refine qn ?_
 refine AW.block ?_
 refine AW.loopW (fun i : EqInv a b => [.sl 5 (.v (iv i.k)), .sl 0 (.h base []), .sl 1 (.h (base + 1) []), .rt base .ro (tr a), .rt (base + 1) .ro (tr b)]) (fun i => a.length - i.k) ⟨0, Nat.zero_le _, rfl⟩ (Weak.sim ⟨rfl, rfl, rfl, Rf rfl, Rf rfl, trivial⟩ rfl rfl) ?_
 intro i
 have hle := i.le
 refine sr2 ?_
 refine mn ?_
 refine qm ?_
 refine qh sl65 ?_
 refine qb ?_
 refine nc (fun c2 => ?_) fun c2 => ?_
 ·try simp only [cnd] at c2
  refine jd (AW.seq (AW.block (AW.seq ?_)))
  refine AW.draw [0, 1, 2, 3, 4, 5, 6, 7, 9] rfl (by decide +kernel) ?_
  refine tk 0 rfl Qt.move ?_
  refine na ?_
  refine tk 1 rfl Qt.move ?_
  refine tk 2 rfl (ix sl65 sz187) ?_
  refine tk 3 rfl (Qt.loadG rfl rfl rfl ag187 sz187 (by decide)) ?_
  refine na ?_
  refine tk 4 rfl Qt.move ?_
  refine tk 5 rfl Qt.move ?_
  refine tk 6 rfl (ix sl65 sz187) ?_
  refine na ?_
  refine tk 7 rfl (Qt.loadG rfl rfl rfl ag187 sz187 (by decide)) ?_
  refine a1 8 [] [7, 3, 6, 2, 5, 4, 1, 0] rfl rfl (Stp.callV rfl (by decide) Tryz.call203 rfl rfl (eqIns_con _ _)) ?_
  refine na ?_
  refine na ?_
  refine tk 9 rfl (Qt.notB rfl) ?_
  refine nz ?_
  refine cd (fun c3 => ?_) fun c3 => ?_
  ·try simp only [cnd] at c3
   refine sr ?_
   refine qr 4 ?_
   simp only [retX, slotL, reduceIte, Nat.reduceEqDiff]
   rw [decide_eq_false (show a ≠ b from i.stop En.dflt (by simpa using c3))]
  try simp only [cnd] at c3
  refine jd (AW.region ?_)
  refine mn ?_
  refine ba ?_
  refine qn ?_
  refine ⟨⟨i.k + 1, by omega, i.next En.dflt (by omega) (by omega) (by simpa using c3)⟩, Weak.sim ⟨st1, rfl, rfl, Rf rfl, Rf rfl, trivial⟩ rfl rfl, ?_⟩
  show a.length - (i.k + 1) < a.length - i.k
  omega
 try simp only [cnd] at c2
 refine AW.exit ?_
 dsimp only [thenQ, blockQ, reduceIte]
 refine sr ?_
 refine qr 4 ?_
 simp only [retX, slotL, reduceIte, Nat.reduceEqDiff]
 rw [decide_eq_true (show a = b from i.full (by omega) (by omega))]
theorem eqInsSS_con (a b : List (List DIns)) : Con Tryz.prog 49 [.h base [], .h (base + 1) []] [.rt base .ro (tr a), .rt (base + 1) .ro (tr b)] (fun y _ => y = .v (.bool (decide (a = b)))) := by
 refine ob Tryz.func49 Tryz.ntmps49 ?_
 refine AW.len base [] rfl (by simp [Okp]) rfl (fun hl => ?_)
 refine AW.len (base + 1) [] rfl (by simp [Okp]) rfl (fun hl2 => ?_)
 refine sr ?_
 refine qn ?_
 refine sr2 ?_
 refine qm ?_
 refine qh sl24 ?_
 refine nm ?_
 refine qm ?_
 refine qh sl24 ?_
 refine qb ?_
 refine nc (fun c1 => ?_) fun c1 => ?_
 ·try simp only [cnd] at c1
  refine sr ?_
  refine qr 4 ?_
  simp only [retX, slotL, reduceIte, Nat.reduceEqDiff]
  rw [decide_eq_false (show a ≠ b from ne_of_len (by omega))]
 try simp only [cnd] at c1
 refine jd (sr2 ?_)
 refine qn ?_
 refine AW.block ?_
 refine AW.loopW (fun i : EqInv a b => [.sl 5 (.v (iv i.k)), .sl 0 (.h base []), .sl 1 (.h (base + 1) []), .rt base .ro (tr a), .rt (base + 1) .ro (tr b)]) (fun i => a.length - i.k) ⟨0, Nat.zero_le _, rfl⟩ (Weak.sim ⟨rfl, rfl, rfl, Rf rfl, Rf rfl, trivial⟩ rfl rfl) ?_
 intro i
 have hle := i.le
 refine sr2 ?_
 refine mn ?_
 refine qm ?_
 refine qh sl24 ?_
 refine qb ?_
 refine nc (fun c2 => ?_) fun c2 => ?_
 ·try simp only [cnd] at c2
  refine jd (AW.seq (AW.block (AW.seq ?_)))
  refine AW.draw [0, 1, 2, 3, 4, 5, 6, 7, 9] rfl (by decide +kernel) ?_
  refine tk 0 rfl Qt.move ?_
  refine na ?_
  refine tk 1 rfl Qt.move ?_
  refine tk 2 rfl (ix sl24 sz65) ?_
  refine tk 3 rfl (Qt.load1 rfl rfl rfl ag65) ?_
  refine na ?_
  refine tk 4 rfl Qt.move ?_
  refine tk 5 rfl Qt.move ?_
  refine tk 6 rfl (ix sl24 sz65) ?_
  refine na ?_
  refine tk 7 rfl (Qt.load1 rfl rfl rfl ag65) ?_
  refine a1 8 [] [7, 3, 6, 2, 5, 4, 1, 0] rfl rfl (Stp.callV rfl (by decide) Tryz.call115 rfl rfl (eqInsS_con _ _)) ?_
  refine na ?_
  refine na ?_
  refine tk 9 rfl (Qt.notB rfl) ?_
  refine nz ?_
  refine cd (fun c3 => ?_) fun c3 => ?_
  ·try simp only [cnd] at c3
   refine sr ?_
   refine qr 4 ?_
   simp only [retX, slotL, reduceIte, Nat.reduceEqDiff]
   rw [decide_eq_false (show a ≠ b from i.stop En.dflt (by simpa using c3))]
  try simp only [cnd] at c3
  refine jd (AW.region ?_)
  refine mn ?_
  refine ba ?_
  refine qn ?_
  refine ⟨⟨i.k + 1, by omega, i.next En.dflt (by omega) (by omega) (by simpa using c3)⟩, Weak.sim ⟨st1, rfl, rfl, Rf rfl, Rf rfl, trivial⟩ rfl rfl, ?_⟩
  show a.length - (i.k + 1) < a.length - i.k
  omega
 try simp only [cnd] at c2
 refine AW.exit ?_
 dsimp only [thenQ, blockQ, reduceIte]
 refine sr ?_
 refine qr 4 ?_
 simp only [retX, slotL, reduceIte, Nat.reduceEqDiff]
 rw [decide_eq_true (show a = b from i.full (by omega) (by omega))]
theorem eqIntS_con (a b : List Int) : Con Tryz.prog 50 [.h base [], .h (base + 1) []] [.rt base .ro (tr a), .rt (base + 1) .ro (tr b)] (fun y _ => y = .v (.bool (decide (a = b)))) := by
 refine ob Tryz.func50 Tryz.ntmps50 ?_
 refine AW.len base [] rfl (by simp [Okp]) rfl (fun hl => ?_)
 refine AW.len (base + 1) [] rfl (by simp [Okp]) rfl (fun hl2 => ?_)
 refine sr ?_
 refine qn ?_
 refine sr2 ?_
 refine qm ?_
 refine qh sl29 ?_
 refine nm ?_
 refine qm ?_
 refine qh sl29 ?_
 refine qb ?_
 refine nc (fun c1 => ?_) fun c1 => ?_
 ·try simp only [cnd] at c1
  refine sr ?_
  refine qr 4 ?_
  simp only [retX, slotL, reduceIte, Nat.reduceEqDiff]
  rw [decide_eq_false (show a ≠ b from ne_of_len (by omega))]
 try simp only [cnd] at c1
 refine jd (sr2 ?_)
 refine qn ?_
 refine AW.block ?_
 refine AW.loopW (fun i : EqInv a b => [.sl 5 (.v (iv i.k)), .sl 0 (.h base []), .sl 1 (.h (base + 1) []), .rt base .ro (tr a), .rt (base + 1) .ro (tr b)]) (fun i => a.length - i.k) ⟨0, Nat.zero_le _, rfl⟩ (Weak.sim ⟨rfl, rfl, rfl, Rf rfl, Rf rfl, trivial⟩ rfl rfl) ?_
 intro i
 have hle := i.le
 refine sr2 ?_
 refine mn ?_
 refine qm ?_
 refine qh sl29 ?_
 refine qb ?_
 refine nc (fun c2 => ?_) fun c2 => ?_
 ·try simp only [cnd] at c2
  refine jd (AW.seq (AW.block (AW.seq ?_)))
  refine AW.draw [0, 1, 2, 3, 4, 5, 6, 7, 8] rfl (by decide +kernel) ?_
  refine tk 0 rfl Qt.move ?_
  refine na ?_
  refine tk 1 rfl Qt.move ?_
  refine tk 2 rfl (ix sl29 sz3) ?_
  refine tk 3 rfl (Qt.load1 rfl rfl rfl ag3) ?_
  refine na ?_
  refine tk 4 rfl Qt.move ?_
  refine tk 5 rfl Qt.move ?_
  refine tk 6 rfl (ix sl29 sz3) ?_
  refine na ?_
  refine tk 7 rfl (Qt.load1 rfl rfl rfl ag3) ?_
  refine tk 8 rfl (Qt.binOp rfl rfl rfl) ?_
  refine nz ?_
  refine cd (fun c3 => ?_) fun c3 => ?_
  ·try simp only [cnd] at c3
   refine sr ?_
   refine qr 4 ?_
   simp only [retX, slotL, reduceIte, Nat.reduceEqDiff]
   rw [decide_eq_false (show a ≠ b from i.stop En.dflt (by simpa using c3))]
  try simp only [cnd] at c3
  refine jd (AW.region ?_)
  refine mn ?_
  refine ba ?_
  refine qn ?_
  refine ⟨⟨i.k + 1, by omega, i.next En.dflt (by omega) (by omega) (by simpa using c3)⟩, Weak.sim ⟨st1, rfl, rfl, Rf rfl, Rf rfl, trivial⟩ rfl rfl, ?_⟩
  show a.length - (i.k + 1) < a.length - i.k
  omega
 try simp only [cnd] at c2
 refine AW.exit ?_
 dsimp only [thenQ, blockQ, reduceIte]
 refine sr ?_
 refine qr 4 ?_
 simp only [retX, slotL, reduceIte, Nat.reduceEqDiff]
 rw [decide_eq_true (show a = b from i.full (by omega) (by omega))]
theorem eqCpu_con (a b : DCpu) : Con Tryz.prog 252 [.g [.v (iv a.Pc), .h base []], .g [.v (iv b.Pc), .h (base + 1) []]] [.rt base .ro (tr a.Regs), .rt (base + 1) .ro (tr b.Regs)] (fun y _ => y = .v (.bool (decide (a = b)))) := by
 refine ob Tryz.func252 Tryz.ntmps252 ?_
 refine sr ?_
 refine bx ?_
 refine nm ?_
 refine bx ?_
 refine nm ?_
 refine qn ?_
 refine sr2 ?_
 refine qq (fA fl70_0) ?_
 refine ql ag3 ?_
 refine nm ?_
 refine qq (fA fl70_0) ?_
 refine ql ag3 ?_
 refine qb ?_
 refine nc (fun c1 => ?_) fun c1 => ?_
 ·try simp only [cnd] at c1
  refine sr ?_
  refine qr 4 ?_
  simp only [retX, slotL, reduceIte, Nat.reduceEqDiff]
  cases a
  cases b
  simp_all
 try simp only [cnd] at c1
 refine jd (sr2 ?_)
 refine qq (fA fl70_1) ?_
 refine nm ?_
 refine ql ag29 ?_
 refine qq (fA fl70_1) ?_
 refine ql ag29 ?_
 refine nm ?_
 refine cv Tryz.call50 rfl rfl (eqIntS_con _ _) ?_
 refine nm ?_
 refine qq (Qt.notB rfl) ?_
 refine nc (fun c2 => ?_) fun c2 => ?_
 ·try simp only [cnd] at c2
  refine sr ?_
  refine qr 4 ?_
  simp only [retX, slotL, reduceIte, Nat.reduceEqDiff]
  cases a
  cases b
  simp_all
 try simp only [cnd] at c2
 refine jd (sr ?_)
 refine qr 4 ?_
 simp only [retX, slotL, reduceIte, Nat.reduceEqDiff]
 cases a
 cases b
 simp_all
theorem eqProc_con (a b : DProc) : Con Tryz.prog 169 [.g [.v (iv a.Pid), .v (iv a.Parent), .v (iv a.State), .v (iv a.Prog), .v (iv a.Cpu.Pc), .h base [], .h (base + 1) [], .h (base + 2) [], .v (iv a.Until), .v (iv a.Code)], .g [.v (iv b.Pid), .v (iv b.Parent), .v (iv b.State), .v (iv b.Prog), .v (iv b.Cpu.Pc), .h (base + 3) [], .h (base + 4) [], .h (base + 5) [], .v (iv b.Until), .v (iv b.Code)]] [.rt base .ro (tr a.Cpu.Regs), .rt (base + 1) .ro (tr a.Mem), .rt (base + 2) .ro (tr a.Fds), .rt (base + 3) .ro (tr b.Cpu.Regs), .rt (base + 4) .ro (tr b.Mem), .rt (base + 5) .ro (tr b.Fds)] (fun y _ => y = .v (.bool (decide (a = b)))) := by
 refine ob Tryz.func169 Tryz.ntmps169 ?_
 refine sr ?_
 refine bx ?_
 refine nm ?_
 refine bx ?_
 refine nm ?_
 refine qn ?_
 refine sr2 ?_
 refine qq (fA fl72_0) ?_
 refine ql ag3 ?_
 refine nm ?_
 refine qq (fA fl72_0) ?_
 refine ql ag3 ?_
 refine qb ?_
 refine nc (fun c1 => ?_) fun c1 => ?_
 ·try simp only [cnd] at c1
  refine sr ?_
  refine qr 4 ?_
  simp only [retX, slotL, reduceIte, Nat.reduceEqDiff]
  cases a
  cases b
  simp_all
 try simp only [cnd] at c1
 refine jd (sr2 ?_)
 refine qq (fA fl72_1) ?_
 refine nm ?_
 refine ql ag3 ?_
 refine qq (fA fl72_1) ?_
 refine ql ag3 ?_
 refine nm ?_
 refine qb ?_
 refine nc (fun c2 => ?_) fun c2 => ?_
 ·try simp only [cnd] at c2
  refine sr ?_
  refine qr 4 ?_
  simp only [retX, slotL, reduceIte, Nat.reduceEqDiff]
  cases a
  cases b
  simp_all
 try simp only [cnd] at c2
 refine jd (sr2 ?_)
 refine qq (fA fl72_2) ?_
 refine nm ?_
 refine ql ag3 ?_
 refine qq (fA fl72_2) ?_
 refine ql ag3 ?_
 refine nm ?_
 refine qb ?_
 refine nc (fun c3 => ?_) fun c3 => ?_
 ·try simp only [cnd] at c3
  refine sr ?_
  refine qr 4 ?_
  simp only [retX, slotL, reduceIte, Nat.reduceEqDiff]
  cases a
  cases b
  simp_all
 try simp only [cnd] at c3
 refine jd (sr2 ?_)
 refine qq (fA fl72_3) ?_
 refine nm ?_
 refine ql ag3 ?_
 refine qq (fA fl72_3) ?_
 refine ql ag3 ?_
 refine nm ?_
 refine qb ?_
 refine nc (fun c4 => ?_) fun c4 => ?_
 ·try simp only [cnd] at c4
  refine sr ?_
  refine qr 4 ?_
  simp only [retX, slotL, reduceIte, Nat.reduceEqDiff]
  cases a
  cases b
  simp_all
 try simp only [cnd] at c4
 refine jd (sr2 ?_)
 refine qq (fA fl72_4) ?_
 refine nm ?_
 refine qG ag70 sz70 ?_
 refine qq (fA fl72_4) ?_
 refine qG ag70 sz70 ?_
 refine nm ?_
 refine cv Tryz.call252 rfl rfl (eqCpu_con _ _) ?_
 refine nm ?_
 refine qq (Qt.notB rfl) ?_
 refine nc (fun c5 => ?_) fun c5 => ?_
 ·try simp only [cnd] at c5
  refine sr ?_
  refine qr 4 ?_
  simp only [retX, slotL, reduceIte, Nat.reduceEqDiff]
  cases a
  cases b
  simp_all
 try simp only [cnd] at c5
 refine jd (sr2 ?_)
 refine qq (fA fl72_5) ?_
 refine nm ?_
 refine ql ag29 ?_
 refine qq (fA fl72_5) ?_
 refine ql ag29 ?_
 refine nm ?_
 refine cv Tryz.call50 rfl rfl (eqIntS_con _ _) ?_
 refine nm ?_
 refine qq (Qt.notB rfl) ?_
 refine nc (fun c6 => ?_) fun c6 => ?_
 ·try simp only [cnd] at c6
  refine sr ?_
  refine qr 4 ?_
  simp only [retX, slotL, reduceIte, Nat.reduceEqDiff]
  cases a
  cases b
  simp_all
 try simp only [cnd] at c6
 refine jd (sr2 ?_)
 refine qq (fA fl72_6) ?_
 refine nm ?_
 refine ql ag29 ?_
 refine qq (fA fl72_6) ?_
 refine ql ag29 ?_
 refine nm ?_
 refine cv Tryz.call50 rfl rfl (eqIntS_con _ _) ?_
 refine nm ?_
 refine qq (Qt.notB rfl) ?_
 refine nc (fun c7 => ?_) fun c7 => ?_
 ·try simp only [cnd] at c7
  refine sr ?_
  refine qr 4 ?_
  simp only [retX, slotL, reduceIte, Nat.reduceEqDiff]
  cases a
  cases b
  simp_all
 try simp only [cnd] at c7
 refine jd (sr2 ?_)
 refine qq (fA fl72_7) ?_
 refine nm ?_
 refine ql ag3 ?_
 refine qq (fA fl72_7) ?_
 refine ql ag3 ?_
 refine nm ?_
 refine qb ?_
 refine nc (fun c8 => ?_) fun c8 => ?_
 ·try simp only [cnd] at c8
  refine sr ?_
  refine qr 4 ?_
  simp only [retX, slotL, reduceIte, Nat.reduceEqDiff]
  cases a
  cases b
  simp_all
 try simp only [cnd] at c8
 refine jd (sr2 ?_)
 refine qq (fA fl72_8) ?_
 refine nm ?_
 refine ql ag3 ?_
 refine qq (fA fl72_8) ?_
 refine ql ag3 ?_
 refine nm ?_
 refine qb ?_
 refine nc (fun c9 => ?_) fun c9 => ?_
 ·try simp only [cnd] at c9
  refine sr ?_
  refine qr 4 ?_
  simp only [retX, slotL, reduceIte, Nat.reduceEqDiff]
  cases a
  cases b
  simp_all
 try simp only [cnd] at c9
 refine jd (sr ?_)
 refine qr 4 ?_
 simp only [retX, slotL, reduceIte, Nat.reduceEqDiff]
 cases a
 cases b
 simp_all
theorem eqProcS_con (a b : List DProc) : Con Tryz.prog 75 [.h base [], .h (base + 1) []] [.rt base .ro (tr a), .rt (base + 1) .ro (tr b)] (fun y _ => y = .v (.bool (decide (a = b)))) := by
 refine ob Tryz.func75 Tryz.ntmps75 ?_
 refine AW.len base [] rfl (by simp [Okp]) rfl (fun hl => ?_)
 refine AW.len (base + 1) [] rfl (by simp [Okp]) rfl (fun hl2 => ?_)
 refine sr ?_
 refine qn ?_
 refine sr2 ?_
 refine qm ?_
 refine qh sl25 ?_
 refine nm ?_
 refine qm ?_
 refine qh sl25 ?_
 refine qb ?_
 refine nc (fun c1 => ?_) fun c1 => ?_
 ·try simp only [cnd] at c1
  refine sr ?_
  refine qr 4 ?_
  simp only [retX, slotL, reduceIte, Nat.reduceEqDiff]
  rw [decide_eq_false (show a ≠ b from ne_of_len (by omega))]
 try simp only [cnd] at c1
 refine jd (sr2 ?_)
 refine qn ?_
 refine AW.block ?_
 refine AW.loopW (fun i : EqInv a b => [.sl 5 (.v (iv i.k)), .sl 0 (.h base []), .sl 1 (.h (base + 1) []), .rt base .ro (tr a), .rt (base + 1) .ro (tr b)]) (fun i => a.length - i.k) ⟨0, Nat.zero_le _, rfl⟩ (Weak.sim ⟨rfl, rfl, rfl, Rf rfl, Rf rfl, trivial⟩ rfl rfl) ?_
 intro i
 have hle := i.le
 refine sr2 ?_
 refine mn ?_
 refine qm ?_
 refine qh sl25 ?_
 refine qb ?_
 refine nc (fun c2 => ?_) fun c2 => ?_
 ·try simp only [cnd] at c2
  refine jd (AW.seq (AW.block (AW.seq ?_)))
  refine AW.draw [0, 1, 2, 3, 4, 5, 6, 7, 9] rfl (by decide +kernel) ?_
  refine tk 0 rfl Qt.move ?_
  refine na ?_
  refine tk 1 rfl Qt.move ?_
  refine tk 2 rfl (ix sl25 sz72) ?_
  refine tk 3 rfl (Qt.loadG rfl rfl rfl ag72 sz72 (by decide)) ?_
  refine na ?_
  refine tk 4 rfl Qt.move ?_
  refine tk 5 rfl Qt.move ?_
  refine tk 6 rfl (ix sl25 sz72) ?_
  refine na ?_
  refine tk 7 rfl (Qt.loadG rfl rfl rfl ag72 sz72 (by decide)) ?_
  refine a1 8 [] [7, 3, 6, 2, 5, 4, 1, 0] rfl rfl (Stp.callV rfl (by decide) Tryz.call169 rfl rfl (eqProc_con _ _)) ?_
  refine na ?_
  refine na ?_
  refine tk 9 rfl (Qt.notB rfl) ?_
  refine nz ?_
  refine cd (fun c3 => ?_) fun c3 => ?_
  ·try simp only [cnd] at c3
   refine sr ?_
   refine qr 4 ?_
   simp only [retX, slotL, reduceIte, Nat.reduceEqDiff]
   rw [decide_eq_false (show a ≠ b from i.stop En.dflt (by simpa using c3))]
  try simp only [cnd] at c3
  refine jd (AW.region ?_)
  refine mn ?_
  refine ba ?_
  refine qn ?_
  refine ⟨⟨i.k + 1, by omega, i.next En.dflt (by omega) (by omega) (by simpa using c3)⟩, Weak.sim ⟨st1, rfl, rfl, Rf rfl, Rf rfl, trivial⟩ rfl rfl, ?_⟩
  show a.length - (i.k + 1) < a.length - i.k
  omega
 try simp only [cnd] at c2
 refine AW.exit ?_
 dsimp only [thenQ, blockQ, reduceIte]
 refine sr ?_
 refine qr 4 ?_
 simp only [retX, slotL, reduceIte, Nat.reduceEqDiff]
 rw [decide_eq_true (show a = b from i.full (by omega) (by omega))]
theorem eqOpen_con (a b : DOpen) : Con Tryz.prog 170 [.g [.v (iv a.Id), .v (iv a.Kind), .v (iv a.Target), .v (iv a.Off), .v (iv a.Refs)], .g [.v (iv b.Id), .v (iv b.Kind), .v (iv b.Target), .v (iv b.Off), .v (iv b.Refs)]] [] (fun y _ => y = .v (.bool (decide (a = b)))) := by
 refine ob Tryz.func170 Tryz.ntmps170 ?_
 refine sr ?_
 refine bx ?_
 refine nm ?_
 refine bx ?_
 refine nm ?_
 refine qn ?_
 refine sr2 ?_
 refine qq (fA fl130_0) ?_
 refine ql ag3 ?_
 refine nm ?_
 refine qq (fA fl130_0) ?_
 refine ql ag3 ?_
 refine qb ?_
 refine nc (fun c1 => ?_) fun c1 => ?_
 ·try simp only [cnd] at c1
  refine sr ?_
  refine qr 4 ?_
  simp only [retX, slotL, reduceIte, Nat.reduceEqDiff]
  cases a
  cases b
  simp_all
 try simp only [cnd] at c1
 refine jd (sr2 ?_)
 refine qq (fA fl130_1) ?_
 refine nm ?_
 refine ql ag3 ?_
 refine qq (fA fl130_1) ?_
 refine ql ag3 ?_
 refine nm ?_
 refine qb ?_
 refine nc (fun c2 => ?_) fun c2 => ?_
 ·try simp only [cnd] at c2
  refine sr ?_
  refine qr 4 ?_
  simp only [retX, slotL, reduceIte, Nat.reduceEqDiff]
  cases a
  cases b
  simp_all
 try simp only [cnd] at c2
 refine jd (sr2 ?_)
 refine qq (fA fl130_2) ?_
 refine nm ?_
 refine ql ag3 ?_
 refine qq (fA fl130_2) ?_
 refine ql ag3 ?_
 refine nm ?_
 refine qb ?_
 refine nc (fun c3 => ?_) fun c3 => ?_
 ·try simp only [cnd] at c3
  refine sr ?_
  refine qr 4 ?_
  simp only [retX, slotL, reduceIte, Nat.reduceEqDiff]
  cases a
  cases b
  simp_all
 try simp only [cnd] at c3
 refine jd (sr2 ?_)
 refine qq (fA fl130_3) ?_
 refine nm ?_
 refine ql ag3 ?_
 refine qq (fA fl130_3) ?_
 refine ql ag3 ?_
 refine nm ?_
 refine qb ?_
 refine nc (fun c4 => ?_) fun c4 => ?_
 ·try simp only [cnd] at c4
  refine sr ?_
  refine qr 4 ?_
  simp only [retX, slotL, reduceIte, Nat.reduceEqDiff]
  cases a
  cases b
  simp_all
 try simp only [cnd] at c4
 refine jd (sr2 ?_)
 refine qq (fA fl130_4) ?_
 refine nm ?_
 refine ql ag3 ?_
 refine qq (fA fl130_4) ?_
 refine ql ag3 ?_
 refine nm ?_
 refine qb ?_
 refine nc (fun c5 => ?_) fun c5 => ?_
 ·try simp only [cnd] at c5
  refine sr ?_
  refine qr 4 ?_
  simp only [retX, slotL, reduceIte, Nat.reduceEqDiff]
  cases a
  cases b
  simp_all
 try simp only [cnd] at c5
 refine jd (sr ?_)
 refine qr 4 ?_
 simp only [retX, slotL, reduceIte, Nat.reduceEqDiff]
 cases a
 cases b
 simp_all
theorem eqOpenS_con (a b : List DOpen) : Con Tryz.prog 76 [.h base [], .h (base + 1) []] [.rt base .ro (tr a), .rt (base + 1) .ro (tr b)] (fun y _ => y = .v (.bool (decide (a = b)))) := by
 refine ob Tryz.func76 Tryz.ntmps76 ?_
 refine AW.len base [] rfl (by simp [Okp]) rfl (fun hl => ?_)
 refine AW.len (base + 1) [] rfl (by simp [Okp]) rfl (fun hl2 => ?_)
 refine sr ?_
 refine qn ?_
 refine sr2 ?_
 refine qm ?_
 refine qh sl26 ?_
 refine nm ?_
 refine qm ?_
 refine qh sl26 ?_
 refine qb ?_
 refine nc (fun c1 => ?_) fun c1 => ?_
 ·try simp only [cnd] at c1
  refine sr ?_
  refine qr 4 ?_
  simp only [retX, slotL, reduceIte, Nat.reduceEqDiff]
  rw [decide_eq_false (show a ≠ b from ne_of_len (by omega))]
 try simp only [cnd] at c1
 refine jd (sr2 ?_)
 refine qn ?_
 refine AW.block ?_
 refine AW.loopW (fun i : EqInv a b => [.sl 5 (.v (iv i.k)), .sl 0 (.h base []), .sl 1 (.h (base + 1) []), .rt base .ro (tr a), .rt (base + 1) .ro (tr b)]) (fun i => a.length - i.k) ⟨0, Nat.zero_le _, rfl⟩ (Weak.sim ⟨rfl, rfl, rfl, Rf rfl, Rf rfl, trivial⟩ rfl rfl) ?_
 intro i
 have hle := i.le
 refine sr2 ?_
 refine mn ?_
 refine qm ?_
 refine qh sl26 ?_
 refine qb ?_
 refine nc (fun c2 => ?_) fun c2 => ?_
 ·try simp only [cnd] at c2
  refine jd (AW.seq (AW.block (AW.seq ?_)))
  refine AW.draw [0, 1, 2, 3, 4, 5, 6, 7, 9] rfl (by decide +kernel) ?_
  refine tk 0 rfl Qt.move ?_
  refine na ?_
  refine tk 1 rfl Qt.move ?_
  refine tk 2 rfl (ix sl26 sz130) ?_
  refine tk 3 rfl (Qt.loadG rfl rfl rfl ag130 sz130 (by decide)) ?_
  refine na ?_
  refine tk 4 rfl Qt.move ?_
  refine tk 5 rfl Qt.move ?_
  refine tk 6 rfl (ix sl26 sz130) ?_
  refine na ?_
  refine tk 7 rfl (Qt.loadG rfl rfl rfl ag130 sz130 (by decide)) ?_
  refine a1 8 [] [7, 3, 6, 2, 5, 4, 1, 0] rfl rfl (Stp.callV rfl (by decide) Tryz.call170 rfl rfl (eqOpen_con _ _)) ?_
  refine na ?_
  refine na ?_
  refine tk 9 rfl (Qt.notB rfl) ?_
  refine nz ?_
  refine cd (fun c3 => ?_) fun c3 => ?_
  ·try simp only [cnd] at c3
   refine sr ?_
   refine qr 4 ?_
   simp only [retX, slotL, reduceIte, Nat.reduceEqDiff]
   rw [decide_eq_false (show a ≠ b from i.stop En.dflt (by simpa using c3))]
  try simp only [cnd] at c3
  refine jd (AW.region ?_)
  refine mn ?_
  refine ba ?_
  refine qn ?_
  refine ⟨⟨i.k + 1, by omega, i.next En.dflt (by omega) (by omega) (by simpa using c3)⟩, Weak.sim ⟨st1, rfl, rfl, Rf rfl, Rf rfl, trivial⟩ rfl rfl, ?_⟩
  show a.length - (i.k + 1) < a.length - i.k
  omega
 try simp only [cnd] at c2
 refine AW.exit ?_
 dsimp only [thenQ, blockQ, reduceIte]
 refine sr ?_
 refine qr 4 ?_
 simp only [retX, slotL, reduceIte, Nat.reduceEqDiff]
 rw [decide_eq_true (show a = b from i.full (by omega) (by omega))]
theorem eqPipe_con (a b : DPipe) : Con Tryz.prog 171 [.g [.v (iv a.Id), .h base []], .g [.v (iv b.Id), .h (base + 1) []]] [.rt base .ro (tr a.Data), .rt (base + 1) .ro (tr b.Data)] (fun y _ => y = .v (.bool (decide (a = b)))) := by
 refine ob Tryz.func171 Tryz.ntmps171 ?_
 refine sr ?_
 refine bx ?_
 refine nm ?_
 refine bx ?_
 refine nm ?_
 refine qn ?_
 refine sr2 ?_
 refine qq (fA fl153_0) ?_
 refine ql ag3 ?_
 refine nm ?_
 refine qq (fA fl153_0) ?_
 refine ql ag3 ?_
 refine qb ?_
 refine nc (fun c1 => ?_) fun c1 => ?_
 ·try simp only [cnd] at c1
  refine sr ?_
  refine qr 4 ?_
  simp only [retX, slotL, reduceIte, Nat.reduceEqDiff]
  cases a
  cases b
  simp_all
 try simp only [cnd] at c1
 refine jd (sr2 ?_)
 refine qq (fA fl153_1) ?_
 refine nm ?_
 refine ql ag29 ?_
 refine qq (fA fl153_1) ?_
 refine ql ag29 ?_
 refine nm ?_
 refine cv Tryz.call50 rfl rfl (eqIntS_con _ _) ?_
 refine nm ?_
 refine qq (Qt.notB rfl) ?_
 refine nc (fun c2 => ?_) fun c2 => ?_
 ·try simp only [cnd] at c2
  refine sr ?_
  refine qr 4 ?_
  simp only [retX, slotL, reduceIte, Nat.reduceEqDiff]
  cases a
  cases b
  simp_all
 try simp only [cnd] at c2
 refine jd (sr ?_)
 refine qr 4 ?_
 simp only [retX, slotL, reduceIte, Nat.reduceEqDiff]
 cases a
 cases b
 simp_all
theorem eqPipeS_con (a b : List DPipe) : Con Tryz.prog 77 [.h base [], .h (base + 1) []] [.rt base .ro (tr a), .rt (base + 1) .ro (tr b)] (fun y _ => y = .v (.bool (decide (a = b)))) := by
 refine ob Tryz.func77 Tryz.ntmps77 ?_
 refine AW.len base [] rfl (by simp [Okp]) rfl (fun hl => ?_)
 refine AW.len (base + 1) [] rfl (by simp [Okp]) rfl (fun hl2 => ?_)
 refine sr ?_
 refine qn ?_
 refine sr2 ?_
 refine qm ?_
 refine qh sl27 ?_
 refine nm ?_
 refine qm ?_
 refine qh sl27 ?_
 refine qb ?_
 refine nc (fun c1 => ?_) fun c1 => ?_
 ·try simp only [cnd] at c1
  refine sr ?_
  refine qr 4 ?_
  simp only [retX, slotL, reduceIte, Nat.reduceEqDiff]
  rw [decide_eq_false (show a ≠ b from ne_of_len (by omega))]
 try simp only [cnd] at c1
 refine jd (sr2 ?_)
 refine qn ?_
 refine AW.block ?_
 refine AW.loopW (fun i : EqInv a b => [.sl 5 (.v (iv i.k)), .sl 0 (.h base []), .sl 1 (.h (base + 1) []), .rt base .ro (tr a), .rt (base + 1) .ro (tr b)]) (fun i => a.length - i.k) ⟨0, Nat.zero_le _, rfl⟩ (Weak.sim ⟨rfl, rfl, rfl, Rf rfl, Rf rfl, trivial⟩ rfl rfl) ?_
 intro i
 have hle := i.le
 refine sr2 ?_
 refine mn ?_
 refine qm ?_
 refine qh sl27 ?_
 refine qb ?_
 refine nc (fun c2 => ?_) fun c2 => ?_
 ·try simp only [cnd] at c2
  refine jd (AW.seq (AW.block (AW.seq ?_)))
  refine AW.draw [0, 1, 2, 3, 4, 5, 6, 7, 9] rfl (by decide +kernel) ?_
  refine tk 0 rfl Qt.move ?_
  refine na ?_
  refine tk 1 rfl Qt.move ?_
  refine tk 2 rfl (ix sl27 sz153) ?_
  refine tk 3 rfl (Qt.loadG rfl rfl rfl ag153 sz153 (by decide)) ?_
  refine na ?_
  refine tk 4 rfl Qt.move ?_
  refine tk 5 rfl Qt.move ?_
  refine tk 6 rfl (ix sl27 sz153) ?_
  refine na ?_
  refine tk 7 rfl (Qt.loadG rfl rfl rfl ag153 sz153 (by decide)) ?_
  refine a1 8 [] [7, 3, 6, 2, 5, 4, 1, 0] rfl rfl (Stp.callV rfl (by decide) Tryz.call171 rfl rfl (eqPipe_con _ _)) ?_
  refine na ?_
  refine na ?_
  refine tk 9 rfl (Qt.notB rfl) ?_
  refine nz ?_
  refine cd (fun c3 => ?_) fun c3 => ?_
  ·try simp only [cnd] at c3
   refine sr ?_
   refine qr 4 ?_
   simp only [retX, slotL, reduceIte, Nat.reduceEqDiff]
   rw [decide_eq_false (show a ≠ b from i.stop En.dflt (by simpa using c3))]
  try simp only [cnd] at c3
  refine jd (AW.region ?_)
  refine mn ?_
  refine ba ?_
  refine qn ?_
  refine ⟨⟨i.k + 1, by omega, i.next En.dflt (by omega) (by omega) (by simpa using c3)⟩, Weak.sim ⟨st1, rfl, rfl, Rf rfl, Rf rfl, trivial⟩ rfl rfl, ?_⟩
  show a.length - (i.k + 1) < a.length - i.k
  omega
 try simp only [cnd] at c2
 refine AW.exit ?_
 dsimp only [thenQ, blockQ, reduceIte]
 refine sr ?_
 refine qr 4 ?_
 simp only [retX, slotL, reduceIte, Nat.reduceEqDiff]
 rw [decide_eq_true (show a = b from i.full (by omega) (by omega))]
theorem eqFile_con (a b : DFile) : Con Tryz.prog 172 [.g [.v (iv a.Name), .h base []], .g [.v (iv b.Name), .h (base + 1) []]] [.rt base .ro (tr a.Data), .rt (base + 1) .ro (tr b.Data)] (fun y _ => y = .v (.bool (decide (a = b)))) := by
 refine ob Tryz.func172 Tryz.ntmps172 ?_
 refine sr ?_
 refine bx ?_
 refine nm ?_
 refine bx ?_
 refine nm ?_
 refine qn ?_
 refine sr2 ?_
 refine qq (fA fl155_0) ?_
 refine ql ag3 ?_
 refine nm ?_
 refine qq (fA fl155_0) ?_
 refine ql ag3 ?_
 refine qb ?_
 refine nc (fun c1 => ?_) fun c1 => ?_
 ·try simp only [cnd] at c1
  refine sr ?_
  refine qr 4 ?_
  simp only [retX, slotL, reduceIte, Nat.reduceEqDiff]
  cases a
  cases b
  simp_all
 try simp only [cnd] at c1
 refine jd (sr2 ?_)
 refine qq (fA fl155_1) ?_
 refine nm ?_
 refine ql ag29 ?_
 refine qq (fA fl155_1) ?_
 refine ql ag29 ?_
 refine nm ?_
 refine cv Tryz.call50 rfl rfl (eqIntS_con _ _) ?_
 refine nm ?_
 refine qq (Qt.notB rfl) ?_
 refine nc (fun c2 => ?_) fun c2 => ?_
 ·try simp only [cnd] at c2
  refine sr ?_
  refine qr 4 ?_
  simp only [retX, slotL, reduceIte, Nat.reduceEqDiff]
  cases a
  cases b
  simp_all
 try simp only [cnd] at c2
 refine jd (sr ?_)
 refine qr 4 ?_
 simp only [retX, slotL, reduceIte, Nat.reduceEqDiff]
 cases a
 cases b
 simp_all
theorem eqFileS_con (a b : List DFile) : Con Tryz.prog 78 [.h base [], .h (base + 1) []] [.rt base .ro (tr a), .rt (base + 1) .ro (tr b)] (fun y _ => y = .v (.bool (decide (a = b)))) := by
 refine ob Tryz.func78 Tryz.ntmps78 ?_
 refine AW.len base [] rfl (by simp [Okp]) rfl (fun hl => ?_)
 refine AW.len (base + 1) [] rfl (by simp [Okp]) rfl (fun hl2 => ?_)
 refine sr ?_
 refine qn ?_
 refine sr2 ?_
 refine qm ?_
 refine qh sl28 ?_
 refine nm ?_
 refine qm ?_
 refine qh sl28 ?_
 refine qb ?_
 refine nc (fun c1 => ?_) fun c1 => ?_
 ·try simp only [cnd] at c1
  refine sr ?_
  refine qr 4 ?_
  simp only [retX, slotL, reduceIte, Nat.reduceEqDiff]
  rw [decide_eq_false (show a ≠ b from ne_of_len (by omega))]
 try simp only [cnd] at c1
 refine jd (sr2 ?_)
 refine qn ?_
 refine AW.block ?_
 refine AW.loopW (fun i : EqInv a b => [.sl 5 (.v (iv i.k)), .sl 0 (.h base []), .sl 1 (.h (base + 1) []), .rt base .ro (tr a), .rt (base + 1) .ro (tr b)]) (fun i => a.length - i.k) ⟨0, Nat.zero_le _, rfl⟩ (Weak.sim ⟨rfl, rfl, rfl, Rf rfl, Rf rfl, trivial⟩ rfl rfl) ?_
 intro i
 have hle := i.le
 refine sr2 ?_
 refine mn ?_
 refine qm ?_
 refine qh sl28 ?_
 refine qb ?_
 refine nc (fun c2 => ?_) fun c2 => ?_
 ·try simp only [cnd] at c2
  refine jd (AW.seq (AW.block (AW.seq ?_)))
  refine AW.draw [0, 1, 2, 3, 4, 5, 6, 7, 9] rfl (by decide +kernel) ?_
  refine tk 0 rfl Qt.move ?_
  refine na ?_
  refine tk 1 rfl Qt.move ?_
  refine tk 2 rfl (ix sl28 sz155) ?_
  refine tk 3 rfl (Qt.loadG rfl rfl rfl ag155 sz155 (by decide)) ?_
  refine na ?_
  refine tk 4 rfl Qt.move ?_
  refine tk 5 rfl Qt.move ?_
  refine tk 6 rfl (ix sl28 sz155) ?_
  refine na ?_
  refine tk 7 rfl (Qt.loadG rfl rfl rfl ag155 sz155 (by decide)) ?_
  refine a1 8 [] [7, 3, 6, 2, 5, 4, 1, 0] rfl rfl (Stp.callV rfl (by decide) Tryz.call172 rfl rfl (eqFile_con _ _)) ?_
  refine na ?_
  refine na ?_
  refine tk 9 rfl (Qt.notB rfl) ?_
  refine nz ?_
  refine cd (fun c3 => ?_) fun c3 => ?_
  ·try simp only [cnd] at c3
   refine sr ?_
   refine qr 4 ?_
   simp only [retX, slotL, reduceIte, Nat.reduceEqDiff]
   rw [decide_eq_false (show a ≠ b from i.stop En.dflt (by simpa using c3))]
  try simp only [cnd] at c3
  refine jd (AW.region ?_)
  refine mn ?_
  refine ba ?_
  refine qn ?_
  refine ⟨⟨i.k + 1, by omega, i.next En.dflt (by omega) (by omega) (by simpa using c3)⟩, Weak.sim ⟨st1, rfl, rfl, Rf rfl, Rf rfl, trivial⟩ rfl rfl, ?_⟩
  show a.length - (i.k + 1) < a.length - i.k
  omega
 try simp only [cnd] at c2
 refine AW.exit ?_
 dsimp only [thenQ, blockQ, reduceIte]
 refine sr ?_
 refine qr 4 ?_
 simp only [retX, slotL, reduceIte, Nat.reduceEqDiff]
 rw [decide_eq_true (show a = b from i.full (by omega) (by omega))]
theorem eqUnix_con (a b : DUnix) : Con Tryz.prog 24 [.g [.v (iv a.Next), .v (iv a.Tick), .h base [], .h (base + 1) [], .h (base + 2) [], .h (base + 3) [], .h (base + 4) [], .h (base + 5) [], .h (base + 6) []], .g [.v (iv b.Next), .v (iv b.Tick), .h (base + 7) [], .h (base + 8) [], .h (base + 9) [], .h (base + 10) [], .h (base + 11) [], .h (base + 12) [], .h (base + 13) []]] [.rt base .ro (tr a.Progs), .rt (base + 1) .ro (tr a.Procs), .rt (base + 2) .ro (tr a.Opens), .rt (base + 3) .ro (tr a.Pipes), .rt (base + 4) .ro (tr a.Files), .rt (base + 5) .ro (tr a.Ready), .rt (base + 6) .ro (tr a.Out), .rt (base + 7) .ro (tr b.Progs), .rt (base + 8) .ro (tr b.Procs), .rt (base + 9) .ro (tr b.Opens), .rt (base + 10) .ro (tr b.Pipes), .rt (base + 11) .ro (tr b.Files), .rt (base + 12) .ro (tr b.Ready), .rt (base + 13) .ro (tr b.Out)] (fun y _ => y = .v (.bool (decide (a = b)))) := by
 refine ob Tryz.func24 Tryz.ntmps24 ?_
 refine sr ?_
 refine bx ?_
 refine nm ?_
 refine bx ?_
 refine nm ?_
 refine qn ?_
 refine sr2 ?_
 refine qq (fA fl31_0) ?_
 refine ql ag3 ?_
 refine nm ?_
 refine qq (fA fl31_0) ?_
 refine ql ag3 ?_
 refine qb ?_
 refine nc (fun c1 => ?_) fun c1 => ?_
 ·try simp only [cnd] at c1
  refine sr ?_
  refine qr 4 ?_
  simp only [retX, slotL, reduceIte, Nat.reduceEqDiff]
  cases a
  cases b
  simp_all
 try simp only [cnd] at c1
 refine jd (sr2 ?_)
 refine qq (fA fl31_1) ?_
 refine nm ?_
 refine ql ag3 ?_
 refine qq (fA fl31_1) ?_
 refine ql ag3 ?_
 refine nm ?_
 refine qb ?_
 refine nc (fun c2 => ?_) fun c2 => ?_
 ·try simp only [cnd] at c2
  refine sr ?_
  refine qr 4 ?_
  simp only [retX, slotL, reduceIte, Nat.reduceEqDiff]
  cases a
  cases b
  simp_all
 try simp only [cnd] at c2
 refine jd (sr2 ?_)
 refine qq (fA fl31_2) ?_
 refine nm ?_
 refine ql ag24 ?_
 refine qq (fA fl31_2) ?_
 refine ql ag24 ?_
 refine nm ?_
 refine cv Tryz.call49 rfl rfl (eqInsSS_con _ _) ?_
 refine nm ?_
 refine qq (Qt.notB rfl) ?_
 refine nc (fun c3 => ?_) fun c3 => ?_
 ·try simp only [cnd] at c3
  refine sr ?_
  refine qr 4 ?_
  simp only [retX, slotL, reduceIte, Nat.reduceEqDiff]
  cases a
  cases b
  simp_all
 try simp only [cnd] at c3
 refine jd (sr2 ?_)
 refine qq (fA fl31_3) ?_
 refine nm ?_
 refine ql ag25 ?_
 refine qq (fA fl31_3) ?_
 refine ql ag25 ?_
 refine nm ?_
 refine cv Tryz.call75 rfl rfl (eqProcS_con _ _) ?_
 refine nm ?_
 refine qq (Qt.notB rfl) ?_
 refine nc (fun c4 => ?_) fun c4 => ?_
 ·try simp only [cnd] at c4
  refine sr ?_
  refine qr 4 ?_
  simp only [retX, slotL, reduceIte, Nat.reduceEqDiff]
  cases a
  cases b
  simp_all
 try simp only [cnd] at c4
 refine jd (sr2 ?_)
 refine qq (fA fl31_4) ?_
 refine nm ?_
 refine ql ag26 ?_
 refine qq (fA fl31_4) ?_
 refine ql ag26 ?_
 refine nm ?_
 refine cv Tryz.call76 rfl rfl (eqOpenS_con _ _) ?_
 refine nm ?_
 refine qq (Qt.notB rfl) ?_
 refine nc (fun c5 => ?_) fun c5 => ?_
 ·try simp only [cnd] at c5
  refine sr ?_
  refine qr 4 ?_
  simp only [retX, slotL, reduceIte, Nat.reduceEqDiff]
  cases a
  cases b
  simp_all
 try simp only [cnd] at c5
 refine jd (sr2 ?_)
 refine qq (fA fl31_5) ?_
 refine nm ?_
 refine ql ag27 ?_
 refine qq (fA fl31_5) ?_
 refine ql ag27 ?_
 refine nm ?_
 refine cv Tryz.call77 rfl rfl (eqPipeS_con _ _) ?_
 refine nm ?_
 refine qq (Qt.notB rfl) ?_
 refine nc (fun c6 => ?_) fun c6 => ?_
 ·try simp only [cnd] at c6
  refine sr ?_
  refine qr 4 ?_
  simp only [retX, slotL, reduceIte, Nat.reduceEqDiff]
  cases a
  cases b
  simp_all
 try simp only [cnd] at c6
 refine jd (sr2 ?_)
 refine qq (fA fl31_6) ?_
 refine nm ?_
 refine ql ag28 ?_
 refine qq (fA fl31_6) ?_
 refine ql ag28 ?_
 refine nm ?_
 refine cv Tryz.call78 rfl rfl (eqFileS_con _ _) ?_
 refine nm ?_
 refine qq (Qt.notB rfl) ?_
 refine nc (fun c7 => ?_) fun c7 => ?_
 ·try simp only [cnd] at c7
  refine sr ?_
  refine qr 4 ?_
  simp only [retX, slotL, reduceIte, Nat.reduceEqDiff]
  cases a
  cases b
  simp_all
 try simp only [cnd] at c7
 refine jd (sr2 ?_)
 refine qq (fA fl31_7) ?_
 refine nm ?_
 refine ql ag29 ?_
 refine qq (fA fl31_7) ?_
 refine ql ag29 ?_
 refine nm ?_
 refine cv Tryz.call50 rfl rfl (eqIntS_con _ _) ?_
 refine nm ?_
 refine qq (Qt.notB rfl) ?_
 refine nc (fun c8 => ?_) fun c8 => ?_
 ·try simp only [cnd] at c8
  refine sr ?_
  refine qr 4 ?_
  simp only [retX, slotL, reduceIte, Nat.reduceEqDiff]
  cases a
  cases b
  simp_all
 try simp only [cnd] at c8
 refine jd (sr2 ?_)
 refine qq (fA fl31_8) ?_
 refine nm ?_
 refine ql ag29 ?_
 refine qq (fA fl31_8) ?_
 refine ql ag29 ?_
 refine nm ?_
 refine cv Tryz.call50 rfl rfl (eqIntS_con _ _) ?_
 refine nm ?_
 refine qq (Qt.notB rfl) ?_
 refine nc (fun c9 => ?_) fun c9 => ?_
 ·try simp only [cnd] at c9
  refine sr ?_
  refine qr 4 ?_
  simp only [retX, slotL, reduceIte, Nat.reduceEqDiff]
  cases a
  cases b
  simp_all
 try simp only [cnd] at c9
 refine jd (sr ?_)
 refine qr 4 ?_
 simp only [retX, slotL, reduceIte, Nat.reduceEqDiff]
 cases a
 cases b
 simp_all
structure DEff where
 Kind : Int
 A : Int
 B : Int
 C : Int
 L : List Int
deriving DecidableEq
instance : En DEff := ⟨5, by omega, fun a => [.v (iv a.Kind), .v (iv a.A), .v (iv a.B), .v (iv a.C), tr a.L], fun _ => rfl, fun a => En.fit a.Kind ∧ En.fit a.A ∧ En.fit a.B ∧ En.fit a.C ∧ En.fit a.L, ⟨0, 0, 0, 0, []⟩⟩
@[go_sem] theorem cs_Eff (a : DEff) : En.cs a = [.v (iv a.Kind), .v (iv a.A), .v (iv a.B), .v (iv a.C), tr a.L] := rfl
end Go.Proofs.YtfbefcmeghpalaaGreat.VM
