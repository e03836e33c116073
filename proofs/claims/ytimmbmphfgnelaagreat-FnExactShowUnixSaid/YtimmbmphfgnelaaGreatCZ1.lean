/- Contracts of functions of the program. No conditions beyond those that each states. -/
import Derived.Test.YtimmbmphfgnelaaGreatCZ0
set_option linter.all false
namespace Go.Proofs.YtimmbmphfgnelaaGreat.VM
open Go Go.RowKit Go.Proofs
structure DIns where
 Op : Int
 A : Int
 B : Int
 C : Int
deriving DecidableEq
instance : En DIns := ⟨4, by omega, fun a => [.v (iv a.Op), .v (iv a.A), .v (iv a.B), .v (iv a.C)], fun _ => rfl, fun a => En.fit a.Op ∧ En.fit a.A ∧ En.fit a.B ∧ En.fit a.C, ⟨0, 0, 0, 0⟩⟩
@[go_sem] theorem cs_Ins (a : DIns) : En.cs a = [.v (iv a.Op), .v (iv a.A), .v (iv a.B), .v (iv a.C)] := rfl
instance : Mk DIns := { wt := fun _ => 0, cnt := fun a => 1 + 1 + 1 + 1, mark := fun _ k => ⟨k, k + 1, k + 1 + 1, k + 1 + 1 + 1⟩, cnt_mk := fun a k => by simp [Mk.cnt_mk] }
structure DCpu where
 Pc : Int
 Regs : List Int
deriving DecidableEq
instance : En DCpu := ⟨2, by omega, fun a => [.v (iv a.Pc), tr a.Regs], fun _ => rfl, fun a => En.fit a.Pc ∧ En.fit a.Regs, ⟨0, []⟩⟩
@[go_sem] theorem cs_Cpu (a : DCpu) : En.cs a = [.v (iv a.Pc), tr a.Regs] := rfl
instance : Mk DCpu := { wt := fun a => Mk.wt a.Regs, cnt := fun a => 1 + (Mk.cnt a.Regs), mark := fun a k => ⟨k, Mk.mark a.Regs (k + 1)⟩, cnt_mk := fun a k => by simp [Mk.cnt_mk] }
structure DProc where
 Pid : Int
 Parent : Int
 State : Int
 Prog : Int
 Cpu : DCpu
 Mem : List Int
 Fds : List Int
 Until : Int
 Code : Int
deriving DecidableEq
instance : En DProc := ⟨10, by omega, fun a => [.v (iv a.Pid), .v (iv a.Parent), .v (iv a.State), .v (iv a.Prog), .v (iv a.Cpu.Pc), tr a.Cpu.Regs, tr a.Mem, tr a.Fds, .v (iv a.Until), .v (iv a.Code)], fun _ => rfl, fun a => En.fit a.Pid ∧ En.fit a.Parent ∧ En.fit a.State ∧ En.fit a.Prog ∧ En.fit a.Cpu ∧ En.fit a.Mem ∧ En.fit a.Fds ∧ En.fit a.Until ∧ En.fit a.Code, ⟨0, 0, 0, 0, ⟨0, []⟩, [], [], 0, 0⟩⟩
@[go_sem] theorem cs_Proc (a : DProc) : En.cs a = [.v (iv a.Pid), .v (iv a.Parent), .v (iv a.State), .v (iv a.Prog), .v (iv a.Cpu.Pc), tr a.Cpu.Regs, tr a.Mem, tr a.Fds, .v (iv a.Until), .v (iv a.Code)] := rfl
instance : Mk DProc := { wt := fun a => Mk.wt a.Cpu.Regs + Mk.wt a.Mem + Mk.wt a.Fds, cnt := fun a => 1 + 1 + 1 + 1 + 1 + (Mk.cnt a.Cpu.Regs) + (Mk.cnt a.Mem) + (Mk.cnt a.Fds) + 1 + 1, mark := fun a k => ⟨k, k + 1, k + 1 + 1, k + 1 + 1 + 1, ⟨k + 1 + 1 + 1 + 1, Mk.mark a.Cpu.Regs (k + 1 + 1 + 1 + 1 + 1)⟩, Mk.mark a.Mem (k + 1 + 1 + 1 + 1 + 1 + (Mk.cnt a.Cpu.Regs : Nat)), Mk.mark a.Fds (k + 1 + 1 + 1 + 1 + 1 + (Mk.cnt a.Cpu.Regs : Nat) + (Mk.cnt a.Mem : Nat)), k + 1 + 1 + 1 + 1 + 1 + (Mk.cnt a.Cpu.Regs : Nat) + (Mk.cnt a.Mem : Nat) + (Mk.cnt a.Fds : Nat), k + 1 + 1 + 1 + 1 + 1 + (Mk.cnt a.Cpu.Regs : Nat) + (Mk.cnt a.Mem : Nat) + (Mk.cnt a.Fds : Nat) + 1⟩, cnt_mk := fun a k => by simp [Mk.cnt_mk] }
structure DOpen where
 Id : Int
 Kind : Int
 Target : Int
 Off : Int
 Refs : Int
deriving DecidableEq
instance : En DOpen := ⟨5, by omega, fun a => [.v (iv a.Id), .v (iv a.Kind), .v (iv a.Target), .v (iv a.Off), .v (iv a.Refs)], fun _ => rfl, fun a => En.fit a.Id ∧ En.fit a.Kind ∧ En.fit a.Target ∧ En.fit a.Off ∧ En.fit a.Refs, ⟨0, 0, 0, 0, 0⟩⟩
@[go_sem] theorem cs_Open (a : DOpen) : En.cs a = [.v (iv a.Id), .v (iv a.Kind), .v (iv a.Target), .v (iv a.Off), .v (iv a.Refs)] := rfl
instance : Mk DOpen := { wt := fun _ => 0, cnt := fun a => 1 + 1 + 1 + 1 + 1, mark := fun _ k => ⟨k, k + 1, k + 1 + 1, k + 1 + 1 + 1, k + 1 + 1 + 1 + 1⟩, cnt_mk := fun a k => by simp [Mk.cnt_mk] }
structure DPipe where
 Id : Int
 Data : List Int
deriving DecidableEq
instance : En DPipe := ⟨2, by omega, fun a => [.v (iv a.Id), tr a.Data], fun _ => rfl, fun a => En.fit a.Id ∧ En.fit a.Data, ⟨0, []⟩⟩
@[go_sem] theorem cs_Pipe (a : DPipe) : En.cs a = [.v (iv a.Id), tr a.Data] := rfl
instance : Mk DPipe := { wt := fun a => Mk.wt a.Data, cnt := fun a => 1 + (Mk.cnt a.Data), mark := fun a k => ⟨k, Mk.mark a.Data (k + 1)⟩, cnt_mk := fun a k => by simp [Mk.cnt_mk] }
structure DFile where
 Name : Int
 Data : List Int
deriving DecidableEq
instance : En DFile := ⟨2, by omega, fun a => [.v (iv a.Name), tr a.Data], fun _ => rfl, fun a => En.fit a.Name ∧ En.fit a.Data, ⟨0, []⟩⟩
@[go_sem] theorem cs_File (a : DFile) : En.cs a = [.v (iv a.Name), tr a.Data] := rfl
instance : Mk DFile := { wt := fun a => Mk.wt a.Data, cnt := fun a => 1 + (Mk.cnt a.Data), mark := fun a k => ⟨k, Mk.mark a.Data (k + 1)⟩, cnt_mk := fun a k => by simp [Mk.cnt_mk] }
structure DUnix where
 Next : Int
 Tick : Int
 Progs : List (List DIns)
 Procs : List DProc
 Opens : List DOpen
 Pipes : List DPipe
 Files : List DFile
 Ready : List Int
 Out : List Int
deriving DecidableEq
instance : En DUnix := ⟨9, by omega, fun a => [.v (iv a.Next), .v (iv a.Tick), tr a.Progs, tr a.Procs, tr a.Opens, tr a.Pipes, tr a.Files, tr a.Ready, tr a.Out], fun _ => rfl, fun a => En.fit a.Next ∧ En.fit a.Tick ∧ En.fit a.Progs ∧ En.fit a.Procs ∧ En.fit a.Opens ∧ En.fit a.Pipes ∧ En.fit a.Files ∧ En.fit a.Ready ∧ En.fit a.Out, ⟨0, 0, [], [], [], [], [], [], []⟩⟩
@[go_sem] theorem cs_Unix (a : DUnix) : En.cs a = [.v (iv a.Next), .v (iv a.Tick), tr a.Progs, tr a.Procs, tr a.Opens, tr a.Pipes, tr a.Files, tr a.Ready, tr a.Out] := rfl
instance : Mk DUnix := { wt := fun a => Mk.wt a.Progs + Mk.wt a.Procs + Mk.wt a.Opens + Mk.wt a.Pipes + Mk.wt a.Files + Mk.wt a.Ready + Mk.wt a.Out, cnt := fun a => 1 + 1 + (Mk.cnt a.Progs) + (Mk.cnt a.Procs) + (Mk.cnt a.Opens) + (Mk.cnt a.Pipes) + (Mk.cnt a.Files) + (Mk.cnt a.Ready) + (Mk.cnt a.Out), mark := fun a k => ⟨k, k + 1, Mk.mark a.Progs (k + 1 + 1), Mk.mark a.Procs (k + 1 + 1 + (Mk.cnt a.Progs : Nat)), Mk.mark a.Opens (k + 1 + 1 + (Mk.cnt a.Progs : Nat) + (Mk.cnt a.Procs : Nat)), Mk.mark a.Pipes (k + 1 + 1 + (Mk.cnt a.Progs : Nat) + (Mk.cnt a.Procs : Nat) + (Mk.cnt a.Opens : Nat)), Mk.mark a.Files (k + 1 + 1 + (Mk.cnt a.Progs : Nat) + (Mk.cnt a.Procs : Nat) + (Mk.cnt a.Opens : Nat) + (Mk.cnt a.Pipes : Nat)), Mk.mark a.Ready (k + 1 + 1 + (Mk.cnt a.Progs : Nat) + (Mk.cnt a.Procs : Nat) + (Mk.cnt a.Opens : Nat) + (Mk.cnt a.Pipes : Nat) + (Mk.cnt a.Files : Nat)), Mk.mark a.Out (k + 1 + 1 + (Mk.cnt a.Progs : Nat) + (Mk.cnt a.Procs : Nat) + (Mk.cnt a.Opens : Nat) + (Mk.cnt a.Pipes : Nat) + (Mk.cnt a.Files : Nat) + (Mk.cnt a.Ready : Nat))⟩, cnt_mk := fun a k => by simp [Mk.cnt_mk] }
set_option maxHeartbeats 8000000 in
set_option maxRecDepth 10000 in
theorem szInsS_con (a : List DIns) (left : Int) (h1 : -1 ≤ left) (h2 : left ≤ 1048576) : Con Tryz.prog 158 [.h base [], .v (iv left)] [.rt base .ro (tr a)] (fun y _ => y = .v (iv (szd (Mk.wt a) left))) := by
 refine Con.of_body Tryz.func158 rfl (by simp) ?_
 rw [Tryz.ntmps158]
 have hw : Mk.wt a = a.length := by rw [wt_list, wtL_zero (w := Mk.wt) (fun _ => rfl)]; rfl
 refine AW.len base [] rfl (by simp [Okp]) rfl (fun hl => ?_)
 refine AW.seq (AW.region ?_)
 refine qq Qt.assign ?_
 refine nl ?_
 refine AW.seq (AW.region ?_)
 refine qq Qt.move ?_
 refine qq Qt.move ?_
 refine nm ?_
 refine qq (Qt.lenH rfl rfl rfl sl201) ?_
 refine qq (Qt.binOp rfl rfl (by first | exact pbSub (by omega) | rfl)) ?_
 refine qq Qt.assign ?_
 refine nl ?_
 refine AW.seq (AW.seq (AW.region ?_))
 refine qq Qt.move ?_
 refine nm ?_
 refine qq (Qt.binOp rfl rfl rfl) ?_
 refine nl ?_
 refine AW.cond rfl (fun c1 => ?_) (fun c1 => ?_)
 ·have k1 := c1
  try simp only [cnd] at c1
  refine AW.seq (AW.region ?_)
  refine qq Qt.assign ?_
  refine nl ?_
  refine AW.ret (endQ_ret (.cons (.tmp 4) .nil) ?_)
  simp only [retX, slotL, reduceIte, Nat.reduceEqDiff, szd, hw]
  congr 2
  omega
 have k1 := c1
 try simp only [cnd] at c1
 refine jd (AW.seq (AW.region ?_))
 refine qq Qt.move ?_
 refine nm ?_
 refine qq Qt.assign ?_
 refine nl ?_
 refine AW.ret (endQ_ret (.cons (.tmp 4) .nil) ?_)
 simp only [retX, slotL, reduceIte, Nat.reduceEqDiff, szd, hw]
 congr 2
 omega
set_option maxHeartbeats 8000000 in
set_option maxRecDepth 10000 in
theorem szInsSS_con (a : List (List DIns)) (left : Int) (h1 : -1 ≤ left) (h2 : left ≤ 1048576) : Con Tryz.prog 37 [.h base [], .v (iv left)] [.rt base .ro (tr a)] (fun y _ => y = .v (iv (szd (Mk.wt a) left))) := by
 refine Con.of_body Tryz.func37 rfl (by simp) ?_
 rw [Tryz.ntmps37]
 have hw : Mk.wt a = a.length + wtL Mk.wt a := rfl
 refine AW.len base [] rfl (by simp [Okp]) rfl (fun hl => ?_)
 refine AW.seq (AW.region ?_)
 refine qq Qt.assign ?_
 refine nl ?_
 refine AW.seq (AW.region ?_)
 refine qq Qt.move ?_
 refine qq Qt.move ?_
 refine nm ?_
 refine qq (Qt.lenH rfl rfl rfl sl22) ?_
 refine qq (Qt.binOp rfl rfl (by first | exact pbSub (by omega) | rfl)) ?_
 refine qq Qt.assign ?_
 refine nl ?_
 refine AW.seq (AW.seq (AW.region ?_))
 refine qq Qt.move ?_
 refine nm ?_
 refine qq (Qt.binOp rfl rfl rfl) ?_
 refine nl ?_
 refine AW.cond rfl (fun c1 => ?_) (fun c1 => ?_)
 ·have k1 := c1
  try simp only [cnd] at c1
  refine AW.seq (AW.region ?_)
  refine qq Qt.assign ?_
  refine nl ?_
  refine AW.ret (endQ_ret (.cons (.tmp 4) .nil) ?_)
  simp only [retX, slotL, reduceIte, Nat.reduceEqDiff]
  try have hi0 := i.nn
  have hcw := cumN_wt a
  have hz := szd_cases (Mk.wt a) left
  try have hce : cumN Mk.wt En.dflt a i.k = cumN Mk.wt En.dflt a a.length := by rw [show i.k = a.length by omega]
  congr 2
  omega
 have k1 := c1
 try simp only [cnd] at c1
 refine jd (AW.seq (AW.seq (AW.region ?_)))
 refine qq Qt.assign ?_
 refine nl ?_
 refine AW.block ?_
 refine AW.weak (L' := [.sl 5 (.v (iv (0 : Nat))), .sl 1 (.v (iv (left - a.length - (cumN Mk.wt En.dflt a 0 : Nat)))), .sl 0 (.h base []), .rt base .ro (tr a)]) (Weak.sim ⟨rfl, (by simp only [slotL, reduceIte, Nat.reduceEqDiff]; show X.v (iv (left - a.length)) = _; simp [cumN]), rfl, Rf rfl, trivial⟩ rfl rfl) ?_
 refine AW.loop (fun i : SzInv left a => [.sl 5 (.v (iv i.k)), .sl 1 (.v (iv (left - a.length - (cumN Mk.wt En.dflt a i.k : Nat)))), .sl 0 (.h base []), .rt base .ro (tr a)]) (fun i => a.length - i.k) ⟨0, Nat.zero_le _, by simp only [cumN]; omega⟩ ?_
 intro i
 have hle := i.le
 refine AW.seq (AW.seq (AW.region ?_))
 refine qq Qt.move ?_
 refine nm ?_
 refine qq Qt.move ?_
 refine qq (Qt.lenH rfl rfl rfl sl22) ?_
 refine qq (Qt.binOp rfl rfl rfl) ?_
 refine nl ?_
 refine AW.cond rfl (fun c2 => ?_) (fun c2 => ?_)
 ·have k2 := c2
  try simp only [cnd] at c2
  have hi0 := i.nn
  have hcw := cumN_wt a
  have hc1 := cumN_mono (c := Mk.wt) (d := En.dflt) (l := a) (show i.k + 1 ≤ a.length by omega)
  simp only [cumN] at hc1
  have hz2 := szd_cases (Mk.wt (a.getD i.k En.dflt)) (left - a.length - (cumN Mk.wt En.dflt a i.k : Nat))
  refine jd (AW.seq (AW.block (AW.seq (AW.region ?_))))
  refine qq Qt.move ?_
  refine nm ?_
  refine qq Qt.move ?_
  refine qq (Qt.indexAddr rfl rfl rfl rfl sl22 sz201 (by decide) (by omega)) ?_
  refine qq (Qt.load1 rfl rfl rfl ag201) ?_
  refine nm ?_
  refine qq Qt.move ?_
  refine cv Tryz.call158 rfl rfl (szInsS_con _ _ (by first | omega | (repeat (first | omega | apply szd_lo))) (by first | omega | (repeat (first | omega | apply szd_hi)))) ?_
  refine nm ?_
  refine qq Qt.assign ?_
  refine nl ?_
  refine AW.seq (AW.region ?_)
  refine qq Qt.move ?_
  refine qq (Qt.binOp rfl rfl rfl) ?_
  refine nl ?_
  refine AW.cond rfl (fun c3 => ?_) (fun c3 => ?_)
  ·have k3 := c3
   try simp only [cnd] at c3
   refine AW.seq (AW.region ?_)
   refine qq Qt.assign ?_
   refine nl ?_
   refine AW.ret (endQ_ret (.cons (.tmp 4) .nil) ?_)
   simp only [retX, slotL, reduceIte, Nat.reduceEqDiff]
   try have hi0 := i.nn
   have hcw := cumN_wt a
   have hz := szd_cases (Mk.wt a) left
   try have hce : cumN Mk.wt En.dflt a i.k = cumN Mk.wt En.dflt a a.length := by rw [show i.k = a.length by omega]
   congr 2
   omega
  have k3 := c3
  try simp only [cnd] at c3
  refine jd (AW.region ?_)
  refine qq Qt.move ?_
  refine nm ?_
  refine qq (Qt.binOp rfl rfl (by first | exact pbAdd (by omega) | rfl)) ?_
  refine qq Qt.assign ?_
  refine nl ?_
  refine ⟨⟨i.k + 1, by omega, by simp only [cumN]; omega⟩, Weak.sim ⟨st1, (by simp only [slotL, reduceIte, Nat.reduceEqDiff]; congr 2; simp only [cumN]; omega), rfl, Rf rfl, trivial⟩ rfl rfl, ?_⟩
  show a.length - (i.k + 1) < a.length - i.k
  omega
 have k2 := c2
 try simp only [cnd] at c2
 refine AW.exit ?_
 dsimp only [thenQ, blockQ, reduceIte]
 refine AW.seq (AW.region ?_)
 refine qq Qt.move ?_
 refine nm ?_
 refine qq Qt.assign ?_
 refine nl ?_
 refine AW.ret (endQ_ret (.cons (.tmp 4) .nil) ?_)
 simp only [retX, slotL, reduceIte, Nat.reduceEqDiff]
 try have hi0 := i.nn
 have hcw := cumN_wt a
 have hz := szd_cases (Mk.wt a) left
 try have hce : cumN Mk.wt En.dflt a i.k = cumN Mk.wt En.dflt a a.length := by rw [show i.k = a.length by omega]
 congr 2
 omega
set_option maxHeartbeats 8000000 in
set_option maxRecDepth 10000 in
theorem szIntS_con (a : List Int) (left : Int) (h1 : -1 ≤ left) (h2 : left ≤ 1048576) : Con Tryz.prog 42 [.h base [], .v (iv left)] [.rt base .ro (tr a)] (fun y _ => y = .v (iv (szd (Mk.wt a) left))) := by
 refine Con.of_body Tryz.func42 rfl (by simp) ?_
 rw [Tryz.ntmps42]
 have hw : Mk.wt a = a.length := by rw [wt_list, wtL_zero (w := Mk.wt) (fun _ => rfl)]; rfl
 refine AW.len base [] rfl (by simp [Okp]) rfl (fun hl => ?_)
 refine AW.seq (AW.region ?_)
 refine qq Qt.assign ?_
 refine nl ?_
 refine AW.seq (AW.region ?_)
 refine qq Qt.move ?_
 refine qq Qt.move ?_
 refine nm ?_
 refine qq (Qt.lenH rfl rfl rfl sl27) ?_
 refine qq (Qt.binOp rfl rfl (by first | exact pbSub (by omega) | rfl)) ?_
 refine qq Qt.assign ?_
 refine nl ?_
 refine AW.seq (AW.seq (AW.region ?_))
 refine qq Qt.move ?_
 refine nm ?_
 refine qq (Qt.binOp rfl rfl rfl) ?_
 refine nl ?_
 refine AW.cond rfl (fun c1 => ?_) (fun c1 => ?_)
 ·have k1 := c1
  try simp only [cnd] at c1
  refine AW.seq (AW.region ?_)
  refine qq Qt.assign ?_
  refine nl ?_
  refine AW.ret (endQ_ret (.cons (.tmp 4) .nil) ?_)
  simp only [retX, slotL, reduceIte, Nat.reduceEqDiff, szd, hw]
  congr 2
  omega
 have k1 := c1
 try simp only [cnd] at c1
 refine jd (AW.seq (AW.region ?_))
 refine qq Qt.move ?_
 refine nm ?_
 refine qq Qt.assign ?_
 refine nl ?_
 refine AW.ret (endQ_ret (.cons (.tmp 4) .nil) ?_)
 simp only [retX, slotL, reduceIte, Nat.reduceEqDiff, szd, hw]
 congr 2
 omega
set_option maxHeartbeats 8000000 in
set_option maxRecDepth 10000 in
theorem szCpu_con (a : DCpu) (left : Int) (h1 : -1 ≤ left) (h2 : left ≤ 1048576) : Con Tryz.prog 275 [.g [.v (iv a.Pc), .h base []], .v (iv left)] [.rt base .ro (tr a.Regs)] (fun y _ => y = .v (iv (szd (Mk.wt a) left))) := by
 refine Con.of_body Tryz.func275 rfl (by simp) ?_
 rw [Tryz.ntmps275]
 refine AW.seq (AW.region ?_)
 refine sp (Stp.boxB rfl (by decide) (by decide) rfl rfl rfl rfl) ?_
 refine nm ?_
 refine qq Qt.assign ?_
 refine nl ?_
 refine AW.seq (AW.region ?_)
 refine qq (fA fl203_1) ?_
 refine qq (Qt.load1 rfl rfl rfl ag27) ?_
 refine nm ?_
 refine qq Qt.move ?_
 refine cv Tryz.call42 rfl rfl (szIntS_con _ _ (by first | omega | (repeat (first | omega | apply szd_lo))) (by first | omega | (repeat (first | omega | apply szd_hi)))) ?_
 refine nm ?_
 refine qq Qt.assign ?_
 refine nl ?_
 refine AW.seq (AW.seq (AW.region ?_))
 refine qq Qt.move ?_
 refine qq (Qt.binOp rfl rfl rfl) ?_
 refine nl ?_
 refine AW.cond rfl (fun c1 => ?_) (fun c1 => ?_)
 ·have k1 := c1
  try simp only [cnd] at c1
  refine AW.seq (AW.region ?_)
  refine qq Qt.assign ?_
  refine nl ?_
  refine AW.ret (endQ_ret (.cons (.tmp 4) .nil) ?_)
  simp only [retX, slotL, reduceIte, Nat.reduceEqDiff]
  first | rfl | (congr 2; simp only [szd, Mk.wt] at *; omega)
 have k1 := c1
 try simp only [cnd] at c1
 refine jd (AW.seq (AW.region ?_))
 refine qq Qt.move ?_
 refine nm ?_
 refine qq Qt.assign ?_
 refine nl ?_
 refine AW.ret (endQ_ret (.cons (.tmp 4) .nil) ?_)
 simp only [retX, slotL, reduceIte, Nat.reduceEqDiff]
 first | rfl | (congr 2; simp only [szd, Mk.wt] at *; omega)
set_option maxHeartbeats 8000000 in
set_option maxRecDepth 10000 in
theorem szProc_con (a : DProc) (left : Int) (h1 : -1 ≤ left) (h2 : left ≤ 1048576) : Con Tryz.prog 159 [.g [.v (iv a.Pid), .v (iv a.Parent), .v (iv a.State), .v (iv a.Prog), .v (iv a.Cpu.Pc), .h base [], .h (base + 1) [], .h (base + 2) [], .v (iv a.Until), .v (iv a.Code)], .v (iv left)] [.rt base .ro (tr a.Cpu.Regs), .rt (base + 1) .ro (tr a.Mem), .rt (base + 2) .ro (tr a.Fds)] (fun y _ => y = .v (iv (szd (Mk.wt a) left))) := by
 refine Con.of_body Tryz.func159 rfl (by simp) ?_
 rw [Tryz.ntmps159]
 refine AW.seq (AW.region ?_)
 refine sp (Stp.boxB rfl (by decide) (by decide) rfl rfl rfl rfl) ?_
 refine nm ?_
 refine qq Qt.assign ?_
 refine nl ?_
 refine AW.seq (AW.region ?_)
 refine qq (fA fl205_4) ?_
 refine qq (Qt.loadG rfl rfl rfl ag203 sz203 (by decide)) ?_
 refine nm ?_
 refine qq Qt.move ?_
 refine cv Tryz.call275 rfl rfl (szCpu_con _ _ (by first | omega | (repeat (first | omega | apply szd_lo))) (by first | omega | (repeat (first | omega | apply szd_hi)))) ?_
 refine nm ?_
 refine qq Qt.assign ?_
 refine nl ?_
 refine AW.seq (AW.seq (AW.region ?_))
 refine qq Qt.move ?_
 refine qq (Qt.binOp rfl rfl rfl) ?_
 refine nl ?_
 refine AW.cond rfl (fun c1 => ?_) (fun c1 => ?_)
 ·have k1 := c1
  try simp only [cnd] at c1
  refine AW.seq (AW.region ?_)
  refine qq Qt.assign ?_
  refine nl ?_
  refine AW.ret (endQ_ret (.cons (.tmp 4) .nil) ?_)
  simp only [retX, slotL, reduceIte, Nat.reduceEqDiff]
  first | rfl | (congr 2; simp only [szd, Mk.wt] at *; omega)
 have k1 := c1
 try simp only [cnd] at c1
 refine jd (AW.seq (AW.region ?_))
 refine qq (fA fl205_5) ?_
 refine nm ?_
 refine qq (Qt.load1 rfl rfl rfl ag27) ?_
 refine qq Qt.move ?_
 refine cv Tryz.call42 rfl rfl (szIntS_con _ _ (by first | omega | (repeat (first | omega | apply szd_lo))) (by first | omega | (repeat (first | omega | apply szd_hi)))) ?_
 refine nm ?_
 refine qq Qt.assign ?_
 refine nl ?_
 refine AW.seq (AW.seq (AW.region ?_))
 refine qq Qt.move ?_
 refine qq (Qt.binOp rfl rfl rfl) ?_
 refine nl ?_
 refine AW.cond rfl (fun c2 => ?_) (fun c2 => ?_)
 ·have k2 := c2
  try simp only [cnd] at c2
  refine AW.seq (AW.region ?_)
  refine qq Qt.assign ?_
  refine nl ?_
  refine AW.ret (endQ_ret (.cons (.tmp 4) .nil) ?_)
  simp only [retX, slotL, reduceIte, Nat.reduceEqDiff]
  first | rfl | (congr 2; simp only [szd, Mk.wt] at *; omega)
 have k2 := c2
 try simp only [cnd] at c2
 refine jd (AW.seq (AW.region ?_))
 refine qq (fA fl205_6) ?_
 refine nm ?_
 refine qq (Qt.load1 rfl rfl rfl ag27) ?_
 refine qq Qt.move ?_
 refine cv Tryz.call42 rfl rfl (szIntS_con _ _ (by first | omega | (repeat (first | omega | apply szd_lo))) (by first | omega | (repeat (first | omega | apply szd_hi)))) ?_
 refine nm ?_
 refine qq Qt.assign ?_
 refine nl ?_
 refine AW.seq (AW.seq (AW.region ?_))
 refine qq Qt.move ?_
 refine qq (Qt.binOp rfl rfl rfl) ?_
 refine nl ?_
 refine AW.cond rfl (fun c3 => ?_) (fun c3 => ?_)
 ·have k3 := c3
  try simp only [cnd] at c3
  refine AW.seq (AW.region ?_)
  refine qq Qt.assign ?_
  refine nl ?_
  refine AW.ret (endQ_ret (.cons (.tmp 4) .nil) ?_)
  simp only [retX, slotL, reduceIte, Nat.reduceEqDiff]
  first | rfl | (congr 2; simp only [szd, Mk.wt] at *; omega)
 have k3 := c3
 try simp only [cnd] at c3
 refine jd (AW.seq (AW.region ?_))
 refine qq Qt.move ?_
 refine nm ?_
 refine qq Qt.assign ?_
 refine nl ?_
 refine AW.ret (endQ_ret (.cons (.tmp 4) .nil) ?_)
 simp only [retX, slotL, reduceIte, Nat.reduceEqDiff]
 first | rfl | (congr 2; simp only [szd, Mk.wt] at *; omega)
set_option maxHeartbeats 8000000 in
set_option maxRecDepth 10000 in
theorem szProcS_con (a : List DProc) (left : Int) (h1 : -1 ≤ left) (h2 : left ≤ 1048576) : Con Tryz.prog 38 [.h base [], .v (iv left)] [.rt base .ro (tr a)] (fun y _ => y = .v (iv (szd (Mk.wt a) left))) := by
 refine Con.of_body Tryz.func38 rfl (by simp) ?_
 rw [Tryz.ntmps38]
 have hw : Mk.wt a = a.length + wtL Mk.wt a := rfl
 refine AW.len base [] rfl (by simp [Okp]) rfl (fun hl => ?_)
 refine AW.seq (AW.region ?_)
 refine qq Qt.assign ?_
 refine nl ?_
 refine AW.seq (AW.region ?_)
 refine qq Qt.move ?_
 refine qq Qt.move ?_
 refine nm ?_
 refine qq (Qt.lenH rfl rfl rfl sl23) ?_
 refine qq (Qt.binOp rfl rfl (by first | exact pbSub (by omega) | rfl)) ?_
 refine qq Qt.assign ?_
 refine nl ?_
 refine AW.seq (AW.seq (AW.region ?_))
 refine qq Qt.move ?_
 refine nm ?_
 refine qq (Qt.binOp rfl rfl rfl) ?_
 refine nl ?_
 refine AW.cond rfl (fun c1 => ?_) (fun c1 => ?_)
 ·have k1 := c1
  try simp only [cnd] at c1
  refine AW.seq (AW.region ?_)
  refine qq Qt.assign ?_
  refine nl ?_
  refine AW.ret (endQ_ret (.cons (.tmp 4) .nil) ?_)
  simp only [retX, slotL, reduceIte, Nat.reduceEqDiff]
  try have hi0 := i.nn
  have hcw := cumN_wt a
  have hz := szd_cases (Mk.wt a) left
  try have hce : cumN Mk.wt En.dflt a i.k = cumN Mk.wt En.dflt a a.length := by rw [show i.k = a.length by omega]
  congr 2
  omega
 have k1 := c1
 try simp only [cnd] at c1
 refine jd (AW.seq (AW.seq (AW.region ?_)))
 refine qq Qt.assign ?_
 refine nl ?_
 refine AW.block ?_
 refine AW.weak (L' := [.sl 5 (.v (iv (0 : Nat))), .sl 1 (.v (iv (left - a.length - (cumN Mk.wt En.dflt a 0 : Nat)))), .sl 0 (.h base []), .rt base .ro (tr a)]) (Weak.sim ⟨rfl, (by simp only [slotL, reduceIte, Nat.reduceEqDiff]; show X.v (iv (left - a.length)) = _; simp [cumN]), rfl, Rf rfl, trivial⟩ rfl rfl) ?_
 refine AW.loop (fun i : SzInv left a => [.sl 5 (.v (iv i.k)), .sl 1 (.v (iv (left - a.length - (cumN Mk.wt En.dflt a i.k : Nat)))), .sl 0 (.h base []), .rt base .ro (tr a)]) (fun i => a.length - i.k) ⟨0, Nat.zero_le _, by simp only [cumN]; omega⟩ ?_
 intro i
 have hle := i.le
 refine AW.seq (AW.seq (AW.region ?_))
 refine qq Qt.move ?_
 refine nm ?_
 refine qq Qt.move ?_
 refine qq (Qt.lenH rfl rfl rfl sl23) ?_
 refine qq (Qt.binOp rfl rfl rfl) ?_
 refine nl ?_
 refine AW.cond rfl (fun c2 => ?_) (fun c2 => ?_)
 ·have k2 := c2
  try simp only [cnd] at c2
  have hi0 := i.nn
  have hcw := cumN_wt a
  have hc1 := cumN_mono (c := Mk.wt) (d := En.dflt) (l := a) (show i.k + 1 ≤ a.length by omega)
  simp only [cumN] at hc1
  have hz2 := szd_cases (Mk.wt (a.getD i.k En.dflt)) (left - a.length - (cumN Mk.wt En.dflt a i.k : Nat))
  refine jd (AW.seq (AW.block (AW.seq (AW.region ?_))))
  refine qq Qt.move ?_
  refine nm ?_
  refine qq Qt.move ?_
  refine qq (Qt.indexAddr rfl rfl rfl rfl sl23 sz205 (by decide) (by omega)) ?_
  refine qq (Qt.loadG rfl rfl rfl ag205 sz205 (by decide)) ?_
  refine nm ?_
  refine qq Qt.move ?_
  refine cv Tryz.call159 rfl rfl (szProc_con _ _ (by first | omega | (repeat (first | omega | apply szd_lo))) (by first | omega | (repeat (first | omega | apply szd_hi)))) ?_
  refine nm ?_
  refine qq Qt.assign ?_
  refine nl ?_
  refine AW.seq (AW.region ?_)
  refine qq Qt.move ?_
  refine qq (Qt.binOp rfl rfl rfl) ?_
  refine nl ?_
  refine AW.cond rfl (fun c3 => ?_) (fun c3 => ?_)
  ·have k3 := c3
   try simp only [cnd] at c3
   refine AW.seq (AW.region ?_)
   refine qq Qt.assign ?_
   refine nl ?_
   refine AW.ret (endQ_ret (.cons (.tmp 4) .nil) ?_)
   simp only [retX, slotL, reduceIte, Nat.reduceEqDiff]
   try have hi0 := i.nn
   have hcw := cumN_wt a
   have hz := szd_cases (Mk.wt a) left
   try have hce : cumN Mk.wt En.dflt a i.k = cumN Mk.wt En.dflt a a.length := by rw [show i.k = a.length by omega]
   congr 2
   omega
  have k3 := c3
  try simp only [cnd] at c3
  refine jd (AW.region ?_)
  refine qq Qt.move ?_
  refine nm ?_
  refine qq (Qt.binOp rfl rfl (by first | exact pbAdd (by omega) | rfl)) ?_
  refine qq Qt.assign ?_
  refine nl ?_
  refine ⟨⟨i.k + 1, by omega, by simp only [cumN]; omega⟩, Weak.sim ⟨st1, (by simp only [slotL, reduceIte, Nat.reduceEqDiff]; congr 2; simp only [cumN]; omega), rfl, Rf rfl, trivial⟩ rfl rfl, ?_⟩
  show a.length - (i.k + 1) < a.length - i.k
  omega
 have k2 := c2
 try simp only [cnd] at c2
 refine AW.exit ?_
 dsimp only [thenQ, blockQ, reduceIte]
 refine AW.seq (AW.region ?_)
 refine qq Qt.move ?_
 refine nm ?_
 refine qq Qt.assign ?_
 refine nl ?_
 refine AW.ret (endQ_ret (.cons (.tmp 4) .nil) ?_)
 simp only [retX, slotL, reduceIte, Nat.reduceEqDiff]
 try have hi0 := i.nn
 have hcw := cumN_wt a
 have hz := szd_cases (Mk.wt a) left
 try have hce : cumN Mk.wt En.dflt a i.k = cumN Mk.wt En.dflt a a.length := by rw [show i.k = a.length by omega]
 congr 2
 omega
set_option maxHeartbeats 8000000 in
set_option maxRecDepth 10000 in
theorem szOpenS_con (a : List DOpen) (left : Int) (h1 : -1 ≤ left) (h2 : left ≤ 1048576) : Con Tryz.prog 39 [.h base [], .v (iv left)] [.rt base .ro (tr a)] (fun y _ => y = .v (iv (szd (Mk.wt a) left))) := by
 refine Con.of_body Tryz.func39 rfl (by simp) ?_
 rw [Tryz.ntmps39]
 have hw : Mk.wt a = a.length := by rw [wt_list, wtL_zero (w := Mk.wt) (fun _ => rfl)]; rfl
 refine AW.len base [] rfl (by simp [Okp]) rfl (fun hl => ?_)
 refine AW.seq (AW.region ?_)
 refine qq Qt.assign ?_
 refine nl ?_
 refine AW.seq (AW.region ?_)
 refine qq Qt.move ?_
 refine qq Qt.move ?_
 refine nm ?_
 refine qq (Qt.lenH rfl rfl rfl sl24) ?_
 refine qq (Qt.binOp rfl rfl (by first | exact pbSub (by omega) | rfl)) ?_
 refine qq Qt.assign ?_
 refine nl ?_
 refine AW.seq (AW.seq (AW.region ?_))
 refine qq Qt.move ?_
 refine nm ?_
 refine qq (Qt.binOp rfl rfl rfl) ?_
 refine nl ?_
 refine AW.cond rfl (fun c1 => ?_) (fun c1 => ?_)
 ·have k1 := c1
  try simp only [cnd] at c1
  refine AW.seq (AW.region ?_)
  refine qq Qt.assign ?_
  refine nl ?_
  refine AW.ret (endQ_ret (.cons (.tmp 4) .nil) ?_)
  simp only [retX, slotL, reduceIte, Nat.reduceEqDiff, szd, hw]
  congr 2
  omega
 have k1 := c1
 try simp only [cnd] at c1
 refine jd (AW.seq (AW.region ?_))
 refine qq Qt.move ?_
 refine nm ?_
 refine qq Qt.assign ?_
 refine nl ?_
 refine AW.ret (endQ_ret (.cons (.tmp 4) .nil) ?_)
 simp only [retX, slotL, reduceIte, Nat.reduceEqDiff, szd, hw]
 congr 2
 omega
set_option maxHeartbeats 8000000 in
set_option maxRecDepth 10000 in
theorem szPipe_con (a : DPipe) (left : Int) (h1 : -1 ≤ left) (h2 : left ≤ 1048576) : Con Tryz.prog 160 [.g [.v (iv a.Id), .h base []], .v (iv left)] [.rt base .ro (tr a.Data)] (fun y _ => y = .v (iv (szd (Mk.wt a) left))) := by
 refine Con.of_body Tryz.func160 rfl (by simp) ?_
 rw [Tryz.ntmps160]
 refine AW.seq (AW.region ?_)
 refine sp (Stp.boxB rfl (by decide) (by decide) rfl rfl rfl rfl) ?_
 refine nm ?_
 refine qq Qt.assign ?_
 refine nl ?_
 refine AW.seq (AW.region ?_)
 refine qq (fA fl207_1) ?_
 refine qq (Qt.load1 rfl rfl rfl ag27) ?_
 refine nm ?_
 refine qq Qt.move ?_
 refine cv Tryz.call42 rfl rfl (szIntS_con _ _ (by first | omega | (repeat (first | omega | apply szd_lo))) (by first | omega | (repeat (first | omega | apply szd_hi)))) ?_
 refine nm ?_
 refine qq Qt.assign ?_
 refine nl ?_
 refine AW.seq (AW.seq (AW.region ?_))
 refine qq Qt.move ?_
 refine qq (Qt.binOp rfl rfl rfl) ?_
 refine nl ?_
 refine AW.cond rfl (fun c1 => ?_) (fun c1 => ?_)
 ·have k1 := c1
  try simp only [cnd] at c1
  refine AW.seq (AW.region ?_)
  refine qq Qt.assign ?_
  refine nl ?_
  refine AW.ret (endQ_ret (.cons (.tmp 4) .nil) ?_)
  simp only [retX, slotL, reduceIte, Nat.reduceEqDiff]
  first | rfl | (congr 2; simp only [szd, Mk.wt] at *; omega)
 have k1 := c1
 try simp only [cnd] at c1
 refine jd (AW.seq (AW.region ?_))
 refine qq Qt.move ?_
 refine nm ?_
 refine qq Qt.assign ?_
 refine nl ?_
 refine AW.ret (endQ_ret (.cons (.tmp 4) .nil) ?_)
 simp only [retX, slotL, reduceIte, Nat.reduceEqDiff]
 first | rfl | (congr 2; simp only [szd, Mk.wt] at *; omega)
set_option maxHeartbeats 8000000 in
set_option maxRecDepth 10000 in
theorem szPipeS_con (a : List DPipe) (left : Int) (h1 : -1 ≤ left) (h2 : left ≤ 1048576) : Con Tryz.prog 40 [.h base [], .v (iv left)] [.rt base .ro (tr a)] (fun y _ => y = .v (iv (szd (Mk.wt a) left))) := by
 refine Con.of_body Tryz.func40 rfl (by simp) ?_
 rw [Tryz.ntmps40]
 have hw : Mk.wt a = a.length + wtL Mk.wt a := rfl
 refine AW.len base [] rfl (by simp [Okp]) rfl (fun hl => ?_)
 refine AW.seq (AW.region ?_)
 refine qq Qt.assign ?_
 refine nl ?_
 refine AW.seq (AW.region ?_)
 refine qq Qt.move ?_
 refine qq Qt.move ?_
 refine nm ?_
 refine qq (Qt.lenH rfl rfl rfl sl25) ?_
 refine qq (Qt.binOp rfl rfl (by first | exact pbSub (by omega) | rfl)) ?_
 refine qq Qt.assign ?_
 refine nl ?_
 refine AW.seq (AW.seq (AW.region ?_))
 refine qq Qt.move ?_
 refine nm ?_
 refine qq (Qt.binOp rfl rfl rfl) ?_
 refine nl ?_
 refine AW.cond rfl (fun c1 => ?_) (fun c1 => ?_)
 ·have k1 := c1
  try simp only [cnd] at c1
  refine AW.seq (AW.region ?_)
  refine qq Qt.assign ?_
  refine nl ?_
  refine AW.ret (endQ_ret (.cons (.tmp 4) .nil) ?_)
  simp only [retX, slotL, reduceIte, Nat.reduceEqDiff]
  try have hi0 := i.nn
  have hcw := cumN_wt a
  have hz := szd_cases (Mk.wt a) left
  try have hce : cumN Mk.wt En.dflt a i.k = cumN Mk.wt En.dflt a a.length := by rw [show i.k = a.length by omega]
  congr 2
  omega
 have k1 := c1
 try simp only [cnd] at c1
 refine jd (AW.seq (AW.seq (AW.region ?_)))
 refine qq Qt.assign ?_
 refine nl ?_
 refine AW.block ?_
 refine AW.weak (L' := [.sl 5 (.v (iv (0 : Nat))), .sl 1 (.v (iv (left - a.length - (cumN Mk.wt En.dflt a 0 : Nat)))), .sl 0 (.h base []), .rt base .ro (tr a)]) (Weak.sim ⟨rfl, (by simp only [slotL, reduceIte, Nat.reduceEqDiff]; show X.v (iv (left - a.length)) = _; simp [cumN]), rfl, Rf rfl, trivial⟩ rfl rfl) ?_
 refine AW.loop (fun i : SzInv left a => [.sl 5 (.v (iv i.k)), .sl 1 (.v (iv (left - a.length - (cumN Mk.wt En.dflt a i.k : Nat)))), .sl 0 (.h base []), .rt base .ro (tr a)]) (fun i => a.length - i.k) ⟨0, Nat.zero_le _, by simp only [cumN]; omega⟩ ?_
 intro i
 have hle := i.le
 refine AW.seq (AW.seq (AW.region ?_))
 refine qq Qt.move ?_
 refine nm ?_
 refine qq Qt.move ?_
 refine qq (Qt.lenH rfl rfl rfl sl25) ?_
 refine qq (Qt.binOp rfl rfl rfl) ?_
 refine nl ?_
 refine AW.cond rfl (fun c2 => ?_) (fun c2 => ?_)
 ·have k2 := c2
  try simp only [cnd] at c2
  have hi0 := i.nn
  have hcw := cumN_wt a
  have hc1 := cumN_mono (c := Mk.wt) (d := En.dflt) (l := a) (show i.k + 1 ≤ a.length by omega)
  simp only [cumN] at hc1
  have hz2 := szd_cases (Mk.wt (a.getD i.k En.dflt)) (left - a.length - (cumN Mk.wt En.dflt a i.k : Nat))
  refine jd (AW.seq (AW.block (AW.seq (AW.region ?_))))
  refine qq Qt.move ?_
  refine nm ?_
  refine qq Qt.move ?_
  refine qq (Qt.indexAddr rfl rfl rfl rfl sl25 sz207 (by decide) (by omega)) ?_
  refine qq (Qt.loadG rfl rfl rfl ag207 sz207 (by decide)) ?_
  refine nm ?_
  refine qq Qt.move ?_
  refine cv Tryz.call160 rfl rfl (szPipe_con _ _ (by first | omega | (repeat (first | omega | apply szd_lo))) (by first | omega | (repeat (first | omega | apply szd_hi)))) ?_
  refine nm ?_
  refine qq Qt.assign ?_
  refine nl ?_
  refine AW.seq (AW.region ?_)
  refine qq Qt.move ?_
  refine qq (Qt.binOp rfl rfl rfl) ?_
  refine nl ?_
  refine AW.cond rfl (fun c3 => ?_) (fun c3 => ?_)
  ·have k3 := c3
   try simp only [cnd] at c3
   refine AW.seq (AW.region ?_)
   refine qq Qt.assign ?_
   refine nl ?_
   refine AW.ret (endQ_ret (.cons (.tmp 4) .nil) ?_)
   simp only [retX, slotL, reduceIte, Nat.reduceEqDiff]
   try have hi0 := i.nn
   have hcw := cumN_wt a
   have hz := szd_cases (Mk.wt a) left
   try have hce : cumN Mk.wt En.dflt a i.k = cumN Mk.wt En.dflt a a.length := by rw [show i.k = a.length by omega]
   congr 2
   omega
  have k3 := c3
  try simp only [cnd] at c3
  refine jd (AW.region ?_)
  refine qq Qt.move ?_
  refine nm ?_
  refine qq (Qt.binOp rfl rfl (by first | exact pbAdd (by omega) | rfl)) ?_
  refine qq Qt.assign ?_
  refine nl ?_
  refine ⟨⟨i.k + 1, by omega, by simp only [cumN]; omega⟩, Weak.sim ⟨st1, (by simp only [slotL, reduceIte, Nat.reduceEqDiff]; congr 2; simp only [cumN]; omega), rfl, Rf rfl, trivial⟩ rfl rfl, ?_⟩
  show a.length - (i.k + 1) < a.length - i.k
  omega
 have k2 := c2
 try simp only [cnd] at c2
 refine AW.exit ?_
 dsimp only [thenQ, blockQ, reduceIte]
 refine AW.seq (AW.region ?_)
 refine qq Qt.move ?_
 refine nm ?_
 refine qq Qt.assign ?_
 refine nl ?_
 refine AW.ret (endQ_ret (.cons (.tmp 4) .nil) ?_)
 simp only [retX, slotL, reduceIte, Nat.reduceEqDiff]
 try have hi0 := i.nn
 have hcw := cumN_wt a
 have hz := szd_cases (Mk.wt a) left
 try have hce : cumN Mk.wt En.dflt a i.k = cumN Mk.wt En.dflt a a.length := by rw [show i.k = a.length by omega]
 congr 2
 omega
set_option maxHeartbeats 8000000 in
set_option maxRecDepth 10000 in
theorem szFile_con (a : DFile) (left : Int) (h1 : -1 ≤ left) (h2 : left ≤ 1048576) : Con Tryz.prog 161 [.g [.v (iv a.Name), .h base []], .v (iv left)] [.rt base .ro (tr a.Data)] (fun y _ => y = .v (iv (szd (Mk.wt a) left))) := by
 refine Con.of_body Tryz.func161 rfl (by simp) ?_
 rw [Tryz.ntmps161]
 refine AW.seq (AW.region ?_)
 refine sp (Stp.boxB rfl (by decide) (by decide) rfl rfl rfl rfl) ?_
 refine nm ?_
 refine qq Qt.assign ?_
 refine nl ?_
 refine AW.seq (AW.region ?_)
 refine qq (fA fl209_1) ?_
 refine qq (Qt.load1 rfl rfl rfl ag27) ?_
 refine nm ?_
 refine qq Qt.move ?_
 refine cv Tryz.call42 rfl rfl (szIntS_con _ _ (by first | omega | (repeat (first | omega | apply szd_lo))) (by first | omega | (repeat (first | omega | apply szd_hi)))) ?_
 refine nm ?_
 refine qq Qt.assign ?_
 refine nl ?_
 refine AW.seq (AW.seq (AW.region ?_))
 refine qq Qt.move ?_
 refine qq (Qt.binOp rfl rfl rfl) ?_
 refine nl ?_
 refine AW.cond rfl (fun c1 => ?_) (fun c1 => ?_)
 ·have k1 := c1
  try simp only [cnd] at c1
  refine AW.seq (AW.region ?_)
  refine qq Qt.assign ?_
  refine nl ?_
  refine AW.ret (endQ_ret (.cons (.tmp 4) .nil) ?_)
  simp only [retX, slotL, reduceIte, Nat.reduceEqDiff]
  first | rfl | (congr 2; simp only [szd, Mk.wt] at *; omega)
 have k1 := c1
 try simp only [cnd] at c1
 refine jd (AW.seq (AW.region ?_))
 refine qq Qt.move ?_
 refine nm ?_
 refine qq Qt.assign ?_
 refine nl ?_
 refine AW.ret (endQ_ret (.cons (.tmp 4) .nil) ?_)
 simp only [retX, slotL, reduceIte, Nat.reduceEqDiff]
 first | rfl | (congr 2; simp only [szd, Mk.wt] at *; omega)
set_option maxHeartbeats 8000000 in
set_option maxRecDepth 10000 in
theorem szFileS_con (a : List DFile) (left : Int) (h1 : -1 ≤ left) (h2 : left ≤ 1048576) : Con Tryz.prog 41 [.h base [], .v (iv left)] [.rt base .ro (tr a)] (fun y _ => y = .v (iv (szd (Mk.wt a) left))) := by
 refine Con.of_body Tryz.func41 rfl (by simp) ?_
 rw [Tryz.ntmps41]
 have hw : Mk.wt a = a.length + wtL Mk.wt a := rfl
 refine AW.len base [] rfl (by simp [Okp]) rfl (fun hl => ?_)
 refine AW.seq (AW.region ?_)
 refine qq Qt.assign ?_
 refine nl ?_
 refine AW.seq (AW.region ?_)
 refine qq Qt.move ?_
 refine qq Qt.move ?_
 refine nm ?_
 refine qq (Qt.lenH rfl rfl rfl sl26) ?_
 refine qq (Qt.binOp rfl rfl (by first | exact pbSub (by omega) | rfl)) ?_
 refine qq Qt.assign ?_
 refine nl ?_
 refine AW.seq (AW.seq (AW.region ?_))
 refine qq Qt.move ?_
 refine nm ?_
 refine qq (Qt.binOp rfl rfl rfl) ?_
 refine nl ?_
 refine AW.cond rfl (fun c1 => ?_) (fun c1 => ?_)
 ·have k1 := c1
  try simp only [cnd] at c1
  refine AW.seq (AW.region ?_)
  refine qq Qt.assign ?_
  refine nl ?_
  refine AW.ret (endQ_ret (.cons (.tmp 4) .nil) ?_)
  simp only [retX, slotL, reduceIte, Nat.reduceEqDiff]
  try have hi0 := i.nn
  have hcw := cumN_wt a
  have hz := szd_cases (Mk.wt a) left
  try have hce : cumN Mk.wt En.dflt a i.k = cumN Mk.wt En.dflt a a.length := by rw [show i.k = a.length by omega]
  congr 2
  omega
 have k1 := c1
 try simp only [cnd] at c1
 refine jd (AW.seq (AW.seq (AW.region ?_)))
 refine qq Qt.assign ?_
 refine nl ?_
 refine AW.block ?_
 refine AW.weak (L' := [.sl 5 (.v (iv (0 : Nat))), .sl 1 (.v (iv (left - a.length - (cumN Mk.wt En.dflt a 0 : Nat)))), .sl 0 (.h base []), .rt base .ro (tr a)]) (Weak.sim ⟨rfl, (by simp only [slotL, reduceIte, Nat.reduceEqDiff]; show X.v (iv (left - a.length)) = _; simp [cumN]), rfl, Rf rfl, trivial⟩ rfl rfl) ?_
 refine AW.loop (fun i : SzInv left a => [.sl 5 (.v (iv i.k)), .sl 1 (.v (iv (left - a.length - (cumN Mk.wt En.dflt a i.k : Nat)))), .sl 0 (.h base []), .rt base .ro (tr a)]) (fun i => a.length - i.k) ⟨0, Nat.zero_le _, by simp only [cumN]; omega⟩ ?_
 intro i
 have hle := i.le
 refine AW.seq (AW.seq (AW.region ?_))
 refine qq Qt.move ?_
 refine nm ?_
 refine qq Qt.move ?_
 refine qq (Qt.lenH rfl rfl rfl sl26) ?_
 refine qq (Qt.binOp rfl rfl rfl) ?_
 refine nl ?_
 refine AW.cond rfl (fun c2 => ?_) (fun c2 => ?_)
 ·have k2 := c2
  try simp only [cnd] at c2
  have hi0 := i.nn
  have hcw := cumN_wt a
  have hc1 := cumN_mono (c := Mk.wt) (d := En.dflt) (l := a) (show i.k + 1 ≤ a.length by omega)
  simp only [cumN] at hc1
  have hz2 := szd_cases (Mk.wt (a.getD i.k En.dflt)) (left - a.length - (cumN Mk.wt En.dflt a i.k : Nat))
  refine jd (AW.seq (AW.block (AW.seq (AW.region ?_))))
  refine qq Qt.move ?_
  refine nm ?_
  refine qq Qt.move ?_
  refine qq (Qt.indexAddr rfl rfl rfl rfl sl26 sz209 (by decide) (by omega)) ?_
  refine qq (Qt.loadG rfl rfl rfl ag209 sz209 (by decide)) ?_
  refine nm ?_
  refine qq Qt.move ?_
  refine cv Tryz.call161 rfl rfl (szFile_con _ _ (by first | omega | (repeat (first | omega | apply szd_lo))) (by first | omega | (repeat (first | omega | apply szd_hi)))) ?_
  refine nm ?_
  refine qq Qt.assign ?_
  refine nl ?_
  refine AW.seq (AW.region ?_)
  refine qq Qt.move ?_
  refine qq (Qt.binOp rfl rfl rfl) ?_
  refine nl ?_
  refine AW.cond rfl (fun c3 => ?_) (fun c3 => ?_)
  ·have k3 := c3
   try simp only [cnd] at c3
   refine AW.seq (AW.region ?_)
   refine qq Qt.assign ?_
   refine nl ?_
   refine AW.ret (endQ_ret (.cons (.tmp 4) .nil) ?_)
   simp only [retX, slotL, reduceIte, Nat.reduceEqDiff]
   try have hi0 := i.nn
   have hcw := cumN_wt a
   have hz := szd_cases (Mk.wt a) left
   try have hce : cumN Mk.wt En.dflt a i.k = cumN Mk.wt En.dflt a a.length := by rw [show i.k = a.length by omega]
   congr 2
   omega
  have k3 := c3
  try simp only [cnd] at c3
  refine jd (AW.region ?_)
  refine qq Qt.move ?_
  refine nm ?_
  refine qq (Qt.binOp rfl rfl (by first | exact pbAdd (by omega) | rfl)) ?_
  refine qq Qt.assign ?_
  refine nl ?_
  refine ⟨⟨i.k + 1, by omega, by simp only [cumN]; omega⟩, Weak.sim ⟨st1, (by simp only [slotL, reduceIte, Nat.reduceEqDiff]; congr 2; simp only [cumN]; omega), rfl, Rf rfl, trivial⟩ rfl rfl, ?_⟩
  show a.length - (i.k + 1) < a.length - i.k
  omega
 have k2 := c2
 try simp only [cnd] at c2
 refine AW.exit ?_
 dsimp only [thenQ, blockQ, reduceIte]
 refine AW.seq (AW.region ?_)
 refine qq Qt.move ?_
 refine nm ?_
 refine qq Qt.assign ?_
 refine nl ?_
 refine AW.ret (endQ_ret (.cons (.tmp 4) .nil) ?_)
 simp only [retX, slotL, reduceIte, Nat.reduceEqDiff]
 try have hi0 := i.nn
 have hcw := cumN_wt a
 have hz := szd_cases (Mk.wt a) left
 try have hce : cumN Mk.wt En.dflt a i.k = cumN Mk.wt En.dflt a a.length := by rw [show i.k = a.length by omega]
 congr 2
 omega
set_option maxHeartbeats 8000000 in
set_option maxRecDepth 10000 in
theorem szUnix_con (a : DUnix) (left : Int) (h1 : -1 ≤ left) (h2 : left ≤ 1048576) : Con Tryz.prog 10 [.g [.v (iv a.Next), .v (iv a.Tick), .h base [], .h (base + 1) [], .h (base + 2) [], .h (base + 3) [], .h (base + 4) [], .h (base + 5) [], .h (base + 6) []], .v (iv left)] [.rt base .ro (tr a.Progs), .rt (base + 1) .ro (tr a.Procs), .rt (base + 2) .ro (tr a.Opens), .rt (base + 3) .ro (tr a.Pipes), .rt (base + 4) .ro (tr a.Files), .rt (base + 5) .ro (tr a.Ready), .rt (base + 6) .ro (tr a.Out)] (fun y _ => y = .v (iv (szd (Mk.wt a) left))) := by
 refine Con.of_body Tryz.func10 rfl (by simp) ?_
 rw [Tryz.ntmps10]
 refine AW.seq (AW.region ?_)
 refine sp (Stp.boxB rfl (by decide) (by decide) rfl rfl rfl rfl) ?_
 refine nm ?_
 refine qq Qt.assign ?_
 refine nl ?_
 refine AW.seq (AW.region ?_)
 refine qq (fA fl29_2) ?_
 refine qq (Qt.load1 rfl rfl rfl ag22) ?_
 refine nm ?_
 refine qq Qt.move ?_
 refine cv Tryz.call37 rfl rfl (szInsSS_con _ _ (by first | omega | (repeat (first | omega | apply szd_lo))) (by first | omega | (repeat (first | omega | apply szd_hi)))) ?_
 refine nm ?_
 refine qq Qt.assign ?_
 refine nl ?_
 refine AW.seq (AW.seq (AW.region ?_))
 refine qq Qt.move ?_
 refine qq (Qt.binOp rfl rfl rfl) ?_
 refine nl ?_
 refine AW.cond rfl (fun c1 => ?_) (fun c1 => ?_)
 ·have k1 := c1
  try simp only [cnd] at c1
  refine AW.seq (AW.region ?_)
  refine qq Qt.assign ?_
  refine nl ?_
  refine AW.ret (endQ_ret (.cons (.tmp 4) .nil) ?_)
  simp only [retX, slotL, reduceIte, Nat.reduceEqDiff]
  first | rfl | (congr 2; simp only [szd, Mk.wt] at *; omega)
 have k1 := c1
 try simp only [cnd] at c1
 refine jd (AW.seq (AW.region ?_))
 refine qq (fA fl29_3) ?_
 refine nm ?_
 refine qq (Qt.load1 rfl rfl rfl ag23) ?_
 refine qq Qt.move ?_
 refine cv Tryz.call38 rfl rfl (szProcS_con _ _ (by first | omega | (repeat (first | omega | apply szd_lo))) (by first | omega | (repeat (first | omega | apply szd_hi)))) ?_
 refine nm ?_
 refine qq Qt.assign ?_
 refine nl ?_
 refine AW.seq (AW.seq (AW.region ?_))
 refine qq Qt.move ?_
 refine qq (Qt.binOp rfl rfl rfl) ?_
 refine nl ?_
 refine AW.cond rfl (fun c2 => ?_) (fun c2 => ?_)
 ·have k2 := c2
  try simp only [cnd] at c2
  refine AW.seq (AW.region ?_)
  refine qq Qt.assign ?_
  refine nl ?_
  refine AW.ret (endQ_ret (.cons (.tmp 4) .nil) ?_)
  simp only [retX, slotL, reduceIte, Nat.reduceEqDiff]
  first | rfl | (congr 2; simp only [szd, Mk.wt] at *; omega)
 have k2 := c2
 try simp only [cnd] at c2
 refine jd (AW.seq (AW.region ?_))
 refine qq (fA fl29_4) ?_
 refine nm ?_
 refine qq (Qt.load1 rfl rfl rfl ag24) ?_
 refine qq Qt.move ?_
 refine cv Tryz.call39 rfl rfl (szOpenS_con _ _ (by first | omega | (repeat (first | omega | apply szd_lo))) (by first | omega | (repeat (first | omega | apply szd_hi)))) ?_
 refine nm ?_
 refine qq Qt.assign ?_
 refine nl ?_
 refine AW.seq (AW.seq (AW.region ?_))
 refine qq Qt.move ?_
 refine qq (Qt.binOp rfl rfl rfl) ?_
 refine nl ?_
 refine AW.cond rfl (fun c3 => ?_) (fun c3 => ?_)
 ·have k3 := c3
  try simp only [cnd] at c3
  refine AW.seq (AW.region ?_)
  refine qq Qt.assign ?_
  refine nl ?_
  refine AW.ret (endQ_ret (.cons (.tmp 4) .nil) ?_)
  simp only [retX, slotL, reduceIte, Nat.reduceEqDiff]
  first | rfl | (congr 2; simp only [szd, Mk.wt] at *; omega)
 have k3 := c3
 try simp only [cnd] at c3
 refine jd (AW.seq (AW.region ?_))
 refine qq (fA fl29_5) ?_
 refine nm ?_
 refine qq (Qt.load1 rfl rfl rfl ag25) ?_
 refine qq Qt.move ?_
 refine cv Tryz.call40 rfl rfl (szPipeS_con _ _ (by first | omega | (repeat (first | omega | apply szd_lo))) (by first | omega | (repeat (first | omega | apply szd_hi)))) ?_
 refine nm ?_
 refine qq Qt.assign ?_
 refine nl ?_
 refine AW.seq (AW.seq (AW.region ?_))
 refine qq Qt.move ?_
 refine qq (Qt.binOp rfl rfl rfl) ?_
 refine nl ?_
 refine AW.cond rfl (fun c4 => ?_) (fun c4 => ?_)
 ·have k4 := c4
  try simp only [cnd] at c4
  refine AW.seq (AW.region ?_)
  refine qq Qt.assign ?_
  refine nl ?_
  refine AW.ret (endQ_ret (.cons (.tmp 4) .nil) ?_)
  simp only [retX, slotL, reduceIte, Nat.reduceEqDiff]
  first | rfl | (congr 2; simp only [szd, Mk.wt] at *; omega)
 have k4 := c4
 try simp only [cnd] at c4
 refine jd (AW.seq (AW.region ?_))
 refine qq (fA fl29_6) ?_
 refine nm ?_
 refine qq (Qt.load1 rfl rfl rfl ag26) ?_
 refine qq Qt.move ?_
 refine cv Tryz.call41 rfl rfl (szFileS_con _ _ (by first | omega | (repeat (first | omega | apply szd_lo))) (by first | omega | (repeat (first | omega | apply szd_hi)))) ?_
 refine nm ?_
 refine qq Qt.assign ?_
 refine nl ?_
 refine AW.seq (AW.seq (AW.region ?_))
 refine qq Qt.move ?_
 refine qq (Qt.binOp rfl rfl rfl) ?_
 refine nl ?_
 refine AW.cond rfl (fun c5 => ?_) (fun c5 => ?_)
 ·have k5 := c5
  try simp only [cnd] at c5
  refine AW.seq (AW.region ?_)
  refine qq Qt.assign ?_
  refine nl ?_
  refine AW.ret (endQ_ret (.cons (.tmp 4) .nil) ?_)
  simp only [retX, slotL, reduceIte, Nat.reduceEqDiff]
  first | rfl | (congr 2; simp only [szd, Mk.wt] at *; omega)
 have k5 := c5
 try simp only [cnd] at c5
 refine jd (AW.seq (AW.region ?_))
 refine qq (fA fl29_7) ?_
 refine nm ?_
 refine qq (Qt.load1 rfl rfl rfl ag27) ?_
 refine qq Qt.move ?_
 refine cv Tryz.call42 rfl rfl (szIntS_con _ _ (by first | omega | (repeat (first | omega | apply szd_lo))) (by first | omega | (repeat (first | omega | apply szd_hi)))) ?_
 refine nm ?_
 refine qq Qt.assign ?_
 refine nl ?_
 refine AW.seq (AW.seq (AW.region ?_))
 refine qq Qt.move ?_
 refine qq (Qt.binOp rfl rfl rfl) ?_
 refine nl ?_
 refine AW.cond rfl (fun c6 => ?_) (fun c6 => ?_)
 ·have k6 := c6
  try simp only [cnd] at c6
  refine AW.seq (AW.region ?_)
  refine qq Qt.assign ?_
  refine nl ?_
  refine AW.ret (endQ_ret (.cons (.tmp 4) .nil) ?_)
  simp only [retX, slotL, reduceIte, Nat.reduceEqDiff]
  first | rfl | (congr 2; simp only [szd, Mk.wt] at *; omega)
 have k6 := c6
 try simp only [cnd] at c6
 refine jd (AW.seq (AW.region ?_))
 refine qq (fA fl29_8) ?_
 refine nm ?_
 refine qq (Qt.load1 rfl rfl rfl ag27) ?_
 refine qq Qt.move ?_
 refine cv Tryz.call42 rfl rfl (szIntS_con _ _ (by first | omega | (repeat (first | omega | apply szd_lo))) (by first | omega | (repeat (first | omega | apply szd_hi)))) ?_
 refine nm ?_
 refine qq Qt.assign ?_
 refine nl ?_
 refine AW.seq (AW.seq (AW.region ?_))
 refine qq Qt.move ?_
 refine qq (Qt.binOp rfl rfl rfl) ?_
 refine nl ?_
 refine AW.cond rfl (fun c7 => ?_) (fun c7 => ?_)
 ·have k7 := c7
  try simp only [cnd] at c7
  refine AW.seq (AW.region ?_)
  refine qq Qt.assign ?_
  refine nl ?_
  refine AW.ret (endQ_ret (.cons (.tmp 4) .nil) ?_)
  simp only [retX, slotL, reduceIte, Nat.reduceEqDiff]
  first | rfl | (congr 2; simp only [szd, Mk.wt] at *; omega)
 have k7 := c7
 try simp only [cnd] at c7
 refine jd (AW.seq (AW.region ?_))
 refine qq Qt.move ?_
 refine nm ?_
 refine qq Qt.assign ?_
 refine nl ?_
 refine AW.ret (endQ_ret (.cons (.tmp 4) .nil) ?_)
 simp only [retX, slotL, reduceIte, Nat.reduceEqDiff]
 first | rfl | (congr 2; simp only [szd, Mk.wt] at *; omega)
set_option maxHeartbeats 8000000 in
set_option maxRecDepth 10000 in
theorem toIns_con (a : DIns) : Con Tryz.prog 278 [.g [.v (iv a.Op), .v (iv a.A), .v (iv a.B), .v (iv a.C)]] [] (Ret (.g [.v (iv a.Op), .v (iv a.A), .v (iv a.B), .v (iv a.C)]) []) := by
 refine Con.of_body Tryz.func278 rfl (by simp) ?_
 rw [Tryz.ntmps278]
 refine AW.seq (AW.region ?_)
 refine sp (Stp.boxB rfl (by decide) (by decide) rfl rfl rfl rfl) ?_
 refine nm ?_
 refine sp (Stp.alloc rfl (by decide) (by decide)) ?_
 refine nl ?_
 refine AW.seq (AW.region ?_)
 refine sp (Stp.alloc rfl (by decide) (by decide)) ?_
 refine nl ?_
 refine AW.seq (AW.region ?_)
 refine qq (fA fl303_0) ?_
 refine nm ?_
 refine qq (Qt.load1 rfl rfl rfl ag3) ?_
 refine qq (fA fl224_0) ?_
 refine ss ?_
 refine nl ?_
 refine AW.seq (AW.region ?_)
 refine qq (fA fl303_1) ?_
 refine nm ?_
 refine qq (Qt.load1 rfl rfl rfl ag3) ?_
 refine qq (fA fl224_1) ?_
 refine ss ?_
 refine nl ?_
 refine AW.seq (AW.region ?_)
 refine qq (fA fl303_2) ?_
 refine nm ?_
 refine qq (Qt.load1 rfl rfl rfl ag3) ?_
 refine qq (fA fl224_2) ?_
 refine ss ?_
 refine nl ?_
 refine AW.seq (AW.region ?_)
 refine qq (fA fl303_3) ?_
 refine nm ?_
 refine qq (Qt.load1 rfl rfl rfl ag3) ?_
 refine qq (fA fl224_3) ?_
 refine ss ?_
 refine nl ?_
 refine AW.seq (AW.region ?_)
 refine qq (Qt.loadG rfl rfl rfl ag224 sz224 (by decide)) ?_
 refine nm ?_
 refine ss ?_
 refine nl ?_
 refine AW.ret (endQ_ret (.cons (.cellG 2 224 rfl rfl rfl ag224 sz224 (by decide)) .nil) ?_)
 refine ⟨fun _ => 0, rfl, nodup_of rfl, ?_⟩
 intro r hr
 cases hr
set_option maxHeartbeats 8000000 in
set_option maxRecDepth 10000 in
theorem toInsS_con (a : List DIns) (hw : Mk.wt a ≤ 1048576) : Con Tryz.prog 170 [.h base []] [.rt base .ro (tr a)] (Ret (.h 0 []) [(0, .row, tr a)]) := by
 refine Con.of_body Tryz.func170 rfl (by simp) ?_
 rw [Tryz.ntmps170]
 have hw2 : a.length + wtL Mk.wt a ≤ 1048576 := hw
 refine AW.seq (AW.region ?_)
 refine qq Qt.assign ?_
 refine nl ?_
 refine AW.seq (AW.region ?_)
 refine qq Qt.move ?_
 refine qq (Qt.lenH rfl rfl rfl sl201) ?_
 refine nm ?_
 refine sp (Stp.makeSlice rfl (by decide) (by decide) rfl rfl (by omega) (by omega) (by omega)) ?_
 refine nm ?_
 refine qq Qt.assign ?_
 refine nl ?_
 refine AW.seq (AW.seq (AW.region ?_))
 refine qq Qt.assign ?_
 refine nl ?_
 refine AW.block ?_
 refine AW.weak (L' := [.sl 4 (.v (iv (0 : Nat))), .sl 3 (.h 7 []), .sl 0 (.h base []), .rt 7 .row (trMix (0 : Nat) a.length (fun j => a.getD j En.dflt) fun _ => En.dflt), .rt base .ro (tr a)]) (Weak.sim ⟨rfl, rfl, rfl, ⟨_, rfl, (trMix_start rfl (fun c hc => match c, hc with | 0, _ => T.sim_refl _ | 1, _ => T.sim_refl _ | 2, _ => T.sim_refl _ | 3, _ => T.sim_refl _ | c + 4, hc => absurd hc (by simp only [En.n]; omega)))⟩, Rf rfl, trivial⟩ rfl rfl) ?_
 refine AW.loop (fun i : KInv a.length => [.sl 4 (.v (iv i.k)), .sl 3 (.h 7 []), .sl 0 (.h base []), .rt 7 .row (trMix i.k a.length (fun j => a.getD j En.dflt) fun _ => En.dflt), .rt base .ro (tr a)]) (fun i => a.length - i.k) ⟨0, Nat.zero_le _⟩ ?_
 intro i
 have hle := i.le
 refine AW.seq (AW.seq (AW.region ?_))
 refine qq Qt.move ?_
 refine nm ?_
 refine qq Qt.move ?_
 refine qq (Qt.lenH rfl rfl rfl sl201) ?_
 refine qq (Qt.binOp rfl rfl rfl) ?_
 refine nl ?_
 refine AW.cond rfl (fun c1 => ?_) (fun c1 => ?_)
 ·have k1 := c1
  try simp only [cnd] at c1
  have hwk := wtL_get (w := Mk.wt) (d := En.dflt) (l := a) (i := i.k) (by omega)
  refine jd (AW.seq (AW.block (AW.region ?_)))
  refine qq Qt.move ?_
  refine nm ?_
  refine qq Qt.move ?_
  refine qq Qt.move ?_
  refine qq Qt.move ?_
  refine nm ?_
  refine qq (Qt.indexAddr rfl rfl rfl rfl sl201 sz303 (by decide) (by omega)) ?_
  refine qq (Qt.loadG rfl rfl rfl ag303 sz303 (by decide)) ?_
  refine sp (Stp.callR rfl (by decide) Tryz.call278 rfl rfl (toIns_con _) (nodup_of rfl) rfl rfl) ?_
  refine nm ?_
  refine qq (Qt.indexAddr rfl rfl rfl rfl sl106 sz224 (by decide) (by omega)) ?_
  refine ss ?_
  refine nl ?_
  refine AW.region ?_
  refine qq Qt.move ?_
  refine nm ?_
  refine qq (Qt.binOp rfl rfl (by first | exact pbAdd (by omega) | rfl)) ?_
  refine qq Qt.assign ?_
  refine nl ?_
  refine ⟨⟨i.k + 1, by omega⟩, Weak.sim ⟨st1, rfl, rfl, ⟨_, rfl, trMix_next (fun i c hi => by simp only [upd_app, hi, false_and, if_false]; rfl) (fun c hc => match c, hc with | 0, _ => (by simp only [upd_app, eq_self, and_true, and_false, Nat.reduceEqDiff, if_true, if_false]; exact T.sim_refl _) | 1, _ => (by simp only [upd_app, eq_self, and_true, and_false, Nat.reduceEqDiff, if_true, if_false]; exact T.sim_refl _) | 2, _ => (by simp only [upd_app, eq_self, and_true, and_false, Nat.reduceEqDiff, if_true, if_false]; exact T.sim_refl _) | 3, _ => (by simp only [upd_app, eq_self, and_true, and_false, Nat.reduceEqDiff, if_true, if_false]; exact T.sim_refl _) | c + 4, hc => absurd hc (by simp only [En.n]; omega))⟩, Rf rfl, trivial⟩ rfl rfl, ?_⟩
  show a.length - (i.k + 1) < a.length - i.k
  omega
 have k1 := c1
 try simp only [cnd] at c1
 refine AW.exit ?_
 dsimp only [thenQ, blockQ, reduceIte]
 refine AW.seq (AW.region ?_)
 refine qq Qt.move ?_
 refine nm ?_
 refine qq Qt.assign ?_
 refine nl ?_
 refine AW.weak (L' := [.rt 7 .row (tr a), .sl 2 (.h 7 [])]) (Weak.sim ⟨⟨_, rfl, trMix_full (by omega) rfl (fun _ _ => rfl)⟩, rfl, trivial⟩ rfl rfl) ?_
 refine AW.ret (endQ_ret (.cons (.tmp 2) .nil) ?_)
 refine ⟨fun _ => 7, rfl, nodup_of rfl, ?_⟩
 intro r hr
 cases List.mem_singleton.1 hr
 exact ⟨by simp, rootL_mem rfl⟩
set_option maxHeartbeats 8000000 in
set_option maxRecDepth 10000 in
theorem toInsSS_con (a : List (List DIns)) (hw : Mk.wt a ≤ 1048576) : Con Tryz.prog 50 [.h base []] [.rt base .ro (tr a)] (Ret (.h 0 []) [(0, .row, tr a)]) := by
 refine Con.of_body Tryz.func50 rfl (by simp) ?_
 rw [Tryz.ntmps50]
 have hw2 : a.length + wtL Mk.wt a ≤ 1048576 := hw
 refine AW.seq (AW.region ?_)
 refine qq Qt.assign ?_
 refine nl ?_
 refine AW.seq (AW.region ?_)
 refine qq Qt.move ?_
 refine qq (Qt.lenH rfl rfl rfl sl22) ?_
 refine nm ?_
 refine sp (Stp.makeSlice rfl (by decide) (by decide) rfl rfl (by omega) (by omega) (by omega)) ?_
 refine nm ?_
 refine qq Qt.assign ?_
 refine nl ?_
 refine AW.seq (AW.seq (AW.region ?_))
 refine qq Qt.assign ?_
 refine nl ?_
 refine AW.block ?_
 refine AW.weak (L' := [.sl 4 (.v (iv (0 : Nat))), .sl 3 (.h 7 []), .sl 0 (.h base []), .rt 7 .row (trMix (0 : Nat) a.length (fun j => a.getD j En.dflt) fun _ => En.dflt), .rt base .ro (tr a)]) (Weak.sim ⟨rfl, rfl, rfl, ⟨_, rfl, (trMix_start rfl (fun c hc => match c, hc with | 0, _ => sim_nil | c + 1, hc => absurd hc (by simp only [En.n]; omega)))⟩, Rf rfl, trivial⟩ rfl rfl) ?_
 refine AW.loop (fun i : KInv a.length => [.sl 4 (.v (iv i.k)), .sl 3 (.h 7 []), .sl 0 (.h base []), .rt 7 .row (trMix i.k a.length (fun j => a.getD j En.dflt) fun _ => En.dflt), .rt base .ro (tr a)]) (fun i => a.length - i.k) ⟨0, Nat.zero_le _⟩ ?_
 intro i
 have hle := i.le
 refine AW.seq (AW.seq (AW.region ?_))
 refine qq Qt.move ?_
 refine nm ?_
 refine qq Qt.move ?_
 refine qq (Qt.lenH rfl rfl rfl sl22) ?_
 refine qq (Qt.binOp rfl rfl rfl) ?_
 refine nl ?_
 refine AW.cond rfl (fun c1 => ?_) (fun c1 => ?_)
 ·have k1 := c1
  try simp only [cnd] at c1
  have hwk := wtL_get (w := Mk.wt) (d := En.dflt) (l := a) (i := i.k) (by omega)
  refine jd (AW.seq (AW.block (AW.region ?_)))
  refine qq Qt.move ?_
  refine nm ?_
  refine qq Qt.move ?_
  refine qq Qt.move ?_
  refine qq Qt.move ?_
  refine nm ?_
  refine qq (Qt.indexAddr rfl rfl rfl rfl sl22 sz201 (by decide) (by omega)) ?_
  refine qq (Qt.load1 rfl rfl rfl ag201) ?_
  refine sp (Stp.callR rfl (by decide) Tryz.call170 rfl rfl (toInsS_con _ (by first | omega | (simp only [Int.toNat_natCast]; omega) | (simp only [Mk.wt] at *; omega))) (nodup_of rfl) rfl rfl) ?_
  refine nm ?_
  refine qq (Qt.indexAddr rfl rfl rfl rfl sl32 sz106 (by decide) (by omega)) ?_
  refine ss ?_
  refine nl ?_
  refine AW.region ?_
  refine qq Qt.move ?_
  refine nm ?_
  refine qq (Qt.binOp rfl rfl (by first | exact pbAdd (by omega) | rfl)) ?_
  refine qq Qt.assign ?_
  refine nl ?_
  refine ⟨⟨i.k + 1, by omega⟩, Weak.sim ⟨st1, rfl, rfl, ⟨_, rfl, trMix_next (fun i c hi => by simp only [upd_app, hi, false_and, if_false]; rfl) (fun c hc => match c, hc with | 0, _ => (by simp only [upd_app, eq_self, and_true, and_false, Nat.reduceEqDiff, if_true, if_false]; exact T.sim_refl _) | c + 1, hc => absurd hc (by simp only [En.n]; omega))⟩, Rf rfl, trivial⟩ rfl rfl, ?_⟩
  show a.length - (i.k + 1) < a.length - i.k
  omega
 have k1 := c1
 try simp only [cnd] at c1
 refine AW.exit ?_
 dsimp only [thenQ, blockQ, reduceIte]
 refine AW.seq (AW.region ?_)
 refine qq Qt.move ?_
 refine nm ?_
 refine qq Qt.assign ?_
 refine nl ?_
 refine AW.weak (L' := [.rt 7 .row (tr a), .sl 2 (.h 7 [])]) (Weak.sim ⟨⟨_, rfl, trMix_full (by omega) rfl (fun _ _ => rfl)⟩, rfl, trivial⟩ rfl rfl) ?_
 refine AW.ret (endQ_ret (.cons (.tmp 2) .nil) ?_)
 refine ⟨fun _ => 7, rfl, nodup_of rfl, ?_⟩
 intro r hr
 cases List.mem_singleton.1 hr
 exact ⟨by simp, rootL_mem rfl⟩
set_option maxHeartbeats 8000000 in
set_option maxRecDepth 10000 in
theorem toIntS_con (a : List Int) (hw : Mk.wt a ≤ 1048576) : Con Tryz.prog 55 [.h base []] [.rt base .ro (tr a)] (Ret (.h 0 []) [(0, .row, tr a)]) := by
 refine Con.of_body Tryz.func55 rfl (by simp) ?_
 rw [Tryz.ntmps55]
 have hw2 : a.length + wtL Mk.wt a ≤ 1048576 := hw
 refine AW.seq (AW.region ?_)
 refine qq Qt.assign ?_
 refine nl ?_
 refine AW.seq (AW.region ?_)
 refine qq Qt.move ?_
 refine qq (Qt.lenH rfl rfl rfl sl27) ?_
 refine nm ?_
 refine sp (Stp.makeSlice rfl (by decide) (by decide) rfl rfl (by omega) (by omega) (by omega)) ?_
 refine nm ?_
 refine qq Qt.assign ?_
 refine nl ?_
 refine AW.seq (AW.seq (AW.region ?_))
 refine qq Qt.assign ?_
 refine nl ?_
 refine AW.block ?_
 refine AW.weak (L' := [.sl 4 (.v (iv (0 : Nat))), .sl 3 (.h 7 []), .sl 0 (.h base []), .rt 7 .row (trMix (0 : Nat) a.length (fun j => a.getD j En.dflt) fun _ => En.dflt), .rt base .ro (tr a)]) (Weak.sim ⟨rfl, rfl, rfl, ⟨_, rfl, (trMix_start rfl (fun c hc => match c, hc with | 0, _ => T.sim_refl _ | c + 1, hc => absurd hc (by simp only [En.n]; omega)))⟩, Rf rfl, trivial⟩ rfl rfl) ?_
 refine AW.loop (fun i : KInv a.length => [.sl 4 (.v (iv i.k)), .sl 3 (.h 7 []), .sl 0 (.h base []), .rt 7 .row (trMix i.k a.length (fun j => a.getD j En.dflt) fun _ => En.dflt), .rt base .ro (tr a)]) (fun i => a.length - i.k) ⟨0, Nat.zero_le _⟩ ?_
 intro i
 have hle := i.le
 refine AW.seq (AW.seq (AW.region ?_))
 refine qq Qt.move ?_
 refine nm ?_
 refine qq Qt.move ?_
 refine qq (Qt.lenH rfl rfl rfl sl27) ?_
 refine qq (Qt.binOp rfl rfl rfl) ?_
 refine nl ?_
 refine AW.cond rfl (fun c1 => ?_) (fun c1 => ?_)
 ·have k1 := c1
  try simp only [cnd] at c1
  have hwk := wtL_get (w := Mk.wt) (d := En.dflt) (l := a) (i := i.k) (by omega)
  refine jd (AW.seq (AW.block (AW.region ?_)))
  refine qq Qt.move ?_
  refine nm ?_
  refine qq Qt.move ?_
  refine qq Qt.move ?_
  refine qq Qt.move ?_
  refine nm ?_
  refine qq (Qt.indexAddr rfl rfl rfl rfl sl27 sz3 (by decide) (by omega)) ?_
  refine qq (Qt.load1 rfl rfl rfl ag3) ?_
  refine qq (Qt.indexAddr rfl rfl rfl rfl sl27 sz3 (by decide) (by omega)) ?_
  refine nm ?_
  refine ss ?_
  refine nl ?_
  refine AW.region ?_
  refine qq Qt.move ?_
  refine nm ?_
  refine qq (Qt.binOp rfl rfl (by first | exact pbAdd (by omega) | rfl)) ?_
  refine qq Qt.assign ?_
  refine nl ?_
  refine ⟨⟨i.k + 1, by omega⟩, Weak.sim ⟨st1, rfl, rfl, ⟨_, rfl, trMix_next (fun i c hi => by simp only [upd_app, hi, false_and, if_false]; rfl) (fun c hc => match c, hc with | 0, _ => (by simp only [upd_app, eq_self, and_true, and_false, Nat.reduceEqDiff, if_true, if_false]; exact T.sim_refl _) | c + 1, hc => absurd hc (by simp only [En.n]; omega))⟩, Rf rfl, trivial⟩ rfl rfl, ?_⟩
  show a.length - (i.k + 1) < a.length - i.k
  omega
 have k1 := c1
 try simp only [cnd] at c1
 refine AW.exit ?_
 dsimp only [thenQ, blockQ, reduceIte]
 refine AW.seq (AW.region ?_)
 refine qq Qt.move ?_
 refine nm ?_
 refine qq Qt.assign ?_
 refine nl ?_
 refine AW.weak (L' := [.rt 7 .row (tr a), .sl 2 (.h 7 [])]) (Weak.sim ⟨⟨_, rfl, trMix_full (by omega) rfl (fun _ _ => rfl)⟩, rfl, trivial⟩ rfl rfl) ?_
 refine AW.ret (endQ_ret (.cons (.tmp 2) .nil) ?_)
 refine ⟨fun _ => 7, rfl, nodup_of rfl, ?_⟩
 intro r hr
 cases List.mem_singleton.1 hr
 exact ⟨by simp, rootL_mem rfl⟩
set_option maxHeartbeats 8000000 in
set_option maxRecDepth 10000 in
theorem toCpu_con (a : DCpu) (hw : Mk.wt a ≤ 1048576) : Con Tryz.prog 279 [.g [.v (iv a.Pc), .h base []]] [.rt base .ro (tr a.Regs)] (Ret (.g [.v (iv a.Pc), .h 0 []]) [(0, .row, tr a.Regs)]) := by
 refine Con.of_body Tryz.func279 rfl (by simp) ?_
 rw [Tryz.ntmps279]
 refine AW.seq (AW.region ?_)
 refine sp (Stp.boxB rfl (by decide) (by decide) rfl rfl rfl rfl) ?_
 refine nm ?_
 refine sp (Stp.alloc rfl (by decide) (by decide)) ?_
 refine nl ?_
 refine AW.seq (AW.region ?_)
 refine sp (Stp.alloc rfl (by decide) (by decide)) ?_
 refine nl ?_
 refine AW.seq (AW.region ?_)
 refine qq (fA fl203_0) ?_
 refine nm ?_
 refine qq (Qt.load1 rfl rfl rfl ag3) ?_
 refine qq (fA fl95_0) ?_
 refine ss ?_
 refine nl ?_
 refine AW.seq (AW.region ?_)
 refine qq (fA fl203_1) ?_
 refine nm ?_
 refine qq (Qt.load1 rfl rfl rfl ag27) ?_
 refine sp (Stp.callR rfl (by decide) Tryz.call55 rfl rfl (toIntS_con _ (by first | omega | (simp only [Int.toNat_natCast]; omega) | (simp only [Mk.wt] at *; omega))) (nodup_of rfl) rfl rfl) ?_
 refine nm ?_
 refine qq (fA fl95_1) ?_
 refine ss ?_
 refine nl ?_
 refine AW.seq (AW.region ?_)
 refine qq (Qt.loadG rfl rfl rfl ag95 sz95 (by decide)) ?_
 refine nm ?_
 refine ss ?_
 refine nl ?_
 refine AW.ret (endQ_ret (.cons (.cellG 2 95 rfl rfl rfl ag95 sz95 (by decide)) .nil) ?_)
 refine ⟨fun _ => 9, rfl, nodup_of rfl, ?_⟩
 intro r hr
 cases List.mem_singleton.1 hr
 exact ⟨by simp, rootL_mem rfl⟩
set_option maxHeartbeats 8000000 in
set_option maxRecDepth 10000 in
theorem toProc_con (a : DProc) (hw : Mk.wt a ≤ 1048576) : Con Tryz.prog 171 [.g [.v (iv a.Pid), .v (iv a.Parent), .v (iv a.State), .v (iv a.Prog), .v (iv a.Cpu.Pc), .h base [], .h (base + 1) [], .h (base + 2) [], .v (iv a.Until), .v (iv a.Code)]] [.rt base .ro (tr a.Cpu.Regs), .rt (base + 1) .ro (tr a.Mem), .rt (base + 2) .ro (tr a.Fds)] (Ret (.g [.v (iv a.Pid), .v (iv a.Parent), .v (iv a.State), .v (iv a.Prog), .v (iv a.Cpu.Pc), .h 0 [], .h 1 [], .h 2 [], .v (iv a.Until), .v (iv a.Code)]) [(0, .row, tr a.Cpu.Regs), (1, .row, tr a.Mem), (2, .row, tr a.Fds)]) := by
 refine Con.of_body Tryz.func171 rfl (by simp) ?_
 rw [Tryz.ntmps171]
 refine AW.seq (AW.region ?_)
 refine sp (Stp.boxB rfl (by decide) (by decide) rfl rfl rfl rfl) ?_
 refine nm ?_
 refine sp (Stp.alloc rfl (by decide) (by decide)) ?_
 refine nl ?_
 refine AW.seq (AW.region ?_)
 refine sp (Stp.alloc rfl (by decide) (by decide)) ?_
 refine nl ?_
 refine AW.seq (AW.region ?_)
 refine qq (fA fl205_0) ?_
 refine nm ?_
 refine qq (Qt.load1 rfl rfl rfl ag3) ?_
 refine qq (fA fl97_0) ?_
 refine ss ?_
 refine nl ?_
 refine AW.seq (AW.region ?_)
 refine qq (fA fl205_1) ?_
 refine nm ?_
 refine qq (Qt.load1 rfl rfl rfl ag3) ?_
 refine qq (fA fl97_1) ?_
 refine ss ?_
 refine nl ?_
 refine AW.seq (AW.region ?_)
 refine qq (fA fl205_2) ?_
 refine nm ?_
 refine qq (Qt.load1 rfl rfl rfl ag3) ?_
 refine qq (fA fl97_2) ?_
 refine ss ?_
 refine nl ?_
 refine AW.seq (AW.region ?_)
 refine qq (fA fl205_3) ?_
 refine nm ?_
 refine qq (Qt.load1 rfl rfl rfl ag3) ?_
 refine qq (fA fl97_3) ?_
 refine ss ?_
 refine nl ?_
 refine AW.seq (AW.region ?_)
 refine qq (fA fl205_4) ?_
 refine nm ?_
 refine qq (Qt.loadG rfl rfl rfl ag203 sz203 (by decide)) ?_
 refine sp (Stp.callR rfl (by decide) Tryz.call279 rfl rfl (toCpu_con _ (by first | omega | (simp only [Int.toNat_natCast]; omega) | (simp only [Mk.wt] at *; omega))) (nodup_of rfl) rfl rfl) ?_
 refine nm ?_
 refine qq (fA fl97_4) ?_
 refine ss ?_
 refine nl ?_
 refine AW.seq (AW.region ?_)
 refine qq (fA fl205_5) ?_
 refine nm ?_
 refine qq (Qt.load1 rfl rfl rfl ag27) ?_
 refine sp (Stp.callR rfl (by decide) Tryz.call55 rfl rfl (toIntS_con _ (by first | omega | (simp only [Int.toNat_natCast]; omega) | (simp only [Mk.wt] at *; omega))) (nodup_of rfl) rfl rfl) ?_
 refine nm ?_
 refine qq (fA fl97_5) ?_
 refine ss ?_
 refine nl ?_
 refine AW.seq (AW.region ?_)
 refine qq (fA fl205_6) ?_
 refine nm ?_
 refine qq (Qt.load1 rfl rfl rfl ag27) ?_
 refine sp (Stp.callR rfl (by decide) Tryz.call55 rfl rfl (toIntS_con _ (by first | omega | (simp only [Int.toNat_natCast]; omega) | (simp only [Mk.wt] at *; omega))) (nodup_of rfl) rfl rfl) ?_
 refine nm ?_
 refine qq (fA fl97_6) ?_
 refine ss ?_
 refine nl ?_
 refine AW.seq (AW.region ?_)
 refine qq (fA fl205_7) ?_
 refine nm ?_
 refine qq (Qt.load1 rfl rfl rfl ag3) ?_
 refine qq (fA fl97_7) ?_
 refine ss ?_
 refine nl ?_
 refine AW.seq (AW.region ?_)
 refine qq (fA fl205_8) ?_
 refine nm ?_
 refine qq (Qt.load1 rfl rfl rfl ag3) ?_
 refine qq (fA fl97_8) ?_
 refine ss ?_
 refine nl ?_
 refine AW.seq (AW.region ?_)
 refine qq (Qt.loadG rfl rfl rfl ag97 sz97 (by decide)) ?_
 refine nm ?_
 refine ss ?_
 refine nl ?_
 refine AW.ret (endQ_ret (.cons (.cellG 2 97 rfl rfl rfl ag97 sz97 (by decide)) .nil) ?_)
 refine ⟨fun i => if i = 0 then 18 else if i = 1 then 22 else 26, rfl, nodup_of rfl, ?_⟩
 intro r hr
 simp only [List.mem_cons, List.not_mem_nil, or_false] at hr
 rcases hr with rfl | rfl | rfl <;> exact ⟨by simp, rootL_mem rfl⟩
set_option maxHeartbeats 8000000 in
set_option maxRecDepth 10000 in
theorem toProcS_con (a : List DProc) (hw : Mk.wt a ≤ 1048576) : Con Tryz.prog 51 [.h base []] [.rt base .ro (tr a)] (Ret (.h 0 []) [(0, .row, tr a)]) := by
 refine Con.of_body Tryz.func51 rfl (by simp) ?_
 rw [Tryz.ntmps51]
 have hw2 : a.length + wtL Mk.wt a ≤ 1048576 := hw
 refine AW.seq (AW.region ?_)
 refine qq Qt.assign ?_
 refine nl ?_
 refine AW.seq (AW.region ?_)
 refine qq Qt.move ?_
 refine qq (Qt.lenH rfl rfl rfl sl23) ?_
 refine nm ?_
 refine sp (Stp.makeSlice rfl (by decide) (by decide) rfl rfl (by omega) (by omega) (by omega)) ?_
 refine nm ?_
 refine qq Qt.assign ?_
 refine nl ?_
 refine AW.seq (AW.seq (AW.region ?_))
 refine qq Qt.assign ?_
 refine nl ?_
 refine AW.block ?_
 refine AW.weak (L' := [.sl 4 (.v (iv (0 : Nat))), .sl 3 (.h 7 []), .sl 0 (.h base []), .rt 7 .row (trMix (0 : Nat) a.length (fun j => a.getD j En.dflt) fun _ => En.dflt), .rt base .ro (tr a)]) (Weak.sim ⟨rfl, rfl, rfl, ⟨_, rfl, (trMix_start rfl (fun c hc => match c, hc with | 0, _ => T.sim_refl _ | 1, _ => T.sim_refl _ | 2, _ => T.sim_refl _ | 3, _ => T.sim_refl _ | 4, _ => T.sim_refl _ | 5, _ => sim_nil | 6, _ => sim_nil | 7, _ => sim_nil | 8, _ => T.sim_refl _ | 9, _ => T.sim_refl _ | c + 10, hc => absurd hc (by simp only [En.n]; omega)))⟩, Rf rfl, trivial⟩ rfl rfl) ?_
 refine AW.loop (fun i : KInv a.length => [.sl 4 (.v (iv i.k)), .sl 3 (.h 7 []), .sl 0 (.h base []), .rt 7 .row (trMix i.k a.length (fun j => a.getD j En.dflt) fun _ => En.dflt), .rt base .ro (tr a)]) (fun i => a.length - i.k) ⟨0, Nat.zero_le _⟩ ?_
 intro i
 have hle := i.le
 refine AW.seq (AW.seq (AW.region ?_))
 refine qq Qt.move ?_
 refine nm ?_
 refine qq Qt.move ?_
 refine qq (Qt.lenH rfl rfl rfl sl23) ?_
 refine qq (Qt.binOp rfl rfl rfl) ?_
 refine nl ?_
 refine AW.cond rfl (fun c1 => ?_) (fun c1 => ?_)
 ·have k1 := c1
  try simp only [cnd] at c1
  have hwk := wtL_get (w := Mk.wt) (d := En.dflt) (l := a) (i := i.k) (by omega)
  refine jd (AW.seq (AW.block (AW.region ?_)))
  refine qq Qt.move ?_
  refine nm ?_
  refine qq Qt.move ?_
  refine qq Qt.move ?_
  refine qq Qt.move ?_
  refine nm ?_
  refine qq (Qt.indexAddr rfl rfl rfl rfl sl23 sz205 (by decide) (by omega)) ?_
  refine qq (Qt.loadG rfl rfl rfl ag205 sz205 (by decide)) ?_
  refine sp (Stp.callR rfl (by decide) Tryz.call171 rfl rfl (toProc_con _ (by first | omega | (simp only [Int.toNat_natCast]; omega) | (simp only [Mk.wt] at *; omega))) (nodup_of rfl) rfl rfl) ?_
  refine nm ?_
  refine qq (Qt.indexAddr rfl rfl rfl rfl sl33 sz97 (by decide) (by omega)) ?_
  refine ss ?_
  refine nl ?_
  refine AW.region ?_
  refine qq Qt.move ?_
  refine nm ?_
  refine qq (Qt.binOp rfl rfl (by first | exact pbAdd (by omega) | rfl)) ?_
  refine qq Qt.assign ?_
  refine nl ?_
  refine ⟨⟨i.k + 1, by omega⟩, Weak.sim ⟨st1, rfl, rfl, ⟨_, rfl, trMix_next (fun i c hi => by simp only [upd_app, hi, false_and, if_false]; rfl) (fun c hc => match c, hc with | 0, _ => (by simp only [upd_app, eq_self, and_true, and_false, Nat.reduceEqDiff, if_true, if_false]; exact T.sim_refl _) | 1, _ => (by simp only [upd_app, eq_self, and_true, and_false, Nat.reduceEqDiff, if_true, if_false]; exact T.sim_refl _) | 2, _ => (by simp only [upd_app, eq_self, and_true, and_false, Nat.reduceEqDiff, if_true, if_false]; exact T.sim_refl _) | 3, _ => (by simp only [upd_app, eq_self, and_true, and_false, Nat.reduceEqDiff, if_true, if_false]; exact T.sim_refl _) | 4, _ => (by simp only [upd_app, eq_self, and_true, and_false, Nat.reduceEqDiff, if_true, if_false]; exact T.sim_refl _) | 5, _ => (by simp only [upd_app, eq_self, and_true, and_false, Nat.reduceEqDiff, if_true, if_false]; exact T.sim_refl _) | 6, _ => (by simp only [upd_app, eq_self, and_true, and_false, Nat.reduceEqDiff, if_true, if_false]; exact T.sim_refl _) | 7, _ => (by simp only [upd_app, eq_self, and_true, and_false, Nat.reduceEqDiff, if_true, if_false]; exact T.sim_refl _) | 8, _ => (by simp only [upd_app, eq_self, and_true, and_false, Nat.reduceEqDiff, if_true, if_false]; exact T.sim_refl _) | 9, _ => (by simp only [upd_app, eq_self, and_true, and_false, Nat.reduceEqDiff, if_true, if_false]; exact T.sim_refl _) | c + 10, hc => absurd hc (by simp only [En.n]; omega))⟩, Rf rfl, trivial⟩ rfl rfl, ?_⟩
  show a.length - (i.k + 1) < a.length - i.k
  omega
 have k1 := c1
 try simp only [cnd] at c1
 refine AW.exit ?_
 dsimp only [thenQ, blockQ, reduceIte]
 refine AW.seq (AW.region ?_)
 refine qq Qt.move ?_
 refine nm ?_
 refine qq Qt.assign ?_
 refine nl ?_
 refine AW.weak (L' := [.rt 7 .row (tr a), .sl 2 (.h 7 [])]) (Weak.sim ⟨⟨_, rfl, trMix_full (by omega) rfl (fun _ _ => rfl)⟩, rfl, trivial⟩ rfl rfl) ?_
 refine AW.ret (endQ_ret (.cons (.tmp 2) .nil) ?_)
 refine ⟨fun _ => 7, rfl, nodup_of rfl, ?_⟩
 intro r hr
 cases List.mem_singleton.1 hr
 exact ⟨by simp, rootL_mem rfl⟩
set_option maxHeartbeats 8000000 in
set_option maxRecDepth 10000 in
theorem toOpen_con (a : DOpen) : Con Tryz.prog 172 [.g [.v (iv a.Id), .v (iv a.Kind), .v (iv a.Target), .v (iv a.Off), .v (iv a.Refs)]] [] (Ret (.g [.v (iv a.Id), .v (iv a.Kind), .v (iv a.Target), .v (iv a.Off), .v (iv a.Refs)]) []) := by
 refine Con.of_body Tryz.func172 rfl (by simp) ?_
 rw [Tryz.ntmps172]
 refine AW.seq (AW.region ?_)
 refine sp (Stp.boxB rfl (by decide) (by decide) rfl rfl rfl rfl) ?_
 refine nm ?_
 refine sp (Stp.alloc rfl (by decide) (by decide)) ?_
 refine nl ?_
 refine AW.seq (AW.region ?_)
 refine sp (Stp.alloc rfl (by decide) (by decide)) ?_
 refine nl ?_
 refine AW.seq (AW.region ?_)
 refine qq (fA fl217_0) ?_
 refine nm ?_
 refine qq (Qt.load1 rfl rfl rfl ag3) ?_
 refine qq (fA fl109_0) ?_
 refine ss ?_
 refine nl ?_
 refine AW.seq (AW.region ?_)
 refine qq (fA fl217_1) ?_
 refine nm ?_
 refine qq (Qt.load1 rfl rfl rfl ag3) ?_
 refine qq (fA fl109_1) ?_
 refine ss ?_
 refine nl ?_
 refine AW.seq (AW.region ?_)
 refine qq (fA fl217_2) ?_
 refine nm ?_
 refine qq (Qt.load1 rfl rfl rfl ag3) ?_
 refine qq (fA fl109_2) ?_
 refine ss ?_
 refine nl ?_
 refine AW.seq (AW.region ?_)
 refine qq (fA fl217_3) ?_
 refine nm ?_
 refine qq (Qt.load1 rfl rfl rfl ag3) ?_
 refine qq (fA fl109_3) ?_
 refine ss ?_
 refine nl ?_
 refine AW.seq (AW.region ?_)
 refine qq (fA fl217_4) ?_
 refine nm ?_
 refine qq (Qt.load1 rfl rfl rfl ag3) ?_
 refine qq (fA fl109_4) ?_
 refine ss ?_
 refine nl ?_
 refine AW.seq (AW.region ?_)
 refine qq (Qt.loadG rfl rfl rfl ag109 sz109 (by decide)) ?_
 refine nm ?_
 refine ss ?_
 refine nl ?_
 refine AW.ret (endQ_ret (.cons (.cellG 2 109 rfl rfl rfl ag109 sz109 (by decide)) .nil) ?_)
 refine ⟨fun _ => 0, rfl, nodup_of rfl, ?_⟩
 intro r hr
 cases hr
set_option maxHeartbeats 8000000 in
set_option maxRecDepth 10000 in
theorem toOpenS_con (a : List DOpen) (hw : Mk.wt a ≤ 1048576) : Con Tryz.prog 52 [.h base []] [.rt base .ro (tr a)] (Ret (.h 0 []) [(0, .row, tr a)]) := by
 refine Con.of_body Tryz.func52 rfl (by simp) ?_
 rw [Tryz.ntmps52]
 have hw2 : a.length + wtL Mk.wt a ≤ 1048576 := hw
 refine AW.seq (AW.region ?_)
 refine qq Qt.assign ?_
 refine nl ?_
 refine AW.seq (AW.region ?_)
 refine qq Qt.move ?_
 refine qq (Qt.lenH rfl rfl rfl sl24) ?_
 refine nm ?_
 refine sp (Stp.makeSlice rfl (by decide) (by decide) rfl rfl (by omega) (by omega) (by omega)) ?_
 refine nm ?_
 refine qq Qt.assign ?_
 refine nl ?_
 refine AW.seq (AW.seq (AW.region ?_))
 refine qq Qt.assign ?_
 refine nl ?_
 refine AW.block ?_
 refine AW.weak (L' := [.sl 4 (.v (iv (0 : Nat))), .sl 3 (.h 7 []), .sl 0 (.h base []), .rt 7 .row (trMix (0 : Nat) a.length (fun j => a.getD j En.dflt) fun _ => En.dflt), .rt base .ro (tr a)]) (Weak.sim ⟨rfl, rfl, rfl, ⟨_, rfl, (trMix_start rfl (fun c hc => match c, hc with | 0, _ => T.sim_refl _ | 1, _ => T.sim_refl _ | 2, _ => T.sim_refl _ | 3, _ => T.sim_refl _ | 4, _ => T.sim_refl _ | c + 5, hc => absurd hc (by simp only [En.n]; omega)))⟩, Rf rfl, trivial⟩ rfl rfl) ?_
 refine AW.loop (fun i : KInv a.length => [.sl 4 (.v (iv i.k)), .sl 3 (.h 7 []), .sl 0 (.h base []), .rt 7 .row (trMix i.k a.length (fun j => a.getD j En.dflt) fun _ => En.dflt), .rt base .ro (tr a)]) (fun i => a.length - i.k) ⟨0, Nat.zero_le _⟩ ?_
 intro i
 have hle := i.le
 refine AW.seq (AW.seq (AW.region ?_))
 refine qq Qt.move ?_
 refine nm ?_
 refine qq Qt.move ?_
 refine qq (Qt.lenH rfl rfl rfl sl24) ?_
 refine qq (Qt.binOp rfl rfl rfl) ?_
 refine nl ?_
 refine AW.cond rfl (fun c1 => ?_) (fun c1 => ?_)
 ·have k1 := c1
  try simp only [cnd] at c1
  have hwk := wtL_get (w := Mk.wt) (d := En.dflt) (l := a) (i := i.k) (by omega)
  refine jd (AW.seq (AW.block (AW.region ?_)))
  refine qq Qt.move ?_
  refine nm ?_
  refine qq Qt.move ?_
  refine qq Qt.move ?_
  refine qq Qt.move ?_
  refine nm ?_
  refine qq (Qt.indexAddr rfl rfl rfl rfl sl24 sz217 (by decide) (by omega)) ?_
  refine qq (Qt.loadG rfl rfl rfl ag217 sz217 (by decide)) ?_
  refine sp (Stp.callR rfl (by decide) Tryz.call172 rfl rfl (toOpen_con _) (nodup_of rfl) rfl rfl) ?_
  refine nm ?_
  refine qq (Qt.indexAddr rfl rfl rfl rfl sl34 sz109 (by decide) (by omega)) ?_
  refine ss ?_
  refine nl ?_
  refine AW.region ?_
  refine qq Qt.move ?_
  refine nm ?_
  refine qq (Qt.binOp rfl rfl (by first | exact pbAdd (by omega) | rfl)) ?_
  refine qq Qt.assign ?_
  refine nl ?_
  refine ⟨⟨i.k + 1, by omega⟩, Weak.sim ⟨st1, rfl, rfl, ⟨_, rfl, trMix_next (fun i c hi => by simp only [upd_app, hi, false_and, if_false]; rfl) (fun c hc => match c, hc with | 0, _ => (by simp only [upd_app, eq_self, and_true, and_false, Nat.reduceEqDiff, if_true, if_false]; exact T.sim_refl _) | 1, _ => (by simp only [upd_app, eq_self, and_true, and_false, Nat.reduceEqDiff, if_true, if_false]; exact T.sim_refl _) | 2, _ => (by simp only [upd_app, eq_self, and_true, and_false, Nat.reduceEqDiff, if_true, if_false]; exact T.sim_refl _) | 3, _ => (by simp only [upd_app, eq_self, and_true, and_false, Nat.reduceEqDiff, if_true, if_false]; exact T.sim_refl _) | 4, _ => (by simp only [upd_app, eq_self, and_true, and_false, Nat.reduceEqDiff, if_true, if_false]; exact T.sim_refl _) | c + 5, hc => absurd hc (by simp only [En.n]; omega))⟩, Rf rfl, trivial⟩ rfl rfl, ?_⟩
  show a.length - (i.k + 1) < a.length - i.k
  omega
 have k1 := c1
 try simp only [cnd] at c1
 refine AW.exit ?_
 dsimp only [thenQ, blockQ, reduceIte]
 refine AW.seq (AW.region ?_)
 refine qq Qt.move ?_
 refine nm ?_
 refine qq Qt.assign ?_
 refine nl ?_
 refine AW.weak (L' := [.rt 7 .row (tr a), .sl 2 (.h 7 [])]) (Weak.sim ⟨⟨_, rfl, trMix_full (by omega) rfl (fun _ _ => rfl)⟩, rfl, trivial⟩ rfl rfl) ?_
 refine AW.ret (endQ_ret (.cons (.tmp 2) .nil) ?_)
 refine ⟨fun _ => 7, rfl, nodup_of rfl, ?_⟩
 intro r hr
 cases List.mem_singleton.1 hr
 exact ⟨by simp, rootL_mem rfl⟩
set_option maxHeartbeats 8000000 in
set_option maxRecDepth 10000 in
theorem toPipe_con (a : DPipe) (hw : Mk.wt a ≤ 1048576) : Con Tryz.prog 173 [.g [.v (iv a.Id), .h base []]] [.rt base .ro (tr a.Data)] (Ret (.g [.v (iv a.Id), .h 0 []]) [(0, .row, tr a.Data)]) := by
 refine Con.of_body Tryz.func173 rfl (by simp) ?_
 rw [Tryz.ntmps173]
 refine AW.seq (AW.region ?_)
 refine sp (Stp.boxB rfl (by decide) (by decide) rfl rfl rfl rfl) ?_
 refine nm ?_
 refine sp (Stp.alloc rfl (by decide) (by decide)) ?_
 refine nl ?_
 refine AW.seq (AW.region ?_)
 refine sp (Stp.alloc rfl (by decide) (by decide)) ?_
 refine nl ?_
 refine AW.seq (AW.region ?_)
 refine qq (fA fl207_0) ?_
 refine nm ?_
 refine qq (Qt.load1 rfl rfl rfl ag3) ?_
 refine qq (fA fl128_0) ?_
 refine ss ?_
 refine nl ?_
 refine AW.seq (AW.region ?_)
 refine qq (fA fl207_1) ?_
 refine nm ?_
 refine qq (Qt.load1 rfl rfl rfl ag27) ?_
 refine sp (Stp.callR rfl (by decide) Tryz.call55 rfl rfl (toIntS_con _ (by first | omega | (simp only [Int.toNat_natCast]; omega) | (simp only [Mk.wt] at *; omega))) (nodup_of rfl) rfl rfl) ?_
 refine nm ?_
 refine qq (fA fl128_1) ?_
 refine ss ?_
 refine nl ?_
 refine AW.seq (AW.region ?_)
 refine qq (Qt.loadG rfl rfl rfl ag128 sz128 (by decide)) ?_
 refine nm ?_
 refine ss ?_
 refine nl ?_
 refine AW.ret (endQ_ret (.cons (.cellG 2 128 rfl rfl rfl ag128 sz128 (by decide)) .nil) ?_)
 refine ⟨fun _ => 9, rfl, nodup_of rfl, ?_⟩
 intro r hr
 cases List.mem_singleton.1 hr
 exact ⟨by simp, rootL_mem rfl⟩
set_option maxHeartbeats 8000000 in
set_option maxRecDepth 10000 in
theorem toPipeS_con (a : List DPipe) (hw : Mk.wt a ≤ 1048576) : Con Tryz.prog 53 [.h base []] [.rt base .ro (tr a)] (Ret (.h 0 []) [(0, .row, tr a)]) := by
 refine Con.of_body Tryz.func53 rfl (by simp) ?_
 rw [Tryz.ntmps53]
 have hw2 : a.length + wtL Mk.wt a ≤ 1048576 := hw
 refine AW.seq (AW.region ?_)
 refine qq Qt.assign ?_
 refine nl ?_
 refine AW.seq (AW.region ?_)
 refine qq Qt.move ?_
 refine qq (Qt.lenH rfl rfl rfl sl25) ?_
 refine nm ?_
 refine sp (Stp.makeSlice rfl (by decide) (by decide) rfl rfl (by omega) (by omega) (by omega)) ?_
 refine nm ?_
 refine qq Qt.assign ?_
 refine nl ?_
 refine AW.seq (AW.seq (AW.region ?_))
 refine qq Qt.assign ?_
 refine nl ?_
 refine AW.block ?_
 refine AW.weak (L' := [.sl 4 (.v (iv (0 : Nat))), .sl 3 (.h 7 []), .sl 0 (.h base []), .rt 7 .row (trMix (0 : Nat) a.length (fun j => a.getD j En.dflt) fun _ => En.dflt), .rt base .ro (tr a)]) (Weak.sim ⟨rfl, rfl, rfl, ⟨_, rfl, (trMix_start rfl (fun c hc => match c, hc with | 0, _ => T.sim_refl _ | 1, _ => sim_nil | c + 2, hc => absurd hc (by simp only [En.n]; omega)))⟩, Rf rfl, trivial⟩ rfl rfl) ?_
 refine AW.loop (fun i : KInv a.length => [.sl 4 (.v (iv i.k)), .sl 3 (.h 7 []), .sl 0 (.h base []), .rt 7 .row (trMix i.k a.length (fun j => a.getD j En.dflt) fun _ => En.dflt), .rt base .ro (tr a)]) (fun i => a.length - i.k) ⟨0, Nat.zero_le _⟩ ?_
 intro i
 have hle := i.le
 refine AW.seq (AW.seq (AW.region ?_))
 refine qq Qt.move ?_
 refine nm ?_
 refine qq Qt.move ?_
 refine qq (Qt.lenH rfl rfl rfl sl25) ?_
 refine qq (Qt.binOp rfl rfl rfl) ?_
 refine nl ?_
 refine AW.cond rfl (fun c1 => ?_) (fun c1 => ?_)
 ·have k1 := c1
  try simp only [cnd] at c1
  have hwk := wtL_get (w := Mk.wt) (d := En.dflt) (l := a) (i := i.k) (by omega)
  refine jd (AW.seq (AW.block (AW.region ?_)))
  refine qq Qt.move ?_
  refine nm ?_
  refine qq Qt.move ?_
  refine qq Qt.move ?_
  refine qq Qt.move ?_
  refine nm ?_
  refine qq (Qt.indexAddr rfl rfl rfl rfl sl25 sz207 (by decide) (by omega)) ?_
  refine qq (Qt.loadG rfl rfl rfl ag207 sz207 (by decide)) ?_
  refine sp (Stp.callR rfl (by decide) Tryz.call173 rfl rfl (toPipe_con _ (by first | omega | (simp only [Int.toNat_natCast]; omega) | (simp only [Mk.wt] at *; omega))) (nodup_of rfl) rfl rfl) ?_
  refine nm ?_
  refine qq (Qt.indexAddr rfl rfl rfl rfl sl35 sz128 (by decide) (by omega)) ?_
  refine ss ?_
  refine nl ?_
  refine AW.region ?_
  refine qq Qt.move ?_
  refine nm ?_
  refine qq (Qt.binOp rfl rfl (by first | exact pbAdd (by omega) | rfl)) ?_
  refine qq Qt.assign ?_
  refine nl ?_
  refine ⟨⟨i.k + 1, by omega⟩, Weak.sim ⟨st1, rfl, rfl, ⟨_, rfl, trMix_next (fun i c hi => by simp only [upd_app, hi, false_and, if_false]; rfl) (fun c hc => match c, hc with | 0, _ => (by simp only [upd_app, eq_self, and_true, and_false, Nat.reduceEqDiff, if_true, if_false]; exact T.sim_refl _) | 1, _ => (by simp only [upd_app, eq_self, and_true, and_false, Nat.reduceEqDiff, if_true, if_false]; exact T.sim_refl _) | c + 2, hc => absurd hc (by simp only [En.n]; omega))⟩, Rf rfl, trivial⟩ rfl rfl, ?_⟩
  show a.length - (i.k + 1) < a.length - i.k
  omega
 have k1 := c1
 try simp only [cnd] at c1
 refine AW.exit ?_
 dsimp only [thenQ, blockQ, reduceIte]
 refine AW.seq (AW.region ?_)
 refine qq Qt.move ?_
 refine nm ?_
 refine qq Qt.assign ?_
 refine nl ?_
 refine AW.weak (L' := [.rt 7 .row (tr a), .sl 2 (.h 7 [])]) (Weak.sim ⟨⟨_, rfl, trMix_full (by omega) rfl (fun _ _ => rfl)⟩, rfl, trivial⟩ rfl rfl) ?_
 refine AW.ret (endQ_ret (.cons (.tmp 2) .nil) ?_)
 refine ⟨fun _ => 7, rfl, nodup_of rfl, ?_⟩
 intro r hr
 cases List.mem_singleton.1 hr
 exact ⟨by simp, rootL_mem rfl⟩
set_option maxHeartbeats 8000000 in
set_option maxRecDepth 10000 in
theorem toFile_con (a : DFile) (hw : Mk.wt a ≤ 1048576) : Con Tryz.prog 174 [.g [.v (iv a.Name), .h base []]] [.rt base .ro (tr a.Data)] (Ret (.g [.v (iv a.Name), .h 0 []]) [(0, .row, tr a.Data)]) := by
 refine Con.of_body Tryz.func174 rfl (by simp) ?_
 rw [Tryz.ntmps174]
 refine AW.seq (AW.region ?_)
 refine sp (Stp.boxB rfl (by decide) (by decide) rfl rfl rfl rfl) ?_
 refine nm ?_
 refine sp (Stp.alloc rfl (by decide) (by decide)) ?_
 refine nl ?_
 refine AW.seq (AW.region ?_)
 refine sp (Stp.alloc rfl (by decide) (by decide)) ?_
 refine nl ?_
 refine AW.seq (AW.region ?_)
 refine qq (fA fl209_0) ?_
 refine nm ?_
 refine qq (Qt.load1 rfl rfl rfl ag3) ?_
 refine qq (fA fl130_0) ?_
 refine ss ?_
 refine nl ?_
 refine AW.seq (AW.region ?_)
 refine qq (fA fl209_1) ?_
 refine nm ?_
 refine qq (Qt.load1 rfl rfl rfl ag27) ?_
 refine sp (Stp.callR rfl (by decide) Tryz.call55 rfl rfl (toIntS_con _ (by first | omega | (simp only [Int.toNat_natCast]; omega) | (simp only [Mk.wt] at *; omega))) (nodup_of rfl) rfl rfl) ?_
 refine nm ?_
 refine qq (fA fl130_1) ?_
 refine ss ?_
 refine nl ?_
 refine AW.seq (AW.region ?_)
 refine qq (Qt.loadG rfl rfl rfl ag130 sz130 (by decide)) ?_
 refine nm ?_
 refine ss ?_
 refine nl ?_
 refine AW.ret (endQ_ret (.cons (.cellG 2 130 rfl rfl rfl ag130 sz130 (by decide)) .nil) ?_)
 refine ⟨fun _ => 9, rfl, nodup_of rfl, ?_⟩
 intro r hr
 cases List.mem_singleton.1 hr
 exact ⟨by simp, rootL_mem rfl⟩
set_option maxHeartbeats 8000000 in
set_option maxRecDepth 10000 in
theorem toFileS_con (a : List DFile) (hw : Mk.wt a ≤ 1048576) : Con Tryz.prog 54 [.h base []] [.rt base .ro (tr a)] (Ret (.h 0 []) [(0, .row, tr a)]) := by
 refine Con.of_body Tryz.func54 rfl (by simp) ?_
 rw [Tryz.ntmps54]
 have hw2 : a.length + wtL Mk.wt a ≤ 1048576 := hw
 refine AW.seq (AW.region ?_)
 refine qq Qt.assign ?_
 refine nl ?_
 refine AW.seq (AW.region ?_)
 refine qq Qt.move ?_
 refine qq (Qt.lenH rfl rfl rfl sl26) ?_
 refine nm ?_
 refine sp (Stp.makeSlice rfl (by decide) (by decide) rfl rfl (by omega) (by omega) (by omega)) ?_
 refine nm ?_
 refine qq Qt.assign ?_
 refine nl ?_
 refine AW.seq (AW.seq (AW.region ?_))
 refine qq Qt.assign ?_
 refine nl ?_
 refine AW.block ?_
 refine AW.weak (L' := [.sl 4 (.v (iv (0 : Nat))), .sl 3 (.h 7 []), .sl 0 (.h base []), .rt 7 .row (trMix (0 : Nat) a.length (fun j => a.getD j En.dflt) fun _ => En.dflt), .rt base .ro (tr a)]) (Weak.sim ⟨rfl, rfl, rfl, ⟨_, rfl, (trMix_start rfl (fun c hc => match c, hc with | 0, _ => T.sim_refl _ | 1, _ => sim_nil | c + 2, hc => absurd hc (by simp only [En.n]; omega)))⟩, Rf rfl, trivial⟩ rfl rfl) ?_
 refine AW.loop (fun i : KInv a.length => [.sl 4 (.v (iv i.k)), .sl 3 (.h 7 []), .sl 0 (.h base []), .rt 7 .row (trMix i.k a.length (fun j => a.getD j En.dflt) fun _ => En.dflt), .rt base .ro (tr a)]) (fun i => a.length - i.k) ⟨0, Nat.zero_le _⟩ ?_
 intro i
 have hle := i.le
 refine AW.seq (AW.seq (AW.region ?_))
 refine qq Qt.move ?_
 refine nm ?_
 refine qq Qt.move ?_
 refine qq (Qt.lenH rfl rfl rfl sl26) ?_
 refine qq (Qt.binOp rfl rfl rfl) ?_
 refine nl ?_
 refine AW.cond rfl (fun c1 => ?_) (fun c1 => ?_)
 ·have k1 := c1
  try simp only [cnd] at c1
  have hwk := wtL_get (w := Mk.wt) (d := En.dflt) (l := a) (i := i.k) (by omega)
  refine jd (AW.seq (AW.block (AW.region ?_)))
  refine qq Qt.move ?_
  refine nm ?_
  refine qq Qt.move ?_
  refine qq Qt.move ?_
  refine qq Qt.move ?_
  refine nm ?_
  refine qq (Qt.indexAddr rfl rfl rfl rfl sl26 sz209 (by decide) (by omega)) ?_
  refine qq (Qt.loadG rfl rfl rfl ag209 sz209 (by decide)) ?_
  refine sp (Stp.callR rfl (by decide) Tryz.call174 rfl rfl (toFile_con _ (by first | omega | (simp only [Int.toNat_natCast]; omega) | (simp only [Mk.wt] at *; omega))) (nodup_of rfl) rfl rfl) ?_
  refine nm ?_
  refine qq (Qt.indexAddr rfl rfl rfl rfl sl36 sz130 (by decide) (by omega)) ?_
  refine ss ?_
  refine nl ?_
  refine AW.region ?_
  refine qq Qt.move ?_
  refine nm ?_
  refine qq (Qt.binOp rfl rfl (by first | exact pbAdd (by omega) | rfl)) ?_
  refine qq Qt.assign ?_
  refine nl ?_
  refine ⟨⟨i.k + 1, by omega⟩, Weak.sim ⟨st1, rfl, rfl, ⟨_, rfl, trMix_next (fun i c hi => by simp only [upd_app, hi, false_and, if_false]; rfl) (fun c hc => match c, hc with | 0, _ => (by simp only [upd_app, eq_self, and_true, and_false, Nat.reduceEqDiff, if_true, if_false]; exact T.sim_refl _) | 1, _ => (by simp only [upd_app, eq_self, and_true, and_false, Nat.reduceEqDiff, if_true, if_false]; exact T.sim_refl _) | c + 2, hc => absurd hc (by simp only [En.n]; omega))⟩, Rf rfl, trivial⟩ rfl rfl, ?_⟩
  show a.length - (i.k + 1) < a.length - i.k
  omega
 have k1 := c1
 try simp only [cnd] at c1
 refine AW.exit ?_
 dsimp only [thenQ, blockQ, reduceIte]
 refine AW.seq (AW.region ?_)
 refine qq Qt.move ?_
 refine nm ?_
 refine qq Qt.assign ?_
 refine nl ?_
 refine AW.weak (L' := [.rt 7 .row (tr a), .sl 2 (.h 7 [])]) (Weak.sim ⟨⟨_, rfl, trMix_full (by omega) rfl (fun _ _ => rfl)⟩, rfl, trivial⟩ rfl rfl) ?_
 refine AW.ret (endQ_ret (.cons (.tmp 2) .nil) ?_)
 refine ⟨fun _ => 7, rfl, nodup_of rfl, ?_⟩
 intro r hr
 cases List.mem_singleton.1 hr
 exact ⟨by simp, rootL_mem rfl⟩
set_option maxHeartbeats 8000000 in
set_option maxRecDepth 10000 in
theorem toUnix_con (a : DUnix) (hw : Mk.wt a ≤ 1048576) : Con Tryz.prog 12 [.g [.v (iv a.Next), .v (iv a.Tick), .h base [], .h (base + 1) [], .h (base + 2) [], .h (base + 3) [], .h (base + 4) [], .h (base + 5) [], .h (base + 6) []]] [.rt base .ro (tr a.Progs), .rt (base + 1) .ro (tr a.Procs), .rt (base + 2) .ro (tr a.Opens), .rt (base + 3) .ro (tr a.Pipes), .rt (base + 4) .ro (tr a.Files), .rt (base + 5) .ro (tr a.Ready), .rt (base + 6) .ro (tr a.Out)] (Ret (.g [.v (iv a.Next), .v (iv a.Tick), .h 0 [], .h 1 [], .h 2 [], .h 3 [], .h 4 [], .h 5 [], .h 6 []]) [(0, .row, tr a.Progs), (1, .row, tr a.Procs), (2, .row, tr a.Opens), (3, .row, tr a.Pipes), (4, .row, tr a.Files), (5, .row, tr a.Ready), (6, .row, tr a.Out)]) := by
 refine Con.of_body Tryz.func12 rfl (by simp) ?_
 rw [Tryz.ntmps12]
 refine AW.seq (AW.region ?_)
 refine sp (Stp.boxB rfl (by decide) (by decide) rfl rfl rfl rfl) ?_
 refine nm ?_
 refine sp (Stp.alloc rfl (by decide) (by decide)) ?_
 refine nl ?_
 refine AW.seq (AW.region ?_)
 refine sp (Stp.alloc rfl (by decide) (by decide)) ?_
 refine nl ?_
 refine AW.seq (AW.region ?_)
 refine qq (fA fl29_0) ?_
 refine nm ?_
 refine qq (Qt.load1 rfl rfl rfl ag3) ?_
 refine qq (fA fl38_0) ?_
 refine ss ?_
 refine nl ?_
 refine AW.seq (AW.region ?_)
 refine qq (fA fl29_1) ?_
 refine nm ?_
 refine qq (Qt.load1 rfl rfl rfl ag3) ?_
 refine qq (fA fl38_1) ?_
 refine ss ?_
 refine nl ?_
 refine AW.seq (AW.region ?_)
 refine qq (fA fl29_2) ?_
 refine nm ?_
 refine qq (Qt.load1 rfl rfl rfl ag22) ?_
 refine sp (Stp.callR rfl (by decide) Tryz.call50 rfl rfl (toInsSS_con _ (by first | omega | (simp only [Int.toNat_natCast]; omega) | (simp only [Mk.wt] at *; omega))) (nodup_of rfl) rfl rfl) ?_
 refine nm ?_
 refine qq (fA fl38_2) ?_
 refine ss ?_
 refine nl ?_
 refine AW.seq (AW.region ?_)
 refine qq (fA fl29_3) ?_
 refine nm ?_
 refine qq (Qt.load1 rfl rfl rfl ag23) ?_
 refine sp (Stp.callR rfl (by decide) Tryz.call51 rfl rfl (toProcS_con _ (by first | omega | (simp only [Int.toNat_natCast]; omega) | (simp only [Mk.wt] at *; omega))) (nodup_of rfl) rfl rfl) ?_
 refine nm ?_
 refine qq (fA fl38_3) ?_
 refine ss ?_
 refine nl ?_
 refine AW.seq (AW.region ?_)
 refine qq (fA fl29_4) ?_
 refine nm ?_
 refine qq (Qt.load1 rfl rfl rfl ag24) ?_
 refine sp (Stp.callR rfl (by decide) Tryz.call52 rfl rfl (toOpenS_con _ (by first | omega | (simp only [Int.toNat_natCast]; omega) | (simp only [Mk.wt] at *; omega))) (nodup_of rfl) rfl rfl) ?_
 refine nm ?_
 refine qq (fA fl38_4) ?_
 refine ss ?_
 refine nl ?_
 refine AW.seq (AW.region ?_)
 refine qq (fA fl29_5) ?_
 refine nm ?_
 refine qq (Qt.load1 rfl rfl rfl ag25) ?_
 refine sp (Stp.callR rfl (by decide) Tryz.call53 rfl rfl (toPipeS_con _ (by first | omega | (simp only [Int.toNat_natCast]; omega) | (simp only [Mk.wt] at *; omega))) (nodup_of rfl) rfl rfl) ?_
 refine nm ?_
 refine qq (fA fl38_5) ?_
 refine ss ?_
 refine nl ?_
 refine AW.seq (AW.region ?_)
 refine qq (fA fl29_6) ?_
 refine nm ?_
 refine qq (Qt.load1 rfl rfl rfl ag26) ?_
 refine sp (Stp.callR rfl (by decide) Tryz.call54 rfl rfl (toFileS_con _ (by first | omega | (simp only [Int.toNat_natCast]; omega) | (simp only [Mk.wt] at *; omega))) (nodup_of rfl) rfl rfl) ?_
 refine nm ?_
 refine qq (fA fl38_6) ?_
 refine ss ?_
 refine nl ?_
 refine AW.seq (AW.region ?_)
 refine qq (fA fl29_7) ?_
 refine nm ?_
 refine qq (Qt.load1 rfl rfl rfl ag27) ?_
 refine sp (Stp.callR rfl (by decide) Tryz.call55 rfl rfl (toIntS_con _ (by first | omega | (simp only [Int.toNat_natCast]; omega) | (simp only [Mk.wt] at *; omega))) (nodup_of rfl) rfl rfl) ?_
 refine nm ?_
 refine qq (fA fl38_7) ?_
 refine ss ?_
 refine nl ?_
 refine AW.seq (AW.region ?_)
 refine qq (fA fl29_8) ?_
 refine nm ?_
 refine qq (Qt.load1 rfl rfl rfl ag27) ?_
 refine sp (Stp.callR rfl (by decide) Tryz.call55 rfl rfl (toIntS_con _ (by first | omega | (simp only [Int.toNat_natCast]; omega) | (simp only [Mk.wt] at *; omega))) (nodup_of rfl) rfl rfl) ?_
 refine nm ?_
 refine qq (fA fl38_8) ?_
 refine ss ?_
 refine nl ?_
 refine AW.seq (AW.region ?_)
 refine qq (Qt.loadG rfl rfl rfl ag38 sz38 (by decide)) ?_
 refine nm ?_
 refine ss ?_
 refine nl ?_
 refine AW.ret (endQ_ret (.cons (.cellG 2 38 rfl rfl rfl ag38 sz38 (by decide)) .nil) ?_)
 refine ⟨fun i => if i = 0 then 12 else if i = 1 then 16 else if i = 2 then 20 else if i = 3 then 24 else if i = 4 then 28 else if i = 5 then 32 else 36, rfl, nodup_of rfl, ?_⟩
 intro r hr
 simp only [List.mem_cons, List.not_mem_nil, or_false] at hr
 rcases hr with rfl | rfl | rfl | rfl | rfl | rfl | rfl <;> exact ⟨by simp, rootL_mem rfl⟩
set_option maxHeartbeats 8000000 in
set_option maxRecDepth 10000 in
theorem eqIns_con (a b : DIns) : Con Tryz.prog 292 [.g [.v (iv a.Op), .v (iv a.A), .v (iv a.B), .v (iv a.C)], .g [.v (iv b.Op), .v (iv b.A), .v (iv b.B), .v (iv b.C)]] [] (fun y _ => y = .v (.bool (decide (a = b)))) := by
 refine Con.of_body Tryz.func292 rfl (by simp) ?_
 rw [Tryz.ntmps292]
 refine AW.seq (AW.region ?_)
 refine sp (Stp.boxB rfl (by decide) (by decide) rfl rfl rfl rfl) ?_
 refine nm ?_
 refine sp (Stp.boxB rfl (by decide) (by decide) rfl rfl rfl rfl) ?_
 refine nm ?_
 refine qq Qt.assign ?_
 refine nl ?_
 refine AW.seq (AW.seq (AW.region ?_))
 refine qq (fA fl224_0) ?_
 refine qq (Qt.load1 rfl rfl rfl ag3) ?_
 refine nm ?_
 refine qq (fA fl224_0) ?_
 refine qq (Qt.load1 rfl rfl rfl ag3) ?_
 refine qq (Qt.binOp rfl rfl rfl) ?_
 refine nl ?_
 refine AW.cond rfl (fun c1 => ?_) (fun c1 => ?_)
 ·have k1 := c1
  try simp only [cnd] at c1
  refine AW.seq (AW.region ?_)
  refine qq Qt.assign ?_
  refine nl ?_
  refine AW.ret (endQ_ret (.cons (.tmp 4) .nil) ?_)
  simp only [retX, slotL, reduceIte, Nat.reduceEqDiff]
  cases a
  cases b
  simp_all
 have k1 := c1
 try simp only [cnd] at c1
 refine jd (AW.seq (AW.seq (AW.region ?_)))
 refine qq (fA fl224_1) ?_
 refine nm ?_
 refine qq (Qt.load1 rfl rfl rfl ag3) ?_
 refine qq (fA fl224_1) ?_
 refine qq (Qt.load1 rfl rfl rfl ag3) ?_
 refine nm ?_
 refine qq (Qt.binOp rfl rfl rfl) ?_
 refine nl ?_
 refine AW.cond rfl (fun c2 => ?_) (fun c2 => ?_)
 ·have k2 := c2
  try simp only [cnd] at c2
  refine AW.seq (AW.region ?_)
  refine qq Qt.assign ?_
  refine nl ?_
  refine AW.ret (endQ_ret (.cons (.tmp 4) .nil) ?_)
  simp only [retX, slotL, reduceIte, Nat.reduceEqDiff]
  cases a
  cases b
  simp_all
 have k2 := c2
 try simp only [cnd] at c2
 refine jd (AW.seq (AW.seq (AW.region ?_)))
 refine qq (fA fl224_2) ?_
 refine nm ?_
 refine qq (Qt.load1 rfl rfl rfl ag3) ?_
 refine qq (fA fl224_2) ?_
 refine qq (Qt.load1 rfl rfl rfl ag3) ?_
 refine nm ?_
 refine qq (Qt.binOp rfl rfl rfl) ?_
 refine nl ?_
 refine AW.cond rfl (fun c3 => ?_) (fun c3 => ?_)
 ·have k3 := c3
  try simp only [cnd] at c3
  refine AW.seq (AW.region ?_)
  refine qq Qt.assign ?_
  refine nl ?_
  refine AW.ret (endQ_ret (.cons (.tmp 4) .nil) ?_)
  simp only [retX, slotL, reduceIte, Nat.reduceEqDiff]
  cases a
  cases b
  simp_all
 have k3 := c3
 try simp only [cnd] at c3
 refine jd (AW.seq (AW.seq (AW.region ?_)))
 refine qq (fA fl224_3) ?_
 refine nm ?_
 refine qq (Qt.load1 rfl rfl rfl ag3) ?_
 refine qq (fA fl224_3) ?_
 refine qq (Qt.load1 rfl rfl rfl ag3) ?_
 refine nm ?_
 refine qq (Qt.binOp rfl rfl rfl) ?_
 refine nl ?_
 refine AW.cond rfl (fun c4 => ?_) (fun c4 => ?_)
 ·have k4 := c4
  try simp only [cnd] at c4
  refine AW.seq (AW.region ?_)
  refine qq Qt.assign ?_
  refine nl ?_
  refine AW.ret (endQ_ret (.cons (.tmp 4) .nil) ?_)
  simp only [retX, slotL, reduceIte, Nat.reduceEqDiff]
  cases a
  cases b
  simp_all
 have k4 := c4
 try simp only [cnd] at c4
 refine jd (AW.seq (AW.region ?_))
 refine qq Qt.assign ?_
 refine nl ?_
 refine AW.ret (endQ_ret (.cons (.tmp 4) .nil) ?_)
 simp only [retX, slotL, reduceIte, Nat.reduceEqDiff]
 cases a
 cases b
 simp_all
set_option maxHeartbeats 8000000 in
set_option maxRecDepth 10000 in
theorem eqInsS_con (a b : List DIns) : Con Tryz.prog 196 [.h base [], .h (base + 1) []] [.rt base .ro (tr a), .rt (base + 1) .ro (tr b)] (fun y _ => y = .v (.bool (decide (a = b)))) := by
 refine Con.of_body Tryz.func196 rfl (by simp) ?_
 rw [Tryz.ntmps196]
 refine AW.len base [] rfl (by simp [Okp]) rfl (fun hl => ?_)
 refine AW.len (base + 1) [] rfl (by simp [Okp]) rfl (fun hl2 => ?_)
 refine AW.seq (AW.region ?_)
 refine qq Qt.assign ?_
 refine nl ?_
 refine AW.seq (AW.seq (AW.region ?_))
 refine qq Qt.move ?_
 refine qq (Qt.lenH rfl rfl rfl sl106) ?_
 refine nm ?_
 refine qq Qt.move ?_
 refine qq (Qt.lenH rfl rfl rfl sl106) ?_
 refine qq (Qt.binOp rfl rfl rfl) ?_
 refine nl ?_
 refine AW.cond rfl (fun c1 => ?_) (fun c1 => ?_)
 ·have k1 := c1
  try simp only [cnd] at c1
  refine AW.seq (AW.region ?_)
  refine qq Qt.assign ?_
  refine nl ?_
  refine AW.ret (endQ_ret (.cons (.tmp 4) .nil) ?_)
  simp only [retX, slotL, reduceIte, Nat.reduceEqDiff]
  rw [decide_eq_false (show a ≠ b from ne_of_len (by omega))]
 have k1 := c1
 try simp only [cnd] at c1
 refine jd (AW.seq (AW.seq (AW.region ?_)))
 refine qq Qt.assign ?_
 refine nl ?_
 refine AW.block ?_
 refine AW.loopW (fun i : EqInv a b => [.sl 5 (.v (iv i.k)), .sl 0 (.h base []), .sl 1 (.h (base + 1) []), .rt base .ro (tr a), .rt (base + 1) .ro (tr b)]) (fun i => a.length - i.k) ⟨0, Nat.zero_le _, rfl⟩ (Weak.sim ⟨rfl, rfl, rfl, Rf rfl, Rf rfl, trivial⟩ rfl rfl) ?_
 intro i
 have hle := i.le
 refine AW.seq (AW.seq (AW.region ?_))
 refine qq Qt.move ?_
 refine nm ?_
 refine qq Qt.move ?_
 refine qq (Qt.lenH rfl rfl rfl sl106) ?_
 refine qq (Qt.binOp rfl rfl rfl) ?_
 refine nl ?_
 refine AW.cond rfl (fun c2 => ?_) (fun c2 => ?_)
 ·have k2 := c2
  try simp only [cnd] at c2
  refine jd (AW.seq (AW.block (AW.seq ?_)))
  refine AW.draw [0, 1, 2, 3, 4, 5, 6, 7, 9] rfl (by decide +kernel) ?_
  refine tk 0 rfl Qt.move ?_
  refine na ?_
  refine tk 1 rfl Qt.move ?_
  refine tk 2 rfl (Qt.indexAddr rfl rfl rfl rfl sl106 sz224 (by decide) (by omega)) ?_
  refine tk 3 rfl (Qt.loadG rfl rfl rfl ag224 sz224 (by decide)) ?_
  refine na ?_
  refine tk 4 rfl Qt.move ?_
  refine tk 5 rfl Qt.move ?_
  refine tk 6 rfl (Qt.indexAddr rfl rfl rfl rfl sl106 sz224 (by decide) (by omega)) ?_
  refine na ?_
  refine tk 7 rfl (Qt.loadG rfl rfl rfl ag224 sz224 (by decide)) ?_
  refine a1 8 [] [7, 3, 6, 2, 5, 4, 1, 0] rfl rfl (Stp.callV rfl (by decide) Tryz.call292 rfl rfl (eqIns_con _ _)) ?_
  refine na ?_
  refine na ?_
  refine tk 9 rfl (Qt.notB rfl) ?_
  refine nz ?_
  refine AW.cond rfl (fun c3 => ?_) (fun c3 => ?_)
  ·have k3 := c3
   try simp only [cnd] at c3
   refine AW.seq (AW.region ?_)
   refine qq Qt.assign ?_
   refine nl ?_
   refine AW.ret (endQ_ret (.cons (.tmp 4) .nil) ?_)
   simp only [retX, slotL, reduceIte, Nat.reduceEqDiff]
   rw [decide_eq_false (show a ≠ b from i.stop En.dflt (by simpa using c3))]
  have k3 := c3
  try simp only [cnd] at c3
  refine jd (AW.region ?_)
  refine qq Qt.move ?_
  refine nm ?_
  refine qq (Qt.binOp rfl rfl (by first | exact pbAdd (by omega) | rfl)) ?_
  refine qq Qt.assign ?_
  refine nl ?_
  refine ⟨⟨i.k + 1, by omega, i.next En.dflt (by omega) (by omega) (by simpa using c3)⟩, Weak.sim ⟨st1, rfl, rfl, Rf rfl, Rf rfl, trivial⟩ rfl rfl, ?_⟩
  show a.length - (i.k + 1) < a.length - i.k
  omega
 have k2 := c2
 try simp only [cnd] at c2
 refine AW.exit ?_
 dsimp only [thenQ, blockQ, reduceIte]
 refine AW.seq (AW.region ?_)
 refine qq Qt.assign ?_
 refine nl ?_
 refine AW.ret (endQ_ret (.cons (.tmp 4) .nil) ?_)
 simp only [retX, slotL, reduceIte, Nat.reduceEqDiff]
 rw [decide_eq_true (show a = b from i.full (by omega) (by omega))]
set_option maxHeartbeats 8000000 in
set_option maxRecDepth 10000 in
theorem eqInsSS_con (a b : List (List DIns)) : Con Tryz.prog 67 [.h base [], .h (base + 1) []] [.rt base .ro (tr a), .rt (base + 1) .ro (tr b)] (fun y _ => y = .v (.bool (decide (a = b)))) := by
 refine Con.of_body Tryz.func67 rfl (by simp) ?_
 rw [Tryz.ntmps67]
 refine AW.len base [] rfl (by simp [Okp]) rfl (fun hl => ?_)
 refine AW.len (base + 1) [] rfl (by simp [Okp]) rfl (fun hl2 => ?_)
 refine AW.seq (AW.region ?_)
 refine qq Qt.assign ?_
 refine nl ?_
 refine AW.seq (AW.seq (AW.region ?_))
 refine qq Qt.move ?_
 refine qq (Qt.lenH rfl rfl rfl sl32) ?_
 refine nm ?_
 refine qq Qt.move ?_
 refine qq (Qt.lenH rfl rfl rfl sl32) ?_
 refine qq (Qt.binOp rfl rfl rfl) ?_
 refine nl ?_
 refine AW.cond rfl (fun c1 => ?_) (fun c1 => ?_)
 ·have k1 := c1
  try simp only [cnd] at c1
  refine AW.seq (AW.region ?_)
  refine qq Qt.assign ?_
  refine nl ?_
  refine AW.ret (endQ_ret (.cons (.tmp 4) .nil) ?_)
  simp only [retX, slotL, reduceIte, Nat.reduceEqDiff]
  rw [decide_eq_false (show a ≠ b from ne_of_len (by omega))]
 have k1 := c1
 try simp only [cnd] at c1
 refine jd (AW.seq (AW.seq (AW.region ?_)))
 refine qq Qt.assign ?_
 refine nl ?_
 refine AW.block ?_
 refine AW.loopW (fun i : EqInv a b => [.sl 5 (.v (iv i.k)), .sl 0 (.h base []), .sl 1 (.h (base + 1) []), .rt base .ro (tr a), .rt (base + 1) .ro (tr b)]) (fun i => a.length - i.k) ⟨0, Nat.zero_le _, rfl⟩ (Weak.sim ⟨rfl, rfl, rfl, Rf rfl, Rf rfl, trivial⟩ rfl rfl) ?_
 intro i
 have hle := i.le
 refine AW.seq (AW.seq (AW.region ?_))
 refine qq Qt.move ?_
 refine nm ?_
 refine qq Qt.move ?_
 refine qq (Qt.lenH rfl rfl rfl sl32) ?_
 refine qq (Qt.binOp rfl rfl rfl) ?_
 refine nl ?_
 refine AW.cond rfl (fun c2 => ?_) (fun c2 => ?_)
 ·have k2 := c2
  try simp only [cnd] at c2
  refine jd (AW.seq (AW.block (AW.seq ?_)))
  refine AW.draw [0, 1, 2, 3, 4, 5, 6, 7, 9] rfl (by decide +kernel) ?_
  refine tk 0 rfl Qt.move ?_
  refine na ?_
  refine tk 1 rfl Qt.move ?_
  refine tk 2 rfl (Qt.indexAddr rfl rfl rfl rfl sl32 sz106 (by decide) (by omega)) ?_
  refine tk 3 rfl (Qt.load1 rfl rfl rfl ag106) ?_
  refine na ?_
  refine tk 4 rfl Qt.move ?_
  refine tk 5 rfl Qt.move ?_
  refine tk 6 rfl (Qt.indexAddr rfl rfl rfl rfl sl32 sz106 (by decide) (by omega)) ?_
  refine na ?_
  refine tk 7 rfl (Qt.load1 rfl rfl rfl ag106) ?_
  refine a1 8 [] [7, 3, 6, 2, 5, 4, 1, 0] rfl rfl (Stp.callV rfl (by decide) Tryz.call196 rfl rfl (eqInsS_con _ _)) ?_
  refine na ?_
  refine na ?_
  refine tk 9 rfl (Qt.notB rfl) ?_
  refine nz ?_
  refine AW.cond rfl (fun c3 => ?_) (fun c3 => ?_)
  ·have k3 := c3
   try simp only [cnd] at c3
   refine AW.seq (AW.region ?_)
   refine qq Qt.assign ?_
   refine nl ?_
   refine AW.ret (endQ_ret (.cons (.tmp 4) .nil) ?_)
   simp only [retX, slotL, reduceIte, Nat.reduceEqDiff]
   rw [decide_eq_false (show a ≠ b from i.stop En.dflt (by simpa using c3))]
  have k3 := c3
  try simp only [cnd] at c3
  refine jd (AW.region ?_)
  refine qq Qt.move ?_
  refine nm ?_
  refine qq (Qt.binOp rfl rfl (by first | exact pbAdd (by omega) | rfl)) ?_
  refine qq Qt.assign ?_
  refine nl ?_
  refine ⟨⟨i.k + 1, by omega, i.next En.dflt (by omega) (by omega) (by simpa using c3)⟩, Weak.sim ⟨st1, rfl, rfl, Rf rfl, Rf rfl, trivial⟩ rfl rfl, ?_⟩
  show a.length - (i.k + 1) < a.length - i.k
  omega
 have k2 := c2
 try simp only [cnd] at c2
 refine AW.exit ?_
 dsimp only [thenQ, blockQ, reduceIte]
 refine AW.seq (AW.region ?_)
 refine qq Qt.assign ?_
 refine nl ?_
 refine AW.ret (endQ_ret (.cons (.tmp 4) .nil) ?_)
 simp only [retX, slotL, reduceIte, Nat.reduceEqDiff]
 rw [decide_eq_true (show a = b from i.full (by omega) (by omega))]
set_option maxHeartbeats 8000000 in
set_option maxRecDepth 10000 in
theorem eqIntS_con (a b : List Int) : Con Tryz.prog 72 [.h base [], .h (base + 1) []] [.rt base .ro (tr a), .rt (base + 1) .ro (tr b)] (fun y _ => y = .v (.bool (decide (a = b)))) := by
 refine Con.of_body Tryz.func72 rfl (by simp) ?_
 rw [Tryz.ntmps72]
 refine AW.len base [] rfl (by simp [Okp]) rfl (fun hl => ?_)
 refine AW.len (base + 1) [] rfl (by simp [Okp]) rfl (fun hl2 => ?_)
 refine AW.seq (AW.region ?_)
 refine qq Qt.assign ?_
 refine nl ?_
 refine AW.seq (AW.seq (AW.region ?_))
 refine qq Qt.move ?_
 refine qq (Qt.lenH rfl rfl rfl sl27) ?_
 refine nm ?_
 refine qq Qt.move ?_
 refine qq (Qt.lenH rfl rfl rfl sl27) ?_
 refine qq (Qt.binOp rfl rfl rfl) ?_
 refine nl ?_
 refine AW.cond rfl (fun c1 => ?_) (fun c1 => ?_)
 ·have k1 := c1
  try simp only [cnd] at c1
  refine AW.seq (AW.region ?_)
  refine qq Qt.assign ?_
  refine nl ?_
  refine AW.ret (endQ_ret (.cons (.tmp 4) .nil) ?_)
  simp only [retX, slotL, reduceIte, Nat.reduceEqDiff]
  rw [decide_eq_false (show a ≠ b from ne_of_len (by omega))]
 have k1 := c1
 try simp only [cnd] at c1
 refine jd (AW.seq (AW.seq (AW.region ?_)))
 refine qq Qt.assign ?_
 refine nl ?_
 refine AW.block ?_
 refine AW.loopW (fun i : EqInv a b => [.sl 5 (.v (iv i.k)), .sl 0 (.h base []), .sl 1 (.h (base + 1) []), .rt base .ro (tr a), .rt (base + 1) .ro (tr b)]) (fun i => a.length - i.k) ⟨0, Nat.zero_le _, rfl⟩ (Weak.sim ⟨rfl, rfl, rfl, Rf rfl, Rf rfl, trivial⟩ rfl rfl) ?_
 intro i
 have hle := i.le
 refine AW.seq (AW.seq (AW.region ?_))
 refine qq Qt.move ?_
 refine nm ?_
 refine qq Qt.move ?_
 refine qq (Qt.lenH rfl rfl rfl sl27) ?_
 refine qq (Qt.binOp rfl rfl rfl) ?_
 refine nl ?_
 refine AW.cond rfl (fun c2 => ?_) (fun c2 => ?_)
 ·have k2 := c2
  try simp only [cnd] at c2
  refine jd (AW.seq (AW.block (AW.seq ?_)))
  refine AW.draw [0, 1, 2, 3, 4, 5, 6, 7, 8] rfl (by decide +kernel) ?_
  refine tk 0 rfl Qt.move ?_
  refine na ?_
  refine tk 1 rfl Qt.move ?_
  refine tk 2 rfl (Qt.indexAddr rfl rfl rfl rfl sl27 sz3 (by decide) (by omega)) ?_
  refine tk 3 rfl (Qt.load1 rfl rfl rfl ag3) ?_
  refine na ?_
  refine tk 4 rfl Qt.move ?_
  refine tk 5 rfl Qt.move ?_
  refine tk 6 rfl (Qt.indexAddr rfl rfl rfl rfl sl27 sz3 (by decide) (by omega)) ?_
  refine na ?_
  refine tk 7 rfl (Qt.load1 rfl rfl rfl ag3) ?_
  refine tk 8 rfl (Qt.binOp rfl rfl rfl) ?_
  refine nz ?_
  refine AW.cond rfl (fun c3 => ?_) (fun c3 => ?_)
  ·have k3 := c3
   try simp only [cnd] at c3
   refine AW.seq (AW.region ?_)
   refine qq Qt.assign ?_
   refine nl ?_
   refine AW.ret (endQ_ret (.cons (.tmp 4) .nil) ?_)
   simp only [retX, slotL, reduceIte, Nat.reduceEqDiff]
   rw [decide_eq_false (show a ≠ b from i.stop En.dflt (by simpa using c3))]
  have k3 := c3
  try simp only [cnd] at c3
  refine jd (AW.region ?_)
  refine qq Qt.move ?_
  refine nm ?_
  refine qq (Qt.binOp rfl rfl (by first | exact pbAdd (by omega) | rfl)) ?_
  refine qq Qt.assign ?_
  refine nl ?_
  refine ⟨⟨i.k + 1, by omega, i.next En.dflt (by omega) (by omega) (by simpa using c3)⟩, Weak.sim ⟨st1, rfl, rfl, Rf rfl, Rf rfl, trivial⟩ rfl rfl, ?_⟩
  show a.length - (i.k + 1) < a.length - i.k
  omega
 have k2 := c2
 try simp only [cnd] at c2
 refine AW.exit ?_
 dsimp only [thenQ, blockQ, reduceIte]
 refine AW.seq (AW.region ?_)
 refine qq Qt.assign ?_
 refine nl ?_
 refine AW.ret (endQ_ret (.cons (.tmp 4) .nil) ?_)
 simp only [retX, slotL, reduceIte, Nat.reduceEqDiff]
 rw [decide_eq_true (show a = b from i.full (by omega) (by omega))]
set_option maxHeartbeats 8000000 in
set_option maxRecDepth 10000 in
theorem eqCpu_con (a b : DCpu) : Con Tryz.prog 293 [.g [.v (iv a.Pc), .h base []], .g [.v (iv b.Pc), .h (base + 1) []]] [.rt base .ro (tr a.Regs), .rt (base + 1) .ro (tr b.Regs)] (fun y _ => y = .v (.bool (decide (a = b)))) := by
 refine Con.of_body Tryz.func293 rfl (by simp) ?_
 rw [Tryz.ntmps293]
 refine AW.seq (AW.region ?_)
 refine sp (Stp.boxB rfl (by decide) (by decide) rfl rfl rfl rfl) ?_
 refine nm ?_
 refine sp (Stp.boxB rfl (by decide) (by decide) rfl rfl rfl rfl) ?_
 refine nm ?_
 refine qq Qt.assign ?_
 refine nl ?_
 refine AW.seq (AW.seq (AW.region ?_))
 refine qq (fA fl95_0) ?_
 refine qq (Qt.load1 rfl rfl rfl ag3) ?_
 refine nm ?_
 refine qq (fA fl95_0) ?_
 refine qq (Qt.load1 rfl rfl rfl ag3) ?_
 refine qq (Qt.binOp rfl rfl rfl) ?_
 refine nl ?_
 refine AW.cond rfl (fun c1 => ?_) (fun c1 => ?_)
 ·have k1 := c1
  try simp only [cnd] at c1
  refine AW.seq (AW.region ?_)
  refine qq Qt.assign ?_
  refine nl ?_
  refine AW.ret (endQ_ret (.cons (.tmp 4) .nil) ?_)
  simp only [retX, slotL, reduceIte, Nat.reduceEqDiff]
  cases a
  cases b
  simp_all
 have k1 := c1
 try simp only [cnd] at c1
 refine jd (AW.seq (AW.seq (AW.region ?_)))
 refine qq (fA fl95_1) ?_
 refine nm ?_
 refine qq (Qt.load1 rfl rfl rfl ag27) ?_
 refine qq (fA fl95_1) ?_
 refine qq (Qt.load1 rfl rfl rfl ag27) ?_
 refine nm ?_
 refine cv Tryz.call72 rfl rfl (eqIntS_con _ _) ?_
 refine nm ?_
 refine qq (Qt.notB rfl) ?_
 refine nl ?_
 refine AW.cond rfl (fun c2 => ?_) (fun c2 => ?_)
 ·have k2 := c2
  try simp only [cnd] at c2
  refine AW.seq (AW.region ?_)
  refine qq Qt.assign ?_
  refine nl ?_
  refine AW.ret (endQ_ret (.cons (.tmp 4) .nil) ?_)
  simp only [retX, slotL, reduceIte, Nat.reduceEqDiff]
  cases a
  cases b
  simp_all
 have k2 := c2
 try simp only [cnd] at c2
 refine jd (AW.seq (AW.region ?_))
 refine qq Qt.assign ?_
 refine nl ?_
 refine AW.ret (endQ_ret (.cons (.tmp 4) .nil) ?_)
 simp only [retX, slotL, reduceIte, Nat.reduceEqDiff]
 cases a
 cases b
 simp_all
set_option maxHeartbeats 8000000 in
set_option maxRecDepth 10000 in
theorem eqProc_con (a b : DProc) : Con Tryz.prog 197 [.g [.v (iv a.Pid), .v (iv a.Parent), .v (iv a.State), .v (iv a.Prog), .v (iv a.Cpu.Pc), .h base [], .h (base + 1) [], .h (base + 2) [], .v (iv a.Until), .v (iv a.Code)], .g [.v (iv b.Pid), .v (iv b.Parent), .v (iv b.State), .v (iv b.Prog), .v (iv b.Cpu.Pc), .h (base + 3) [], .h (base + 4) [], .h (base + 5) [], .v (iv b.Until), .v (iv b.Code)]] [.rt base .ro (tr a.Cpu.Regs), .rt (base + 1) .ro (tr a.Mem), .rt (base + 2) .ro (tr a.Fds), .rt (base + 3) .ro (tr b.Cpu.Regs), .rt (base + 4) .ro (tr b.Mem), .rt (base + 5) .ro (tr b.Fds)] (fun y _ => y = .v (.bool (decide (a = b)))) := by
 refine Con.of_body Tryz.func197 rfl (by simp) ?_
 rw [Tryz.ntmps197]
 refine AW.seq (AW.region ?_)
 refine sp (Stp.boxB rfl (by decide) (by decide) rfl rfl rfl rfl) ?_
 refine nm ?_
 refine sp (Stp.boxB rfl (by decide) (by decide) rfl rfl rfl rfl) ?_
 refine nm ?_
 refine qq Qt.assign ?_
 refine nl ?_
 refine AW.seq (AW.seq (AW.region ?_))
 refine qq (fA fl97_0) ?_
 refine qq (Qt.load1 rfl rfl rfl ag3) ?_
 refine nm ?_
 refine qq (fA fl97_0) ?_
 refine qq (Qt.load1 rfl rfl rfl ag3) ?_
 refine qq (Qt.binOp rfl rfl rfl) ?_
 refine nl ?_
 refine AW.cond rfl (fun c1 => ?_) (fun c1 => ?_)
 ·have k1 := c1
  try simp only [cnd] at c1
  refine AW.seq (AW.region ?_)
  refine qq Qt.assign ?_
  refine nl ?_
  refine AW.ret (endQ_ret (.cons (.tmp 4) .nil) ?_)
  simp only [retX, slotL, reduceIte, Nat.reduceEqDiff]
  cases a
  cases b
  simp_all
 have k1 := c1
 try simp only [cnd] at c1
 refine jd (AW.seq (AW.seq (AW.region ?_)))
 refine qq (fA fl97_1) ?_
 refine nm ?_
 refine qq (Qt.load1 rfl rfl rfl ag3) ?_
 refine qq (fA fl97_1) ?_
 refine qq (Qt.load1 rfl rfl rfl ag3) ?_
 refine nm ?_
 refine qq (Qt.binOp rfl rfl rfl) ?_
 refine nl ?_
 refine AW.cond rfl (fun c2 => ?_) (fun c2 => ?_)
 ·have k2 := c2
  try simp only [cnd] at c2
  refine AW.seq (AW.region ?_)
  refine qq Qt.assign ?_
  refine nl ?_
  refine AW.ret (endQ_ret (.cons (.tmp 4) .nil) ?_)
  simp only [retX, slotL, reduceIte, Nat.reduceEqDiff]
  cases a
  cases b
  simp_all
 have k2 := c2
 try simp only [cnd] at c2
 refine jd (AW.seq (AW.seq (AW.region ?_)))
 refine qq (fA fl97_2) ?_
 refine nm ?_
 refine qq (Qt.load1 rfl rfl rfl ag3) ?_
 refine qq (fA fl97_2) ?_
 refine qq (Qt.load1 rfl rfl rfl ag3) ?_
 refine nm ?_
 refine qq (Qt.binOp rfl rfl rfl) ?_
 refine nl ?_
 refine AW.cond rfl (fun c3 => ?_) (fun c3 => ?_)
 ·have k3 := c3
  try simp only [cnd] at c3
  refine AW.seq (AW.region ?_)
  refine qq Qt.assign ?_
  refine nl ?_
  refine AW.ret (endQ_ret (.cons (.tmp 4) .nil) ?_)
  simp only [retX, slotL, reduceIte, Nat.reduceEqDiff]
  cases a
  cases b
  simp_all
 have k3 := c3
 try simp only [cnd] at c3
 refine jd (AW.seq (AW.seq (AW.region ?_)))
 refine qq (fA fl97_3) ?_
 refine nm ?_
 refine qq (Qt.load1 rfl rfl rfl ag3) ?_
 refine qq (fA fl97_3) ?_
 refine qq (Qt.load1 rfl rfl rfl ag3) ?_
 refine nm ?_
 refine qq (Qt.binOp rfl rfl rfl) ?_
 refine nl ?_
 refine AW.cond rfl (fun c4 => ?_) (fun c4 => ?_)
 ·have k4 := c4
  try simp only [cnd] at c4
  refine AW.seq (AW.region ?_)
  refine qq Qt.assign ?_
  refine nl ?_
  refine AW.ret (endQ_ret (.cons (.tmp 4) .nil) ?_)
  simp only [retX, slotL, reduceIte, Nat.reduceEqDiff]
  cases a
  cases b
  simp_all
 have k4 := c4
 try simp only [cnd] at c4
 refine jd (AW.seq (AW.seq (AW.region ?_)))
 refine qq (fA fl97_4) ?_
 refine nm ?_
 refine qq (Qt.loadG rfl rfl rfl ag95 sz95 (by decide)) ?_
 refine qq (fA fl97_4) ?_
 refine qq (Qt.loadG rfl rfl rfl ag95 sz95 (by decide)) ?_
 refine nm ?_
 refine cv Tryz.call293 rfl rfl (eqCpu_con _ _) ?_
 refine nm ?_
 refine qq (Qt.notB rfl) ?_
 refine nl ?_
 refine AW.cond rfl (fun c5 => ?_) (fun c5 => ?_)
 ·have k5 := c5
  try simp only [cnd] at c5
  refine AW.seq (AW.region ?_)
  refine qq Qt.assign ?_
  refine nl ?_
  refine AW.ret (endQ_ret (.cons (.tmp 4) .nil) ?_)
  simp only [retX, slotL, reduceIte, Nat.reduceEqDiff]
  cases a
  cases b
  simp_all
 have k5 := c5
 try simp only [cnd] at c5
 refine jd (AW.seq (AW.seq (AW.region ?_)))
 refine qq (fA fl97_5) ?_
 refine nm ?_
 refine qq (Qt.load1 rfl rfl rfl ag27) ?_
 refine qq (fA fl97_5) ?_
 refine qq (Qt.load1 rfl rfl rfl ag27) ?_
 refine nm ?_
 refine cv Tryz.call72 rfl rfl (eqIntS_con _ _) ?_
 refine nm ?_
 refine qq (Qt.notB rfl) ?_
 refine nl ?_
 refine AW.cond rfl (fun c6 => ?_) (fun c6 => ?_)
 ·have k6 := c6
  try simp only [cnd] at c6
  refine AW.seq (AW.region ?_)
  refine qq Qt.assign ?_
  refine nl ?_
  refine AW.ret (endQ_ret (.cons (.tmp 4) .nil) ?_)
  simp only [retX, slotL, reduceIte, Nat.reduceEqDiff]
  cases a
  cases b
  simp_all
 have k6 := c6
 try simp only [cnd] at c6
 refine jd (AW.seq (AW.seq (AW.region ?_)))
 refine qq (fA fl97_6) ?_
 refine nm ?_
 refine qq (Qt.load1 rfl rfl rfl ag27) ?_
 refine qq (fA fl97_6) ?_
 refine qq (Qt.load1 rfl rfl rfl ag27) ?_
 refine nm ?_
 refine cv Tryz.call72 rfl rfl (eqIntS_con _ _) ?_
 refine nm ?_
 refine qq (Qt.notB rfl) ?_
 refine nl ?_
 refine AW.cond rfl (fun c7 => ?_) (fun c7 => ?_)
 ·have k7 := c7
  try simp only [cnd] at c7
  refine AW.seq (AW.region ?_)
  refine qq Qt.assign ?_
  refine nl ?_
  refine AW.ret (endQ_ret (.cons (.tmp 4) .nil) ?_)
  simp only [retX, slotL, reduceIte, Nat.reduceEqDiff]
  cases a
  cases b
  simp_all
 have k7 := c7
 try simp only [cnd] at c7
 refine jd (AW.seq (AW.seq (AW.region ?_)))
 refine qq (fA fl97_7) ?_
 refine nm ?_
 refine qq (Qt.load1 rfl rfl rfl ag3) ?_
 refine qq (fA fl97_7) ?_
 refine qq (Qt.load1 rfl rfl rfl ag3) ?_
 refine nm ?_
 refine qq (Qt.binOp rfl rfl rfl) ?_
 refine nl ?_
 refine AW.cond rfl (fun c8 => ?_) (fun c8 => ?_)
 ·have k8 := c8
  try simp only [cnd] at c8
  refine AW.seq (AW.region ?_)
  refine qq Qt.assign ?_
  refine nl ?_
  refine AW.ret (endQ_ret (.cons (.tmp 4) .nil) ?_)
  simp only [retX, slotL, reduceIte, Nat.reduceEqDiff]
  cases a
  cases b
  simp_all
 have k8 := c8
 try simp only [cnd] at c8
 refine jd (AW.seq (AW.seq (AW.region ?_)))
 refine qq (fA fl97_8) ?_
 refine nm ?_
 refine qq (Qt.load1 rfl rfl rfl ag3) ?_
 refine qq (fA fl97_8) ?_
 refine qq (Qt.load1 rfl rfl rfl ag3) ?_
 refine nm ?_
 refine qq (Qt.binOp rfl rfl rfl) ?_
 refine nl ?_
 refine AW.cond rfl (fun c9 => ?_) (fun c9 => ?_)
 ·have k9 := c9
  try simp only [cnd] at c9
  refine AW.seq (AW.region ?_)
  refine qq Qt.assign ?_
  refine nl ?_
  refine AW.ret (endQ_ret (.cons (.tmp 4) .nil) ?_)
  simp only [retX, slotL, reduceIte, Nat.reduceEqDiff]
  cases a
  cases b
  simp_all
 have k9 := c9
 try simp only [cnd] at c9
 refine jd (AW.seq (AW.region ?_))
 refine qq Qt.assign ?_
 refine nl ?_
 refine AW.ret (endQ_ret (.cons (.tmp 4) .nil) ?_)
 simp only [retX, slotL, reduceIte, Nat.reduceEqDiff]
 cases a
 cases b
 simp_all
set_option maxHeartbeats 8000000 in
set_option maxRecDepth 10000 in
theorem eqProcS_con (a b : List DProc) : Con Tryz.prog 68 [.h base [], .h (base + 1) []] [.rt base .ro (tr a), .rt (base + 1) .ro (tr b)] (fun y _ => y = .v (.bool (decide (a = b)))) := by
 refine Con.of_body Tryz.func68 rfl (by simp) ?_
 rw [Tryz.ntmps68]
 refine AW.len base [] rfl (by simp [Okp]) rfl (fun hl => ?_)
 refine AW.len (base + 1) [] rfl (by simp [Okp]) rfl (fun hl2 => ?_)
 refine AW.seq (AW.region ?_)
 refine qq Qt.assign ?_
 refine nl ?_
 refine AW.seq (AW.seq (AW.region ?_))
 refine qq Qt.move ?_
 refine qq (Qt.lenH rfl rfl rfl sl33) ?_
 refine nm ?_
 refine qq Qt.move ?_
 refine qq (Qt.lenH rfl rfl rfl sl33) ?_
 refine qq (Qt.binOp rfl rfl rfl) ?_
 refine nl ?_
 refine AW.cond rfl (fun c1 => ?_) (fun c1 => ?_)
 ·have k1 := c1
  try simp only [cnd] at c1
  refine AW.seq (AW.region ?_)
  refine qq Qt.assign ?_
  refine nl ?_
  refine AW.ret (endQ_ret (.cons (.tmp 4) .nil) ?_)
  simp only [retX, slotL, reduceIte, Nat.reduceEqDiff]
  rw [decide_eq_false (show a ≠ b from ne_of_len (by omega))]
 have k1 := c1
 try simp only [cnd] at c1
 refine jd (AW.seq (AW.seq (AW.region ?_)))
 refine qq Qt.assign ?_
 refine nl ?_
 refine AW.block ?_
 refine AW.loopW (fun i : EqInv a b => [.sl 5 (.v (iv i.k)), .sl 0 (.h base []), .sl 1 (.h (base + 1) []), .rt base .ro (tr a), .rt (base + 1) .ro (tr b)]) (fun i => a.length - i.k) ⟨0, Nat.zero_le _, rfl⟩ (Weak.sim ⟨rfl, rfl, rfl, Rf rfl, Rf rfl, trivial⟩ rfl rfl) ?_
 intro i
 have hle := i.le
 refine AW.seq (AW.seq (AW.region ?_))
 refine qq Qt.move ?_
 refine nm ?_
 refine qq Qt.move ?_
 refine qq (Qt.lenH rfl rfl rfl sl33) ?_
 refine qq (Qt.binOp rfl rfl rfl) ?_
 refine nl ?_
 refine AW.cond rfl (fun c2 => ?_) (fun c2 => ?_)
 ·have k2 := c2
  try simp only [cnd] at c2
  refine jd (AW.seq (AW.block (AW.seq ?_)))
  refine AW.draw [0, 1, 2, 3, 4, 5, 6, 7, 9] rfl (by decide +kernel) ?_
  refine tk 0 rfl Qt.move ?_
  refine na ?_
  refine tk 1 rfl Qt.move ?_
  refine tk 2 rfl (Qt.indexAddr rfl rfl rfl rfl sl33 sz97 (by decide) (by omega)) ?_
  refine tk 3 rfl (Qt.loadG rfl rfl rfl ag97 sz97 (by decide)) ?_
  refine na ?_
  refine tk 4 rfl Qt.move ?_
  refine tk 5 rfl Qt.move ?_
  refine tk 6 rfl (Qt.indexAddr rfl rfl rfl rfl sl33 sz97 (by decide) (by omega)) ?_
  refine na ?_
  refine tk 7 rfl (Qt.loadG rfl rfl rfl ag97 sz97 (by decide)) ?_
  refine a1 8 [] [7, 3, 6, 2, 5, 4, 1, 0] rfl rfl (Stp.callV rfl (by decide) Tryz.call197 rfl rfl (eqProc_con _ _)) ?_
  refine na ?_
  refine na ?_
  refine tk 9 rfl (Qt.notB rfl) ?_
  refine nz ?_
  refine AW.cond rfl (fun c3 => ?_) (fun c3 => ?_)
  ·have k3 := c3
   try simp only [cnd] at c3
   refine AW.seq (AW.region ?_)
   refine qq Qt.assign ?_
   refine nl ?_
   refine AW.ret (endQ_ret (.cons (.tmp 4) .nil) ?_)
   simp only [retX, slotL, reduceIte, Nat.reduceEqDiff]
   rw [decide_eq_false (show a ≠ b from i.stop En.dflt (by simpa using c3))]
  have k3 := c3
  try simp only [cnd] at c3
  refine jd (AW.region ?_)
  refine qq Qt.move ?_
  refine nm ?_
  refine qq (Qt.binOp rfl rfl (by first | exact pbAdd (by omega) | rfl)) ?_
  refine qq Qt.assign ?_
  refine nl ?_
  refine ⟨⟨i.k + 1, by omega, i.next En.dflt (by omega) (by omega) (by simpa using c3)⟩, Weak.sim ⟨st1, rfl, rfl, Rf rfl, Rf rfl, trivial⟩ rfl rfl, ?_⟩
  show a.length - (i.k + 1) < a.length - i.k
  omega
 have k2 := c2
 try simp only [cnd] at c2
 refine AW.exit ?_
 dsimp only [thenQ, blockQ, reduceIte]
 refine AW.seq (AW.region ?_)
 refine qq Qt.assign ?_
 refine nl ?_
 refine AW.ret (endQ_ret (.cons (.tmp 4) .nil) ?_)
 simp only [retX, slotL, reduceIte, Nat.reduceEqDiff]
 rw [decide_eq_true (show a = b from i.full (by omega) (by omega))]
set_option maxHeartbeats 8000000 in
set_option maxRecDepth 10000 in
theorem eqOpen_con (a b : DOpen) : Con Tryz.prog 198 [.g [.v (iv a.Id), .v (iv a.Kind), .v (iv a.Target), .v (iv a.Off), .v (iv a.Refs)], .g [.v (iv b.Id), .v (iv b.Kind), .v (iv b.Target), .v (iv b.Off), .v (iv b.Refs)]] [] (fun y _ => y = .v (.bool (decide (a = b)))) := by
 refine Con.of_body Tryz.func198 rfl (by simp) ?_
 rw [Tryz.ntmps198]
 refine AW.seq (AW.region ?_)
 refine sp (Stp.boxB rfl (by decide) (by decide) rfl rfl rfl rfl) ?_
 refine nm ?_
 refine sp (Stp.boxB rfl (by decide) (by decide) rfl rfl rfl rfl) ?_
 refine nm ?_
 refine qq Qt.assign ?_
 refine nl ?_
 refine AW.seq (AW.seq (AW.region ?_))
 refine qq (fA fl109_0) ?_
 refine qq (Qt.load1 rfl rfl rfl ag3) ?_
 refine nm ?_
 refine qq (fA fl109_0) ?_
 refine qq (Qt.load1 rfl rfl rfl ag3) ?_
 refine qq (Qt.binOp rfl rfl rfl) ?_
 refine nl ?_
 refine AW.cond rfl (fun c1 => ?_) (fun c1 => ?_)
 ·have k1 := c1
  try simp only [cnd] at c1
  refine AW.seq (AW.region ?_)
  refine qq Qt.assign ?_
  refine nl ?_
  refine AW.ret (endQ_ret (.cons (.tmp 4) .nil) ?_)
  simp only [retX, slotL, reduceIte, Nat.reduceEqDiff]
  cases a
  cases b
  simp_all
 have k1 := c1
 try simp only [cnd] at c1
 refine jd (AW.seq (AW.seq (AW.region ?_)))
 refine qq (fA fl109_1) ?_
 refine nm ?_
 refine qq (Qt.load1 rfl rfl rfl ag3) ?_
 refine qq (fA fl109_1) ?_
 refine qq (Qt.load1 rfl rfl rfl ag3) ?_
 refine nm ?_
 refine qq (Qt.binOp rfl rfl rfl) ?_
 refine nl ?_
 refine AW.cond rfl (fun c2 => ?_) (fun c2 => ?_)
 ·have k2 := c2
  try simp only [cnd] at c2
  refine AW.seq (AW.region ?_)
  refine qq Qt.assign ?_
  refine nl ?_
  refine AW.ret (endQ_ret (.cons (.tmp 4) .nil) ?_)
  simp only [retX, slotL, reduceIte, Nat.reduceEqDiff]
  cases a
  cases b
  simp_all
 have k2 := c2
 try simp only [cnd] at c2
 refine jd (AW.seq (AW.seq (AW.region ?_)))
 refine qq (fA fl109_2) ?_
 refine nm ?_
 refine qq (Qt.load1 rfl rfl rfl ag3) ?_
 refine qq (fA fl109_2) ?_
 refine qq (Qt.load1 rfl rfl rfl ag3) ?_
 refine nm ?_
 refine qq (Qt.binOp rfl rfl rfl) ?_
 refine nl ?_
 refine AW.cond rfl (fun c3 => ?_) (fun c3 => ?_)
 ·have k3 := c3
  try simp only [cnd] at c3
  refine AW.seq (AW.region ?_)
  refine qq Qt.assign ?_
  refine nl ?_
  refine AW.ret (endQ_ret (.cons (.tmp 4) .nil) ?_)
  simp only [retX, slotL, reduceIte, Nat.reduceEqDiff]
  cases a
  cases b
  simp_all
 have k3 := c3
 try simp only [cnd] at c3
 refine jd (AW.seq (AW.seq (AW.region ?_)))
 refine qq (fA fl109_3) ?_
 refine nm ?_
 refine qq (Qt.load1 rfl rfl rfl ag3) ?_
 refine qq (fA fl109_3) ?_
 refine qq (Qt.load1 rfl rfl rfl ag3) ?_
 refine nm ?_
 refine qq (Qt.binOp rfl rfl rfl) ?_
 refine nl ?_
 refine AW.cond rfl (fun c4 => ?_) (fun c4 => ?_)
 ·have k4 := c4
  try simp only [cnd] at c4
  refine AW.seq (AW.region ?_)
  refine qq Qt.assign ?_
  refine nl ?_
  refine AW.ret (endQ_ret (.cons (.tmp 4) .nil) ?_)
  simp only [retX, slotL, reduceIte, Nat.reduceEqDiff]
  cases a
  cases b
  simp_all
 have k4 := c4
 try simp only [cnd] at c4
 refine jd (AW.seq (AW.seq (AW.region ?_)))
 refine qq (fA fl109_4) ?_
 refine nm ?_
 refine qq (Qt.load1 rfl rfl rfl ag3) ?_
 refine qq (fA fl109_4) ?_
 refine qq (Qt.load1 rfl rfl rfl ag3) ?_
 refine nm ?_
 refine qq (Qt.binOp rfl rfl rfl) ?_
 refine nl ?_
 refine AW.cond rfl (fun c5 => ?_) (fun c5 => ?_)
 ·have k5 := c5
  try simp only [cnd] at c5
  refine AW.seq (AW.region ?_)
  refine qq Qt.assign ?_
  refine nl ?_
  refine AW.ret (endQ_ret (.cons (.tmp 4) .nil) ?_)
  simp only [retX, slotL, reduceIte, Nat.reduceEqDiff]
  cases a
  cases b
  simp_all
 have k5 := c5
 try simp only [cnd] at c5
 refine jd (AW.seq (AW.region ?_))
 refine qq Qt.assign ?_
 refine nl ?_
 refine AW.ret (endQ_ret (.cons (.tmp 4) .nil) ?_)
 simp only [retX, slotL, reduceIte, Nat.reduceEqDiff]
 cases a
 cases b
 simp_all
set_option maxHeartbeats 8000000 in
set_option maxRecDepth 10000 in
theorem eqOpenS_con (a b : List DOpen) : Con Tryz.prog 69 [.h base [], .h (base + 1) []] [.rt base .ro (tr a), .rt (base + 1) .ro (tr b)] (fun y _ => y = .v (.bool (decide (a = b)))) := by
 refine Con.of_body Tryz.func69 rfl (by simp) ?_
 rw [Tryz.ntmps69]
 refine AW.len base [] rfl (by simp [Okp]) rfl (fun hl => ?_)
 refine AW.len (base + 1) [] rfl (by simp [Okp]) rfl (fun hl2 => ?_)
 refine AW.seq (AW.region ?_)
 refine qq Qt.assign ?_
 refine nl ?_
 refine AW.seq (AW.seq (AW.region ?_))
 refine qq Qt.move ?_
 refine qq (Qt.lenH rfl rfl rfl sl34) ?_
 refine nm ?_
 refine qq Qt.move ?_
 refine qq (Qt.lenH rfl rfl rfl sl34) ?_
 refine qq (Qt.binOp rfl rfl rfl) ?_
 refine nl ?_
 refine AW.cond rfl (fun c1 => ?_) (fun c1 => ?_)
 ·have k1 := c1
  try simp only [cnd] at c1
  refine AW.seq (AW.region ?_)
  refine qq Qt.assign ?_
  refine nl ?_
  refine AW.ret (endQ_ret (.cons (.tmp 4) .nil) ?_)
  simp only [retX, slotL, reduceIte, Nat.reduceEqDiff]
  rw [decide_eq_false (show a ≠ b from ne_of_len (by omega))]
 have k1 := c1
 try simp only [cnd] at c1
 refine jd (AW.seq (AW.seq (AW.region ?_)))
 refine qq Qt.assign ?_
 refine nl ?_
 refine AW.block ?_
 refine AW.loopW (fun i : EqInv a b => [.sl 5 (.v (iv i.k)), .sl 0 (.h base []), .sl 1 (.h (base + 1) []), .rt base .ro (tr a), .rt (base + 1) .ro (tr b)]) (fun i => a.length - i.k) ⟨0, Nat.zero_le _, rfl⟩ (Weak.sim ⟨rfl, rfl, rfl, Rf rfl, Rf rfl, trivial⟩ rfl rfl) ?_
 intro i
 have hle := i.le
 refine AW.seq (AW.seq (AW.region ?_))
 refine qq Qt.move ?_
 refine nm ?_
 refine qq Qt.move ?_
 refine qq (Qt.lenH rfl rfl rfl sl34) ?_
 refine qq (Qt.binOp rfl rfl rfl) ?_
 refine nl ?_
 refine AW.cond rfl (fun c2 => ?_) (fun c2 => ?_)
 ·have k2 := c2
  try simp only [cnd] at c2
  refine jd (AW.seq (AW.block (AW.seq ?_)))
  refine AW.draw [0, 1, 2, 3, 4, 5, 6, 7, 9] rfl (by decide +kernel) ?_
  refine tk 0 rfl Qt.move ?_
  refine na ?_
  refine tk 1 rfl Qt.move ?_
  refine tk 2 rfl (Qt.indexAddr rfl rfl rfl rfl sl34 sz109 (by decide) (by omega)) ?_
  refine tk 3 rfl (Qt.loadG rfl rfl rfl ag109 sz109 (by decide)) ?_
  refine na ?_
  refine tk 4 rfl Qt.move ?_
  refine tk 5 rfl Qt.move ?_
  refine tk 6 rfl (Qt.indexAddr rfl rfl rfl rfl sl34 sz109 (by decide) (by omega)) ?_
  refine na ?_
  refine tk 7 rfl (Qt.loadG rfl rfl rfl ag109 sz109 (by decide)) ?_
  refine a1 8 [] [7, 3, 6, 2, 5, 4, 1, 0] rfl rfl (Stp.callV rfl (by decide) Tryz.call198 rfl rfl (eqOpen_con _ _)) ?_
  refine na ?_
  refine na ?_
  refine tk 9 rfl (Qt.notB rfl) ?_
  refine nz ?_
  refine AW.cond rfl (fun c3 => ?_) (fun c3 => ?_)
  ·have k3 := c3
   try simp only [cnd] at c3
   refine AW.seq (AW.region ?_)
   refine qq Qt.assign ?_
   refine nl ?_
   refine AW.ret (endQ_ret (.cons (.tmp 4) .nil) ?_)
   simp only [retX, slotL, reduceIte, Nat.reduceEqDiff]
   rw [decide_eq_false (show a ≠ b from i.stop En.dflt (by simpa using c3))]
  have k3 := c3
  try simp only [cnd] at c3
  refine jd (AW.region ?_)
  refine qq Qt.move ?_
  refine nm ?_
  refine qq (Qt.binOp rfl rfl (by first | exact pbAdd (by omega) | rfl)) ?_
  refine qq Qt.assign ?_
  refine nl ?_
  refine ⟨⟨i.k + 1, by omega, i.next En.dflt (by omega) (by omega) (by simpa using c3)⟩, Weak.sim ⟨st1, rfl, rfl, Rf rfl, Rf rfl, trivial⟩ rfl rfl, ?_⟩
  show a.length - (i.k + 1) < a.length - i.k
  omega
 have k2 := c2
 try simp only [cnd] at c2
 refine AW.exit ?_
 dsimp only [thenQ, blockQ, reduceIte]
 refine AW.seq (AW.region ?_)
 refine qq Qt.assign ?_
 refine nl ?_
 refine AW.ret (endQ_ret (.cons (.tmp 4) .nil) ?_)
 simp only [retX, slotL, reduceIte, Nat.reduceEqDiff]
 rw [decide_eq_true (show a = b from i.full (by omega) (by omega))]
set_option maxHeartbeats 8000000 in
set_option maxRecDepth 10000 in
theorem eqPipe_con (a b : DPipe) : Con Tryz.prog 199 [.g [.v (iv a.Id), .h base []], .g [.v (iv b.Id), .h (base + 1) []]] [.rt base .ro (tr a.Data), .rt (base + 1) .ro (tr b.Data)] (fun y _ => y = .v (.bool (decide (a = b)))) := by
 refine Con.of_body Tryz.func199 rfl (by simp) ?_
 rw [Tryz.ntmps199]
 refine AW.seq (AW.region ?_)
 refine sp (Stp.boxB rfl (by decide) (by decide) rfl rfl rfl rfl) ?_
 refine nm ?_
 refine sp (Stp.boxB rfl (by decide) (by decide) rfl rfl rfl rfl) ?_
 refine nm ?_
 refine qq Qt.assign ?_
 refine nl ?_
 refine AW.seq (AW.seq (AW.region ?_))
 refine qq (fA fl128_0) ?_
 refine qq (Qt.load1 rfl rfl rfl ag3) ?_
 refine nm ?_
 refine qq (fA fl128_0) ?_
 refine qq (Qt.load1 rfl rfl rfl ag3) ?_
 refine qq (Qt.binOp rfl rfl rfl) ?_
 refine nl ?_
 refine AW.cond rfl (fun c1 => ?_) (fun c1 => ?_)
 ·have k1 := c1
  try simp only [cnd] at c1
  refine AW.seq (AW.region ?_)
  refine qq Qt.assign ?_
  refine nl ?_
  refine AW.ret (endQ_ret (.cons (.tmp 4) .nil) ?_)
  simp only [retX, slotL, reduceIte, Nat.reduceEqDiff]
  cases a
  cases b
  simp_all
 have k1 := c1
 try simp only [cnd] at c1
 refine jd (AW.seq (AW.seq (AW.region ?_)))
 refine qq (fA fl128_1) ?_
 refine nm ?_
 refine qq (Qt.load1 rfl rfl rfl ag27) ?_
 refine qq (fA fl128_1) ?_
 refine qq (Qt.load1 rfl rfl rfl ag27) ?_
 refine nm ?_
 refine cv Tryz.call72 rfl rfl (eqIntS_con _ _) ?_
 refine nm ?_
 refine qq (Qt.notB rfl) ?_
 refine nl ?_
 refine AW.cond rfl (fun c2 => ?_) (fun c2 => ?_)
 ·have k2 := c2
  try simp only [cnd] at c2
  refine AW.seq (AW.region ?_)
  refine qq Qt.assign ?_
  refine nl ?_
  refine AW.ret (endQ_ret (.cons (.tmp 4) .nil) ?_)
  simp only [retX, slotL, reduceIte, Nat.reduceEqDiff]
  cases a
  cases b
  simp_all
 have k2 := c2
 try simp only [cnd] at c2
 refine jd (AW.seq (AW.region ?_))
 refine qq Qt.assign ?_
 refine nl ?_
 refine AW.ret (endQ_ret (.cons (.tmp 4) .nil) ?_)
 simp only [retX, slotL, reduceIte, Nat.reduceEqDiff]
 cases a
 cases b
 simp_all
set_option maxHeartbeats 8000000 in
set_option maxRecDepth 10000 in
theorem eqPipeS_con (a b : List DPipe) : Con Tryz.prog 70 [.h base [], .h (base + 1) []] [.rt base .ro (tr a), .rt (base + 1) .ro (tr b)] (fun y _ => y = .v (.bool (decide (a = b)))) := by
 refine Con.of_body Tryz.func70 rfl (by simp) ?_
 rw [Tryz.ntmps70]
 refine AW.len base [] rfl (by simp [Okp]) rfl (fun hl => ?_)
 refine AW.len (base + 1) [] rfl (by simp [Okp]) rfl (fun hl2 => ?_)
 refine AW.seq (AW.region ?_)
 refine qq Qt.assign ?_
 refine nl ?_
 refine AW.seq (AW.seq (AW.region ?_))
 refine qq Qt.move ?_
 refine qq (Qt.lenH rfl rfl rfl sl35) ?_
 refine nm ?_
 refine qq Qt.move ?_
 refine qq (Qt.lenH rfl rfl rfl sl35) ?_
 refine qq (Qt.binOp rfl rfl rfl) ?_
 refine nl ?_
 refine AW.cond rfl (fun c1 => ?_) (fun c1 => ?_)
 ·have k1 := c1
  try simp only [cnd] at c1
  refine AW.seq (AW.region ?_)
  refine qq Qt.assign ?_
  refine nl ?_
  refine AW.ret (endQ_ret (.cons (.tmp 4) .nil) ?_)
  simp only [retX, slotL, reduceIte, Nat.reduceEqDiff]
  rw [decide_eq_false (show a ≠ b from ne_of_len (by omega))]
 have k1 := c1
 try simp only [cnd] at c1
 refine jd (AW.seq (AW.seq (AW.region ?_)))
 refine qq Qt.assign ?_
 refine nl ?_
 refine AW.block ?_
 refine AW.loopW (fun i : EqInv a b => [.sl 5 (.v (iv i.k)), .sl 0 (.h base []), .sl 1 (.h (base + 1) []), .rt base .ro (tr a), .rt (base + 1) .ro (tr b)]) (fun i => a.length - i.k) ⟨0, Nat.zero_le _, rfl⟩ (Weak.sim ⟨rfl, rfl, rfl, Rf rfl, Rf rfl, trivial⟩ rfl rfl) ?_
 intro i
 have hle := i.le
 refine AW.seq (AW.seq (AW.region ?_))
 refine qq Qt.move ?_
 refine nm ?_
 refine qq Qt.move ?_
 refine qq (Qt.lenH rfl rfl rfl sl35) ?_
 refine qq (Qt.binOp rfl rfl rfl) ?_
 refine nl ?_
 refine AW.cond rfl (fun c2 => ?_) (fun c2 => ?_)
 ·have k2 := c2
  try simp only [cnd] at c2
  refine jd (AW.seq (AW.block (AW.seq ?_)))
  refine AW.draw [0, 1, 2, 3, 4, 5, 6, 7, 9] rfl (by decide +kernel) ?_
  refine tk 0 rfl Qt.move ?_
  refine na ?_
  refine tk 1 rfl Qt.move ?_
  refine tk 2 rfl (Qt.indexAddr rfl rfl rfl rfl sl35 sz128 (by decide) (by omega)) ?_
  refine tk 3 rfl (Qt.loadG rfl rfl rfl ag128 sz128 (by decide)) ?_
  refine na ?_
  refine tk 4 rfl Qt.move ?_
  refine tk 5 rfl Qt.move ?_
  refine tk 6 rfl (Qt.indexAddr rfl rfl rfl rfl sl35 sz128 (by decide) (by omega)) ?_
  refine na ?_
  refine tk 7 rfl (Qt.loadG rfl rfl rfl ag128 sz128 (by decide)) ?_
  refine a1 8 [] [7, 3, 6, 2, 5, 4, 1, 0] rfl rfl (Stp.callV rfl (by decide) Tryz.call199 rfl rfl (eqPipe_con _ _)) ?_
  refine na ?_
  refine na ?_
  refine tk 9 rfl (Qt.notB rfl) ?_
  refine nz ?_
  refine AW.cond rfl (fun c3 => ?_) (fun c3 => ?_)
  ·have k3 := c3
   try simp only [cnd] at c3
   refine AW.seq (AW.region ?_)
   refine qq Qt.assign ?_
   refine nl ?_
   refine AW.ret (endQ_ret (.cons (.tmp 4) .nil) ?_)
   simp only [retX, slotL, reduceIte, Nat.reduceEqDiff]
   rw [decide_eq_false (show a ≠ b from i.stop En.dflt (by simpa using c3))]
  have k3 := c3
  try simp only [cnd] at c3
  refine jd (AW.region ?_)
  refine qq Qt.move ?_
  refine nm ?_
  refine qq (Qt.binOp rfl rfl (by first | exact pbAdd (by omega) | rfl)) ?_
  refine qq Qt.assign ?_
  refine nl ?_
  refine ⟨⟨i.k + 1, by omega, i.next En.dflt (by omega) (by omega) (by simpa using c3)⟩, Weak.sim ⟨st1, rfl, rfl, Rf rfl, Rf rfl, trivial⟩ rfl rfl, ?_⟩
  show a.length - (i.k + 1) < a.length - i.k
  omega
 have k2 := c2
 try simp only [cnd] at c2
 refine AW.exit ?_
 dsimp only [thenQ, blockQ, reduceIte]
 refine AW.seq (AW.region ?_)
 refine qq Qt.assign ?_
 refine nl ?_
 refine AW.ret (endQ_ret (.cons (.tmp 4) .nil) ?_)
 simp only [retX, slotL, reduceIte, Nat.reduceEqDiff]
 rw [decide_eq_true (show a = b from i.full (by omega) (by omega))]
set_option maxHeartbeats 8000000 in
set_option maxRecDepth 10000 in
theorem eqFile_con (a b : DFile) : Con Tryz.prog 200 [.g [.v (iv a.Name), .h base []], .g [.v (iv b.Name), .h (base + 1) []]] [.rt base .ro (tr a.Data), .rt (base + 1) .ro (tr b.Data)] (fun y _ => y = .v (.bool (decide (a = b)))) := by
 refine Con.of_body Tryz.func200 rfl (by simp) ?_
 rw [Tryz.ntmps200]
 refine AW.seq (AW.region ?_)
 refine sp (Stp.boxB rfl (by decide) (by decide) rfl rfl rfl rfl) ?_
 refine nm ?_
 refine sp (Stp.boxB rfl (by decide) (by decide) rfl rfl rfl rfl) ?_
 refine nm ?_
 refine qq Qt.assign ?_
 refine nl ?_
 refine AW.seq (AW.seq (AW.region ?_))
 refine qq (fA fl130_0) ?_
 refine qq (Qt.load1 rfl rfl rfl ag3) ?_
 refine nm ?_
 refine qq (fA fl130_0) ?_
 refine qq (Qt.load1 rfl rfl rfl ag3) ?_
 refine qq (Qt.binOp rfl rfl rfl) ?_
 refine nl ?_
 refine AW.cond rfl (fun c1 => ?_) (fun c1 => ?_)
 ·have k1 := c1
  try simp only [cnd] at c1
  refine AW.seq (AW.region ?_)
  refine qq Qt.assign ?_
  refine nl ?_
  refine AW.ret (endQ_ret (.cons (.tmp 4) .nil) ?_)
  simp only [retX, slotL, reduceIte, Nat.reduceEqDiff]
  cases a
  cases b
  simp_all
 have k1 := c1
 try simp only [cnd] at c1
 refine jd (AW.seq (AW.seq (AW.region ?_)))
 refine qq (fA fl130_1) ?_
 refine nm ?_
 refine qq (Qt.load1 rfl rfl rfl ag27) ?_
 refine qq (fA fl130_1) ?_
 refine qq (Qt.load1 rfl rfl rfl ag27) ?_
 refine nm ?_
 refine cv Tryz.call72 rfl rfl (eqIntS_con _ _) ?_
 refine nm ?_
 refine qq (Qt.notB rfl) ?_
 refine nl ?_
 refine AW.cond rfl (fun c2 => ?_) (fun c2 => ?_)
 ·have k2 := c2
  try simp only [cnd] at c2
  refine AW.seq (AW.region ?_)
  refine qq Qt.assign ?_
  refine nl ?_
  refine AW.ret (endQ_ret (.cons (.tmp 4) .nil) ?_)
  simp only [retX, slotL, reduceIte, Nat.reduceEqDiff]
  cases a
  cases b
  simp_all
 have k2 := c2
 try simp only [cnd] at c2
 refine jd (AW.seq (AW.region ?_))
 refine qq Qt.assign ?_
 refine nl ?_
 refine AW.ret (endQ_ret (.cons (.tmp 4) .nil) ?_)
 simp only [retX, slotL, reduceIte, Nat.reduceEqDiff]
 cases a
 cases b
 simp_all
set_option maxHeartbeats 8000000 in
set_option maxRecDepth 10000 in
theorem eqFileS_con (a b : List DFile) : Con Tryz.prog 71 [.h base [], .h (base + 1) []] [.rt base .ro (tr a), .rt (base + 1) .ro (tr b)] (fun y _ => y = .v (.bool (decide (a = b)))) := by
 refine Con.of_body Tryz.func71 rfl (by simp) ?_
 rw [Tryz.ntmps71]
 refine AW.len base [] rfl (by simp [Okp]) rfl (fun hl => ?_)
 refine AW.len (base + 1) [] rfl (by simp [Okp]) rfl (fun hl2 => ?_)
 refine AW.seq (AW.region ?_)
 refine qq Qt.assign ?_
 refine nl ?_
 refine AW.seq (AW.seq (AW.region ?_))
 refine qq Qt.move ?_
 refine qq (Qt.lenH rfl rfl rfl sl36) ?_
 refine nm ?_
 refine qq Qt.move ?_
 refine qq (Qt.lenH rfl rfl rfl sl36) ?_
 refine qq (Qt.binOp rfl rfl rfl) ?_
 refine nl ?_
 refine AW.cond rfl (fun c1 => ?_) (fun c1 => ?_)
 ·have k1 := c1
  try simp only [cnd] at c1
  refine AW.seq (AW.region ?_)
  refine qq Qt.assign ?_
  refine nl ?_
  refine AW.ret (endQ_ret (.cons (.tmp 4) .nil) ?_)
  simp only [retX, slotL, reduceIte, Nat.reduceEqDiff]
  rw [decide_eq_false (show a ≠ b from ne_of_len (by omega))]
 have k1 := c1
 try simp only [cnd] at c1
 refine jd (AW.seq (AW.seq (AW.region ?_)))
 refine qq Qt.assign ?_
 refine nl ?_
 refine AW.block ?_
 refine AW.loopW (fun i : EqInv a b => [.sl 5 (.v (iv i.k)), .sl 0 (.h base []), .sl 1 (.h (base + 1) []), .rt base .ro (tr a), .rt (base + 1) .ro (tr b)]) (fun i => a.length - i.k) ⟨0, Nat.zero_le _, rfl⟩ (Weak.sim ⟨rfl, rfl, rfl, Rf rfl, Rf rfl, trivial⟩ rfl rfl) ?_
 intro i
 have hle := i.le
 refine AW.seq (AW.seq (AW.region ?_))
 refine qq Qt.move ?_
 refine nm ?_
 refine qq Qt.move ?_
 refine qq (Qt.lenH rfl rfl rfl sl36) ?_
 refine qq (Qt.binOp rfl rfl rfl) ?_
 refine nl ?_
 refine AW.cond rfl (fun c2 => ?_) (fun c2 => ?_)
 ·have k2 := c2
  try simp only [cnd] at c2
  refine jd (AW.seq (AW.block (AW.seq ?_)))
  refine AW.draw [0, 1, 2, 3, 4, 5, 6, 7, 9] rfl (by decide +kernel) ?_
  refine tk 0 rfl Qt.move ?_
  refine na ?_
  refine tk 1 rfl Qt.move ?_
  refine tk 2 rfl (Qt.indexAddr rfl rfl rfl rfl sl36 sz130 (by decide) (by omega)) ?_
  refine tk 3 rfl (Qt.loadG rfl rfl rfl ag130 sz130 (by decide)) ?_
  refine na ?_
  refine tk 4 rfl Qt.move ?_
  refine tk 5 rfl Qt.move ?_
  refine tk 6 rfl (Qt.indexAddr rfl rfl rfl rfl sl36 sz130 (by decide) (by omega)) ?_
  refine na ?_
  refine tk 7 rfl (Qt.loadG rfl rfl rfl ag130 sz130 (by decide)) ?_
  refine a1 8 [] [7, 3, 6, 2, 5, 4, 1, 0] rfl rfl (Stp.callV rfl (by decide) Tryz.call200 rfl rfl (eqFile_con _ _)) ?_
  refine na ?_
  refine na ?_
  refine tk 9 rfl (Qt.notB rfl) ?_
  refine nz ?_
  refine AW.cond rfl (fun c3 => ?_) (fun c3 => ?_)
  ·have k3 := c3
   try simp only [cnd] at c3
   refine AW.seq (AW.region ?_)
   refine qq Qt.assign ?_
   refine nl ?_
   refine AW.ret (endQ_ret (.cons (.tmp 4) .nil) ?_)
   simp only [retX, slotL, reduceIte, Nat.reduceEqDiff]
   rw [decide_eq_false (show a ≠ b from i.stop En.dflt (by simpa using c3))]
  have k3 := c3
  try simp only [cnd] at c3
  refine jd (AW.region ?_)
  refine qq Qt.move ?_
  refine nm ?_
  refine qq (Qt.binOp rfl rfl (by first | exact pbAdd (by omega) | rfl)) ?_
  refine qq Qt.assign ?_
  refine nl ?_
  refine ⟨⟨i.k + 1, by omega, i.next En.dflt (by omega) (by omega) (by simpa using c3)⟩, Weak.sim ⟨st1, rfl, rfl, Rf rfl, Rf rfl, trivial⟩ rfl rfl, ?_⟩
  show a.length - (i.k + 1) < a.length - i.k
  omega
 have k2 := c2
 try simp only [cnd] at c2
 refine AW.exit ?_
 dsimp only [thenQ, blockQ, reduceIte]
 refine AW.seq (AW.region ?_)
 refine qq Qt.assign ?_
 refine nl ?_
 refine AW.ret (endQ_ret (.cons (.tmp 4) .nil) ?_)
 simp only [retX, slotL, reduceIte, Nat.reduceEqDiff]
 rw [decide_eq_true (show a = b from i.full (by omega) (by omega))]
set_option maxHeartbeats 8000000 in
set_option maxRecDepth 10000 in
theorem eqUnix_con (a b : DUnix) : Con Tryz.prog 14 [.g [.v (iv a.Next), .v (iv a.Tick), .h base [], .h (base + 1) [], .h (base + 2) [], .h (base + 3) [], .h (base + 4) [], .h (base + 5) [], .h (base + 6) []], .g [.v (iv b.Next), .v (iv b.Tick), .h (base + 7) [], .h (base + 8) [], .h (base + 9) [], .h (base + 10) [], .h (base + 11) [], .h (base + 12) [], .h (base + 13) []]] [.rt base .ro (tr a.Progs), .rt (base + 1) .ro (tr a.Procs), .rt (base + 2) .ro (tr a.Opens), .rt (base + 3) .ro (tr a.Pipes), .rt (base + 4) .ro (tr a.Files), .rt (base + 5) .ro (tr a.Ready), .rt (base + 6) .ro (tr a.Out), .rt (base + 7) .ro (tr b.Progs), .rt (base + 8) .ro (tr b.Procs), .rt (base + 9) .ro (tr b.Opens), .rt (base + 10) .ro (tr b.Pipes), .rt (base + 11) .ro (tr b.Files), .rt (base + 12) .ro (tr b.Ready), .rt (base + 13) .ro (tr b.Out)] (fun y _ => y = .v (.bool (decide (a = b)))) := by
 refine Con.of_body Tryz.func14 rfl (by simp) ?_
 rw [Tryz.ntmps14]
 refine AW.seq (AW.region ?_)
 refine sp (Stp.boxB rfl (by decide) (by decide) rfl rfl rfl rfl) ?_
 refine nm ?_
 refine sp (Stp.boxB rfl (by decide) (by decide) rfl rfl rfl rfl) ?_
 refine nm ?_
 refine qq Qt.assign ?_
 refine nl ?_
 refine AW.seq (AW.seq (AW.region ?_))
 refine qq (fA fl38_0) ?_
 refine qq (Qt.load1 rfl rfl rfl ag3) ?_
 refine nm ?_
 refine qq (fA fl38_0) ?_
 refine qq (Qt.load1 rfl rfl rfl ag3) ?_
 refine qq (Qt.binOp rfl rfl rfl) ?_
 refine nl ?_
 refine AW.cond rfl (fun c1 => ?_) (fun c1 => ?_)
 ·have k1 := c1
  try simp only [cnd] at c1
  refine AW.seq (AW.region ?_)
  refine qq Qt.assign ?_
  refine nl ?_
  refine AW.ret (endQ_ret (.cons (.tmp 4) .nil) ?_)
  simp only [retX, slotL, reduceIte, Nat.reduceEqDiff]
  cases a
  cases b
  simp_all
 have k1 := c1
 try simp only [cnd] at c1
 refine jd (AW.seq (AW.seq (AW.region ?_)))
 refine qq (fA fl38_1) ?_
 refine nm ?_
 refine qq (Qt.load1 rfl rfl rfl ag3) ?_
 refine qq (fA fl38_1) ?_
 refine qq (Qt.load1 rfl rfl rfl ag3) ?_
 refine nm ?_
 refine qq (Qt.binOp rfl rfl rfl) ?_
 refine nl ?_
 refine AW.cond rfl (fun c2 => ?_) (fun c2 => ?_)
 ·have k2 := c2
  try simp only [cnd] at c2
  refine AW.seq (AW.region ?_)
  refine qq Qt.assign ?_
  refine nl ?_
  refine AW.ret (endQ_ret (.cons (.tmp 4) .nil) ?_)
  simp only [retX, slotL, reduceIte, Nat.reduceEqDiff]
  cases a
  cases b
  simp_all
 have k2 := c2
 try simp only [cnd] at c2
 refine jd (AW.seq (AW.seq (AW.region ?_)))
 refine qq (fA fl38_2) ?_
 refine nm ?_
 refine qq (Qt.load1 rfl rfl rfl ag32) ?_
 refine qq (fA fl38_2) ?_
 refine qq (Qt.load1 rfl rfl rfl ag32) ?_
 refine nm ?_
 refine cv Tryz.call67 rfl rfl (eqInsSS_con _ _) ?_
 refine nm ?_
 refine qq (Qt.notB rfl) ?_
 refine nl ?_
 refine AW.cond rfl (fun c3 => ?_) (fun c3 => ?_)
 ·have k3 := c3
  try simp only [cnd] at c3
  refine AW.seq (AW.region ?_)
  refine qq Qt.assign ?_
  refine nl ?_
  refine AW.ret (endQ_ret (.cons (.tmp 4) .nil) ?_)
  simp only [retX, slotL, reduceIte, Nat.reduceEqDiff]
  cases a
  cases b
  simp_all
 have k3 := c3
 try simp only [cnd] at c3
 refine jd (AW.seq (AW.seq (AW.region ?_)))
 refine qq (fA fl38_3) ?_
 refine nm ?_
 refine qq (Qt.load1 rfl rfl rfl ag33) ?_
 refine qq (fA fl38_3) ?_
 refine qq (Qt.load1 rfl rfl rfl ag33) ?_
 refine nm ?_
 refine cv Tryz.call68 rfl rfl (eqProcS_con _ _) ?_
 refine nm ?_
 refine qq (Qt.notB rfl) ?_
 refine nl ?_
 refine AW.cond rfl (fun c4 => ?_) (fun c4 => ?_)
 ·have k4 := c4
  try simp only [cnd] at c4
  refine AW.seq (AW.region ?_)
  refine qq Qt.assign ?_
  refine nl ?_
  refine AW.ret (endQ_ret (.cons (.tmp 4) .nil) ?_)
  simp only [retX, slotL, reduceIte, Nat.reduceEqDiff]
  cases a
  cases b
  simp_all
 have k4 := c4
 try simp only [cnd] at c4
 refine jd (AW.seq (AW.seq (AW.region ?_)))
 refine qq (fA fl38_4) ?_
 refine nm ?_
 refine qq (Qt.load1 rfl rfl rfl ag34) ?_
 refine qq (fA fl38_4) ?_
 refine qq (Qt.load1 rfl rfl rfl ag34) ?_
 refine nm ?_
 refine cv Tryz.call69 rfl rfl (eqOpenS_con _ _) ?_
 refine nm ?_
 refine qq (Qt.notB rfl) ?_
 refine nl ?_
 refine AW.cond rfl (fun c5 => ?_) (fun c5 => ?_)
 ·have k5 := c5
  try simp only [cnd] at c5
  refine AW.seq (AW.region ?_)
  refine qq Qt.assign ?_
  refine nl ?_
  refine AW.ret (endQ_ret (.cons (.tmp 4) .nil) ?_)
  simp only [retX, slotL, reduceIte, Nat.reduceEqDiff]
  cases a
  cases b
  simp_all
 have k5 := c5
 try simp only [cnd] at c5
 refine jd (AW.seq (AW.seq (AW.region ?_)))
 refine qq (fA fl38_5) ?_
 refine nm ?_
 refine qq (Qt.load1 rfl rfl rfl ag35) ?_
 refine qq (fA fl38_5) ?_
 refine qq (Qt.load1 rfl rfl rfl ag35) ?_
 refine nm ?_
 refine cv Tryz.call70 rfl rfl (eqPipeS_con _ _) ?_
 refine nm ?_
 refine qq (Qt.notB rfl) ?_
 refine nl ?_
 refine AW.cond rfl (fun c6 => ?_) (fun c6 => ?_)
 ·have k6 := c6
  try simp only [cnd] at c6
  refine AW.seq (AW.region ?_)
  refine qq Qt.assign ?_
  refine nl ?_
  refine AW.ret (endQ_ret (.cons (.tmp 4) .nil) ?_)
  simp only [retX, slotL, reduceIte, Nat.reduceEqDiff]
  cases a
  cases b
  simp_all
 have k6 := c6
 try simp only [cnd] at c6
 refine jd (AW.seq (AW.seq (AW.region ?_)))
 refine qq (fA fl38_6) ?_
 refine nm ?_
 refine qq (Qt.load1 rfl rfl rfl ag36) ?_
 refine qq (fA fl38_6) ?_
 refine qq (Qt.load1 rfl rfl rfl ag36) ?_
 refine nm ?_
 refine cv Tryz.call71 rfl rfl (eqFileS_con _ _) ?_
 refine nm ?_
 refine qq (Qt.notB rfl) ?_
 refine nl ?_
 refine AW.cond rfl (fun c7 => ?_) (fun c7 => ?_)
 ·have k7 := c7
  try simp only [cnd] at c7
  refine AW.seq (AW.region ?_)
  refine qq Qt.assign ?_
  refine nl ?_
  refine AW.ret (endQ_ret (.cons (.tmp 4) .nil) ?_)
  simp only [retX, slotL, reduceIte, Nat.reduceEqDiff]
  cases a
  cases b
  simp_all
 have k7 := c7
 try simp only [cnd] at c7
 refine jd (AW.seq (AW.seq (AW.region ?_)))
 refine qq (fA fl38_7) ?_
 refine nm ?_
 refine qq (Qt.load1 rfl rfl rfl ag27) ?_
 refine qq (fA fl38_7) ?_
 refine qq (Qt.load1 rfl rfl rfl ag27) ?_
 refine nm ?_
 refine cv Tryz.call72 rfl rfl (eqIntS_con _ _) ?_
 refine nm ?_
 refine qq (Qt.notB rfl) ?_
 refine nl ?_
 refine AW.cond rfl (fun c8 => ?_) (fun c8 => ?_)
 ·have k8 := c8
  try simp only [cnd] at c8
  refine AW.seq (AW.region ?_)
  refine qq Qt.assign ?_
  refine nl ?_
  refine AW.ret (endQ_ret (.cons (.tmp 4) .nil) ?_)
  simp only [retX, slotL, reduceIte, Nat.reduceEqDiff]
  cases a
  cases b
  simp_all
 have k8 := c8
 try simp only [cnd] at c8
 refine jd (AW.seq (AW.seq (AW.region ?_)))
 refine qq (fA fl38_8) ?_
 refine nm ?_
 refine qq (Qt.load1 rfl rfl rfl ag27) ?_
 refine qq (fA fl38_8) ?_
 refine qq (Qt.load1 rfl rfl rfl ag27) ?_
 refine nm ?_
 refine cv Tryz.call72 rfl rfl (eqIntS_con _ _) ?_
 refine nm ?_
 refine qq (Qt.notB rfl) ?_
 refine nl ?_
 refine AW.cond rfl (fun c9 => ?_) (fun c9 => ?_)
 ·have k9 := c9
  try simp only [cnd] at c9
  refine AW.seq (AW.region ?_)
  refine qq Qt.assign ?_
  refine nl ?_
  refine AW.ret (endQ_ret (.cons (.tmp 4) .nil) ?_)
  simp only [retX, slotL, reduceIte, Nat.reduceEqDiff]
  cases a
  cases b
  simp_all
 have k9 := c9
 try simp only [cnd] at c9
 refine jd (AW.seq (AW.region ?_))
 refine qq Qt.assign ?_
 refine nl ?_
 refine AW.ret (endQ_ret (.cons (.tmp 4) .nil) ?_)
 simp only [retX, slotL, reduceIte, Nat.reduceEqDiff]
 cases a
 cases b
 simp_all
end Go.Proofs.YtimmbmphfgnelaaGreat.VM
