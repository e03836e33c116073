/- Contracts. No conditions. -/
import Derived.Test.YtekcnnngjoonbaaGreatCN0
set_option linter.all false
set_option maxHeartbeats 8000000
set_option maxRecDepth 10000
namespace Go.Proofs.YtekcnnngjoonbaaGreat.VM
open Go Go.RowKit Go.Proofs
structure DIns where
 Op : Int
 A : Int
 B : Int
 C : Int
deriving DecidableEq
instance : En DIns := ⟨4, by omega, fun a => [.v (iv a.Op), .v (iv a.A), .v (iv a.B), .v (iv a.C)], fun _ => rfl, fun a => En.fit a.Op ∧ En.fit a.A ∧ En.fit a.B ∧ En.fit a.C, ⟨0, 0, 0, 0⟩⟩
@[go_sem] theorem cs_Ins (a : DIns) : En.cs a = [.v (iv a.Op), .v (iv a.A), .v (iv a.B), .v (iv a.C)] := rfl
instance : Mk DIns := { wt := fun _ => 0, cnt := fun a => 1 + 1 + 1 + 1, mark := fun _ k => ⟨k, k + 1, k + 1 + 1, k + 1 + 1 + 1⟩, cnt_mk := fun a k => by simp [Mk.cnt_mk] }
theorem cnt_Ins (a : DIns) : Mk.cnt a = 1 + 1 + 1 + 1 := rfl
structure DCpu where
 Pc : Int
 Regs : List Int
deriving DecidableEq
instance : En DCpu := ⟨2, by omega, fun a => [.v (iv a.Pc), tr a.Regs], fun _ => rfl, fun a => En.fit a.Pc ∧ En.fit a.Regs, ⟨0, []⟩⟩
@[go_sem] theorem cs_Cpu (a : DCpu) : En.cs a = [.v (iv a.Pc), tr a.Regs] := rfl
instance : Mk DCpu := { wt := fun a => Mk.wt a.Regs, cnt := fun a => 1 + (Mk.cnt a.Regs), mark := fun a k => ⟨k, Mk.mark a.Regs (k + 1)⟩, cnt_mk := fun a k => by simp [Mk.cnt_mk] }
structure DBProc where
 Pid : Int
 Parent : Int
 State : Int
 Prog : Int
 Cpu : DCpu
 Pages : List Int
 Fds : List Int
 Until : Int
 Code : Int
deriving DecidableEq
instance : En DBProc := ⟨10, by omega, fun a => [.v (iv a.Pid), .v (iv a.Parent), .v (iv a.State), .v (iv a.Prog), .v (iv a.Cpu.Pc), tr a.Cpu.Regs, tr a.Pages, tr a.Fds, .v (iv a.Until), .v (iv a.Code)], fun _ => rfl, fun a => En.fit a.Pid ∧ En.fit a.Parent ∧ En.fit a.State ∧ En.fit a.Prog ∧ En.fit a.Cpu ∧ En.fit a.Pages ∧ En.fit a.Fds ∧ En.fit a.Until ∧ En.fit a.Code, ⟨0, 0, 0, 0, ⟨0, []⟩, [], [], 0, 0⟩⟩
@[go_sem] theorem cs_BProc (a : DBProc) : En.cs a = [.v (iv a.Pid), .v (iv a.Parent), .v (iv a.State), .v (iv a.Prog), .v (iv a.Cpu.Pc), tr a.Cpu.Regs, tr a.Pages, tr a.Fds, .v (iv a.Until), .v (iv a.Code)] := rfl
instance : Mk DBProc := { wt := fun a => Mk.wt a.Cpu.Regs + Mk.wt a.Pages + Mk.wt a.Fds, cnt := fun a => 1 + 1 + 1 + 1 + 1 + (Mk.cnt a.Cpu.Regs) + (Mk.cnt a.Pages) + (Mk.cnt a.Fds) + 1 + 1, mark := fun a k => ⟨k, k + 1, k + 1 + 1, k + 1 + 1 + 1, ⟨k + 1 + 1 + 1 + 1, Mk.mark a.Cpu.Regs (k + 1 + 1 + 1 + 1 + 1)⟩, Mk.mark a.Pages (k + 1 + 1 + 1 + 1 + 1 + (Mk.cnt a.Cpu.Regs : Nat)), Mk.mark a.Fds (k + 1 + 1 + 1 + 1 + 1 + (Mk.cnt a.Cpu.Regs : Nat) + (Mk.cnt a.Pages : Nat)), k + 1 + 1 + 1 + 1 + 1 + (Mk.cnt a.Cpu.Regs : Nat) + (Mk.cnt a.Pages : Nat) + (Mk.cnt a.Fds : Nat), k + 1 + 1 + 1 + 1 + 1 + (Mk.cnt a.Cpu.Regs : Nat) + (Mk.cnt a.Pages : Nat) + (Mk.cnt a.Fds : Nat) + 1⟩, cnt_mk := fun a k => by simp [Mk.cnt_mk] }
theorem cnt_BProc (a : DBProc) : Mk.cnt a = 1 + 1 + 1 + 1 + 1 + (Mk.cnt a.Cpu.Regs) + (Mk.cnt a.Pages) + (Mk.cnt a.Fds) + 1 + 1 := rfl
structure DBuddy where
 Free : List (List Int)
deriving DecidableEq
instance : En DBuddy := ⟨1, by omega, fun a => [tr a.Free], fun _ => rfl, fun a => En.fit a.Free, ⟨[]⟩⟩
@[go_sem] theorem cs_Buddy (a : DBuddy) : En.cs a = [tr a.Free] := rfl
instance : Mk DBuddy := { wt := fun a => Mk.wt a.Free, cnt := fun a => (Mk.cnt a.Free), mark := fun a k => ⟨Mk.mark a.Free (k)⟩, cnt_mk := fun a k => by simp [Mk.cnt_mk] }
structure DOpen where
 Id : Int
 Kind : Int
 Target : Int
 Off : Int
 Refs : Int
deriving DecidableEq
instance : En DOpen := ⟨5, by omega, fun a => [.v (iv a.Id), .v (iv a.Kind), .v (iv a.Target), .v (iv a.Off), .v (iv a.Refs)], fun _ => rfl, fun a => En.fit a.Id ∧ En.fit a.Kind ∧ En.fit a.Target ∧ En.fit a.Off ∧ En.fit a.Refs, ⟨0, 0, 0, 0, 0⟩⟩
@[go_sem] theorem cs_Open (a : DOpen) : En.cs a = [.v (iv a.Id), .v (iv a.Kind), .v (iv a.Target), .v (iv a.Off), .v (iv a.Refs)] := rfl
instance : Mk DOpen := { wt := fun _ => 0, cnt := fun a => 1 + 1 + 1 + 1 + 1, mark := fun _ k => ⟨k, k + 1, k + 1 + 1, k + 1 + 1 + 1, k + 1 + 1 + 1 + 1⟩, cnt_mk := fun a k => by simp [Mk.cnt_mk] }
theorem cnt_Open (a : DOpen) : Mk.cnt a = 1 + 1 + 1 + 1 + 1 := rfl
structure DBPipe where
 Id : Int
 Chunks : List (List Int)
deriving DecidableEq
instance : En DBPipe := ⟨2, by omega, fun a => [.v (iv a.Id), tr a.Chunks], fun _ => rfl, fun a => En.fit a.Id ∧ En.fit a.Chunks, ⟨0, []⟩⟩
@[go_sem] theorem cs_BPipe (a : DBPipe) : En.cs a = [.v (iv a.Id), tr a.Chunks] := rfl
instance : Mk DBPipe := { wt := fun a => Mk.wt a.Chunks, cnt := fun a => 1 + (Mk.cnt a.Chunks), mark := fun a k => ⟨k, Mk.mark a.Chunks (k + 1)⟩, cnt_mk := fun a k => by simp [Mk.cnt_mk] }
theorem cnt_BPipe (a : DBPipe) : Mk.cnt a = 1 + (Mk.cnt a.Chunks) := rfl
structure DFile where
 Name : Int
 Data : List Int
deriving DecidableEq
instance : En DFile := ⟨2, by omega, fun a => [.v (iv a.Name), tr a.Data], fun _ => rfl, fun a => En.fit a.Name ∧ En.fit a.Data, ⟨0, []⟩⟩
@[go_sem] theorem cs_File (a : DFile) : En.cs a = [.v (iv a.Name), tr a.Data] := rfl
instance : Mk DFile := { wt := fun a => Mk.wt a.Data, cnt := fun a => 1 + (Mk.cnt a.Data), mark := fun a k => ⟨k, Mk.mark a.Data (k + 1)⟩, cnt_mk := fun a k => by simp [Mk.cnt_mk] }
theorem cnt_File (a : DFile) : Mk.cnt a = 1 + (Mk.cnt a.Data) := rfl
structure DNodes where
 Next : Int
 Tick : Int
 Progs : List (List DIns)
 Procs : List DBProc
 Ram : List Int
 Heap : DBuddy
 Opens : List DOpen
 Pipes : List DBPipe
 Files : List DFile
 Ready : List Int
 Out : List Int
deriving DecidableEq
instance : En DNodes := ⟨11, by omega, fun a => [.v (iv a.Next), .v (iv a.Tick), tr a.Progs, tr a.Procs, tr a.Ram, tr a.Heap.Free, tr a.Opens, tr a.Pipes, tr a.Files, tr a.Ready, tr a.Out], fun _ => rfl, fun a => En.fit a.Next ∧ En.fit a.Tick ∧ En.fit a.Progs ∧ En.fit a.Procs ∧ En.fit a.Ram ∧ En.fit a.Heap ∧ En.fit a.Opens ∧ En.fit a.Pipes ∧ En.fit a.Files ∧ En.fit a.Ready ∧ En.fit a.Out, ⟨0, 0, [], [], [], ⟨[]⟩, [], [], [], [], []⟩⟩
@[go_sem] theorem cs_Nodes (a : DNodes) : En.cs a = [.v (iv a.Next), .v (iv a.Tick), tr a.Progs, tr a.Procs, tr a.Ram, tr a.Heap.Free, tr a.Opens, tr a.Pipes, tr a.Files, tr a.Ready, tr a.Out] := rfl
instance : Mk DNodes := { wt := fun a => Mk.wt a.Progs + Mk.wt a.Procs + Mk.wt a.Ram + Mk.wt a.Heap.Free + Mk.wt a.Opens + Mk.wt a.Pipes + Mk.wt a.Files + Mk.wt a.Ready + Mk.wt a.Out, cnt := fun a => 1 + 1 + (Mk.cnt a.Progs) + (Mk.cnt a.Procs) + (Mk.cnt a.Ram) + (Mk.cnt a.Heap.Free) + (Mk.cnt a.Opens) + (Mk.cnt a.Pipes) + (Mk.cnt a.Files) + (Mk.cnt a.Ready) + (Mk.cnt a.Out), mark := fun a k => ⟨k, k + 1, Mk.mark a.Progs (k + 1 + 1), Mk.mark a.Procs (k + 1 + 1 + (Mk.cnt a.Progs : Nat)), Mk.mark a.Ram (k + 1 + 1 + (Mk.cnt a.Progs : Nat) + (Mk.cnt a.Procs : Nat)), ⟨Mk.mark a.Heap.Free (k + 1 + 1 + (Mk.cnt a.Progs : Nat) + (Mk.cnt a.Procs : Nat) + (Mk.cnt a.Ram : Nat))⟩, Mk.mark a.Opens (k + 1 + 1 + (Mk.cnt a.Progs : Nat) + (Mk.cnt a.Procs : Nat) + (Mk.cnt a.Ram : Nat) + (Mk.cnt a.Heap.Free : Nat)), Mk.mark a.Pipes (k + 1 + 1 + (Mk.cnt a.Progs : Nat) + (Mk.cnt a.Procs : Nat) + (Mk.cnt a.Ram : Nat) + (Mk.cnt a.Heap.Free : Nat) + (Mk.cnt a.Opens : Nat)), Mk.mark a.Files (k + 1 + 1 + (Mk.cnt a.Progs : Nat) + (Mk.cnt a.Procs : Nat) + (Mk.cnt a.Ram : Nat) + (Mk.cnt a.Heap.Free : Nat) + (Mk.cnt a.Opens : Nat) + (Mk.cnt a.Pipes : Nat)), Mk.mark a.Ready (k + 1 + 1 + (Mk.cnt a.Progs : Nat) + (Mk.cnt a.Procs : Nat) + (Mk.cnt a.Ram : Nat) + (Mk.cnt a.Heap.Free : Nat) + (Mk.cnt a.Opens : Nat) + (Mk.cnt a.Pipes : Nat) + (Mk.cnt a.Files : Nat)), Mk.mark a.Out (k + 1 + 1 + (Mk.cnt a.Progs : Nat) + (Mk.cnt a.Procs : Nat) + (Mk.cnt a.Ram : Nat) + (Mk.cnt a.Heap.Free : Nat) + (Mk.cnt a.Opens : Nat) + (Mk.cnt a.Pipes : Nat) + (Mk.cnt a.Files : Nat) + (Mk.cnt a.Ready : Nat))⟩, cnt_mk := fun a k => by simp [Mk.cnt_mk] }
theorem szInsS_con (a : List DIns) (left : Int) (h1 : -1 ≤ left) (h2 : left ≤ 1048576) : Con Tryz.prog 89 [.h base [], .v (iv left)] [.rt base .ro (tr a)] (fun y _ => y = .v (iv (szd (Mk.wt a) left))) := by
 refine ob Tryz.func89 Tryz.ntmps89 ?_
 have hw : Mk.wt a = a.length := by rw [wt_list, wtL_zero (w := Mk.wt) (fun _ => rfl)]; rfl
 refine AW.len base [] rfl (by simp [Okp]) rfl (fun hl => ?_)
 refine go [.R,.a,.Z,.R,.m,.m,.N,.h,.b,.a,.Z,.R2,.m,.N,.b,.Z] (k := ?_)
 refine cd (fun c1 => ?_) fun c1 => ?_
 ·try simp only [cnd] at c1
  refine go [.R,.a,.Z] (k := ?_)
  refine rt1 4 ?_
  simp only [retX, slotL, reduceIte, Nat.reduceEqDiff, szd, hw]
  congr 2
  omega
 try simp only [cnd] at c1
 refine go [.J,.R,.m,.N,.a,.Z] (k := ?_)
 refine rt1 4 ?_
 simp only [retX, slotL, reduceIte, Nat.reduceEqDiff, szd, hw]
 congr 2
 omega
theorem szInsSS_con (a : List (List DIns)) (left : Int) (h1 : -1 ≤ left) (h2 : left ≤ 1048576) : Con Tryz.prog 19 [.h base [], .v (iv left)] [.rt base .ro (tr a)] (fun y _ => y = .v (iv (szd (Mk.wt a) left))) := by
 refine ob Tryz.func19 Tryz.ntmps19 ?_
 have hw : Mk.wt a = a.length + wtL Mk.wt a := rfl
 refine AW.len base [] rfl (by simp [Okp]) rfl (fun hl => ?_)
 refine go [.R,.a,.Z,.R,.m,.m,.N,.h,.b,.a,.Z,.R2,.m,.N,.b,.Z] (k := ?_)
 refine cd (fun c1 => ?_) fun c1 => ?_
 ·try simp only [cnd] at c1
  refine go [.R,.a,.Z] (k := ?_)
  refine rt1 4 ?_
  simp only [retX, slotL, reduceIte, Nat.reduceEqDiff]
  try have hi0 := i.nn
  have hcw := cumN_wt a
  have hz := szd_cases (Mk.wt a) left
  try have hce : cumN Mk.wt En.dflt a i.k = cumN Mk.wt En.dflt a a.length := by rw [show i.k = a.length by omega]
  congr 2
  omega
 try simp only [cnd] at c1
 refine jd (sr2 ?_)
 refine go [.a,.Z] (k := ?_)
 refine AW.block ?_
 refine AW.weak (L' := [.sl 5 (.v (iv (0 : Nat))), .sl 1 (.v (iv (left - a.length - (cumN Mk.wt En.dflt a 0 : Nat)))), .sl 0 (.h base []), .rt base .ro (tr a)]) (Weak.sim ⟨rfl, (by simp only [slotL, reduceIte, Nat.reduceEqDiff]; show X.v (iv (left - a.length)) = _; simp [cumN]), rfl, Rf rfl, trivial⟩ rfl rfl) ?_
 refine AW.loop (fun i : SzInv left a => [.sl 5 (.v (iv i.k)), .sl 1 (.v (iv (left - a.length - (cumN Mk.wt En.dflt a i.k : Nat)))), .sl 0 (.h base []), .rt base .ro (tr a)]) (fun i => a.length - i.k) ⟨0, Nat.zero_le _, by simp only [cumN]; omega⟩ ?_
 intro i
 have hle := i.le
 refine go [.R2,.m,.N,.m,.h,.b,.Z] (k := ?_)
 refine cd (fun c2 => ?_) fun c2 => ?_
 ·try simp only [cnd] at c2
  have hi0 := i.nn
  have hcw := cumN_wt a
  have hc1 := cumN_mono (c := Mk.wt) (d := En.dflt) (l := a) (show i.k + 1 ≤ a.length by omega)
  simp only [cumN] at hc1
  have hz2 := szd_cases (Mk.wt (a.getD i.k En.dflt)) (left - a.length - (cumN Mk.wt En.dflt a i.k : Nat))
  refine jd (AW.seq (AW.block (sr ?_)))
  refine go [.m,.N,.m,.i,.l,.N,.m] (k := ?_)
  refine cv Tryz.call89 rfl rfl (szInsS_con _ _ (by first | omega | (repeat (first | omega | apply szd_lo))) (by first | omega | (repeat (first | omega | apply szd_hi)))) ?_
  refine go [.N,.a,.Z,.R,.m,.b,.Z] (k := ?_)
  refine cd (fun c3 => ?_) fun c3 => ?_
  ·try simp only [cnd] at c3
   refine go [.R,.a,.Z] (k := ?_)
   refine rt1 4 ?_
   simp only [retX, slotL, reduceIte, Nat.reduceEqDiff]
   try have hi0 := i.nn
   have hcw := cumN_wt a
   have hz := szd_cases (Mk.wt a) left
   try have hce : cumN Mk.wt En.dflt a i.k = cumN Mk.wt En.dflt a a.length := by rw [show i.k = a.length by omega]
   congr 2
   omega
  try simp only [cnd] at c3
  refine go [.J,.R1,.m,.N,.b,.a,.Z] (k := ?_)
  refine ⟨⟨i.k + 1, by omega, by simp only [cumN]; omega⟩, Weak.sim ⟨st1, (by simp only [slotL, reduceIte, Nat.reduceEqDiff]; congr 2; simp only [cumN]; omega), rfl, Rf rfl, trivial⟩ rfl rfl, ?_⟩
  show a.length - (i.k + 1) < a.length - i.k
  omega
 try simp only [cnd] at c2
 refine AW.exit ?_
 dsimp only [thenQ, blockQ, reduceIte]
 refine go [.R,.m,.N,.a,.Z] (k := ?_)
 refine rt1 4 ?_
 simp only [retX, slotL, reduceIte, Nat.reduceEqDiff]
 try have hi0 := i.nn
 have hcw := cumN_wt a
 have hz := szd_cases (Mk.wt a) left
 try have hce : cumN Mk.wt En.dflt a i.k = cumN Mk.wt En.dflt a a.length := by rw [show i.k = a.length by omega]
 congr 2
 omega
theorem szIntS_con (a : List Int) (left : Int) (h1 : -1 ≤ left) (h2 : left ≤ 1048576) : Con Tryz.prog 21 [.h base [], .v (iv left)] [.rt base .ro (tr a)] (fun y _ => y = .v (iv (szd (Mk.wt a) left))) := by
 refine ob Tryz.func21 Tryz.ntmps21 ?_
 have hw : Mk.wt a = a.length := by rw [wt_list, wtL_zero (w := Mk.wt) (fun _ => rfl)]; rfl
 refine AW.len base [] rfl (by simp [Okp]) rfl (fun hl => ?_)
 refine go [.R,.a,.Z,.R,.m,.m,.N,.h,.b,.a,.Z,.R2,.m,.N,.b,.Z] (k := ?_)
 refine cd (fun c1 => ?_) fun c1 => ?_
 ·try simp only [cnd] at c1
  refine go [.R,.a,.Z] (k := ?_)
  refine rt1 4 ?_
  simp only [retX, slotL, reduceIte, Nat.reduceEqDiff, szd, hw]
  congr 2
  omega
 try simp only [cnd] at c1
 refine go [.J,.R,.m,.N,.a,.Z] (k := ?_)
 refine rt1 4 ?_
 simp only [retX, slotL, reduceIte, Nat.reduceEqDiff, szd, hw]
 congr 2
 omega
theorem szCpu_con (a : DCpu) (left : Int) (h1 : -1 ≤ left) (h2 : left ≤ 1048576) : Con Tryz.prog 164 [.g [.v (iv a.Pc), .h base []], .v (iv left)] [.rt base .ro (tr a.Regs)] (fun y _ => y = .v (iv (szd (Mk.wt a) left))) := by
 refine ob Tryz.func164 Tryz.ntmps164 ?_
 refine go [.R,.B,.N,.a,.Z,.R,.f,.l,.N,.m] (k := ?_)
 refine cv Tryz.call21 rfl rfl (szIntS_con _ _ (by first | omega | (repeat (first | omega | apply szd_lo))) (by first | omega | (repeat (first | omega | apply szd_hi)))) ?_
 refine go [.N,.a,.Z,.R2,.m,.b,.Z] (k := ?_)
 refine cd (fun c1 => ?_) fun c1 => ?_
 ·try simp only [cnd] at c1
  refine go [.R,.a,.Z] (k := ?_)
  refine rt1 4 ?_
  simp only [retX, slotL, reduceIte, Nat.reduceEqDiff]
  first | rfl | (congr 2; simp only [szd, Mk.wt] at *; omega)
 try simp only [cnd] at c1
 refine go [.J,.R,.m,.N,.a,.Z] (k := ?_)
 refine rt1 4 ?_
 simp only [retX, slotL, reduceIte, Nat.reduceEqDiff]
 first | rfl | (congr 2; simp only [szd, Mk.wt] at *; omega)
theorem szBProc_con (a : DBProc) (left : Int) (h1 : -1 ≤ left) (h2 : left ≤ 1048576) : Con Tryz.prog 90 [.g [.v (iv a.Pid), .v (iv a.Parent), .v (iv a.State), .v (iv a.Prog), .v (iv a.Cpu.Pc), .h base [], .h (base + 1) [], .h (base + 2) [], .v (iv a.Until), .v (iv a.Code)], .v (iv left)] [.rt base .ro (tr a.Cpu.Regs), .rt (base + 1) .ro (tr a.Pages), .rt (base + 2) .ro (tr a.Fds)] (fun y _ => y = .v (iv (szd (Mk.wt a) left))) := by
 refine ob Tryz.func90 Tryz.ntmps90 ?_
 refine go [.R,.B,.N,.a,.Z,.R,.f,.G,.N,.m] (k := ?_)
 refine cv Tryz.call164 rfl rfl (szCpu_con _ _ (by first | omega | (repeat (first | omega | apply szd_lo))) (by first | omega | (repeat (first | omega | apply szd_hi)))) ?_
 refine go [.N,.a,.Z,.R2,.m,.b,.Z] (k := ?_)
 refine cd (fun c1 => ?_) fun c1 => ?_
 ·try simp only [cnd] at c1
  refine go [.R,.a,.Z] (k := ?_)
  refine rt1 4 ?_
  simp only [retX, slotL, reduceIte, Nat.reduceEqDiff]
  first | rfl | (congr 2; simp only [szd, Mk.wt] at *; omega)
 try simp only [cnd] at c1
 refine go [.J,.R,.f,.N,.l,.m] (k := ?_)
 refine cv Tryz.call21 rfl rfl (szIntS_con _ _ (by first | omega | (repeat (first | omega | apply szd_lo))) (by first | omega | (repeat (first | omega | apply szd_hi)))) ?_
 refine go [.N,.a,.Z,.R2,.m,.b,.Z] (k := ?_)
 refine cd (fun c2 => ?_) fun c2 => ?_
 ·try simp only [cnd] at c2
  refine go [.R,.a,.Z] (k := ?_)
  refine rt1 4 ?_
  simp only [retX, slotL, reduceIte, Nat.reduceEqDiff]
  first | rfl | (congr 2; simp only [szd, Mk.wt] at *; omega)
 try simp only [cnd] at c2
 refine go [.J,.R,.f,.N,.l,.m] (k := ?_)
 refine cv Tryz.call21 rfl rfl (szIntS_con _ _ (by first | omega | (repeat (first | omega | apply szd_lo))) (by first | omega | (repeat (first | omega | apply szd_hi)))) ?_
 refine go [.N,.a,.Z,.R2,.m,.b,.Z] (k := ?_)
 refine cd (fun c3 => ?_) fun c3 => ?_
 ·try simp only [cnd] at c3
  refine go [.R,.a,.Z] (k := ?_)
  refine rt1 4 ?_
  simp only [retX, slotL, reduceIte, Nat.reduceEqDiff]
  first | rfl | (congr 2; simp only [szd, Mk.wt] at *; omega)
 try simp only [cnd] at c3
 refine go [.J,.R,.m,.N,.a,.Z] (k := ?_)
 refine rt1 4 ?_
 simp only [retX, slotL, reduceIte, Nat.reduceEqDiff]
 first | rfl | (congr 2; simp only [szd, Mk.wt] at *; omega)
theorem szBProcS_con (a : List DBProc) (left : Int) (h1 : -1 ≤ left) (h2 : left ≤ 1048576) : Con Tryz.prog 20 [.h base [], .v (iv left)] [.rt base .ro (tr a)] (fun y _ => y = .v (iv (szd (Mk.wt a) left))) := by
 refine ob Tryz.func20 Tryz.ntmps20 ?_
 have hw : Mk.wt a = a.length + wtL Mk.wt a := rfl
 refine AW.len base [] rfl (by simp [Okp]) rfl (fun hl => ?_)
 refine go [.R,.a,.Z,.R,.m,.m,.N,.h,.b,.a,.Z,.R2,.m,.N,.b,.Z] (k := ?_)
 refine cd (fun c1 => ?_) fun c1 => ?_
 ·try simp only [cnd] at c1
  refine go [.R,.a,.Z] (k := ?_)
  refine rt1 4 ?_
  simp only [retX, slotL, reduceIte, Nat.reduceEqDiff]
  try have hi0 := i.nn
  have hcw := cumN_wt a
  have hz := szd_cases (Mk.wt a) left
  try have hce : cumN Mk.wt En.dflt a i.k = cumN Mk.wt En.dflt a a.length := by rw [show i.k = a.length by omega]
  congr 2
  omega
 try simp only [cnd] at c1
 refine jd (sr2 ?_)
 refine go [.a,.Z] (k := ?_)
 refine AW.block ?_
 refine AW.weak (L' := [.sl 5 (.v (iv (0 : Nat))), .sl 1 (.v (iv (left - a.length - (cumN Mk.wt En.dflt a 0 : Nat)))), .sl 0 (.h base []), .rt base .ro (tr a)]) (Weak.sim ⟨rfl, (by simp only [slotL, reduceIte, Nat.reduceEqDiff]; show X.v (iv (left - a.length)) = _; simp [cumN]), rfl, Rf rfl, trivial⟩ rfl rfl) ?_
 refine AW.loop (fun i : SzInv left a => [.sl 5 (.v (iv i.k)), .sl 1 (.v (iv (left - a.length - (cumN Mk.wt En.dflt a i.k : Nat)))), .sl 0 (.h base []), .rt base .ro (tr a)]) (fun i => a.length - i.k) ⟨0, Nat.zero_le _, by simp only [cumN]; omega⟩ ?_
 intro i
 have hle := i.le
 refine go [.R2,.m,.N,.m,.h,.b,.Z] (k := ?_)
 refine cd (fun c2 => ?_) fun c2 => ?_
 ·try simp only [cnd] at c2
  have hi0 := i.nn
  have hcw := cumN_wt a
  have hc1 := cumN_mono (c := Mk.wt) (d := En.dflt) (l := a) (show i.k + 1 ≤ a.length by omega)
  simp only [cumN] at hc1
  have hz2 := szd_cases (Mk.wt (a.getD i.k En.dflt)) (left - a.length - (cumN Mk.wt En.dflt a i.k : Nat))
  refine jd (AW.seq (AW.block (sr ?_)))
  refine go [.m,.N,.m,.i,.G,.N,.m] (k := ?_)
  refine cv Tryz.call90 rfl rfl (szBProc_con _ _ (by first | omega | (repeat (first | omega | apply szd_lo))) (by first | omega | (repeat (first | omega | apply szd_hi)))) ?_
  refine go [.N,.a,.Z,.R,.m,.b,.Z] (k := ?_)
  refine cd (fun c3 => ?_) fun c3 => ?_
  ·try simp only [cnd] at c3
   refine go [.R,.a,.Z] (k := ?_)
   refine rt1 4 ?_
   simp only [retX, slotL, reduceIte, Nat.reduceEqDiff]
   try have hi0 := i.nn
   have hcw := cumN_wt a
   have hz := szd_cases (Mk.wt a) left
   try have hce : cumN Mk.wt En.dflt a i.k = cumN Mk.wt En.dflt a a.length := by rw [show i.k = a.length by omega]
   congr 2
   omega
  try simp only [cnd] at c3
  refine go [.J,.R1,.m,.N,.b,.a,.Z] (k := ?_)
  refine ⟨⟨i.k + 1, by omega, by simp only [cumN]; omega⟩, Weak.sim ⟨st1, (by simp only [slotL, reduceIte, Nat.reduceEqDiff]; congr 2; simp only [cumN]; omega), rfl, Rf rfl, trivial⟩ rfl rfl, ?_⟩
  show a.length - (i.k + 1) < a.length - i.k
  omega
 try simp only [cnd] at c2
 refine AW.exit ?_
 dsimp only [thenQ, blockQ, reduceIte]
 refine go [.R,.m,.N,.a,.Z] (k := ?_)
 refine rt1 4 ?_
 simp only [retX, slotL, reduceIte, Nat.reduceEqDiff]
 try have hi0 := i.nn
 have hcw := cumN_wt a
 have hz := szd_cases (Mk.wt a) left
 try have hce : cumN Mk.wt En.dflt a i.k = cumN Mk.wt En.dflt a a.length := by rw [show i.k = a.length by omega]
 congr 2
 omega
theorem szIntSS_con (a : List (List Int)) (left : Int) (h1 : -1 ≤ left) (h2 : left ≤ 1048576) : Con Tryz.prog 91 [.h base [], .v (iv left)] [.rt base .ro (tr a)] (fun y _ => y = .v (iv (szd (Mk.wt a) left))) := by
 refine ob Tryz.func91 Tryz.ntmps91 ?_
 have hw : Mk.wt a = a.length + wtL Mk.wt a := rfl
 refine AW.len base [] rfl (by simp [Okp]) rfl (fun hl => ?_)
 refine go [.R,.a,.Z,.R,.m,.m,.N,.h,.b,.a,.Z,.R2,.m,.N,.b,.Z] (k := ?_)
 refine cd (fun c1 => ?_) fun c1 => ?_
 ·try simp only [cnd] at c1
  refine go [.R,.a,.Z] (k := ?_)
  refine rt1 4 ?_
  simp only [retX, slotL, reduceIte, Nat.reduceEqDiff]
  try have hi0 := i.nn
  have hcw := cumN_wt a
  have hz := szd_cases (Mk.wt a) left
  try have hce : cumN Mk.wt En.dflt a i.k = cumN Mk.wt En.dflt a a.length := by rw [show i.k = a.length by omega]
  congr 2
  omega
 try simp only [cnd] at c1
 refine jd (sr2 ?_)
 refine go [.a,.Z] (k := ?_)
 refine AW.block ?_
 refine AW.weak (L' := [.sl 5 (.v (iv (0 : Nat))), .sl 1 (.v (iv (left - a.length - (cumN Mk.wt En.dflt a 0 : Nat)))), .sl 0 (.h base []), .rt base .ro (tr a)]) (Weak.sim ⟨rfl, (by simp only [slotL, reduceIte, Nat.reduceEqDiff]; show X.v (iv (left - a.length)) = _; simp [cumN]), rfl, Rf rfl, trivial⟩ rfl rfl) ?_
 refine AW.loop (fun i : SzInv left a => [.sl 5 (.v (iv i.k)), .sl 1 (.v (iv (left - a.length - (cumN Mk.wt En.dflt a i.k : Nat)))), .sl 0 (.h base []), .rt base .ro (tr a)]) (fun i => a.length - i.k) ⟨0, Nat.zero_le _, by simp only [cumN]; omega⟩ ?_
 intro i
 have hle := i.le
 refine go [.R2,.m,.N,.m,.h,.b,.Z] (k := ?_)
 refine cd (fun c2 => ?_) fun c2 => ?_
 ·try simp only [cnd] at c2
  have hi0 := i.nn
  have hcw := cumN_wt a
  have hc1 := cumN_mono (c := Mk.wt) (d := En.dflt) (l := a) (show i.k + 1 ≤ a.length by omega)
  simp only [cumN] at hc1
  have hz2 := szd_cases (Mk.wt (a.getD i.k En.dflt)) (left - a.length - (cumN Mk.wt En.dflt a i.k : Nat))
  refine jd (AW.seq (AW.block (sr ?_)))
  refine go [.m,.N,.m,.i,.l,.N,.m] (k := ?_)
  refine cv Tryz.call21 rfl rfl (szIntS_con _ _ (by first | omega | (repeat (first | omega | apply szd_lo))) (by first | omega | (repeat (first | omega | apply szd_hi)))) ?_
  refine go [.N,.a,.Z,.R,.m,.b,.Z] (k := ?_)
  refine cd (fun c3 => ?_) fun c3 => ?_
  ·try simp only [cnd] at c3
   refine go [.R,.a,.Z] (k := ?_)
   refine rt1 4 ?_
   simp only [retX, slotL, reduceIte, Nat.reduceEqDiff]
   try have hi0 := i.nn
   have hcw := cumN_wt a
   have hz := szd_cases (Mk.wt a) left
   try have hce : cumN Mk.wt En.dflt a i.k = cumN Mk.wt En.dflt a a.length := by rw [show i.k = a.length by omega]
   congr 2
   omega
  try simp only [cnd] at c3
  refine go [.J,.R1,.m,.N,.b,.a,.Z] (k := ?_)
  refine ⟨⟨i.k + 1, by omega, by simp only [cumN]; omega⟩, Weak.sim ⟨st1, (by simp only [slotL, reduceIte, Nat.reduceEqDiff]; congr 2; simp only [cumN]; omega), rfl, Rf rfl, trivial⟩ rfl rfl, ?_⟩
  show a.length - (i.k + 1) < a.length - i.k
  omega
 try simp only [cnd] at c2
 refine AW.exit ?_
 dsimp only [thenQ, blockQ, reduceIte]
 refine go [.R,.m,.N,.a,.Z] (k := ?_)
 refine rt1 4 ?_
 simp only [retX, slotL, reduceIte, Nat.reduceEqDiff]
 try have hi0 := i.nn
 have hcw := cumN_wt a
 have hz := szd_cases (Mk.wt a) left
 try have hce : cumN Mk.wt En.dflt a i.k = cumN Mk.wt En.dflt a a.length := by rw [show i.k = a.length by omega]
 congr 2
 omega
theorem szBuddy_con (a : DBuddy) (left : Int) (h1 : -1 ≤ left) (h2 : left ≤ 1048576) : Con Tryz.prog 22 [.g [.h base []], .v (iv left)] [.rt base .ro (tr a.Free)] (fun y _ => y = .v (iv (szd (Mk.wt a) left))) := by
 refine ob Tryz.func22 Tryz.ntmps22 ?_
 refine go [.R,.B,.N,.a,.Z,.R,.f,.l,.N,.m] (k := ?_)
 refine cv Tryz.call91 rfl rfl (szIntSS_con _ _ (by first | omega | (repeat (first | omega | apply szd_lo))) (by first | omega | (repeat (first | omega | apply szd_hi)))) ?_
 refine go [.N,.a,.Z,.R2,.m,.b,.Z] (k := ?_)
 refine cd (fun c1 => ?_) fun c1 => ?_
 ·try simp only [cnd] at c1
  refine go [.R,.a,.Z] (k := ?_)
  refine rt1 4 ?_
  simp only [retX, slotL, reduceIte, Nat.reduceEqDiff]
  first | rfl | (congr 2; simp only [szd, Mk.wt] at *; omega)
 try simp only [cnd] at c1
 refine go [.J,.R,.m,.N,.a,.Z] (k := ?_)
 refine rt1 4 ?_
 simp only [retX, slotL, reduceIte, Nat.reduceEqDiff]
 first | rfl | (congr 2; simp only [szd, Mk.wt] at *; omega)
theorem szOpenS_con (a : List DOpen) (left : Int) (h1 : -1 ≤ left) (h2 : left ≤ 1048576) : Con Tryz.prog 23 [.h base [], .v (iv left)] [.rt base .ro (tr a)] (fun y _ => y = .v (iv (szd (Mk.wt a) left))) := by
 refine ob Tryz.func23 Tryz.ntmps23 ?_
 have hw : Mk.wt a = a.length := by rw [wt_list, wtL_zero (w := Mk.wt) (fun _ => rfl)]; rfl
 refine AW.len base [] rfl (by simp [Okp]) rfl (fun hl => ?_)
 refine go [.R,.a,.Z,.R,.m,.m,.N,.h,.b,.a,.Z,.R2,.m,.N,.b,.Z] (k := ?_)
 refine cd (fun c1 => ?_) fun c1 => ?_
 ·try simp only [cnd] at c1
  refine go [.R,.a,.Z] (k := ?_)
  refine rt1 4 ?_
  simp only [retX, slotL, reduceIte, Nat.reduceEqDiff, szd, hw]
  congr 2
  omega
 try simp only [cnd] at c1
 refine go [.J,.R,.m,.N,.a,.Z] (k := ?_)
 refine rt1 4 ?_
 simp only [retX, slotL, reduceIte, Nat.reduceEqDiff, szd, hw]
 congr 2
 omega
theorem szBPipe_con (a : DBPipe) (left : Int) (h1 : -1 ≤ left) (h2 : left ≤ 1048576) : Con Tryz.prog 92 [.g [.v (iv a.Id), .h base []], .v (iv left)] [.rt base .ro (tr a.Chunks)] (fun y _ => y = .v (iv (szd (Mk.wt a) left))) := by
 refine ob Tryz.func92 Tryz.ntmps92 ?_
 refine go [.R,.B,.N,.a,.Z,.R,.f,.l,.N,.m] (k := ?_)
 refine cv Tryz.call91 rfl rfl (szIntSS_con _ _ (by first | omega | (repeat (first | omega | apply szd_lo))) (by first | omega | (repeat (first | omega | apply szd_hi)))) ?_
 refine go [.N,.a,.Z,.R2,.m,.b,.Z] (k := ?_)
 refine cd (fun c1 => ?_) fun c1 => ?_
 ·try simp only [cnd] at c1
  refine go [.R,.a,.Z] (k := ?_)
  refine rt1 4 ?_
  simp only [retX, slotL, reduceIte, Nat.reduceEqDiff]
  first | rfl | (congr 2; simp only [szd, Mk.wt] at *; omega)
 try simp only [cnd] at c1
 refine go [.J,.R,.m,.N,.a,.Z] (k := ?_)
 refine rt1 4 ?_
 simp only [retX, slotL, reduceIte, Nat.reduceEqDiff]
 first | rfl | (congr 2; simp only [szd, Mk.wt] at *; omega)
theorem szBPipeS_con (a : List DBPipe) (left : Int) (h1 : -1 ≤ left) (h2 : left ≤ 1048576) : Con Tryz.prog 24 [.h base [], .v (iv left)] [.rt base .ro (tr a)] (fun y _ => y = .v (iv (szd (Mk.wt a) left))) := by
 refine ob Tryz.func24 Tryz.ntmps24 ?_
 have hw : Mk.wt a = a.length + wtL Mk.wt a := rfl
 refine AW.len base [] rfl (by simp [Okp]) rfl (fun hl => ?_)
 refine go [.R,.a,.Z,.R,.m,.m,.N,.h,.b,.a,.Z,.R2,.m,.N,.b,.Z] (k := ?_)
 refine cd (fun c1 => ?_) fun c1 => ?_
 ·try simp only [cnd] at c1
  refine go [.R,.a,.Z] (k := ?_)
  refine rt1 4 ?_
  simp only [retX, slotL, reduceIte, Nat.reduceEqDiff]
  try have hi0 := i.nn
  have hcw := cumN_wt a
  have hz := szd_cases (Mk.wt a) left
  try have hce : cumN Mk.wt En.dflt a i.k = cumN Mk.wt En.dflt a a.length := by rw [show i.k = a.length by omega]
  congr 2
  omega
 try simp only [cnd] at c1
 refine jd (sr2 ?_)
 refine go [.a,.Z] (k := ?_)
 refine AW.block ?_
 refine AW.weak (L' := [.sl 5 (.v (iv (0 : Nat))), .sl 1 (.v (iv (left - a.length - (cumN Mk.wt En.dflt a 0 : Nat)))), .sl 0 (.h base []), .rt base .ro (tr a)]) (Weak.sim ⟨rfl, (by simp only [slotL, reduceIte, Nat.reduceEqDiff]; show X.v (iv (left - a.length)) = _; simp [cumN]), rfl, Rf rfl, trivial⟩ rfl rfl) ?_
 refine AW.loop (fun i : SzInv left a => [.sl 5 (.v (iv i.k)), .sl 1 (.v (iv (left - a.length - (cumN Mk.wt En.dflt a i.k : Nat)))), .sl 0 (.h base []), .rt base .ro (tr a)]) (fun i => a.length - i.k) ⟨0, Nat.zero_le _, by simp only [cumN]; omega⟩ ?_
 intro i
 have hle := i.le
 refine go [.R2,.m,.N,.m,.h,.b,.Z] (k := ?_)
 refine cd (fun c2 => ?_) fun c2 => ?_
 ·try simp only [cnd] at c2
  have hi0 := i.nn
  have hcw := cumN_wt a
  have hc1 := cumN_mono (c := Mk.wt) (d := En.dflt) (l := a) (show i.k + 1 ≤ a.length by omega)
  simp only [cumN] at hc1
  have hz2 := szd_cases (Mk.wt (a.getD i.k En.dflt)) (left - a.length - (cumN Mk.wt En.dflt a i.k : Nat))
  refine jd (AW.seq (AW.block (sr ?_)))
  refine go [.m,.N,.m,.i,.G,.N,.m] (k := ?_)
  refine cv Tryz.call92 rfl rfl (szBPipe_con _ _ (by first | omega | (repeat (first | omega | apply szd_lo))) (by first | omega | (repeat (first | omega | apply szd_hi)))) ?_
  refine go [.N,.a,.Z,.R,.m,.b,.Z] (k := ?_)
  refine cd (fun c3 => ?_) fun c3 => ?_
  ·try simp only [cnd] at c3
   refine go [.R,.a,.Z] (k := ?_)
   refine rt1 4 ?_
   simp only [retX, slotL, reduceIte, Nat.reduceEqDiff]
   try have hi0 := i.nn
   have hcw := cumN_wt a
   have hz := szd_cases (Mk.wt a) left
   try have hce : cumN Mk.wt En.dflt a i.k = cumN Mk.wt En.dflt a a.length := by rw [show i.k = a.length by omega]
   congr 2
   omega
  try simp only [cnd] at c3
  refine go [.J,.R1,.m,.N,.b,.a,.Z] (k := ?_)
  refine ⟨⟨i.k + 1, by omega, by simp only [cumN]; omega⟩, Weak.sim ⟨st1, (by simp only [slotL, reduceIte, Nat.reduceEqDiff]; congr 2; simp only [cumN]; omega), rfl, Rf rfl, trivial⟩ rfl rfl, ?_⟩
  show a.length - (i.k + 1) < a.length - i.k
  omega
 try simp only [cnd] at c2
 refine AW.exit ?_
 dsimp only [thenQ, blockQ, reduceIte]
 refine go [.R,.m,.N,.a,.Z] (k := ?_)
 refine rt1 4 ?_
 simp only [retX, slotL, reduceIte, Nat.reduceEqDiff]
 try have hi0 := i.nn
 have hcw := cumN_wt a
 have hz := szd_cases (Mk.wt a) left
 try have hce : cumN Mk.wt En.dflt a i.k = cumN Mk.wt En.dflt a a.length := by rw [show i.k = a.length by omega]
 congr 2
 omega
theorem szFile_con (a : DFile) (left : Int) (h1 : -1 ≤ left) (h2 : left ≤ 1048576) : Con Tryz.prog 93 [.g [.v (iv a.Name), .h base []], .v (iv left)] [.rt base .ro (tr a.Data)] (fun y _ => y = .v (iv (szd (Mk.wt a) left))) := by
 refine ob Tryz.func93 Tryz.ntmps93 ?_
 refine go [.R,.B,.N,.a,.Z,.R,.f,.l,.N,.m] (k := ?_)
 refine cv Tryz.call21 rfl rfl (szIntS_con _ _ (by first | omega | (repeat (first | omega | apply szd_lo))) (by first | omega | (repeat (first | omega | apply szd_hi)))) ?_
 refine go [.N,.a,.Z,.R2,.m,.b,.Z] (k := ?_)
 refine cd (fun c1 => ?_) fun c1 => ?_
 ·try simp only [cnd] at c1
  refine go [.R,.a,.Z] (k := ?_)
  refine rt1 4 ?_
  simp only [retX, slotL, reduceIte, Nat.reduceEqDiff]
  first | rfl | (congr 2; simp only [szd, Mk.wt] at *; omega)
 try simp only [cnd] at c1
 refine go [.J,.R,.m,.N,.a,.Z] (k := ?_)
 refine rt1 4 ?_
 simp only [retX, slotL, reduceIte, Nat.reduceEqDiff]
 first | rfl | (congr 2; simp only [szd, Mk.wt] at *; omega)
theorem szFileS_con (a : List DFile) (left : Int) (h1 : -1 ≤ left) (h2 : left ≤ 1048576) : Con Tryz.prog 25 [.h base [], .v (iv left)] [.rt base .ro (tr a)] (fun y _ => y = .v (iv (szd (Mk.wt a) left))) := by
 refine ob Tryz.func25 Tryz.ntmps25 ?_
 have hw : Mk.wt a = a.length + wtL Mk.wt a := rfl
 refine AW.len base [] rfl (by simp [Okp]) rfl (fun hl => ?_)
 refine go [.R,.a,.Z,.R,.m,.m,.N,.h,.b,.a,.Z,.R2,.m,.N,.b,.Z] (k := ?_)
 refine cd (fun c1 => ?_) fun c1 => ?_
 ·try simp only [cnd] at c1
  refine go [.R,.a,.Z] (k := ?_)
  refine rt1 4 ?_
  simp only [retX, slotL, reduceIte, Nat.reduceEqDiff]
  try have hi0 := i.nn
  have hcw := cumN_wt a
  have hz := szd_cases (Mk.wt a) left
  try have hce : cumN Mk.wt En.dflt a i.k = cumN Mk.wt En.dflt a a.length := by rw [show i.k = a.length by omega]
  congr 2
  omega
 try simp only [cnd] at c1
 refine jd (sr2 ?_)
 refine go [.a,.Z] (k := ?_)
 refine AW.block ?_
 refine AW.weak (L' := [.sl 5 (.v (iv (0 : Nat))), .sl 1 (.v (iv (left - a.length - (cumN Mk.wt En.dflt a 0 : Nat)))), .sl 0 (.h base []), .rt base .ro (tr a)]) (Weak.sim ⟨rfl, (by simp only [slotL, reduceIte, Nat.reduceEqDiff]; show X.v (iv (left - a.length)) = _; simp [cumN]), rfl, Rf rfl, trivial⟩ rfl rfl) ?_
 refine AW.loop (fun i : SzInv left a => [.sl 5 (.v (iv i.k)), .sl 1 (.v (iv (left - a.length - (cumN Mk.wt En.dflt a i.k : Nat)))), .sl 0 (.h base []), .rt base .ro (tr a)]) (fun i => a.length - i.k) ⟨0, Nat.zero_le _, by simp only [cumN]; omega⟩ ?_
 intro i
 have hle := i.le
 refine go [.R2,.m,.N,.m,.h,.b,.Z] (k := ?_)
 refine cd (fun c2 => ?_) fun c2 => ?_
 ·try simp only [cnd] at c2
  have hi0 := i.nn
  have hcw := cumN_wt a
  have hc1 := cumN_mono (c := Mk.wt) (d := En.dflt) (l := a) (show i.k + 1 ≤ a.length by omega)
  simp only [cumN] at hc1
  have hz2 := szd_cases (Mk.wt (a.getD i.k En.dflt)) (left - a.length - (cumN Mk.wt En.dflt a i.k : Nat))
  refine jd (AW.seq (AW.block (sr ?_)))
  refine go [.m,.N,.m,.i,.G,.N,.m] (k := ?_)
  refine cv Tryz.call93 rfl rfl (szFile_con _ _ (by first | omega | (repeat (first | omega | apply szd_lo))) (by first | omega | (repeat (first | omega | apply szd_hi)))) ?_
  refine go [.N,.a,.Z,.R,.m,.b,.Z] (k := ?_)
  refine cd (fun c3 => ?_) fun c3 => ?_
  ·try simp only [cnd] at c3
   refine go [.R,.a,.Z] (k := ?_)
   refine rt1 4 ?_
   simp only [retX, slotL, reduceIte, Nat.reduceEqDiff]
   try have hi0 := i.nn
   have hcw := cumN_wt a
   have hz := szd_cases (Mk.wt a) left
   try have hce : cumN Mk.wt En.dflt a i.k = cumN Mk.wt En.dflt a a.length := by rw [show i.k = a.length by omega]
   congr 2
   omega
  try simp only [cnd] at c3
  refine go [.J,.R1,.m,.N,.b,.a,.Z] (k := ?_)
  refine ⟨⟨i.k + 1, by omega, by simp only [cumN]; omega⟩, Weak.sim ⟨st1, (by simp only [slotL, reduceIte, Nat.reduceEqDiff]; congr 2; simp only [cumN]; omega), rfl, Rf rfl, trivial⟩ rfl rfl, ?_⟩
  show a.length - (i.k + 1) < a.length - i.k
  omega
 try simp only [cnd] at c2
 refine AW.exit ?_
 dsimp only [thenQ, blockQ, reduceIte]
 refine go [.R,.m,.N,.a,.Z] (k := ?_)
 refine rt1 4 ?_
 simp only [retX, slotL, reduceIte, Nat.reduceEqDiff]
 try have hi0 := i.nn
 have hcw := cumN_wt a
 have hz := szd_cases (Mk.wt a) left
 try have hce : cumN Mk.wt En.dflt a i.k = cumN Mk.wt En.dflt a a.length := by rw [show i.k = a.length by omega]
 congr 2
 omega
theorem szNodes_con (a : DNodes) (left : Int) (h1 : -1 ≤ left) (h2 : left ≤ 1048576) : Con Tryz.prog 6 [.g [.v (iv a.Next), .v (iv a.Tick), .h base [], .h (base + 1) [], .h (base + 2) [], .h (base + 3) [], .h (base + 4) [], .h (base + 5) [], .h (base + 6) [], .h (base + 7) [], .h (base + 8) []], .v (iv left)] [.rt base .ro (tr a.Progs), .rt (base + 1) .ro (tr a.Procs), .rt (base + 2) .ro (tr a.Ram), .rt (base + 3) .ro (tr a.Heap.Free), .rt (base + 4) .ro (tr a.Opens), .rt (base + 5) .ro (tr a.Pipes), .rt (base + 6) .ro (tr a.Files), .rt (base + 7) .ro (tr a.Ready), .rt (base + 8) .ro (tr a.Out)] (fun y _ => y = .v (iv (szd (Mk.wt a) left))) := by
 refine ob Tryz.func6 Tryz.ntmps6 ?_
 refine go [.R,.B,.N,.a,.Z,.R,.f,.l,.N,.m] (k := ?_)
 refine cv Tryz.call19 rfl rfl (szInsSS_con _ _ (by first | omega | (repeat (first | omega | apply szd_lo))) (by first | omega | (repeat (first | omega | apply szd_hi)))) ?_
 refine go [.N,.a,.Z,.R2,.m,.b,.Z] (k := ?_)
 refine cd (fun c1 => ?_) fun c1 => ?_
 ·try simp only [cnd] at c1
  refine go [.R,.a,.Z] (k := ?_)
  refine rt1 4 ?_
  simp only [retX, slotL, reduceIte, Nat.reduceEqDiff]
  first | rfl | (congr 2; simp only [szd, Mk.wt] at *; omega)
 try simp only [cnd] at c1
 refine go [.J,.R,.f,.N,.l,.m] (k := ?_)
 refine cv Tryz.call20 rfl rfl (szBProcS_con _ _ (by first | omega | (repeat (first | omega | apply szd_lo))) (by first | omega | (repeat (first | omega | apply szd_hi)))) ?_
 refine go [.N,.a,.Z,.R2,.m,.b,.Z] (k := ?_)
 refine cd (fun c2 => ?_) fun c2 => ?_
 ·try simp only [cnd] at c2
  refine go [.R,.a,.Z] (k := ?_)
  refine rt1 4 ?_
  simp only [retX, slotL, reduceIte, Nat.reduceEqDiff]
  first | rfl | (congr 2; simp only [szd, Mk.wt] at *; omega)
 try simp only [cnd] at c2
 refine go [.J,.R,.f,.N,.l,.m] (k := ?_)
 refine cv Tryz.call21 rfl rfl (szIntS_con _ _ (by first | omega | (repeat (first | omega | apply szd_lo))) (by first | omega | (repeat (first | omega | apply szd_hi)))) ?_
 refine go [.N,.a,.Z,.R2,.m,.b,.Z] (k := ?_)
 refine cd (fun c3 => ?_) fun c3 => ?_
 ·try simp only [cnd] at c3
  refine go [.R,.a,.Z] (k := ?_)
  refine rt1 4 ?_
  simp only [retX, slotL, reduceIte, Nat.reduceEqDiff]
  first | rfl | (congr 2; simp only [szd, Mk.wt] at *; omega)
 try simp only [cnd] at c3
 refine go [.J,.R,.f,.N,.G,.m] (k := ?_)
 refine cv Tryz.call22 rfl rfl (szBuddy_con _ _ (by first | omega | (repeat (first | omega | apply szd_lo))) (by first | omega | (repeat (first | omega | apply szd_hi)))) ?_
 refine go [.N,.a,.Z,.R2,.m,.b,.Z] (k := ?_)
 refine cd (fun c4 => ?_) fun c4 => ?_
 ·try simp only [cnd] at c4
  refine go [.R,.a,.Z] (k := ?_)
  refine rt1 4 ?_
  simp only [retX, slotL, reduceIte, Nat.reduceEqDiff]
  first | rfl | (congr 2; simp only [szd, Mk.wt] at *; omega)
 try simp only [cnd] at c4
 refine go [.J,.R,.f,.N,.l,.m] (k := ?_)
 refine cv Tryz.call23 rfl rfl (szOpenS_con _ _ (by first | omega | (repeat (first | omega | apply szd_lo))) (by first | omega | (repeat (first | omega | apply szd_hi)))) ?_
 refine go [.N,.a,.Z,.R2,.m,.b,.Z] (k := ?_)
 refine cd (fun c5 => ?_) fun c5 => ?_
 ·try simp only [cnd] at c5
  refine go [.R,.a,.Z] (k := ?_)
  refine rt1 4 ?_
  simp only [retX, slotL, reduceIte, Nat.reduceEqDiff]
  first | rfl | (congr 2; simp only [szd, Mk.wt] at *; omega)
 try simp only [cnd] at c5
 refine go [.J,.R,.f,.N,.l,.m] (k := ?_)
 refine cv Tryz.call24 rfl rfl (szBPipeS_con _ _ (by first | omega | (repeat (first | omega | apply szd_lo))) (by first | omega | (repeat (first | omega | apply szd_hi)))) ?_
 refine go [.N,.a,.Z,.R2,.m,.b,.Z] (k := ?_)
 refine cd (fun c6 => ?_) fun c6 => ?_
 ·try simp only [cnd] at c6
  refine go [.R,.a,.Z] (k := ?_)
  refine rt1 4 ?_
  simp only [retX, slotL, reduceIte, Nat.reduceEqDiff]
  first | rfl | (congr 2; simp only [szd, Mk.wt] at *; omega)
 try simp only [cnd] at c6
 refine go [.J,.R,.f,.N,.l,.m] (k := ?_)
 refine cv Tryz.call25 rfl rfl (szFileS_con _ _ (by first | omega | (repeat (first | omega | apply szd_lo))) (by first | omega | (repeat (first | omega | apply szd_hi)))) ?_
 refine go [.N,.a,.Z,.R2,.m,.b,.Z] (k := ?_)
 refine cd (fun c7 => ?_) fun c7 => ?_
 ·try simp only [cnd] at c7
  refine go [.R,.a,.Z] (k := ?_)
  refine rt1 4 ?_
  simp only [retX, slotL, reduceIte, Nat.reduceEqDiff]
  first | rfl | (congr 2; simp only [szd, Mk.wt] at *; omega)
 try simp only [cnd] at c7
 refine go [.J,.R,.f,.N,.l,.m] (k := ?_)
 refine cv Tryz.call21 rfl rfl (szIntS_con _ _ (by first | omega | (repeat (first | omega | apply szd_lo))) (by first | omega | (repeat (first | omega | apply szd_hi)))) ?_
 refine go [.N,.a,.Z,.R2,.m,.b,.Z] (k := ?_)
 refine cd (fun c8 => ?_) fun c8 => ?_
 ·try simp only [cnd] at c8
  refine go [.R,.a,.Z] (k := ?_)
  refine rt1 4 ?_
  simp only [retX, slotL, reduceIte, Nat.reduceEqDiff]
  first | rfl | (congr 2; simp only [szd, Mk.wt] at *; omega)
 try simp only [cnd] at c8
 refine go [.J,.R,.f,.N,.l,.m] (k := ?_)
 refine cv Tryz.call21 rfl rfl (szIntS_con _ _ (by first | omega | (repeat (first | omega | apply szd_lo))) (by first | omega | (repeat (first | omega | apply szd_hi)))) ?_
 refine go [.N,.a,.Z,.R2,.m,.b,.Z] (k := ?_)
 refine cd (fun c9 => ?_) fun c9 => ?_
 ·try simp only [cnd] at c9
  refine go [.R,.a,.Z] (k := ?_)
  refine rt1 4 ?_
  simp only [retX, slotL, reduceIte, Nat.reduceEqDiff]
  first | rfl | (congr 2; simp only [szd, Mk.wt] at *; omega)
 try simp only [cnd] at c9
 refine go [.J,.R,.m,.N,.a,.Z] (k := ?_)
 refine rt1 4 ?_
 simp only [retX, slotL, reduceIte, Nat.reduceEqDiff]
 first | rfl | (congr 2; simp only [szd, Mk.wt] at *; omega)
theorem toIns_con (a : DIns) : Con Tryz.prog 165 [.g [.v (iv a.Op), .v (iv a.A), .v (iv a.B), .v (iv a.C)]] [] (Ret (.g [.v (iv a.Op), .v (iv a.A), .v (iv a.B), .v (iv a.C)]) []) := by
 refine ob Tryz.func165 Tryz.ntmps165 ?_
 refine go [.R,.B,.N,.A,.Z,.R,.A,.Z,.R,.f,.N,.l,.f,.s,.Z,.R,.f,.N,.l,.f,.s,.Z,.R,.f,.N,.l,.f,.s,.Z,.R,.f,.N,.l,.f,.s,.Z,.R,.G,.N,.s,.Z] (k := ?_)
 refine AW.ret (endQ_ret (.cons (.cellG 2 156 rfl rfl rfl ag156 sz156 (by decide)) .nil) ?_)
 refine ⟨fun _ => 0, rfl, nodup_of rfl, ?_⟩
 intro r hr
 cases hr
theorem toInsS_con (a : List DIns) (hw : Mk.wt a ≤ 1048576) : Con Tryz.prog 102 [.h base []] [.rt base .ro (tr a)] (Ret (.h 0 []) [(0, .row, tr a)]) := by
 refine ob Tryz.func102 Tryz.ntmps102 ?_
 have hw2 : a.length + wtL Mk.wt a ≤ 1048576 := hw
 refine go [.R,.a,.Z,.R,.m,.h,.N] (k := ?_)
 refine sp (Stp.makeSlice rfl (by decide) (by decide) rfl rfl (by omega) (by omega) (by omega)) ?_
 refine go [.N,.a,.Z,.R2,.a,.Z] (k := ?_)
 refine AW.block ?_
 refine AW.weak (L' := [.sl 4 (.v (iv (0 : Nat))), .sl 3 (.h 7 []), .sl 0 (.h base []), .rt 7 .row (trMix (0 : Nat) a.length (fun j => a.getD j En.dflt) fun _ => En.dflt), .rt base .ro (tr a)]) (Weak.sim ⟨rfl, rfl, rfl, ⟨_, rfl, (trMix_start rfl (fun c hc => match c, hc with | 0, _ => tsr | 1, _ => tsr | 2, _ => tsr | 3, _ => tsr | c + 4, hc => absurd hc (by simp only [En.n]; omega)))⟩, Rf rfl, trivial⟩ rfl rfl) ?_
 refine AW.loop (fun i : KInv a.length => [.sl 4 (.v (iv i.k)), .sl 3 (.h 7 []), .sl 0 (.h base []), .rt 7 .row (trMix i.k a.length (fun j => a.getD j En.dflt) fun _ => En.dflt), .rt base .ro (tr a)]) (fun i => a.length - i.k) ⟨0, Nat.zero_le _⟩ ?_
 intro i
 have hle := i.le
 refine go [.R2,.m,.N,.m,.h,.b,.Z] (k := ?_)
 refine cd (fun c1 => ?_) fun c1 => ?_
 ·try simp only [cnd] at c1
  have hwk := wtL_get (w := Mk.wt) (d := En.dflt) (l := a) (i := i.k) (by omega)
  refine jd (AW.seq (AW.block (AW.region ?_)))
  refine go [.m,.N,.m,.m,.m,.N,.i,.G] (k := ?_)
  refine sp (Stp.callR rfl (by decide) Tryz.call165 rfl rfl (toIns_con _) (nodup_of rfl) rfl rfl) ?_
  refine go [.N,.i,.s,.Z,.R1,.m,.N,.b,.a,.Z] (k := ?_)
  refine ⟨⟨i.k + 1, by omega⟩, Weak.sim ⟨st1, rfl, rfl, ⟨_, rfl, trMix_next (fun i c hi => by simp only [upd_app, hi, false_and, if_false]; rfl) (fun c hc => match c, hc with | 0, _ => (by simp only [upd_app, eq_self, and_true, and_false, Nat.reduceEqDiff, if_true, if_false]; exact tsr) | 1, _ => (by simp only [upd_app, eq_self, and_true, and_false, Nat.reduceEqDiff, if_true, if_false]; exact tsr) | 2, _ => (by simp only [upd_app, eq_self, and_true, and_false, Nat.reduceEqDiff, if_true, if_false]; exact tsr) | 3, _ => (by simp only [upd_app, eq_self, and_true, and_false, Nat.reduceEqDiff, if_true, if_false]; exact tsr) | c + 4, hc => absurd hc (by simp only [En.n]; omega))⟩, Rf rfl, trivial⟩ rfl rfl, ?_⟩
  show a.length - (i.k + 1) < a.length - i.k
  omega
 try simp only [cnd] at c1
 refine AW.exit ?_
 dsimp only [thenQ, blockQ, reduceIte]
 refine go [.R,.m,.N,.a,.Z] (k := ?_)
 refine AW.weak (L' := [.rt 7 .row (tr a), .sl 2 (.h 7 [])]) (Weak.sim ⟨⟨_, rfl, trMix_full (by omega) rfl (fun _ _ => rfl)⟩, rfl, trivial⟩ rfl rfl) ?_
 refine rt1 2 ?_
 refine ⟨fun _ => 7, rfl, nodup_of rfl, ?_⟩
 intro r hr
 cases List.mem_singleton.1 hr
 exact ⟨by simp, rootL_mem rfl⟩
theorem toInsSS_con (a : List (List DIns)) (hw : Mk.wt a ≤ 1048576) : Con Tryz.prog 28 [.h base []] [.rt base .ro (tr a)] (Ret (.h 0 []) [(0, .row, tr a)]) := by
 refine ob Tryz.func28 Tryz.ntmps28 ?_
 have hw2 : a.length + wtL Mk.wt a ≤ 1048576 := hw
 refine go [.R,.a,.Z,.R,.m,.h,.N] (k := ?_)
 refine sp (Stp.makeSlice rfl (by decide) (by decide) rfl rfl (by omega) (by omega) (by omega)) ?_
 refine go [.N,.a,.Z,.R2,.a,.Z] (k := ?_)
 refine AW.block ?_
 refine AW.weak (L' := [.sl 4 (.v (iv (0 : Nat))), .sl 3 (.h 7 []), .sl 0 (.h base []), .rt 7 .row (trMix (0 : Nat) a.length (fun j => a.getD j En.dflt) fun _ => En.dflt), .rt base .ro (tr a)]) (Weak.sim ⟨rfl, rfl, rfl, ⟨_, rfl, (trMix_start rfl (fun c hc => match c, hc with | 0, _ => sim_nil | c + 1, hc => absurd hc (by simp only [En.n]; omega)))⟩, Rf rfl, trivial⟩ rfl rfl) ?_
 refine AW.loop (fun i : KInv a.length => [.sl 4 (.v (iv i.k)), .sl 3 (.h 7 []), .sl 0 (.h base []), .rt 7 .row (trMix i.k a.length (fun j => a.getD j En.dflt) fun _ => En.dflt), .rt base .ro (tr a)]) (fun i => a.length - i.k) ⟨0, Nat.zero_le _⟩ ?_
 intro i
 have hle := i.le
 refine go [.R2,.m,.N,.m,.h,.b,.Z] (k := ?_)
 refine cd (fun c1 => ?_) fun c1 => ?_
 ·try simp only [cnd] at c1
  have hwk := wtL_get (w := Mk.wt) (d := En.dflt) (l := a) (i := i.k) (by omega)
  refine jd (AW.seq (AW.block (AW.region ?_)))
  refine go [.m,.N,.m,.m,.m,.N,.i,.l] (k := ?_)
  refine sp (Stp.callR rfl (by decide) Tryz.call102 rfl rfl (toInsS_con _ (by first | omega | (simp only [Int.toNat_natCast]; omega) | (simp only [Mk.wt] at *; omega))) (nodup_of rfl) rfl rfl) ?_
  refine go [.N,.i,.s,.Z,.R1,.m,.N,.b,.a,.Z] (k := ?_)
  refine ⟨⟨i.k + 1, by omega⟩, Weak.sim ⟨st1, rfl, rfl, ⟨_, rfl, trMix_next (fun i c hi => by simp only [upd_app, hi, false_and, if_false]; rfl) (fun c hc => match c, hc with | 0, _ => (by simp only [upd_app, eq_self, and_true, and_false, Nat.reduceEqDiff, if_true, if_false]; exact tsr) | c + 1, hc => absurd hc (by simp only [En.n]; omega))⟩, Rf rfl, trivial⟩ rfl rfl, ?_⟩
  show a.length - (i.k + 1) < a.length - i.k
  omega
 try simp only [cnd] at c1
 refine AW.exit ?_
 dsimp only [thenQ, blockQ, reduceIte]
 refine go [.R,.m,.N,.a,.Z] (k := ?_)
 refine AW.weak (L' := [.rt 7 .row (tr a), .sl 2 (.h 7 [])]) (Weak.sim ⟨⟨_, rfl, trMix_full (by omega) rfl (fun _ _ => rfl)⟩, rfl, trivial⟩ rfl rfl) ?_
 refine rt1 2 ?_
 refine ⟨fun _ => 7, rfl, nodup_of rfl, ?_⟩
 intro r hr
 cases List.mem_singleton.1 hr
 exact ⟨by simp, rootL_mem rfl⟩
theorem toIntS_con (a : List Int) (hw : Mk.wt a ≤ 1048576) : Con Tryz.prog 30 [.h base []] [.rt base .ro (tr a)] (Ret (.h 0 []) [(0, .row, tr a)]) := by
 refine ob Tryz.func30 Tryz.ntmps30 ?_
 have hw2 : a.length + wtL Mk.wt a ≤ 1048576 := hw
 refine go [.R,.a,.Z,.R,.m,.h,.N] (k := ?_)
 refine sp (Stp.makeSlice rfl (by decide) (by decide) rfl rfl (by omega) (by omega) (by omega)) ?_
 refine go [.N,.a,.Z,.R2,.a,.Z] (k := ?_)
 refine AW.block ?_
 refine AW.weak (L' := [.sl 4 (.v (iv (0 : Nat))), .sl 3 (.h 7 []), .sl 0 (.h base []), .rt 7 .row (trMix (0 : Nat) a.length (fun j => a.getD j En.dflt) fun _ => En.dflt), .rt base .ro (tr a)]) (Weak.sim ⟨rfl, rfl, rfl, ⟨_, rfl, (trMix_start rfl (fun c hc => match c, hc with | 0, _ => tsr | c + 1, hc => absurd hc (by simp only [En.n]; omega)))⟩, Rf rfl, trivial⟩ rfl rfl) ?_
 refine AW.loop (fun i : KInv a.length => [.sl 4 (.v (iv i.k)), .sl 3 (.h 7 []), .sl 0 (.h base []), .rt 7 .row (trMix i.k a.length (fun j => a.getD j En.dflt) fun _ => En.dflt), .rt base .ro (tr a)]) (fun i => a.length - i.k) ⟨0, Nat.zero_le _⟩ ?_
 intro i
 have hle := i.le
 refine go [.R2,.m,.N,.m,.h,.b,.Z] (k := ?_)
 refine cd (fun c1 => ?_) fun c1 => ?_
 ·try simp only [cnd] at c1
  have hwk := wtL_get (w := Mk.wt) (d := En.dflt) (l := a) (i := i.k) (by omega)
  refine jd (AW.seq (AW.block (AW.region ?_)))
  refine go [.m,.N,.m,.m,.m,.N,.i,.l,.i,.N,.s,.Z,.R1,.m,.N,.b,.a,.Z] (k := ?_)
  refine ⟨⟨i.k + 1, by omega⟩, Weak.sim ⟨st1, rfl, rfl, ⟨_, rfl, trMix_next (fun i c hi => by simp only [upd_app, hi, false_and, if_false]; rfl) (fun c hc => match c, hc with | 0, _ => (by simp only [upd_app, eq_self, and_true, and_false, Nat.reduceEqDiff, if_true, if_false]; exact tsr) | c + 1, hc => absurd hc (by simp only [En.n]; omega))⟩, Rf rfl, trivial⟩ rfl rfl, ?_⟩
  show a.length - (i.k + 1) < a.length - i.k
  omega
 try simp only [cnd] at c1
 refine AW.exit ?_
 dsimp only [thenQ, blockQ, reduceIte]
 refine go [.R,.m,.N,.a,.Z] (k := ?_)
 refine AW.weak (L' := [.rt 7 .row (tr a), .sl 2 (.h 7 [])]) (Weak.sim ⟨⟨_, rfl, trMix_full (by omega) rfl (fun _ _ => rfl)⟩, rfl, trivial⟩ rfl rfl) ?_
 refine rt1 2 ?_
 refine ⟨fun _ => 7, rfl, nodup_of rfl, ?_⟩
 intro r hr
 cases List.mem_singleton.1 hr
 exact ⟨by simp, rootL_mem rfl⟩
theorem toCpu_con (a : DCpu) (hw : Mk.wt a ≤ 1048576) : Con Tryz.prog 166 [.g [.v (iv a.Pc), .h base []]] [.rt base .ro (tr a.Regs)] (Ret (.g [.v (iv a.Pc), .h 0 []]) [(0, .row, tr a.Regs)]) := by
 refine ob Tryz.func166 Tryz.ntmps166 ?_
 refine go [.R,.B,.N,.A,.Z,.R,.A,.Z,.R,.f,.N,.l,.f,.s,.Z,.R,.f,.N,.l] (k := ?_)
 refine sp (Stp.callR rfl (by decide) Tryz.call30 rfl rfl (toIntS_con _ (by first | omega | (simp only [Int.toNat_natCast]; omega) | (simp only [Mk.wt] at *; omega))) (nodup_of rfl) rfl rfl) ?_
 refine go [.N,.f,.s,.Z,.R,.G,.N,.s,.Z] (k := ?_)
 refine AW.ret (endQ_ret (.cons (.cellG 2 75 rfl rfl rfl ag75 sz75 (by decide)) .nil) ?_)
 refine ⟨fun _ => 9, rfl, nodup_of rfl, ?_⟩
 intro r hr
 cases List.mem_singleton.1 hr
 exact ⟨by simp, rootL_mem rfl⟩
theorem toBProc_con (a : DBProc) (hw : Mk.wt a ≤ 1048576) : Con Tryz.prog 103 [.g [.v (iv a.Pid), .v (iv a.Parent), .v (iv a.State), .v (iv a.Prog), .v (iv a.Cpu.Pc), .h base [], .h (base + 1) [], .h (base + 2) [], .v (iv a.Until), .v (iv a.Code)]] [.rt base .ro (tr a.Cpu.Regs), .rt (base + 1) .ro (tr a.Pages), .rt (base + 2) .ro (tr a.Fds)] (Ret (.g [.v (iv a.Pid), .v (iv a.Parent), .v (iv a.State), .v (iv a.Prog), .v (iv a.Cpu.Pc), .h 0 [], .h 1 [], .h 2 [], .v (iv a.Until), .v (iv a.Code)]) [(0, .row, tr a.Cpu.Regs), (1, .row, tr a.Pages), (2, .row, tr a.Fds)]) := by
 refine ob Tryz.func103 Tryz.ntmps103 ?_
 refine go [.R,.B,.N,.A,.Z,.R,.A,.Z,.R,.f,.N,.l,.f,.s,.Z,.R,.f,.N,.l,.f,.s,.Z,.R,.f,.N,.l,.f,.s,.Z,.R,.f,.N,.l,.f,.s,.Z,.R,.f,.N,.G] (k := ?_)
 refine sp (Stp.callR rfl (by decide) Tryz.call166 rfl rfl (toCpu_con _ (by first | omega | (simp only [Int.toNat_natCast]; omega) | (simp only [Mk.wt] at *; omega))) (nodup_of rfl) rfl rfl) ?_
 refine go [.N,.f,.s,.Z,.R,.f,.N,.l] (k := ?_)
 refine sp (Stp.callR rfl (by decide) Tryz.call30 rfl rfl (toIntS_con _ (by first | omega | (simp only [Int.toNat_natCast]; omega) | (simp only [Mk.wt] at *; omega))) (nodup_of rfl) rfl rfl) ?_
 refine go [.N,.f,.s,.Z,.R,.f,.N,.l] (k := ?_)
 refine sp (Stp.callR rfl (by decide) Tryz.call30 rfl rfl (toIntS_con _ (by first | omega | (simp only [Int.toNat_natCast]; omega) | (simp only [Mk.wt] at *; omega))) (nodup_of rfl) rfl rfl) ?_
 refine go [.N,.f,.s,.Z,.R,.f,.N,.l,.f,.s,.Z,.R,.f,.N,.l,.f,.s,.Z,.R,.G,.N,.s,.Z] (k := ?_)
 refine AW.ret (endQ_ret (.cons (.cellG 2 77 rfl rfl rfl ag77 sz77 (by decide)) .nil) ?_)
 refine ⟨fun i => if i = 0 then 18 else if i = 1 then 22 else 26, rfl, nodup_of rfl, ?_⟩
 intro r hr
 simp only [List.mem_cons, List.not_mem_nil, or_false] at hr
 rcases hr with rfl | rfl | rfl <;> exact ⟨by simp, rootL_mem rfl⟩
theorem toBProcS_con (a : List DBProc) (hw : Mk.wt a ≤ 1048576) : Con Tryz.prog 29 [.h base []] [.rt base .ro (tr a)] (Ret (.h 0 []) [(0, .row, tr a)]) := by
 refine ob Tryz.func29 Tryz.ntmps29 ?_
 have hw2 : a.length + wtL Mk.wt a ≤ 1048576 := hw
 refine go [.R,.a,.Z,.R,.m,.h,.N] (k := ?_)
 refine sp (Stp.makeSlice rfl (by decide) (by decide) rfl rfl (by omega) (by omega) (by omega)) ?_
 refine go [.N,.a,.Z,.R2,.a,.Z] (k := ?_)
 refine AW.block ?_
 refine AW.weak (L' := [.sl 4 (.v (iv (0 : Nat))), .sl 3 (.h 7 []), .sl 0 (.h base []), .rt 7 .row (trMix (0 : Nat) a.length (fun j => a.getD j En.dflt) fun _ => En.dflt), .rt base .ro (tr a)]) (Weak.sim ⟨rfl, rfl, rfl, ⟨_, rfl, (trMix_start rfl (fun c hc => match c, hc with | 0, _ => tsr | 1, _ => tsr | 2, _ => tsr | 3, _ => tsr | 4, _ => tsr | 5, _ => sim_nil | 6, _ => sim_nil | 7, _ => sim_nil | 8, _ => tsr | 9, _ => tsr | c + 10, hc => absurd hc (by simp only [En.n]; omega)))⟩, Rf rfl, trivial⟩ rfl rfl) ?_
 refine AW.loop (fun i : KInv a.length => [.sl 4 (.v (iv i.k)), .sl 3 (.h 7 []), .sl 0 (.h base []), .rt 7 .row (trMix i.k a.length (fun j => a.getD j En.dflt) fun _ => En.dflt), .rt base .ro (tr a)]) (fun i => a.length - i.k) ⟨0, Nat.zero_le _⟩ ?_
 intro i
 have hle := i.le
 refine go [.R2,.m,.N,.m,.h,.b,.Z] (k := ?_)
 refine cd (fun c1 => ?_) fun c1 => ?_
 ·try simp only [cnd] at c1
  have hwk := wtL_get (w := Mk.wt) (d := En.dflt) (l := a) (i := i.k) (by omega)
  refine jd (AW.seq (AW.block (AW.region ?_)))
  refine go [.m,.N,.m,.m,.m,.N,.i,.G] (k := ?_)
  refine sp (Stp.callR rfl (by decide) Tryz.call103 rfl rfl (toBProc_con _ (by first | omega | (simp only [Int.toNat_natCast]; omega) | (simp only [Mk.wt] at *; omega))) (nodup_of rfl) rfl rfl) ?_
  refine go [.N,.i,.s,.Z,.R1,.m,.N,.b,.a,.Z] (k := ?_)
  refine ⟨⟨i.k + 1, by omega⟩, Weak.sim ⟨st1, rfl, rfl, ⟨_, rfl, trMix_next (fun i c hi => by simp only [upd_app, hi, false_and, if_false]; rfl) (fun c hc => match c, hc with | 0, _ => (by simp only [upd_app, eq_self, and_true, and_false, Nat.reduceEqDiff, if_true, if_false]; exact tsr) | 1, _ => (by simp only [upd_app, eq_self, and_true, and_false, Nat.reduceEqDiff, if_true, if_false]; exact tsr) | 2, _ => (by simp only [upd_app, eq_self, and_true, and_false, Nat.reduceEqDiff, if_true, if_false]; exact tsr) | 3, _ => (by simp only [upd_app, eq_self, and_true, and_false, Nat.reduceEqDiff, if_true, if_false]; exact tsr) | 4, _ => (by simp only [upd_app, eq_self, and_true, and_false, Nat.reduceEqDiff, if_true, if_false]; exact tsr) | 5, _ => (by simp only [upd_app, eq_self, and_true, and_false, Nat.reduceEqDiff, if_true, if_false]; exact tsr) | 6, _ => (by simp only [upd_app, eq_self, and_true, and_false, Nat.reduceEqDiff, if_true, if_false]; exact tsr) | 7, _ => (by simp only [upd_app, eq_self, and_true, and_false, Nat.reduceEqDiff, if_true, if_false]; exact tsr) | 8, _ => (by simp only [upd_app, eq_self, and_true, and_false, Nat.reduceEqDiff, if_true, if_false]; exact tsr) | 9, _ => (by simp only [upd_app, eq_self, and_true, and_false, Nat.reduceEqDiff, if_true, if_false]; exact tsr) | c + 10, hc => absurd hc (by simp only [En.n]; omega))⟩, Rf rfl, trivial⟩ rfl rfl, ?_⟩
  show a.length - (i.k + 1) < a.length - i.k
  omega
 try simp only [cnd] at c1
 refine AW.exit ?_
 dsimp only [thenQ, blockQ, reduceIte]
 refine go [.R,.m,.N,.a,.Z] (k := ?_)
 refine AW.weak (L' := [.rt 7 .row (tr a), .sl 2 (.h 7 [])]) (Weak.sim ⟨⟨_, rfl, trMix_full (by omega) rfl (fun _ _ => rfl)⟩, rfl, trivial⟩ rfl rfl) ?_
 refine rt1 2 ?_
 refine ⟨fun _ => 7, rfl, nodup_of rfl, ?_⟩
 intro r hr
 cases List.mem_singleton.1 hr
 exact ⟨by simp, rootL_mem rfl⟩
theorem toIntSS_con (a : List (List Int)) (hw : Mk.wt a ≤ 1048576) : Con Tryz.prog 104 [.h base []] [.rt base .ro (tr a)] (Ret (.h 0 []) [(0, .row, tr a)]) := by
 refine ob Tryz.func104 Tryz.ntmps104 ?_
 have hw2 : a.length + wtL Mk.wt a ≤ 1048576 := hw
 refine go [.R,.a,.Z,.R,.m,.h,.N] (k := ?_)
 refine sp (Stp.makeSlice rfl (by decide) (by decide) rfl rfl (by omega) (by omega) (by omega)) ?_
 refine go [.N,.a,.Z,.R2,.a,.Z] (k := ?_)
 refine AW.block ?_
 refine AW.weak (L' := [.sl 4 (.v (iv (0 : Nat))), .sl 3 (.h 7 []), .sl 0 (.h base []), .rt 7 .row (trMix (0 : Nat) a.length (fun j => a.getD j En.dflt) fun _ => En.dflt), .rt base .ro (tr a)]) (Weak.sim ⟨rfl, rfl, rfl, ⟨_, rfl, (trMix_start rfl (fun c hc => match c, hc with | 0, _ => sim_nil | c + 1, hc => absurd hc (by simp only [En.n]; omega)))⟩, Rf rfl, trivial⟩ rfl rfl) ?_
 refine AW.loop (fun i : KInv a.length => [.sl 4 (.v (iv i.k)), .sl 3 (.h 7 []), .sl 0 (.h base []), .rt 7 .row (trMix i.k a.length (fun j => a.getD j En.dflt) fun _ => En.dflt), .rt base .ro (tr a)]) (fun i => a.length - i.k) ⟨0, Nat.zero_le _⟩ ?_
 intro i
 have hle := i.le
 refine go [.R2,.m,.N,.m,.h,.b,.Z] (k := ?_)
 refine cd (fun c1 => ?_) fun c1 => ?_
 ·try simp only [cnd] at c1
  have hwk := wtL_get (w := Mk.wt) (d := En.dflt) (l := a) (i := i.k) (by omega)
  refine jd (AW.seq (AW.block (AW.region ?_)))
  refine go [.m,.N,.m,.m,.m,.N,.i,.l] (k := ?_)
  refine sp (Stp.callR rfl (by decide) Tryz.call30 rfl rfl (toIntS_con _ (by first | omega | (simp only [Int.toNat_natCast]; omega) | (simp only [Mk.wt] at *; omega))) (nodup_of rfl) rfl rfl) ?_
  refine go [.N,.i,.s,.Z,.R1,.m,.N,.b,.a,.Z] (k := ?_)
  refine ⟨⟨i.k + 1, by omega⟩, Weak.sim ⟨st1, rfl, rfl, ⟨_, rfl, trMix_next (fun i c hi => by simp only [upd_app, hi, false_and, if_false]; rfl) (fun c hc => match c, hc with | 0, _ => (by simp only [upd_app, eq_self, and_true, and_false, Nat.reduceEqDiff, if_true, if_false]; exact tsr) | c + 1, hc => absurd hc (by simp only [En.n]; omega))⟩, Rf rfl, trivial⟩ rfl rfl, ?_⟩
  show a.length - (i.k + 1) < a.length - i.k
  omega
 try simp only [cnd] at c1
 refine AW.exit ?_
 dsimp only [thenQ, blockQ, reduceIte]
 refine go [.R,.m,.N,.a,.Z] (k := ?_)
 refine AW.weak (L' := [.rt 7 .row (tr a), .sl 2 (.h 7 [])]) (Weak.sim ⟨⟨_, rfl, trMix_full (by omega) rfl (fun _ _ => rfl)⟩, rfl, trivial⟩ rfl rfl) ?_
 refine rt1 2 ?_
 refine ⟨fun _ => 7, rfl, nodup_of rfl, ?_⟩
 intro r hr
 cases List.mem_singleton.1 hr
 exact ⟨by simp, rootL_mem rfl⟩
theorem toBuddy_con (a : DBuddy) (hw : Mk.wt a ≤ 1048576) : Con Tryz.prog 31 [.g [.h base []]] [.rt base .ro (tr a.Free)] (Ret (.g [.h 0 []]) [(0, .row, tr a.Free)]) := by
 refine ob Tryz.func31 Tryz.ntmps31 ?_
 refine go [.R,.B,.N,.A,.Z,.R,.A,.Z,.R,.f,.N,.l] (k := ?_)
 refine sp (Stp.callR rfl (by decide) Tryz.call104 rfl rfl (toIntSS_con _ (by first | omega | (simp only [Int.toNat_natCast]; omega) | (simp only [Mk.wt] at *; omega))) (nodup_of rfl) rfl rfl) ?_
 refine go [.N,.f,.s,.Z,.R,.G,.N,.s,.Z] (k := ?_)
 refine AW.ret (endQ_ret (.cons (.cellG 2 43 rfl rfl rfl ag43 sz43 (by decide)) .nil) ?_)
 refine ⟨fun _ => 6, rfl, nodup_of rfl, ?_⟩
 intro r hr
 cases List.mem_singleton.1 hr
 exact ⟨by simp, rootL_mem rfl⟩
theorem toOpen_con (a : DOpen) : Con Tryz.prog 105 [.g [.v (iv a.Id), .v (iv a.Kind), .v (iv a.Target), .v (iv a.Off), .v (iv a.Refs)]] [] (Ret (.g [.v (iv a.Id), .v (iv a.Kind), .v (iv a.Target), .v (iv a.Off), .v (iv a.Refs)]) []) := by
 refine ob Tryz.func105 Tryz.ntmps105 ?_
 refine go [.R,.B,.N,.A,.Z,.R,.A,.Z,.R,.f,.N,.l,.f,.s,.Z,.R,.f,.N,.l,.f,.s,.Z,.R,.f,.N,.l,.f,.s,.Z,.R,.f,.N,.l,.f,.s,.Z,.R,.f,.N,.l,.f,.s,.Z,.R,.G,.N,.s,.Z] (k := ?_)
 refine AW.ret (endQ_ret (.cons (.cellG 2 72 rfl rfl rfl ag72 sz72 (by decide)) .nil) ?_)
 refine ⟨fun _ => 0, rfl, nodup_of rfl, ?_⟩
 intro r hr
 cases hr
theorem toOpenS_con (a : List DOpen) (hw : Mk.wt a ≤ 1048576) : Con Tryz.prog 32 [.h base []] [.rt base .ro (tr a)] (Ret (.h 0 []) [(0, .row, tr a)]) := by
 refine ob Tryz.func32 Tryz.ntmps32 ?_
 have hw2 : a.length + wtL Mk.wt a ≤ 1048576 := hw
 refine go [.R,.a,.Z,.R,.m,.h,.N] (k := ?_)
 refine sp (Stp.makeSlice rfl (by decide) (by decide) rfl rfl (by omega) (by omega) (by omega)) ?_
 refine go [.N,.a,.Z,.R2,.a,.Z] (k := ?_)
 refine AW.block ?_
 refine AW.weak (L' := [.sl 4 (.v (iv (0 : Nat))), .sl 3 (.h 7 []), .sl 0 (.h base []), .rt 7 .row (trMix (0 : Nat) a.length (fun j => a.getD j En.dflt) fun _ => En.dflt), .rt base .ro (tr a)]) (Weak.sim ⟨rfl, rfl, rfl, ⟨_, rfl, (trMix_start rfl (fun c hc => match c, hc with | 0, _ => tsr | 1, _ => tsr | 2, _ => tsr | 3, _ => tsr | 4, _ => tsr | c + 5, hc => absurd hc (by simp only [En.n]; omega)))⟩, Rf rfl, trivial⟩ rfl rfl) ?_
 refine AW.loop (fun i : KInv a.length => [.sl 4 (.v (iv i.k)), .sl 3 (.h 7 []), .sl 0 (.h base []), .rt 7 .row (trMix i.k a.length (fun j => a.getD j En.dflt) fun _ => En.dflt), .rt base .ro (tr a)]) (fun i => a.length - i.k) ⟨0, Nat.zero_le _⟩ ?_
 intro i
 have hle := i.le
 refine go [.R2,.m,.N,.m,.h,.b,.Z] (k := ?_)
 refine cd (fun c1 => ?_) fun c1 => ?_
 ·try simp only [cnd] at c1
  have hwk := wtL_get (w := Mk.wt) (d := En.dflt) (l := a) (i := i.k) (by omega)
  refine jd (AW.seq (AW.block (AW.region ?_)))
  refine go [.m,.N,.m,.m,.m,.N,.i,.G] (k := ?_)
  refine sp (Stp.callR rfl (by decide) Tryz.call105 rfl rfl (toOpen_con _) (nodup_of rfl) rfl rfl) ?_
  refine go [.N,.i,.s,.Z,.R1,.m,.N,.b,.a,.Z] (k := ?_)
  refine ⟨⟨i.k + 1, by omega⟩, Weak.sim ⟨st1, rfl, rfl, ⟨_, rfl, trMix_next (fun i c hi => by simp only [upd_app, hi, false_and, if_false]; rfl) (fun c hc => match c, hc with | 0, _ => (by simp only [upd_app, eq_self, and_true, and_false, Nat.reduceEqDiff, if_true, if_false]; exact tsr) | 1, _ => (by simp only [upd_app, eq_self, and_true, and_false, Nat.reduceEqDiff, if_true, if_false]; exact tsr) | 2, _ => (by simp only [upd_app, eq_self, and_true, and_false, Nat.reduceEqDiff, if_true, if_false]; exact tsr) | 3, _ => (by simp only [upd_app, eq_self, and_true, and_false, Nat.reduceEqDiff, if_true, if_false]; exact tsr) | 4, _ => (by simp only [upd_app, eq_self, and_true, and_false, Nat.reduceEqDiff, if_true, if_false]; exact tsr) | c + 5, hc => absurd hc (by simp only [En.n]; omega))⟩, Rf rfl, trivial⟩ rfl rfl, ?_⟩
  show a.length - (i.k + 1) < a.length - i.k
  omega
 try simp only [cnd] at c1
 refine AW.exit ?_
 dsimp only [thenQ, blockQ, reduceIte]
 refine go [.R,.m,.N,.a,.Z] (k := ?_)
 refine AW.weak (L' := [.rt 7 .row (tr a), .sl 2 (.h 7 [])]) (Weak.sim ⟨⟨_, rfl, trMix_full (by omega) rfl (fun _ _ => rfl)⟩, rfl, trivial⟩ rfl rfl) ?_
 refine rt1 2 ?_
 refine ⟨fun _ => 7, rfl, nodup_of rfl, ?_⟩
 intro r hr
 cases List.mem_singleton.1 hr
 exact ⟨by simp, rootL_mem rfl⟩
theorem toBPipe_con (a : DBPipe) (hw : Mk.wt a ≤ 1048576) : Con Tryz.prog 106 [.g [.v (iv a.Id), .h base []]] [.rt base .ro (tr a.Chunks)] (Ret (.g [.v (iv a.Id), .h 0 []]) [(0, .row, tr a.Chunks)]) := by
 refine ob Tryz.func106 Tryz.ntmps106 ?_
 refine go [.R,.B,.N,.A,.Z,.R,.A,.Z,.R,.f,.N,.l,.f,.s,.Z,.R,.f,.N,.l] (k := ?_)
 refine sp (Stp.callR rfl (by decide) Tryz.call104 rfl rfl (toIntSS_con _ (by first | omega | (simp only [Int.toNat_natCast]; omega) | (simp only [Mk.wt] at *; omega))) (nodup_of rfl) rfl rfl) ?_
 refine go [.N,.f,.s,.Z,.R,.G,.N,.s,.Z] (k := ?_)
 refine AW.ret (endQ_ret (.cons (.cellG 2 83 rfl rfl rfl ag83 sz83 (by decide)) .nil) ?_)
 refine ⟨fun _ => 9, rfl, nodup_of rfl, ?_⟩
 intro r hr
 cases List.mem_singleton.1 hr
 exact ⟨by simp, rootL_mem rfl⟩
theorem toBPipeS_con (a : List DBPipe) (hw : Mk.wt a ≤ 1048576) : Con Tryz.prog 33 [.h base []] [.rt base .ro (tr a)] (Ret (.h 0 []) [(0, .row, tr a)]) := by
 refine ob Tryz.func33 Tryz.ntmps33 ?_
 have hw2 : a.length + wtL Mk.wt a ≤ 1048576 := hw
 refine go [.R,.a,.Z,.R,.m,.h,.N] (k := ?_)
 refine sp (Stp.makeSlice rfl (by decide) (by decide) rfl rfl (by omega) (by omega) (by omega)) ?_
 refine go [.N,.a,.Z,.R2,.a,.Z] (k := ?_)
 refine AW.block ?_
 refine AW.weak (L' := [.sl 4 (.v (iv (0 : Nat))), .sl 3 (.h 7 []), .sl 0 (.h base []), .rt 7 .row (trMix (0 : Nat) a.length (fun j => a.getD j En.dflt) fun _ => En.dflt), .rt base .ro (tr a)]) (Weak.sim ⟨rfl, rfl, rfl, ⟨_, rfl, (trMix_start rfl (fun c hc => match c, hc with | 0, _ => tsr | 1, _ => sim_nil | c + 2, hc => absurd hc (by simp only [En.n]; omega)))⟩, Rf rfl, trivial⟩ rfl rfl) ?_
 refine AW.loop (fun i : KInv a.length => [.sl 4 (.v (iv i.k)), .sl 3 (.h 7 []), .sl 0 (.h base []), .rt 7 .row (trMix i.k a.length (fun j => a.getD j En.dflt) fun _ => En.dflt), .rt base .ro (tr a)]) (fun i => a.length - i.k) ⟨0, Nat.zero_le _⟩ ?_
 intro i
 have hle := i.le
 refine go [.R2,.m,.N,.m,.h,.b,.Z] (k := ?_)
 refine cd (fun c1 => ?_) fun c1 => ?_
 ·try simp only [cnd] at c1
  have hwk := wtL_get (w := Mk.wt) (d := En.dflt) (l := a) (i := i.k) (by omega)
  refine jd (AW.seq (AW.block (AW.region ?_)))
  refine go [.m,.N,.m,.m,.m,.N,.i,.G] (k := ?_)
  refine sp (Stp.callR rfl (by decide) Tryz.call106 rfl rfl (toBPipe_con _ (by first | omega | (simp only [Int.toNat_natCast]; omega) | (simp only [Mk.wt] at *; omega))) (nodup_of rfl) rfl rfl) ?_
  refine go [.N,.i,.s,.Z,.R1,.m,.N,.b,.a,.Z] (k := ?_)
  refine ⟨⟨i.k + 1, by omega⟩, Weak.sim ⟨st1, rfl, rfl, ⟨_, rfl, trMix_next (fun i c hi => by simp only [upd_app, hi, false_and, if_false]; rfl) (fun c hc => match c, hc with | 0, _ => (by simp only [upd_app, eq_self, and_true, and_false, Nat.reduceEqDiff, if_true, if_false]; exact tsr) | 1, _ => (by simp only [upd_app, eq_self, and_true, and_false, Nat.reduceEqDiff, if_true, if_false]; exact tsr) | c + 2, hc => absurd hc (by simp only [En.n]; omega))⟩, Rf rfl, trivial⟩ rfl rfl, ?_⟩
  show a.length - (i.k + 1) < a.length - i.k
  omega
 try simp only [cnd] at c1
 refine AW.exit ?_
 dsimp only [thenQ, blockQ, reduceIte]
 refine go [.R,.m,.N,.a,.Z] (k := ?_)
 refine AW.weak (L' := [.rt 7 .row (tr a), .sl 2 (.h 7 [])]) (Weak.sim ⟨⟨_, rfl, trMix_full (by omega) rfl (fun _ _ => rfl)⟩, rfl, trivial⟩ rfl rfl) ?_
 refine rt1 2 ?_
 refine ⟨fun _ => 7, rfl, nodup_of rfl, ?_⟩
 intro r hr
 cases List.mem_singleton.1 hr
 exact ⟨by simp, rootL_mem rfl⟩
theorem toFile_con (a : DFile) (hw : Mk.wt a ≤ 1048576) : Con Tryz.prog 107 [.g [.v (iv a.Name), .h base []]] [.rt base .ro (tr a.Data)] (Ret (.g [.v (iv a.Name), .h 0 []]) [(0, .row, tr a.Data)]) := by
 refine ob Tryz.func107 Tryz.ntmps107 ?_
 refine go [.R,.B,.N,.A,.Z,.R,.A,.Z,.R,.f,.N,.l,.f,.s,.Z,.R,.f,.N,.l] (k := ?_)
 refine sp (Stp.callR rfl (by decide) Tryz.call30 rfl rfl (toIntS_con _ (by first | omega | (simp only [Int.toNat_natCast]; omega) | (simp only [Mk.wt] at *; omega))) (nodup_of rfl) rfl rfl) ?_
 refine go [.N,.f,.s,.Z,.R,.G,.N,.s,.Z] (k := ?_)
 refine AW.ret (endQ_ret (.cons (.cellG 2 96 rfl rfl rfl ag96 sz96 (by decide)) .nil) ?_)
 refine ⟨fun _ => 9, rfl, nodup_of rfl, ?_⟩
 intro r hr
 cases List.mem_singleton.1 hr
 exact ⟨by simp, rootL_mem rfl⟩
theorem toFileS_con (a : List DFile) (hw : Mk.wt a ≤ 1048576) : Con Tryz.prog 34 [.h base []] [.rt base .ro (tr a)] (Ret (.h 0 []) [(0, .row, tr a)]) := by
 refine ob Tryz.func34 Tryz.ntmps34 ?_
 have hw2 : a.length + wtL Mk.wt a ≤ 1048576 := hw
 refine go [.R,.a,.Z,.R,.m,.h,.N] (k := ?_)
 refine sp (Stp.makeSlice rfl (by decide) (by decide) rfl rfl (by omega) (by omega) (by omega)) ?_
 refine go [.N,.a,.Z,.R2,.a,.Z] (k := ?_)
 refine AW.block ?_
 refine AW.weak (L' := [.sl 4 (.v (iv (0 : Nat))), .sl 3 (.h 7 []), .sl 0 (.h base []), .rt 7 .row (trMix (0 : Nat) a.length (fun j => a.getD j En.dflt) fun _ => En.dflt), .rt base .ro (tr a)]) (Weak.sim ⟨rfl, rfl, rfl, ⟨_, rfl, (trMix_start rfl (fun c hc => match c, hc with | 0, _ => tsr | 1, _ => sim_nil | c + 2, hc => absurd hc (by simp only [En.n]; omega)))⟩, Rf rfl, trivial⟩ rfl rfl) ?_
 refine AW.loop (fun i : KInv a.length => [.sl 4 (.v (iv i.k)), .sl 3 (.h 7 []), .sl 0 (.h base []), .rt 7 .row (trMix i.k a.length (fun j => a.getD j En.dflt) fun _ => En.dflt), .rt base .ro (tr a)]) (fun i => a.length - i.k) ⟨0, Nat.zero_le _⟩ ?_
 intro i
 have hle := i.le
 refine go [.R2,.m,.N,.m,.h,.b,.Z] (k := ?_)
 refine cd (fun c1 => ?_) fun c1 => ?_
 ·try simp only [cnd] at c1
  have hwk := wtL_get (w := Mk.wt) (d := En.dflt) (l := a) (i := i.k) (by omega)
  refine jd (AW.seq (AW.block (AW.region ?_)))
  refine go [.m,.N,.m,.m,.m,.N,.i,.G] (k := ?_)
  refine sp (Stp.callR rfl (by decide) Tryz.call107 rfl rfl (toFile_con _ (by first | omega | (simp only [Int.toNat_natCast]; omega) | (simp only [Mk.wt] at *; omega))) (nodup_of rfl) rfl rfl) ?_
  refine go [.N,.i,.s,.Z,.R1,.m,.N,.b,.a,.Z] (k := ?_)
  refine ⟨⟨i.k + 1, by omega⟩, Weak.sim ⟨st1, rfl, rfl, ⟨_, rfl, trMix_next (fun i c hi => by simp only [upd_app, hi, false_and, if_false]; rfl) (fun c hc => match c, hc with | 0, _ => (by simp only [upd_app, eq_self, and_true, and_false, Nat.reduceEqDiff, if_true, if_false]; exact tsr) | 1, _ => (by simp only [upd_app, eq_self, and_true, and_false, Nat.reduceEqDiff, if_true, if_false]; exact tsr) | c + 2, hc => absurd hc (by simp only [En.n]; omega))⟩, Rf rfl, trivial⟩ rfl rfl, ?_⟩
  show a.length - (i.k + 1) < a.length - i.k
  omega
 try simp only [cnd] at c1
 refine AW.exit ?_
 dsimp only [thenQ, blockQ, reduceIte]
 refine go [.R,.m,.N,.a,.Z] (k := ?_)
 refine AW.weak (L' := [.rt 7 .row (tr a), .sl 2 (.h 7 [])]) (Weak.sim ⟨⟨_, rfl, trMix_full (by omega) rfl (fun _ _ => rfl)⟩, rfl, trivial⟩ rfl rfl) ?_
 refine rt1 2 ?_
 refine ⟨fun _ => 7, rfl, nodup_of rfl, ?_⟩
 intro r hr
 cases List.mem_singleton.1 hr
 exact ⟨by simp, rootL_mem rfl⟩
theorem toNodes_con (a : DNodes) (hw : Mk.wt a ≤ 1048576) : Con Tryz.prog 8 [.g [.v (iv a.Next), .v (iv a.Tick), .h base [], .h (base + 1) [], .h (base + 2) [], .h (base + 3) [], .h (base + 4) [], .h (base + 5) [], .h (base + 6) [], .h (base + 7) [], .h (base + 8) []]] [.rt base .ro (tr a.Progs), .rt (base + 1) .ro (tr a.Procs), .rt (base + 2) .ro (tr a.Ram), .rt (base + 3) .ro (tr a.Heap.Free), .rt (base + 4) .ro (tr a.Opens), .rt (base + 5) .ro (tr a.Pipes), .rt (base + 6) .ro (tr a.Files), .rt (base + 7) .ro (tr a.Ready), .rt (base + 8) .ro (tr a.Out)] (Ret (.g [.v (iv a.Next), .v (iv a.Tick), .h 0 [], .h 1 [], .h 2 [], .h 3 [], .h 4 [], .h 5 [], .h 6 [], .h 7 [], .h 8 []]) [(0, .row, tr a.Progs), (1, .row, tr a.Procs), (2, .row, tr a.Ram), (3, .row, tr a.Heap.Free), (4, .row, tr a.Opens), (5, .row, tr a.Pipes), (6, .row, tr a.Files), (7, .row, tr a.Ready), (8, .row, tr a.Out)]) := by
 refine ob Tryz.func8 Tryz.ntmps8 ?_
 refine go [.R,.B,.N,.A,.Z,.R,.A,.Z,.R,.f,.N,.l,.f,.s,.Z,.R,.f,.N,.l,.f,.s,.Z,.R,.f,.N,.l] (k := ?_)
 refine sp (Stp.callR rfl (by decide) Tryz.call28 rfl rfl (toInsSS_con _ (by first | omega | (simp only [Int.toNat_natCast]; omega) | (simp only [Mk.wt] at *; omega))) (nodup_of rfl) rfl rfl) ?_
 refine go [.N,.f,.s,.Z,.R,.f,.N,.l] (k := ?_)
 refine sp (Stp.callR rfl (by decide) Tryz.call29 rfl rfl (toBProcS_con _ (by first | omega | (simp only [Int.toNat_natCast]; omega) | (simp only [Mk.wt] at *; omega))) (nodup_of rfl) rfl rfl) ?_
 refine go [.N,.f,.s,.Z,.R,.f,.N,.l] (k := ?_)
 refine sp (Stp.callR rfl (by decide) Tryz.call30 rfl rfl (toIntS_con _ (by first | omega | (simp only [Int.toNat_natCast]; omega) | (simp only [Mk.wt] at *; omega))) (nodup_of rfl) rfl rfl) ?_
 refine go [.N,.f,.s,.Z,.R,.f,.N,.G] (k := ?_)
 refine sp (Stp.callR rfl (by decide) Tryz.call31 rfl rfl (toBuddy_con _ (by first | omega | (simp only [Int.toNat_natCast]; omega) | (simp only [Mk.wt] at *; omega))) (nodup_of rfl) rfl rfl) ?_
 refine go [.N,.f,.s,.Z,.R,.f,.N,.l] (k := ?_)
 refine sp (Stp.callR rfl (by decide) Tryz.call32 rfl rfl (toOpenS_con _ (by first | omega | (simp only [Int.toNat_natCast]; omega) | (simp only [Mk.wt] at *; omega))) (nodup_of rfl) rfl rfl) ?_
 refine go [.N,.f,.s,.Z,.R,.f,.N,.l] (k := ?_)
 refine sp (Stp.callR rfl (by decide) Tryz.call33 rfl rfl (toBPipeS_con _ (by first | omega | (simp only [Int.toNat_natCast]; omega) | (simp only [Mk.wt] at *; omega))) (nodup_of rfl) rfl rfl) ?_
 refine go [.N,.f,.s,.Z,.R,.f,.N,.l] (k := ?_)
 refine sp (Stp.callR rfl (by decide) Tryz.call34 rfl rfl (toFileS_con _ (by first | omega | (simp only [Int.toNat_natCast]; omega) | (simp only [Mk.wt] at *; omega))) (nodup_of rfl) rfl rfl) ?_
 refine go [.N,.f,.s,.Z,.R,.f,.N,.l] (k := ?_)
 refine sp (Stp.callR rfl (by decide) Tryz.call30 rfl rfl (toIntS_con _ (by first | omega | (simp only [Int.toNat_natCast]; omega) | (simp only [Mk.wt] at *; omega))) (nodup_of rfl) rfl rfl) ?_
 refine go [.N,.f,.s,.Z,.R,.f,.N,.l] (k := ?_)
 refine sp (Stp.callR rfl (by decide) Tryz.call30 rfl rfl (toIntS_con _ (by first | omega | (simp only [Int.toNat_natCast]; omega) | (simp only [Mk.wt] at *; omega))) (nodup_of rfl) rfl rfl) ?_
 refine go [.N,.f,.s,.Z,.R,.G,.N,.s,.Z] (k := ?_)
 refine AW.ret (endQ_ret (.cons (.cellG 2 46 rfl rfl rfl ag46 sz46 (by decide)) .nil) ?_)
 refine ⟨fun i => if i = 0 then 12 else if i = 1 then 16 else if i = 2 then 20 else if i = 3 then 24 else if i = 4 then 28 else if i = 5 then 32 else if i = 6 then 36 else if i = 7 then 40 else 44, rfl, nodup_of rfl, ?_⟩
 intro r hr
 simp only [List.mem_cons, List.not_mem_nil, or_false] at hr
 rcases hr with rfl | rfl | rfl | rfl | rfl | rfl | rfl | rfl | rfl <;> exact ⟨by simp, rootL_mem rfl⟩
theorem eqIns_con (a b : DIns) : Con Tryz.prog 178 [.g [.v (iv a.Op), .v (iv a.A), .v (iv a.B), .v (iv a.C)], .g [.v (iv b.Op), .v (iv b.A), .v (iv b.B), .v (iv b.C)]] [] (fun y _ => y = .v (.bool (decide (a = b)))) := by
 refine ob Tryz.func178 Tryz.ntmps178 ?_
 refine go [.R,.B,.N,.B,.N,.a,.Z,.R2,.f,.l,.N,.f,.l,.b,.Z] (k := ?_)
 refine cd (fun c1 => ?_) fun c1 => ?_
 ·try simp only [cnd] at c1
  refine go [.R,.a,.Z] (k := ?_)
  refine rt1 4 ?_
  simp only [retX, slotL, reduceIte, Nat.reduceEqDiff]
  cases a
  cases b
  simp_all
 try simp only [cnd] at c1
 refine jd (sr2 ?_)
 refine go [.f,.N,.l,.f,.l,.N,.b,.Z] (k := ?_)
 refine cd (fun c2 => ?_) fun c2 => ?_
 ·try simp only [cnd] at c2
  refine go [.R,.a,.Z] (k := ?_)
  refine rt1 4 ?_
  simp only [retX, slotL, reduceIte, Nat.reduceEqDiff]
  cases a
  cases b
  simp_all
 try simp only [cnd] at c2
 refine jd (sr2 ?_)
 refine go [.f,.N,.l,.f,.l,.N,.b,.Z] (k := ?_)
 refine cd (fun c3 => ?_) fun c3 => ?_
 ·try simp only [cnd] at c3
  refine go [.R,.a,.Z] (k := ?_)
  refine rt1 4 ?_
  simp only [retX, slotL, reduceIte, Nat.reduceEqDiff]
  cases a
  cases b
  simp_all
 try simp only [cnd] at c3
 refine jd (sr2 ?_)
 refine go [.f,.N,.l,.f,.l,.N,.b,.Z] (k := ?_)
 refine cd (fun c4 => ?_) fun c4 => ?_
 ·try simp only [cnd] at c4
  refine go [.R,.a,.Z] (k := ?_)
  refine rt1 4 ?_
  simp only [retX, slotL, reduceIte, Nat.reduceEqDiff]
  cases a
  cases b
  simp_all
 try simp only [cnd] at c4
 refine go [.J,.R,.a,.Z] (k := ?_)
 refine rt1 4 ?_
 simp only [retX, slotL, reduceIte, Nat.reduceEqDiff]
 cases a
 cases b
 simp_all
theorem eqInsS_con (a b : List DIns) : Con Tryz.prog 124 [.h base [], .h (base + 1) []] [.rt base .ro (tr a), .rt (base + 1) .ro (tr b)] (fun y _ => y = .v (.bool (decide (a = b)))) := by
 refine ob Tryz.func124 Tryz.ntmps124 ?_
 refine AW.len base [] rfl (by simp [Okp]) rfl (fun hl => ?_)
 refine AW.len (base + 1) [] rfl (by simp [Okp]) rfl (fun hl2 => ?_)
 refine go [.R,.a,.Z,.R2,.m,.h,.N,.m,.h,.b,.Z] (k := ?_)
 refine cd (fun c1 => ?_) fun c1 => ?_
 ·try simp only [cnd] at c1
  refine go [.R,.a,.Z] (k := ?_)
  refine rt1 4 ?_
  simp only [retX, slotL, reduceIte, Nat.reduceEqDiff]
  rw [decide_eq_false (show a ≠ b from ne_of_len (by omega))]
 try simp only [cnd] at c1
 refine jd (sr2 ?_)
 refine go [.a,.Z] (k := ?_)
 refine AW.block ?_
 refine AW.loopW (fun i : EqInv a b => [.sl 5 (.v (iv i.k)), .sl 0 (.h base []), .sl 1 (.h (base + 1) []), .rt base .ro (tr a), .rt (base + 1) .ro (tr b)]) (fun i => a.length - i.k) ⟨0, Nat.zero_le _, rfl⟩ (ws) ?_
 intro i
 have hle := i.le
 refine go [.R2,.m,.N,.m,.h,.b,.Z] (k := ?_)
 refine cd (fun c2 => ?_) fun c2 => ?_
 ·try simp only [cnd] at c2
  refine jd (AW.seq (AW.block (AW.seq ?_)))
  refine go [.D [0, 1, 2, 3, 4, 5, 6, 7, 9],.t 0,.m,.N,.t 1,.m,.t 2,.i,.t 3,.G,.N,.t 4,.m,.t 5,.m,.t 6,.i,.N,.t 7,.G] (k := ?_)
  refine a1 8 [] [7, 3, 6, 2, 5, 4, 1, 0] rfl rfl (Stp.callV rfl (by decide) Tryz.call178 rfl rfl (eqIns_con _ _)) ?_
  refine go [.N,.t 9,.n,.Z] (k := ?_)
  refine cd (fun c3 => ?_) fun c3 => ?_
  ·try simp only [cnd] at c3
   refine go [.R,.a,.Z] (k := ?_)
   refine rt1 4 ?_
   simp only [retX, slotL, reduceIte, Nat.reduceEqDiff]
   rw [decide_eq_false (show a ≠ b from i.stop En.dflt (by simpa using c3))]
  try simp only [cnd] at c3
  refine go [.J,.R1,.m,.N,.b,.a,.Z] (k := ?_)
  refine ⟨⟨i.k + 1, by omega, i.next En.dflt (by omega) (by omega) (by simpa using c3)⟩, ws, ?_⟩
  show a.length - (i.k + 1) < a.length - i.k
  omega
 try simp only [cnd] at c2
 refine AW.exit ?_
 dsimp only [thenQ, blockQ, reduceIte]
 refine go [.R,.a,.Z] (k := ?_)
 refine rt1 4 ?_
 simp only [retX, slotL, reduceIte, Nat.reduceEqDiff]
 rw [decide_eq_true (show a = b from i.full (by omega) (by omega))]
theorem eqInsSS_con (a b : List (List DIns)) : Con Tryz.prog 53 [.h base [], .h (base + 1) []] [.rt base .ro (tr a), .rt (base + 1) .ro (tr b)] (fun y _ => y = .v (.bool (decide (a = b)))) := by
 refine ob Tryz.func53 Tryz.ntmps53 ?_
 refine AW.len base [] rfl (by simp [Okp]) rfl (fun hl => ?_)
 refine AW.len (base + 1) [] rfl (by simp [Okp]) rfl (fun hl2 => ?_)
 refine go [.R,.a,.Z,.R2,.m,.h,.N,.m,.h,.b,.Z] (k := ?_)
 refine cd (fun c1 => ?_) fun c1 => ?_
 ·try simp only [cnd] at c1
  refine go [.R,.a,.Z] (k := ?_)
  refine rt1 4 ?_
  simp only [retX, slotL, reduceIte, Nat.reduceEqDiff]
  rw [decide_eq_false (show a ≠ b from ne_of_len (by omega))]
 try simp only [cnd] at c1
 refine jd (sr2 ?_)
 refine go [.a,.Z] (k := ?_)
 refine AW.block ?_
 refine AW.loopW (fun i : EqInv a b => [.sl 5 (.v (iv i.k)), .sl 0 (.h base []), .sl 1 (.h (base + 1) []), .rt base .ro (tr a), .rt (base + 1) .ro (tr b)]) (fun i => a.length - i.k) ⟨0, Nat.zero_le _, rfl⟩ (ws) ?_
 intro i
 have hle := i.le
 refine go [.R2,.m,.N,.m,.h,.b,.Z] (k := ?_)
 refine cd (fun c2 => ?_) fun c2 => ?_
 ·try simp only [cnd] at c2
  refine jd (AW.seq (AW.block (AW.seq ?_)))
  refine go [.D [0, 1, 2, 3, 4, 5, 6, 7, 9],.t 0,.m,.N,.t 1,.m,.t 2,.i,.t 3,.l,.N,.t 4,.m,.t 5,.m,.t 6,.i,.N,.t 7,.l] (k := ?_)
  refine a1 8 [] [7, 3, 6, 2, 5, 4, 1, 0] rfl rfl (Stp.callV rfl (by decide) Tryz.call124 rfl rfl (eqInsS_con _ _)) ?_
  refine go [.N,.t 9,.n,.Z] (k := ?_)
  refine cd (fun c3 => ?_) fun c3 => ?_
  ·try simp only [cnd] at c3
   refine go [.R,.a,.Z] (k := ?_)
   refine rt1 4 ?_
   simp only [retX, slotL, reduceIte, Nat.reduceEqDiff]
   rw [decide_eq_false (show a ≠ b from i.stop En.dflt (by simpa using c3))]
  try simp only [cnd] at c3
  refine go [.J,.R1,.m,.N,.b,.a,.Z] (k := ?_)
  refine ⟨⟨i.k + 1, by omega, i.next En.dflt (by omega) (by omega) (by simpa using c3)⟩, ws, ?_⟩
  show a.length - (i.k + 1) < a.length - i.k
  omega
 try simp only [cnd] at c2
 refine AW.exit ?_
 dsimp only [thenQ, blockQ, reduceIte]
 refine go [.R,.a,.Z] (k := ?_)
 refine rt1 4 ?_
 simp only [retX, slotL, reduceIte, Nat.reduceEqDiff]
 rw [decide_eq_true (show a = b from i.full (by omega) (by omega))]
theorem eqOpen_con (a b : DOpen) : Con Tryz.prog 126 [.g [.v (iv a.Id), .v (iv a.Kind), .v (iv a.Target), .v (iv a.Off), .v (iv a.Refs)], .g [.v (iv b.Id), .v (iv b.Kind), .v (iv b.Target), .v (iv b.Off), .v (iv b.Refs)]] [] (fun y _ => y = .v (.bool (decide (a = b)))) := by
 refine ob Tryz.func126 Tryz.ntmps126 ?_
 refine go [.R,.B,.N,.B,.N,.a,.Z,.R2,.f,.l,.N,.f,.l,.b,.Z] (k := ?_)
 refine cd (fun c1 => ?_) fun c1 => ?_
 ·try simp only [cnd] at c1
  refine go [.R,.a,.Z] (k := ?_)
  refine rt1 4 ?_
  simp only [retX, slotL, reduceIte, Nat.reduceEqDiff]
  cases a
  cases b
  simp_all
 try simp only [cnd] at c1
 refine jd (sr2 ?_)
 refine go [.f,.N,.l,.f,.l,.N,.b,.Z] (k := ?_)
 refine cd (fun c2 => ?_) fun c2 => ?_
 ·try simp only [cnd] at c2
  refine go [.R,.a,.Z] (k := ?_)
  refine rt1 4 ?_
  simp only [retX, slotL, reduceIte, Nat.reduceEqDiff]
  cases a
  cases b
  simp_all
 try simp only [cnd] at c2
 refine jd (sr2 ?_)
 refine go [.f,.N,.l,.f,.l,.N,.b,.Z] (k := ?_)
 refine cd (fun c3 => ?_) fun c3 => ?_
 ·try simp only [cnd] at c3
  refine go [.R,.a,.Z] (k := ?_)
  refine rt1 4 ?_
  simp only [retX, slotL, reduceIte, Nat.reduceEqDiff]
  cases a
  cases b
  simp_all
 try simp only [cnd] at c3
 refine jd (sr2 ?_)
 refine go [.f,.N,.l,.f,.l,.N,.b,.Z] (k := ?_)
 refine cd (fun c4 => ?_) fun c4 => ?_
 ·try simp only [cnd] at c4
  refine go [.R,.a,.Z] (k := ?_)
  refine rt1 4 ?_
  simp only [retX, slotL, reduceIte, Nat.reduceEqDiff]
  cases a
  cases b
  simp_all
 try simp only [cnd] at c4
 refine jd (sr2 ?_)
 refine go [.f,.N,.l,.f,.l,.N,.b,.Z] (k := ?_)
 refine cd (fun c5 => ?_) fun c5 => ?_
 ·try simp only [cnd] at c5
  refine go [.R,.a,.Z] (k := ?_)
  refine rt1 4 ?_
  simp only [retX, slotL, reduceIte, Nat.reduceEqDiff]
  cases a
  cases b
  simp_all
 try simp only [cnd] at c5
 refine go [.J,.R,.a,.Z] (k := ?_)
 refine rt1 4 ?_
 simp only [retX, slotL, reduceIte, Nat.reduceEqDiff]
 cases a
 cases b
 simp_all
theorem eqOpenS_con (a b : List DOpen) : Con Tryz.prog 55 [.h base [], .h (base + 1) []] [.rt base .ro (tr a), .rt (base + 1) .ro (tr b)] (fun y _ => y = .v (.bool (decide (a = b)))) := by
 refine ob Tryz.func55 Tryz.ntmps55 ?_
 refine AW.len base [] rfl (by simp [Okp]) rfl (fun hl => ?_)
 refine AW.len (base + 1) [] rfl (by simp [Okp]) rfl (fun hl2 => ?_)
 refine go [.R,.a,.Z,.R2,.m,.h,.N,.m,.h,.b,.Z] (k := ?_)
 refine cd (fun c1 => ?_) fun c1 => ?_
 ·try simp only [cnd] at c1
  refine go [.R,.a,.Z] (k := ?_)
  refine rt1 4 ?_
  simp only [retX, slotL, reduceIte, Nat.reduceEqDiff]
  rw [decide_eq_false (show a ≠ b from ne_of_len (by omega))]
 try simp only [cnd] at c1
 refine jd (sr2 ?_)
 refine go [.a,.Z] (k := ?_)
 refine AW.block ?_
 refine AW.loopW (fun i : EqInv a b => [.sl 5 (.v (iv i.k)), .sl 0 (.h base []), .sl 1 (.h (base + 1) []), .rt base .ro (tr a), .rt (base + 1) .ro (tr b)]) (fun i => a.length - i.k) ⟨0, Nat.zero_le _, rfl⟩ (ws) ?_
 intro i
 have hle := i.le
 refine go [.R2,.m,.N,.m,.h,.b,.Z] (k := ?_)
 refine cd (fun c2 => ?_) fun c2 => ?_
 ·try simp only [cnd] at c2
  refine jd (AW.seq (AW.block (AW.seq ?_)))
  refine go [.D [0, 1, 2, 3, 4, 5, 6, 7, 9],.t 0,.m,.N,.t 1,.m,.t 2,.i,.t 3,.G,.N,.t 4,.m,.t 5,.m,.t 6,.i,.N,.t 7,.G] (k := ?_)
  refine a1 8 [] [7, 3, 6, 2, 5, 4, 1, 0] rfl rfl (Stp.callV rfl (by decide) Tryz.call126 rfl rfl (eqOpen_con _ _)) ?_
  refine go [.N,.t 9,.n,.Z] (k := ?_)
  refine cd (fun c3 => ?_) fun c3 => ?_
  ·try simp only [cnd] at c3
   refine go [.R,.a,.Z] (k := ?_)
   refine rt1 4 ?_
   simp only [retX, slotL, reduceIte, Nat.reduceEqDiff]
   rw [decide_eq_false (show a ≠ b from i.stop En.dflt (by simpa using c3))]
  try simp only [cnd] at c3
  refine go [.J,.R1,.m,.N,.b,.a,.Z] (k := ?_)
  refine ⟨⟨i.k + 1, by omega, i.next En.dflt (by omega) (by omega) (by simpa using c3)⟩, ws, ?_⟩
  show a.length - (i.k + 1) < a.length - i.k
  omega
 try simp only [cnd] at c2
 refine AW.exit ?_
 dsimp only [thenQ, blockQ, reduceIte]
 refine go [.R,.a,.Z] (k := ?_)
 refine rt1 4 ?_
 simp only [retX, slotL, reduceIte, Nat.reduceEqDiff]
 rw [decide_eq_true (show a = b from i.full (by omega) (by omega))]
theorem eqIntS_con (a b : List Int) : Con Tryz.prog 58 [.h base [], .h (base + 1) []] [.rt base .ro (tr a), .rt (base + 1) .ro (tr b)] (fun y _ => y = .v (.bool (decide (a = b)))) := by
 refine ob Tryz.func58 Tryz.ntmps58 ?_
 refine AW.len base [] rfl (by simp [Okp]) rfl (fun hl => ?_)
 refine AW.len (base + 1) [] rfl (by simp [Okp]) rfl (fun hl2 => ?_)
 refine go [.R,.a,.Z,.R2,.m,.h,.N,.m,.h,.b,.Z] (k := ?_)
 refine cd (fun c1 => ?_) fun c1 => ?_
 ·try simp only [cnd] at c1
  refine go [.R,.a,.Z] (k := ?_)
  refine rt1 4 ?_
  simp only [retX, slotL, reduceIte, Nat.reduceEqDiff]
  rw [decide_eq_false (show a ≠ b from ne_of_len (by omega))]
 try simp only [cnd] at c1
 refine jd (sr2 ?_)
 refine go [.a,.Z] (k := ?_)
 refine AW.block ?_
 refine AW.loopW (fun i : EqInv a b => [.sl 5 (.v (iv i.k)), .sl 0 (.h base []), .sl 1 (.h (base + 1) []), .rt base .ro (tr a), .rt (base + 1) .ro (tr b)]) (fun i => a.length - i.k) ⟨0, Nat.zero_le _, rfl⟩ (ws) ?_
 intro i
 have hle := i.le
 refine go [.R2,.m,.N,.m,.h,.b,.Z] (k := ?_)
 refine cd (fun c2 => ?_) fun c2 => ?_
 ·try simp only [cnd] at c2
  refine jd (AW.seq (AW.block (AW.seq ?_)))
  refine go [.D [0, 1, 2, 3, 4, 5, 6, 7, 8],.t 0,.m,.N,.t 1,.m,.t 2,.i,.t 3,.l,.N,.t 4,.m,.t 5,.m,.t 6,.i,.N,.t 7,.l,.t 8,.b,.Z] (k := ?_)
  refine cd (fun c3 => ?_) fun c3 => ?_
  ·try simp only [cnd] at c3
   refine go [.R,.a,.Z] (k := ?_)
   refine rt1 4 ?_
   simp only [retX, slotL, reduceIte, Nat.reduceEqDiff]
   rw [decide_eq_false (show a ≠ b from i.stop En.dflt (by simpa using c3))]
  try simp only [cnd] at c3
  refine go [.J,.R1,.m,.N,.b,.a,.Z] (k := ?_)
  refine ⟨⟨i.k + 1, by omega, i.next En.dflt (by omega) (by omega) (by simpa using c3)⟩, ws, ?_⟩
  show a.length - (i.k + 1) < a.length - i.k
  omega
 try simp only [cnd] at c2
 refine AW.exit ?_
 dsimp only [thenQ, blockQ, reduceIte]
 refine go [.R,.a,.Z] (k := ?_)
 refine rt1 4 ?_
 simp only [retX, slotL, reduceIte, Nat.reduceEqDiff]
 rw [decide_eq_true (show a = b from i.full (by omega) (by omega))]
theorem eqFile_con (a b : DFile) : Con Tryz.prog 128 [.g [.v (iv a.Name), .h base []], .g [.v (iv b.Name), .h (base + 1) []]] [.rt base .ro (tr a.Data), .rt (base + 1) .ro (tr b.Data)] (fun y _ => y = .v (.bool (decide (a = b)))) := by
 refine ob Tryz.func128 Tryz.ntmps128 ?_
 refine go [.R,.B,.N,.B,.N,.a,.Z,.R2,.f,.l,.N,.f,.l,.b,.Z] (k := ?_)
 refine cd (fun c1 => ?_) fun c1 => ?_
 ·try simp only [cnd] at c1
  refine go [.R,.a,.Z] (k := ?_)
  refine rt1 4 ?_
  simp only [retX, slotL, reduceIte, Nat.reduceEqDiff]
  cases a
  cases b
  simp_all
 try simp only [cnd] at c1
 refine jd (sr2 ?_)
 refine go [.f,.N,.l,.f,.l,.N] (k := ?_)
 refine cv Tryz.call58 rfl rfl (eqIntS_con _ _) ?_
 refine go [.N,.n,.Z] (k := ?_)
 refine cd (fun c2 => ?_) fun c2 => ?_
 ·try simp only [cnd] at c2
  refine go [.R,.a,.Z] (k := ?_)
  refine rt1 4 ?_
  simp only [retX, slotL, reduceIte, Nat.reduceEqDiff]
  cases a
  cases b
  simp_all
 try simp only [cnd] at c2
 refine go [.J,.R,.a,.Z] (k := ?_)
 refine rt1 4 ?_
 simp only [retX, slotL, reduceIte, Nat.reduceEqDiff]
 cases a
 cases b
 simp_all
theorem eqFileS_con (a b : List DFile) : Con Tryz.prog 57 [.h base [], .h (base + 1) []] [.rt base .ro (tr a), .rt (base + 1) .ro (tr b)] (fun y _ => y = .v (.bool (decide (a = b)))) := by
 refine ob Tryz.func57 Tryz.ntmps57 ?_
 refine AW.len base [] rfl (by simp [Okp]) rfl (fun hl => ?_)
 refine AW.len (base + 1) [] rfl (by simp [Okp]) rfl (fun hl2 => ?_)
 refine go [.R,.a,.Z,.R2,.m,.h,.N,.m,.h,.b,.Z] (k := ?_)
 refine cd (fun c1 => ?_) fun c1 => ?_
 ·try simp only [cnd] at c1
  refine go [.R,.a,.Z] (k := ?_)
  refine rt1 4 ?_
  simp only [retX, slotL, reduceIte, Nat.reduceEqDiff]
  rw [decide_eq_false (show a ≠ b from ne_of_len (by omega))]
 try simp only [cnd] at c1
 refine jd (sr2 ?_)
 refine go [.a,.Z] (k := ?_)
 refine AW.block ?_
 refine AW.loopW (fun i : EqInv a b => [.sl 5 (.v (iv i.k)), .sl 0 (.h base []), .sl 1 (.h (base + 1) []), .rt base .ro (tr a), .rt (base + 1) .ro (tr b)]) (fun i => a.length - i.k) ⟨0, Nat.zero_le _, rfl⟩ (ws) ?_
 intro i
 have hle := i.le
 refine go [.R2,.m,.N,.m,.h,.b,.Z] (k := ?_)
 refine cd (fun c2 => ?_) fun c2 => ?_
 ·try simp only [cnd] at c2
  refine jd (AW.seq (AW.block (AW.seq ?_)))
  refine go [.D [0, 1, 2, 3, 4, 5, 6, 7, 9],.t 0,.m,.N,.t 1,.m,.t 2,.i,.t 3,.G,.N,.t 4,.m,.t 5,.m,.t 6,.i,.N,.t 7,.G] (k := ?_)
  refine a1 8 [] [7, 3, 6, 2, 5, 4, 1, 0] rfl rfl (Stp.callV rfl (by decide) Tryz.call128 rfl rfl (eqFile_con _ _)) ?_
  refine go [.N,.t 9,.n,.Z] (k := ?_)
  refine cd (fun c3 => ?_) fun c3 => ?_
  ·try simp only [cnd] at c3
   refine go [.R,.a,.Z] (k := ?_)
   refine rt1 4 ?_
   simp only [retX, slotL, reduceIte, Nat.reduceEqDiff]
   rw [decide_eq_false (show a ≠ b from i.stop En.dflt (by simpa using c3))]
  try simp only [cnd] at c3
  refine go [.J,.R1,.m,.N,.b,.a,.Z] (k := ?_)
  refine ⟨⟨i.k + 1, by omega, i.next En.dflt (by omega) (by omega) (by simpa using c3)⟩, ws, ?_⟩
  show a.length - (i.k + 1) < a.length - i.k
  omega
 try simp only [cnd] at c2
 refine AW.exit ?_
 dsimp only [thenQ, blockQ, reduceIte]
 refine go [.R,.a,.Z] (k := ?_)
 refine rt1 4 ?_
 simp only [retX, slotL, reduceIte, Nat.reduceEqDiff]
 rw [decide_eq_true (show a = b from i.full (by omega) (by omega))]
theorem eqCpu_con (a b : DCpu) : Con Tryz.prog 179 [.g [.v (iv a.Pc), .h base []], .g [.v (iv b.Pc), .h (base + 1) []]] [.rt base .ro (tr a.Regs), .rt (base + 1) .ro (tr b.Regs)] (fun y _ => y = .v (.bool (decide (a = b)))) := by
 refine ob Tryz.func179 Tryz.ntmps179 ?_
 refine go [.R,.B,.N,.B,.N,.a,.Z,.R2,.f,.l,.N,.f,.l,.b,.Z] (k := ?_)
 refine cd (fun c1 => ?_) fun c1 => ?_
 ·try simp only [cnd] at c1
  refine go [.R,.a,.Z] (k := ?_)
  refine rt1 4 ?_
  simp only [retX, slotL, reduceIte, Nat.reduceEqDiff]
  cases a
  cases b
  simp_all
 try simp only [cnd] at c1
 refine jd (sr2 ?_)
 refine go [.f,.N,.l,.f,.l,.N] (k := ?_)
 refine cv Tryz.call58 rfl rfl (eqIntS_con _ _) ?_
 refine go [.N,.n,.Z] (k := ?_)
 refine cd (fun c2 => ?_) fun c2 => ?_
 ·try simp only [cnd] at c2
  refine go [.R,.a,.Z] (k := ?_)
  refine rt1 4 ?_
  simp only [retX, slotL, reduceIte, Nat.reduceEqDiff]
  cases a
  cases b
  simp_all
 try simp only [cnd] at c2
 refine go [.J,.R,.a,.Z] (k := ?_)
 refine rt1 4 ?_
 simp only [retX, slotL, reduceIte, Nat.reduceEqDiff]
 cases a
 cases b
 simp_all
theorem eqBProc_con (a b : DBProc) : Con Tryz.prog 129 [.g [.v (iv a.Pid), .v (iv a.Parent), .v (iv a.State), .v (iv a.Prog), .v (iv a.Cpu.Pc), .h base [], .h (base + 1) [], .h (base + 2) [], .v (iv a.Until), .v (iv a.Code)], .g [.v (iv b.Pid), .v (iv b.Parent), .v (iv b.State), .v (iv b.Prog), .v (iv b.Cpu.Pc), .h (base + 3) [], .h (base + 4) [], .h (base + 5) [], .v (iv b.Until), .v (iv b.Code)]] [.rt base .ro (tr a.Cpu.Regs), .rt (base + 1) .ro (tr a.Pages), .rt (base + 2) .ro (tr a.Fds), .rt (base + 3) .ro (tr b.Cpu.Regs), .rt (base + 4) .ro (tr b.Pages), .rt (base + 5) .ro (tr b.Fds)] (fun y _ => y = .v (.bool (decide (a = b)))) := by
 refine ob Tryz.func129 Tryz.ntmps129 ?_
 refine go [.R,.B,.N,.B,.N,.a,.Z,.R2,.f,.l,.N,.f,.l,.b,.Z] (k := ?_)
 refine cd (fun c1 => ?_) fun c1 => ?_
 ·try simp only [cnd] at c1
  refine go [.R,.a,.Z] (k := ?_)
  refine rt1 4 ?_
  simp only [retX, slotL, reduceIte, Nat.reduceEqDiff]
  cases a
  cases b
  simp_all
 try simp only [cnd] at c1
 refine jd (sr2 ?_)
 refine go [.f,.N,.l,.f,.l,.N,.b,.Z] (k := ?_)
 refine cd (fun c2 => ?_) fun c2 => ?_
 ·try simp only [cnd] at c2
  refine go [.R,.a,.Z] (k := ?_)
  refine rt1 4 ?_
  simp only [retX, slotL, reduceIte, Nat.reduceEqDiff]
  cases a
  cases b
  simp_all
 try simp only [cnd] at c2
 refine jd (sr2 ?_)
 refine go [.f,.N,.l,.f,.l,.N,.b,.Z] (k := ?_)
 refine cd (fun c3 => ?_) fun c3 => ?_
 ·try simp only [cnd] at c3
  refine go [.R,.a,.Z] (k := ?_)
  refine rt1 4 ?_
  simp only [retX, slotL, reduceIte, Nat.reduceEqDiff]
  cases a
  cases b
  simp_all
 try simp only [cnd] at c3
 refine jd (sr2 ?_)
 refine go [.f,.N,.l,.f,.l,.N,.b,.Z] (k := ?_)
 refine cd (fun c4 => ?_) fun c4 => ?_
 ·try simp only [cnd] at c4
  refine go [.R,.a,.Z] (k := ?_)
  refine rt1 4 ?_
  simp only [retX, slotL, reduceIte, Nat.reduceEqDiff]
  cases a
  cases b
  simp_all
 try simp only [cnd] at c4
 refine jd (sr2 ?_)
 refine go [.f,.N,.G,.f,.G,.N] (k := ?_)
 refine cv Tryz.call179 rfl rfl (eqCpu_con _ _) ?_
 refine go [.N,.n,.Z] (k := ?_)
 refine cd (fun c5 => ?_) fun c5 => ?_
 ·try simp only [cnd] at c5
  refine go [.R,.a,.Z] (k := ?_)
  refine rt1 4 ?_
  simp only [retX, slotL, reduceIte, Nat.reduceEqDiff]
  cases a
  cases b
  simp_all
 try simp only [cnd] at c5
 refine jd (sr2 ?_)
 refine go [.f,.N,.l,.f,.l,.N] (k := ?_)
 refine cv Tryz.call58 rfl rfl (eqIntS_con _ _) ?_
 refine go [.N,.n,.Z] (k := ?_)
 refine cd (fun c6 => ?_) fun c6 => ?_
 ·try simp only [cnd] at c6
  refine go [.R,.a,.Z] (k := ?_)
  refine rt1 4 ?_
  simp only [retX, slotL, reduceIte, Nat.reduceEqDiff]
  cases a
  cases b
  simp_all
 try simp only [cnd] at c6
 refine jd (sr2 ?_)
 refine go [.f,.N,.l,.f,.l,.N] (k := ?_)
 refine cv Tryz.call58 rfl rfl (eqIntS_con _ _) ?_
 refine go [.N,.n,.Z] (k := ?_)
 refine cd (fun c7 => ?_) fun c7 => ?_
 ·try simp only [cnd] at c7
  refine go [.R,.a,.Z] (k := ?_)
  refine rt1 4 ?_
  simp only [retX, slotL, reduceIte, Nat.reduceEqDiff]
  cases a
  cases b
  simp_all
 try simp only [cnd] at c7
 refine jd (sr2 ?_)
 refine go [.f,.N,.l,.f,.l,.N,.b,.Z] (k := ?_)
 refine cd (fun c8 => ?_) fun c8 => ?_
 ·try simp only [cnd] at c8
  refine go [.R,.a,.Z] (k := ?_)
  refine rt1 4 ?_
  simp only [retX, slotL, reduceIte, Nat.reduceEqDiff]
  cases a
  cases b
  simp_all
 try simp only [cnd] at c8
 refine jd (sr2 ?_)
 refine go [.f,.N,.l,.f,.l,.N,.b,.Z] (k := ?_)
 refine cd (fun c9 => ?_) fun c9 => ?_
 ·try simp only [cnd] at c9
  refine go [.R,.a,.Z] (k := ?_)
  refine rt1 4 ?_
  simp only [retX, slotL, reduceIte, Nat.reduceEqDiff]
  cases a
  cases b
  simp_all
 try simp only [cnd] at c9
 refine go [.J,.R,.a,.Z] (k := ?_)
 refine rt1 4 ?_
 simp only [retX, slotL, reduceIte, Nat.reduceEqDiff]
 cases a
 cases b
 simp_all
theorem eqBProcS_con (a b : List DBProc) : Con Tryz.prog 59 [.h base [], .h (base + 1) []] [.rt base .ro (tr a), .rt (base + 1) .ro (tr b)] (fun y _ => y = .v (.bool (decide (a = b)))) := by
 refine ob Tryz.func59 Tryz.ntmps59 ?_
 refine AW.len base [] rfl (by simp [Okp]) rfl (fun hl => ?_)
 refine AW.len (base + 1) [] rfl (by simp [Okp]) rfl (fun hl2 => ?_)
 refine go [.R,.a,.Z,.R2,.m,.h,.N,.m,.h,.b,.Z] (k := ?_)
 refine cd (fun c1 => ?_) fun c1 => ?_
 ·try simp only [cnd] at c1
  refine go [.R,.a,.Z] (k := ?_)
  refine rt1 4 ?_
  simp only [retX, slotL, reduceIte, Nat.reduceEqDiff]
  rw [decide_eq_false (show a ≠ b from ne_of_len (by omega))]
 try simp only [cnd] at c1
 refine jd (sr2 ?_)
 refine go [.a,.Z] (k := ?_)
 refine AW.block ?_
 refine AW.loopW (fun i : EqInv a b => [.sl 5 (.v (iv i.k)), .sl 0 (.h base []), .sl 1 (.h (base + 1) []), .rt base .ro (tr a), .rt (base + 1) .ro (tr b)]) (fun i => a.length - i.k) ⟨0, Nat.zero_le _, rfl⟩ (ws) ?_
 intro i
 have hle := i.le
 refine go [.R2,.m,.N,.m,.h,.b,.Z] (k := ?_)
 refine cd (fun c2 => ?_) fun c2 => ?_
 ·try simp only [cnd] at c2
  refine jd (AW.seq (AW.block (AW.seq ?_)))
  refine go [.D [0, 1, 2, 3, 4, 5, 6, 7, 9],.t 0,.m,.N,.t 1,.m,.t 2,.i,.t 3,.G,.N,.t 4,.m,.t 5,.m,.t 6,.i,.N,.t 7,.G] (k := ?_)
  refine a1 8 [] [7, 3, 6, 2, 5, 4, 1, 0] rfl rfl (Stp.callV rfl (by decide) Tryz.call129 rfl rfl (eqBProc_con _ _)) ?_
  refine go [.N,.t 9,.n,.Z] (k := ?_)
  refine cd (fun c3 => ?_) fun c3 => ?_
  ·try simp only [cnd] at c3
   refine go [.R,.a,.Z] (k := ?_)
   refine rt1 4 ?_
   simp only [retX, slotL, reduceIte, Nat.reduceEqDiff]
   rw [decide_eq_false (show a ≠ b from i.stop En.dflt (by simpa using c3))]
  try simp only [cnd] at c3
  refine go [.J,.R1,.m,.N,.b,.a,.Z] (k := ?_)
  refine ⟨⟨i.k + 1, by omega, i.next En.dflt (by omega) (by omega) (by simpa using c3)⟩, ws, ?_⟩
  show a.length - (i.k + 1) < a.length - i.k
  omega
 try simp only [cnd] at c2
 refine AW.exit ?_
 dsimp only [thenQ, blockQ, reduceIte]
 refine go [.R,.a,.Z] (k := ?_)
 refine rt1 4 ?_
 simp only [retX, slotL, reduceIte, Nat.reduceEqDiff]
 rw [decide_eq_true (show a = b from i.full (by omega) (by omega))]
theorem eqIntSS_con (a b : List (List Int)) : Con Tryz.prog 130 [.h base [], .h (base + 1) []] [.rt base .ro (tr a), .rt (base + 1) .ro (tr b)] (fun y _ => y = .v (.bool (decide (a = b)))) := by
 refine ob Tryz.func130 Tryz.ntmps130 ?_
 refine AW.len base [] rfl (by simp [Okp]) rfl (fun hl => ?_)
 refine AW.len (base + 1) [] rfl (by simp [Okp]) rfl (fun hl2 => ?_)
 refine go [.R,.a,.Z,.R2,.m,.h,.N,.m,.h,.b,.Z] (k := ?_)
 refine cd (fun c1 => ?_) fun c1 => ?_
 ·try simp only [cnd] at c1
  refine go [.R,.a,.Z] (k := ?_)
  refine rt1 4 ?_
  simp only [retX, slotL, reduceIte, Nat.reduceEqDiff]
  rw [decide_eq_false (show a ≠ b from ne_of_len (by omega))]
 try simp only [cnd] at c1
 refine jd (sr2 ?_)
 refine go [.a,.Z] (k := ?_)
 refine AW.block ?_
 refine AW.loopW (fun i : EqInv a b => [.sl 5 (.v (iv i.k)), .sl 0 (.h base []), .sl 1 (.h (base + 1) []), .rt base .ro (tr a), .rt (base + 1) .ro (tr b)]) (fun i => a.length - i.k) ⟨0, Nat.zero_le _, rfl⟩ (ws) ?_
 intro i
 have hle := i.le
 refine go [.R2,.m,.N,.m,.h,.b,.Z] (k := ?_)
 refine cd (fun c2 => ?_) fun c2 => ?_
 ·try simp only [cnd] at c2
  refine jd (AW.seq (AW.block (AW.seq ?_)))
  refine go [.D [0, 1, 2, 3, 4, 5, 6, 7, 9],.t 0,.m,.N,.t 1,.m,.t 2,.i,.t 3,.l,.N,.t 4,.m,.t 5,.m,.t 6,.i,.N,.t 7,.l] (k := ?_)
  refine a1 8 [] [7, 3, 6, 2, 5, 4, 1, 0] rfl rfl (Stp.callV rfl (by decide) Tryz.call58 rfl rfl (eqIntS_con _ _)) ?_
  refine go [.N,.t 9,.n,.Z] (k := ?_)
  refine cd (fun c3 => ?_) fun c3 => ?_
  ·try simp only [cnd] at c3
   refine go [.R,.a,.Z] (k := ?_)
   refine rt1 4 ?_
   simp only [retX, slotL, reduceIte, Nat.reduceEqDiff]
   rw [decide_eq_false (show a ≠ b from i.stop En.dflt (by simpa using c3))]
  try simp only [cnd] at c3
  refine go [.J,.R1,.m,.N,.b,.a,.Z] (k := ?_)
  refine ⟨⟨i.k + 1, by omega, i.next En.dflt (by omega) (by omega) (by simpa using c3)⟩, ws, ?_⟩
  show a.length - (i.k + 1) < a.length - i.k
  omega
 try simp only [cnd] at c2
 refine AW.exit ?_
 dsimp only [thenQ, blockQ, reduceIte]
 refine go [.R,.a,.Z] (k := ?_)
 refine rt1 4 ?_
 simp only [retX, slotL, reduceIte, Nat.reduceEqDiff]
 rw [decide_eq_true (show a = b from i.full (by omega) (by omega))]
theorem eqBuddy_con (a b : DBuddy) : Con Tryz.prog 60 [.g [.h base []], .g [.h (base + 1) []]] [.rt base .ro (tr a.Free), .rt (base + 1) .ro (tr b.Free)] (fun y _ => y = .v (.bool (decide (a = b)))) := by
 refine ob Tryz.func60 Tryz.ntmps60 ?_
 refine go [.R,.B,.N,.B,.N,.a,.Z,.R2,.f,.l,.N,.f,.l] (k := ?_)
 refine cv Tryz.call130 rfl rfl (eqIntSS_con _ _) ?_
 refine go [.N,.n,.Z] (k := ?_)
 refine cd (fun c1 => ?_) fun c1 => ?_
 ·try simp only [cnd] at c1
  refine go [.R,.a,.Z] (k := ?_)
  refine rt1 4 ?_
  simp only [retX, slotL, reduceIte, Nat.reduceEqDiff]
  cases a
  cases b
  simp_all
 try simp only [cnd] at c1
 refine go [.J,.R,.a,.Z] (k := ?_)
 refine rt1 4 ?_
 simp only [retX, slotL, reduceIte, Nat.reduceEqDiff]
 cases a
 cases b
 simp_all
theorem eqBPipe_con (a b : DBPipe) : Con Tryz.prog 131 [.g [.v (iv a.Id), .h base []], .g [.v (iv b.Id), .h (base + 1) []]] [.rt base .ro (tr a.Chunks), .rt (base + 1) .ro (tr b.Chunks)] (fun y _ => y = .v (.bool (decide (a = b)))) := by
 refine ob Tryz.func131 Tryz.ntmps131 ?_
 refine go [.R,.B,.N,.B,.N,.a,.Z,.R2,.f,.l,.N,.f,.l,.b,.Z] (k := ?_)
 refine cd (fun c1 => ?_) fun c1 => ?_
 ·try simp only [cnd] at c1
  refine go [.R,.a,.Z] (k := ?_)
  refine rt1 4 ?_
  simp only [retX, slotL, reduceIte, Nat.reduceEqDiff]
  cases a
  cases b
  simp_all
 try simp only [cnd] at c1
 refine jd (sr2 ?_)
 refine go [.f,.N,.l,.f,.l,.N] (k := ?_)
 refine cv Tryz.call130 rfl rfl (eqIntSS_con _ _) ?_
 refine go [.N,.n,.Z] (k := ?_)
 refine cd (fun c2 => ?_) fun c2 => ?_
 ·try simp only [cnd] at c2
  refine go [.R,.a,.Z] (k := ?_)
  refine rt1 4 ?_
  simp only [retX, slotL, reduceIte, Nat.reduceEqDiff]
  cases a
  cases b
  simp_all
 try simp only [cnd] at c2
 refine go [.J,.R,.a,.Z] (k := ?_)
 refine rt1 4 ?_
 simp only [retX, slotL, reduceIte, Nat.reduceEqDiff]
 cases a
 cases b
 simp_all
theorem eqBPipeS_con (a b : List DBPipe) : Con Tryz.prog 61 [.h base [], .h (base + 1) []] [.rt base .ro (tr a), .rt (base + 1) .ro (tr b)] (fun y _ => y = .v (.bool (decide (a = b)))) := by
 refine ob Tryz.func61 Tryz.ntmps61 ?_
 refine AW.len base [] rfl (by simp [Okp]) rfl (fun hl => ?_)
 refine AW.len (base + 1) [] rfl (by simp [Okp]) rfl (fun hl2 => ?_)
 refine go [.R,.a,.Z,.R2,.m,.h,.N,.m,.h,.b,.Z] (k := ?_)
 refine cd (fun c1 => ?_) fun c1 => ?_
 ·try simp only [cnd] at c1
  refine go [.R,.a,.Z] (k := ?_)
  refine rt1 4 ?_
  simp only [retX, slotL, reduceIte, Nat.reduceEqDiff]
  rw [decide_eq_false (show a ≠ b from ne_of_len (by omega))]
 try simp only [cnd] at c1
 refine jd (sr2 ?_)
 refine go [.a,.Z] (k := ?_)
 refine AW.block ?_
 refine AW.loopW (fun i : EqInv a b => [.sl 5 (.v (iv i.k)), .sl 0 (.h base []), .sl 1 (.h (base + 1) []), .rt base .ro (tr a), .rt (base + 1) .ro (tr b)]) (fun i => a.length - i.k) ⟨0, Nat.zero_le _, rfl⟩ (ws) ?_
 intro i
 have hle := i.le
 refine go [.R2,.m,.N,.m,.h,.b,.Z] (k := ?_)
 refine cd (fun c2 => ?_) fun c2 => ?_
 ·try simp only [cnd] at c2
  refine jd (AW.seq (AW.block (AW.seq ?_)))
  refine go [.D [0, 1, 2, 3, 4, 5, 6, 7, 9],.t 0,.m,.N,.t 1,.m,.t 2,.i,.t 3,.G,.N,.t 4,.m,.t 5,.m,.t 6,.i,.N,.t 7,.G] (k := ?_)
  refine a1 8 [] [7, 3, 6, 2, 5, 4, 1, 0] rfl rfl (Stp.callV rfl (by decide) Tryz.call131 rfl rfl (eqBPipe_con _ _)) ?_
  refine go [.N,.t 9,.n,.Z] (k := ?_)
  refine cd (fun c3 => ?_) fun c3 => ?_
  ·try simp only [cnd] at c3
   refine go [.R,.a,.Z] (k := ?_)
   refine rt1 4 ?_
   simp only [retX, slotL, reduceIte, Nat.reduceEqDiff]
   rw [decide_eq_false (show a ≠ b from i.stop En.dflt (by simpa using c3))]
  try simp only [cnd] at c3
  refine go [.J,.R1,.m,.N,.b,.a,.Z] (k := ?_)
  refine ⟨⟨i.k + 1, by omega, i.next En.dflt (by omega) (by omega) (by simpa using c3)⟩, ws, ?_⟩
  show a.length - (i.k + 1) < a.length - i.k
  omega
 try simp only [cnd] at c2
 refine AW.exit ?_
 dsimp only [thenQ, blockQ, reduceIte]
 refine go [.R,.a,.Z] (k := ?_)
 refine rt1 4 ?_
 simp only [retX, slotL, reduceIte, Nat.reduceEqDiff]
 rw [decide_eq_true (show a = b from i.full (by omega) (by omega))]
theorem eqNodes_con (a b : DNodes) : Con Tryz.prog 11 [.g [.v (iv a.Next), .v (iv a.Tick), .h base [], .h (base + 1) [], .h (base + 2) [], .h (base + 3) [], .h (base + 4) [], .h (base + 5) [], .h (base + 6) [], .h (base + 7) [], .h (base + 8) []], .g [.v (iv b.Next), .v (iv b.Tick), .h (base + 9) [], .h (base + 10) [], .h (base + 11) [], .h (base + 12) [], .h (base + 13) [], .h (base + 14) [], .h (base + 15) [], .h (base + 16) [], .h (base + 17) []]] [.rt base .ro (tr a.Progs), .rt (base + 1) .ro (tr a.Procs), .rt (base + 2) .ro (tr a.Ram), .rt (base + 3) .ro (tr a.Heap.Free), .rt (base + 4) .ro (tr a.Opens), .rt (base + 5) .ro (tr a.Pipes), .rt (base + 6) .ro (tr a.Files), .rt (base + 7) .ro (tr a.Ready), .rt (base + 8) .ro (tr a.Out), .rt (base + 9) .ro (tr b.Progs), .rt (base + 10) .ro (tr b.Procs), .rt (base + 11) .ro (tr b.Ram), .rt (base + 12) .ro (tr b.Heap.Free), .rt (base + 13) .ro (tr b.Opens), .rt (base + 14) .ro (tr b.Pipes), .rt (base + 15) .ro (tr b.Files), .rt (base + 16) .ro (tr b.Ready), .rt (base + 17) .ro (tr b.Out)] (fun y _ => y = .v (.bool (decide (a = b)))) := by
 refine ob Tryz.func11 Tryz.ntmps11 ?_
 refine go [.R,.B,.N,.B,.N,.a,.Z,.R2,.f,.l,.N,.f,.l,.b,.Z] (k := ?_)
 refine cd (fun c1 => ?_) fun c1 => ?_
 ·try simp only [cnd] at c1
  refine go [.R,.a,.Z] (k := ?_)
  refine rt1 4 ?_
  simp only [retX, slotL, reduceIte, Nat.reduceEqDiff]
  cases a
  cases b
  simp_all
 try simp only [cnd] at c1
 refine jd (sr2 ?_)
 refine go [.f,.N,.l,.f,.l,.N,.b,.Z] (k := ?_)
 refine cd (fun c2 => ?_) fun c2 => ?_
 ·try simp only [cnd] at c2
  refine go [.R,.a,.Z] (k := ?_)
  refine rt1 4 ?_
  simp only [retX, slotL, reduceIte, Nat.reduceEqDiff]
  cases a
  cases b
  simp_all
 try simp only [cnd] at c2
 refine jd (sr2 ?_)
 refine go [.f,.N,.l,.f,.l,.N] (k := ?_)
 refine cv Tryz.call53 rfl rfl (eqInsSS_con _ _) ?_
 refine go [.N,.n,.Z] (k := ?_)
 refine cd (fun c3 => ?_) fun c3 => ?_
 ·try simp only [cnd] at c3
  refine go [.R,.a,.Z] (k := ?_)
  refine rt1 4 ?_
  simp only [retX, slotL, reduceIte, Nat.reduceEqDiff]
  cases a
  cases b
  simp_all
 try simp only [cnd] at c3
 refine jd (sr2 ?_)
 refine go [.f,.N,.l,.f,.l,.N] (k := ?_)
 refine cv Tryz.call59 rfl rfl (eqBProcS_con _ _) ?_
 refine go [.N,.n,.Z] (k := ?_)
 refine cd (fun c4 => ?_) fun c4 => ?_
 ·try simp only [cnd] at c4
  refine go [.R,.a,.Z] (k := ?_)
  refine rt1 4 ?_
  simp only [retX, slotL, reduceIte, Nat.reduceEqDiff]
  cases a
  cases b
  simp_all
 try simp only [cnd] at c4
 refine jd (sr2 ?_)
 refine go [.f,.N,.l,.f,.l,.N] (k := ?_)
 refine cv Tryz.call58 rfl rfl (eqIntS_con _ _) ?_
 refine go [.N,.n,.Z] (k := ?_)
 refine cd (fun c5 => ?_) fun c5 => ?_
 ·try simp only [cnd] at c5
  refine go [.R,.a,.Z] (k := ?_)
  refine rt1 4 ?_
  simp only [retX, slotL, reduceIte, Nat.reduceEqDiff]
  cases a
  cases b
  simp_all
 try simp only [cnd] at c5
 refine jd (sr2 ?_)
 refine go [.f,.N,.G,.f,.G,.N] (k := ?_)
 refine cv Tryz.call60 rfl rfl (eqBuddy_con _ _) ?_
 refine go [.N,.n,.Z] (k := ?_)
 refine cd (fun c6 => ?_) fun c6 => ?_
 ·try simp only [cnd] at c6
  refine go [.R,.a,.Z] (k := ?_)
  refine rt1 4 ?_
  simp only [retX, slotL, reduceIte, Nat.reduceEqDiff]
  cases a
  cases b
  simp_all
 try simp only [cnd] at c6
 refine jd (sr2 ?_)
 refine go [.f,.N,.l,.f,.l,.N] (k := ?_)
 refine cv Tryz.call55 rfl rfl (eqOpenS_con _ _) ?_
 refine go [.N,.n,.Z] (k := ?_)
 refine cd (fun c7 => ?_) fun c7 => ?_
 ·try simp only [cnd] at c7
  refine go [.R,.a,.Z] (k := ?_)
  refine rt1 4 ?_
  simp only [retX, slotL, reduceIte, Nat.reduceEqDiff]
  cases a
  cases b
  simp_all
 try simp only [cnd] at c7
 refine jd (sr2 ?_)
 refine go [.f,.N,.l,.f,.l,.N] (k := ?_)
 refine cv Tryz.call61 rfl rfl (eqBPipeS_con _ _) ?_
 refine go [.N,.n,.Z] (k := ?_)
 refine cd (fun c8 => ?_) fun c8 => ?_
 ·try simp only [cnd] at c8
  refine go [.R,.a,.Z] (k := ?_)
  refine rt1 4 ?_
  simp only [retX, slotL, reduceIte, Nat.reduceEqDiff]
  cases a
  cases b
  simp_all
 try simp only [cnd] at c8
 refine jd (sr2 ?_)
 refine go [.f,.N,.l,.f,.l,.N] (k := ?_)
 refine cv Tryz.call57 rfl rfl (eqFileS_con _ _) ?_
 refine go [.N,.n,.Z] (k := ?_)
 refine cd (fun c9 => ?_) fun c9 => ?_
 ·try simp only [cnd] at c9
  refine go [.R,.a,.Z] (k := ?_)
  refine rt1 4 ?_
  simp only [retX, slotL, reduceIte, Nat.reduceEqDiff]
  cases a
  cases b
  simp_all
 try simp only [cnd] at c9
 refine jd (sr2 ?_)
 refine go [.f,.N,.l,.f,.l,.N] (k := ?_)
 refine cv Tryz.call58 rfl rfl (eqIntS_con _ _) ?_
 refine go [.N,.n,.Z] (k := ?_)
 refine cd (fun c10 => ?_) fun c10 => ?_
 ·try simp only [cnd] at c10
  refine go [.R,.a,.Z] (k := ?_)
  refine rt1 4 ?_
  simp only [retX, slotL, reduceIte, Nat.reduceEqDiff]
  cases a
  cases b
  simp_all
 try simp only [cnd] at c10
 refine jd (sr2 ?_)
 refine go [.f,.N,.l,.f,.l,.N] (k := ?_)
 refine cv Tryz.call58 rfl rfl (eqIntS_con _ _) ?_
 refine go [.N,.n,.Z] (k := ?_)
 refine cd (fun c11 => ?_) fun c11 => ?_
 ·try simp only [cnd] at c11
  refine go [.R,.a,.Z] (k := ?_)
  refine rt1 4 ?_
  simp only [retX, slotL, reduceIte, Nat.reduceEqDiff]
  cases a
  cases b
  simp_all
 try simp only [cnd] at c11
 refine go [.J,.R,.a,.Z] (k := ?_)
 refine rt1 4 ?_
 simp only [retX, slotL, reduceIte, Nat.reduceEqDiff]
 cases a
 cases b
 simp_all
structure DProc where
 Pid : Int
 Parent : Int
 State : Int
 Prog : Int
 Cpu : DCpu
 Mem : List Int
 Fds : List Int
 Until : Int
 Code : Int
deriving DecidableEq
instance : En DProc := ⟨10, by omega, fun a => [.v (iv a.Pid), .v (iv a.Parent), .v (iv a.State), .v (iv a.Prog), .v (iv a.Cpu.Pc), tr a.Cpu.Regs, tr a.Mem, tr a.Fds, .v (iv a.Until), .v (iv a.Code)], fun _ => rfl, fun a => En.fit a.Pid ∧ En.fit a.Parent ∧ En.fit a.State ∧ En.fit a.Prog ∧ En.fit a.Cpu ∧ En.fit a.Mem ∧ En.fit a.Fds ∧ En.fit a.Until ∧ En.fit a.Code, ⟨0, 0, 0, 0, ⟨0, []⟩, [], [], 0, 0⟩⟩
@[go_sem] theorem cs_Proc (a : DProc) : En.cs a = [.v (iv a.Pid), .v (iv a.Parent), .v (iv a.State), .v (iv a.Prog), .v (iv a.Cpu.Pc), tr a.Cpu.Regs, tr a.Mem, tr a.Fds, .v (iv a.Until), .v (iv a.Code)] := rfl
instance : Mk DProc := { wt := fun a => Mk.wt a.Cpu.Regs + Mk.wt a.Mem + Mk.wt a.Fds, cnt := fun a => 1 + 1 + 1 + 1 + 1 + (Mk.cnt a.Cpu.Regs) + (Mk.cnt a.Mem) + (Mk.cnt a.Fds) + 1 + 1, mark := fun a k => ⟨k, k + 1, k + 1 + 1, k + 1 + 1 + 1, ⟨k + 1 + 1 + 1 + 1, Mk.mark a.Cpu.Regs (k + 1 + 1 + 1 + 1 + 1)⟩, Mk.mark a.Mem (k + 1 + 1 + 1 + 1 + 1 + (Mk.cnt a.Cpu.Regs : Nat)), Mk.mark a.Fds (k + 1 + 1 + 1 + 1 + 1 + (Mk.cnt a.Cpu.Regs : Nat) + (Mk.cnt a.Mem : Nat)), k + 1 + 1 + 1 + 1 + 1 + (Mk.cnt a.Cpu.Regs : Nat) + (Mk.cnt a.Mem : Nat) + (Mk.cnt a.Fds : Nat), k + 1 + 1 + 1 + 1 + 1 + (Mk.cnt a.Cpu.Regs : Nat) + (Mk.cnt a.Mem : Nat) + (Mk.cnt a.Fds : Nat) + 1⟩, cnt_mk := fun a k => by simp [Mk.cnt_mk] }
theorem cnt_Proc (a : DProc) : Mk.cnt a = 1 + 1 + 1 + 1 + 1 + (Mk.cnt a.Cpu.Regs) + (Mk.cnt a.Mem) + (Mk.cnt a.Fds) + 1 + 1 := rfl
structure DPipe where
 Id : Int
 Data : List Int
deriving DecidableEq
instance : En DPipe := ⟨2, by omega, fun a => [.v (iv a.Id), tr a.Data], fun _ => rfl, fun a => En.fit a.Id ∧ En.fit a.Data, ⟨0, []⟩⟩
@[go_sem] theorem cs_Pipe (a : DPipe) : En.cs a = [.v (iv a.Id), tr a.Data] := rfl
instance : Mk DPipe := { wt := fun a => Mk.wt a.Data, cnt := fun a => 1 + (Mk.cnt a.Data), mark := fun a k => ⟨k, Mk.mark a.Data (k + 1)⟩, cnt_mk := fun a k => by simp [Mk.cnt_mk] }
theorem cnt_Pipe (a : DPipe) : Mk.cnt a = 1 + (Mk.cnt a.Data) := rfl
structure DUnix where
 Next : Int
 Tick : Int
 Progs : List (List DIns)
 Procs : List DProc
 Opens : List DOpen
 Pipes : List DPipe
 Files : List DFile
 Ready : List Int
 Out : List Int
deriving DecidableEq
instance : En DUnix := ⟨9, by omega, fun a => [.v (iv a.Next), .v (iv a.Tick), tr a.Progs, tr a.Procs, tr a.Opens, tr a.Pipes, tr a.Files, tr a.Ready, tr a.Out], fun _ => rfl, fun a => En.fit a.Next ∧ En.fit a.Tick ∧ En.fit a.Progs ∧ En.fit a.Procs ∧ En.fit a.Opens ∧ En.fit a.Pipes ∧ En.fit a.Files ∧ En.fit a.Ready ∧ En.fit a.Out, ⟨0, 0, [], [], [], [], [], [], []⟩⟩
@[go_sem] theorem cs_Unix (a : DUnix) : En.cs a = [.v (iv a.Next), .v (iv a.Tick), tr a.Progs, tr a.Procs, tr a.Opens, tr a.Pipes, tr a.Files, tr a.Ready, tr a.Out] := rfl
instance : Mk DUnix := { wt := fun a => Mk.wt a.Progs + Mk.wt a.Procs + Mk.wt a.Opens + Mk.wt a.Pipes + Mk.wt a.Files + Mk.wt a.Ready + Mk.wt a.Out, cnt := fun a => 1 + 1 + (Mk.cnt a.Progs) + (Mk.cnt a.Procs) + (Mk.cnt a.Opens) + (Mk.cnt a.Pipes) + (Mk.cnt a.Files) + (Mk.cnt a.Ready) + (Mk.cnt a.Out), mark := fun a k => ⟨k, k + 1, Mk.mark a.Progs (k + 1 + 1), Mk.mark a.Procs (k + 1 + 1 + (Mk.cnt a.Progs : Nat)), Mk.mark a.Opens (k + 1 + 1 + (Mk.cnt a.Progs : Nat) + (Mk.cnt a.Procs : Nat)), Mk.mark a.Pipes (k + 1 + 1 + (Mk.cnt a.Progs : Nat) + (Mk.cnt a.Procs : Nat) + (Mk.cnt a.Opens : Nat)), Mk.mark a.Files (k + 1 + 1 + (Mk.cnt a.Progs : Nat) + (Mk.cnt a.Procs : Nat) + (Mk.cnt a.Opens : Nat) + (Mk.cnt a.Pipes : Nat)), Mk.mark a.Ready (k + 1 + 1 + (Mk.cnt a.Progs : Nat) + (Mk.cnt a.Procs : Nat) + (Mk.cnt a.Opens : Nat) + (Mk.cnt a.Pipes : Nat) + (Mk.cnt a.Files : Nat)), Mk.mark a.Out (k + 1 + 1 + (Mk.cnt a.Progs : Nat) + (Mk.cnt a.Procs : Nat) + (Mk.cnt a.Opens : Nat) + (Mk.cnt a.Pipes : Nat) + (Mk.cnt a.Files : Nat) + (Mk.cnt a.Ready : Nat))⟩, cnt_mk := fun a k => by simp [Mk.cnt_mk] }
theorem eqProc_con (a b : DProc) : Con Tryz.prog 125 [.g [.v (iv a.Pid), .v (iv a.Parent), .v (iv a.State), .v (iv a.Prog), .v (iv a.Cpu.Pc), .h base [], .h (base + 1) [], .h (base + 2) [], .v (iv a.Until), .v (iv a.Code)], .g [.v (iv b.Pid), .v (iv b.Parent), .v (iv b.State), .v (iv b.Prog), .v (iv b.Cpu.Pc), .h (base + 3) [], .h (base + 4) [], .h (base + 5) [], .v (iv b.Until), .v (iv b.Code)]] [.rt base .ro (tr a.Cpu.Regs), .rt (base + 1) .ro (tr a.Mem), .rt (base + 2) .ro (tr a.Fds), .rt (base + 3) .ro (tr b.Cpu.Regs), .rt (base + 4) .ro (tr b.Mem), .rt (base + 5) .ro (tr b.Fds)] (fun y _ => y = .v (.bool (decide (a = b)))) := by
 refine ob Tryz.func125 Tryz.ntmps125 ?_
 refine go [.R,.B,.N,.B,.N,.a,.Z,.R2,.f,.l,.N,.f,.l,.b,.Z] (k := ?_)
 refine cd (fun c1 => ?_) fun c1 => ?_
 ·try simp only [cnd] at c1
  refine go [.R,.a,.Z] (k := ?_)
  refine rt1 4 ?_
  simp only [retX, slotL, reduceIte, Nat.reduceEqDiff]
  cases a
  cases b
  simp_all
 try simp only [cnd] at c1
 refine jd (sr2 ?_)
 refine go [.f,.N,.l,.f,.l,.N,.b,.Z] (k := ?_)
 refine cd (fun c2 => ?_) fun c2 => ?_
 ·try simp only [cnd] at c2
  refine go [.R,.a,.Z] (k := ?_)
  refine rt1 4 ?_
  simp only [retX, slotL, reduceIte, Nat.reduceEqDiff]
  cases a
  cases b
  simp_all
 try simp only [cnd] at c2
 refine jd (sr2 ?_)
 refine go [.f,.N,.l,.f,.l,.N,.b,.Z] (k := ?_)
 refine cd (fun c3 => ?_) fun c3 => ?_
 ·try simp only [cnd] at c3
  refine go [.R,.a,.Z] (k := ?_)
  refine rt1 4 ?_
  simp only [retX, slotL, reduceIte, Nat.reduceEqDiff]
  cases a
  cases b
  simp_all
 try simp only [cnd] at c3
 refine jd (sr2 ?_)
 refine go [.f,.N,.l,.f,.l,.N,.b,.Z] (k := ?_)
 refine cd (fun c4 => ?_) fun c4 => ?_
 ·try simp only [cnd] at c4
  refine go [.R,.a,.Z] (k := ?_)
  refine rt1 4 ?_
  simp only [retX, slotL, reduceIte, Nat.reduceEqDiff]
  cases a
  cases b
  simp_all
 try simp only [cnd] at c4
 refine jd (sr2 ?_)
 refine go [.f,.N,.G,.f,.G,.N] (k := ?_)
 refine cv Tryz.call179 rfl rfl (eqCpu_con _ _) ?_
 refine go [.N,.n,.Z] (k := ?_)
 refine cd (fun c5 => ?_) fun c5 => ?_
 ·try simp only [cnd] at c5
  refine go [.R,.a,.Z] (k := ?_)
  refine rt1 4 ?_
  simp only [retX, slotL, reduceIte, Nat.reduceEqDiff]
  cases a
  cases b
  simp_all
 try simp only [cnd] at c5
 refine jd (sr2 ?_)
 refine go [.f,.N,.l,.f,.l,.N] (k := ?_)
 refine cv Tryz.call58 rfl rfl (eqIntS_con _ _) ?_
 refine go [.N,.n,.Z] (k := ?_)
 refine cd (fun c6 => ?_) fun c6 => ?_
 ·try simp only [cnd] at c6
  refine go [.R,.a,.Z] (k := ?_)
  refine rt1 4 ?_
  simp only [retX, slotL, reduceIte, Nat.reduceEqDiff]
  cases a
  cases b
  simp_all
 try simp only [cnd] at c6
 refine jd (sr2 ?_)
 refine go [.f,.N,.l,.f,.l,.N] (k := ?_)
 refine cv Tryz.call58 rfl rfl (eqIntS_con _ _) ?_
 refine go [.N,.n,.Z] (k := ?_)
 refine cd (fun c7 => ?_) fun c7 => ?_
 ·try simp only [cnd] at c7
  refine go [.R,.a,.Z] (k := ?_)
  refine rt1 4 ?_
  simp only [retX, slotL, reduceIte, Nat.reduceEqDiff]
  cases a
  cases b
  simp_all
 try simp only [cnd] at c7
 refine jd (sr2 ?_)
 refine go [.f,.N,.l,.f,.l,.N,.b,.Z] (k := ?_)
 refine cd (fun c8 => ?_) fun c8 => ?_
 ·try simp only [cnd] at c8
  refine go [.R,.a,.Z] (k := ?_)
  refine rt1 4 ?_
  simp only [retX, slotL, reduceIte, Nat.reduceEqDiff]
  cases a
  cases b
  simp_all
 try simp only [cnd] at c8
 refine jd (sr2 ?_)
 refine go [.f,.N,.l,.f,.l,.N,.b,.Z] (k := ?_)
 refine cd (fun c9 => ?_) fun c9 => ?_
 ·try simp only [cnd] at c9
  refine go [.R,.a,.Z] (k := ?_)
  refine rt1 4 ?_
  simp only [retX, slotL, reduceIte, Nat.reduceEqDiff]
  cases a
  cases b
  simp_all
 try simp only [cnd] at c9
 refine go [.J,.R,.a,.Z] (k := ?_)
 refine rt1 4 ?_
 simp only [retX, slotL, reduceIte, Nat.reduceEqDiff]
 cases a
 cases b
 simp_all
theorem eqProcS_con (a b : List DProc) : Con Tryz.prog 54 [.h base [], .h (base + 1) []] [.rt base .ro (tr a), .rt (base + 1) .ro (tr b)] (fun y _ => y = .v (.bool (decide (a = b)))) := by
 refine ob Tryz.func54 Tryz.ntmps54 ?_
 refine AW.len base [] rfl (by simp [Okp]) rfl (fun hl => ?_)
 refine AW.len (base + 1) [] rfl (by simp [Okp]) rfl (fun hl2 => ?_)
 refine go [.R,.a,.Z,.R2,.m,.h,.N,.m,.h,.b,.Z] (k := ?_)
 refine cd (fun c1 => ?_) fun c1 => ?_
 ·try simp only [cnd] at c1
  refine go [.R,.a,.Z] (k := ?_)
  refine rt1 4 ?_
  simp only [retX, slotL, reduceIte, Nat.reduceEqDiff]
  rw [decide_eq_false (show a ≠ b from ne_of_len (by omega))]
 try simp only [cnd] at c1
 refine jd (sr2 ?_)
 refine go [.a,.Z] (k := ?_)
 refine AW.block ?_
 refine AW.loopW (fun i : EqInv a b => [.sl 5 (.v (iv i.k)), .sl 0 (.h base []), .sl 1 (.h (base + 1) []), .rt base .ro (tr a), .rt (base + 1) .ro (tr b)]) (fun i => a.length - i.k) ⟨0, Nat.zero_le _, rfl⟩ (ws) ?_
 intro i
 have hle := i.le
 refine go [.R2,.m,.N,.m,.h,.b,.Z] (k := ?_)
 refine cd (fun c2 => ?_) fun c2 => ?_
 ·try simp only [cnd] at c2
  refine jd (AW.seq (AW.block (AW.seq ?_)))
  refine go [.D [0, 1, 2, 3, 4, 5, 6, 7, 9],.t 0,.m,.N,.t 1,.m,.t 2,.i,.t 3,.G,.N,.t 4,.m,.t 5,.m,.t 6,.i,.N,.t 7,.G] (k := ?_)
  refine a1 8 [] [7, 3, 6, 2, 5, 4, 1, 0] rfl rfl (Stp.callV rfl (by decide) Tryz.call125 rfl rfl (eqProc_con _ _)) ?_
  refine go [.N,.t 9,.n,.Z] (k := ?_)
  refine cd (fun c3 => ?_) fun c3 => ?_
  ·try simp only [cnd] at c3
   refine go [.R,.a,.Z] (k := ?_)
   refine rt1 4 ?_
   simp only [retX, slotL, reduceIte, Nat.reduceEqDiff]
   rw [decide_eq_false (show a ≠ b from i.stop En.dflt (by simpa using c3))]
  try simp only [cnd] at c3
  refine go [.J,.R1,.m,.N,.b,.a,.Z] (k := ?_)
  refine ⟨⟨i.k + 1, by omega, i.next En.dflt (by omega) (by omega) (by simpa using c3)⟩, ws, ?_⟩
  show a.length - (i.k + 1) < a.length - i.k
  omega
 try simp only [cnd] at c2
 refine AW.exit ?_
 dsimp only [thenQ, blockQ, reduceIte]
 refine go [.R,.a,.Z] (k := ?_)
 refine rt1 4 ?_
 simp only [retX, slotL, reduceIte, Nat.reduceEqDiff]
 rw [decide_eq_true (show a = b from i.full (by omega) (by omega))]
theorem eqPipe_con (a b : DPipe) : Con Tryz.prog 127 [.g [.v (iv a.Id), .h base []], .g [.v (iv b.Id), .h (base + 1) []]] [.rt base .ro (tr a.Data), .rt (base + 1) .ro (tr b.Data)] (fun y _ => y = .v (.bool (decide (a = b)))) := by
 refine ob Tryz.func127 Tryz.ntmps127 ?_
 refine go [.R,.B,.N,.B,.N,.a,.Z,.R2,.f,.l,.N,.f,.l,.b,.Z] (k := ?_)
 refine cd (fun c1 => ?_) fun c1 => ?_
 ·try simp only [cnd] at c1
  refine go [.R,.a,.Z] (k := ?_)
  refine rt1 4 ?_
  simp only [retX, slotL, reduceIte, Nat.reduceEqDiff]
  cases a
  cases b
  simp_all
 try simp only [cnd] at c1
 refine jd (sr2 ?_)
 refine go [.f,.N,.l,.f,.l,.N] (k := ?_)
 refine cv Tryz.call58 rfl rfl (eqIntS_con _ _) ?_
 refine go [.N,.n,.Z] (k := ?_)
 refine cd (fun c2 => ?_) fun c2 => ?_
 ·try simp only [cnd] at c2
  refine go [.R,.a,.Z] (k := ?_)
  refine rt1 4 ?_
  simp only [retX, slotL, reduceIte, Nat.reduceEqDiff]
  cases a
  cases b
  simp_all
 try simp only [cnd] at c2
 refine go [.J,.R,.a,.Z] (k := ?_)
 refine rt1 4 ?_
 simp only [retX, slotL, reduceIte, Nat.reduceEqDiff]
 cases a
 cases b
 simp_all
theorem eqPipeS_con (a b : List DPipe) : Con Tryz.prog 56 [.h base [], .h (base + 1) []] [.rt base .ro (tr a), .rt (base + 1) .ro (tr b)] (fun y _ => y = .v (.bool (decide (a = b)))) := by
 refine ob Tryz.func56 Tryz.ntmps56 ?_
 refine AW.len base [] rfl (by simp [Okp]) rfl (fun hl => ?_)
 refine AW.len (base + 1) [] rfl (by simp [Okp]) rfl (fun hl2 => ?_)
 refine go [.R,.a,.Z,.R2,.m,.h,.N,.m,.h,.b,.Z] (k := ?_)
 refine cd (fun c1 => ?_) fun c1 => ?_
 ·try simp only [cnd] at c1
  refine go [.R,.a,.Z] (k := ?_)
  refine rt1 4 ?_
  simp only [retX, slotL, reduceIte, Nat.reduceEqDiff]
  rw [decide_eq_false (show a ≠ b from ne_of_len (by omega))]
 try simp only [cnd] at c1
 refine jd (sr2 ?_)
 refine go [.a,.Z] (k := ?_)
 refine AW.block ?_
 refine AW.loopW (fun i : EqInv a b => [.sl 5 (.v (iv i.k)), .sl 0 (.h base []), .sl 1 (.h (base + 1) []), .rt base .ro (tr a), .rt (base + 1) .ro (tr b)]) (fun i => a.length - i.k) ⟨0, Nat.zero_le _, rfl⟩ (ws) ?_
 intro i
 have hle := i.le
 refine go [.R2,.m,.N,.m,.h,.b,.Z] (k := ?_)
 refine cd (fun c2 => ?_) fun c2 => ?_
 ·try simp only [cnd] at c2
  refine jd (AW.seq (AW.block (AW.seq ?_)))
  refine go [.D [0, 1, 2, 3, 4, 5, 6, 7, 9],.t 0,.m,.N,.t 1,.m,.t 2,.i,.t 3,.G,.N,.t 4,.m,.t 5,.m,.t 6,.i,.N,.t 7,.G] (k := ?_)
  refine a1 8 [] [7, 3, 6, 2, 5, 4, 1, 0] rfl rfl (Stp.callV rfl (by decide) Tryz.call127 rfl rfl (eqPipe_con _ _)) ?_
  refine go [.N,.t 9,.n,.Z] (k := ?_)
  refine cd (fun c3 => ?_) fun c3 => ?_
  ·try simp only [cnd] at c3
   refine go [.R,.a,.Z] (k := ?_)
   refine rt1 4 ?_
   simp only [retX, slotL, reduceIte, Nat.reduceEqDiff]
   rw [decide_eq_false (show a ≠ b from i.stop En.dflt (by simpa using c3))]
  try simp only [cnd] at c3
  refine go [.J,.R1,.m,.N,.b,.a,.Z] (k := ?_)
  refine ⟨⟨i.k + 1, by omega, i.next En.dflt (by omega) (by omega) (by simpa using c3)⟩, ws, ?_⟩
  show a.length - (i.k + 1) < a.length - i.k
  omega
 try simp only [cnd] at c2
 refine AW.exit ?_
 dsimp only [thenQ, blockQ, reduceIte]
 refine go [.R,.a,.Z] (k := ?_)
 refine rt1 4 ?_
 simp only [retX, slotL, reduceIte, Nat.reduceEqDiff]
 rw [decide_eq_true (show a = b from i.full (by omega) (by omega))]
theorem eqUnix_con (a b : DUnix) : Con Tryz.prog 10 [.g [.v (iv a.Next), .v (iv a.Tick), .h base [], .h (base + 1) [], .h (base + 2) [], .h (base + 3) [], .h (base + 4) [], .h (base + 5) [], .h (base + 6) []], .g [.v (iv b.Next), .v (iv b.Tick), .h (base + 7) [], .h (base + 8) [], .h (base + 9) [], .h (base + 10) [], .h (base + 11) [], .h (base + 12) [], .h (base + 13) []]] [.rt base .ro (tr a.Progs), .rt (base + 1) .ro (tr a.Procs), .rt (base + 2) .ro (tr a.Opens), .rt (base + 3) .ro (tr a.Pipes), .rt (base + 4) .ro (tr a.Files), .rt (base + 5) .ro (tr a.Ready), .rt (base + 6) .ro (tr a.Out), .rt (base + 7) .ro (tr b.Progs), .rt (base + 8) .ro (tr b.Procs), .rt (base + 9) .ro (tr b.Opens), .rt (base + 10) .ro (tr b.Pipes), .rt (base + 11) .ro (tr b.Files), .rt (base + 12) .ro (tr b.Ready), .rt (base + 13) .ro (tr b.Out)] (fun y _ => y = .v (.bool (decide (a = b)))) := by
 refine ob Tryz.func10 Tryz.ntmps10 ?_
 refine go [.R,.B,.N,.B,.N,.a,.Z,.R2,.f,.l,.N,.f,.l,.b,.Z] (k := ?_)
 refine cd (fun c1 => ?_) fun c1 => ?_
 ·try simp only [cnd] at c1
  refine go [.R,.a,.Z] (k := ?_)
  refine rt1 4 ?_
  simp only [retX, slotL, reduceIte, Nat.reduceEqDiff]
  cases a
  cases b
  simp_all
 try simp only [cnd] at c1
 refine jd (sr2 ?_)
 refine go [.f,.N,.l,.f,.l,.N,.b,.Z] (k := ?_)
 refine cd (fun c2 => ?_) fun c2 => ?_
 ·try simp only [cnd] at c2
  refine go [.R,.a,.Z] (k := ?_)
  refine rt1 4 ?_
  simp only [retX, slotL, reduceIte, Nat.reduceEqDiff]
  cases a
  cases b
  simp_all
 try simp only [cnd] at c2
 refine jd (sr2 ?_)
 refine go [.f,.N,.l,.f,.l,.N] (k := ?_)
 refine cv Tryz.call53 rfl rfl (eqInsSS_con _ _) ?_
 refine go [.N,.n,.Z] (k := ?_)
 refine cd (fun c3 => ?_) fun c3 => ?_
 ·try simp only [cnd] at c3
  refine go [.R,.a,.Z] (k := ?_)
  refine rt1 4 ?_
  simp only [retX, slotL, reduceIte, Nat.reduceEqDiff]
  cases a
  cases b
  simp_all
 try simp only [cnd] at c3
 refine jd (sr2 ?_)
 refine go [.f,.N,.l,.f,.l,.N] (k := ?_)
 refine cv Tryz.call54 rfl rfl (eqProcS_con _ _) ?_
 refine go [.N,.n,.Z] (k := ?_)
 refine cd (fun c4 => ?_) fun c4 => ?_
 ·try simp only [cnd] at c4
  refine go [.R,.a,.Z] (k := ?_)
  refine rt1 4 ?_
  simp only [retX, slotL, reduceIte, Nat.reduceEqDiff]
  cases a
  cases b
  simp_all
 try simp only [cnd] at c4
 refine jd (sr2 ?_)
 refine go [.f,.N,.l,.f,.l,.N] (k := ?_)
 refine cv Tryz.call55 rfl rfl (eqOpenS_con _ _) ?_
 refine go [.N,.n,.Z] (k := ?_)
 refine cd (fun c5 => ?_) fun c5 => ?_
 ·try simp only [cnd] at c5
  refine go [.R,.a,.Z] (k := ?_)
  refine rt1 4 ?_
  simp only [retX, slotL, reduceIte, Nat.reduceEqDiff]
  cases a
  cases b
  simp_all
 try simp only [cnd] at c5
 refine jd (sr2 ?_)
 refine go [.f,.N,.l,.f,.l,.N] (k := ?_)
 refine cv Tryz.call56 rfl rfl (eqPipeS_con _ _) ?_
 refine go [.N,.n,.Z] (k := ?_)
 refine cd (fun c6 => ?_) fun c6 => ?_
 ·try simp only [cnd] at c6
  refine go [.R,.a,.Z] (k := ?_)
  refine rt1 4 ?_
  simp only [retX, slotL, reduceIte, Nat.reduceEqDiff]
  cases a
  cases b
  simp_all
 try simp only [cnd] at c6
 refine jd (sr2 ?_)
 refine go [.f,.N,.l,.f,.l,.N] (k := ?_)
 refine cv Tryz.call57 rfl rfl (eqFileS_con _ _) ?_
 refine go [.N,.n,.Z] (k := ?_)
 refine cd (fun c7 => ?_) fun c7 => ?_
 ·try simp only [cnd] at c7
  refine go [.R,.a,.Z] (k := ?_)
  refine rt1 4 ?_
  simp only [retX, slotL, reduceIte, Nat.reduceEqDiff]
  cases a
  cases b
  simp_all
 try simp only [cnd] at c7
 refine jd (sr2 ?_)
 refine go [.f,.N,.l,.f,.l,.N] (k := ?_)
 refine cv Tryz.call58 rfl rfl (eqIntS_con _ _) ?_
 refine go [.N,.n,.Z] (k := ?_)
 refine cd (fun c8 => ?_) fun c8 => ?_
 ·try simp only [cnd] at c8
  refine go [.R,.a,.Z] (k := ?_)
  refine rt1 4 ?_
  simp only [retX, slotL, reduceIte, Nat.reduceEqDiff]
  cases a
  cases b
  simp_all
 try simp only [cnd] at c8
 refine jd (sr2 ?_)
 refine go [.f,.N,.l,.f,.l,.N] (k := ?_)
 refine cv Tryz.call58 rfl rfl (eqIntS_con _ _) ?_
 refine go [.N,.n,.Z] (k := ?_)
 refine cd (fun c9 => ?_) fun c9 => ?_
 ·try simp only [cnd] at c9
  refine go [.R,.a,.Z] (k := ?_)
  refine rt1 4 ?_
  simp only [retX, slotL, reduceIte, Nat.reduceEqDiff]
  cases a
  cases b
  simp_all
 try simp only [cnd] at c9
 refine go [.J,.R,.a,.Z] (k := ?_)
 refine rt1 4 ?_
 simp only [retX, slotL, reduceIte, Nat.reduceEqDiff]
 cases a
 cases b
 simp_all
end Go.Proofs.YtekcnnngjoonbaaGreat.VM
