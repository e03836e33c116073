/- Contracts. No conditions. -/
import Derived.Test.YthjfgpkjooaahaaGreatCU5
set_option linter.all false
set_option maxHeartbeats 8000000
set_option maxRecDepth 10000
namespace Go.Proofs.YthjfgpkjooaahaaGreat.VM
open Go Go.RowKit Go.Proofs
theorem l6Proc_con (u : DUnix) (pid : Int) : Con Tryz.prog 247 [.g [.v (iv u.Next), .v (iv u.Tick), .h base [], .h (base + 1) [], .h (base + 2) [], .h (base + 3) [], .h (base + 4) [], .h (base + 5) [], .h (base + 6) []], .v (iv pid)] [.rt base .ro (tr u.Progs), .rt (base + 1) .ro (tr u.Procs), .rt (base + 2) .ro (tr u.Opens), .rt (base + 3) .ro (tr u.Pipes), .rt (base + 4) .ro (tr u.Files), .rt (base + 5) .ro (tr u.Ready), .rt (base + 6) .ro (tr u.Out)] (fun y _ => y = .v (iv (procAt u pid))) := by
 refine ob Tryz.func247 Tryz.ntmps247 ?_
 refine AW.len (base + 1) [] rfl (by simp [Okp]) rfl (fun hl => ?_)
 refine go [.R,.B,.N,.a,.Z,.R2,.a,.Z] (k := ?_)
 refine AW.block ?_
 refine AW.loopW (fun i : IxInv (fun p => p.Pid == pid) u.Procs => [.sl 5 (.v (iv i.k)), .sl 1 (.v (iv pid)), .rt 2 .box (T.s 9 1 fun k c => ([(T.v (iv u.Next), none), (T.v (iv u.Tick), none), (T.j, none), (T.j, none), (T.j, none), (T.j, none), (T.j, none), (T.j, none), (T.j, none)].getD (k * 9 + c) (T.j, none)).fst), .al 2 2 (.h base []), .al 2 3 (.h (base + 1) []), .al 2 4 (.h (base + 2) []), .al 2 5 (.h (base + 3) []), .al 2 6 (.h (base + 4) []), .al 2 7 (.h (base + 5) []), .al 2 8 (.h (base + 6) []), .rt base .ro (tr u.Progs), .rt (base + 1) .ro (tr u.Procs), .rt (base + 2) .ro (tr u.Opens), .rt (base + 3) .ro (tr u.Pipes), .rt (base + 4) .ro (tr u.Files), .rt (base + 5) .ro (tr u.Ready), .rt (base + 6) .ro (tr u.Out), .sl 2 (.p 2 [] 9 0 0)]) (fun i => u.Procs.length - i.k) ⟨0, Nat.zero_le _, rfl⟩ (ws) ?_
 intro i
 have hle := i.le
 refine go [.R2,.m,.N,.f,.l,.h,.N,.b,.Z] (k := ?_)
 refine cd (fun c1 => ?_) fun c1 => ?_
 ·try simp only [cnd] at c1
  refine jd (AW.seq (AW.block (sr ?_)))
  refine go [.f,.l,.N,.m,.i,.f,.N,.l,.m,.b,.Z] (k := ?_)
  refine cd (fun c2 => ?_) fun c2 => ?_
  ·have k2 := c2
   try simp only [cnd] at c2
   refine go [.R,.m,.N,.a,.Z] (k := ?_)
   refine rt1 4 ?_
   rw [show procAt u pid = (i.k : Nat) from ixOf_hit i En.dflt (by omega) k2]
   rfl
  have k2 := c2
  try simp only [cnd] at c2
  refine go [.J,.R1,.m,.b,.N,.a,.Z] (k := ?_)
  refine ⟨⟨i.k + 1, by omega, i.next En.dflt (by omega) k2⟩, ws, ?_⟩
  show u.Procs.length - (i.k + 1) < u.Procs.length - i.k
  omega
 try simp only [cnd] at c1
 refine AW.exit ?_
 dsimp only [thenQ, blockQ, reduceIte]
 refine go [.R,.a,.Z] (k := ?_)
 refine rt1 4 ?_
 rw [show procAt u pid = -1 from ixOf_none i (by omega)]
 rfl
theorem l6Open_con (u : DUnix) (id : Int) : Con Tryz.prog 246 [.g [.v (iv u.Next), .v (iv u.Tick), .h base [], .h (base + 1) [], .h (base + 2) [], .h (base + 3) [], .h (base + 4) [], .h (base + 5) [], .h (base + 6) []], .v (iv id)] [.rt base .ro (tr u.Progs), .rt (base + 1) .ro (tr u.Procs), .rt (base + 2) .ro (tr u.Opens), .rt (base + 3) .ro (tr u.Pipes), .rt (base + 4) .ro (tr u.Files), .rt (base + 5) .ro (tr u.Ready), .rt (base + 6) .ro (tr u.Out)] (fun y _ => y = .v (iv (openAt u id))) := by
 refine ob Tryz.func246 Tryz.ntmps246 ?_
 refine AW.len (base + 2) [] rfl (by simp [Okp]) rfl (fun hl => ?_)
 refine go [.R,.B,.N,.a,.Z,.R2,.a,.Z] (k := ?_)
 refine AW.block ?_
 refine AW.loopW (fun i : IxInv (fun p => p.Id == id) u.Opens => [.sl 5 (.v (iv i.k)), .sl 1 (.v (iv id)), .rt 2 .box (T.s 9 1 fun k c => ([(T.v (iv u.Next), none), (T.v (iv u.Tick), none), (T.j, none), (T.j, none), (T.j, none), (T.j, none), (T.j, none), (T.j, none), (T.j, none)].getD (k * 9 + c) (T.j, none)).fst), .al 2 2 (.h base []), .al 2 3 (.h (base + 1) []), .al 2 4 (.h (base + 2) []), .al 2 5 (.h (base + 3) []), .al 2 6 (.h (base + 4) []), .al 2 7 (.h (base + 5) []), .al 2 8 (.h (base + 6) []), .rt base .ro (tr u.Progs), .rt (base + 1) .ro (tr u.Procs), .rt (base + 2) .ro (tr u.Opens), .rt (base + 3) .ro (tr u.Pipes), .rt (base + 4) .ro (tr u.Files), .rt (base + 5) .ro (tr u.Ready), .rt (base + 6) .ro (tr u.Out), .sl 2 (.p 2 [] 9 0 0)]) (fun i => u.Opens.length - i.k) ⟨0, Nat.zero_le _, rfl⟩ (ws) ?_
 intro i
 have hle := i.le
 refine go [.R2,.m,.N,.f,.l,.h,.N,.b,.Z] (k := ?_)
 refine cd (fun c1 => ?_) fun c1 => ?_
 ·try simp only [cnd] at c1
  refine jd (AW.seq (AW.block (sr ?_)))
  refine go [.f,.l,.N,.m,.i,.f,.N,.l,.m,.b,.Z] (k := ?_)
  refine cd (fun c2 => ?_) fun c2 => ?_
  ·have k2 := c2
   try simp only [cnd] at c2
   refine go [.R,.m,.N,.a,.Z] (k := ?_)
   refine rt1 4 ?_
   rw [show openAt u id = (i.k : Nat) from ixOf_hit i En.dflt (by omega) k2]
   rfl
  have k2 := c2
  try simp only [cnd] at c2
  refine go [.J,.R1,.m,.b,.N,.a,.Z] (k := ?_)
  refine ⟨⟨i.k + 1, by omega, i.next En.dflt (by omega) k2⟩, ws, ?_⟩
  show u.Opens.length - (i.k + 1) < u.Opens.length - i.k
  omega
 try simp only [cnd] at c1
 refine AW.exit ?_
 dsimp only [thenQ, blockQ, reduceIte]
 refine go [.R,.a,.Z] (k := ?_)
 refine rt1 4 ?_
 rw [show openAt u id = -1 from ixOf_none i (by omega)]
 rfl
theorem l6Pipe_con (u : DUnix) (id : Int) : Con Tryz.prog 328 [.g [.v (iv u.Next), .v (iv u.Tick), .h base [], .h (base + 1) [], .h (base + 2) [], .h (base + 3) [], .h (base + 4) [], .h (base + 5) [], .h (base + 6) []], .v (iv id)] [.rt base .ro (tr u.Progs), .rt (base + 1) .ro (tr u.Procs), .rt (base + 2) .ro (tr u.Opens), .rt (base + 3) .ro (tr u.Pipes), .rt (base + 4) .ro (tr u.Files), .rt (base + 5) .ro (tr u.Ready), .rt (base + 6) .ro (tr u.Out)] (fun y _ => y = .v (iv (pipeAt u id))) := by
 refine ob Tryz.func328 Tryz.ntmps328 ?_
 refine AW.len (base + 3) [] rfl (by simp [Okp]) rfl (fun hl => ?_)
 refine go [.R,.B,.N,.a,.Z,.R2,.a,.Z] (k := ?_)
 refine AW.block ?_
 refine AW.loopW (fun i : IxInv (fun p => p.Id == id) u.Pipes => [.sl 5 (.v (iv i.k)), .sl 1 (.v (iv id)), .rt 2 .box (T.s 9 1 fun k c => ([(T.v (iv u.Next), none), (T.v (iv u.Tick), none), (T.j, none), (T.j, none), (T.j, none), (T.j, none), (T.j, none), (T.j, none), (T.j, none)].getD (k * 9 + c) (T.j, none)).fst), .al 2 2 (.h base []), .al 2 3 (.h (base + 1) []), .al 2 4 (.h (base + 2) []), .al 2 5 (.h (base + 3) []), .al 2 6 (.h (base + 4) []), .al 2 7 (.h (base + 5) []), .al 2 8 (.h (base + 6) []), .rt base .ro (tr u.Progs), .rt (base + 1) .ro (tr u.Procs), .rt (base + 2) .ro (tr u.Opens), .rt (base + 3) .ro (tr u.Pipes), .rt (base + 4) .ro (tr u.Files), .rt (base + 5) .ro (tr u.Ready), .rt (base + 6) .ro (tr u.Out), .sl 2 (.p 2 [] 9 0 0)]) (fun i => u.Pipes.length - i.k) ⟨0, Nat.zero_le _, rfl⟩ (ws) ?_
 intro i
 have hle := i.le
 refine go [.R2,.m,.N,.f,.l,.h,.N,.b,.Z] (k := ?_)
 refine cd (fun c1 => ?_) fun c1 => ?_
 ·try simp only [cnd] at c1
  refine jd (AW.seq (AW.block (sr ?_)))
  refine go [.f,.l,.N,.m,.i,.f,.N,.l,.m,.b,.Z] (k := ?_)
  refine cd (fun c2 => ?_) fun c2 => ?_
  ·have k2 := c2
   try simp only [cnd] at c2
   refine go [.R,.m,.N,.a,.Z] (k := ?_)
   refine rt1 4 ?_
   rw [show pipeAt u id = (i.k : Nat) from ixOf_hit i En.dflt (by omega) k2]
   rfl
  have k2 := c2
  try simp only [cnd] at c2
  refine go [.J,.R1,.m,.b,.N,.a,.Z] (k := ?_)
  refine ⟨⟨i.k + 1, by omega, i.next En.dflt (by omega) k2⟩, ws, ?_⟩
  show u.Pipes.length - (i.k + 1) < u.Pipes.length - i.k
  omega
 try simp only [cnd] at c1
 refine AW.exit ?_
 dsimp only [thenQ, blockQ, reduceIte]
 refine go [.R,.a,.Z] (k := ?_)
 refine rt1 4 ?_
 rw [show pipeAt u id = -1 from ixOf_none i (by omega)]
 rfl
theorem l6File_con (u : DUnix) (name : Int) : Con Tryz.prog 327 [.g [.v (iv u.Next), .v (iv u.Tick), .h base [], .h (base + 1) [], .h (base + 2) [], .h (base + 3) [], .h (base + 4) [], .h (base + 5) [], .h (base + 6) []], .v (iv name)] [.rt base .ro (tr u.Progs), .rt (base + 1) .ro (tr u.Procs), .rt (base + 2) .ro (tr u.Opens), .rt (base + 3) .ro (tr u.Pipes), .rt (base + 4) .ro (tr u.Files), .rt (base + 5) .ro (tr u.Ready), .rt (base + 6) .ro (tr u.Out)] (fun y _ => y = .v (iv (fileAt u name))) := by
 refine ob Tryz.func327 Tryz.ntmps327 ?_
 refine AW.len (base + 4) [] rfl (by simp [Okp]) rfl (fun hl => ?_)
 refine go [.R,.B,.N,.a,.Z,.R2,.a,.Z] (k := ?_)
 refine AW.block ?_
 refine AW.loopW (fun i : IxInv (fun p => p.Name == name) u.Files => [.sl 5 (.v (iv i.k)), .sl 1 (.v (iv name)), .rt 2 .box (T.s 9 1 fun k c => ([(T.v (iv u.Next), none), (T.v (iv u.Tick), none), (T.j, none), (T.j, none), (T.j, none), (T.j, none), (T.j, none), (T.j, none), (T.j, none)].getD (k * 9 + c) (T.j, none)).fst), .al 2 2 (.h base []), .al 2 3 (.h (base + 1) []), .al 2 4 (.h (base + 2) []), .al 2 5 (.h (base + 3) []), .al 2 6 (.h (base + 4) []), .al 2 7 (.h (base + 5) []), .al 2 8 (.h (base + 6) []), .rt base .ro (tr u.Progs), .rt (base + 1) .ro (tr u.Procs), .rt (base + 2) .ro (tr u.Opens), .rt (base + 3) .ro (tr u.Pipes), .rt (base + 4) .ro (tr u.Files), .rt (base + 5) .ro (tr u.Ready), .rt (base + 6) .ro (tr u.Out), .sl 2 (.p 2 [] 9 0 0)]) (fun i => u.Files.length - i.k) ⟨0, Nat.zero_le _, rfl⟩ (ws) ?_
 intro i
 have hle := i.le
 refine go [.R2,.m,.N,.f,.l,.h,.N,.b,.Z] (k := ?_)
 refine cd (fun c1 => ?_) fun c1 => ?_
 ·try simp only [cnd] at c1
  refine jd (AW.seq (AW.block (sr ?_)))
  refine go [.f,.l,.N,.m,.i,.f,.N,.l,.m,.b,.Z] (k := ?_)
  refine cd (fun c2 => ?_) fun c2 => ?_
  ·have k2 := c2
   try simp only [cnd] at c2
   refine go [.R,.m,.N,.a,.Z] (k := ?_)
   refine rt1 4 ?_
   rw [show fileAt u name = (i.k : Nat) from ixOf_hit i En.dflt (by omega) k2]
   rfl
  have k2 := c2
  try simp only [cnd] at c2
  refine go [.J,.R1,.m,.b,.N,.a,.Z] (k := ?_)
  refine ⟨⟨i.k + 1, by omega, i.next En.dflt (by omega) k2⟩, ws, ?_⟩
  show u.Files.length - (i.k + 1) < u.Files.length - i.k
  omega
 try simp only [cnd] at c1
 refine AW.exit ?_
 dsimp only [thenQ, blockQ, reduceIte]
 refine go [.R,.a,.Z] (k := ?_)
 refine rt1 4 ?_
 rw [show fileAt u name = -1 from ixOf_none i (by omega)]
 rfl
theorem l6Has_con (l : List Int) (x : Int) : Con Tryz.prog 248 [.h base [], .v (iv x)] [.rt base .ro (tr l)] (fun y _ => y = .v (.bool (hasI l x))) := by
 refine ob Tryz.func248 Tryz.ntmps248 ?_
 refine AW.len (base) [] rfl (by simp [Okp]) rfl (fun hl => ?_)
 refine go [.R,.a,.Z,.R2,.a,.Z] (k := ?_)
 refine AW.block ?_
 refine AW.loopW (fun i : AllInv (fun y => !(y == x)) l => [.sl 5 (.v (iv i.k)), .sl 0 (.h base []), .sl 1 (.v (iv x)), .rt base .ro (tr l)]) (fun i => l.length - i.k) ⟨0, Nat.zero_le _, rfl⟩ (ws) ?_
 intro i
 have hle := i.le
 refine go [.R2,.m,.N,.m,.h,.b,.Z] (k := ?_)
 refine cd (fun c1 => ?_) fun c1 => ?_
 ·try simp only [cnd] at c1
  refine jd (AW.seq (AW.block (sr ?_)))
  refine go [.m,.N,.m,.i,.l,.N,.m,.b,.Z] (k := ?_)
  refine cd (fun c2 => ?_) fun c2 => ?_
  ·have k2 := c2
   try simp only [cnd] at c2
   refine go [.R,.a,.Z] (k := ?_)
   refine rt1 4 ?_
   rw [show hasI l x = true from by rw [hasI_all, i.stop En.dflt (by omega) (by rw [k2]; rfl)]; rfl]
   rfl
  have k2 := c2
  try simp only [cnd] at c2
  refine go [.J,.R1,.m,.N,.b,.a,.Z] (k := ?_)
  refine ⟨⟨i.k + 1, by omega, i.next En.dflt (by omega) (by rw [k2]; rfl)⟩, ws, ?_⟩
  show l.length - (i.k + 1) < l.length - i.k
  omega
 try simp only [cnd] at c1
 refine AW.exit ?_
 dsimp only [thenQ, blockQ, reduceIte]
 refine go [.R,.a,.Z] (k := ?_)
 refine rt1 4 ?_
 rw [show hasI l x = false from by rw [hasI_all, i.full (by omega)]; rfl]
 rfl
theorem l6Pages_con (u : DUnix) (hb : unixB u) : Con Tryz.prog 138 [.g [.v (iv u.Next), .v (iv u.Tick), .h base [], .h (base + 1) [], .h (base + 2) [], .h (base + 3) [], .h (base + 4) [], .h (base + 5) [], .h (base + 6) []]] [.rt base .ro (tr u.Progs), .rt (base + 1) .ro (tr u.Procs), .rt (base + 2) .ro (tr u.Opens), .rt (base + 3) .ro (tr u.Pipes), .rt (base + 4) .ro (tr u.Files), .rt (base + 5) .ro (tr u.Ready), .rt (base + 6) .ro (tr u.Out)] (fun y _ => y = .v (iv (pagesU u.Procs u.Procs.length : Nat))) := by
 refine ob Tryz.func138 Tryz.ntmps138 ?_
 refine AW.len (base + 1) [] rfl (by simp [Okp]) rfl (fun hl => ?_)
 have hmp := pagesU_bd hb
 refine go [.R,.B,.N,.a,.Z,.R,.a,.Z,.R2,.a,.Z] (k := ?_)
 refine AW.block ?_
 refine AW.loopW (fun i : KInv u.Procs.length => [.sl 4 (.v (iv i.k)), .sl 3 (.v (iv (pagesU u.Procs i.k : Nat))), .rt 1 .box (T.s 9 1 fun k c => ([(T.v (iv u.Next), none), (T.v (iv u.Tick), none), (T.j, none), (T.j, none), (T.j, none), (T.j, none), (T.j, none), (T.j, none), (T.j, none)].getD (k * 9 + c) (T.j, none)).fst), .al 1 2 (.h base []), .al 1 3 (.h (base + 1) []), .al 1 4 (.h (base + 2) []), .al 1 5 (.h (base + 3) []), .al 1 6 (.h (base + 4) []), .al 1 7 (.h (base + 5) []), .al 1 8 (.h (base + 6) []), .rt base .ro (tr u.Progs), .rt (base + 1) .ro (tr u.Procs), .rt (base + 2) .ro (tr u.Opens), .rt (base + 3) .ro (tr u.Pipes), .rt (base + 4) .ro (tr u.Files), .rt (base + 5) .ro (tr u.Ready), .rt (base + 6) .ro (tr u.Out), .sl 1 (.p 1 [] 9 0 0)]) (fun i => u.Procs.length - i.k) ⟨0, Nat.zero_le _⟩ (ws) ?_
 intro i
 have hle := i.le
 have hm1 : i.k < u.Procs.length → pagesU u.Procs (i.k + 1) ≤ pagesU u.Procs u.Procs.length := fun h => cumN_mono (by omega)
 have hs1 : pagesU u.Procs (i.k + 1) = pagesU u.Procs i.k + (u.Procs.getD i.k En.dflt).Mem.length / 4 := rfl
 refine go [.R2,.m,.N,.f,.l,.h,.N,.b,.Z] (k := ?_)
 refine cd (fun c1 => ?_) fun c1 => ?_
 ·try simp only [cnd] at c1
  refine AW.len (base + 1) [(10, i.k, 6)] rfl (by refine ⟨rfl, ?_, by decide, trivial⟩; show i.k < u.Procs.length; omega) rfl (fun hl2 => ?_)
  refine jd (AW.seq (AW.block (AW.region ?_)))
  refine go [.m,.f,.N,.l,.m,.i,.N,.f,.l,.h,.N] (k := ?_)
  refine qq (Qt.binOp rfl rfl (by first | exact pbQuo4 _ (by omega) | rfl)) ?_
  refine go [.b,.a,.Z,.R1,.m,.N,.b,.a,.Z] (k := ?_)
  refine ⟨⟨i.k + 1, by omega⟩, Weak.sim ⟨st1, by simp only [slotL, reduceIte, Nat.reduceEqDiff]; congr 2; done, Rf rfl, ⟨rfl, rfl⟩, ⟨rfl, rfl⟩, ⟨rfl, rfl⟩, ⟨rfl, rfl⟩, ⟨rfl, rfl⟩, ⟨rfl, rfl⟩, ⟨rfl, rfl⟩, Rf rfl, Rf rfl, Rf rfl, Rf rfl, Rf rfl, Rf rfl, Rf rfl, rfl, trivial⟩ rfl rfl, ?_⟩
  show u.Procs.length - (i.k + 1) < u.Procs.length - i.k
  omega
 try simp only [cnd] at c1
 refine AW.exit ?_
 dsimp only [thenQ, blockQ, reduceIte]
 refine go [.R,.m,.N,.a,.Z] (k := ?_)
 refine rt1 2 ?_
 rw [show i.k = u.Procs.length by omega]
 rfl
theorem l6Ends_con (u : DUnix) (pipe kind : Int) (hb : unixB u) : Con Tryz.prog 250 [.g [.v (iv u.Next), .v (iv u.Tick), .h base [], .h (base + 1) [], .h (base + 2) [], .h (base + 3) [], .h (base + 4) [], .h (base + 5) [], .h (base + 6) []], .v (iv pipe), .v (iv kind)] [.rt base .ro (tr u.Progs), .rt (base + 1) .ro (tr u.Procs), .rt (base + 2) .ro (tr u.Opens), .rt (base + 3) .ro (tr u.Pipes), .rt (base + 4) .ro (tr u.Files), .rt (base + 5) .ro (tr u.Ready), .rt (base + 6) .ro (tr u.Out)] (fun y _ => y = .v (iv (endsN u pipe kind u.Opens.length : Nat))) := by
 refine ob Tryz.func250 Tryz.ntmps250 ?_
 refine AW.len (base + 2) [] rfl (by simp [Okp]) rfl (fun hl => ?_)
 have hop := hb.opens
 refine go [.R,.B,.N,.a,.Z,.R,.a,.Z,.R2,.a,.Z] (k := ?_)
 refine AW.block ?_
 refine AW.loopW (fun i : KInv u.Opens.length => [.sl 8 (.v (iv i.k)), .sl 7 (.v (iv (endsN u pipe kind i.k : Nat))), .sl 1 (.v (iv pipe)), .sl 2 (.v (iv kind)), .rt 3 .box (T.s 9 1 fun k c => ([(T.v (iv u.Next), none), (T.v (iv u.Tick), none), (T.j, none), (T.j, none), (T.j, none), (T.j, none), (T.j, none), (T.j, none), (T.j, none)].getD (k * 9 + c) (T.j, none)).fst), .al 3 2 (.h base []), .al 3 3 (.h (base + 1) []), .al 3 4 (.h (base + 2) []), .al 3 5 (.h (base + 3) []), .al 3 6 (.h (base + 4) []), .al 3 7 (.h (base + 5) []), .al 3 8 (.h (base + 6) []), .rt base .ro (tr u.Progs), .rt (base + 1) .ro (tr u.Procs), .rt (base + 2) .ro (tr u.Opens), .rt (base + 3) .ro (tr u.Pipes), .rt (base + 4) .ro (tr u.Files), .rt (base + 5) .ro (tr u.Ready), .rt (base + 6) .ro (tr u.Out), .sl 3 (.p 3 [] 9 0 0)]) (fun i => u.Opens.length - i.k) ⟨0, Nat.zero_le _⟩ (ws) ?_
 intro i
 have hle := i.le
 have hm1 := endsN_le u pipe kind i.k
 have hs1 := endsN_succ u pipe kind i.k
 refine go [.R2,.m,.N,.f,.l,.h,.N,.b,.Z] (k := ?_)
 refine cd (fun c1 => ?_) fun c1 => ?_
 ·try simp only [cnd] at c1
  refine jd (AW.seq (AW.block (sr ?_)))
  refine go [.f,.l,.N,.m,.i,.f,.N,.l,.m,.b,.N,.m] (k := ?_)
  apply AWL.cut 8
  ·intro Kg2
   refine AWL.split 24 rfl (fun g2 => ?_) (fun g2 => ?_)
   ·refine go [.f,.l,.N,.m,.i,.f,.N,.l,.m,.b,.N] (k := ?_)
    exact wjT 32 [25, 26, 27, 28, 29, 30, 31, 32] (ifT g2 _ undef) Kg2
   ·refine go [.x,.x,.x,.x,.N,.x,.x,.x,.x] (k := ?_)
    exact wjF 32 [25, 26, 27, 28, 29, 30, 31, 32] (ifF g2 undef _) Kg2
  refine qq (Qt.pickAnd rfl rfl rfl) ?_
  refine go [.Z] (k := ?_)
  refine cd (fun c3 => ?_) fun c3 => ?_
  ·try simp only [cnd] at c3
   refine go [.R1,.m,.b,.N,.a,.Z,.R1,.m,.b,.N,.a,.Z] (k := ?_)
   refine ⟨⟨i.k + 1, by omega⟩, Weak.sim ⟨st1, by simp only [slotL, reduceIte, Nat.reduceEqDiff]; congr 2; rw [hs1]; grind, rfl, rfl, Rf rfl, ⟨rfl, rfl⟩, ⟨rfl, rfl⟩, ⟨rfl, rfl⟩, ⟨rfl, rfl⟩, ⟨rfl, rfl⟩, ⟨rfl, rfl⟩, ⟨rfl, rfl⟩, Rf rfl, Rf rfl, Rf rfl, Rf rfl, Rf rfl, Rf rfl, Rf rfl, rfl, trivial⟩ rfl rfl, ?_⟩
   show u.Opens.length - (i.k + 1) < u.Opens.length - i.k
   omega
  try simp only [cnd] at c3
  refine go [.J,.R1,.m,.b,.N,.a,.Z] (k := ?_)
  refine ⟨⟨i.k + 1, by omega⟩, Weak.sim ⟨st1, by simp only [slotL, reduceIte, Nat.reduceEqDiff]; congr 2; rw [hs1]; grind, rfl, rfl, Rf rfl, ⟨rfl, rfl⟩, ⟨rfl, rfl⟩, ⟨rfl, rfl⟩, ⟨rfl, rfl⟩, ⟨rfl, rfl⟩, ⟨rfl, rfl⟩, ⟨rfl, rfl⟩, Rf rfl, Rf rfl, Rf rfl, Rf rfl, Rf rfl, Rf rfl, Rf rfl, rfl, trivial⟩ rfl rfl, ?_⟩
  show u.Opens.length - (i.k + 1) < u.Opens.length - i.k
  omega
 try simp only [cnd] at c1
 refine AW.exit ?_
 dsimp only [thenQ, blockQ, reduceIte]
 refine go [.R,.m,.a,.Z] (k := ?_)
 refine rt1 6 ?_
 rw [show i.k = u.Opens.length by omega]
 rfl
theorem l6Progs_con (l : List (List DIns)) : Con Tryz.prog 136 [.h base []] [.rt base .ro (tr l)] (fun y _ => y = .v (.bool (progsOk l))) := by
 refine ob Tryz.func136 Tryz.ntmps136 ?_
 refine AW.len (base) [] rfl (by simp [Okp]) rfl (fun hl => ?_)
 refine go [.R,.a,.Z,.R2,.m,.h,.N] (k := ?_)
 refine cv Tryz.call135 rfl rfl (l1InU_con _ _ _) ?_
 refine go [.N,.n,.Z] (k := ?_)
 refine cd (fun c1 => ?_) fun c1 => ?_
 ·try simp only [cnd] at c1
  refine go [.R,.a,.Z] (k := ?_)
  refine rt1 2 ?_
  rw [show progsOk l = false from by simp only [progsOk]; grind]
  rfl
 try simp only [cnd] at c1
 refine jd (sr2 ?_)
 refine go [.a,.Z] (k := ?_)
 refine AW.block ?_
 refine AW.loopW (fun i : AllInv progOk l => [.sl 3 (.v (iv i.k)), .sl 0 (.h base []), .rt base .ro (tr l)]) (fun i => l.length - i.k) ⟨0, Nat.zero_le _, rfl⟩ (ws) ?_
 intro i
 have hle := i.le
 refine go [.R2,.m,.N,.m,.h,.b,.Z] (k := ?_)
 refine cd (fun c2 => ?_) fun c2 => ?_
 ·try simp only [cnd] at c2
  refine jd (AW.seq (AW.block (sr ?_)))
  refine go [.m,.N,.m,.i,.l,.N] (k := ?_)
  refine cv Tryz.call243 rfl rfl (ProgOkS_con _) ?_
  refine go [.N,.n,.Z] (k := ?_)
  refine cd (fun c3 => ?_) fun c3 => ?_
  ·have k3 := c3
   try simp only [cnd] at c3
   refine go [.R,.a,.Z] (k := ?_)
   refine rt1 2 ?_
   rw [show progsOk l = false from by simp only [progsOk, i.stop En.dflt (by omega) (by simpa using k3), Bool.and_false]]
   rfl
  have k3 := c3
  try simp only [cnd] at c3
  refine go [.J,.R1,.m,.N,.b,.a,.Z] (k := ?_)
  refine ⟨⟨i.k + 1, by omega, i.next En.dflt (by omega) (by simpa using k3)⟩, ws, ?_⟩
  show l.length - (i.k + 1) < l.length - i.k
  omega
 try simp only [cnd] at c2
 refine AW.exit ?_
 dsimp only [thenQ, blockQ, reduceIte]
 refine go [.R,.a,.Z] (k := ?_)
 refine rt1 2 ?_
 rw [show progsOk l = true from by simp only [progsOk, i.full (by omega)]; grind]
 rfl
theorem l6OpenOk_con (u : DUnix) (o : DOpen) (hb : unixB u) : Con Tryz.prog 249 [.g [.v (iv u.Next), .v (iv u.Tick), .h base [], .h (base + 1) [], .h (base + 2) [], .h (base + 3) [], .h (base + 4) [], .h (base + 5) [], .h (base + 6) []], .g [.v (iv o.Id), .v (iv o.Kind), .v (iv o.Target), .v (iv o.Off), .v (iv o.Refs)]] [.rt base .ro (tr u.Progs), .rt (base + 1) .ro (tr u.Procs), .rt (base + 2) .ro (tr u.Opens), .rt (base + 3) .ro (tr u.Pipes), .rt (base + 4) .ro (tr u.Files), .rt (base + 5) .ro (tr u.Ready), .rt (base + 6) .ro (tr u.Out)] (fun y _ => y = .v (.bool (openOk u o))) := by
 refine ob Tryz.func249 Tryz.ntmps249 ?_
 refine AW.len (base + 1) [] rfl (by simp [Okp]) rfl (fun hl => ?_)
 refine AW.len (base + 4) [] rfl (by simp [Okp]) rfl (fun hf => ?_)
 have hrb := refsOf_bd hb o.Id
 refine go [.R,.B,.N,.B,.N,.a,.Z,.R,.a,.Z,.R2,.a,.Z] (k := ?_)
 refine AW.block ?_
 refine AW.loopW (fun i : KInv u.Procs.length => [.sl 6 (.v (iv i.k)), .sl 5 (.v (iv (refsN u o.Id i.k : Nat))), .rt 2 .box (T.s 9 1 fun k c => ([(T.v (iv u.Next), none), (T.v (iv u.Tick), none), (T.j, none), (T.j, none), (T.j, none), (T.j, none), (T.j, none), (T.j, none), (T.j, none)].getD (k * 9 + c) (T.j, none)).fst), .al 2 2 (.h base []), .al 2 3 (.h (base + 1) []), .al 2 4 (.h (base + 2) []), .al 2 5 (.h (base + 3) []), .al 2 6 (.h (base + 4) []), .al 2 7 (.h (base + 5) []), .al 2 8 (.h (base + 6) []), .rt base .ro (tr u.Progs), .rt (base + 1) .ro (tr u.Procs), .rt (base + 2) .ro (tr u.Opens), .rt (base + 3) .ro (tr u.Pipes), .rt (base + 4) .ro (tr u.Files), .rt (base + 5) .ro (tr u.Ready), .rt (base + 6) .ro (tr u.Out), .sl 2 (.p 2 [] 9 0 0), .rt 3 .box (T.s 5 1 fun k c => ([(T.v (iv o.Id), none), (T.v (iv o.Kind), none), (T.v (iv o.Target), none), (T.v (iv o.Off), none), (T.v (iv o.Refs), none)].getD (k * 5 + c) (T.j, none)).fst), .sl 3 (.p 3 [] 5 0 0)]) (fun i => u.Procs.length - i.k) ⟨0, Nat.zero_le _⟩ (ws) ?_
 intro i
 have hle := i.le
 have hm1 : i.k < u.Procs.length → refsN u o.Id (i.k + 1) ≤ refsOf u o.Id := fun h => cumN_mono (by omega)
 have hs1 : refsN u o.Id (i.k + 1) = refsN u o.Id i.k + fdCnt o.Id (u.Procs.getD i.k En.dflt).Fds (u.Procs.getD i.k En.dflt).Fds.length := rfl
 refine go [.R2,.m,.N,.f,.l,.h,.N,.b,.Z] (k := ?_)
 refine cd (fun c1 => ?_) fun c1 => ?_
 ·try simp only [cnd] at c1
  refine jd (AW.seq (AW.block (sr ?_)))
  refine go [.a,.Z] (k := ?_)
  refine AW.block ?_
  refine AW.loopW (fun j : KInv (u.Procs.getD i.k En.dflt).Fds.length => [.sl 7 (.v (iv j.k)), .sl 6 (.v (iv i.k)), .sl 5 (.v (iv (refsN u o.Id i.k + fdCnt o.Id (u.Procs.getD i.k En.dflt).Fds j.k : Nat))), .rt 2 .box (T.s 9 1 fun k c => ([(T.v (iv u.Next), none), (T.v (iv u.Tick), none), (T.j, none), (T.j, none), (T.j, none), (T.j, none), (T.j, none), (T.j, none), (T.j, none)].getD (k * 9 + c) (T.j, none)).fst), .al 2 2 (.h base []), .al 2 3 (.h (base + 1) []), .al 2 4 (.h (base + 2) []), .al 2 5 (.h (base + 3) []), .al 2 6 (.h (base + 4) []), .al 2 7 (.h (base + 5) []), .al 2 8 (.h (base + 6) []), .rt base .ro (tr u.Progs), .rt (base + 1) .ro (tr u.Procs), .rt (base + 2) .ro (tr u.Opens), .rt (base + 3) .ro (tr u.Pipes), .rt (base + 4) .ro (tr u.Files), .rt (base + 5) .ro (tr u.Ready), .rt (base + 6) .ro (tr u.Out), .sl 2 (.p 2 [] 9 0 0), .rt 3 .box (T.s 5 1 fun k c => ([(T.v (iv o.Id), none), (T.v (iv o.Kind), none), (T.v (iv o.Target), none), (T.v (iv o.Off), none), (T.v (iv o.Refs), none)].getD (k * 5 + c) (T.j, none)).fst), .sl 3 (.p 3 [] 5 0 0)]) (fun j => (u.Procs.getD i.k En.dflt).Fds.length - j.k) ⟨0, Nat.zero_le _⟩ (ws) ?_
  intro j
  have hlej := j.le
  have hm2 : j.k < (u.Procs.getD i.k En.dflt).Fds.length → fdCnt o.Id (u.Procs.getD i.k En.dflt).Fds (j.k + 1) ≤ fdCnt o.Id (u.Procs.getD i.k En.dflt).Fds (u.Procs.getD i.k En.dflt).Fds.length := fun h => cumN_mono (by omega)
  have hs2 := fdCnt_succ o.Id (u.Procs.getD i.k En.dflt).Fds j.k
  refine AW.len (base + 1) [(10, i.k, 7)] rfl (by refine ⟨rfl, ?_, by decide, trivial⟩; show i.k < u.Procs.length; omega) rfl (fun hl2 => ?_)
  refine go [.R2,.m,.N,.f,.l,.m,.N] (k := ?_)
  refine qq (Qt.indexAddr rfl rfl rfl rfl sl43 sz105 (by decide) (by first | omega | grind)) ?_
  refine go [.f,.l,.N,.h,.b,.Z] (k := ?_)
  refine cd (fun c2 => ?_) fun c2 => ?_
  ·try simp only [cnd] at c2
   refine jd (AW.seq (AW.block (AW.seq ?_)))
   refine go [.D [0, 1, 2, 3, 4, 5, 6, 7, 8, 9, 10, 11],.t 0,.f,.N,.t 1,.l,.t 2,.m] (k := ?_)
   refine tk 3 rfl (Qt.indexAddr rfl rfl rfl rfl sl43 sz105 (by decide) (by first | omega | grind)) ?_
   refine go [.N,.t 4,.f,.t 5,.l,.t 6,.m,.N] (k := ?_)
   refine tk 7 rfl (Qt.indexAddr rfl rfl rfl rfl sl27 sz3 (by decide) (by first | omega | grind)) ?_
   refine go [.t 8,.l,.t 9,.f,.N,.t 10,.l,.t 11,.b,.Z] (k := ?_)
   refine cd (fun c3 => ?_) fun c3 => ?_
   ·try simp only [cnd] at c3
    refine go [.R1,.m,.N,.b,.a,.Z,.R1,.m,.N,.b,.a,.Z] (k := ?_)
    refine ⟨⟨j.k + 1, by omega⟩, Weak.sim ⟨st1, rfl, by simp only [slotL, reduceIte, Nat.reduceEqDiff]; congr 2; rw [hs2]; grind, Rf rfl, ⟨rfl, rfl⟩, ⟨rfl, rfl⟩, ⟨rfl, rfl⟩, ⟨rfl, rfl⟩, ⟨rfl, rfl⟩, ⟨rfl, rfl⟩, ⟨rfl, rfl⟩, Rf rfl, Rf rfl, Rf rfl, Rf rfl, Rf rfl, Rf rfl, Rf rfl, rfl, Rf rfl, rfl, trivial⟩ rfl rfl, ?_⟩
    show (u.Procs.getD i.k En.dflt).Fds.length - (j.k + 1) < (u.Procs.getD i.k En.dflt).Fds.length - j.k
    omega
   try simp only [cnd] at c3
   refine go [.J,.R1,.m,.N,.b,.a,.Z] (k := ?_)
   refine ⟨⟨j.k + 1, by omega⟩, Weak.sim ⟨st1, rfl, by simp only [slotL, reduceIte, Nat.reduceEqDiff]; congr 2; rw [hs2]; grind, Rf rfl, ⟨rfl, rfl⟩, ⟨rfl, rfl⟩, ⟨rfl, rfl⟩, ⟨rfl, rfl⟩, ⟨rfl, rfl⟩, ⟨rfl, rfl⟩, ⟨rfl, rfl⟩, Rf rfl, Rf rfl, Rf rfl, Rf rfl, Rf rfl, Rf rfl, Rf rfl, rfl, Rf rfl, rfl, trivial⟩ rfl rfl, ?_⟩
   show (u.Procs.getD i.k En.dflt).Fds.length - (j.k + 1) < (u.Procs.getD i.k En.dflt).Fds.length - j.k
   omega
  try simp only [cnd] at c2
  refine AW.exit ?_
  dsimp only [thenQ, blockQ, reduceIte]
  refine go [.R1,.m,.N,.b,.a,.Z] (k := ?_)
  refine ⟨⟨i.k + 1, by omega⟩, Weak.sim ⟨st1, by simp only [slotL, reduceIte, Nat.reduceEqDiff]; congr 2; rw [hs1, ← (congrArg (fdCnt o.Id (u.Procs.getD i.k En.dflt).Fds) (show j.k = (u.Procs.getD i.k En.dflt).Fds.length by omega))], Rf rfl, ⟨rfl, rfl⟩, ⟨rfl, rfl⟩, ⟨rfl, rfl⟩, ⟨rfl, rfl⟩, ⟨rfl, rfl⟩, ⟨rfl, rfl⟩, ⟨rfl, rfl⟩, Rf rfl, Rf rfl, Rf rfl, Rf rfl, Rf rfl, Rf rfl, Rf rfl, rfl, Rf rfl, rfl, trivial⟩ rfl rfl, ?_⟩
  show u.Procs.length - (i.k + 1) < u.Procs.length - i.k
  omega
 try simp only [cnd] at c1
 have hR : refsN u o.Id i.k = refsOf u o.Id := congrArg (refsN u o.Id) (show i.k = u.Procs.length by omega)
 have hfb : fileAt u o.Target < u.Files.length := (ixOf_bd _ _).2
 refine AW.exit ?_
 dsimp only [thenQ, blockQ, reduceIte]
 refine go [.R2,.m,.N,.b,.m] (k := ?_)
 apply AWL.cut 4
 ·intro Kg4
  refine AWL.splitF 42 rfl (fun g4 => ?_) (fun g4 => ?_)
  ·refine go [.f,.N,.l,.m,.b,.N] (k := ?_)
   exact wjT 46 [43, 44, 45, 46] (ifF g4 _ undef) Kg4
  ·refine go [.x,.x,.x,.x] (k := ?_)
   exact wjF 46 [43, 44, 45, 46] (ifT g4 undef _) Kg4
 refine qq (Qt.pickOr rfl rfl rfl) ?_
 refine go [.m] (k := ?_)
 apply AWL.cut 4
 ·intro Kg5
  refine AWL.splitF 48 rfl (fun g5 => ?_) (fun g5 => ?_)
  ·refine go [.f,.N,.l] (k := ?_)
   refine AWL.step rfl (nF g5) (Stp.callV rfl (by decide) Tryz.call135 rfl rfl (l1InU_con _ _ _)) ?_
   refine go [.N,.n] (k := ?_)
   exact wjT 52 [49, 50, 51, 52] (ifF g5 _ undef) Kg5
  ·refine go [.x,.x,.x,.x] (k := ?_)
   exact wjF 52 [49, 50, 51, 52] (ifT g5 undef _) Kg5
 refine qq (Qt.pickOr rfl rfl rfl) ?_
 refine go [.Z] (k := ?_)
 refine cd (fun c6 => ?_) fun c6 => ?_
 ·try simp only [cnd] at c6
  refine go [.R,.a,.Z] (k := ?_)
  refine rt1 4 ?_
  refine rb ?_
  simp only [openOk]
  grind only
 try simp only [cnd] at c6
 refine jd (sr2 ?_)
 refine go [.f,.N,.l,.Z] (k := ?_)
 refine AW.block (sr ?_)
 refine go [.b,.a,.Z] (k := ?_)
 refine cd (fun c7 => ?_) fun c7 => ?_
 ·try simp only [cnd] at c7
  refine go [.R,.f,.N,.l,.b,.m,.N] (k := ?_)
  apply AWL.cut 3
  ·intro Kg8
   refine AWL.split 61 rfl (fun g8 => ?_) (fun g8 => ?_)
   ·refine go [.f,.l,.b,.N] (k := ?_)
    exact wjT 64 [62, 63, 64] (ifT g8 _ undef) Kg8
   ·refine go [.x,.x,.x] (k := ?_)
    exact wjF 64 [62, 63, 64] (ifF g8 undef _) Kg8
  refine qq (Qt.pickAnd rfl rfl rfl) ?_
  refine go [.a,.Z] (k := ?_)
  refine rt1 4 ?_
  refine rb ?_
  simp only [openOk]
  grind only
 try simp only [cnd] at c7
 refine go [.R,.b,.N,.a,.Z] (k := ?_)
 refine cd (fun c9 => ?_) fun c9 => ?_
 ·try simp only [cnd] at c9
  refine AW.seq ?_
  refine go [.D [0, 1, 2, 4, 5, 6, 7, 8, 9, 10, 11, 12, 14, 15, 16, 17, 19, 20],.t 0,.G,.t 1,.f,.N,.t 2,.l] (k := ?_)
  refine a1 3 [] [2, 0, 1] rfl rfl (Stp.callV rfl (by decide) Tryz.call327 rfl rfl (l6File_con u _)) ?_
  refine go [.N,.t 4,.b,.t 5,.m] (k := ?_)
  refine AWA.split 73 rfl (fun g10 => ?_) (fun g10 => ?_)
  ·refine go [.t 6,.f,.N,.t 7,.l,.t 8,.f,.t 9,.l,.N,.t 10,.G,.t 11,.f,.t 12,.l,.N] (k := ?_)
   refine a1 13 [6, 7, 8, 9] [12, 10, 5, 11, 4, 3, 2, 0, 1] rfl g10 (Stp.callV rfl (by decide) Tryz.call327 rfl rfl (l6File_con u _)) ?_
   refine go [.N,.g,.f,.g,.l,.g,.f,.g,.l,.N] (k := ?_)
   refine tg 14 rfl g10 (Qt.indexAddr rfl rfl rfl rfl sl46 sz119 (by decide) (by first | omega | grind)) ?_
   refine go [.t 15,.f,.t 16,.l,.N,.t 17,.h] (k := ?_)
   refine a1 18 [] [17, 13, 7, 5, 16, 12, 10, 6, 4, 3, 15, 11, 2, 0, 14, 1, 9, 8] rfl g10 (Stp.callV rfl (by decide) Tryz.call135 rfl rfl (l1InU_con _ _ _)) ?_
   refine go [.N] (k := ?_)
   refine tk 19 rfl (Qt.pickT rfl g10) ?_
   refine go [.t 20,.a,.Z] (k := ?_)
   refine rt1 4 ?_
   refine rb ?_
   simp only [openOk]
   grind only
  refine go [.t 6,.x,.N,.t 7,.x,.t 8,.x,.t 9,.x,.N,.t 10,.x,.t 11,.x,.t 12,.x,.N,.O 13 [6, 7, 8, 9] [12, 10, 5, 11, 4, 3, 2, 0, 1],.x,.N,.g,.x,.g,.x,.g,.x,.g,.x,.N,.t 14,.x,.t 15,.x,.t 16,.x,.N,.t 17,.x,.O 18 [] [17, 13, 7, 5, 16, 12, 10, 6, 4, 3, 15, 11, 2, 0, 14, 1, 9, 8],.x,.N] (k := ?_)
  refine tk 19 rfl (Qt.pickF rfl g10) ?_
  refine go [.t 20,.a,.Z] (k := ?_)
  refine rt1 4 ?_
  refine rb ?_
  simp only [openOk]
  grind only
 try simp only [cnd] at c9
 refine go [.R2,.b,.N,.a,.Z] (k := ?_)
 refine cd (fun c11 => ?_) fun c11 => ?_
 ·have k11 := c11
  try simp only [cnd] at c11
  refine go [.J] (k := ?_)
  refine AW.condT rfl k11 ?_
  refine go [.R,.G,.f,.N,.l] (k := ?_)
  refine cv Tryz.call328 rfl rfl (l6Pipe_con u _) ?_
  refine go [.N,.b,.m] (k := ?_)
  apply AWL.cut 3
  ·intro Kg12
   refine AWL.split 96 rfl (fun g12 => ?_) (fun g12 => ?_)
   ·refine go [.f,.N,.l,.b] (k := ?_)
    exact wjT 99 [97, 98, 99] (ifT g12 _ undef) Kg12
   ·refine go [.x,.x,.x] (k := ?_)
    exact wjF 99 [97, 98, 99] (ifF g12 undef _) Kg12
  refine qq (Qt.pickAnd rfl rfl rfl) ?_
  refine go [.N,.a,.Z] (k := ?_)
  refine rt1 4 ?_
  refine rb ?_
  simp only [openOk]
  grind only
 have k11 := c11
 try simp only [cnd] at c11
 refine go [.R1,.b,.a,.Z] (k := ?_)
 refine cd (fun c13 => ?_) fun c13 => ?_
 ·try simp only [cnd] at c13
  refine go [.R,.G,.N,.f,.l] (k := ?_)
  refine cv Tryz.call328 rfl rfl (l6Pipe_con u _) ?_
  refine go [.N,.b,.m] (k := ?_)
  apply AWL.cut 3
  ·intro Kg14
   refine AWL.split 96 rfl (fun g14 => ?_) (fun g14 => ?_)
   ·refine go [.f,.N,.l,.b] (k := ?_)
    exact wjT 99 [97, 98, 99] (ifT g14 _ undef) Kg14
   ·refine go [.x,.x,.x] (k := ?_)
    exact wjF 99 [97, 98, 99] (ifF g14 undef _) Kg14
  refine qq (Qt.pickAnd rfl rfl rfl) ?_
  refine go [.N,.a,.Z] (k := ?_)
  refine rt1 4 ?_
  refine rb ?_
  simp only [openOk]
  grind only
 try simp only [cnd] at c13
 refine go [.J,.R,.a,.Z] (k := ?_)
 refine rt1 4 ?_
 refine rb ?_
 simp only [openOk]
 grind only
end Go.Proofs.YthjfgpkjooaahaaGreat.VM

