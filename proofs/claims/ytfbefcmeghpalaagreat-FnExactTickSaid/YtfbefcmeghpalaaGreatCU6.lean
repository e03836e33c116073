/- Contracts of functions of the program. No conditions beyond those that each states. -/
import Derived.Test.YtfbefcmeghpalaaGreatCU5
set_option linter.all false
set_option maxHeartbeats 8000000
set_option maxRecDepth 10000
namespace Go.Proofs.YtfbefcmeghpalaaGreat.VM
open Go Go.RowKit Go.Proofs
theorem l6Proc_con (u : DUnix) (pid : Int) : Con Tryz.prog 204 [.g [.v (iv u.Next), .v (iv u.Tick), .h base [], .h (base + 1) [], .h (base + 2) [], .h (base + 3) [], .h (base + 4) [], .h (base + 5) [], .h (base + 6) []], .v (iv pid)] [.rt base .ro (tr u.Progs), .rt (base + 1) .ro (tr u.Procs), .rt (base + 2) .ro (tr u.Opens), .rt (base + 3) .ro (tr u.Pipes), .rt (base + 4) .ro (tr u.Files), .rt (base + 5) .ro (tr u.Ready), .rt (base + 6) .ro (tr u.Out)] (fun y _ => y = .v (iv (procAt u pid))) := by
 refine ob Tryz.func204 Tryz.ntmps204 ?_
 refine AW.len (base + 1) [] rfl (by simp [Okp]) rfl (fun hl => ?_)
 refine sr ?_
 refine bx ?_
 refine nm ?_
 refine qn ?_
 refine sr2 ?_
 refine qn ?_
 refine AW.block ?_
 refine AW.loopW (fun i : IxInv (fun p => p.Pid == pid) u.Procs => [.sl 5 (.v (iv i.k)), .sl 1 (.v (iv pid)), .rt 2 .box (T.s 9 1 fun k c => ([(T.v (iv u.Next), none), (T.v (iv u.Tick), none), (T.j, none), (T.j, none), (T.j, none), (T.j, none), (T.j, none), (T.j, none), (T.j, none)].getD (k * 9 + c) (T.j, none)).fst), .al 2 2 (.h base []), .al 2 3 (.h (base + 1) []), .al 2 4 (.h (base + 2) []), .al 2 5 (.h (base + 3) []), .al 2 6 (.h (base + 4) []), .al 2 7 (.h (base + 5) []), .al 2 8 (.h (base + 6) []), .rt base .ro (tr u.Progs), .rt (base + 1) .ro (tr u.Procs), .rt (base + 2) .ro (tr u.Opens), .rt (base + 3) .ro (tr u.Pipes), .rt (base + 4) .ro (tr u.Files), .rt (base + 5) .ro (tr u.Ready), .rt (base + 6) .ro (tr u.Out), .sl 2 (.p 2 [] 9 0 0)]) (fun i => u.Procs.length - i.k) ⟨0, Nat.zero_le _, rfl⟩ (Weak.sim ⟨rfl, rfl, Rf rfl, ⟨rfl, rfl⟩, ⟨rfl, rfl⟩, ⟨rfl, rfl⟩, ⟨rfl, rfl⟩, ⟨rfl, rfl⟩, ⟨rfl, rfl⟩, ⟨rfl, rfl⟩, Rf rfl, Rf rfl, Rf rfl, Rf rfl, Rf rfl, Rf rfl, Rf rfl, rfl, trivial⟩ rfl rfl) ?_
 intro i
 have hle := i.le
 refine sr2 ?_
 refine mn ?_
 refine qq (fA fl31_3) ?_
 refine ql ag25 ?_
 refine qh sl25 ?_
 refine nm ?_
 refine qb ?_
 refine nc (fun c1 => ?_) fun c1 => ?_
 ·try simp only [cnd] at c1
  refine jd (AW.seq (AW.block (sr ?_)))
  refine qq (fA fl31_3) ?_
  refine ql ag25 ?_
  refine nm ?_
  refine qm ?_
  refine qq (ix sl25 sz72) ?_
  refine qq (fA fl72_0) ?_
  refine nm ?_
  refine ql ag3 ?_
  refine qm ?_
  refine qb ?_
  refine nc (fun c2 => ?_) fun c2 => ?_
  ·have k2 := c2
   try simp only [cnd] at c2
   refine sr ?_
   refine mn ?_
   refine qr 4 ?_
   rw [show procAt u pid = (i.k : Nat) from ixOf_hit i En.dflt (by omega) k2]
   rfl
  have k2 := c2
  try simp only [cnd] at c2
  refine jd (AW.region ?_)
  refine qm ?_
  refine ba ?_
  refine nm ?_
  refine qn ?_
  refine ⟨⟨i.k + 1, by omega, i.next En.dflt (by omega) k2⟩, Weak.sim ⟨st1, rfl, Rf rfl, ⟨rfl, rfl⟩, ⟨rfl, rfl⟩, ⟨rfl, rfl⟩, ⟨rfl, rfl⟩, ⟨rfl, rfl⟩, ⟨rfl, rfl⟩, ⟨rfl, rfl⟩, Rf rfl, Rf rfl, Rf rfl, Rf rfl, Rf rfl, Rf rfl, Rf rfl, rfl, trivial⟩ rfl rfl, ?_⟩
  show u.Procs.length - (i.k + 1) < u.Procs.length - i.k
  omega
 try simp only [cnd] at c1
 refine AW.exit ?_
 dsimp only [thenQ, blockQ, reduceIte]
 refine sr ?_
 refine qr 4 ?_
 rw [show procAt u pid = -1 from ixOf_none i (by omega)]
 rfl
theorem l6Open_con (u : DUnix) (id : Int) : Con Tryz.prog 138 [.g [.v (iv u.Next), .v (iv u.Tick), .h base [], .h (base + 1) [], .h (base + 2) [], .h (base + 3) [], .h (base + 4) [], .h (base + 5) [], .h (base + 6) []], .v (iv id)] [.rt base .ro (tr u.Progs), .rt (base + 1) .ro (tr u.Procs), .rt (base + 2) .ro (tr u.Opens), .rt (base + 3) .ro (tr u.Pipes), .rt (base + 4) .ro (tr u.Files), .rt (base + 5) .ro (tr u.Ready), .rt (base + 6) .ro (tr u.Out)] (fun y _ => y = .v (iv (openAt u id))) := by
 refine ob Tryz.func138 Tryz.ntmps138 ?_
 refine AW.len (base + 2) [] rfl (by simp [Okp]) rfl (fun hl => ?_)
 refine sr ?_
 refine bx ?_
 refine nm ?_
 refine qn ?_
 refine sr2 ?_
 refine qn ?_
 refine AW.block ?_
 refine AW.loopW (fun i : IxInv (fun p => p.Id == id) u.Opens => [.sl 5 (.v (iv i.k)), .sl 1 (.v (iv id)), .rt 2 .box (T.s 9 1 fun k c => ([(T.v (iv u.Next), none), (T.v (iv u.Tick), none), (T.j, none), (T.j, none), (T.j, none), (T.j, none), (T.j, none), (T.j, none), (T.j, none)].getD (k * 9 + c) (T.j, none)).fst), .al 2 2 (.h base []), .al 2 3 (.h (base + 1) []), .al 2 4 (.h (base + 2) []), .al 2 5 (.h (base + 3) []), .al 2 6 (.h (base + 4) []), .al 2 7 (.h (base + 5) []), .al 2 8 (.h (base + 6) []), .rt base .ro (tr u.Progs), .rt (base + 1) .ro (tr u.Procs), .rt (base + 2) .ro (tr u.Opens), .rt (base + 3) .ro (tr u.Pipes), .rt (base + 4) .ro (tr u.Files), .rt (base + 5) .ro (tr u.Ready), .rt (base + 6) .ro (tr u.Out), .sl 2 (.p 2 [] 9 0 0)]) (fun i => u.Opens.length - i.k) ⟨0, Nat.zero_le _, rfl⟩ (Weak.sim ⟨rfl, rfl, Rf rfl, ⟨rfl, rfl⟩, ⟨rfl, rfl⟩, ⟨rfl, rfl⟩, ⟨rfl, rfl⟩, ⟨rfl, rfl⟩, ⟨rfl, rfl⟩, ⟨rfl, rfl⟩, Rf rfl, Rf rfl, Rf rfl, Rf rfl, Rf rfl, Rf rfl, Rf rfl, rfl, trivial⟩ rfl rfl) ?_
 intro i
 have hle := i.le
 refine sr2 ?_
 refine mn ?_
 refine qq (fA fl31_4) ?_
 refine ql ag26 ?_
 refine qh sl26 ?_
 refine nm ?_
 refine qb ?_
 refine nc (fun c1 => ?_) fun c1 => ?_
 ·try simp only [cnd] at c1
  refine jd (AW.seq (AW.block (sr ?_)))
  refine qq (fA fl31_4) ?_
  refine ql ag26 ?_
  refine nm ?_
  refine qm ?_
  refine qq (ix sl26 sz130) ?_
  refine qq (fA fl130_0) ?_
  refine nm ?_
  refine ql ag3 ?_
  refine qm ?_
  refine qb ?_
  refine nc (fun c2 => ?_) fun c2 => ?_
  ·have k2 := c2
   try simp only [cnd] at c2
   refine sr ?_
   refine mn ?_
   refine qr 4 ?_
   rw [show openAt u id = (i.k : Nat) from ixOf_hit i En.dflt (by omega) k2]
   rfl
  have k2 := c2
  try simp only [cnd] at c2
  refine jd (AW.region ?_)
  refine qm ?_
  refine ba ?_
  refine nm ?_
  refine qn ?_
  refine ⟨⟨i.k + 1, by omega, i.next En.dflt (by omega) k2⟩, Weak.sim ⟨st1, rfl, Rf rfl, ⟨rfl, rfl⟩, ⟨rfl, rfl⟩, ⟨rfl, rfl⟩, ⟨rfl, rfl⟩, ⟨rfl, rfl⟩, ⟨rfl, rfl⟩, ⟨rfl, rfl⟩, Rf rfl, Rf rfl, Rf rfl, Rf rfl, Rf rfl, Rf rfl, Rf rfl, rfl, trivial⟩ rfl rfl, ?_⟩
  show u.Opens.length - (i.k + 1) < u.Opens.length - i.k
  omega
 try simp only [cnd] at c1
 refine AW.exit ?_
 dsimp only [thenQ, blockQ, reduceIte]
 refine sr ?_
 refine qr 4 ?_
 rw [show openAt u id = -1 from ixOf_none i (by omega)]
 rfl
theorem l6Pipe_con (u : DUnix) (id : Int) : Con Tryz.prog 140 [.g [.v (iv u.Next), .v (iv u.Tick), .h base [], .h (base + 1) [], .h (base + 2) [], .h (base + 3) [], .h (base + 4) [], .h (base + 5) [], .h (base + 6) []], .v (iv id)] [.rt base .ro (tr u.Progs), .rt (base + 1) .ro (tr u.Procs), .rt (base + 2) .ro (tr u.Opens), .rt (base + 3) .ro (tr u.Pipes), .rt (base + 4) .ro (tr u.Files), .rt (base + 5) .ro (tr u.Ready), .rt (base + 6) .ro (tr u.Out)] (fun y _ => y = .v (iv (pipeAt u id))) := by
 refine ob Tryz.func140 Tryz.ntmps140 ?_
 refine AW.len (base + 3) [] rfl (by simp [Okp]) rfl (fun hl => ?_)
 refine sr ?_
 refine bx ?_
 refine nm ?_
 refine qn ?_
 refine sr2 ?_
 refine qn ?_
 refine AW.block ?_
 refine AW.loopW (fun i : IxInv (fun p => p.Id == id) u.Pipes => [.sl 5 (.v (iv i.k)), .sl 1 (.v (iv id)), .rt 2 .box (T.s 9 1 fun k c => ([(T.v (iv u.Next), none), (T.v (iv u.Tick), none), (T.j, none), (T.j, none), (T.j, none), (T.j, none), (T.j, none), (T.j, none), (T.j, none)].getD (k * 9 + c) (T.j, none)).fst), .al 2 2 (.h base []), .al 2 3 (.h (base + 1) []), .al 2 4 (.h (base + 2) []), .al 2 5 (.h (base + 3) []), .al 2 6 (.h (base + 4) []), .al 2 7 (.h (base + 5) []), .al 2 8 (.h (base + 6) []), .rt base .ro (tr u.Progs), .rt (base + 1) .ro (tr u.Procs), .rt (base + 2) .ro (tr u.Opens), .rt (base + 3) .ro (tr u.Pipes), .rt (base + 4) .ro (tr u.Files), .rt (base + 5) .ro (tr u.Ready), .rt (base + 6) .ro (tr u.Out), .sl 2 (.p 2 [] 9 0 0)]) (fun i => u.Pipes.length - i.k) ⟨0, Nat.zero_le _, rfl⟩ (Weak.sim ⟨rfl, rfl, Rf rfl, ⟨rfl, rfl⟩, ⟨rfl, rfl⟩, ⟨rfl, rfl⟩, ⟨rfl, rfl⟩, ⟨rfl, rfl⟩, ⟨rfl, rfl⟩, ⟨rfl, rfl⟩, Rf rfl, Rf rfl, Rf rfl, Rf rfl, Rf rfl, Rf rfl, Rf rfl, rfl, trivial⟩ rfl rfl) ?_
 intro i
 have hle := i.le
 refine sr2 ?_
 refine mn ?_
 refine qq (fA fl31_5) ?_
 refine ql ag27 ?_
 refine qh sl27 ?_
 refine nm ?_
 refine qb ?_
 refine nc (fun c1 => ?_) fun c1 => ?_
 ·try simp only [cnd] at c1
  refine jd (AW.seq (AW.block (sr ?_)))
  refine qq (fA fl31_5) ?_
  refine ql ag27 ?_
  refine nm ?_
  refine qm ?_
  refine qq (ix sl27 sz153) ?_
  refine qq (fA fl153_0) ?_
  refine nm ?_
  refine ql ag3 ?_
  refine qm ?_
  refine qb ?_
  refine nc (fun c2 => ?_) fun c2 => ?_
  ·have k2 := c2
   try simp only [cnd] at c2
   refine sr ?_
   refine mn ?_
   refine qr 4 ?_
   rw [show pipeAt u id = (i.k : Nat) from ixOf_hit i En.dflt (by omega) k2]
   rfl
  have k2 := c2
  try simp only [cnd] at c2
  refine jd (AW.region ?_)
  refine qm ?_
  refine ba ?_
  refine nm ?_
  refine qn ?_
  refine ⟨⟨i.k + 1, by omega, i.next En.dflt (by omega) k2⟩, Weak.sim ⟨st1, rfl, Rf rfl, ⟨rfl, rfl⟩, ⟨rfl, rfl⟩, ⟨rfl, rfl⟩, ⟨rfl, rfl⟩, ⟨rfl, rfl⟩, ⟨rfl, rfl⟩, ⟨rfl, rfl⟩, Rf rfl, Rf rfl, Rf rfl, Rf rfl, Rf rfl, Rf rfl, Rf rfl, rfl, trivial⟩ rfl rfl, ?_⟩
  show u.Pipes.length - (i.k + 1) < u.Pipes.length - i.k
  omega
 try simp only [cnd] at c1
 refine AW.exit ?_
 dsimp only [thenQ, blockQ, reduceIte]
 refine sr ?_
 refine qr 4 ?_
 rw [show pipeAt u id = -1 from ixOf_none i (by omega)]
 rfl
theorem l6File_con (u : DUnix) (name : Int) : Con Tryz.prog 234 [.g [.v (iv u.Next), .v (iv u.Tick), .h base [], .h (base + 1) [], .h (base + 2) [], .h (base + 3) [], .h (base + 4) [], .h (base + 5) [], .h (base + 6) []], .v (iv name)] [.rt base .ro (tr u.Progs), .rt (base + 1) .ro (tr u.Procs), .rt (base + 2) .ro (tr u.Opens), .rt (base + 3) .ro (tr u.Pipes), .rt (base + 4) .ro (tr u.Files), .rt (base + 5) .ro (tr u.Ready), .rt (base + 6) .ro (tr u.Out)] (fun y _ => y = .v (iv (fileAt u name))) := by
 refine ob Tryz.func234 Tryz.ntmps234 ?_
 refine AW.len (base + 4) [] rfl (by simp [Okp]) rfl (fun hl => ?_)
 refine sr ?_
 refine bx ?_
 refine nm ?_
 refine qn ?_
 refine sr2 ?_
 refine qn ?_
 refine AW.block ?_
 refine AW.loopW (fun i : IxInv (fun p => p.Name == name) u.Files => [.sl 5 (.v (iv i.k)), .sl 1 (.v (iv name)), .rt 2 .box (T.s 9 1 fun k c => ([(T.v (iv u.Next), none), (T.v (iv u.Tick), none), (T.j, none), (T.j, none), (T.j, none), (T.j, none), (T.j, none), (T.j, none), (T.j, none)].getD (k * 9 + c) (T.j, none)).fst), .al 2 2 (.h base []), .al 2 3 (.h (base + 1) []), .al 2 4 (.h (base + 2) []), .al 2 5 (.h (base + 3) []), .al 2 6 (.h (base + 4) []), .al 2 7 (.h (base + 5) []), .al 2 8 (.h (base + 6) []), .rt base .ro (tr u.Progs), .rt (base + 1) .ro (tr u.Procs), .rt (base + 2) .ro (tr u.Opens), .rt (base + 3) .ro (tr u.Pipes), .rt (base + 4) .ro (tr u.Files), .rt (base + 5) .ro (tr u.Ready), .rt (base + 6) .ro (tr u.Out), .sl 2 (.p 2 [] 9 0 0)]) (fun i => u.Files.length - i.k) ⟨0, Nat.zero_le _, rfl⟩ (Weak.sim ⟨rfl, rfl, Rf rfl, ⟨rfl, rfl⟩, ⟨rfl, rfl⟩, ⟨rfl, rfl⟩, ⟨rfl, rfl⟩, ⟨rfl, rfl⟩, ⟨rfl, rfl⟩, ⟨rfl, rfl⟩, Rf rfl, Rf rfl, Rf rfl, Rf rfl, Rf rfl, Rf rfl, Rf rfl, rfl, trivial⟩ rfl rfl) ?_
 intro i
 have hle := i.le
 refine sr2 ?_
 refine mn ?_
 refine qq (fA fl31_6) ?_
 refine ql ag28 ?_
 refine qh sl28 ?_
 refine nm ?_
 refine qb ?_
 refine nc (fun c1 => ?_) fun c1 => ?_
 ·try simp only [cnd] at c1
  refine jd (AW.seq (AW.block (sr ?_)))
  refine qq (fA fl31_6) ?_
  refine ql ag28 ?_
  refine nm ?_
  refine qm ?_
  refine qq (ix sl28 sz155) ?_
  refine qq (fA fl155_0) ?_
  refine nm ?_
  refine ql ag3 ?_
  refine qm ?_
  refine qb ?_
  refine nc (fun c2 => ?_) fun c2 => ?_
  ·have k2 := c2
   try simp only [cnd] at c2
   refine sr ?_
   refine mn ?_
   refine qr 4 ?_
   rw [show fileAt u name = (i.k : Nat) from ixOf_hit i En.dflt (by omega) k2]
   rfl
  have k2 := c2
  try simp only [cnd] at c2
  refine jd (AW.region ?_)
  refine qm ?_
  refine ba ?_
  refine nm ?_
  refine qn ?_
  refine ⟨⟨i.k + 1, by omega, i.next En.dflt (by omega) k2⟩, Weak.sim ⟨st1, rfl, Rf rfl, ⟨rfl, rfl⟩, ⟨rfl, rfl⟩, ⟨rfl, rfl⟩, ⟨rfl, rfl⟩, ⟨rfl, rfl⟩, ⟨rfl, rfl⟩, ⟨rfl, rfl⟩, Rf rfl, Rf rfl, Rf rfl, Rf rfl, Rf rfl, Rf rfl, Rf rfl, rfl, trivial⟩ rfl rfl, ?_⟩
  show u.Files.length - (i.k + 1) < u.Files.length - i.k
  omega
 try simp only [cnd] at c1
 refine AW.exit ?_
 dsimp only [thenQ, blockQ, reduceIte]
 refine sr ?_
 refine qr 4 ?_
 rw [show fileAt u name = -1 from ixOf_none i (by omega)]
 rfl
theorem l6Has_con (l : List Int) (x : Int) : Con Tryz.prog 139 [.h base [], .v (iv x)] [.rt base .ro (tr l)] (fun y _ => y = .v (.bool (hasI l x))) := by
 refine ob Tryz.func139 Tryz.ntmps139 ?_
 refine AW.len (base) [] rfl (by simp [Okp]) rfl (fun hl => ?_)
 refine sr ?_
 refine qn ?_
 refine sr2 ?_
 refine qn ?_
 refine AW.block ?_
 refine AW.loopW (fun i : AllInv (fun y => !(y == x)) l => [.sl 5 (.v (iv i.k)), .sl 0 (.h base []), .sl 1 (.v (iv x)), .rt base .ro (tr l)]) (fun i => l.length - i.k) ⟨0, Nat.zero_le _, rfl⟩ (Weak.sim ⟨rfl, rfl, rfl, Rf rfl, trivial⟩ rfl rfl) ?_
 intro i
 have hle := i.le
 refine sr2 ?_
 refine mn ?_
 refine qm ?_
 refine qh sl29 ?_
 refine qb ?_
 refine nc (fun c1 => ?_) fun c1 => ?_
 ·try simp only [cnd] at c1
  refine jd (AW.seq (AW.block (sr ?_)))
  refine mn ?_
  refine qm ?_
  refine qq (ix sl29 sz3) ?_
  refine ql ag3 ?_
  refine nm ?_
  refine qm ?_
  refine qb ?_
  refine nc (fun c2 => ?_) fun c2 => ?_
  ·have k2 := c2
   try simp only [cnd] at c2
   refine sr ?_
   refine qr 4 ?_
   rw [show hasI l x = true from by rw [hasI_all, i.stop En.dflt (by omega) (by rw [k2]; rfl)]; rfl]
   rfl
  have k2 := c2
  try simp only [cnd] at c2
  refine jd (AW.region ?_)
  refine mn ?_
  refine ba ?_
  refine qn ?_
  refine ⟨⟨i.k + 1, by omega, i.next En.dflt (by omega) (by rw [k2]; rfl)⟩, Weak.sim ⟨st1, rfl, rfl, Rf rfl, trivial⟩ rfl rfl, ?_⟩
  show l.length - (i.k + 1) < l.length - i.k
  omega
 try simp only [cnd] at c1
 refine AW.exit ?_
 dsimp only [thenQ, blockQ, reduceIte]
 refine sr ?_
 refine qr 4 ?_
 rw [show hasI l x = false from by rw [hasI_all, i.full (by omega)]; rfl]
 rfl
theorem l6Pages_con (u : DUnix) (hb : unixB u) : Con Tryz.prog 134 [.g [.v (iv u.Next), .v (iv u.Tick), .h base [], .h (base + 1) [], .h (base + 2) [], .h (base + 3) [], .h (base + 4) [], .h (base + 5) [], .h (base + 6) []]] [.rt base .ro (tr u.Progs), .rt (base + 1) .ro (tr u.Procs), .rt (base + 2) .ro (tr u.Opens), .rt (base + 3) .ro (tr u.Pipes), .rt (base + 4) .ro (tr u.Files), .rt (base + 5) .ro (tr u.Ready), .rt (base + 6) .ro (tr u.Out)] (fun y _ => y = .v (iv (pagesN u.Procs u.Procs.length : Nat))) := by
 refine ob Tryz.func134 Tryz.ntmps134 ?_
 refine AW.len (base + 1) [] rfl (by simp [Okp]) rfl (fun hl => ?_)
 have hmp := pages_bd hb
 refine sr ?_
 refine bx ?_
 refine nm ?_
 refine qs' ?_
 refine qn ?_
 refine sr2 ?_
 refine qn ?_
 refine AW.block ?_
 refine AW.loopW (fun i : KInv u.Procs.length => [.sl 4 (.v (iv i.k)), .sl 3 (.v (iv (pagesN u.Procs i.k : Nat))), .rt 1 .box (T.s 9 1 fun k c => ([(T.v (iv u.Next), none), (T.v (iv u.Tick), none), (T.j, none), (T.j, none), (T.j, none), (T.j, none), (T.j, none), (T.j, none), (T.j, none)].getD (k * 9 + c) (T.j, none)).fst), .al 1 2 (.h base []), .al 1 3 (.h (base + 1) []), .al 1 4 (.h (base + 2) []), .al 1 5 (.h (base + 3) []), .al 1 6 (.h (base + 4) []), .al 1 7 (.h (base + 5) []), .al 1 8 (.h (base + 6) []), .rt base .ro (tr u.Progs), .rt (base + 1) .ro (tr u.Procs), .rt (base + 2) .ro (tr u.Opens), .rt (base + 3) .ro (tr u.Pipes), .rt (base + 4) .ro (tr u.Files), .rt (base + 5) .ro (tr u.Ready), .rt (base + 6) .ro (tr u.Out), .sl 1 (.p 1 [] 9 0 0)]) (fun i => u.Procs.length - i.k) ⟨0, Nat.zero_le _⟩ (Weak.sim ⟨rfl, rfl, Rf rfl, ⟨rfl, rfl⟩, ⟨rfl, rfl⟩, ⟨rfl, rfl⟩, ⟨rfl, rfl⟩, ⟨rfl, rfl⟩, ⟨rfl, rfl⟩, ⟨rfl, rfl⟩, Rf rfl, Rf rfl, Rf rfl, Rf rfl, Rf rfl, Rf rfl, Rf rfl, rfl, trivial⟩ rfl rfl) ?_
 intro i
 have hle := i.le
 have hm1 : i.k < u.Procs.length → pagesN u.Procs (i.k + 1) ≤ pagesN u.Procs u.Procs.length := fun h => cumN_mono (by omega)
 have hs1 : pagesN u.Procs (i.k + 1) = pagesN u.Procs i.k + (u.Procs.getD i.k En.dflt).Mem.length / 4 := rfl
 refine sr2 ?_
 refine mn ?_
 refine qq (fA fl31_3) ?_
 refine ql ag25 ?_
 refine qh sl25 ?_
 refine nm ?_
 refine qb ?_
 refine nc (fun c1 => ?_) fun c1 => ?_
 ·try simp only [cnd] at c1
  refine AW.len (base + 1) [(10, i.k, 6)] rfl (by refine ⟨rfl, ?_, by decide, trivial⟩; show i.k < u.Procs.length; omega) rfl (fun hl2 => ?_)
  refine jd (AW.seq (AW.block (AW.region ?_)))
  refine qm ?_
  refine qq (fA fl31_3) ?_
  refine nm ?_
  refine ql ag25 ?_
  refine qm ?_
  refine qq (ix sl25 sz72) ?_
  refine nm ?_
  refine qq (fA fl72_5) ?_
  refine ql ag29 ?_
  refine qh sl29 ?_
  refine nm ?_
  refine qq (Qt.binOp rfl rfl (by first | exact pbQuo4 _ (by omega) | rfl)) ?_
  refine ba ?_
  refine qn ?_
  refine AW.region ?_
  refine mn ?_
  refine ba ?_
  refine qn ?_
  refine ⟨⟨i.k + 1, by omega⟩, Weak.sim ⟨st1, by simp only [slotL, reduceIte, Nat.reduceEqDiff]; congr 2; done, Rf rfl, ⟨rfl, rfl⟩, ⟨rfl, rfl⟩, ⟨rfl, rfl⟩, ⟨rfl, rfl⟩, ⟨rfl, rfl⟩, ⟨rfl, rfl⟩, ⟨rfl, rfl⟩, Rf rfl, Rf rfl, Rf rfl, Rf rfl, Rf rfl, Rf rfl, Rf rfl, rfl, trivial⟩ rfl rfl, ?_⟩
  show u.Procs.length - (i.k + 1) < u.Procs.length - i.k
  omega
 try simp only [cnd] at c1
 refine AW.exit ?_
 dsimp only [thenQ, blockQ, reduceIte]
 refine sr ?_
 refine mn ?_
 refine qr 2 ?_
 rw [show i.k = u.Procs.length by omega]
 rfl
theorem l6Ends_con (u : DUnix) (pipe kind : Int) (hb : unixB u) : Con Tryz.prog 141 [.g [.v (iv u.Next), .v (iv u.Tick), .h base [], .h (base + 1) [], .h (base + 2) [], .h (base + 3) [], .h (base + 4) [], .h (base + 5) [], .h (base + 6) []], .v (iv pipe), .v (iv kind)] [.rt base .ro (tr u.Progs), .rt (base + 1) .ro (tr u.Procs), .rt (base + 2) .ro (tr u.Opens), .rt (base + 3) .ro (tr u.Pipes), .rt (base + 4) .ro (tr u.Files), .rt (base + 5) .ro (tr u.Ready), .rt (base + 6) .ro (tr u.Out)] (fun y _ => y = .v (iv (endsN u pipe kind u.Opens.length : Nat))) := by
 refine ob Tryz.func141 Tryz.ntmps141 ?_
 refine AW.len (base + 2) [] rfl (by simp [Okp]) rfl (fun hl => ?_)
 have hop := hb.opens
 refine sr ?_
 refine bx ?_
 refine nm ?_
 refine qs' ?_
 refine qn ?_
 refine sr2 ?_
 refine qn ?_
 refine AW.block ?_
 refine AW.loopW (fun i : KInv u.Opens.length => [.sl 8 (.v (iv i.k)), .sl 7 (.v (iv (endsN u pipe kind i.k : Nat))), .sl 1 (.v (iv pipe)), .sl 2 (.v (iv kind)), .rt 3 .box (T.s 9 1 fun k c => ([(T.v (iv u.Next), none), (T.v (iv u.Tick), none), (T.j, none), (T.j, none), (T.j, none), (T.j, none), (T.j, none), (T.j, none), (T.j, none)].getD (k * 9 + c) (T.j, none)).fst), .al 3 2 (.h base []), .al 3 3 (.h (base + 1) []), .al 3 4 (.h (base + 2) []), .al 3 5 (.h (base + 3) []), .al 3 6 (.h (base + 4) []), .al 3 7 (.h (base + 5) []), .al 3 8 (.h (base + 6) []), .rt base .ro (tr u.Progs), .rt (base + 1) .ro (tr u.Procs), .rt (base + 2) .ro (tr u.Opens), .rt (base + 3) .ro (tr u.Pipes), .rt (base + 4) .ro (tr u.Files), .rt (base + 5) .ro (tr u.Ready), .rt (base + 6) .ro (tr u.Out), .sl 3 (.p 3 [] 9 0 0)]) (fun i => u.Opens.length - i.k) ⟨0, Nat.zero_le _⟩ (Weak.sim ⟨rfl, rfl, rfl, rfl, Rf rfl, ⟨rfl, rfl⟩, ⟨rfl, rfl⟩, ⟨rfl, rfl⟩, ⟨rfl, rfl⟩, ⟨rfl, rfl⟩, ⟨rfl, rfl⟩, ⟨rfl, rfl⟩, Rf rfl, Rf rfl, Rf rfl, Rf rfl, Rf rfl, Rf rfl, Rf rfl, rfl, trivial⟩ rfl rfl) ?_
 intro i
 have hle := i.le
 have hm1 := endsN_le u pipe kind i.k
 have hs1 := endsN_succ u pipe kind i.k
 refine sr2 ?_
 refine mn ?_
 refine qq (fA fl31_4) ?_
 refine ql ag26 ?_
 refine qh sl26 ?_
 refine nm ?_
 refine qb ?_
 refine nc (fun c1 => ?_) fun c1 => ?_
 ·try simp only [cnd] at c1
  refine jd (AW.seq (AW.block (sr ?_)))
  refine qq (fA fl31_4) ?_
  refine ql ag26 ?_
  refine nm ?_
  refine qm ?_
  refine qq (ix sl26 sz130) ?_
  refine qq (fA fl130_1) ?_
  refine nm ?_
  refine ql ag3 ?_
  refine qm ?_
  refine qb ?_
  refine nm ?_
  refine qm ?_
  apply AWL.cut 8
  ·intro Kg2
   refine AWL.split 24 rfl (fun g2 => ?_) (fun g2 => ?_)
   ·refine qg g2 (fA fl31_4) ?_
    refine qg g2 (Qt.load1 rfl rfl rfl ag26) ?_
    refine nm ?_
    refine qg g2 Qt.move ?_
    refine qg g2 (ix sl26 sz130) ?_
    refine qg g2 (fA fl130_2) ?_
    refine nm ?_
    refine qg g2 (Qt.load1 rfl rfl rfl ag3) ?_
    refine qg g2 Qt.move ?_
    refine qg g2 (Qt.binOp rfl rfl rfl) ?_
    refine nm ?_
    exact wj 32 [25, 26, 27, 28, 29, 30, 31, 32] (ifT g2 _ undef) (by simp only [go_sem, reduceIte, Nat.reduceEqDiff, Nat.reduceBEq, reduceCtorEq]; rfl) Kg2
   ·refine og g2 ?_
    refine og g2 ?_
    refine og g2 ?_
    refine og g2 ?_
    refine nm ?_
    refine og g2 ?_
    refine og g2 ?_
    refine og g2 ?_
    refine og g2 ?_
    exact wj 32 [25, 26, 27, 28, 29, 30, 31, 32] (ifF g2 undef _) (by simp only [go_sem, reduceIte, Nat.reduceEqDiff, Nat.reduceBEq, reduceCtorEq]) Kg2
  refine qq (Qt.pickAnd rfl rfl rfl) ?_
  refine nc (fun c3 => ?_) fun c3 => ?_
  ·try simp only [cnd] at c3
   refine AW.region ?_
   refine qm ?_
   refine ba ?_
   refine nm ?_
   refine qn ?_
   refine AW.region ?_
   refine qm ?_
   refine ba ?_
   refine nm ?_
   refine qn ?_
   refine ⟨⟨i.k + 1, by omega⟩, Weak.sim ⟨st1, by simp only [slotL, reduceIte, Nat.reduceEqDiff]; congr 2; rw [hs1]; grind, rfl, rfl, Rf rfl, ⟨rfl, rfl⟩, ⟨rfl, rfl⟩, ⟨rfl, rfl⟩, ⟨rfl, rfl⟩, ⟨rfl, rfl⟩, ⟨rfl, rfl⟩, ⟨rfl, rfl⟩, Rf rfl, Rf rfl, Rf rfl, Rf rfl, Rf rfl, Rf rfl, Rf rfl, rfl, trivial⟩ rfl rfl, ?_⟩
   show u.Opens.length - (i.k + 1) < u.Opens.length - i.k
   omega
  try simp only [cnd] at c3
  refine jd (AW.region ?_)
  refine qm ?_
  refine ba ?_
  refine nm ?_
  refine qn ?_
  refine ⟨⟨i.k + 1, by omega⟩, Weak.sim ⟨st1, by simp only [slotL, reduceIte, Nat.reduceEqDiff]; congr 2; rw [hs1]; grind, rfl, rfl, Rf rfl, ⟨rfl, rfl⟩, ⟨rfl, rfl⟩, ⟨rfl, rfl⟩, ⟨rfl, rfl⟩, ⟨rfl, rfl⟩, ⟨rfl, rfl⟩, ⟨rfl, rfl⟩, Rf rfl, Rf rfl, Rf rfl, Rf rfl, Rf rfl, Rf rfl, Rf rfl, rfl, trivial⟩ rfl rfl, ?_⟩
  show u.Opens.length - (i.k + 1) < u.Opens.length - i.k
  omega
 try simp only [cnd] at c1
 refine AW.exit ?_
 dsimp only [thenQ, blockQ, reduceIte]
 refine sr ?_
 refine qm ?_
 refine qr 6 ?_
 rw [show i.k = u.Opens.length by omega]
 rfl
theorem l6Progs_con (l : List (List DIns)) : Con Tryz.prog 132 [.h base []] [.rt base .ro (tr l)] (fun y _ => y = .v (.bool (progsOk l))) := by
 refine ob Tryz.func132 Tryz.ntmps132 ?_
 refine AW.len (base) [] rfl (by simp [Okp]) rfl (fun hl => ?_)
 refine sr ?_
 refine qn ?_
 refine sr2 ?_
 refine qm ?_
 refine qh sl24 ?_
 refine nm ?_
 refine cv Tryz.call131 rfl rfl (l1In_con _ _ _) ?_
 refine nm ?_
 refine qq (Qt.notB rfl) ?_
 refine nc (fun c1 => ?_) fun c1 => ?_
 ·try simp only [cnd] at c1
  refine sr ?_
  refine qr 2 ?_
  rw [show progsOk l = false from by simp only [progsOk]; grind]
  rfl
 try simp only [cnd] at c1
 refine jd (sr2 ?_)
 refine qn ?_
 refine AW.block ?_
 refine AW.loopW (fun i : AllInv progOk l => [.sl 3 (.v (iv i.k)), .sl 0 (.h base []), .rt base .ro (tr l)]) (fun i => l.length - i.k) ⟨0, Nat.zero_le _, rfl⟩ (Weak.sim ⟨rfl, rfl, Rf rfl, trivial⟩ rfl rfl) ?_
 intro i
 have hle := i.le
 refine sr2 ?_
 refine mn ?_
 refine qm ?_
 refine qh sl24 ?_
 refine qb ?_
 refine nc (fun c2 => ?_) fun c2 => ?_
 ·try simp only [cnd] at c2
  refine jd (AW.seq (AW.block (sr ?_)))
  refine mn ?_
  refine qm ?_
  refine qq (ix sl24 sz65) ?_
  refine ql ag65 ?_
  refine nm ?_
  refine cv Tryz.call228 rfl rfl (ProgOkS_con _) ?_
  refine nm ?_
  refine qq (Qt.notB rfl) ?_
  refine nc (fun c3 => ?_) fun c3 => ?_
  ·have k3 := c3
   try simp only [cnd] at c3
   refine sr ?_
   refine qr 2 ?_
   rw [show progsOk l = false from by simp only [progsOk, i.stop En.dflt (by omega) (by simpa using k3), Bool.and_false]]
   rfl
  have k3 := c3
  try simp only [cnd] at c3
  refine jd (AW.region ?_)
  refine mn ?_
  refine ba ?_
  refine qn ?_
  refine ⟨⟨i.k + 1, by omega, i.next En.dflt (by omega) (by simpa using k3)⟩, Weak.sim ⟨st1, rfl, Rf rfl, trivial⟩ rfl rfl, ?_⟩
  show l.length - (i.k + 1) < l.length - i.k
  omega
 try simp only [cnd] at c2
 refine AW.exit ?_
 dsimp only [thenQ, blockQ, reduceIte]
 refine sr ?_
 refine qr 2 ?_
 rw [show progsOk l = true from by simp only [progsOk, i.full (by omega)]; grind]
 rfl
theorem l6OpenOk_con (u : DUnix) (o : DOpen) (hb : unixB u) : Con Tryz.prog 231 [.g [.v (iv u.Next), .v (iv u.Tick), .h base [], .h (base + 1) [], .h (base + 2) [], .h (base + 3) [], .h (base + 4) [], .h (base + 5) [], .h (base + 6) []], .g [.v (iv o.Id), .v (iv o.Kind), .v (iv o.Target), .v (iv o.Off), .v (iv o.Refs)]] [.rt base .ro (tr u.Progs), .rt (base + 1) .ro (tr u.Procs), .rt (base + 2) .ro (tr u.Opens), .rt (base + 3) .ro (tr u.Pipes), .rt (base + 4) .ro (tr u.Files), .rt (base + 5) .ro (tr u.Ready), .rt (base + 6) .ro (tr u.Out)] (fun y _ => y = .v (.bool (openOk u o))) := by
 refine ob Tryz.func231 Tryz.ntmps231 ?_
 refine AW.len (base + 1) [] rfl (by simp [Okp]) rfl (fun hl => ?_)
 refine AW.len (base + 4) [] rfl (by simp [Okp]) rfl (fun hf => ?_)
 have hrb := refsOf_bd hb o.Id
 refine sr ?_
 refine bx ?_
 refine nm ?_
 refine bx ?_
 refine nm ?_
 refine qs' ?_
 refine qn ?_
 refine sr2 ?_
 refine qn ?_
 refine AW.block ?_
 refine AW.loopW (fun i : KInv u.Procs.length => [.sl 6 (.v (iv i.k)), .sl 5 (.v (iv (refsN u o.Id i.k : Nat))), .rt 2 .box (T.s 9 1 fun k c => ([(T.v (iv u.Next), none), (T.v (iv u.Tick), none), (T.j, none), (T.j, none), (T.j, none), (T.j, none), (T.j, none), (T.j, none), (T.j, none)].getD (k * 9 + c) (T.j, none)).fst), .al 2 2 (.h base []), .al 2 3 (.h (base + 1) []), .al 2 4 (.h (base + 2) []), .al 2 5 (.h (base + 3) []), .al 2 6 (.h (base + 4) []), .al 2 7 (.h (base + 5) []), .al 2 8 (.h (base + 6) []), .rt base .ro (tr u.Progs), .rt (base + 1) .ro (tr u.Procs), .rt (base + 2) .ro (tr u.Opens), .rt (base + 3) .ro (tr u.Pipes), .rt (base + 4) .ro (tr u.Files), .rt (base + 5) .ro (tr u.Ready), .rt (base + 6) .ro (tr u.Out), .sl 2 (.p 2 [] 9 0 0), .rt 3 .box (T.s 5 1 fun k c => ([(T.v (iv o.Id), none), (T.v (iv o.Kind), none), (T.v (iv o.Target), none), (T.v (iv o.Off), none), (T.v (iv o.Refs), none)].getD (k * 5 + c) (T.j, none)).fst), .sl 3 (.p 3 [] 5 0 0)]) (fun i => u.Procs.length - i.k) ⟨0, Nat.zero_le _⟩ (Weak.sim ⟨rfl, rfl, Rf rfl, ⟨rfl, rfl⟩, ⟨rfl, rfl⟩, ⟨rfl, rfl⟩, ⟨rfl, rfl⟩, ⟨rfl, rfl⟩, ⟨rfl, rfl⟩, ⟨rfl, rfl⟩, Rf rfl, Rf rfl, Rf rfl, Rf rfl, Rf rfl, Rf rfl, Rf rfl, rfl, Rf rfl, rfl, trivial⟩ rfl rfl) ?_
 intro i
 have hle := i.le
 have hm1 : i.k < u.Procs.length → refsN u o.Id (i.k + 1) ≤ refsOf u o.Id := fun h => cumN_mono (by omega)
 have hs1 : refsN u o.Id (i.k + 1) = refsN u o.Id i.k + fdCnt o.Id (u.Procs.getD i.k En.dflt).Fds (u.Procs.getD i.k En.dflt).Fds.length := rfl
 refine sr2 ?_
 refine mn ?_
 refine qq (fA fl31_3) ?_
 refine ql ag25 ?_
 refine qh sl25 ?_
 refine nm ?_
 refine qb ?_
 refine nc (fun c1 => ?_) fun c1 => ?_
 ·try simp only [cnd] at c1
  refine jd (AW.seq (AW.block (sr ?_)))
  refine qn ?_
  refine AW.block ?_
  refine AW.loopW (fun j : KInv (u.Procs.getD i.k En.dflt).Fds.length => [.sl 7 (.v (iv j.k)), .sl 6 (.v (iv i.k)), .sl 5 (.v (iv (refsN u o.Id i.k + fdCnt o.Id (u.Procs.getD i.k En.dflt).Fds j.k : Nat))), .rt 2 .box (T.s 9 1 fun k c => ([(T.v (iv u.Next), none), (T.v (iv u.Tick), none), (T.j, none), (T.j, none), (T.j, none), (T.j, none), (T.j, none), (T.j, none), (T.j, none)].getD (k * 9 + c) (T.j, none)).fst), .al 2 2 (.h base []), .al 2 3 (.h (base + 1) []), .al 2 4 (.h (base + 2) []), .al 2 5 (.h (base + 3) []), .al 2 6 (.h (base + 4) []), .al 2 7 (.h (base + 5) []), .al 2 8 (.h (base + 6) []), .rt base .ro (tr u.Progs), .rt (base + 1) .ro (tr u.Procs), .rt (base + 2) .ro (tr u.Opens), .rt (base + 3) .ro (tr u.Pipes), .rt (base + 4) .ro (tr u.Files), .rt (base + 5) .ro (tr u.Ready), .rt (base + 6) .ro (tr u.Out), .sl 2 (.p 2 [] 9 0 0), .rt 3 .box (T.s 5 1 fun k c => ([(T.v (iv o.Id), none), (T.v (iv o.Kind), none), (T.v (iv o.Target), none), (T.v (iv o.Off), none), (T.v (iv o.Refs), none)].getD (k * 5 + c) (T.j, none)).fst), .sl 3 (.p 3 [] 5 0 0)]) (fun j => (u.Procs.getD i.k En.dflt).Fds.length - j.k) ⟨0, Nat.zero_le _⟩ (Weak.sim ⟨rfl, rfl, rfl, Rf rfl, ⟨rfl, rfl⟩, ⟨rfl, rfl⟩, ⟨rfl, rfl⟩, ⟨rfl, rfl⟩, ⟨rfl, rfl⟩, ⟨rfl, rfl⟩, ⟨rfl, rfl⟩, Rf rfl, Rf rfl, Rf rfl, Rf rfl, Rf rfl, Rf rfl, Rf rfl, rfl, Rf rfl, rfl, trivial⟩ rfl rfl) ?_
  intro j
  have hlej := j.le
  have hm2 : j.k < (u.Procs.getD i.k En.dflt).Fds.length → fdCnt o.Id (u.Procs.getD i.k En.dflt).Fds (j.k + 1) ≤ fdCnt o.Id (u.Procs.getD i.k En.dflt).Fds (u.Procs.getD i.k En.dflt).Fds.length := fun h => cumN_mono (by omega)
  have hs2 := fdCnt_succ o.Id (u.Procs.getD i.k En.dflt).Fds j.k
  refine AW.len (base + 1) [(10, i.k, 7)] rfl (by refine ⟨rfl, ?_, by decide, trivial⟩; show i.k < u.Procs.length; omega) rfl (fun hl2 => ?_)
  refine sr2 ?_
  refine mn ?_
  refine qq (fA fl31_3) ?_
  refine ql ag25 ?_
  refine mn ?_
  refine qq (Qt.indexAddr rfl rfl rfl rfl sl25 sz72 (by decide) (by first | omega | grind)) ?_
  refine qq (fA fl72_6) ?_
  refine ql ag29 ?_
  refine nm ?_
  refine qh sl29 ?_
  refine qb ?_
  refine nc (fun c2 => ?_) fun c2 => ?_
  ·try simp only [cnd] at c2
   refine jd (AW.seq (AW.block (AW.seq ?_)))
   refine AW.draw [0, 1, 2, 3, 4, 5, 6, 7, 8, 9, 10, 11] rfl (by decide +kernel) ?_
   refine tk 0 rfl (fA fl31_3) ?_
   refine na ?_
   refine tk 1 rfl (Qt.load1 rfl rfl rfl ag25) ?_
   refine tk 2 rfl Qt.move ?_
   refine tk 3 rfl (Qt.indexAddr rfl rfl rfl rfl sl25 sz72 (by decide) (by first | omega | grind)) ?_
   refine na ?_
   refine tk 4 rfl (fA fl72_6) ?_
   refine tk 5 rfl (Qt.load1 rfl rfl rfl ag29) ?_
   refine tk 6 rfl Qt.move ?_
   refine na ?_
   refine tk 7 rfl (Qt.indexAddr rfl rfl rfl rfl sl29 sz3 (by decide) (by first | omega | grind)) ?_
   refine tk 8 rfl (Qt.load1 rfl rfl rfl ag3) ?_
   refine tk 9 rfl (fA fl130_0) ?_
   refine na ?_
   refine tk 10 rfl (Qt.load1 rfl rfl rfl ag3) ?_
   refine tk 11 rfl (Qt.binOp rfl rfl rfl) ?_
   refine nz ?_
   refine cd (fun c3 => ?_) fun c3 => ?_
   ·try simp only [cnd] at c3
    refine AW.region ?_
    refine mn ?_
    refine ba ?_
    refine qn ?_
    refine AW.region ?_
    refine mn ?_
    refine ba ?_
    refine qn ?_
    refine ⟨⟨j.k + 1, by omega⟩, Weak.sim ⟨st1, rfl, by simp only [slotL, reduceIte, Nat.reduceEqDiff]; congr 2; rw [hs2]; grind, Rf rfl, ⟨rfl, rfl⟩, ⟨rfl, rfl⟩, ⟨rfl, rfl⟩, ⟨rfl, rfl⟩, ⟨rfl, rfl⟩, ⟨rfl, rfl⟩, ⟨rfl, rfl⟩, Rf rfl, Rf rfl, Rf rfl, Rf rfl, Rf rfl, Rf rfl, Rf rfl, rfl, Rf rfl, rfl, trivial⟩ rfl rfl, ?_⟩
    show (u.Procs.getD i.k En.dflt).Fds.length - (j.k + 1) < (u.Procs.getD i.k En.dflt).Fds.length - j.k
    omega
   try simp only [cnd] at c3
   refine jd (AW.region ?_)
   refine mn ?_
   refine ba ?_
   refine qn ?_
   refine ⟨⟨j.k + 1, by omega⟩, Weak.sim ⟨st1, rfl, by simp only [slotL, reduceIte, Nat.reduceEqDiff]; congr 2; rw [hs2]; grind, Rf rfl, ⟨rfl, rfl⟩, ⟨rfl, rfl⟩, ⟨rfl, rfl⟩, ⟨rfl, rfl⟩, ⟨rfl, rfl⟩, ⟨rfl, rfl⟩, ⟨rfl, rfl⟩, Rf rfl, Rf rfl, Rf rfl, Rf rfl, Rf rfl, Rf rfl, Rf rfl, rfl, Rf rfl, rfl, trivial⟩ rfl rfl, ?_⟩
   show (u.Procs.getD i.k En.dflt).Fds.length - (j.k + 1) < (u.Procs.getD i.k En.dflt).Fds.length - j.k
   omega
  try simp only [cnd] at c2
  refine AW.exit ?_
  dsimp only [thenQ, blockQ, reduceIte]
  refine AW.region ?_
  refine mn ?_
  refine ba ?_
  refine qn ?_
  refine ⟨⟨i.k + 1, by omega⟩, Weak.sim ⟨st1, by simp only [slotL, reduceIte, Nat.reduceEqDiff]; congr 2; rw [hs1, ← (congrArg (fdCnt o.Id (u.Procs.getD i.k En.dflt).Fds) (show j.k = (u.Procs.getD i.k En.dflt).Fds.length by omega))], Rf rfl, ⟨rfl, rfl⟩, ⟨rfl, rfl⟩, ⟨rfl, rfl⟩, ⟨rfl, rfl⟩, ⟨rfl, rfl⟩, ⟨rfl, rfl⟩, ⟨rfl, rfl⟩, Rf rfl, Rf rfl, Rf rfl, Rf rfl, Rf rfl, Rf rfl, Rf rfl, rfl, Rf rfl, rfl, trivial⟩ rfl rfl, ?_⟩
  show u.Procs.length - (i.k + 1) < u.Procs.length - i.k
  omega
 try simp only [cnd] at c1
 have hR : refsN u o.Id i.k = refsOf u o.Id := congrArg (refsN u o.Id) (show i.k = u.Procs.length by omega)
 have hfb : fileAt u o.Target < u.Files.length := (ixOf_bd _ _).2
 refine AW.exit ?_
 dsimp only [thenQ, blockQ, reduceIte]
 refine sr2 ?_
 refine mn ?_
 refine qb ?_
 refine qm ?_
 apply AWL.cut 4
 ·intro Kg4
  refine AWL.splitF 42 rfl (fun g4 => ?_) (fun g4 => ?_)
  ·refine qg (nF g4) (fA fl130_4) ?_
   refine nm ?_
   refine qg (nF g4) (Qt.load1 rfl rfl rfl ag3) ?_
   refine qg (nF g4) Qt.move ?_
   refine qg (nF g4) (Qt.binOp rfl rfl rfl) ?_
   refine nm ?_
   exact wj 46 [43, 44, 45, 46] (ifF g4 _ undef) (by simp only [go_sem, reduceIte, Nat.reduceEqDiff, Nat.reduceBEq, reduceCtorEq]; rfl) Kg4
  ·refine og (nT g4) ?_
   refine og (nT g4) ?_
   refine og (nT g4) ?_
   refine og (nT g4) ?_
   exact wj 46 [43, 44, 45, 46] (ifT g4 undef _) (by simp only [go_sem, reduceIte, Nat.reduceEqDiff, Nat.reduceBEq, reduceCtorEq]) Kg4
 refine qq (Qt.pickOr rfl rfl rfl) ?_
 refine qm ?_
 apply AWL.cut 4
 ·intro Kg5
  refine AWL.splitF 48 rfl (fun g5 => ?_) (fun g5 => ?_)
  ·refine qg (nF g5) (fA fl130_0) ?_
   refine nm ?_
   refine qg (nF g5) (Qt.load1 rfl rfl rfl ag3) ?_
   refine AWL.step rfl (nF g5) (Stp.callV rfl (by decide) Tryz.call131 rfl rfl (l1In_con _ _ _)) ?_
   refine nm ?_
   refine qg (nF g5) (Qt.notB rfl) ?_
   exact wj 52 [49, 50, 51, 52] (ifF g5 _ undef) (by simp only [go_sem, reduceIte, Nat.reduceEqDiff, Nat.reduceBEq, reduceCtorEq]; rfl) Kg5
  ·refine og (nT g5) ?_
   refine og (nT g5) ?_
   refine og (nT g5) ?_
   refine og (nT g5) ?_
   exact wj 52 [49, 50, 51, 52] (ifT g5 undef _) (by simp only [go_sem, reduceIte, Nat.reduceEqDiff, Nat.reduceBEq, reduceCtorEq]) Kg5
 refine qq (Qt.pickOr rfl rfl rfl) ?_
 refine nc (fun c6 => ?_) fun c6 => ?_
 ·try simp only [cnd] at c6
  refine sr ?_
  refine qr 4 ?_
  refine rb ?_
  simp only [openOk]
  grind only
 try simp only [cnd] at c6
 refine jd (sr2 ?_)
 refine qq (fA fl130_1) ?_
 refine nm ?_
 refine ql ag3 ?_
 refine nl ?_
 refine AW.block (sr ?_)
 refine qb ?_
 refine qn ?_
 refine cd (fun c7 => ?_) fun c7 => ?_
 ·try simp only [cnd] at c7
  refine sr ?_
  refine qq (fA fl130_2) ?_
  refine nm ?_
  refine ql ag3 ?_
  refine qb ?_
  refine mn ?_
  apply AWL.cut 3
  ·intro Kg8
   refine AWL.split 61 rfl (fun g8 => ?_) (fun g8 => ?_)
   ·refine qg g8 (fA fl130_3) ?_
    refine qg g8 (Qt.load1 rfl rfl rfl ag3) ?_
    refine qg g8 (Qt.binOp rfl rfl rfl) ?_
    refine nm ?_
    exact wj 64 [62, 63, 64] (ifT g8 _ undef) (by simp only [go_sem, reduceIte, Nat.reduceEqDiff, Nat.reduceBEq, reduceCtorEq]; rfl) Kg8
   ·refine og g8 ?_
    refine og g8 ?_
    refine og g8 ?_
    exact wj 64 [62, 63, 64] (ifF g8 undef _) (by simp only [go_sem, reduceIte, Nat.reduceEqDiff, Nat.reduceBEq, reduceCtorEq]) Kg8
  refine qq (Qt.pickAnd rfl rfl rfl) ?_
  refine qr 4 ?_
  refine rb ?_
  simp only [openOk]
  grind only
 try simp only [cnd] at c7
 refine sr ?_
 refine qb ?_
 refine nm ?_
 refine qn ?_
 refine cd (fun c9 => ?_) fun c9 => ?_
 ·try simp only [cnd] at c9
  refine AW.seq ?_
  refine AW.draw [0, 1, 2, 4, 5, 6, 7, 8, 9, 10, 11, 12, 14, 15, 16, 17, 19, 20] rfl (by decide +kernel) ?_
  refine tk 0 rfl (Qt.loadG rfl rfl rfl ag31 sz31 (by decide)) ?_
  refine tk 1 rfl (fA fl130_2) ?_
  refine na ?_
  refine tk 2 rfl (Qt.load1 rfl rfl rfl ag3) ?_
  refine a1 3 [] [2, 0, 1] rfl rfl (Stp.callV rfl (by decide) Tryz.call234 rfl rfl (l6File_con u _)) ?_
  refine na ?_
  refine na ?_
  refine tk 4 rfl (Qt.binOp rfl rfl rfl) ?_
  refine tk 5 rfl Qt.move ?_
  refine AWA.split 73 rfl (fun g10 => ?_) (fun g10 => ?_)
  ·refine tg 6 rfl g10 (fA fl130_3) ?_
   refine na ?_
   refine tg 7 rfl g10 (Qt.load1 rfl rfl rfl ag3) ?_
   refine tg 8 rfl g10 (fA fl31_6) ?_
   refine tg 9 rfl g10 (Qt.load1 rfl rfl rfl ag28) ?_
   refine na ?_
   refine tg 10 rfl g10 (Qt.loadG rfl rfl rfl ag31 sz31 (by decide)) ?_
   refine tg 11 rfl g10 (fA fl130_2) ?_
   refine tg 12 rfl g10 (Qt.load1 rfl rfl rfl ag3) ?_
   refine na ?_
   refine a1 13 [6, 7, 8, 9] [12, 10, 5, 11, 4, 3, 2, 0, 1] rfl g10 (Stp.callV rfl (by decide) Tryz.call234 rfl rfl (l6File_con u _)) ?_
   refine na ?_
   refine AWA.againE rfl rfl (by decide +kernel) (.on rfl g10 (fA fl130_3)) rfl ?_
   refine AWA.againE rfl rfl (by decide +kernel) (.on rfl g10 (Qt.load1 rfl rfl rfl ag3)) rfl ?_
   refine AWA.againE rfl rfl (by decide +kernel) (.on rfl g10 (fA fl31_6)) rfl ?_
   refine AWA.againE rfl rfl (by decide +kernel) (.on rfl g10 (Qt.load1 rfl rfl rfl ag28)) rfl ?_
   refine na ?_
   refine tg 14 rfl g10 (Qt.indexAddr rfl rfl rfl rfl sl28 sz155 (by decide) (by first | omega | grind)) ?_
   refine tg 15 rfl g10 (fA fl155_1) ?_
   refine tg 16 rfl g10 (Qt.load1 rfl rfl rfl ag29) ?_
   refine na ?_
   refine tg 17 rfl g10 (Qt.lenH rfl rfl rfl sl29) ?_
   refine a1 18 [] [17, 13, 7, 5, 16, 12, 10, 6, 4, 3, 15, 11, 2, 0, 14, 1, 9, 8] rfl g10 (Stp.callV rfl (by decide) Tryz.call131 rfl rfl (l1In_con _ _ _)) ?_
   refine na ?_
   refine na ?_
   refine tk 19 rfl (Qt.pickT rfl g10) ?_
   refine tk 20 rfl Qt.assign ?_
   refine nz ?_
   refine rt1 4 ?_
   refine rb ?_
   simp only [openOk]
   grind only
  refine tf 6 g10 ?_
  refine na ?_
  refine tf 7 g10 ?_
  refine tf 8 g10 ?_
  refine tf 9 g10 ?_
  refine na ?_
  refine tf 10 g10 ?_
  refine tf 11 g10 ?_
  refine tf 12 g10 ?_
  refine na ?_
  refine o1 13 [6, 7, 8, 9] [12, 10, 5, 11, 4, 3, 2, 0, 1] rfl g10 ?_
  refine na ?_
  refine AWA.againE rfl rfl (by decide +kernel) (.off rfl g10) rfl ?_
  refine AWA.againE rfl rfl (by decide +kernel) (.off rfl g10) rfl ?_
  refine AWA.againE rfl rfl (by decide +kernel) (.off rfl g10) rfl ?_
  refine AWA.againE rfl rfl (by decide +kernel) (.off rfl g10) rfl ?_
  refine na ?_
  refine tf 14 g10 ?_
  refine tf 15 g10 ?_
  refine tf 16 g10 ?_
  refine na ?_
  refine tf 17 g10 ?_
  refine o1 18 [] [17, 13, 7, 5, 16, 12, 10, 6, 4, 3, 15, 11, 2, 0, 14, 1, 9, 8] rfl g10 ?_
  refine na ?_
  refine na ?_
  refine tk 19 rfl (Qt.pickF rfl g10) ?_
  refine tk 20 rfl Qt.assign ?_
  refine nz ?_
  refine rt1 4 ?_
  refine rb ?_
  simp only [openOk]
  grind only
 try simp only [cnd] at c9
 refine sr2 ?_
 refine qb ?_
 refine nm ?_
 refine qn ?_
 refine cd (fun c11 => ?_) fun c11 => ?_
 ·have k11 := c11
  try simp only [cnd] at c11
  refine jd ?_
  refine AW.condT rfl k11 ?_
  refine sr ?_
  refine qG ag31 sz31 ?_
  refine qq (fA fl130_2) ?_
  refine nm ?_
  refine ql ag3 ?_
  refine cv Tryz.call140 rfl rfl (l6Pipe_con u _) ?_
  refine nm ?_
  refine qb ?_
  refine qm ?_
  apply AWL.cut 3
  ·intro Kg12
   refine AWL.split 96 rfl (fun g12 => ?_) (fun g12 => ?_)
   ·refine qg g12 (fA fl130_3) ?_
    refine nm ?_
    refine qg g12 (Qt.load1 rfl rfl rfl ag3) ?_
    refine qg g12 (Qt.binOp rfl rfl rfl) ?_
    exact wj 99 [97, 98, 99] (ifT g12 _ undef) (by simp only [go_sem, reduceIte, Nat.reduceEqDiff, Nat.reduceBEq, reduceCtorEq]; rfl) Kg12
   ·refine og g12 ?_
    refine og g12 ?_
    refine og g12 ?_
    exact wj 99 [97, 98, 99] (ifF g12 undef _) (by simp only [go_sem, reduceIte, Nat.reduceEqDiff, Nat.reduceBEq, reduceCtorEq]) Kg12
  refine qq (Qt.pickAnd rfl rfl rfl) ?_
  refine nm ?_
  refine qr 4 ?_
  refine rb ?_
  simp only [openOk]
  grind only
 have k11 := c11
 try simp only [cnd] at c11
 refine AW.region ?_
 refine qb ?_
 refine qn ?_
 refine cd (fun c13 => ?_) fun c13 => ?_
 ·try simp only [cnd] at c13
  refine sr ?_
  refine qG ag31 sz31 ?_
  refine nm ?_
  refine qq (fA fl130_2) ?_
  refine ql ag3 ?_
  refine cv Tryz.call140 rfl rfl (l6Pipe_con u _) ?_
  refine nm ?_
  refine qb ?_
  refine qm ?_
  apply AWL.cut 3
  ·intro Kg14
   refine AWL.split 96 rfl (fun g14 => ?_) (fun g14 => ?_)
   ·refine qg g14 (fA fl130_3) ?_
    refine nm ?_
    refine qg g14 (Qt.load1 rfl rfl rfl ag3) ?_
    refine qg g14 (Qt.binOp rfl rfl rfl) ?_
    exact wj 99 [97, 98, 99] (ifT g14 _ undef) (by simp only [go_sem, reduceIte, Nat.reduceEqDiff, Nat.reduceBEq, reduceCtorEq]; rfl) Kg14
   ·refine og g14 ?_
    refine og g14 ?_
    refine og g14 ?_
    exact wj 99 [97, 98, 99] (ifF g14 undef _) (by simp only [go_sem, reduceIte, Nat.reduceEqDiff, Nat.reduceBEq, reduceCtorEq]) Kg14
  refine qq (Qt.pickAnd rfl rfl rfl) ?_
  refine nm ?_
  refine qr 4 ?_
  refine rb ?_
  simp only [openOk]
  grind only
 try simp only [cnd] at c13
 refine jd (sr ?_)
 refine qr 4 ?_
 refine rb ?_
 simp only [openOk]
 grind only
end Go.Proofs.YtfbefcmeghpalaaGreat.VM
