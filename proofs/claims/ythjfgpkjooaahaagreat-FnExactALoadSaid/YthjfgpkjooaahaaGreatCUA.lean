/- Contracts. No conditions. -/
import Derived.Test.YthjfgpkjooaahaaGreatCU5
set_option linter.all false
set_option maxHeartbeats 8000000
set_option maxRecDepth 10000
namespace Go.Proofs.YthjfgpkjooaahaaGreat.VM
open Go Go.RowKit Go.Proofs
theorem indexI_con (l : List Int) (v : Int) : Con Tryz.prog 357 [.h base [], .v (iv v)] [.rt base .ro (tr l)] (fun y _ => y = .v (iv (ixOf (fun x => v == x) l))) := by
 refine ob Tryz.func357 Tryz.ntmps357 ?_
 refine AW.len (base) [] rfl (by simp [Okp]) rfl (fun hl => ?_)
 refine go [.R,.a,.Z,.R2,.m,.h,.N,.m,.Z] (k := ?_)
 refine AW.block ?_
 refine AW.loopW (fun i : IxInv (fun x => v == x) l => [.sl 8 (.v (iv i.k)), .sl 0 (.h base []), .sl 1 (.v (iv v)), .sl 7 (.v (iv l.length)), .rt base .ro (tr l)]) (fun i => l.length - i.k) ⟨0, Nat.zero_le _, rfl⟩ (ws) ?_
 intro i
 have hle := i.le
 refine go [.R,.b,.Z] (k := ?_)
 refine AW.seq ?_
 refine cd (fun c1 => ?_) fun c1 => ?_
 ·try simp only [cnd] at c1
  refine jd (AW.seq (AW.block (sr ?_)))
  refine go [.m,.N,.a,.Z,.R,.m,.m,.N,.m,.i,.l,.N,.b,.Z] (k := ?_)
  refine cd (fun c2 => ?_) fun c2 => ?_
  ·try simp only [cnd] at c2
   refine go [.R,.m,.a,.Z] (k := ?_)
   refine rt1 4 ?_
   rw [ixOf_hit i En.dflt (by omega) (by simpa using c2)]
   rfl
  try simp only [cnd] at c2
  refine go [.J,.R1,.b,.N,.m,.Z] (k := ?_)
  refine ⟨⟨i.k + 1, by omega, i.next En.dflt (by omega) (by simpa using c2)⟩, ws, ?_⟩
  show l.length - (i.k + 1) < l.length - i.k
  omega
 try simp only [cnd] at c1
 refine AW.exit ?_
 dsimp only [thenQ, blockQ, reduceIte]
 refine go [.R,.a,.Z] (k := ?_)
 refine rt1 4 ?_
 rw [ixOf_none i (by omega)]
 rfl
theorem containsI_con (l : List Int) (x : Int) : Con Tryz.prog 318 [.h base [], .v (iv x)] [.rt base .ro (tr l)] (fun y _ => y = .v (.bool (hasI l x))) := by
 refine ob Tryz.func318 Tryz.ntmps318 ?_
 refine go [.R,.a,.Z,.R,.m,.m,.N] (k := ?_)
 refine cv Tryz.call357 rfl rfl (indexI_con _ _) ?_
 refine go [.N,.b,.a,.Z] (k := ?_)
 refine rt1 4 ?_
 rw [show hasI l x = decide (0 ≤ ixOf (fun y => x == y) l) from by rw [ixOf_ge, hasI]; congr 1; funext y; rw [Bool.eq_iff_iff]; simp only [beq_iff_eq]; exact ⟨Eq.symm, Eq.symm⟩]
 rfl
theorem procAt1_con (pid : Int) (p : DProc) : Con Tryz.prog 333 [.g [.v (iv p.Pid), .v (iv p.Parent), .v (iv p.State), .v (iv p.Prog), .v (iv p.Cpu.Pc), .h base [], .h (base + 1) [], .h (base + 2) [], .v (iv p.Until), .v (iv p.Code)], .p (base + 3) [] 1 0 0] [.rt base .ro (tr p.Cpu.Regs), .rt (base + 1) .ro (tr p.Mem), .rt (base + 2) .ro (tr p.Fds), .rt (base + 3) .ro (tr [pid])] (fun y _ => y = .v (.bool (p.Pid == pid))) := by
 refine ob Tryz.func333 Tryz.ntmps333 ?_
 refine go [.R,.B,.N,.a,.Z,.R,.f,.l,.N,.l,.b,.a,.Z] (k := ?_)
 refine rt1 3 ?_
 rfl
theorem ixProcC_con {fid : FuncId} {p : DProc → Bool} (u0 : Int) (hE : Ent Tryz.prog fid) (hp : ∀ x : DProc, Con Tryz.prog fid [.g [.v (iv x.Pid), .v (iv x.Parent), .v (iv x.State), .v (iv x.Prog), .v (iv x.Cpu.Pc), .h base [], .h (base + 1) [], .h (base + 2) [], .v (iv x.Until), .v (iv x.Code)], .p (base + 3) [] 1 0 0] [.rt base .ro (tr x.Cpu.Regs), .rt (base + 1) .ro (tr x.Mem), .rt (base + 2) .ro (tr x.Fds), .rt (base + 3) .ro (tr [u0])] (fun y _ => y = .v (.bool (p x)))) (l : List DProc) : Con Tryz.prog 332 [.h base [], .f fid [.p (base + 1) [] 1 0 0]] [.rt base .ro (tr l), .rt (base + 1) .ro (tr [u0])] (fun y _ => y = .v (iv (ixOf p l))) := by
 refine ob Tryz.func332 Tryz.ntmps332 ?_
 refine AW.len base [] rfl (by simp [Okp]) rfl (fun hl => ?_)
 refine go [.R,.a,.Z,.R2,.m,.h,.N,.m,.Z] (k := ?_)
 refine AW.block ?_
 refine AW.loopW (fun i : IxInv p l => [.sl 8 (.v (iv i.k)), .sl 7 (.v (iv l.length)), .sl 0 (.h base []), .sl 1 (.f fid [.p (base + 1) [] 1 0 0]), .rt base .ro (tr l), .rt (base + 1) .ro (tr [u0])]) (fun i => l.length - i.k) ⟨0, Nat.zero_le _, rfl⟩ (ws) ?_
 intro i
 have hle := i.le
 refine go [.R,.b,.Z] (k := ?_)
 refine AW.seq ?_
 refine cd (fun c1 => ?_) fun c1 => ?_
 ·try simp only [cnd] at c1
  refine jd (AW.seq (AW.block (sr ?_)))
  refine go [.m,.N,.a,.Z,.R,.m,.m,.N,.m,.i,.G,.N] (k := ?_)
  refine cv hE rfl rfl (Con.simH (hp (l.getD i.k En.dflt)) ⟨⟨_, rfl, tsr⟩, ⟨_, rfl, tsr⟩, ⟨_, rfl, tsr⟩, ⟨_, rfl, (sim_one (fun c hc => match c, hc with | 0, _ => tsr | c + 1, hc => absurd hc (by simp only [En.n]; omega)))⟩, trivial⟩ rfl rfl rfl) ?_
  refine go [.Z] (k := ?_)
  refine cd (fun c2 => ?_) fun c2 => ?_
  ·try simp only [cnd] at c2
   refine go [.R,.m,.N,.a,.Z] (k := ?_)
   refine rt1 4 ?_
   rw [ixOf_hit i En.dflt (by omega) c2]
   rfl
  try simp only [cnd] at c2
  refine go [.J,.R1,.b,.m,.Z] (k := ?_)
  refine ⟨⟨i.k + 1, by omega, i.next En.dflt (by omega) c2⟩, ws, ?_⟩
  show l.length - (i.k + 1) < l.length - i.k
  omega
 try simp only [cnd] at c1
 refine AW.exit ?_
 dsimp only [thenQ, blockQ, reduceIte]
 refine go [.R,.a,.Z] (k := ?_)
 refine rt1 4 ?_
 rw [ixOf_none i (by omega)]
 rfl
theorem procAtI_con (u : DUnix) (pid : Int) : Con Tryz.prog 263 [.g [.v (iv u.Next), .v (iv u.Tick), .h base [], .h (base + 1) [], .h (base + 2) [], .h (base + 3) [], .h (base + 4) [], .h (base + 5) [], .h (base + 6) []], .v (iv pid)] [.rt base .ro (tr u.Progs), .rt (base + 1) .ro (tr u.Procs), .rt (base + 2) .ro (tr u.Opens), .rt (base + 3) .ro (tr u.Pipes), .rt (base + 4) .ro (tr u.Files), .rt (base + 5) .ro (tr u.Ready), .rt (base + 6) .ro (tr u.Out)] (fun y _ => y = .v (iv (procAt u pid))) := by
 refine ob Tryz.func263 Tryz.ntmps263 ?_
 refine go [.R,.B,.N,.B,.N,.a,.Z,.R,.f,.l,.N] (k := ?_)
 refine qq Qt.makeFunc ?_
 refine cv Tryz.call332 rfl rfl (Con.simH (ixProcC_con pid Tryz.call333 (fun x => procAt1_con pid x) u.Procs) ⟨⟨_, rfl, tsr⟩, ⟨_, rfl, (sim_one (fun c hc => match c, hc with | 0, _ => tsr | c + 1, hc => absurd hc (by simp only [En.n]; omega)))⟩, trivial⟩ rfl rfl rfl) ?_
 refine go [.N,.a,.Z] (k := ?_)
 refine rt1 4 ?_
 rfl
theorem openAt1_con (id : Int) (o : DOpen) : Con Tryz.prog 335 [.g [.v (iv o.Id), .v (iv o.Kind), .v (iv o.Target), .v (iv o.Off), .v (iv o.Refs)], .p base [] 1 0 0] [.rt base .ro (tr [id])] (fun y _ => y = .v (.bool (o.Id == id))) := by
 refine ob Tryz.func335 Tryz.ntmps335 ?_
 refine go [.R,.B,.N,.a,.Z,.R,.f,.l,.N,.l,.b,.a,.Z] (k := ?_)
 refine rt1 3 ?_
 rfl
theorem ixOpenC_con {fid : FuncId} {p : DOpen → Bool} (u0 : Int) (hE : Ent Tryz.prog fid) (hp : ∀ x : DOpen, Con Tryz.prog fid [.g [.v (iv x.Id), .v (iv x.Kind), .v (iv x.Target), .v (iv x.Off), .v (iv x.Refs)], .p base [] 1 0 0] [.rt base .ro (tr [u0])] (fun y _ => y = .v (.bool (p x)))) (l : List DOpen) : Con Tryz.prog 334 [.h base [], .f fid [.p (base + 1) [] 1 0 0]] [.rt base .ro (tr l), .rt (base + 1) .ro (tr [u0])] (fun y _ => y = .v (iv (ixOf p l))) := by
 refine ob Tryz.func334 Tryz.ntmps334 ?_
 refine AW.len base [] rfl (by simp [Okp]) rfl (fun hl => ?_)
 refine go [.R,.a,.Z,.R2,.m,.h,.N,.m,.Z] (k := ?_)
 refine AW.block ?_
 refine AW.loopW (fun i : IxInv p l => [.sl 8 (.v (iv i.k)), .sl 7 (.v (iv l.length)), .sl 0 (.h base []), .sl 1 (.f fid [.p (base + 1) [] 1 0 0]), .rt base .ro (tr l), .rt (base + 1) .ro (tr [u0])]) (fun i => l.length - i.k) ⟨0, Nat.zero_le _, rfl⟩ (ws) ?_
 intro i
 have hle := i.le
 refine go [.R,.b,.Z] (k := ?_)
 refine AW.seq ?_
 refine cd (fun c1 => ?_) fun c1 => ?_
 ·try simp only [cnd] at c1
  refine jd (AW.seq (AW.block (sr ?_)))
  refine go [.m,.N,.a,.Z,.R,.m,.m,.N,.m,.i,.G,.N] (k := ?_)
  refine cv hE rfl rfl (Con.simH (hp (l.getD i.k En.dflt)) ⟨⟨_, rfl, (sim_one (fun c hc => match c, hc with | 0, _ => tsr | c + 1, hc => absurd hc (by simp only [En.n]; omega)))⟩, trivial⟩ rfl rfl rfl) ?_
  refine go [.Z] (k := ?_)
  refine cd (fun c2 => ?_) fun c2 => ?_
  ·try simp only [cnd] at c2
   refine go [.R,.m,.N,.a,.Z] (k := ?_)
   refine rt1 4 ?_
   rw [ixOf_hit i En.dflt (by omega) c2]
   rfl
  try simp only [cnd] at c2
  refine go [.J,.R1,.b,.m,.Z] (k := ?_)
  refine ⟨⟨i.k + 1, by omega, i.next En.dflt (by omega) c2⟩, ws, ?_⟩
  show l.length - (i.k + 1) < l.length - i.k
  omega
 try simp only [cnd] at c1
 refine AW.exit ?_
 dsimp only [thenQ, blockQ, reduceIte]
 refine go [.R,.a,.Z] (k := ?_)
 refine rt1 4 ?_
 rw [ixOf_none i (by omega)]
 rfl
theorem openAtI_con (u : DUnix) (id : Int) : Con Tryz.prog 266 [.g [.v (iv u.Next), .v (iv u.Tick), .h base [], .h (base + 1) [], .h (base + 2) [], .h (base + 3) [], .h (base + 4) [], .h (base + 5) [], .h (base + 6) []], .v (iv id)] [.rt base .ro (tr u.Progs), .rt (base + 1) .ro (tr u.Procs), .rt (base + 2) .ro (tr u.Opens), .rt (base + 3) .ro (tr u.Pipes), .rt (base + 4) .ro (tr u.Files), .rt (base + 5) .ro (tr u.Ready), .rt (base + 6) .ro (tr u.Out)] (fun y _ => y = .v (iv (openAt u id))) := by
 refine ob Tryz.func266 Tryz.ntmps266 ?_
 refine go [.R,.B,.N,.B,.N,.a,.Z,.R,.f,.l,.N] (k := ?_)
 refine qq Qt.makeFunc ?_
 refine cv Tryz.call334 rfl rfl (Con.simH (ixOpenC_con id Tryz.call335 (fun x => openAt1_con id x) u.Opens) ⟨⟨_, rfl, tsr⟩, ⟨_, rfl, (sim_one (fun c hc => match c, hc with | 0, _ => tsr | c + 1, hc => absurd hc (by simp only [En.n]; omega)))⟩, trivial⟩ rfl rfl rfl) ?_
 refine go [.N,.a,.Z] (k := ?_)
 refine rt1 4 ?_
 rfl
theorem pipeAt1_con (id : Int) (p : DPipe) : Con Tryz.prog 339 [.g [.v (iv p.Id), .h base []], .p (base + 1) [] 1 0 0] [.rt base .ro (tr p.Data), .rt (base + 1) .ro (tr [id])] (fun y _ => y = .v (.bool (p.Id == id))) := by
 refine ob Tryz.func339 Tryz.ntmps339 ?_
 refine go [.R,.B,.N,.a,.Z,.R,.f,.l,.N,.l,.b,.a,.Z] (k := ?_)
 refine rt1 3 ?_
 rfl
theorem ixPipeC_con {fid : FuncId} {p : DPipe → Bool} (u0 : Int) (hE : Ent Tryz.prog fid) (hp : ∀ x : DPipe, Con Tryz.prog fid [.g [.v (iv x.Id), .h base []], .p (base + 1) [] 1 0 0] [.rt base .ro (tr x.Data), .rt (base + 1) .ro (tr [u0])] (fun y _ => y = .v (.bool (p x)))) (l : List DPipe) : Con Tryz.prog 338 [.h base [], .f fid [.p (base + 1) [] 1 0 0]] [.rt base .ro (tr l), .rt (base + 1) .ro (tr [u0])] (fun y _ => y = .v (iv (ixOf p l))) := by
 refine ob Tryz.func338 Tryz.ntmps338 ?_
 refine AW.len base [] rfl (by simp [Okp]) rfl (fun hl => ?_)
 refine go [.R,.a,.Z,.R2,.m,.h,.N,.m,.Z] (k := ?_)
 refine AW.block ?_
 refine AW.loopW (fun i : IxInv p l => [.sl 8 (.v (iv i.k)), .sl 7 (.v (iv l.length)), .sl 0 (.h base []), .sl 1 (.f fid [.p (base + 1) [] 1 0 0]), .rt base .ro (tr l), .rt (base + 1) .ro (tr [u0])]) (fun i => l.length - i.k) ⟨0, Nat.zero_le _, rfl⟩ (ws) ?_
 intro i
 have hle := i.le
 refine go [.R,.b,.Z] (k := ?_)
 refine AW.seq ?_
 refine cd (fun c1 => ?_) fun c1 => ?_
 ·try simp only [cnd] at c1
  refine jd (AW.seq (AW.block (sr ?_)))
  refine go [.m,.N,.a,.Z,.R,.m,.m,.N,.m,.i,.G,.N] (k := ?_)
  refine cv hE rfl rfl (Con.simH (hp (l.getD i.k En.dflt)) ⟨⟨_, rfl, tsr⟩, ⟨_, rfl, (sim_one (fun c hc => match c, hc with | 0, _ => tsr | c + 1, hc => absurd hc (by simp only [En.n]; omega)))⟩, trivial⟩ rfl rfl rfl) ?_
  refine go [.Z] (k := ?_)
  refine cd (fun c2 => ?_) fun c2 => ?_
  ·try simp only [cnd] at c2
   refine go [.R,.m,.N,.a,.Z] (k := ?_)
   refine rt1 4 ?_
   rw [ixOf_hit i En.dflt (by omega) c2]
   rfl
  try simp only [cnd] at c2
  refine go [.J,.R1,.b,.m,.Z] (k := ?_)
  refine ⟨⟨i.k + 1, by omega, i.next En.dflt (by omega) c2⟩, ws, ?_⟩
  show l.length - (i.k + 1) < l.length - i.k
  omega
 try simp only [cnd] at c1
 refine AW.exit ?_
 dsimp only [thenQ, blockQ, reduceIte]
 refine go [.R,.a,.Z] (k := ?_)
 refine rt1 4 ?_
 rw [ixOf_none i (by omega)]
 rfl
theorem pipeAtI_con (u : DUnix) (id : Int) : Con Tryz.prog 270 [.g [.v (iv u.Next), .v (iv u.Tick), .h base [], .h (base + 1) [], .h (base + 2) [], .h (base + 3) [], .h (base + 4) [], .h (base + 5) [], .h (base + 6) []], .v (iv id)] [.rt base .ro (tr u.Progs), .rt (base + 1) .ro (tr u.Procs), .rt (base + 2) .ro (tr u.Opens), .rt (base + 3) .ro (tr u.Pipes), .rt (base + 4) .ro (tr u.Files), .rt (base + 5) .ro (tr u.Ready), .rt (base + 6) .ro (tr u.Out)] (fun y _ => y = .v (iv (pipeAt u id))) := by
 refine ob Tryz.func270 Tryz.ntmps270 ?_
 refine go [.R,.B,.N,.B,.N,.a,.Z,.R,.f,.l,.N] (k := ?_)
 refine qq Qt.makeFunc ?_
 refine cv Tryz.call338 rfl rfl (Con.simH (ixPipeC_con id Tryz.call339 (fun x => pipeAt1_con id x) u.Pipes) ⟨⟨_, rfl, tsr⟩, ⟨_, rfl, (sim_one (fun c hc => match c, hc with | 0, _ => tsr | c + 1, hc => absurd hc (by simp only [En.n]; omega)))⟩, trivial⟩ rfl rfl rfl) ?_
 refine go [.N,.a,.Z] (k := ?_)
 refine rt1 4 ?_
 rfl
theorem fileAt1_con (name : Int) (f : DFile) : Con Tryz.prog 337 [.g [.v (iv f.Name), .h base []], .p (base + 1) [] 1 0 0] [.rt base .ro (tr f.Data), .rt (base + 1) .ro (tr [name])] (fun y _ => y = .v (.bool (f.Name == name))) := by
 refine ob Tryz.func337 Tryz.ntmps337 ?_
 refine go [.R,.B,.N,.a,.Z,.R,.f,.l,.N,.l,.b,.a,.Z] (k := ?_)
 refine rt1 3 ?_
 rfl
theorem ixFileC_con {fid : FuncId} {p : DFile → Bool} (u0 : Int) (hE : Ent Tryz.prog fid) (hp : ∀ x : DFile, Con Tryz.prog fid [.g [.v (iv x.Name), .h base []], .p (base + 1) [] 1 0 0] [.rt base .ro (tr x.Data), .rt (base + 1) .ro (tr [u0])] (fun y _ => y = .v (.bool (p x)))) (l : List DFile) : Con Tryz.prog 336 [.h base [], .f fid [.p (base + 1) [] 1 0 0]] [.rt base .ro (tr l), .rt (base + 1) .ro (tr [u0])] (fun y _ => y = .v (iv (ixOf p l))) := by
 refine ob Tryz.func336 Tryz.ntmps336 ?_
 refine AW.len base [] rfl (by simp [Okp]) rfl (fun hl => ?_)
 refine go [.R,.a,.Z,.R2,.m,.h,.N,.m,.Z] (k := ?_)
 refine AW.block ?_
 refine AW.loopW (fun i : IxInv p l => [.sl 8 (.v (iv i.k)), .sl 7 (.v (iv l.length)), .sl 0 (.h base []), .sl 1 (.f fid [.p (base + 1) [] 1 0 0]), .rt base .ro (tr l), .rt (base + 1) .ro (tr [u0])]) (fun i => l.length - i.k) ⟨0, Nat.zero_le _, rfl⟩ (ws) ?_
 intro i
 have hle := i.le
 refine go [.R,.b,.Z] (k := ?_)
 refine AW.seq ?_
 refine cd (fun c1 => ?_) fun c1 => ?_
 ·try simp only [cnd] at c1
  refine jd (AW.seq (AW.block (sr ?_)))
  refine go [.m,.N,.a,.Z,.R,.m,.m,.N,.m,.i,.G,.N] (k := ?_)
  refine cv hE rfl rfl (Con.simH (hp (l.getD i.k En.dflt)) ⟨⟨_, rfl, tsr⟩, ⟨_, rfl, (sim_one (fun c hc => match c, hc with | 0, _ => tsr | c + 1, hc => absurd hc (by simp only [En.n]; omega)))⟩, trivial⟩ rfl rfl rfl) ?_
  refine go [.Z] (k := ?_)
  refine cd (fun c2 => ?_) fun c2 => ?_
  ·try simp only [cnd] at c2
   refine go [.R,.m,.N,.a,.Z] (k := ?_)
   refine rt1 4 ?_
   rw [ixOf_hit i En.dflt (by omega) c2]
   rfl
  try simp only [cnd] at c2
  refine go [.J,.R1,.b,.m,.Z] (k := ?_)
  refine ⟨⟨i.k + 1, by omega, i.next En.dflt (by omega) c2⟩, ws, ?_⟩
  show l.length - (i.k + 1) < l.length - i.k
  omega
 try simp only [cnd] at c1
 refine AW.exit ?_
 dsimp only [thenQ, blockQ, reduceIte]
 refine go [.R,.a,.Z] (k := ?_)
 refine rt1 4 ?_
 rw [ixOf_none i (by omega)]
 rfl
theorem fileAtI_con (u : DUnix) (name : Int) : Con Tryz.prog 269 [.g [.v (iv u.Next), .v (iv u.Tick), .h base [], .h (base + 1) [], .h (base + 2) [], .h (base + 3) [], .h (base + 4) [], .h (base + 5) [], .h (base + 6) []], .v (iv name)] [.rt base .ro (tr u.Progs), .rt (base + 1) .ro (tr u.Procs), .rt (base + 2) .ro (tr u.Opens), .rt (base + 3) .ro (tr u.Pipes), .rt (base + 4) .ro (tr u.Files), .rt (base + 5) .ro (tr u.Ready), .rt (base + 6) .ro (tr u.Out)] (fun y _ => y = .v (iv (fileAt u name))) := by
 refine ob Tryz.func269 Tryz.ntmps269 ?_
 refine go [.R,.B,.N,.B,.N,.a,.Z,.R,.f,.l,.N] (k := ?_)
 refine qq Qt.makeFunc ?_
 refine cv Tryz.call336 rfl rfl (Con.simH (ixFileC_con name Tryz.call337 (fun x => fileAt1_con name x) u.Files) ⟨⟨_, rfl, tsr⟩, ⟨_, rfl, (sim_one (fun c hc => match c, hc with | 0, _ => tsr | c + 1, hc => absurd hc (by simp only [En.n]; omega)))⟩, trivial⟩ rfl rfl rfl) ?_
 refine go [.N,.a,.Z] (k := ?_)
 refine rt1 4 ?_
 rfl
theorem isEnd_con (o : DOpen) (pipe : Int) : Con Tryz.prog 273 [.g [.v (iv o.Id), .v (iv o.Kind), .v (iv o.Target), .v (iv o.Off), .v (iv o.Refs)], .v (iv pipe)] [] (fun y _ => y = .v (.bool (isEnd pipe o))) := by
 refine ob Tryz.func273 Tryz.ntmps273 ?_
 refine go [.R,.B,.N,.a,.Z,.R,.f,.l,.N,.b,.m] (k := ?_)
 apply AWL.cut 3
 ·intro Kg1
  refine AWL.splitF 8 rfl (fun g1 => ?_) (fun g1 => ?_)
  ·refine go [.f,.N,.l,.b] (k := ?_)
   exact wjT 11 [9, 10, 11] (ifF g1 _ undef) Kg1
  ·refine go [.x,.x,.x] (k := ?_)
   exact wjF 11 [9, 10, 11] (ifT g1 undef _) Kg1
 refine qq (Qt.pickOr rfl rfl rfl) ?_
 refine go [.N,.m] (k := ?_)
 apply AWL.cut 4
 ·intro Kg2
  refine AWL.split 13 rfl (fun g2 => ?_) (fun g2 => ?_)
  ·refine go [.f,.l,.N,.m,.b] (k := ?_)
   exact wjT 17 [14, 15, 16, 17] (ifT g2 _ undef) Kg2
  ·refine go [.x,.x,.x,.x] (k := ?_)
   exact wjF 17 [14, 15, 16, 17] (ifF g2 undef _) Kg2
 refine qq (Qt.pickAnd rfl rfl rfl) ?_
 refine go [.N,.a,.Z] (k := ?_)
 refine rt1 4 ?_
 rfl
theorem untilOk_con (u : DUnix) (p : DProc) : Con Tryz.prog 264 [.g [.v (iv u.Next), .v (iv u.Tick), .h base [], .h (base + 1) [], .h (base + 2) [], .h (base + 3) [], .h (base + 4) [], .h (base + 5) [], .h (base + 6) []], .g [.v (iv p.Pid), .v (iv p.Parent), .v (iv p.State), .v (iv p.Prog), .v (iv p.Cpu.Pc), .h (base + 7) [], .h (base + 8) [], .h (base + 9) [], .v (iv p.Until), .v (iv p.Code)]] [.rt base .ro (tr u.Progs), .rt (base + 1) .ro (tr u.Procs), .rt (base + 2) .ro (tr u.Opens), .rt (base + 3) .ro (tr u.Pipes), .rt (base + 4) .ro (tr u.Files), .rt (base + 5) .ro (tr u.Ready), .rt (base + 6) .ro (tr u.Out), .rt (base + 7) .ro (tr p.Cpu.Regs), .rt (base + 8) .ro (tr p.Mem), .rt (base + 9) .ro (tr p.Fds)] (fun y _ => y = .v (.bool (untilOk u p))) := by
 refine ob Tryz.func264 Tryz.ntmps264 ?_
 refine go [.R,.B,.N,.B,.N,.a,.Z,.R2,.f,.l,.Z] (k := ?_)
 refine AW.block (sr ?_)
 refine go [.b,.N,.a,.Z] (k := ?_)
 refine cd (fun c1 => ?_) fun c1 => ?_
 ·try simp only [cnd] at c1
  refine go [.R,.f,.l,.N,.f,.l,.b,.N,.a,.Z] (k := ?_)
  refine rt1 4 ?_
  refine rb ?_
  simp only [untilOk]
  grind only
 try simp only [cnd] at c1
 refine go [.R2,.b,.a,.Z] (k := ?_)
 refine cd (fun c2 => ?_) fun c2 => ?_
 ·have k2 := c2
  try simp only [cnd] at c2
  refine go [.J] (k := ?_)
  refine AW.condT rfl k2 ?_
  refine go [.R,.f,.N,.l,.f,.l,.N] (k := ?_)
  refine cv Tryz.call318 rfl rfl (containsI_con _ _) ?_
  refine go [.N,.m] (k := ?_)
  apply AWL.cut 5
  ·intro Kg3
   refine AWL.split 22 rfl (fun g3 => ?_) (fun g3 => ?_)
   ·refine go [.G,.f,.N,.l] (k := ?_)
    refine AWL.step rfl g3 (Stp.callV rfl (by decide) Tryz.call266 rfl rfl (openAtI_con u _)) ?_
    refine go [.N,.b] (k := ?_)
    exact wjT 27 [23, 24, 25, 26, 27] (ifT g3 _ undef) Kg3
   ·refine go [.x,.x,.x,.x,.N,.x] (k := ?_)
    exact wjF 27 [23, 24, 25, 26, 27] (ifF g3 undef _) Kg3
  refine qq (Qt.pickAnd rfl rfl rfl) ?_
  refine go [.a,.Z] (k := ?_)
  refine rt1 4 ?_
  refine rb ?_
  simp only [untilOk]
  grind only
 have k2 := c2
 try simp only [cnd] at c2
 refine go [.R1,.b,.N,.a,.Z] (k := ?_)
 refine cd (fun c4 => ?_) fun c4 => ?_
 ·try simp only [cnd] at c4
  refine go [.R,.f,.l,.N,.f,.l] (k := ?_)
  refine cv Tryz.call318 rfl rfl (containsI_con _ _) ?_
  refine go [.N,.m] (k := ?_)
  apply AWL.cut 5
  ·intro Kg5
   refine AWL.split 22 rfl (fun g5 => ?_) (fun g5 => ?_)
   ·refine go [.G,.f,.N,.l] (k := ?_)
    refine AWL.step rfl g5 (Stp.callV rfl (by decide) Tryz.call266 rfl rfl (openAtI_con u _)) ?_
    refine go [.N,.b] (k := ?_)
    exact wjT 27 [23, 24, 25, 26, 27] (ifT g5 _ undef) Kg5
   ·refine go [.x,.x,.x,.x,.N,.x] (k := ?_)
    exact wjF 27 [23, 24, 25, 26, 27] (ifF g5 undef _) Kg5
  refine qq (Qt.pickAnd rfl rfl rfl) ?_
  refine go [.a,.Z] (k := ?_)
  refine rt1 4 ?_
  refine rb ?_
  simp only [untilOk]
  grind only
 try simp only [cnd] at c4
 refine go [.J,.R,.f,.N,.l,.b,.a,.Z] (k := ?_)
 refine rt1 4 ?_
 refine rb ?_
 simp only [untilOk]
 grind only
end Go.Proofs.YthjfgpkjooaahaaGreat.VM

