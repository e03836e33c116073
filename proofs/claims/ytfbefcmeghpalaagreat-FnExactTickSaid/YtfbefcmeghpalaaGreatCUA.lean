/- Contracts of functions of the program. No conditions beyond those that each states. -/
import Derived.Test.YtfbefcmeghpalaaGreatCU5
set_option linter.all false
set_option maxHeartbeats 8000000
set_option maxRecDepth 10000
namespace Go.Proofs.YtfbefcmeghpalaaGreat.VM
open Go Go.RowKit Go.Proofs
theorem indexI_con (l : List Int) (v : Int) : Con Tryz.prog 225 [.h base [], .v (iv v)] [.rt base .ro (tr l)] (fun y _ => y = .v (iv (ixOf (fun x => v == x) l))) := by
 refine ob Tryz.func225 Tryz.ntmps225 ?_
 refine AW.len (base) [] rfl (by simp [Okp]) rfl (fun hl => ?_)
 refine sr ?_
 refine qn ?_
 refine sr2 ?_
 refine qm ?_
 refine qh sl29 ?_
 refine nm ?_
 refine qm ?_
 refine nl ?_
 refine AW.block ?_
 refine AW.loopW (fun i : IxInv (fun x => v == x) l => [.sl 8 (.v (iv i.k)), .sl 0 (.h base []), .sl 1 (.v (iv v)), .sl 7 (.v (iv l.length)), .rt base .ro (tr l)]) (fun i => l.length - i.k) ⟨0, Nat.zero_le _, rfl⟩ (Weak.sim ⟨rfl, rfl, rfl, rfl, Rf rfl, trivial⟩ rfl rfl) ?_
 intro i
 have hle := i.le
 refine sr ?_
 refine qb ?_
 refine nl ?_
 refine AW.seq ?_
 refine cd (fun c1 => ?_) fun c1 => ?_
 ·try simp only [cnd] at c1
  refine jd (AW.seq (AW.block (sr ?_)))
  refine mn ?_
  refine qs' ?_
  refine qm ?_
  refine mn ?_
  refine qm ?_
  refine qq (ix sl29 sz3) ?_
  refine ql ag3 ?_
  refine nm ?_
  refine qb ?_
  refine nc (fun c2 => ?_) fun c2 => ?_
  ·try simp only [cnd] at c2
   refine sr ?_
   refine qm ?_
   refine qr 4 ?_
   rw [ixOf_hit i En.dflt (by omega) (by simpa using c2)]
   rfl
  try simp only [cnd] at c2
  refine jd (AW.region ?_)
  refine ba ?_
  refine nm ?_
  refine qm ?_
  refine nl ?_
  refine ⟨⟨i.k + 1, by omega, i.next En.dflt (by omega) (by simpa using c2)⟩, Weak.sim ⟨st1, rfl, rfl, rfl, Rf rfl, trivial⟩ rfl rfl, ?_⟩
  show l.length - (i.k + 1) < l.length - i.k
  omega
 try simp only [cnd] at c1
 refine AW.exit ?_
 dsimp only [thenQ, blockQ, reduceIte]
 refine sr ?_
 refine qr 4 ?_
 rw [ixOf_none i (by omega)]
 rfl
theorem containsI_con (l : List Int) (x : Int) : Con Tryz.prog 127 [.h base [], .v (iv x)] [.rt base .ro (tr l)] (fun y _ => y = .v (.bool (hasI l x))) := by
 refine ob Tryz.func127 Tryz.ntmps127 ?_
 refine sr ?_
 refine qs' ?_
 refine qm ?_
 refine mn ?_
 refine cv Tryz.call225 rfl rfl (indexI_con _ _) ?_
 refine nm ?_
 refine qb ?_
 refine qr 4 ?_
 rw [show hasI l x = decide (0 ≤ ixOf (fun y => x == y) l) from by rw [ixOf_ge, hasI]; congr 1; funext y; rw [Bool.eq_iff_iff]; simp only [beq_iff_eq]; exact ⟨Eq.symm, Eq.symm⟩]
 rfl
theorem procAt1_con (pid : Int) (p : DProc) : Con Tryz.prog 250 [.g [.v (iv p.Pid), .v (iv p.Parent), .v (iv p.State), .v (iv p.Prog), .v (iv p.Cpu.Pc), .h base [], .h (base + 1) [], .h (base + 2) [], .v (iv p.Until), .v (iv p.Code)], .p (base + 3) [] 1 0 0] [.rt base .ro (tr p.Cpu.Regs), .rt (base + 1) .ro (tr p.Mem), .rt (base + 2) .ro (tr p.Fds), .rt (base + 3) .ro (tr [pid])] (fun y _ => y = .v (.bool (p.Pid == pid))) := by
 refine ob Tryz.func250 Tryz.ntmps250 ?_
 refine sr ?_
 refine bx ?_
 refine nm ?_
 refine qs' ?_
 refine qq (fA fl72_0) ?_
 refine ql ag3 ?_
 refine nm ?_
 refine ql ag3 ?_
 refine qb ?_
 refine qr 3 ?_
 rfl
theorem ixProcC_con {fid : FuncId} {p : DProc → Bool} (u0 : Int) (hE : Ent Tryz.prog fid) (hp : ∀ x : DProc, Con Tryz.prog fid [.g [.v (iv x.Pid), .v (iv x.Parent), .v (iv x.State), .v (iv x.Prog), .v (iv x.Cpu.Pc), .h base [], .h (base + 1) [], .h (base + 2) [], .v (iv x.Until), .v (iv x.Code)], .p (base + 3) [] 1 0 0] [.rt base .ro (tr x.Cpu.Regs), .rt (base + 1) .ro (tr x.Mem), .rt (base + 2) .ro (tr x.Fds), .rt (base + 3) .ro (tr [u0])] (fun y _ => y = .v (.bool (p x)))) (l : List DProc) : Con Tryz.prog 249 [.h base [], .f fid [.p (base + 1) [] 1 0 0]] [.rt base .ro (tr l), .rt (base + 1) .ro (tr [u0])] (fun y _ => y = .v (iv (ixOf p l))) := by
 refine ob Tryz.func249 Tryz.ntmps249 ?_
 refine AW.len base [] rfl (by simp [Okp]) rfl (fun hl => ?_)
 refine sr ?_
 refine qn ?_
 refine sr2 ?_
 refine qm ?_
 refine qh sl25 ?_
 refine nm ?_
 refine qm ?_
 refine nl ?_
 refine AW.block ?_
 refine AW.loopW (fun i : IxInv p l => [.sl 8 (.v (iv i.k)), .sl 7 (.v (iv l.length)), .sl 0 (.h base []), .sl 1 (.f fid [.p (base + 1) [] 1 0 0]), .rt base .ro (tr l), .rt (base + 1) .ro (tr [u0])]) (fun i => l.length - i.k) ⟨0, Nat.zero_le _, rfl⟩ (Weak.sim ⟨rfl, rfl, rfl, rfl, Rf rfl, Rf rfl, trivial⟩ rfl rfl) ?_
 intro i
 have hle := i.le
 refine sr ?_
 refine qb ?_
 refine nl ?_
 refine AW.seq ?_
 refine cd (fun c1 => ?_) fun c1 => ?_
 ·try simp only [cnd] at c1
  refine jd (AW.seq (AW.block (sr ?_)))
  refine mn ?_
  refine qs' ?_
  refine qm ?_
  refine mn ?_
  refine qm ?_
  refine qq (ix sl25 sz72) ?_
  refine qG ag72 sz72 ?_
  refine nm ?_
  refine cv hE rfl rfl (Con.simH (hp (l.getD i.k En.dflt)) ⟨⟨_, rfl, T.sim_refl _⟩, ⟨_, rfl, T.sim_refl _⟩, ⟨_, rfl, T.sim_refl _⟩, ⟨_, rfl, (sim_one (fun c hc => match c, hc with | 0, _ => T.sim_refl _ | c + 1, hc => absurd hc (by simp only [En.n]; omega)))⟩, trivial⟩ rfl rfl rfl) ?_
  refine nc (fun c2 => ?_) fun c2 => ?_
  ·try simp only [cnd] at c2
   refine sr ?_
   refine mn ?_
   refine qr 4 ?_
   rw [ixOf_hit i En.dflt (by omega) c2]
   rfl
  try simp only [cnd] at c2
  refine jd (AW.region ?_)
  refine ba ?_
  refine qm ?_
  refine nl ?_
  refine ⟨⟨i.k + 1, by omega, i.next En.dflt (by omega) c2⟩, Weak.sim ⟨st1, rfl, rfl, rfl, Rf rfl, Rf rfl, trivial⟩ rfl rfl, ?_⟩
  show l.length - (i.k + 1) < l.length - i.k
  omega
 try simp only [cnd] at c1
 refine AW.exit ?_
 dsimp only [thenQ, blockQ, reduceIte]
 refine sr ?_
 refine qr 4 ?_
 rw [ixOf_none i (by omega)]
 rfl
theorem procAtI_con (u : DUnix) (pid : Int) : Con Tryz.prog 167 [.g [.v (iv u.Next), .v (iv u.Tick), .h base [], .h (base + 1) [], .h (base + 2) [], .h (base + 3) [], .h (base + 4) [], .h (base + 5) [], .h (base + 6) []], .v (iv pid)] [.rt base .ro (tr u.Progs), .rt (base + 1) .ro (tr u.Procs), .rt (base + 2) .ro (tr u.Opens), .rt (base + 3) .ro (tr u.Pipes), .rt (base + 4) .ro (tr u.Files), .rt (base + 5) .ro (tr u.Ready), .rt (base + 6) .ro (tr u.Out)] (fun y _ => y = .v (iv (procAt u pid))) := by
 refine ob Tryz.func167 Tryz.ntmps167 ?_
 refine sr ?_
 refine bx ?_
 refine nm ?_
 refine bx ?_
 refine nm ?_
 refine qs' ?_
 refine qq (fA fl31_3) ?_
 refine ql ag25 ?_
 refine nm ?_
 refine qq Qt.makeFunc ?_
 refine cv Tryz.call249 rfl rfl (Con.simH (ixProcC_con pid Tryz.call250 (fun x => procAt1_con pid x) u.Procs) ⟨⟨_, rfl, T.sim_refl _⟩, ⟨_, rfl, (sim_one (fun c hc => match c, hc with | 0, _ => T.sim_refl _ | c + 1, hc => absurd hc (by simp only [En.n]; omega)))⟩, trivial⟩ rfl rfl rfl) ?_
 refine nm ?_
 refine qr 4 ?_
 rfl
theorem openAt1_con (id : Int) (o : DOpen) : Con Tryz.prog 224 [.g [.v (iv o.Id), .v (iv o.Kind), .v (iv o.Target), .v (iv o.Off), .v (iv o.Refs)], .p base [] 1 0 0] [.rt base .ro (tr [id])] (fun y _ => y = .v (.bool (o.Id == id))) := by
 refine ob Tryz.func224 Tryz.ntmps224 ?_
 refine sr ?_
 refine bx ?_
 refine nm ?_
 refine qs' ?_
 refine qq (fA fl130_0) ?_
 refine ql ag3 ?_
 refine nm ?_
 refine ql ag3 ?_
 refine qb ?_
 refine qr 3 ?_
 rfl
theorem ixOpenC_con {fid : FuncId} {p : DOpen → Bool} (u0 : Int) (hE : Ent Tryz.prog fid) (hp : ∀ x : DOpen, Con Tryz.prog fid [.g [.v (iv x.Id), .v (iv x.Kind), .v (iv x.Target), .v (iv x.Off), .v (iv x.Refs)], .p base [] 1 0 0] [.rt base .ro (tr [u0])] (fun y _ => y = .v (.bool (p x)))) (l : List DOpen) : Con Tryz.prog 223 [.h base [], .f fid [.p (base + 1) [] 1 0 0]] [.rt base .ro (tr l), .rt (base + 1) .ro (tr [u0])] (fun y _ => y = .v (iv (ixOf p l))) := by
 refine ob Tryz.func223 Tryz.ntmps223 ?_
 refine AW.len base [] rfl (by simp [Okp]) rfl (fun hl => ?_)
 refine sr ?_
 refine qn ?_
 refine sr2 ?_
 refine qm ?_
 refine qh sl26 ?_
 refine nm ?_
 refine qm ?_
 refine nl ?_
 refine AW.block ?_
 refine AW.loopW (fun i : IxInv p l => [.sl 8 (.v (iv i.k)), .sl 7 (.v (iv l.length)), .sl 0 (.h base []), .sl 1 (.f fid [.p (base + 1) [] 1 0 0]), .rt base .ro (tr l), .rt (base + 1) .ro (tr [u0])]) (fun i => l.length - i.k) ⟨0, Nat.zero_le _, rfl⟩ (Weak.sim ⟨rfl, rfl, rfl, rfl, Rf rfl, Rf rfl, trivial⟩ rfl rfl) ?_
 intro i
 have hle := i.le
 refine sr ?_
 refine qb ?_
 refine nl ?_
 refine AW.seq ?_
 refine cd (fun c1 => ?_) fun c1 => ?_
 ·try simp only [cnd] at c1
  refine jd (AW.seq (AW.block (sr ?_)))
  refine mn ?_
  refine qs' ?_
  refine qm ?_
  refine mn ?_
  refine qm ?_
  refine qq (ix sl26 sz130) ?_
  refine qG ag130 sz130 ?_
  refine nm ?_
  refine cv hE rfl rfl (Con.simH (hp (l.getD i.k En.dflt)) ⟨⟨_, rfl, (sim_one (fun c hc => match c, hc with | 0, _ => T.sim_refl _ | c + 1, hc => absurd hc (by simp only [En.n]; omega)))⟩, trivial⟩ rfl rfl rfl) ?_
  refine nc (fun c2 => ?_) fun c2 => ?_
  ·try simp only [cnd] at c2
   refine sr ?_
   refine mn ?_
   refine qr 4 ?_
   rw [ixOf_hit i En.dflt (by omega) c2]
   rfl
  try simp only [cnd] at c2
  refine jd (AW.region ?_)
  refine ba ?_
  refine qm ?_
  refine nl ?_
  refine ⟨⟨i.k + 1, by omega, i.next En.dflt (by omega) c2⟩, Weak.sim ⟨st1, rfl, rfl, rfl, Rf rfl, Rf rfl, trivial⟩ rfl rfl, ?_⟩
  show l.length - (i.k + 1) < l.length - i.k
  omega
 try simp only [cnd] at c1
 refine AW.exit ?_
 dsimp only [thenQ, blockQ, reduceIte]
 refine sr ?_
 refine qr 4 ?_
 rw [ixOf_none i (by omega)]
 rfl
theorem openAtI_con (u : DUnix) (id : Int) : Con Tryz.prog 126 [.g [.v (iv u.Next), .v (iv u.Tick), .h base [], .h (base + 1) [], .h (base + 2) [], .h (base + 3) [], .h (base + 4) [], .h (base + 5) [], .h (base + 6) []], .v (iv id)] [.rt base .ro (tr u.Progs), .rt (base + 1) .ro (tr u.Procs), .rt (base + 2) .ro (tr u.Opens), .rt (base + 3) .ro (tr u.Pipes), .rt (base + 4) .ro (tr u.Files), .rt (base + 5) .ro (tr u.Ready), .rt (base + 6) .ro (tr u.Out)] (fun y _ => y = .v (iv (openAt u id))) := by
 refine ob Tryz.func126 Tryz.ntmps126 ?_
 refine sr ?_
 refine bx ?_
 refine nm ?_
 refine bx ?_
 refine nm ?_
 refine qs' ?_
 refine qq (fA fl31_4) ?_
 refine ql ag26 ?_
 refine nm ?_
 refine qq Qt.makeFunc ?_
 refine cv Tryz.call223 rfl rfl (Con.simH (ixOpenC_con id Tryz.call224 (fun x => openAt1_con id x) u.Opens) ⟨⟨_, rfl, T.sim_refl _⟩, ⟨_, rfl, (sim_one (fun c hc => match c, hc with | 0, _ => T.sim_refl _ | c + 1, hc => absurd hc (by simp only [En.n]; omega)))⟩, trivial⟩ rfl rfl rfl) ?_
 refine nm ?_
 refine qr 4 ?_
 rfl
theorem pipeAt1_con (id : Int) (p : DPipe) : Con Tryz.prog 227 [.g [.v (iv p.Id), .h base []], .p (base + 1) [] 1 0 0] [.rt base .ro (tr p.Data), .rt (base + 1) .ro (tr [id])] (fun y _ => y = .v (.bool (p.Id == id))) := by
 refine ob Tryz.func227 Tryz.ntmps227 ?_
 refine sr ?_
 refine bx ?_
 refine nm ?_
 refine qs' ?_
 refine qq (fA fl153_0) ?_
 refine ql ag3 ?_
 refine nm ?_
 refine ql ag3 ?_
 refine qb ?_
 refine qr 3 ?_
 rfl
theorem ixPipeC_con {fid : FuncId} {p : DPipe → Bool} (u0 : Int) (hE : Ent Tryz.prog fid) (hp : ∀ x : DPipe, Con Tryz.prog fid [.g [.v (iv x.Id), .h base []], .p (base + 1) [] 1 0 0] [.rt base .ro (tr x.Data), .rt (base + 1) .ro (tr [u0])] (fun y _ => y = .v (.bool (p x)))) (l : List DPipe) : Con Tryz.prog 226 [.h base [], .f fid [.p (base + 1) [] 1 0 0]] [.rt base .ro (tr l), .rt (base + 1) .ro (tr [u0])] (fun y _ => y = .v (iv (ixOf p l))) := by
 refine ob Tryz.func226 Tryz.ntmps226 ?_
 refine AW.len base [] rfl (by simp [Okp]) rfl (fun hl => ?_)
 refine sr ?_
 refine qn ?_
 refine sr2 ?_
 refine qm ?_
 refine qh sl27 ?_
 refine nm ?_
 refine qm ?_
 refine nl ?_
 refine AW.block ?_
 refine AW.loopW (fun i : IxInv p l => [.sl 8 (.v (iv i.k)), .sl 7 (.v (iv l.length)), .sl 0 (.h base []), .sl 1 (.f fid [.p (base + 1) [] 1 0 0]), .rt base .ro (tr l), .rt (base + 1) .ro (tr [u0])]) (fun i => l.length - i.k) ⟨0, Nat.zero_le _, rfl⟩ (Weak.sim ⟨rfl, rfl, rfl, rfl, Rf rfl, Rf rfl, trivial⟩ rfl rfl) ?_
 intro i
 have hle := i.le
 refine sr ?_
 refine qb ?_
 refine nl ?_
 refine AW.seq ?_
 refine cd (fun c1 => ?_) fun c1 => ?_
 ·try simp only [cnd] at c1
  refine jd (AW.seq (AW.block (sr ?_)))
  refine mn ?_
  refine qs' ?_
  refine qm ?_
  refine mn ?_
  refine qm ?_
  refine qq (ix sl27 sz153) ?_
  refine qG ag153 sz153 ?_
  refine nm ?_
  refine cv hE rfl rfl (Con.simH (hp (l.getD i.k En.dflt)) ⟨⟨_, rfl, T.sim_refl _⟩, ⟨_, rfl, (sim_one (fun c hc => match c, hc with | 0, _ => T.sim_refl _ | c + 1, hc => absurd hc (by simp only [En.n]; omega)))⟩, trivial⟩ rfl rfl rfl) ?_
  refine nc (fun c2 => ?_) fun c2 => ?_
  ·try simp only [cnd] at c2
   refine sr ?_
   refine mn ?_
   refine qr 4 ?_
   rw [ixOf_hit i En.dflt (by omega) c2]
   rfl
  try simp only [cnd] at c2
  refine jd (AW.region ?_)
  refine ba ?_
  refine qm ?_
  refine nl ?_
  refine ⟨⟨i.k + 1, by omega, i.next En.dflt (by omega) c2⟩, Weak.sim ⟨st1, rfl, rfl, rfl, Rf rfl, Rf rfl, trivial⟩ rfl rfl, ?_⟩
  show l.length - (i.k + 1) < l.length - i.k
  omega
 try simp only [cnd] at c1
 refine AW.exit ?_
 dsimp only [thenQ, blockQ, reduceIte]
 refine sr ?_
 refine qr 4 ?_
 rw [ixOf_none i (by omega)]
 rfl
theorem pipeAtI_con (u : DUnix) (id : Int) : Con Tryz.prog 128 [.g [.v (iv u.Next), .v (iv u.Tick), .h base [], .h (base + 1) [], .h (base + 2) [], .h (base + 3) [], .h (base + 4) [], .h (base + 5) [], .h (base + 6) []], .v (iv id)] [.rt base .ro (tr u.Progs), .rt (base + 1) .ro (tr u.Procs), .rt (base + 2) .ro (tr u.Opens), .rt (base + 3) .ro (tr u.Pipes), .rt (base + 4) .ro (tr u.Files), .rt (base + 5) .ro (tr u.Ready), .rt (base + 6) .ro (tr u.Out)] (fun y _ => y = .v (iv (pipeAt u id))) := by
 refine ob Tryz.func128 Tryz.ntmps128 ?_
 refine sr ?_
 refine bx ?_
 refine nm ?_
 refine bx ?_
 refine nm ?_
 refine qs' ?_
 refine qq (fA fl31_5) ?_
 refine ql ag27 ?_
 refine nm ?_
 refine qq Qt.makeFunc ?_
 refine cv Tryz.call226 rfl rfl (Con.simH (ixPipeC_con id Tryz.call227 (fun x => pipeAt1_con id x) u.Pipes) ⟨⟨_, rfl, T.sim_refl _⟩, ⟨_, rfl, (sim_one (fun c hc => match c, hc with | 0, _ => T.sim_refl _ | c + 1, hc => absurd hc (by simp only [En.n]; omega)))⟩, trivial⟩ rfl rfl rfl) ?_
 refine nm ?_
 refine qr 4 ?_
 rfl
theorem fileAt1_con (name : Int) (f : DFile) : Con Tryz.prog 264 [.g [.v (iv f.Name), .h base []], .p (base + 1) [] 1 0 0] [.rt base .ro (tr f.Data), .rt (base + 1) .ro (tr [name])] (fun y _ => y = .v (.bool (f.Name == name))) := by
 refine ob Tryz.func264 Tryz.ntmps264 ?_
 refine sr ?_
 refine bx ?_
 refine nm ?_
 refine qs' ?_
 refine qq (fA fl155_0) ?_
 refine ql ag3 ?_
 refine nm ?_
 refine ql ag3 ?_
 refine qb ?_
 refine qr 3 ?_
 rfl
theorem ixFileC_con {fid : FuncId} {p : DFile → Bool} (u0 : Int) (hE : Ent Tryz.prog fid) (hp : ∀ x : DFile, Con Tryz.prog fid [.g [.v (iv x.Name), .h base []], .p (base + 1) [] 1 0 0] [.rt base .ro (tr x.Data), .rt (base + 1) .ro (tr [u0])] (fun y _ => y = .v (.bool (p x)))) (l : List DFile) : Con Tryz.prog 244 [.h base [], .f fid [.p (base + 1) [] 1 0 0]] [.rt base .ro (tr l), .rt (base + 1) .ro (tr [u0])] (fun y _ => y = .v (iv (ixOf p l))) := by
 refine ob Tryz.func244 Tryz.ntmps244 ?_
 refine AW.len base [] rfl (by simp [Okp]) rfl (fun hl => ?_)
 refine sr ?_
 refine qn ?_
 refine sr2 ?_
 refine qm ?_
 refine qh sl28 ?_
 refine nm ?_
 refine qm ?_
 refine nl ?_
 refine AW.block ?_
 refine AW.loopW (fun i : IxInv p l => [.sl 8 (.v (iv i.k)), .sl 7 (.v (iv l.length)), .sl 0 (.h base []), .sl 1 (.f fid [.p (base + 1) [] 1 0 0]), .rt base .ro (tr l), .rt (base + 1) .ro (tr [u0])]) (fun i => l.length - i.k) ⟨0, Nat.zero_le _, rfl⟩ (Weak.sim ⟨rfl, rfl, rfl, rfl, Rf rfl, Rf rfl, trivial⟩ rfl rfl) ?_
 intro i
 have hle := i.le
 refine sr ?_
 refine qb ?_
 refine nl ?_
 refine AW.seq ?_
 refine cd (fun c1 => ?_) fun c1 => ?_
 ·try simp only [cnd] at c1
  refine jd (AW.seq (AW.block (sr ?_)))
  refine mn ?_
  refine qs' ?_
  refine qm ?_
  refine mn ?_
  refine qm ?_
  refine qq (ix sl28 sz155) ?_
  refine qG ag155 sz155 ?_
  refine nm ?_
  refine cv hE rfl rfl (Con.simH (hp (l.getD i.k En.dflt)) ⟨⟨_, rfl, T.sim_refl _⟩, ⟨_, rfl, (sim_one (fun c hc => match c, hc with | 0, _ => T.sim_refl _ | c + 1, hc => absurd hc (by simp only [En.n]; omega)))⟩, trivial⟩ rfl rfl rfl) ?_
  refine nc (fun c2 => ?_) fun c2 => ?_
  ·try simp only [cnd] at c2
   refine sr ?_
   refine mn ?_
   refine qr 4 ?_
   rw [ixOf_hit i En.dflt (by omega) c2]
   rfl
  try simp only [cnd] at c2
  refine jd (AW.region ?_)
  refine ba ?_
  refine qm ?_
  refine nl ?_
  refine ⟨⟨i.k + 1, by omega, i.next En.dflt (by omega) c2⟩, Weak.sim ⟨st1, rfl, rfl, rfl, Rf rfl, Rf rfl, trivial⟩ rfl rfl, ?_⟩
  show l.length - (i.k + 1) < l.length - i.k
  omega
 try simp only [cnd] at c1
 refine AW.exit ?_
 dsimp only [thenQ, blockQ, reduceIte]
 refine sr ?_
 refine qr 4 ?_
 rw [ixOf_none i (by omega)]
 rfl
theorem fileAtI_con (u : DUnix) (name : Int) : Con Tryz.prog 197 [.g [.v (iv u.Next), .v (iv u.Tick), .h base [], .h (base + 1) [], .h (base + 2) [], .h (base + 3) [], .h (base + 4) [], .h (base + 5) [], .h (base + 6) []], .v (iv name)] [.rt base .ro (tr u.Progs), .rt (base + 1) .ro (tr u.Procs), .rt (base + 2) .ro (tr u.Opens), .rt (base + 3) .ro (tr u.Pipes), .rt (base + 4) .ro (tr u.Files), .rt (base + 5) .ro (tr u.Ready), .rt (base + 6) .ro (tr u.Out)] (fun y _ => y = .v (iv (fileAt u name))) := by
 refine ob Tryz.func197 Tryz.ntmps197 ?_
 refine sr ?_
 refine bx ?_
 refine nm ?_
 refine bx ?_
 refine nm ?_
 refine qs' ?_
 refine qq (fA fl31_6) ?_
 refine ql ag28 ?_
 refine nm ?_
 refine qq Qt.makeFunc ?_
 refine cv Tryz.call244 rfl rfl (Con.simH (ixFileC_con name Tryz.call264 (fun x => fileAt1_con name x) u.Files) ⟨⟨_, rfl, T.sim_refl _⟩, ⟨_, rfl, (sim_one (fun c hc => match c, hc with | 0, _ => T.sim_refl _ | c + 1, hc => absurd hc (by simp only [En.n]; omega)))⟩, trivial⟩ rfl rfl rfl) ?_
 refine nm ?_
 refine qr 4 ?_
 rfl
theorem isEnd_con (o : DOpen) (pipe : Int) : Con Tryz.prog 199 [.g [.v (iv o.Id), .v (iv o.Kind), .v (iv o.Target), .v (iv o.Off), .v (iv o.Refs)], .v (iv pipe)] [] (fun y _ => y = .v (.bool (isEnd pipe o))) := by
 refine ob Tryz.func199 Tryz.ntmps199 ?_
 refine sr ?_
 refine bx ?_
 refine nm ?_
 refine qs' ?_
 refine qq (fA fl130_1) ?_
 refine ql ag3 ?_
 refine nm ?_
 refine qb ?_
 refine qm ?_
 apply AWL.cut 3
 ·intro Kg1
  refine AWL.splitF 8 rfl (fun g1 => ?_) (fun g1 => ?_)
  ·refine qg (nF g1) (fA fl130_1) ?_
   refine nm ?_
   refine qg (nF g1) (Qt.load1 rfl rfl rfl ag3) ?_
   refine qg (nF g1) (Qt.binOp rfl rfl rfl) ?_
   exact wj 11 [9, 10, 11] (ifF g1 _ undef) (by simp only [go_sem, reduceIte, Nat.reduceEqDiff, Nat.reduceBEq, reduceCtorEq]; rfl) Kg1
  ·refine og (nT g1) ?_
   refine og (nT g1) ?_
   refine og (nT g1) ?_
   exact wj 11 [9, 10, 11] (ifT g1 undef _) (by simp only [go_sem, reduceIte, Nat.reduceEqDiff, Nat.reduceBEq, reduceCtorEq]) Kg1
 refine qq (Qt.pickOr rfl rfl rfl) ?_
 refine nm ?_
 refine qm ?_
 apply AWL.cut 4
 ·intro Kg2
  refine AWL.split 13 rfl (fun g2 => ?_) (fun g2 => ?_)
  ·refine qg g2 (fA fl130_2) ?_
   refine qg g2 (Qt.load1 rfl rfl rfl ag3) ?_
   refine nm ?_
   refine qg g2 Qt.move ?_
   refine qg g2 (Qt.binOp rfl rfl rfl) ?_
   exact wj 17 [14, 15, 16, 17] (ifT g2 _ undef) (by simp only [go_sem, reduceIte, Nat.reduceEqDiff, Nat.reduceBEq, reduceCtorEq]; rfl) Kg2
  ·refine og g2 ?_
   refine og g2 ?_
   refine og g2 ?_
   refine og g2 ?_
   exact wj 17 [14, 15, 16, 17] (ifF g2 undef _) (by simp only [go_sem, reduceIte, Nat.reduceEqDiff, Nat.reduceBEq, reduceCtorEq]) Kg2
 refine qq (Qt.pickAnd rfl rfl rfl) ?_
 refine nm ?_
 refine qr 4 ?_
 rfl
theorem untilOk_con (u : DUnix) (p : DProc) : Con Tryz.prog 193 [.g [.v (iv u.Next), .v (iv u.Tick), .h base [], .h (base + 1) [], .h (base + 2) [], .h (base + 3) [], .h (base + 4) [], .h (base + 5) [], .h (base + 6) []], .g [.v (iv p.Pid), .v (iv p.Parent), .v (iv p.State), .v (iv p.Prog), .v (iv p.Cpu.Pc), .h (base + 7) [], .h (base + 8) [], .h (base + 9) [], .v (iv p.Until), .v (iv p.Code)]] [.rt base .ro (tr u.Progs), .rt (base + 1) .ro (tr u.Procs), .rt (base + 2) .ro (tr u.Opens), .rt (base + 3) .ro (tr u.Pipes), .rt (base + 4) .ro (tr u.Files), .rt (base + 5) .ro (tr u.Ready), .rt (base + 6) .ro (tr u.Out), .rt (base + 7) .ro (tr p.Cpu.Regs), .rt (base + 8) .ro (tr p.Mem), .rt (base + 9) .ro (tr p.Fds)] (fun y _ => y = .v (.bool (untilOk u p))) := by
 refine ob Tryz.func193 Tryz.ntmps193 ?_
 refine sr ?_
 refine bx ?_
 refine nm ?_
 refine bx ?_
 refine nm ?_
 refine qn ?_
 refine sr2 ?_
 refine qq (fA fl72_2) ?_
 refine ql ag3 ?_
 refine nl ?_
 refine AW.block (sr ?_)
 refine qb ?_
 refine nm ?_
 refine qn ?_
 refine cd (fun c1 => ?_) fun c1 => ?_
 ·try simp only [cnd] at c1
  refine sr ?_
  refine qq (fA fl72_7) ?_
  refine ql ag3 ?_
  refine nm ?_
  refine qq (fA fl31_1) ?_
  refine ql ag3 ?_
  refine qb ?_
  refine nm ?_
  refine qr 4 ?_
  refine rb ?_
  simp only [untilOk]
  grind only
 try simp only [cnd] at c1
 refine sr2 ?_
 refine qb ?_
 refine qn ?_
 refine cd (fun c2 => ?_) fun c2 => ?_
 ·have k2 := c2
  try simp only [cnd] at c2
  refine jd ?_
  refine AW.condT rfl k2 ?_
  refine sr ?_
  refine qq (fA fl72_6) ?_
  refine nm ?_
  refine ql ag29 ?_
  refine qq (fA fl72_7) ?_
  refine ql ag3 ?_
  refine nm ?_
  refine cv Tryz.call127 rfl rfl (containsI_con _ _) ?_
  refine nm ?_
  refine qm ?_
  apply AWL.cut 5
  ·intro Kg3
   refine AWL.split 22 rfl (fun g3 => ?_) (fun g3 => ?_)
   ·refine qg g3 (Qt.loadG rfl rfl rfl ag31 sz31 (by decide)) ?_
    refine qg g3 (fA fl72_7) ?_
    refine nm ?_
    refine qg g3 (Qt.load1 rfl rfl rfl ag3) ?_
    refine AWL.step rfl g3 (Stp.callV rfl (by decide) Tryz.call126 rfl rfl (openAtI_con u _)) ?_
    refine nm ?_
    refine qg g3 (Qt.binOp rfl rfl rfl) ?_
    exact wj 27 [23, 24, 25, 26, 27] (ifT g3 _ undef) (by simp only [go_sem, reduceIte, Nat.reduceEqDiff, Nat.reduceBEq, reduceCtorEq]; rfl) Kg3
   ·refine og g3 ?_
    refine og g3 ?_
    refine og g3 ?_
    refine og g3 ?_
    refine nm ?_
    refine og g3 ?_
    exact wj 27 [23, 24, 25, 26, 27] (ifF g3 undef _) (by simp only [go_sem, reduceIte, Nat.reduceEqDiff, Nat.reduceBEq, reduceCtorEq]) Kg3
  refine qq (Qt.pickAnd rfl rfl rfl) ?_
  refine qr 4 ?_
  refine rb ?_
  simp only [untilOk]
  grind only
 have k2 := c2
 try simp only [cnd] at c2
 refine AW.region ?_
 refine qb ?_
 refine nm ?_
 refine qn ?_
 refine cd (fun c4 => ?_) fun c4 => ?_
 ·try simp only [cnd] at c4
  refine sr ?_
  refine qq (fA fl72_6) ?_
  refine ql ag29 ?_
  refine nm ?_
  refine qq (fA fl72_7) ?_
  refine ql ag3 ?_
  refine cv Tryz.call127 rfl rfl (containsI_con _ _) ?_
  refine nm ?_
  refine qm ?_
  apply AWL.cut 5
  ·intro Kg5
   refine AWL.split 22 rfl (fun g5 => ?_) (fun g5 => ?_)
   ·refine qg g5 (Qt.loadG rfl rfl rfl ag31 sz31 (by decide)) ?_
    refine qg g5 (fA fl72_7) ?_
    refine nm ?_
    refine qg g5 (Qt.load1 rfl rfl rfl ag3) ?_
    refine AWL.step rfl g5 (Stp.callV rfl (by decide) Tryz.call126 rfl rfl (openAtI_con u _)) ?_
    refine nm ?_
    refine qg g5 (Qt.binOp rfl rfl rfl) ?_
    exact wj 27 [23, 24, 25, 26, 27] (ifT g5 _ undef) (by simp only [go_sem, reduceIte, Nat.reduceEqDiff, Nat.reduceBEq, reduceCtorEq]; rfl) Kg5
   ·refine og g5 ?_
    refine og g5 ?_
    refine og g5 ?_
    refine og g5 ?_
    refine nm ?_
    refine og g5 ?_
    exact wj 27 [23, 24, 25, 26, 27] (ifF g5 undef _) (by simp only [go_sem, reduceIte, Nat.reduceEqDiff, Nat.reduceBEq, reduceCtorEq]) Kg5
  refine qq (Qt.pickAnd rfl rfl rfl) ?_
  refine qr 4 ?_
  refine rb ?_
  simp only [untilOk]
  grind only
 try simp only [cnd] at c4
 refine jd (sr ?_)
 refine qq (fA fl72_7) ?_
 refine nm ?_
 refine ql ag3 ?_
 refine qb ?_
 refine qr 4 ?_
 refine rb ?_
 simp only [untilOk]
 grind only
end Go.Proofs.YtfbefcmeghpalaaGreat.VM
