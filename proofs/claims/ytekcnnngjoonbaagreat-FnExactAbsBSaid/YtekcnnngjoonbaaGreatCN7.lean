/- Contracts. No conditions. -/
import Derived.Test.YtekcnnngjoonbaaGreatCN6
set_option linter.all false
set_option maxHeartbeats 8000000
set_option maxRecDepth 10000
namespace Go.Proofs.YtekcnnngjoonbaaGreat.VM
open Go Go.RowKit Go.Proofs
theorem sc_sim {n : Nat} {f : Nat → Nat → T} {l : List T} (h : ∀ c, c < n → (f 0 c).sim (l.getD c .j)) : (T.s n 1 f).sim (T.s n 1 fun _ c => l.getD c .j) := by
 refine ⟨_, rfl, fun k c hk hc => ?_⟩
 obtain rfl : k = 0 := by omega
 exact h c hc
theorem rev_get {l : List Int} {k : Nat} (h : k < l.length) : l.reverse.getD k En.dflt = l.getD (l.length - 1 - k) En.dflt := by
 rw [List.getD_eq_getElem?_getD, List.getElem?_reverse h, List.getD_eq_getElem?_getD]
/-- a process, a pipe as the small Unix has them -/
def procN (a : DNodes) (p : DBProc) : DProc := { Pid := p.Pid, Parent := p.Parent, State := p.State, Prog := p.Prog, Cpu := p.Cpu, Mem := memK a.Ram p.Pages.reverse p.Pages.length, Fds := p.Fds, Until := p.Until, Code := p.Code }
def pipeN (p : DBPipe) : DPipe := { Id := p.Id, Data := p.Chunks.flatten }
theorem l16Words_con (p : DBPipe) (hw : Mk.wt p.Chunks ≤ 1048576) : Con Tryz.prog 100 [.g [.v (iv p.Id), .h base []]] [.rt base .ro (tr p.Chunks)] (Ret (.h 0 []) [(0, .row, tr p.Chunks.flatten)]) := by
 refine ob Tryz.func100 Tryz.ntmps100 ?_
 refine AW.len (base) [] rfl (by simp [Okp]) rfl (fun hl => ?_)
 have hfl := flat_len p.Chunks
 refine sr ?_
 refine bx ?_
 refine nm ?_
 refine qs' ?_
 refine sp sS ?_
 refine nm ?_
 refine qn ?_
 refine sr2 ?_
 refine qn ?_
 refine AW.block ?_
 refine AW.renR 5 19 rfl (by decide) (by decide) ?_
 refine AW.loopW (fun i : KInv p.Chunks.length => [.sl 4 (.v (iv i.k)), .sl 3 (.h 19 []), .rt 1 .box (T.s 2 1 fun k c => ([(T.v (iv p.Id), none), (T.j, none)].getD (k * 2 + c) (T.j, none)).fst), .al 1 1 (.h base []), .rt base .ro (tr p.Chunks), .sl 1 (.p 1 [] 2 0 0), .rt 19 .row (tr (p.Chunks.take i.k).flatten)]) (fun i => p.Chunks.length - i.k) ⟨0, Nat.zero_le _⟩ (Weak.sim ⟨rfl, rfl, Rf rfl, ⟨rfl, rfl⟩, Rf rfl, rfl, ⟨_, rfl, sim_nil⟩, trivial⟩ rfl rfl) ?_
 intro i
 have hle := i.le
 refine sr2 ?_
 refine mn ?_
 refine qq (fA fl83_1) ?_
 refine ql ag25 ?_
 refine qh sl25 ?_
 refine nm ?_
 refine qb ?_
 refine nc (fun c1 => ?_) fun c1 => ?_
 ·try simp only [cnd] at c1
  have hf1 := flat_le p.Chunks (i.k + 1)
  rw [flat_next (show i.k < p.Chunks.length by omega), List.length_append] at hf1
  refine jd (AW.seq (AW.block (AW.region ?_)))
  refine qm ?_
  refine qq (fA fl83_1) ?_
  refine nm ?_
  refine ql ag25 ?_
  refine qm ?_
  refine qq (ix sl25 sz24) ?_
  refine nm ?_
  refine ql ag24 ?_
  refine sp (by first | exact Stp.appendC rfl (by decide) (by decide) rfl rfl (by omega) | exact Stp.appendM rfl (by decide) (by decide) rfl rfl rfl (by omega)) ?_
  refine nm ?_
  refine qn ?_
  refine AW.region ?_
  refine qm ?_
  refine ba ?_
  refine nm ?_
  refine qn ?_
  refine ⟨⟨i.k + 1, by omega⟩, Weak.sim ⟨st1, rfl, Rf rfl, ⟨rfl, rfl⟩, Rf rfl, rfl, ⟨_, rfl, (by rw [flat_next (by omega)]; exact app_ints rfl (fun _ _ => rfl))⟩, trivial⟩ rfl rfl, ?_⟩
  show p.Chunks.length - (i.k + 1) < p.Chunks.length - i.k
  omega
 try simp only [cnd] at c1
 refine AW.exit ?_
 dsimp only [thenQ, blockQ, reduceIte]
 refine sr ?_
 refine qm ?_
 refine qr 2 ?_
 rw [show p.Chunks.flatten = (p.Chunks.take i.k).flatten from by rw [List.take_of_length_le (by omega)]]
 refine ⟨fun _ => 19, rfl, nodup_of rfl, ?_⟩
 intro r hr
 cases List.mem_singleton.1 hr
 exact ⟨by simp, rootL_mem rfl⟩
theorem l16Proc_con (a : DNodes) (p : DBProc) (hr : a.Ram.length = 64) (hf : ∀ k, k < p.Pages.length → 0 ≤ p.Pages.getD k En.dflt ∧ p.Pages.getD k En.dflt ≤ 15) (hp : p.Pages.length ≤ 1048576) (h1 : p.Cpu.Regs.length ≤ 1048576) (h2 : p.Fds.length ≤ 1048576) : Con Tryz.prog 97 [.g [.v (iv a.Next), .v (iv a.Tick), .h base [], .h (base + 1) [], .h (base + 2) [], .h (base + 3) [], .h (base + 4) [], .h (base + 5) [], .h (base + 6) [], .h (base + 7) [], .h (base + 8) []], .g [.v (iv p.Pid), .v (iv p.Parent), .v (iv p.State), .v (iv p.Prog), .v (iv p.Cpu.Pc), .h (base + 9) [], .h (base + 10) [], .h (base + 11) [], .v (iv p.Until), .v (iv p.Code)]] [.rt base .ro (tr a.Progs), .rt (base + 1) .ro (tr a.Procs), .rt (base + 2) .ro (tr a.Ram), .rt (base + 3) .ro (tr a.Heap.Free), .rt (base + 4) .ro (tr a.Opens), .rt (base + 5) .ro (tr a.Pipes), .rt (base + 6) .ro (tr a.Files), .rt (base + 7) .ro (tr a.Ready), .rt (base + 8) .ro (tr a.Out), .rt (base + 9) .ro (tr p.Cpu.Regs), .rt (base + 10) .ro (tr p.Pages), .rt (base + 11) .ro (tr p.Fds)] (Ret (.g [.v (iv (procN a p).Pid), .v (iv (procN a p).Parent), .v (iv (procN a p).State), .v (iv (procN a p).Prog), .v (iv (procN a p).Cpu.Pc), .h 0 [], .h 1 [], .h 2 [], .v (iv (procN a p).Until), .v (iv (procN a p).Code)]) [(0, .row, tr (procN a p).Cpu.Regs), (1, .row, tr (procN a p).Mem), (2, .row, tr (procN a p).Fds)]) := by
 refine ob Tryz.func97 Tryz.ntmps97 ?_
 refine sr ?_
 refine bx ?_
 refine nm ?_
 refine bx ?_
 refine nm ?_
 refine sp sA ?_
 refine nl ?_
 refine AW.seq ?_
 refine AW.draw [0, 1, 2, 3, 4, 5, 6, 7, 8, 9, 10, 11, 12, 13, 14, 16, 17, 18, 20, 22, 23, 25] rfl (by decide +kernel) ?_
 refine tk 0 rfl (fA fl77_0) ?_
 refine na ?_
 refine tk 1 rfl (Qt.load1 rfl rfl rfl ag3) ?_
 refine tk 2 rfl (fA fl77_1) ?_
 refine tk 3 rfl (Qt.load1 rfl rfl rfl ag3) ?_
 refine na ?_
 refine tk 4 rfl (fA fl77_2) ?_
 refine tk 5 rfl (Qt.load1 rfl rfl rfl ag3) ?_
 refine tk 6 rfl (fA fl77_3) ?_
 refine na ?_
 refine tk 7 rfl (Qt.load1 rfl rfl rfl ag3) ?_
 refine tk 8 rfl (fA fl77_7) ?_
 refine tk 9 rfl (Qt.load1 rfl rfl rfl ag3) ?_
 refine na ?_
 refine tk 10 rfl (fA fl77_8) ?_
 refine tk 11 rfl (Qt.load1 rfl rfl rfl ag3) ?_
 refine tk 12 rfl (fA fl77_4) ?_
 refine na ?_
 refine tk 13 rfl (fA fl75_0) ?_
 refine tk 14 rfl (Qt.load1 rfl rfl rfl ag3) ?_
 refine tk 16 rfl (fA fl77_4) ?_
 refine na ?_
 refine tk 17 rfl (fA fl75_1) ?_
 refine tk 18 rfl (Qt.load1 rfl rfl rfl ag24) ?_
 refine tk 22 rfl (fA fl77_6) ?_
 refine na ?_
 refine tk 23 rfl (Qt.load1 rfl rfl rfl ag24) ?_
 apply AWA.cutS #[true, true, true, true, true, true, true, true, true, true, true, true, true, true, true, true, true, true, true, true, true, true, true, true, true, true, true, false] [0, 1, 2, 3, 4, 5, 6, 7, 8, 9, 10, 11, 12, 13, 14, 20, 25]
 ·intro K1_7
  apply AWA.cutS #[true, true, true, true, true, true, true, true, true, true, true, true, true, true, true, true, true, true, true, true, true, true, true, true, false, false, true, false] [0, 1, 2, 3, 4, 5, 6, 7, 8, 9, 10, 11, 12, 13, 14, 20, 22, 23]
  ·intro K1_6
   apply AWA.cutS #[true, true, true, true, true, true, true, true, true, true, true, true, true, true, true, true, true, true, true, true, true, false, true, true, false, false, true, false] [0, 1, 2, 3, 4, 5, 6, 7, 8, 9, 10, 11, 12, 13, 14, 20, 22, 23]
   ·intro K1_5
    apply AWA.cutS #[true, true, true, true, true, true, true, true, true, true, true, true, true, true, true, true, true, true, true, true, true, true, true, true, false, false, false, false] [0, 1, 2, 3, 4, 5, 6, 7, 8, 9, 10, 11, 12, 13, 14, 20, 22, 23]
    ·intro K1_4
     apply AWA.cutS #[true, true, true, true, true, true, true, true, true, true, true, true, true, true, true, true, true, true, true, false, false, true, true, true, false, false, true, false] [0, 1, 2, 3, 4, 5, 6, 7, 8, 9, 10, 11, 12, 13, 14, 16, 17, 18, 22, 23]
     ·intro K1_3
      apply AWA.cutS #[true, true, true, true, true, true, true, true, true, true, true, true, true, true, true, false, true, true, true, false, false, true, true, true, false, false, true, false] [0, 1, 2, 3, 4, 5, 6, 7, 8, 9, 10, 11, 12, 13, 14, 16, 17, 18, 22, 23]
      ·intro K1_2
       apply AWA.cutS #[true, true, true, true, true, true, true, true, true, true, true, true, true, true, true, true, true, true, true, false, false, false, true, true, false, false, true, false] [0, 1, 2, 3, 4, 5, 6, 7, 8, 9, 10, 11, 12, 13, 14, 16, 17, 18, 22, 23]
       ·intro K1_1
        apply AWA.cutS #[true, true, true, true, true, true, true, true, true, true, true, true, true, true, true, true, true, true, true, false, false, true, true, true, false, false, false, false] [0, 1, 2, 3, 4, 5, 6, 7, 8, 9, 10, 11, 12, 13, 14, 16, 17, 18, 22, 23]
        ·intro K1_0
         refine AWA.anyL [15, 21, 26] (by decide +kernel) rfl ⟨?_, ?_, ?_, trivial⟩
         ·refine AWA.arm 15 [0, 1, 2, 3, 4, 5, 6, 7, 8, 9, 10, 11, 12, 13, 14, 16, 17, 18, 22, 23] [] rfl rfl rfl (by decide +kernel) (by decide +kernel) (by decide +kernel) sS ?_
          refine na ?_
          refine ae rfl (fA fl77_0) ?_
          refine ae rfl (Qt.load1 rfl rfl rfl ag3) ?_
          refine ae rfl (fA fl77_1) ?_
          refine na ?_
          refine ae rfl (Qt.load1 rfl rfl rfl ag3) ?_
          refine ae rfl (fA fl77_2) ?_
          refine ae rfl (Qt.load1 rfl rfl rfl ag3) ?_
          refine na ?_
          refine ae rfl (fA fl77_3) ?_
          refine ae rfl (Qt.load1 rfl rfl rfl ag3) ?_
          refine ae rfl (fA fl77_7) ?_
          refine na ?_
          refine ae rfl (Qt.load1 rfl rfl rfl ag3) ?_
          refine ae rfl (fA fl77_8) ?_
          refine ae rfl (Qt.load1 rfl rfl rfl ag3) ?_
          refine na ?_
          refine ae rfl (fA fl77_4) ?_
          refine ae rfl (fA fl75_0) ?_
          refine ae rfl (Qt.load1 rfl rfl rfl ag3) ?_
          refine na ?_
          refine ae rfl (fA fl77_4) ?_
          refine ae rfl (fA fl75_1) ?_
          refine ae rfl (Qt.load1 rfl rfl rfl ag24) ?_
          refine na ?_
          refine ae rfl (fA fl77_6) ?_
          refine ae rfl (Qt.load1 rfl rfl rfl ag24) ?_
          refine na ?_
          refine AWA.anyL [19, 21, 26] (by decide +kernel) rfl ⟨?_, ?_, ?_, trivial⟩
          ·refine AWA.arm 19 [0, 1, 2, 3, 4, 5, 6, 7, 8, 9, 10, 11, 12, 13, 14, 22, 23] [18, 15, 17, 16] rfl rfl rfl (by decide +kernel) (by decide +kernel) (by decide +kernel) (by first | exact Stp.appendC rfl (by decide) (by decide) rfl rfl (by omega) | exact Stp.appendM rfl (by decide) (by decide) rfl rfl rfl (by omega)) ?_
           refine na ?_
           refine ae rfl (fA fl77_0) ?_
           refine ae rfl (Qt.load1 rfl rfl rfl ag3) ?_
           refine ae rfl (fA fl77_1) ?_
           refine na ?_
           refine ae rfl (Qt.load1 rfl rfl rfl ag3) ?_
           refine ae rfl (fA fl77_2) ?_
           refine ae rfl (Qt.load1 rfl rfl rfl ag3) ?_
           refine na ?_
           refine ae rfl (fA fl77_3) ?_
           refine ae rfl (Qt.load1 rfl rfl rfl ag3) ?_
           refine ae rfl (fA fl77_7) ?_
           refine na ?_
           refine ae rfl (Qt.load1 rfl rfl rfl ag3) ?_
           refine ae rfl (fA fl77_8) ?_
           refine ae rfl (Qt.load1 rfl rfl rfl ag3) ?_
           refine na ?_
           refine ae rfl (fA fl77_4) ?_
           refine ae rfl (fA fl75_0) ?_
           refine ae rfl (Qt.load1 rfl rfl rfl ag3) ?_
           refine na ?_
           refine ae rfl (fA fl77_6) ?_
           refine ae rfl (Qt.load1 rfl rfl rfl ag24) ?_
           refine na ?_
           refine AWA.rep 26 (tr p.Cpu.Regs) rfl (app_nil (α := Int)) ?_
           refine na ?_
           refine AWA.take 20 rfl rfl rfl (by decide +kernel) (.on rfl rfl (Qt.build rfl)) ?_
           refine AWA.anyL [21, 26] (by decide +kernel) rfl ⟨?_, ?_, trivial⟩
           ·refine AWA.arm 21 [0, 1, 2, 3, 4, 5, 6, 7, 8, 9, 10, 11, 12, 13, 14, 20, 22, 23] [] rfl rfl rfl (by decide +kernel) (by decide +kernel) (by decide +kernel) sS ?_
            refine na ?_
            refine ae rfl (fA fl77_0) ?_
            refine ae rfl (Qt.load1 rfl rfl rfl ag3) ?_
            refine ae rfl (fA fl77_1) ?_
            refine na ?_
            refine ae rfl (Qt.load1 rfl rfl rfl ag3) ?_
            refine ae rfl (fA fl77_2) ?_
            refine ae rfl (Qt.load1 rfl rfl rfl ag3) ?_
            refine na ?_
            refine ae rfl (fA fl77_3) ?_
            refine ae rfl (Qt.load1 rfl rfl rfl ag3) ?_
            refine ae rfl (fA fl77_7) ?_
            refine na ?_
            refine ae rfl (Qt.load1 rfl rfl rfl ag3) ?_
            refine ae rfl (fA fl77_8) ?_
            refine ae rfl (Qt.load1 rfl rfl rfl ag3) ?_
            refine na ?_
            refine ae rfl (fA fl77_4) ?_
            refine ae rfl (fA fl75_0) ?_
            refine ae rfl (Qt.load1 rfl rfl rfl ag3) ?_
            refine na ?_
            refine ae rfl (Qt.build rfl) ?_
            refine ae rfl (fA fl77_6) ?_
            refine ae rfl (Qt.load1 rfl rfl rfl ag24) ?_
            refine na ?_
            exact auR K1_4
           ·refine AWA.arm 26 [0, 1, 2, 3, 4, 5, 6, 7, 8, 9, 10, 11, 12, 13, 14, 20, 22, 23] [] rfl rfl rfl (by decide +kernel) (by decide +kernel) (by decide +kernel) sA ?_
            refine na ?_
            refine ae rfl (fA fl77_0) ?_
            refine ae rfl (Qt.load1 rfl rfl rfl ag3) ?_
            refine ae rfl (fA fl77_1) ?_
            refine na ?_
            refine ae rfl (Qt.load1 rfl rfl rfl ag3) ?_
            refine ae rfl (fA fl77_2) ?_
            refine ae rfl (Qt.load1 rfl rfl rfl ag3) ?_
            refine na ?_
            refine ae rfl (fA fl77_3) ?_
            refine ae rfl (Qt.load1 rfl rfl rfl ag3) ?_
            refine ae rfl (fA fl77_7) ?_
            refine na ?_
            refine ae rfl (Qt.load1 rfl rfl rfl ag3) ?_
            refine ae rfl (fA fl77_8) ?_
            refine ae rfl (Qt.load1 rfl rfl rfl ag3) ?_
            refine na ?_
            refine ae rfl (fA fl77_4) ?_
            refine ae rfl (fA fl75_0) ?_
            refine ae rfl (Qt.load1 rfl rfl rfl ag3) ?_
            refine na ?_
            refine ae rfl (Qt.build rfl) ?_
            refine ae rfl (fA fl77_6) ?_
            refine ae rfl (Qt.load1 rfl rfl rfl ag24) ?_
            refine na ?_
            exact auR K1_5
          ·refine AWA.arm 21 [0, 1, 2, 3, 4, 5, 6, 7, 8, 9, 10, 11, 12, 13, 14, 16, 17, 18, 22, 23] [] rfl rfl rfl (by decide +kernel) (by decide +kernel) (by decide +kernel) sS ?_
           refine na ?_
           refine ae rfl (fA fl77_0) ?_
           refine ae rfl (Qt.load1 rfl rfl rfl ag3) ?_
           refine ae rfl (fA fl77_1) ?_
           refine na ?_
           refine ae rfl (Qt.load1 rfl rfl rfl ag3) ?_
           refine ae rfl (fA fl77_2) ?_
           refine ae rfl (Qt.load1 rfl rfl rfl ag3) ?_
           refine na ?_
           refine ae rfl (fA fl77_3) ?_
           refine ae rfl (Qt.load1 rfl rfl rfl ag3) ?_
           refine ae rfl (fA fl77_7) ?_
           refine na ?_
           refine ae rfl (Qt.load1 rfl rfl rfl ag3) ?_
           refine ae rfl (fA fl77_8) ?_
           refine ae rfl (Qt.load1 rfl rfl rfl ag3) ?_
           refine na ?_
           refine ae rfl (fA fl77_4) ?_
           refine ae rfl (fA fl75_0) ?_
           refine ae rfl (Qt.load1 rfl rfl rfl ag3) ?_
           refine na ?_
           refine ae rfl (fA fl77_4) ?_
           refine ae rfl (fA fl75_1) ?_
           refine ae rfl (Qt.load1 rfl rfl rfl ag24) ?_
           refine na ?_
           refine ae rfl (fA fl77_6) ?_
           refine ae rfl (Qt.load1 rfl rfl rfl ag24) ?_
           refine na ?_
           exact auR K1_0
          ·refine AWA.arm 26 [0, 1, 2, 3, 4, 5, 6, 7, 8, 9, 10, 11, 12, 13, 14, 16, 17, 18, 22, 23] [] rfl rfl rfl (by decide +kernel) (by decide +kernel) (by decide +kernel) sA ?_
           refine na ?_
           refine ae rfl (fA fl77_0) ?_
           refine ae rfl (Qt.load1 rfl rfl rfl ag3) ?_
           refine ae rfl (fA fl77_1) ?_
           refine na ?_
           refine ae rfl (Qt.load1 rfl rfl rfl ag3) ?_
           refine ae rfl (fA fl77_2) ?_
           refine ae rfl (Qt.load1 rfl rfl rfl ag3) ?_
           refine na ?_
           refine ae rfl (fA fl77_3) ?_
           refine ae rfl (Qt.load1 rfl rfl rfl ag3) ?_
           refine ae rfl (fA fl77_7) ?_
           refine na ?_
           refine ae rfl (Qt.load1 rfl rfl rfl ag3) ?_
           refine ae rfl (fA fl77_8) ?_
           refine ae rfl (Qt.load1 rfl rfl rfl ag3) ?_
           refine na ?_
           refine ae rfl (fA fl77_4) ?_
           refine ae rfl (fA fl75_0) ?_
           refine ae rfl (Qt.load1 rfl rfl rfl ag3) ?_
           refine na ?_
           refine ae rfl (fA fl77_4) ?_
           refine ae rfl (fA fl75_1) ?_
           refine ae rfl (Qt.load1 rfl rfl rfl ag24) ?_
           refine na ?_
           refine ae rfl (fA fl77_6) ?_
           refine ae rfl (Qt.load1 rfl rfl rfl ag24) ?_
           refine na ?_
           exact auR K1_1
         ·refine AWA.arm 21 [0, 1, 2, 3, 4, 5, 6, 7, 8, 9, 10, 11, 12, 13, 14, 16, 17, 18, 22, 23] [] rfl rfl rfl (by decide +kernel) (by decide +kernel) (by decide +kernel) sS ?_
          refine na ?_
          refine ae rfl (fA fl77_0) ?_
          refine ae rfl (Qt.load1 rfl rfl rfl ag3) ?_
          refine ae rfl (fA fl77_1) ?_
          refine na ?_
          refine ae rfl (Qt.load1 rfl rfl rfl ag3) ?_
          refine ae rfl (fA fl77_2) ?_
          refine ae rfl (Qt.load1 rfl rfl rfl ag3) ?_
          refine na ?_
          refine ae rfl (fA fl77_3) ?_
          refine ae rfl (Qt.load1 rfl rfl rfl ag3) ?_
          refine ae rfl (fA fl77_7) ?_
          refine na ?_
          refine ae rfl (Qt.load1 rfl rfl rfl ag3) ?_
          refine ae rfl (fA fl77_8) ?_
          refine ae rfl (Qt.load1 rfl rfl rfl ag3) ?_
          refine na ?_
          refine ae rfl (fA fl77_4) ?_
          refine ae rfl (fA fl75_0) ?_
          refine ae rfl (Qt.load1 rfl rfl rfl ag3) ?_
          refine na ?_
          refine ae rfl (fA fl77_4) ?_
          refine ae rfl (fA fl75_1) ?_
          refine ae rfl (Qt.load1 rfl rfl rfl ag24) ?_
          refine na ?_
          refine ae rfl (fA fl77_6) ?_
          refine ae rfl (Qt.load1 rfl rfl rfl ag24) ?_
          refine na ?_
          refine AWA.anyL [15, 26] (by decide +kernel) rfl ⟨?_, ?_, trivial⟩
          ·refine AWA.arm 15 [0, 1, 2, 3, 4, 5, 6, 7, 8, 9, 10, 11, 12, 13, 14, 16, 17, 18, 22, 23] [] rfl rfl rfl (by decide +kernel) (by decide +kernel) (by decide +kernel) sS ?_
           refine na ?_
           refine ae rfl (fA fl77_0) ?_
           refine ae rfl (Qt.load1 rfl rfl rfl ag3) ?_
           refine ae rfl (fA fl77_1) ?_
           refine na ?_
           refine ae rfl (Qt.load1 rfl rfl rfl ag3) ?_
           refine ae rfl (fA fl77_2) ?_
           refine ae rfl (Qt.load1 rfl rfl rfl ag3) ?_
           refine na ?_
           refine ae rfl (fA fl77_3) ?_
           refine ae rfl (Qt.load1 rfl rfl rfl ag3) ?_
           refine ae rfl (fA fl77_7) ?_
           refine na ?_
           refine ae rfl (Qt.load1 rfl rfl rfl ag3) ?_
           refine ae rfl (fA fl77_8) ?_
           refine ae rfl (Qt.load1 rfl rfl rfl ag3) ?_
           refine na ?_
           refine ae rfl (fA fl77_4) ?_
           refine ae rfl (fA fl75_0) ?_
           refine ae rfl (Qt.load1 rfl rfl rfl ag3) ?_
           refine na ?_
           refine ae rfl (fA fl77_4) ?_
           refine ae rfl (fA fl75_1) ?_
           refine ae rfl (Qt.load1 rfl rfl rfl ag24) ?_
           refine na ?_
           refine ae rfl (fA fl77_6) ?_
           refine ae rfl (Qt.load1 rfl rfl rfl ag24) ?_
           refine na ?_
           exact auP K1_0
          ·refine AWA.arm 26 [0, 1, 2, 3, 4, 5, 6, 7, 8, 9, 10, 11, 12, 13, 14, 16, 17, 18, 22, 23] [] rfl rfl rfl (by decide +kernel) (by decide +kernel) (by decide +kernel) sA ?_
           refine na ?_
           refine ae rfl (fA fl77_0) ?_
           refine ae rfl (Qt.load1 rfl rfl rfl ag3) ?_
           refine ae rfl (fA fl77_1) ?_
           refine na ?_
           refine ae rfl (Qt.load1 rfl rfl rfl ag3) ?_
           refine ae rfl (fA fl77_2) ?_
           refine ae rfl (Qt.load1 rfl rfl rfl ag3) ?_
           refine na ?_
           refine ae rfl (fA fl77_3) ?_
           refine ae rfl (Qt.load1 rfl rfl rfl ag3) ?_
           refine ae rfl (fA fl77_7) ?_
           refine na ?_
           refine ae rfl (Qt.load1 rfl rfl rfl ag3) ?_
           refine ae rfl (fA fl77_8) ?_
           refine ae rfl (Qt.load1 rfl rfl rfl ag3) ?_
           refine na ?_
           refine ae rfl (fA fl77_4) ?_
           refine ae rfl (fA fl75_0) ?_
           refine ae rfl (Qt.load1 rfl rfl rfl ag3) ?_
           refine na ?_
           refine ae rfl (fA fl77_4) ?_
           refine ae rfl (fA fl75_1) ?_
           refine ae rfl (Qt.load1 rfl rfl rfl ag24) ?_
           refine na ?_
           refine ae rfl (fA fl77_6) ?_
           refine ae rfl (Qt.load1 rfl rfl rfl ag24) ?_
           refine na ?_
           exact auR K1_2
         ·refine AWA.arm 26 [0, 1, 2, 3, 4, 5, 6, 7, 8, 9, 10, 11, 12, 13, 14, 16, 17, 18, 22, 23] [] rfl rfl rfl (by decide +kernel) (by decide +kernel) (by decide +kernel) sA ?_
          refine na ?_
          refine ae rfl (fA fl77_0) ?_
          refine ae rfl (Qt.load1 rfl rfl rfl ag3) ?_
          refine ae rfl (fA fl77_1) ?_
          refine na ?_
          refine ae rfl (Qt.load1 rfl rfl rfl ag3) ?_
          refine ae rfl (fA fl77_2) ?_
          refine ae rfl (Qt.load1 rfl rfl rfl ag3) ?_
          refine na ?_
          refine ae rfl (fA fl77_3) ?_
          refine ae rfl (Qt.load1 rfl rfl rfl ag3) ?_
          refine ae rfl (fA fl77_7) ?_
          refine na ?_
          refine ae rfl (Qt.load1 rfl rfl rfl ag3) ?_
          refine ae rfl (fA fl77_8) ?_
          refine ae rfl (Qt.load1 rfl rfl rfl ag3) ?_
          refine na ?_
          refine ae rfl (fA fl77_4) ?_
          refine ae rfl (fA fl75_0) ?_
          refine ae rfl (Qt.load1 rfl rfl rfl ag3) ?_
          refine na ?_
          refine ae rfl (fA fl77_4) ?_
          refine ae rfl (fA fl75_1) ?_
          refine ae rfl (Qt.load1 rfl rfl rfl ag24) ?_
          refine na ?_
          refine ae rfl (fA fl77_6) ?_
          refine ae rfl (Qt.load1 rfl rfl rfl ag24) ?_
          refine na ?_
          refine AWA.anyL [15, 21] (by decide +kernel) rfl ⟨?_, ?_, trivial⟩
          ·refine AWA.arm 15 [0, 1, 2, 3, 4, 5, 6, 7, 8, 9, 10, 11, 12, 13, 14, 16, 17, 18, 22, 23] [] rfl rfl rfl (by decide +kernel) (by decide +kernel) (by decide +kernel) sS ?_
           refine na ?_
           refine ae rfl (fA fl77_0) ?_
           refine ae rfl (Qt.load1 rfl rfl rfl ag3) ?_
           refine ae rfl (fA fl77_1) ?_
           refine na ?_
           refine ae rfl (Qt.load1 rfl rfl rfl ag3) ?_
           refine ae rfl (fA fl77_2) ?_
           refine ae rfl (Qt.load1 rfl rfl rfl ag3) ?_
           refine na ?_
           refine ae rfl (fA fl77_3) ?_
           refine ae rfl (Qt.load1 rfl rfl rfl ag3) ?_
           refine ae rfl (fA fl77_7) ?_
           refine na ?_
           refine ae rfl (Qt.load1 rfl rfl rfl ag3) ?_
           refine ae rfl (fA fl77_8) ?_
           refine ae rfl (Qt.load1 rfl rfl rfl ag3) ?_
           refine na ?_
           refine ae rfl (fA fl77_4) ?_
           refine ae rfl (fA fl75_0) ?_
           refine ae rfl (Qt.load1 rfl rfl rfl ag3) ?_
           refine na ?_
           refine ae rfl (fA fl77_4) ?_
           refine ae rfl (fA fl75_1) ?_
           refine ae rfl (Qt.load1 rfl rfl rfl ag24) ?_
           refine na ?_
           refine ae rfl (fA fl77_6) ?_
           refine ae rfl (Qt.load1 rfl rfl rfl ag24) ?_
           refine na ?_
           exact auP K1_1
          ·refine AWA.arm 21 [0, 1, 2, 3, 4, 5, 6, 7, 8, 9, 10, 11, 12, 13, 14, 16, 17, 18, 22, 23] [] rfl rfl rfl (by decide +kernel) (by decide +kernel) (by decide +kernel) sS ?_
           refine na ?_
           refine ae rfl (fA fl77_0) ?_
           refine ae rfl (Qt.load1 rfl rfl rfl ag3) ?_
           refine ae rfl (fA fl77_1) ?_
           refine na ?_
           refine ae rfl (Qt.load1 rfl rfl rfl ag3) ?_
           refine ae rfl (fA fl77_2) ?_
           refine ae rfl (Qt.load1 rfl rfl rfl ag3) ?_
           refine na ?_
           refine ae rfl (fA fl77_3) ?_
           refine ae rfl (Qt.load1 rfl rfl rfl ag3) ?_
           refine ae rfl (fA fl77_7) ?_
           refine na ?_
           refine ae rfl (Qt.load1 rfl rfl rfl ag3) ?_
           refine ae rfl (fA fl77_8) ?_
           refine ae rfl (Qt.load1 rfl rfl rfl ag3) ?_
           refine na ?_
           refine ae rfl (fA fl77_4) ?_
           refine ae rfl (fA fl75_0) ?_
           refine ae rfl (Qt.load1 rfl rfl rfl ag3) ?_
           refine na ?_
           refine ae rfl (fA fl77_4) ?_
           refine ae rfl (fA fl75_1) ?_
           refine ae rfl (Qt.load1 rfl rfl rfl ag24) ?_
           refine na ?_
           refine ae rfl (fA fl77_6) ?_
           refine ae rfl (Qt.load1 rfl rfl rfl ag24) ?_
           refine na ?_
           exact auP K1_2
        ·refine AWA.anyL [19, 26] (by decide +kernel) rfl ⟨?_, ?_, trivial⟩
         ·refine AWA.arm 19 [0, 1, 2, 3, 4, 5, 6, 7, 8, 9, 10, 11, 12, 13, 14, 22, 23] [18, 15, 17, 16] rfl rfl rfl (by decide +kernel) (by decide +kernel) (by decide +kernel) (by first | exact Stp.appendC rfl (by decide) (by decide) rfl rfl (by omega) | exact Stp.appendM rfl (by decide) (by decide) rfl rfl rfl (by omega)) ?_
          refine na ?_
          refine ae rfl (fA fl77_0) ?_
          refine ae rfl (Qt.load1 rfl rfl rfl ag3) ?_
          refine ae rfl (fA fl77_1) ?_
          refine na ?_
          refine ae rfl (Qt.load1 rfl rfl rfl ag3) ?_
          refine ae rfl (fA fl77_2) ?_
          refine ae rfl (Qt.load1 rfl rfl rfl ag3) ?_
          refine na ?_
          refine ae rfl (fA fl77_3) ?_
          refine ae rfl (Qt.load1 rfl rfl rfl ag3) ?_
          refine ae rfl (fA fl77_7) ?_
          refine na ?_
          refine ae rfl (Qt.load1 rfl rfl rfl ag3) ?_
          refine ae rfl (fA fl77_8) ?_
          refine ae rfl (Qt.load1 rfl rfl rfl ag3) ?_
          refine na ?_
          refine ae rfl (fA fl77_4) ?_
          refine ae rfl (fA fl75_0) ?_
          refine ae rfl (Qt.load1 rfl rfl rfl ag3) ?_
          refine na ?_
          refine ae rfl (fA fl77_6) ?_
          refine ae rfl (Qt.load1 rfl rfl rfl ag24) ?_
          refine na ?_
          refine AWA.rep 26 (tr p.Cpu.Regs) rfl (app_nil (α := Int)) ?_
          refine na ?_
          refine AWA.take 20 rfl rfl rfl (by decide +kernel) (.on rfl rfl (Qt.build rfl)) ?_
          refine na ?_
          exact auP K1_4
         ·refine AWA.arm 26 [0, 1, 2, 3, 4, 5, 6, 7, 8, 9, 10, 11, 12, 13, 14, 16, 17, 18, 22, 23] [] rfl rfl rfl (by decide +kernel) (by decide +kernel) (by decide +kernel) sA ?_
          refine na ?_
          refine ae rfl (fA fl77_0) ?_
          refine ae rfl (Qt.load1 rfl rfl rfl ag3) ?_
          refine ae rfl (fA fl77_1) ?_
          refine na ?_
          refine ae rfl (Qt.load1 rfl rfl rfl ag3) ?_
          refine ae rfl (fA fl77_2) ?_
          refine ae rfl (Qt.load1 rfl rfl rfl ag3) ?_
          refine na ?_
          refine ae rfl (fA fl77_3) ?_
          refine ae rfl (Qt.load1 rfl rfl rfl ag3) ?_
          refine ae rfl (fA fl77_7) ?_
          refine na ?_
          refine ae rfl (Qt.load1 rfl rfl rfl ag3) ?_
          refine ae rfl (fA fl77_8) ?_
          refine ae rfl (Qt.load1 rfl rfl rfl ag3) ?_
          refine na ?_
          refine ae rfl (fA fl77_4) ?_
          refine ae rfl (fA fl75_0) ?_
          refine ae rfl (Qt.load1 rfl rfl rfl ag3) ?_
          refine na ?_
          refine ae rfl (fA fl77_4) ?_
          refine ae rfl (fA fl75_1) ?_
          refine ae rfl (Qt.load1 rfl rfl rfl ag24) ?_
          refine na ?_
          refine ae rfl (fA fl77_6) ?_
          refine ae rfl (Qt.load1 rfl rfl rfl ag24) ?_
          refine na ?_
          exact auR K1_3
       ·refine AWA.anyL [19, 21] (by decide +kernel) rfl ⟨?_, ?_, trivial⟩
        ·refine AWA.arm 19 [0, 1, 2, 3, 4, 5, 6, 7, 8, 9, 10, 11, 12, 13, 14, 22, 23] [18, 15, 17, 16] rfl rfl rfl (by decide +kernel) (by decide +kernel) (by decide +kernel) (by first | exact Stp.appendC rfl (by decide) (by decide) rfl rfl (by omega) | exact Stp.appendM rfl (by decide) (by decide) rfl rfl rfl (by omega)) ?_
         refine na ?_
         refine ae rfl (fA fl77_0) ?_
         refine ae rfl (Qt.load1 rfl rfl rfl ag3) ?_
         refine ae rfl (fA fl77_1) ?_
         refine na ?_
         refine ae rfl (Qt.load1 rfl rfl rfl ag3) ?_
         refine ae rfl (fA fl77_2) ?_
         refine ae rfl (Qt.load1 rfl rfl rfl ag3) ?_
         refine na ?_
         refine ae rfl (fA fl77_3) ?_
         refine ae rfl (Qt.load1 rfl rfl rfl ag3) ?_
         refine ae rfl (fA fl77_7) ?_
         refine na ?_
         refine ae rfl (Qt.load1 rfl rfl rfl ag3) ?_
         refine ae rfl (fA fl77_8) ?_
         refine ae rfl (Qt.load1 rfl rfl rfl ag3) ?_
         refine na ?_
         refine ae rfl (fA fl77_4) ?_
         refine ae rfl (fA fl75_0) ?_
         refine ae rfl (Qt.load1 rfl rfl rfl ag3) ?_
         refine na ?_
         refine ae rfl (fA fl77_6) ?_
         refine ae rfl (Qt.load1 rfl rfl rfl ag24) ?_
         refine na ?_
         refine AWA.rep 26 (tr p.Cpu.Regs) rfl (app_nil (α := Int)) ?_
         refine na ?_
         refine AWA.take 20 rfl rfl rfl (by decide +kernel) (.on rfl rfl (Qt.build rfl)) ?_
         refine na ?_
         exact auP K1_5
        ·refine AWA.arm 21 [0, 1, 2, 3, 4, 5, 6, 7, 8, 9, 10, 11, 12, 13, 14, 16, 17, 18, 22, 23] [] rfl rfl rfl (by decide +kernel) (by decide +kernel) (by decide +kernel) sS ?_
         refine na ?_
         refine ae rfl (fA fl77_0) ?_
         refine ae rfl (Qt.load1 rfl rfl rfl ag3) ?_
         refine ae rfl (fA fl77_1) ?_
         refine na ?_
         refine ae rfl (Qt.load1 rfl rfl rfl ag3) ?_
         refine ae rfl (fA fl77_2) ?_
         refine ae rfl (Qt.load1 rfl rfl rfl ag3) ?_
         refine na ?_
         refine ae rfl (fA fl77_3) ?_
         refine ae rfl (Qt.load1 rfl rfl rfl ag3) ?_
         refine ae rfl (fA fl77_7) ?_
         refine na ?_
         refine ae rfl (Qt.load1 rfl rfl rfl ag3) ?_
         refine ae rfl (fA fl77_8) ?_
         refine ae rfl (Qt.load1 rfl rfl rfl ag3) ?_
         refine na ?_
         refine ae rfl (fA fl77_4) ?_
         refine ae rfl (fA fl75_0) ?_
         refine ae rfl (Qt.load1 rfl rfl rfl ag3) ?_
         refine na ?_
         refine ae rfl (fA fl77_4) ?_
         refine ae rfl (fA fl75_1) ?_
         refine ae rfl (Qt.load1 rfl rfl rfl ag24) ?_
         refine na ?_
         refine ae rfl (fA fl77_6) ?_
         refine ae rfl (Qt.load1 rfl rfl rfl ag24) ?_
         refine na ?_
         exact auP K1_3
      ·refine AWA.one 15 [0, 1, 2, 3, 4, 5, 6, 7, 8, 9, 10, 11, 12, 13, 14, 16, 17, 18, 22, 23] [] (by decide +kernel) rfl rfl rfl (by decide +kernel) (by decide +kernel) (by decide +kernel) sS ?_
       refine na ?_
       refine ae rfl (fA fl77_0) ?_
       refine ae rfl (Qt.load1 rfl rfl rfl ag3) ?_
       refine ae rfl (fA fl77_1) ?_
       refine na ?_
       refine ae rfl (Qt.load1 rfl rfl rfl ag3) ?_
       refine ae rfl (fA fl77_2) ?_
       refine ae rfl (Qt.load1 rfl rfl rfl ag3) ?_
       refine na ?_
       refine ae rfl (fA fl77_3) ?_
       refine ae rfl (Qt.load1 rfl rfl rfl ag3) ?_
       refine ae rfl (fA fl77_7) ?_
       refine na ?_
       refine ae rfl (Qt.load1 rfl rfl rfl ag3) ?_
       refine ae rfl (fA fl77_8) ?_
       refine ae rfl (Qt.load1 rfl rfl rfl ag3) ?_
       refine na ?_
       refine ae rfl (fA fl77_4) ?_
       refine ae rfl (fA fl75_0) ?_
       refine ae rfl (Qt.load1 rfl rfl rfl ag3) ?_
       refine na ?_
       refine ae rfl (fA fl77_4) ?_
       refine ae rfl (fA fl75_1) ?_
       refine ae rfl (Qt.load1 rfl rfl rfl ag24) ?_
       refine na ?_
       refine ae rfl (fA fl77_6) ?_
       refine ae rfl (Qt.load1 rfl rfl rfl ag24) ?_
       refine na ?_
       exact auP K1_3
     ·refine AWA.one 19 [0, 1, 2, 3, 4, 5, 6, 7, 8, 9, 10, 11, 12, 13, 14, 22, 23] [18, 15, 17, 16] (by decide +kernel) rfl rfl rfl (by decide +kernel) (by decide +kernel) (by decide +kernel) (by first | exact Stp.appendC rfl (by decide) (by decide) rfl rfl (by omega) | exact Stp.appendM rfl (by decide) (by decide) rfl rfl rfl (by omega)) ?_
      refine na ?_
      refine ae rfl (fA fl77_0) ?_
      refine ae rfl (Qt.load1 rfl rfl rfl ag3) ?_
      refine ae rfl (fA fl77_1) ?_
      refine na ?_
      refine ae rfl (Qt.load1 rfl rfl rfl ag3) ?_
      refine ae rfl (fA fl77_2) ?_
      refine ae rfl (Qt.load1 rfl rfl rfl ag3) ?_
      refine na ?_
      refine ae rfl (fA fl77_3) ?_
      refine ae rfl (Qt.load1 rfl rfl rfl ag3) ?_
      refine ae rfl (fA fl77_7) ?_
      refine na ?_
      refine ae rfl (Qt.load1 rfl rfl rfl ag3) ?_
      refine ae rfl (fA fl77_8) ?_
      refine ae rfl (Qt.load1 rfl rfl rfl ag3) ?_
      refine na ?_
      refine ae rfl (fA fl77_4) ?_
      refine ae rfl (fA fl75_0) ?_
      refine ae rfl (Qt.load1 rfl rfl rfl ag3) ?_
      refine na ?_
      refine ae rfl (fA fl77_6) ?_
      refine ae rfl (Qt.load1 rfl rfl rfl ag24) ?_
      refine na ?_
      refine AWA.rep 26 (tr p.Cpu.Regs) rfl (app_nil (α := Int)) ?_
      refine na ?_
      refine AWA.take 20 rfl rfl rfl (by decide +kernel) (.on rfl rfl (Qt.build rfl)) ?_
      refine na ?_
      exact auR K1_6
    ·refine AWA.anyL [24, 26] (by decide +kernel) rfl ⟨?_, ?_, trivial⟩
     ·refine AWA.arm 24 [0, 1, 2, 3, 4, 5, 6, 7, 8, 9, 10, 11, 12, 13, 14, 20] [23, 21, 19, 22, 18, 15, 17, 16] rfl rfl rfl (by decide +kernel) (by decide +kernel) (by decide +kernel) (by first | exact Stp.appendC rfl (by decide) (by decide) rfl rfl (by omega) | exact Stp.appendM rfl (by decide) (by decide) rfl rfl rfl (by omega)) ?_
      refine na ?_
      refine ae rfl (fA fl77_0) ?_
      refine ae rfl (Qt.load1 rfl rfl rfl ag3) ?_
      refine ae rfl (fA fl77_1) ?_
      refine na ?_
      refine ae rfl (Qt.load1 rfl rfl rfl ag3) ?_
      refine ae rfl (fA fl77_2) ?_
      refine ae rfl (Qt.load1 rfl rfl rfl ag3) ?_
      refine na ?_
      refine ae rfl (fA fl77_3) ?_
      refine ae rfl (Qt.load1 rfl rfl rfl ag3) ?_
      refine ae rfl (fA fl77_7) ?_
      refine na ?_
      refine ae rfl (Qt.load1 rfl rfl rfl ag3) ?_
      refine ae rfl (fA fl77_8) ?_
      refine ae rfl (Qt.load1 rfl rfl rfl ag3) ?_
      refine na ?_
      refine ae rfl (fA fl77_4) ?_
      refine ae rfl (fA fl75_0) ?_
      refine ae rfl (Qt.load1 rfl rfl rfl ag3) ?_
      refine na ?_
      refine ae rfl (Qt.build rfl) ?_
      refine na ?_
      refine AWA.rep 31 (tr p.Fds) rfl (app_nil (α := Int)) ?_
      refine na ?_
      refine AWA.take 25 rfl rfl rfl (by decide +kernel) (.on rfl rfl (Qt.build rfl)) ?_
      refine AWA.one 26 [0, 1, 2, 3, 4, 5, 6, 7, 8, 9, 10, 11, 12, 13, 14, 20, 25] [] (by decide +kernel) rfl rfl rfl (by decide +kernel) (by decide +kernel) (by decide +kernel) sA ?_
      refine na ?_
      refine ae rfl (fA fl77_0) ?_
      refine ae rfl (Qt.load1 rfl rfl rfl ag3) ?_
      refine ae rfl (fA fl77_1) ?_
      refine na ?_
      refine ae rfl (Qt.load1 rfl rfl rfl ag3) ?_
      refine ae rfl (fA fl77_2) ?_
      refine ae rfl (Qt.load1 rfl rfl rfl ag3) ?_
      refine na ?_
      refine ae rfl (fA fl77_3) ?_
      refine ae rfl (Qt.load1 rfl rfl rfl ag3) ?_
      refine ae rfl (fA fl77_7) ?_
      refine na ?_
      refine ae rfl (Qt.load1 rfl rfl rfl ag3) ?_
      refine ae rfl (fA fl77_8) ?_
      refine ae rfl (Qt.load1 rfl rfl rfl ag3) ?_
      refine na ?_
      refine ae rfl (fA fl77_4) ?_
      refine ae rfl (fA fl75_0) ?_
      refine ae rfl (Qt.load1 rfl rfl rfl ag3) ?_
      refine na ?_
      refine ae rfl (Qt.build rfl) ?_
      refine ae rfl (Qt.build rfl) ?_
      refine na ?_
      exact auR K1_7
     ·refine AWA.arm 26 [0, 1, 2, 3, 4, 5, 6, 7, 8, 9, 10, 11, 12, 13, 14, 20, 22, 23] [] rfl rfl rfl (by decide +kernel) (by decide +kernel) (by decide +kernel) sA ?_
      refine na ?_
      refine ae rfl (fA fl77_0) ?_
      refine ae rfl (Qt.load1 rfl rfl rfl ag3) ?_
      refine ae rfl (fA fl77_1) ?_
      refine na ?_
      refine ae rfl (Qt.load1 rfl rfl rfl ag3) ?_
      refine ae rfl (fA fl77_2) ?_
      refine ae rfl (Qt.load1 rfl rfl rfl ag3) ?_
      refine na ?_
      refine ae rfl (fA fl77_3) ?_
      refine ae rfl (Qt.load1 rfl rfl rfl ag3) ?_
      refine ae rfl (fA fl77_7) ?_
      refine na ?_
      refine ae rfl (Qt.load1 rfl rfl rfl ag3) ?_
      refine ae rfl (fA fl77_8) ?_
      refine ae rfl (Qt.load1 rfl rfl rfl ag3) ?_
      refine na ?_
      refine ae rfl (fA fl77_4) ?_
      refine ae rfl (fA fl75_0) ?_
      refine ae rfl (Qt.load1 rfl rfl rfl ag3) ?_
      refine na ?_
      refine ae rfl (Qt.build rfl) ?_
      refine ae rfl (fA fl77_6) ?_
      refine ae rfl (Qt.load1 rfl rfl rfl ag24) ?_
      refine na ?_
      exact auP K1_6
   ·refine AWA.one 21 [0, 1, 2, 3, 4, 5, 6, 7, 8, 9, 10, 11, 12, 13, 14, 20, 22, 23] [] (by decide +kernel) rfl rfl rfl (by decide +kernel) (by decide +kernel) (by decide +kernel) sS ?_
    refine na ?_
    refine ae rfl (fA fl77_0) ?_
    refine ae rfl (Qt.load1 rfl rfl rfl ag3) ?_
    refine ae rfl (fA fl77_1) ?_
    refine na ?_
    refine ae rfl (Qt.load1 rfl rfl rfl ag3) ?_
    refine ae rfl (fA fl77_2) ?_
    refine ae rfl (Qt.load1 rfl rfl rfl ag3) ?_
    refine na ?_
    refine ae rfl (fA fl77_3) ?_
    refine ae rfl (Qt.load1 rfl rfl rfl ag3) ?_
    refine ae rfl (fA fl77_7) ?_
    refine na ?_
    refine ae rfl (Qt.load1 rfl rfl rfl ag3) ?_
    refine ae rfl (fA fl77_8) ?_
    refine ae rfl (Qt.load1 rfl rfl rfl ag3) ?_
    refine na ?_
    refine ae rfl (fA fl77_4) ?_
    refine ae rfl (fA fl75_0) ?_
    refine ae rfl (Qt.load1 rfl rfl rfl ag3) ?_
    refine na ?_
    refine ae rfl (Qt.build rfl) ?_
    refine ae rfl (fA fl77_6) ?_
    refine ae rfl (Qt.load1 rfl rfl rfl ag24) ?_
    refine na ?_
    exact auP K1_6
  ·refine AWA.one 24 [0, 1, 2, 3, 4, 5, 6, 7, 8, 9, 10, 11, 12, 13, 14, 20] [23, 21, 19, 22, 18, 15, 17, 16] (by decide +kernel) rfl rfl rfl (by decide +kernel) (by decide +kernel) (by decide +kernel) (by first | exact Stp.appendC rfl (by decide) (by decide) rfl rfl (by omega) | exact Stp.appendM rfl (by decide) (by decide) rfl rfl rfl (by omega)) ?_
   refine na ?_
   refine ae rfl (fA fl77_0) ?_
   refine ae rfl (Qt.load1 rfl rfl rfl ag3) ?_
   refine ae rfl (fA fl77_1) ?_
   refine na ?_
   refine ae rfl (Qt.load1 rfl rfl rfl ag3) ?_
   refine ae rfl (fA fl77_2) ?_
   refine ae rfl (Qt.load1 rfl rfl rfl ag3) ?_
   refine na ?_
   refine ae rfl (fA fl77_3) ?_
   refine ae rfl (Qt.load1 rfl rfl rfl ag3) ?_
   refine ae rfl (fA fl77_7) ?_
   refine na ?_
   refine ae rfl (Qt.load1 rfl rfl rfl ag3) ?_
   refine ae rfl (fA fl77_8) ?_
   refine ae rfl (Qt.load1 rfl rfl rfl ag3) ?_
   refine na ?_
   refine ae rfl (fA fl77_4) ?_
   refine ae rfl (fA fl75_0) ?_
   refine ae rfl (Qt.load1 rfl rfl rfl ag3) ?_
   refine na ?_
   refine ae rfl (Qt.build rfl) ?_
   refine na ?_
   refine AWA.rep 31 (tr p.Fds) rfl (app_nil (α := Int)) ?_
   refine na ?_
   refine AWA.take 25 rfl rfl rfl (by decide +kernel) (.on rfl rfl (Qt.build rfl)) ?_
   refine na ?_
   exact auP K1_7
 ·refine AWA.one 27 [] [26, 25, 24, 23, 22, 21, 20, 19, 18, 17, 16, 15, 14, 13, 12, 11, 10, 9, 8, 7, 6, 5, 4, 3, 2, 1, 0] (by decide +kernel) rfl rfl rfl (by decide +kernel) (by decide +kernel) (by decide +kernel) (by first | exact Stp.storeA rfl rfl rfl rfl (by decide) rfl | exact Stp.store rfl rfl (by simp) rfl rfl rfl (by decide) rfl) ?_
  refine na ?_
  refine nz ?_
  refine sr2 ?_
  refine qq (fA fl77_5) ?_
  refine ql ag24 ?_
  refine nm ?_
  refine qh sl24 ?_
  refine qq (Qt.binOp rfl rfl (by first | exact pbSub (by omega) | rfl)) ?_
  refine qn ?_
  refine AW.block ?_
  refine AW.weak (Weak.hoist 5 6 59 rfl (by decide) rfl rfl rfl) ?_
  refine AW.weak (L' := (.sl 6 (.v (iv (((p.Pages.length : Nat) : Int) - 1 - (((0 : Nat) : Nat) : Int)))) :: .sl 4 (.p 4 [] 10 0 0) :: .sl 5 (.p 5 [] 10 0 0) :: .rt 2 .box (T.s 11 1 fun k c => ([(T.v (iv a.Next), none), (T.v (iv a.Tick), none), (T.j, none), (T.j, none), (T.j, none), (T.j, none), (T.j, none), (T.j, none), (T.j, none), (T.j, none), (T.j, none)].getD (k * 11 + c) (T.j, none)).fst) :: .al 2 2 (.h base []) :: .al 2 3 (.h (base + 1) []) :: .al 2 4 (.h (base + 2) []) :: .al 2 5 (.h (base + 3) []) :: .al 2 6 (.h (base + 4) []) :: .al 2 7 (.h (base + 5) []) :: .al 2 8 (.h (base + 6) []) :: .al 2 9 (.h (base + 7) []) :: .al 2 10 (.h (base + 8) []) :: .rt base .ro (tr a.Progs) :: .rt (base + 1) .ro (tr a.Procs) :: .rt (base + 2) .ro (tr a.Ram) :: .rt (base + 3) .ro (tr a.Heap.Free) :: .rt (base + 4) .ro (tr a.Opens) :: .rt (base + 5) .ro (tr a.Pipes) :: .rt (base + 6) .ro (tr a.Files) :: .rt (base + 7) .ro (tr a.Ready) :: .rt (base + 8) .ro (tr a.Out) :: .sl 2 (.p 2 [] 11 0 0) :: .rt 3 .box (T.s 10 1 fun k c => ([(T.v (iv p.Pid), none), (T.v (iv p.Parent), none), (T.v (iv p.State), none), (T.v (iv p.Prog), none), (T.v (iv p.Cpu.Pc), none), (T.j, none), (T.j, none), (T.j, none), (T.v (iv p.Until), none), (T.v (iv p.Code), none)].getD (k * 10 + c) (T.j, none)).fst) :: .al 3 5 (.h (base + 9) []) :: .al 3 6 (.h (base + 10) []) :: .al 3 7 (.h (base + 11) []) :: .rt (base + 9) .ro (tr p.Cpu.Regs) :: .rt (base + 10) .ro (tr p.Pages) :: .rt (base + 11) .ro (tr p.Fds) :: .sl 3 (.p 3 [] 10 0 0) :: .rt 4 .box (T.s 10 1 fun _ c => [T.v (iv 0), T.v (iv 0), T.v (iv 0), T.v (iv 0), T.v (iv 0), T.s 1 0 fun _ _ => T.j, T.s 1 0 fun _ _ => T.j, T.s 1 0 fun _ _ => T.j, T.v (iv 0), T.v (iv 0)].getD c .j) :: .rt 5 .box (T.s 10 1 fun _ c => [T.v (iv p.Pid), T.v (iv p.Parent), T.v (iv p.State), T.v (iv p.Prog), T.v (iv p.Cpu.Pc), T.j, T.j, T.j, T.v (iv p.Until), T.v (iv p.Code)].getD c .j) :: .al 5 5 (.h 26 []) :: .al 5 6 (.h 59 []) :: .al 5 7 (.h 31 []) :: .rt 26 .row (tr p.Cpu.Regs) :: .rt 59 .row (tr (memK a.Ram p.Pages.reverse (0 : Nat))) :: .rt 31 .row (tr p.Fds) :: [])) (Weak.sim ⟨xI7 (by omega), rfl, rfl, Rf rfl, ⟨rfl, rfl⟩, ⟨rfl, rfl⟩, ⟨rfl, rfl⟩, ⟨rfl, rfl⟩, ⟨rfl, rfl⟩, ⟨rfl, rfl⟩, ⟨rfl, rfl⟩, ⟨rfl, rfl⟩, ⟨rfl, rfl⟩, Rf rfl, Rf rfl, Rf rfl, Rf rfl, Rf rfl, Rf rfl, Rf rfl, Rf rfl, Rf rfl, rfl, Rf rfl, ⟨rfl, rfl⟩, ⟨rfl, rfl⟩, ⟨rfl, rfl⟩, Rf rfl, Rf rfl, Rf rfl, rfl, ⟨_, rfl, (sc_sim (n := 10) (fun c hc => match c, hc with | 0, _ => tsr | 1, _ => tsr | 2, _ => tsr | 3, _ => tsr | 4, _ => tsr | 5, _ => tsr | 6, _ => tsr | 7, _ => tsr | 8, _ => tsr | 9, _ => tsr | c + 10, hc => absurd hc (by omega)))⟩, ⟨_, rfl, (sc_sim (n := 10) (fun c hc => match c, hc with | 0, _ => tsr | 1, _ => tsr | 2, _ => tsr | 3, _ => tsr | 4, _ => tsr | 5, _ => tsr | 6, _ => tsr | 7, _ => tsr | 8, _ => tsr | 9, _ => tsr | c + 10, hc => absurd hc (by omega)))⟩, ⟨rfl, rfl⟩, ⟨rfl, rfl⟩, ⟨rfl, rfl⟩, Rf rfl, ⟨_, rfl, sim_nil⟩, Rf rfl, trivial⟩ rfl rfl) ?_
  refine AW.loop (fun i : KInv p.Pages.length => (.sl 6 (.v (iv (((p.Pages.length : Nat) : Int) - 1 - ((i.k : Nat) : Int)))) :: .sl 4 (.p 4 [] 10 0 0) :: .sl 5 (.p 5 [] 10 0 0) :: .rt 2 .box (T.s 11 1 fun k c => ([(T.v (iv a.Next), none), (T.v (iv a.Tick), none), (T.j, none), (T.j, none), (T.j, none), (T.j, none), (T.j, none), (T.j, none), (T.j, none), (T.j, none), (T.j, none)].getD (k * 11 + c) (T.j, none)).fst) :: .al 2 2 (.h base []) :: .al 2 3 (.h (base + 1) []) :: .al 2 4 (.h (base + 2) []) :: .al 2 5 (.h (base + 3) []) :: .al 2 6 (.h (base + 4) []) :: .al 2 7 (.h (base + 5) []) :: .al 2 8 (.h (base + 6) []) :: .al 2 9 (.h (base + 7) []) :: .al 2 10 (.h (base + 8) []) :: .rt base .ro (tr a.Progs) :: .rt (base + 1) .ro (tr a.Procs) :: .rt (base + 2) .ro (tr a.Ram) :: .rt (base + 3) .ro (tr a.Heap.Free) :: .rt (base + 4) .ro (tr a.Opens) :: .rt (base + 5) .ro (tr a.Pipes) :: .rt (base + 6) .ro (tr a.Files) :: .rt (base + 7) .ro (tr a.Ready) :: .rt (base + 8) .ro (tr a.Out) :: .sl 2 (.p 2 [] 11 0 0) :: .rt 3 .box (T.s 10 1 fun k c => ([(T.v (iv p.Pid), none), (T.v (iv p.Parent), none), (T.v (iv p.State), none), (T.v (iv p.Prog), none), (T.v (iv p.Cpu.Pc), none), (T.j, none), (T.j, none), (T.j, none), (T.v (iv p.Until), none), (T.v (iv p.Code), none)].getD (k * 10 + c) (T.j, none)).fst) :: .al 3 5 (.h (base + 9) []) :: .al 3 6 (.h (base + 10) []) :: .al 3 7 (.h (base + 11) []) :: .rt (base + 9) .ro (tr p.Cpu.Regs) :: .rt (base + 10) .ro (tr p.Pages) :: .rt (base + 11) .ro (tr p.Fds) :: .sl 3 (.p 3 [] 10 0 0) :: .rt 4 .box (T.s 10 1 fun _ c => [T.v (iv 0), T.v (iv 0), T.v (iv 0), T.v (iv 0), T.v (iv 0), T.s 1 0 fun _ _ => T.j, T.s 1 0 fun _ _ => T.j, T.s 1 0 fun _ _ => T.j, T.v (iv 0), T.v (iv 0)].getD c .j) :: .rt 5 .box (T.s 10 1 fun _ c => [T.v (iv p.Pid), T.v (iv p.Parent), T.v (iv p.State), T.v (iv p.Prog), T.v (iv p.Cpu.Pc), T.j, T.j, T.j, T.v (iv p.Until), T.v (iv p.Code)].getD c .j) :: .al 5 5 (.h 26 []) :: .al 5 6 (.h 59 []) :: .al 5 7 (.h 31 []) :: .rt 26 .row (tr p.Cpu.Regs) :: .rt 59 .row (tr (memK a.Ram p.Pages.reverse i.k)) :: .rt 31 .row (tr p.Fds) :: [])) (fun i => p.Pages.length - i.k) ⟨0, Nat.zero_le _⟩ ?_
  intro i
  have hle := i.le
  have hml := memK_len a.Ram p.Pages.reverse i.k (by rw [List.length_reverse]; omega)
  have hpt : i.k < p.Pages.length → (((p.Pages.length : Nat) : Int) - 1 - ((i.k : Nat) : Int)).toNat = p.Pages.length - 1 - i.k := fun _ => by omega
  refine sr2 ?_
  refine mn ?_
  refine qb ?_
  refine nc (fun c1 => ?_) fun c1 => ?_
  ·try simp only [cnd] at c1
   have hik : i.k < p.Pages.length := by omega
   have hpt := hpt hik
   have hfi := hf (p.Pages.length - 1 - i.k) (by omega)
   rw [← hpt] at hfi
   have hfw := frW_len a.Ram (p.Pages.getD (((p.Pages.length : Nat) : Int) - 1 - ((i.k : Nat) : Int)).toNat En.dflt)
   refine jd (AW.seq (AW.block ?_))
   refine AW.draw [0, 1, 2, 3, 4, 5, 6, 7, 8, 9, 10, 11, 12, 13, 14, 15, 16, 17, 19] rfl (by decide +kernel) ?_
   refine tk 0 rfl (fA fl81_5) ?_
   refine tk 1 rfl (Qt.load1 rfl rfl rfl ag24) ?_
   refine na ?_
   refine tk 2 rfl (fA fl46_4) ?_
   refine tk 3 rfl (Qt.load1 rfl rfl rfl ag24) ?_
   refine tk 4 rfl (fA fl77_5) ?_
   refine na ?_
   refine tk 5 rfl (Qt.load1 rfl rfl rfl ag24) ?_
   refine tk 6 rfl Qt.move ?_
   refine tk 7 rfl (ix sl24 sz3) ?_
   refine na ?_
   refine tk 8 rfl (Qt.load1 rfl rfl rfl ag3) ?_
   refine tk 9 rfl (Qt.binOp rfl rfl (by first | exact pbMul (by omega) | rfl)) ?_
   refine tk 10 rfl (fA fl77_5) ?_
   refine na ?_
   refine tk 11 rfl (Qt.load1 rfl rfl rfl ag24) ?_
   refine tk 12 rfl Qt.move ?_
   refine tk 13 rfl (ix sl24 sz3) ?_
   refine na ?_
   refine tk 14 rfl (Qt.load1 rfl rfl rfl ag3) ?_
   refine tk 15 rfl (Qt.binOp rfl rfl (by first | exact pbAdd (by omega) | rfl)) ?_
   refine tk 16 rfl (Qt.binOp rfl rfl (by first | exact pbMul (by omega) | rfl)) ?_
   refine na ?_
   refine tk 17 rfl (Qt.sliceH rfl rfl rfl sl24 sz3 (by decide) (slB_sn rfl (by omega)) (slB_sn rfl (by omega)) (by omega) (by omega)) ?_
   refine a1 18 [] [17, 1, 16, 9, 3, 0, 15, 8, 2, 14, 7, 13, 6, 5, 12, 11, 4, 10] rfl rfl (by first | exact Stp.appendC rfl (by decide) (by decide) rfl rfl (by omega) | exact Stp.appendM rfl (by decide) (by decide) rfl rfl rfl (by omega)) ?_
   refine na ?_
   refine na ?_
   refine tk 19 rfl (fA fl81_5) ?_
   refine a1 20 [] [19, 18, 17, 16, 15, 14, 13, 12, 11, 10, 9, 8, 7, 6, 5, 4, 3, 2, 1, 0] rfl rfl (by first | exact Stp.storeA rfl rfl rfl rfl (by decide) rfl | exact Stp.store rfl rfl (by simp) rfl rfl rfl (by decide) rfl) ?_
   refine na ?_
   refine na ?_
   refine nz ?_
   refine AW.region ?_
   refine qm ?_
   refine qq (Qt.binOp rfl rfl (by first | exact pbSub (by omega) | rfl)) ?_
   refine qn ?_
   refine ⟨⟨i.k + 1, by omega⟩, Weak.sim ⟨xI7 (by show _ = ((p.Pages.length : Nat) : Int) - 1 - ((i.k + 1 : Nat) : Int); omega), rfl, rfl, Rf rfl, ⟨rfl, rfl⟩, ⟨rfl, rfl⟩, ⟨rfl, rfl⟩, ⟨rfl, rfl⟩, ⟨rfl, rfl⟩, ⟨rfl, rfl⟩, ⟨rfl, rfl⟩, ⟨rfl, rfl⟩, ⟨rfl, rfl⟩, Rf rfl, Rf rfl, Rf rfl, Rf rfl, Rf rfl, Rf rfl, Rf rfl, Rf rfl, Rf rfl, rfl, Rf rfl, ⟨rfl, rfl⟩, ⟨rfl, rfl⟩, ⟨rfl, rfl⟩, Rf rfl, Rf rfl, Rf rfl, rfl, Rf rfl, ⟨_, rfl, (sc_sim (n := 10) (fun c hc => match c, hc with | 0, _ => tsr | 1, _ => tsr | 2, _ => tsr | 3, _ => tsr | 4, _ => tsr | 5, _ => tsr | 6, _ => tsr | 7, _ => tsr | 8, _ => tsr | 9, _ => tsr | c + 10, hc => absurd hc (by omega)))⟩, ⟨rfl, rfl⟩, ⟨rfl, rfl⟩, ⟨rfl, rfl⟩, Rf rfl, ⟨_, rfl, (by rw [memK_next (by rw [List.length_reverse]; omega), rev_get (by omega), ← hpt]; exact app_frW hr hfi.1 hfi.2)⟩, Rf rfl, trivial⟩ rfl rfl, ?_⟩
   show p.Pages.length - (i.k + 1) < p.Pages.length - i.k
   omega
  try simp only [cnd] at c1
  refine AW.exit ?_
  dsimp only [thenQ, blockQ, reduceIte]
  refine sr ?_
  refine qG ag81 sz81 ?_
  refine nm ?_
  refine ss ?_
  refine nl ?_
  refine AW.rep 59 (tr (memK a.Ram p.Pages.reverse p.Pages.length)) rfl (by rw [show i.k = p.Pages.length by omega]; exact tsr) ?_
  refine AW.ret (endQ_ret (.cons (.cellG 4 81 rfl rfl rfl ag81 sz81 (by decide)) .nil) ?_)
  refine ⟨fun i => if i = 0 then 26 else if i = 1 then 59 else 31, rfl, nodup_of rfl, ?_⟩
  intro r hr
  simp only [List.mem_cons, List.not_mem_nil, or_false] at hr
  rcases hr with rfl | rfl | rfl <;> exact ⟨by simp, rootL_mem rfl⟩
end Go.Proofs.YtekcnnngjoonbaaGreat.VM
