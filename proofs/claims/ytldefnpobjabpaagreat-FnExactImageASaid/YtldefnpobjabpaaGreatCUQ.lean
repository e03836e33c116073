/- Contracts. No conditions. -/
import Derived.Test.YtldefnpobjabpaaGreatCUP
set_option linter.all false
set_option maxHeartbeats 8000000
set_option maxRecDepth 10000
namespace Go.Proofs.YtldefnpobjabpaaGreat.VM
open Go Go.RowKit Go.Proofs
theorem l20Proc_con (p : DProc) (hF : ProcF p) : Con Tryz.prog 230 [.g [.v (iv p.Pid), .v (iv p.Parent), .v (iv p.State), .v (iv p.Prog), .v (iv p.Cpu.Pc), .h base [], .h (base + 1) [], .h (base + 2) [], .v (iv p.Until), .v (iv p.Code)]] [.rt base .ro (tr p.Cpu.Regs), .rt (base + 1) .ro (tr p.Mem), .rt (base + 2) .ro (tr p.Fds)] (fun y _ => y = .v (.string (procB p))) := by
 refine ob Tryz.func230 Tryz.ntmps230 ?_
 have v0 := varS_size p.Pid
 have v1 := varS_size p.Parent
 have v2 := varS_size p.State
 have v3 := varS_size p.Prog
 have v4 := varS_size p.Cpu.Pc
 have v5 := varS_size p.Until
 have v10 := wordsS_size p.Cpu.Regs
 have v11 := wordsS_size p.Mem
 have v12 := plusS_size 1 p.Fds
 have v13 := wordsS_size [p.Code]
 have v14 := hF.regs
 have v15 := hF.mem
 have v16 := hF.fds
 simp only [List.length_cons, List.length_nil] at v13
 refine go [.R,.B,.N,.a,.Z] (k := ?_)
 refine AW.seq ?_
 refine go [.D [0, 1, 3, 4, 6, 7, 8, 10, 11, 12, 14, 15, 16, 17, 19, 20],.t 0,.f,.t 1,.l,.N,.t 3,.f,.t 4,.l,.t 7,.f,.N,.t 8,.l,.t 11,.f,.t 12,.l,.N,.t 15,.f,.t 16,.f,.t 17,.l,.N] (k := ?_)
 refine a1 2 [3, 4, 7, 8, 11, 12, 15, 16, 17] [1, 0] rfl rfl (Stp.callV rfl (by decide) Tryz.call228 rfl rfl (VarS_con _)) ?_
 refine go [.N,.g,.f,.g,.l,.g,.f,.g,.l,.g,.f,.g,.l,.g,.f,.g,.f,.g,.l,.N] (k := ?_)
 refine a1 5 [7, 8, 11, 12, 15, 16, 17] [4, 2, 3, 1, 0] rfl rfl (Stp.callV rfl (by decide) Tryz.call228 rfl rfl (VarS_con _)) ?_
 refine go [.N,.g,.f,.g,.l,.g,.f,.g,.l,.g,.f,.g,.f,.g,.l,.N] (k := ?_)
 refine tk 6 rfl (Qt.binOp rfl rfl pbC) ?_
 refine a1 9 [6, 11, 12, 15, 16, 17] [8, 5, 7, 4, 2, 3, 1, 0] rfl rfl (Stp.callV rfl (by decide) Tryz.call228 rfl rfl (VarS_con _)) ?_
 refine go [.N] (k := ?_)
 refine ae rfl (Qt.binOp rfl rfl pbC) ?_
 refine go [.g,.f,.g,.l,.g,.f,.g,.f,.g,.l,.N] (k := ?_)
 refine tk 10 rfl (Qt.binOp rfl rfl pbC) ?_
 refine a1 13 [6, 10, 15, 16, 17] [12, 9, 11, 8, 5, 7, 4, 2, 3, 1, 0] rfl rfl (Stp.callV rfl (by decide) Tryz.call228 rfl rfl (VarS_con _)) ?_
 refine go [.N] (k := ?_)
 refine ae rfl (Qt.binOp rfl rfl pbC) ?_
 refine ae rfl (Qt.binOp rfl rfl pbC) ?_
 refine go [.g,.f,.g,.f,.g,.l,.N] (k := ?_)
 refine tk 14 rfl (Qt.binOp rfl rfl pbC) ?_
 refine a1 18 [6, 10, 14] [17, 13, 16, 12, 9, 15, 11, 8, 5, 7, 4, 2, 3, 1, 0] rfl rfl (Stp.callV rfl (by decide) Tryz.call228 rfl rfl (VarS_con _)) ?_
 refine go [.N] (k := ?_)
 refine ae rfl (Qt.binOp rfl rfl pbC) ?_
 refine ae rfl (Qt.binOp rfl rfl pbC) ?_
 refine ae rfl (Qt.binOp rfl rfl pbC) ?_
 refine go [.N] (k := ?_)
 refine tk 19 rfl (Qt.binOp rfl rfl pbC) ?_
 refine go [.t 20,.a,.Z] (k := ?_)
 refine AW.seq ?_
 refine go [.D [0, 1, 2, 3, 5, 6, 7, 9, 10, 11, 13, 14, 15, 17, 18, 19, 22, 23],.t 0,.m,.N,.t 1,.f,.t 2,.f,.t 3,.l,.N,.t 6,.f,.t 7,.l,.t 10,.f,.N,.t 11,.l,.t 14,.f,.t 15,.l,.N,.t 18,.f,.t 19,.l] (k := ?_)
 apply AWA.cutS #[true, true, true, true, true, true, true, true, true, true, true, true, true, true, true, true, true, true, true, true, true, false, false, false] [0, 5, 9, 13, 17]
 ·intro K2_3
  apply AWA.cutS #[true, true, true, true, true, true, true, true, true, true, true, true, true, true, true, true, false, false, true, true, true, false, false, false] [0, 5, 9, 13, 14, 15]
  ·intro K2_2
   apply AWA.cutS #[true, true, true, true, true, true, true, true, true, true, true, true, false, false, true, true, false, false, true, true, true, false, false, false] [0, 5, 9, 10, 11, 14, 15]
   ·intro K2_1
    apply AWA.cutS #[true, true, true, true, true, true, true, true, false, false, true, true, false, false, true, true, false, false, true, true, true, false, false, false] [0, 5, 6, 7, 10, 11, 14, 15]
    ·intro K2_0
     refine AWA.anyL [4, 20] (by decide +kernel) rfl ⟨?_, ?_, trivial⟩
     ·refine AWA.arm 4 [0, 6, 7, 10, 11, 14, 15, 18, 19] [3, 2, 1] rfl rfl rfl (by decide +kernel) (by decide +kernel) (by decide +kernel) (Stp.callV rfl (by decide) Tryz.call231 rfl rfl (l20Words_con _ (by first | exact hF.regsW | exact hF.memW | (intro i hi; have h0 : i = 0 := (by simpa using hi); subst h0; exact hF.code)) (by first | (simp; done) | (have := hF.regs; have := hF.mem; omega)))) ?_
      refine go [.N,.g,.m,.g,.f,.g,.l,.N,.g,.f,.g,.l,.g,.f,.N,.g,.l,.g,.f,.g,.l,.N] (k := ?_)
      refine AWA.take 5 rfl rfl rfl (by decide +kernel) (.on rfl rfl (Qt.binOp rfl rfl pbC)) ?_
      refine AWA.anyL [8, 20] (by decide +kernel) rfl ⟨?_, ?_, trivial⟩
      ·refine AWA.arm 8 [0, 5, 10, 11, 14, 15, 18, 19] [7, 4, 6, 3, 2, 1] rfl rfl rfl (by decide +kernel) (by decide +kernel) (by decide +kernel) (Stp.callV rfl (by decide) Tryz.call231 rfl rfl (l20Words_con _ (by first | exact hF.regsW | exact hF.memW | (intro i hi; have h0 : i = 0 := (by simpa using hi); subst h0; exact hF.code)) (by first | (simp; done) | (have := hF.regs; have := hF.mem; omega)))) ?_
       refine go [.N,.g,.m] (k := ?_)
       refine ae rfl (Qt.binOp rfl rfl pbC) ?_
       refine go [.g,.f,.N,.g,.l,.g,.f,.g,.l,.N,.g,.f,.g,.l,.N] (k := ?_)
       refine AWA.take 9 rfl rfl rfl (by decide +kernel) (.on rfl rfl (Qt.binOp rfl rfl pbC)) ?_
       refine AWA.anyL [12, 20] (by decide +kernel) rfl ⟨?_, ?_, trivial⟩
       ·refine AWA.arm 12 [0, 5, 9, 14, 15, 18, 19] [11, 8, 10, 7, 4, 6, 3, 2, 1] rfl rfl rfl (by decide +kernel) (by decide +kernel) (by decide +kernel) (Stp.callV rfl (by decide) Tryz.call265 rfl rfl (l20Plus_con _ (fun i hi => by have := hF.fdsW i hi; omega) (by have := hF.fds; omega))) ?_
        refine go [.N,.g,.m] (k := ?_)
        refine ae rfl (Qt.binOp rfl rfl pbC) ?_
        refine ae rfl (Qt.binOp rfl rfl pbC) ?_
        refine go [.N,.g,.f,.g,.l,.g,.f,.N,.g,.l,.N] (k := ?_)
        refine AWA.take 13 rfl rfl rfl (by decide +kernel) (.on rfl rfl (Qt.binOp rfl rfl pbC)) ?_
        refine AWA.anyL [16, 20] (by decide +kernel) rfl ⟨?_, ?_, trivial⟩
        ·refine AWA.arm 16 [0, 5, 9, 13, 18, 19] [15, 12, 14, 11, 8, 10, 7, 4, 6, 3, 2, 1] rfl rfl rfl (by decide +kernel) (by decide +kernel) (by decide +kernel) (Stp.callV rfl (by decide) Tryz.call228 rfl rfl (VarS_con _)) ?_
         refine go [.N,.g,.m] (k := ?_)
         refine ae rfl (Qt.binOp rfl rfl pbC) ?_
         refine ae rfl (Qt.binOp rfl rfl pbC) ?_
         refine go [.N] (k := ?_)
         refine ae rfl (Qt.binOp rfl rfl pbC) ?_
         refine go [.g,.f,.g,.l,.N] (k := ?_)
         refine AWA.take 17 rfl rfl rfl (by decide +kernel) (.on rfl rfl (Qt.binOp rfl rfl pbC)) ?_
         refine AWA.one 20 [0, 5, 9, 13, 17] [19, 18] (by decide +kernel) rfl rfl rfl (by decide +kernel) (by decide +kernel) (by decide +kernel) sS ?_
         refine go [.N,.g,.m] (k := ?_)
         refine ae rfl (Qt.binOp rfl rfl pbC) ?_
         refine ae rfl (Qt.binOp rfl rfl pbC) ?_
         refine go [.N] (k := ?_)
         refine ae rfl (Qt.binOp rfl rfl pbC) ?_
         refine ae rfl (Qt.binOp rfl rfl pbC) ?_
         refine go [.N] (k := ?_)
         refine AWA.rep 44 (tr ([p.Code] : List Int)) rfl (sim_row1 rfl rfl rfl (fun k hk => match k, hk with | 0, _ => rfl | k + 1, hk => absurd hk (by omega))) ?_
         refine go [.N] (k := ?_)
         exact auR K2_3
        ·refine AWA.arm 20 [0, 5, 9, 13, 14, 15] [19, 18] rfl rfl rfl (by decide +kernel) (by decide +kernel) (by decide +kernel) sS ?_
         refine go [.N,.g,.m] (k := ?_)
         refine ae rfl (Qt.binOp rfl rfl pbC) ?_
         refine ae rfl (Qt.binOp rfl rfl pbC) ?_
         refine go [.N] (k := ?_)
         refine ae rfl (Qt.binOp rfl rfl pbC) ?_
         refine go [.g,.f,.g,.l,.N] (k := ?_)
         refine AWA.rep 44 (tr ([p.Code] : List Int)) rfl (sim_row1 rfl rfl rfl (fun k hk => match k, hk with | 0, _ => rfl | k + 1, hk => absurd hk (by omega))) ?_
         refine go [.N] (k := ?_)
         exact auR K2_2
       ·refine AWA.arm 20 [0, 5, 9, 10, 11, 14, 15] [19, 18] rfl rfl rfl (by decide +kernel) (by decide +kernel) (by decide +kernel) sS ?_
        refine go [.N,.g,.m] (k := ?_)
        refine ae rfl (Qt.binOp rfl rfl pbC) ?_
        refine ae rfl (Qt.binOp rfl rfl pbC) ?_
        refine go [.N,.g,.f,.g,.l,.g,.f,.N,.g,.l,.N] (k := ?_)
        refine AWA.rep 44 (tr ([p.Code] : List Int)) rfl (sim_row1 rfl rfl rfl (fun k hk => match k, hk with | 0, _ => rfl | k + 1, hk => absurd hk (by omega))) ?_
        refine go [.N] (k := ?_)
        exact auR K2_1
      ·refine AWA.arm 20 [0, 5, 6, 7, 10, 11, 14, 15] [19, 18] rfl rfl rfl (by decide +kernel) (by decide +kernel) (by decide +kernel) sS ?_
       refine go [.N,.g,.m] (k := ?_)
       refine ae rfl (Qt.binOp rfl rfl pbC) ?_
       refine go [.g,.f,.N,.g,.l,.g,.f,.g,.l,.N,.g,.f,.g,.l,.N] (k := ?_)
       refine AWA.rep 44 (tr ([p.Code] : List Int)) rfl (sim_row1 rfl rfl rfl (fun k hk => match k, hk with | 0, _ => rfl | k + 1, hk => absurd hk (by omega))) ?_
       refine go [.N] (k := ?_)
       exact auR K2_0
     ·refine AWA.arm 20 [0, 1, 2, 3, 6, 7, 10, 11, 14, 15] [19, 18] rfl rfl rfl (by decide +kernel) (by decide +kernel) (by decide +kernel) sS ?_
      refine go [.N,.g,.m,.g,.f,.g,.f,.N,.g,.l,.g,.f,.g,.l,.N,.g,.f,.g,.l,.g,.f,.N,.g,.l,.N] (k := ?_)
      refine AWA.rep 44 (tr ([p.Code] : List Int)) rfl (sim_row1 rfl rfl rfl (fun k hk => match k, hk with | 0, _ => rfl | k + 1, hk => absurd hk (by omega))) ?_
      refine go [.N] (k := ?_)
      refine AWA.one 4 [0, 6, 7, 10, 11, 14, 15] [3, 2, 1] (by decide +kernel) rfl rfl rfl (by decide +kernel) (by decide +kernel) (by decide +kernel) (Stp.callV rfl (by decide) Tryz.call231 rfl rfl (l20Words_con _ (by first | exact hF.regsW | exact hF.memW | (intro i hi; have h0 : i = 0 := (by simpa using hi); subst h0; exact hF.code)) (by first | (simp; done) | (have := hF.regs; have := hF.mem; omega)))) ?_
      refine go [.N,.g,.m,.g,.f,.g,.l,.N,.g,.f,.g,.l,.g,.f,.N,.g,.l,.N] (k := ?_)
      refine AWA.take 5 rfl rfl rfl (by decide +kernel) (.on rfl rfl (Qt.binOp rfl rfl pbC)) ?_
      refine go [.N] (k := ?_)
      exact auP K2_0
    ·refine AWA.one 8 [0, 5, 10, 11, 14, 15] [7, 4, 6, 3, 2, 1] (by decide +kernel) rfl rfl rfl (by decide +kernel) (by decide +kernel) (by decide +kernel) (Stp.callV rfl (by decide) Tryz.call231 rfl rfl (l20Words_con _ (by first | exact hF.regsW | exact hF.memW | (intro i hi; have h0 : i = 0 := (by simpa using hi); subst h0; exact hF.code)) (by first | (simp; done) | (have := hF.regs; have := hF.mem; omega)))) ?_
     refine go [.N,.g,.m] (k := ?_)
     refine ae rfl (Qt.binOp rfl rfl pbC) ?_
     refine go [.g,.f,.N,.g,.l,.g,.f,.g,.l,.N] (k := ?_)
     refine AWA.take 9 rfl rfl rfl (by decide +kernel) (.on rfl rfl (Qt.binOp rfl rfl pbC)) ?_
     refine go [.N] (k := ?_)
     exact auP K2_1
   ·refine AWA.one 12 [0, 5, 9, 14, 15] [11, 8, 10, 7, 4, 6, 3, 2, 1] (by decide +kernel) rfl rfl rfl (by decide +kernel) (by decide +kernel) (by decide +kernel) (Stp.callV rfl (by decide) Tryz.call265 rfl rfl (l20Plus_con _ (fun i hi => by have := hF.fdsW i hi; omega) (by have := hF.fds; omega))) ?_
    refine go [.N,.g,.m] (k := ?_)
    refine ae rfl (Qt.binOp rfl rfl pbC) ?_
    refine ae rfl (Qt.binOp rfl rfl pbC) ?_
    refine go [.N,.g,.f,.g,.l,.N] (k := ?_)
    refine AWA.take 13 rfl rfl rfl (by decide +kernel) (.on rfl rfl (Qt.binOp rfl rfl pbC)) ?_
    refine go [.N] (k := ?_)
    exact auP K2_2
  ·refine AWA.one 16 [0, 5, 9, 13] [15, 12, 14, 11, 8, 10, 7, 4, 6, 3, 2, 1] (by decide +kernel) rfl rfl rfl (by decide +kernel) (by decide +kernel) (by decide +kernel) (Stp.callV rfl (by decide) Tryz.call228 rfl rfl (VarS_con _)) ?_
   refine go [.N,.g,.m] (k := ?_)
   refine ae rfl (Qt.binOp rfl rfl pbC) ?_
   refine ae rfl (Qt.binOp rfl rfl pbC) ?_
   refine go [.N] (k := ?_)
   refine ae rfl (Qt.binOp rfl rfl pbC) ?_
   refine go [.N] (k := ?_)
   refine AWA.take 17 rfl rfl rfl (by decide +kernel) (.on rfl rfl (Qt.binOp rfl rfl pbC)) ?_
   refine go [.N] (k := ?_)
   exact auP K2_3
 ·refine AWA.one 21 [0, 5, 9, 13, 17] [20, 16, 19, 15, 12, 18, 14, 11, 8, 10, 7, 4, 6, 3, 2, 1] (by decide +kernel) rfl rfl rfl (by decide +kernel) (by decide +kernel) (by decide +kernel) (Stp.callV rfl (by decide) Tryz.call231 rfl rfl (l20Words_con _ (by first | exact hF.regsW | exact hF.memW | (intro i hi; have h0 : i = 0 := (by simpa using hi); subst h0; exact hF.code)) (by first | (simp; done) | (have := hF.regs; have := hF.mem; omega)))) ?_
  refine go [.N,.g,.m] (k := ?_)
  refine ae rfl (Qt.binOp rfl rfl pbC) ?_
  refine ae rfl (Qt.binOp rfl rfl pbC) ?_
  refine go [.N] (k := ?_)
  refine ae rfl (Qt.binOp rfl rfl pbC) ?_
  refine ae rfl (Qt.binOp rfl rfl pbC) ?_
  refine go [.N] (k := ?_)
  refine AWA.take 22 rfl rfl rfl (by decide +kernel) (.on rfl rfl (Qt.binOp rfl rfl pbC)) ?_
  refine AWA.take 23 rfl rfl rfl (by decide +kernel) (.on rfl rfl Qt.assign) ?_
  refine go [.Z] (k := ?_)
  refine rt1 2 ?_
  rfl
end Go.Proofs.YtldefnpobjabpaaGreat.VM

