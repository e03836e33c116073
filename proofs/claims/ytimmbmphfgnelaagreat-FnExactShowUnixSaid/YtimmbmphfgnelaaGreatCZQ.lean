/- Contracts of functions of the program. No conditions beyond those that each states. -/
import Derived.Test.YtimmbmphfgnelaaGreatCZP
set_option linter.all false
namespace Go.Proofs.YtimmbmphfgnelaaGreat.VM
open Go Go.RowKit Go.Proofs
set_option maxHeartbeats 8000000 in
set_option maxRecDepth 10000 in
theorem l20Proc_con (p : DProc) (hF : ProcF p) : Con Tryz.prog 207 [.g [.v (iv p.Pid), .v (iv p.Parent), .v (iv p.State), .v (iv p.Prog), .v (iv p.Cpu.Pc), .h base [], .h (base + 1) [], .h (base + 2) [], .v (iv p.Until), .v (iv p.Code)]] [.rt base .ro (tr p.Cpu.Regs), .rt (base + 1) .ro (tr p.Mem), .rt (base + 2) .ro (tr p.Fds)] (fun y _ => y = .v (.string (procB p))) := by
 refine Con.of_body Tryz.func207 rfl (by simp) ?_
 rw [Tryz.ntmps207]
 have v0 := varS_size p.Pid
 have v1 := varS_size p.Parent
 have v2 := varS_size p.State
 have v3 := varS_size p.Prog
 have v4 := varS_size p.Cpu.Pc
 have v5 := varS_size p.Until
 have v10 := wordsS_size p.Cpu.Regs
 have v11 := wordsS_size p.Mem
 have v12 := plusS_size 1 p.Fds
 have v13 := wordsS_size [p.Code]
 have v14 := hF.regs
 have v15 := hF.mem
 have v16 := hF.fds
 simp only [List.length_cons, List.length_nil] at v13
 refine AW.seq (AW.region ?_)
 refine sp (Stp.boxB rfl (by decide) (by decide) rfl rfl rfl rfl) ?_
 refine nm ?_
 refine qq Qt.assign ?_
 refine nl ?_
 refine AW.seq ?_
 refine AW.draw [0, 1, 3, 4, 6, 7, 8, 10, 11, 12, 14, 15, 16, 17, 19, 20] rfl (by decide +kernel) ?_
 refine tk 0 rfl (fA fl97_0) ?_
 refine tk 1 rfl (Qt.load1 rfl rfl rfl ag3) ?_
 refine na ?_
 refine tk 3 rfl (fA fl97_1) ?_
 refine tk 4 rfl (Qt.load1 rfl rfl rfl ag3) ?_
 refine tk 7 rfl (fA fl97_2) ?_
 refine na ?_
 refine tk 8 rfl (Qt.load1 rfl rfl rfl ag3) ?_
 refine tk 11 rfl (fA fl97_3) ?_
 refine tk 12 rfl (Qt.load1 rfl rfl rfl ag3) ?_
 refine na ?_
 refine tk 15 rfl (fA fl97_4) ?_
 refine tk 16 rfl (fA fl95_0) ?_
 refine tk 17 rfl (Qt.load1 rfl rfl rfl ag3) ?_
 refine na ?_
 refine a1 2 [3, 4, 7, 8, 11, 12, 15, 16, 17] [1, 0] rfl rfl (Stp.callV rfl (by decide) Tryz.call205 rfl rfl (VarS_con _)) ?_
 refine na ?_
 refine AWA.againE rfl rfl (by decide +kernel) (.on rfl rfl (fA fl97_1)) rfl ?_
 refine AWA.againE rfl rfl (by decide +kernel) (.on rfl rfl (Qt.load1 rfl rfl rfl ag3)) rfl ?_
 refine AWA.againE rfl rfl (by decide +kernel) (.on rfl rfl (fA fl97_2)) rfl ?_
 refine AWA.againE rfl rfl (by decide +kernel) (.on rfl rfl (Qt.load1 rfl rfl rfl ag3)) rfl ?_
 refine AWA.againE rfl rfl (by decide +kernel) (.on rfl rfl (fA fl97_3)) rfl ?_
 refine AWA.againE rfl rfl (by decide +kernel) (.on rfl rfl (Qt.load1 rfl rfl rfl ag3)) rfl ?_
 refine AWA.againE rfl rfl (by decide +kernel) (.on rfl rfl (fA fl97_4)) rfl ?_
 refine AWA.againE rfl rfl (by decide +kernel) (.on rfl rfl (fA fl95_0)) rfl ?_
 refine AWA.againE rfl rfl (by decide +kernel) (.on rfl rfl (Qt.load1 rfl rfl rfl ag3)) rfl ?_
 refine na ?_
 refine a1 5 [7, 8, 11, 12, 15, 16, 17] [4, 2, 3, 1, 0] rfl rfl (Stp.callV rfl (by decide) Tryz.call205 rfl rfl (VarS_con _)) ?_
 refine na ?_
 refine AWA.againE rfl rfl (by decide +kernel) (.on rfl rfl (fA fl97_2)) rfl ?_
 refine AWA.againE rfl rfl (by decide +kernel) (.on rfl rfl (Qt.load1 rfl rfl rfl ag3)) rfl ?_
 refine AWA.againE rfl rfl (by decide +kernel) (.on rfl rfl (fA fl97_3)) rfl ?_
 refine AWA.againE rfl rfl (by decide +kernel) (.on rfl rfl (Qt.load1 rfl rfl rfl ag3)) rfl ?_
 refine AWA.againE rfl rfl (by decide +kernel) (.on rfl rfl (fA fl97_4)) rfl ?_
 refine AWA.againE rfl rfl (by decide +kernel) (.on rfl rfl (fA fl95_0)) rfl ?_
 refine AWA.againE rfl rfl (by decide +kernel) (.on rfl rfl (Qt.load1 rfl rfl rfl ag3)) rfl ?_
 refine na ?_
 refine tk 6 rfl (Qt.binOp rfl rfl (pbCat (by first | omega | (simp only [ByteArray.size_append]; omega)))) ?_
 refine a1 9 [6, 11, 12, 15, 16, 17] [8, 5, 7, 4, 2, 3, 1, 0] rfl rfl (Stp.callV rfl (by decide) Tryz.call205 rfl rfl (VarS_con _)) ?_
 refine na ?_
 refine AWA.againE rfl rfl (by decide +kernel) (.on rfl rfl (Qt.binOp rfl rfl (pbCat (by first | omega | (simp only [ByteArray.size_append]; omega))))) rfl ?_
 refine AWA.againE rfl rfl (by decide +kernel) (.on rfl rfl (fA fl97_3)) rfl ?_
 refine AWA.againE rfl rfl (by decide +kernel) (.on rfl rfl (Qt.load1 rfl rfl rfl ag3)) rfl ?_
 refine AWA.againE rfl rfl (by decide +kernel) (.on rfl rfl (fA fl97_4)) rfl ?_
 refine AWA.againE rfl rfl (by decide +kernel) (.on rfl rfl (fA fl95_0)) rfl ?_
 refine AWA.againE rfl rfl (by decide +kernel) (.on rfl rfl (Qt.load1 rfl rfl rfl ag3)) rfl ?_
 refine na ?_
 refine tk 10 rfl (Qt.binOp rfl rfl (pbCat (by first | omega | (simp only [ByteArray.size_append]; omega)))) ?_
 refine a1 13 [6, 10, 15, 16, 17] [12, 9, 11, 8, 5, 7, 4, 2, 3, 1, 0] rfl rfl (Stp.callV rfl (by decide) Tryz.call205 rfl rfl (VarS_con _)) ?_
 refine na ?_
 refine AWA.againE rfl rfl (by decide +kernel) (.on rfl rfl (Qt.binOp rfl rfl (pbCat (by first | omega | (simp only [ByteArray.size_append]; omega))))) rfl ?_
 refine AWA.againE rfl rfl (by decide +kernel) (.on rfl rfl (Qt.binOp rfl rfl (pbCat (by first | omega | (simp only [ByteArray.size_append]; omega))))) rfl ?_
 refine AWA.againE rfl rfl (by decide +kernel) (.on rfl rfl (fA fl97_4)) rfl ?_
 refine AWA.againE rfl rfl (by decide +kernel) (.on rfl rfl (fA fl95_0)) rfl ?_
 refine AWA.againE rfl rfl (by decide +kernel) (.on rfl rfl (Qt.load1 rfl rfl rfl ag3)) rfl ?_
 refine na ?_
 refine tk 14 rfl (Qt.binOp rfl rfl (pbCat (by first | omega | (simp only [ByteArray.size_append]; omega)))) ?_
 refine a1 18 [6, 10, 14] [17, 13, 16, 12, 9, 15, 11, 8, 5, 7, 4, 2, 3, 1, 0] rfl rfl (Stp.callV rfl (by decide) Tryz.call205 rfl rfl (VarS_con _)) ?_
 refine na ?_
 refine AWA.againE rfl rfl (by decide +kernel) (.on rfl rfl (Qt.binOp rfl rfl (pbCat (by first | omega | (simp only [ByteArray.size_append]; omega))))) rfl ?_
 refine AWA.againE rfl rfl (by decide +kernel) (.on rfl rfl (Qt.binOp rfl rfl (pbCat (by first | omega | (simp only [ByteArray.size_append]; omega))))) rfl ?_
 refine AWA.againE rfl rfl (by decide +kernel) (.on rfl rfl (Qt.binOp rfl rfl (pbCat (by first | omega | (simp only [ByteArray.size_append]; omega))))) rfl ?_
 refine na ?_
 refine tk 19 rfl (Qt.binOp rfl rfl (pbCat (by first | omega | (simp only [ByteArray.size_append]; omega)))) ?_
 refine tk 20 rfl Qt.assign ?_
 refine nz ?_
 refine AW.seq ?_
 refine AW.draw [0, 1, 2, 3, 5, 6, 7, 9, 10, 11, 13, 14, 15, 17, 18, 19, 22, 23] rfl (by decide +kernel) ?_
 refine tk 0 rfl Qt.move ?_
 refine na ?_
 refine tk 1 rfl (fA fl97_4) ?_
 refine tk 2 rfl (fA fl95_1) ?_
 refine tk 3 rfl (Qt.load1 rfl rfl rfl ag27) ?_
 refine na ?_
 refine tk 6 rfl (fA fl97_5) ?_
 refine tk 7 rfl (Qt.load1 rfl rfl rfl ag27) ?_
 refine tk 10 rfl (fA fl97_6) ?_
 refine na ?_
 refine tk 11 rfl (Qt.load1 rfl rfl rfl ag27) ?_
 refine tk 14 rfl (fA fl97_7) ?_
 refine tk 15 rfl (Qt.load1 rfl rfl rfl ag3) ?_
 refine na ?_
 refine tk 18 rfl (fA fl97_8) ?_
 refine tk 19 rfl (Qt.load1 rfl rfl rfl ag3) ?_
 apply AWA.cutS #[true, true, true, true, true, true, true, true, true, true, true, true, true, true, true, true, true, true, true, true, true, false, false, false] [0, 5, 9, 13, 17]
 ·intro K2_3
  apply AWA.cutS #[true, true, true, true, true, true, true, true, true, true, true, true, true, true, true, true, false, false, true, true, true, false, false, false] [0, 5, 9, 13, 14, 15]
  ·intro K2_2
   apply AWA.cutS #[true, true, true, true, true, true, true, true, true, true, true, true, false, false, true, true, false, false, true, true, true, false, false, false] [0, 5, 9, 10, 11, 14, 15]
   ·intro K2_1
    apply AWA.cutS #[true, true, true, true, true, true, true, true, false, false, true, true, false, false, true, true, false, false, true, true, true, false, false, false] [0, 5, 6, 7, 10, 11, 14, 15]
    ·intro K2_0
     refine AWA.anyL [4, 20] (by decide +kernel) rfl ⟨?_, ?_, trivial⟩
     ·refine AWA.arm 4 [0, 6, 7, 10, 11, 14, 15, 18, 19] [3, 2, 1] rfl rfl rfl (by decide +kernel) (by decide +kernel) (by decide +kernel) (Stp.callV rfl (by decide) Tryz.call208 rfl rfl (l20Words_con _ (by first | exact hF.regsW | exact hF.memW | (intro i hi; have h0 : i = 0 := (by simpa using hi); subst h0; exact hF.code)) (by first | (simp; done) | (have := hF.regs; have := hF.mem; omega)))) ?_
      refine na ?_
      refine AWA.againE rfl rfl (by decide +kernel) (.on rfl rfl Qt.move) rfl ?_
      refine AWA.againE rfl rfl (by decide +kernel) (.on rfl rfl (fA fl97_5)) rfl ?_
      refine AWA.againE rfl rfl (by decide +kernel) (.on rfl rfl (Qt.load1 rfl rfl rfl ag27)) rfl ?_
      refine na ?_
      refine AWA.againE rfl rfl (by decide +kernel) (.on rfl rfl (fA fl97_6)) rfl ?_
      refine AWA.againE rfl rfl (by decide +kernel) (.on rfl rfl (Qt.load1 rfl rfl rfl ag27)) rfl ?_
      refine AWA.againE rfl rfl (by decide +kernel) (.on rfl rfl (fA fl97_7)) rfl ?_
      refine na ?_
      refine AWA.againE rfl rfl (by decide +kernel) (.on rfl rfl (Qt.load1 rfl rfl rfl ag3)) rfl ?_
      refine AWA.againE rfl rfl (by decide +kernel) (.on rfl rfl (fA fl97_8)) rfl ?_
      refine AWA.againE rfl rfl (by decide +kernel) (.on rfl rfl (Qt.load1 rfl rfl rfl ag3)) rfl ?_
      refine na ?_
      refine AWA.take 5 rfl rfl rfl (by decide +kernel) (.on rfl rfl (Qt.binOp rfl rfl (pbCat (by first | omega | (simp only [ByteArray.size_append]; omega))))) ?_
      refine AWA.anyL [8, 20] (by decide +kernel) rfl ⟨?_, ?_, trivial⟩
      ·refine AWA.arm 8 [0, 5, 10, 11, 14, 15, 18, 19] [7, 4, 6, 3, 2, 1] rfl rfl rfl (by decide +kernel) (by decide +kernel) (by decide +kernel) (Stp.callV rfl (by decide) Tryz.call208 rfl rfl (l20Words_con _ (by first | exact hF.regsW | exact hF.memW | (intro i hi; have h0 : i = 0 := (by simpa using hi); subst h0; exact hF.code)) (by first | (simp; done) | (have := hF.regs; have := hF.mem; omega)))) ?_
       refine na ?_
       refine AWA.againE rfl rfl (by decide +kernel) (.on rfl rfl Qt.move) rfl ?_
       refine AWA.againE rfl rfl (by decide +kernel) (.on rfl rfl (Qt.binOp rfl rfl (pbCat (by first | omega | (simp only [ByteArray.size_append]; omega))))) rfl ?_
       refine AWA.againE rfl rfl (by decide +kernel) (.on rfl rfl (fA fl97_6)) rfl ?_
       refine na ?_
       refine AWA.againE rfl rfl (by decide +kernel) (.on rfl rfl (Qt.load1 rfl rfl rfl ag27)) rfl ?_
       refine AWA.againE rfl rfl (by decide +kernel) (.on rfl rfl (fA fl97_7)) rfl ?_
       refine AWA.againE rfl rfl (by decide +kernel) (.on rfl rfl (Qt.load1 rfl rfl rfl ag3)) rfl ?_
       refine na ?_
       refine AWA.againE rfl rfl (by decide +kernel) (.on rfl rfl (fA fl97_8)) rfl ?_
       refine AWA.againE rfl rfl (by decide +kernel) (.on rfl rfl (Qt.load1 rfl rfl rfl ag3)) rfl ?_
       refine na ?_
       refine AWA.take 9 rfl rfl rfl (by decide +kernel) (.on rfl rfl (Qt.binOp rfl rfl (pbCat (by first | omega | (simp only [ByteArray.size_append]; omega))))) ?_
       refine AWA.anyL [12, 20] (by decide +kernel) rfl ⟨?_, ?_, trivial⟩
       ·refine AWA.arm 12 [0, 5, 9, 14, 15, 18, 19] [11, 8, 10, 7, 4, 6, 3, 2, 1] rfl rfl rfl (by decide +kernel) (by decide +kernel) (by decide +kernel) (Stp.callV rfl (by decide) Tryz.call296 rfl rfl (l20Plus_con _ (fun i hi => by have := hF.fdsW i hi; omega) (by have := hF.fds; omega))) ?_
        refine na ?_
        refine AWA.againE rfl rfl (by decide +kernel) (.on rfl rfl Qt.move) rfl ?_
        refine AWA.againE rfl rfl (by decide +kernel) (.on rfl rfl (Qt.binOp rfl rfl (pbCat (by first | omega | (simp only [ByteArray.size_append]; omega))))) rfl ?_
        refine AWA.againE rfl rfl (by decide +kernel) (.on rfl rfl (Qt.binOp rfl rfl (pbCat (by first | omega | (simp only [ByteArray.size_append]; omega))))) rfl ?_
        refine na ?_
        refine AWA.againE rfl rfl (by decide +kernel) (.on rfl rfl (fA fl97_7)) rfl ?_
        refine AWA.againE rfl rfl (by decide +kernel) (.on rfl rfl (Qt.load1 rfl rfl rfl ag3)) rfl ?_
        refine AWA.againE rfl rfl (by decide +kernel) (.on rfl rfl (fA fl97_8)) rfl ?_
        refine na ?_
        refine AWA.againE rfl rfl (by decide +kernel) (.on rfl rfl (Qt.load1 rfl rfl rfl ag3)) rfl ?_
        refine na ?_
        refine AWA.take 13 rfl rfl rfl (by decide +kernel) (.on rfl rfl (Qt.binOp rfl rfl (pbCat (by first | omega | (simp only [ByteArray.size_append]; omega))))) ?_
        refine AWA.anyL [16, 20] (by decide +kernel) rfl ⟨?_, ?_, trivial⟩
        ·refine AWA.arm 16 [0, 5, 9, 13, 18, 19] [15, 12, 14, 11, 8, 10, 7, 4, 6, 3, 2, 1] rfl rfl rfl (by decide +kernel) (by decide +kernel) (by decide +kernel) (Stp.callV rfl (by decide) Tryz.call205 rfl rfl (VarS_con _)) ?_
         refine na ?_
         refine AWA.againE rfl rfl (by decide +kernel) (.on rfl rfl Qt.move) rfl ?_
         refine AWA.againE rfl rfl (by decide +kernel) (.on rfl rfl (Qt.binOp rfl rfl (pbCat (by first | omega | (simp only [ByteArray.size_append]; omega))))) rfl ?_
         refine AWA.againE rfl rfl (by decide +kernel) (.on rfl rfl (Qt.binOp rfl rfl (pbCat (by first | omega | (simp only [ByteArray.size_append]; omega))))) rfl ?_
         refine na ?_
         refine AWA.againE rfl rfl (by decide +kernel) (.on rfl rfl (Qt.binOp rfl rfl (pbCat (by first | omega | (simp only [ByteArray.size_append]; omega))))) rfl ?_
         refine AWA.againE rfl rfl (by decide +kernel) (.on rfl rfl (fA fl97_8)) rfl ?_
         refine AWA.againE rfl rfl (by decide +kernel) (.on rfl rfl (Qt.load1 rfl rfl rfl ag3)) rfl ?_
         refine na ?_
         refine AWA.take 17 rfl rfl rfl (by decide +kernel) (.on rfl rfl (Qt.binOp rfl rfl (pbCat (by first | omega | (simp only [ByteArray.size_append]; omega))))) ?_
         refine AWA.one 20 [0, 5, 9, 13, 17] [19, 18] (by decide +kernel) rfl rfl rfl (by decide +kernel) (by decide +kernel) (by decide +kernel) (Stp.buildSlice rfl (by decide) (by decide) rfl (by decide) rfl rfl rfl (nodup_of rfl)) ?_
         refine na ?_
         refine AWA.againE rfl rfl (by decide +kernel) (.on rfl rfl Qt.move) rfl ?_
         refine AWA.againE rfl rfl (by decide +kernel) (.on rfl rfl (Qt.binOp rfl rfl (pbCat (by first | omega | (simp only [ByteArray.size_append]; omega))))) rfl ?_
         refine AWA.againE rfl rfl (by decide +kernel) (.on rfl rfl (Qt.binOp rfl rfl (pbCat (by first | omega | (simp only [ByteArray.size_append]; omega))))) rfl ?_
         refine na ?_
         refine AWA.againE rfl rfl (by decide +kernel) (.on rfl rfl (Qt.binOp rfl rfl (pbCat (by first | omega | (simp only [ByteArray.size_append]; omega))))) rfl ?_
         refine AWA.againE rfl rfl (by decide +kernel) (.on rfl rfl (Qt.binOp rfl rfl (pbCat (by first | omega | (simp only [ByteArray.size_append]; omega))))) rfl ?_
         refine na ?_
         refine AWA.rep 44 (tr ([p.Code] : List Int)) rfl (sim_row1 rfl rfl rfl (fun k hk => match k, hk with | 0, _ => rfl | k + 1, hk => absurd hk (by omega))) ?_
         refine na ?_
         exact AWA.use (by decide +kernel) (by decide +kernel) Weak.refl K2_3
        ·refine AWA.arm 20 [0, 5, 9, 13, 14, 15] [19, 18] rfl rfl rfl (by decide +kernel) (by decide +kernel) (by decide +kernel) (Stp.buildSlice rfl (by decide) (by decide) rfl (by decide) rfl rfl rfl (nodup_of rfl)) ?_
         refine na ?_
         refine AWA.againE rfl rfl (by decide +kernel) (.on rfl rfl Qt.move) rfl ?_
         refine AWA.againE rfl rfl (by decide +kernel) (.on rfl rfl (Qt.binOp rfl rfl (pbCat (by first | omega | (simp only [ByteArray.size_append]; omega))))) rfl ?_
         refine AWA.againE rfl rfl (by decide +kernel) (.on rfl rfl (Qt.binOp rfl rfl (pbCat (by first | omega | (simp only [ByteArray.size_append]; omega))))) rfl ?_
         refine na ?_
         refine AWA.againE rfl rfl (by decide +kernel) (.on rfl rfl (Qt.binOp rfl rfl (pbCat (by first | omega | (simp only [ByteArray.size_append]; omega))))) rfl ?_
         refine AWA.againE rfl rfl (by decide +kernel) (.on rfl rfl (fA fl97_7)) rfl ?_
         refine AWA.againE rfl rfl (by decide +kernel) (.on rfl rfl (Qt.load1 rfl rfl rfl ag3)) rfl ?_
         refine na ?_
         refine AWA.rep 44 (tr ([p.Code] : List Int)) rfl (sim_row1 rfl rfl rfl (fun k hk => match k, hk with | 0, _ => rfl | k + 1, hk => absurd hk (by omega))) ?_
         refine na ?_
         exact AWA.use (by decide +kernel) (by decide +kernel) Weak.refl K2_2
       ·refine AWA.arm 20 [0, 5, 9, 10, 11, 14, 15] [19, 18] rfl rfl rfl (by decide +kernel) (by decide +kernel) (by decide +kernel) (Stp.buildSlice rfl (by decide) (by decide) rfl (by decide) rfl rfl rfl (nodup_of rfl)) ?_
        refine na ?_
        refine AWA.againE rfl rfl (by decide +kernel) (.on rfl rfl Qt.move) rfl ?_
        refine AWA.againE rfl rfl (by decide +kernel) (.on rfl rfl (Qt.binOp rfl rfl (pbCat (by first | omega | (simp only [ByteArray.size_append]; omega))))) rfl ?_
        refine AWA.againE rfl rfl (by decide +kernel) (.on rfl rfl (Qt.binOp rfl rfl (pbCat (by first | omega | (simp only [ByteArray.size_append]; omega))))) rfl ?_
        refine na ?_
        refine AWA.againE rfl rfl (by decide +kernel) (.on rfl rfl (fA fl97_6)) rfl ?_
        refine AWA.againE rfl rfl (by decide +kernel) (.on rfl rfl (Qt.load1 rfl rfl rfl ag27)) rfl ?_
        refine AWA.againE rfl rfl (by decide +kernel) (.on rfl rfl (fA fl97_7)) rfl ?_
        refine na ?_
        refine AWA.againE rfl rfl (by decide +kernel) (.on rfl rfl (Qt.load1 rfl rfl rfl ag3)) rfl ?_
        refine na ?_
        refine AWA.rep 44 (tr ([p.Code] : List Int)) rfl (sim_row1 rfl rfl rfl (fun k hk => match k, hk with | 0, _ => rfl | k + 1, hk => absurd hk (by omega))) ?_
        refine na ?_
        exact AWA.use (by decide +kernel) (by decide +kernel) Weak.refl K2_1
      ·refine AWA.arm 20 [0, 5, 6, 7, 10, 11, 14, 15] [19, 18] rfl rfl rfl (by decide +kernel) (by decide +kernel) (by decide +kernel) (Stp.buildSlice rfl (by decide) (by decide) rfl (by decide) rfl rfl rfl (nodup_of rfl)) ?_
       refine na ?_
       refine AWA.againE rfl rfl (by decide +kernel) (.on rfl rfl Qt.move) rfl ?_
       refine AWA.againE rfl rfl (by decide +kernel) (.on rfl rfl (Qt.binOp rfl rfl (pbCat (by first | omega | (simp only [ByteArray.size_append]; omega))))) rfl ?_
       refine AWA.againE rfl rfl (by decide +kernel) (.on rfl rfl (fA fl97_5)) rfl ?_
       refine na ?_
       refine AWA.againE rfl rfl (by decide +kernel) (.on rfl rfl (Qt.load1 rfl rfl rfl ag27)) rfl ?_
       refine AWA.againE rfl rfl (by decide +kernel) (.on rfl rfl (fA fl97_6)) rfl ?_
       refine AWA.againE rfl rfl (by decide +kernel) (.on rfl rfl (Qt.load1 rfl rfl rfl ag27)) rfl ?_
       refine na ?_
       refine AWA.againE rfl rfl (by decide +kernel) (.on rfl rfl (fA fl97_7)) rfl ?_
       refine AWA.againE rfl rfl (by decide +kernel) (.on rfl rfl (Qt.load1 rfl rfl rfl ag3)) rfl ?_
       refine na ?_
       refine AWA.rep 44 (tr ([p.Code] : List Int)) rfl (sim_row1 rfl rfl rfl (fun k hk => match k, hk with | 0, _ => rfl | k + 1, hk => absurd hk (by omega))) ?_
       refine na ?_
       exact AWA.use (by decide +kernel) (by decide +kernel) Weak.refl K2_0
     ·refine AWA.arm 20 [0, 1, 2, 3, 6, 7, 10, 11, 14, 15] [19, 18] rfl rfl rfl (by decide +kernel) (by decide +kernel) (by decide +kernel) (Stp.buildSlice rfl (by decide) (by decide) rfl (by decide) rfl rfl rfl (nodup_of rfl)) ?_
      refine na ?_
      refine AWA.againE rfl rfl (by decide +kernel) (.on rfl rfl Qt.move) rfl ?_
      refine AWA.againE rfl rfl (by decide +kernel) (.on rfl rfl (fA fl97_4)) rfl ?_
      refine AWA.againE rfl rfl (by decide +kernel) (.on rfl rfl (fA fl95_1)) rfl ?_
      refine na ?_
      refine AWA.againE rfl rfl (by decide +kernel) (.on rfl rfl (Qt.load1 rfl rfl rfl ag27)) rfl ?_
      refine AWA.againE rfl rfl (by decide +kernel) (.on rfl rfl (fA fl97_5)) rfl ?_
      refine AWA.againE rfl rfl (by decide +kernel) (.on rfl rfl (Qt.load1 rfl rfl rfl ag27)) rfl ?_
      refine na ?_
      refine AWA.againE rfl rfl (by decide +kernel) (.on rfl rfl (fA fl97_6)) rfl ?_
      refine AWA.againE rfl rfl (by decide +kernel) (.on rfl rfl (Qt.load1 rfl rfl rfl ag27)) rfl ?_
      refine AWA.againE rfl rfl (by decide +kernel) (.on rfl rfl (fA fl97_7)) rfl ?_
      refine na ?_
      refine AWA.againE rfl rfl (by decide +kernel) (.on rfl rfl (Qt.load1 rfl rfl rfl ag3)) rfl ?_
      refine na ?_
      refine AWA.rep 44 (tr ([p.Code] : List Int)) rfl (sim_row1 rfl rfl rfl (fun k hk => match k, hk with | 0, _ => rfl | k + 1, hk => absurd hk (by omega))) ?_
      refine na ?_
      refine AWA.one 4 [0, 6, 7, 10, 11, 14, 15] [3, 2, 1] (by decide +kernel) rfl rfl rfl (by decide +kernel) (by decide +kernel) (by decide +kernel) (Stp.callV rfl (by decide) Tryz.call208 rfl rfl (l20Words_con _ (by first | exact hF.regsW | exact hF.memW | (intro i hi; have h0 : i = 0 := (by simpa using hi); subst h0; exact hF.code)) (by first | (simp; done) | (have := hF.regs; have := hF.mem; omega)))) ?_
      refine na ?_
      refine AWA.againE rfl rfl (by decide +kernel) (.on rfl rfl Qt.move) rfl ?_
      refine AWA.againE rfl rfl (by decide +kernel) (.on rfl rfl (fA fl97_5)) rfl ?_
      refine AWA.againE rfl rfl (by decide +kernel) (.on rfl rfl (Qt.load1 rfl rfl rfl ag27)) rfl ?_
      refine na ?_
      refine AWA.againE rfl rfl (by decide +kernel) (.on rfl rfl (fA fl97_6)) rfl ?_
      refine AWA.againE rfl rfl (by decide +kernel) (.on rfl rfl (Qt.load1 rfl rfl rfl ag27)) rfl ?_
      refine AWA.againE rfl rfl (by decide +kernel) (.on rfl rfl (fA fl97_7)) rfl ?_
      refine na ?_
      refine AWA.againE rfl rfl (by decide +kernel) (.on rfl rfl (Qt.load1 rfl rfl rfl ag3)) rfl ?_
      refine na ?_
      refine AWA.take 5 rfl rfl rfl (by decide +kernel) (.on rfl rfl (Qt.binOp rfl rfl (pbCat (by first | omega | (simp only [ByteArray.size_append]; omega))))) ?_
      refine na ?_
      exact AWA.use (by decide +kernel) (by decide +kernel) (Weak.sim (by repeat (first | exact trivial | refine ⟨rfl, ?_⟩ | refine ⟨⟨_, rfl, T.sim_refl _⟩, ?_⟩ | refine ⟨⟨rfl, rfl⟩, ?_⟩)) rfl rfl) K2_0
    ·refine AWA.one 8 [0, 5, 10, 11, 14, 15] [7, 4, 6, 3, 2, 1] (by decide +kernel) rfl rfl rfl (by decide +kernel) (by decide +kernel) (by decide +kernel) (Stp.callV rfl (by decide) Tryz.call208 rfl rfl (l20Words_con _ (by first | exact hF.regsW | exact hF.memW | (intro i hi; have h0 : i = 0 := (by simpa using hi); subst h0; exact hF.code)) (by first | (simp; done) | (have := hF.regs; have := hF.mem; omega)))) ?_
     refine na ?_
     refine AWA.againE rfl rfl (by decide +kernel) (.on rfl rfl Qt.move) rfl ?_
     refine AWA.againE rfl rfl (by decide +kernel) (.on rfl rfl (Qt.binOp rfl rfl (pbCat (by first | omega | (simp only [ByteArray.size_append]; omega))))) rfl ?_
     refine AWA.againE rfl rfl (by decide +kernel) (.on rfl rfl (fA fl97_6)) rfl ?_
     refine na ?_
     refine AWA.againE rfl rfl (by decide +kernel) (.on rfl rfl (Qt.load1 rfl rfl rfl ag27)) rfl ?_
     refine AWA.againE rfl rfl (by decide +kernel) (.on rfl rfl (fA fl97_7)) rfl ?_
     refine AWA.againE rfl rfl (by decide +kernel) (.on rfl rfl (Qt.load1 rfl rfl rfl ag3)) rfl ?_
     refine na ?_
     refine AWA.take 9 rfl rfl rfl (by decide +kernel) (.on rfl rfl (Qt.binOp rfl rfl (pbCat (by first | omega | (simp only [ByteArray.size_append]; omega))))) ?_
     refine na ?_
     exact AWA.use (by decide +kernel) (by decide +kernel) (Weak.sim (by repeat (first | exact trivial | refine ⟨rfl, ?_⟩ | refine ⟨⟨_, rfl, T.sim_refl _⟩, ?_⟩ | refine ⟨⟨rfl, rfl⟩, ?_⟩)) rfl rfl) K2_1
   ·refine AWA.one 12 [0, 5, 9, 14, 15] [11, 8, 10, 7, 4, 6, 3, 2, 1] (by decide +kernel) rfl rfl rfl (by decide +kernel) (by decide +kernel) (by decide +kernel) (Stp.callV rfl (by decide) Tryz.call296 rfl rfl (l20Plus_con _ (fun i hi => by have := hF.fdsW i hi; omega) (by have := hF.fds; omega))) ?_
    refine na ?_
    refine AWA.againE rfl rfl (by decide +kernel) (.on rfl rfl Qt.move) rfl ?_
    refine AWA.againE rfl rfl (by decide +kernel) (.on rfl rfl (Qt.binOp rfl rfl (pbCat (by first | omega | (simp only [ByteArray.size_append]; omega))))) rfl ?_
    refine AWA.againE rfl rfl (by decide +kernel) (.on rfl rfl (Qt.binOp rfl rfl (pbCat (by first | omega | (simp only [ByteArray.size_append]; omega))))) rfl ?_
    refine na ?_
    refine AWA.againE rfl rfl (by decide +kernel) (.on rfl rfl (fA fl97_7)) rfl ?_
    refine AWA.againE rfl rfl (by decide +kernel) (.on rfl rfl (Qt.load1 rfl rfl rfl ag3)) rfl ?_
    refine na ?_
    refine AWA.take 13 rfl rfl rfl (by decide +kernel) (.on rfl rfl (Qt.binOp rfl rfl (pbCat (by first | omega | (simp only [ByteArray.size_append]; omega))))) ?_
    refine na ?_
    exact AWA.use (by decide +kernel) (by decide +kernel) (Weak.sim (by repeat (first | exact trivial | refine ⟨rfl, ?_⟩ | refine ⟨⟨_, rfl, T.sim_refl _⟩, ?_⟩ | refine ⟨⟨rfl, rfl⟩, ?_⟩)) rfl rfl) K2_2
  ·refine AWA.one 16 [0, 5, 9, 13] [15, 12, 14, 11, 8, 10, 7, 4, 6, 3, 2, 1] (by decide +kernel) rfl rfl rfl (by decide +kernel) (by decide +kernel) (by decide +kernel) (Stp.callV rfl (by decide) Tryz.call205 rfl rfl (VarS_con _)) ?_
   refine na ?_
   refine AWA.againE rfl rfl (by decide +kernel) (.on rfl rfl Qt.move) rfl ?_
   refine AWA.againE rfl rfl (by decide +kernel) (.on rfl rfl (Qt.binOp rfl rfl (pbCat (by first | omega | (simp only [ByteArray.size_append]; omega))))) rfl ?_
   refine AWA.againE rfl rfl (by decide +kernel) (.on rfl rfl (Qt.binOp rfl rfl (pbCat (by first | omega | (simp only [ByteArray.size_append]; omega))))) rfl ?_
   refine na ?_
   refine AWA.againE rfl rfl (by decide +kernel) (.on rfl rfl (Qt.binOp rfl rfl (pbCat (by first | omega | (simp only [ByteArray.size_append]; omega))))) rfl ?_
   refine na ?_
   refine AWA.take 17 rfl rfl rfl (by decide +kernel) (.on rfl rfl (Qt.binOp rfl rfl (pbCat (by first | omega | (simp only [ByteArray.size_append]; omega))))) ?_
   refine na ?_
   exact AWA.use (by decide +kernel) (by decide +kernel) (Weak.sim (by repeat (first | exact trivial | refine ⟨rfl, ?_⟩ | refine ⟨⟨_, rfl, T.sim_refl _⟩, ?_⟩ | refine ⟨⟨rfl, rfl⟩, ?_⟩)) rfl rfl) K2_3
 ·refine AWA.one 21 [0, 5, 9, 13, 17] [20, 16, 19, 15, 12, 18, 14, 11, 8, 10, 7, 4, 6, 3, 2, 1] (by decide +kernel) rfl rfl rfl (by decide +kernel) (by decide +kernel) (by decide +kernel) (Stp.callV rfl (by decide) Tryz.call208 rfl rfl (l20Words_con _ (by first | exact hF.regsW | exact hF.memW | (intro i hi; have h0 : i = 0 := (by simpa using hi); subst h0; exact hF.code)) (by first | (simp; done) | (have := hF.regs; have := hF.mem; omega)))) ?_
  refine na ?_
  refine AWA.againE rfl rfl (by decide +kernel) (.on rfl rfl Qt.move) rfl ?_
  refine AWA.againE rfl rfl (by decide +kernel) (.on rfl rfl (Qt.binOp rfl rfl (pbCat (by first | omega | (simp only [ByteArray.size_append]; omega))))) rfl ?_
  refine AWA.againE rfl rfl (by decide +kernel) (.on rfl rfl (Qt.binOp rfl rfl (pbCat (by first | omega | (simp only [ByteArray.size_append]; omega))))) rfl ?_
  refine na ?_
  refine AWA.againE rfl rfl (by decide +kernel) (.on rfl rfl (Qt.binOp rfl rfl (pbCat (by first | omega | (simp only [ByteArray.size_append]; omega))))) rfl ?_
  refine AWA.againE rfl rfl (by decide +kernel) (.on rfl rfl (Qt.binOp rfl rfl (pbCat (by first | omega | (simp only [ByteArray.size_append]; omega))))) rfl ?_
  refine na ?_
  refine AWA.take 22 rfl rfl rfl (by decide +kernel) (.on rfl rfl (Qt.binOp rfl rfl (pbCat (by first | omega | (simp only [ByteArray.size_append]; omega))))) ?_
  refine AWA.take 23 rfl rfl rfl (by decide +kernel) (.on rfl rfl Qt.assign) ?_
  refine nz ?_
  refine AW.ret (endQ_ret (.cons (.tmp 2) .nil) ?_)
  rfl
end Go.Proofs.YtimmbmphfgnelaaGreat.VM
