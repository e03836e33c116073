/- Contracts. No conditions. -/
import Derived.Test.YtldefnpobjabpaaGreatCUQ
import Derived.Test.YtldefnpobjabpaaGreatCUS
import Derived.Test.YtldefnpobjabpaaGreatCUF
set_option linter.all false
set_option maxHeartbeats 8000000
set_option maxRecDepth 10000
namespace Go.Proofs.YtldefnpobjabpaaGreat.VM
open Go Go.RowKit Go.Proofs
theorem varsS3 (a b c : Int) : varsS [a, b, c] = (varS a ++ varS b) ++ varS c := by simp [varsS, catN]
theorem varsS5 (a b c d e : Int) : varsS [a, b, c, d, e] = (((varS a ++ varS b) ++ varS c) ++ varS d) ++ varS e := by simp [varsS, catN]
theorem ShowUnixI_con (u : DUnix) (hb : unixB u) : Con Tryz.prog 172 [.g [.v (iv u.Next), .v (iv u.Tick), .h base [], .h (base + 1) [], .h (base + 2) [], .h (base + 3) [], .h (base + 4) [], .h (base + 5) [], .h (base + 6) []]] [.rt base .ro (tr u.Progs), .rt (base + 1) .ro (tr u.Procs), .rt (base + 2) .ro (tr u.Opens), .rt (base + 3) .ro (tr u.Pipes), .rt (base + 4) .ro (tr u.Files), .rt (base + 5) .ro (tr u.Ready), .rt (base + 6) .ro (tr u.Out)] (fun y _ => y = .v (.string (showU u))) := by
 refine ob Tryz.func172 Tryz.ntmps172 ?_
 refine AW.len (base) [] rfl (by simp [Okp]) rfl (fun hl0 => ?_)
 refine AW.len (base + 1) [] rfl (by simp [Okp]) rfl (fun hlx1 => ?_)
 refine AW.len (base + 2) [] rfl (by simp [Okp]) rfl (fun hlx2 => ?_)
 refine AW.len (base + 3) [] rfl (by simp [Okp]) rfl (fun hlx3 => ?_)
 refine AW.len (base + 4) [] rfl (by simp [Okp]) rfl (fun hlx4 => ?_)
 refine AW.len (base + 5) [] rfl (by simp [Okp]) rfl (fun hlx5 => ?_)
 refine AW.len (base + 6) [] rfl (by simp [Okp]) rfl (fun hlx6 => ?_)
 refine go [.R,.B,.N,.a,.Z,.R2,.G] (k := ?_)
 refine cv Tryz.call83 rfl rfl (UnixOkI_con _ hb) ?_
 refine go [.N,.n,.Z] (k := ?_)
 refine cd (fun c1 => ?_) fun c1 => ?_
 ·try simp only [cnd] at c1
  refine go [.R,.a,.Z] (k := ?_)
  refine rt1 2 ?_
  simp only [retX, slotL, reduceIte, Nat.reduceEqDiff]
  congr 2
  rw [showU, if_neg (by grind only)]
  rfl
 try simp only [cnd] at c1
 have hu : unixOk u = true := by grind only
 have hF := showF_of hu
 have hu1 := varS_size u.Next
 have hu2 := varS_size u.Tick
 have hu9 := wordsS_size u.Out
 have hu10 := hF.out
 have hu11 := hF.ready
 have hu12 := hF.opens
 have hu13 := hF.files
 have hu14 := hF.pipes
 have hu15 := hF.procs
 have hu16 := hF.progs
 have hu20 : (⟨#[117]⟩ : ByteArray).size = 1 := rfl
 have hn0 := varS_size u.Progs.length
 have ho0 := wzA_size hF (k := 0) (Nat.zero_le _)
 have hp0 := wzA_size hF (Nat.le_refl _)
 have hn1 := varS_size u.Procs.length
 have ho1 := wzP_size hF (k := 0) (Nat.zero_le _)
 have hp1 := wzP_size hF (Nat.le_refl _)
 have hn2 := varS_size u.Opens.length
 have ho2 := wzO_size hF (k := 0) (Nat.zero_le _)
 have hp2 := wzO_size hF (Nat.le_refl _)
 have hn3 := varS_size u.Pipes.length
 have ho3 := wzI_size hF (k := 0) (Nat.zero_le _)
 have hp3 := wzI_size hF (Nat.le_refl _)
 have hn4 := varS_size u.Files.length
 have ho4 := wzF_size hF (k := 0) (Nat.zero_le _)
 have hp4 := wzF_size hF (Nat.le_refl _)
 have hn5 := varS_size u.Ready.length
 have ho5 := wzR_size hF (k := 0) (Nat.zero_le _)
 have hp5 := wzR_size hF (Nat.le_refl _)
 refine go [.J,.R,.f,.N,.l,.f,.l,.N,.f,.l,.h,.N,.S] (k := ?_)
 refine AWL.rep 24 (tr ([u.Next, u.Tick, (u.Progs.length : Int)] : List Int)) rfl (sim_row1 rfl rfl rfl (fun k hk => match k, hk with | 0, _ => rfl | 1, _ => rfl | 2, _ => rfl | k + 3, hk => absurd hk (by omega))) ?_
 refine go [.N] (k := ?_)
 refine cv Tryz.call232 rfl rfl (vars_con _ (by simp)) ?_
 refine go [.N,.S] (k := ?_)
 refine AWL.rep 26 (tr ([⟨#[117]⟩, varsS [u.Next, u.Tick, (u.Progs.length : Int)]] : List ByteArray)) rfl (sim_row1 rfl rfl rfl (fun k hk => match k, hk with | 0, _ => rfl | 1, _ => rfl | k + 2, hk => absurd hk (by omega))) ?_
 refine go [.N,.a,.Z,.R2,.f,.l,.N,.h,.m,.Z] (k := ?_)
 refine AW.block ?_
 refine AW.weak (L' := [.sl 30 (.v (iv (0 : Nat))), .sl 3 (.h 26 []), .rt 1 .box (T.s 9 1 fun k c => ([(T.v (iv u.Next), none), (T.v (iv u.Tick), none), (T.j, none), (T.j, none), (T.j, none), (T.j, none), (T.j, none), (T.j, none), (T.j, none)].getD (k * 9 + c) (T.j, none)).fst), .al 1 2 (.h base []), .al 1 3 (.h (base + 1) []), .al 1 4 (.h (base + 2) []), .al 1 5 (.h (base + 3) []), .al 1 6 (.h (base + 4) []), .al 1 7 (.h (base + 5) []), .al 1 8 (.h (base + 6) []), .rt base .ro (tr u.Progs), .rt (base + 1) .ro (tr u.Procs), .rt (base + 2) .ro (tr u.Opens), .rt (base + 3) .ro (tr u.Pipes), .rt (base + 4) .ro (tr u.Files), .rt (base + 5) .ro (tr u.Ready), .rt (base + 6) .ro (tr u.Out), .sl 1 (.p 1 [] 9 0 0), .sl 28 (.h base []), .sl 29 (.v (iv u.Progs.length)), .rt 26 .row (tr [⟨#[117]⟩, varsS [u.Next, u.Tick, (u.Progs.length : Int)]])]) (ws) ?_
 refine AW.loop (fun i : JInv (wzA u) u.Progs.length 2 1 => [.sl 30 (.v (iv i.k)), .sl 3 (.h 26 []), .rt 1 .box (T.s 9 1 fun k c => ([(T.v (iv u.Next), none), (T.v (iv u.Tick), none), (T.j, none), (T.j, none), (T.j, none), (T.j, none), (T.j, none), (T.j, none), (T.j, none)].getD (k * 9 + c) (T.j, none)).fst), .al 1 2 (.h base []), .al 1 3 (.h (base + 1) []), .al 1 4 (.h (base + 2) []), .al 1 5 (.h (base + 3) []), .al 1 6 (.h (base + 4) []), .al 1 7 (.h (base + 5) []), .al 1 8 (.h (base + 6) []), .rt base .ro (tr u.Progs), .rt (base + 1) .ro (tr u.Procs), .rt (base + 2) .ro (tr u.Opens), .rt (base + 3) .ro (tr u.Pipes), .rt (base + 4) .ro (tr u.Files), .rt (base + 5) .ro (tr u.Ready), .rt (base + 6) .ro (tr u.Out), .sl 1 (.p 1 [] 9 0 0), .sl 28 (.h base []), .sl 29 (.v (iv u.Progs.length)), .rt 26 .row (tr i.acc)]) (fun i => u.Progs.length - i.k) ⟨0, Nat.zero_le _, [⟨#[117]⟩, varsS [u.Next, u.Tick, (u.Progs.length : Int)]], by rw [wzA_zero, varsS3]; simp [joinB, strU, ByteArray.append_assoc], by simp⟩ ?_
 intro i
 have hle := i.le
 have hq0 := wzA_size hF (k := i.k) (by omega)
 have hx0 := wzA_succ u i.k
 have hal0 := i.len
 refine go [.R,.b,.Z] (k := ?_)
 refine AW.seq ?_
 refine cd (fun c2 => ?_) fun c2 => ?_
 ·try simp only [cnd] at c2
  have hpi := hF.prog i.k (by omega)
  have hpz : (showK (u.Progs.getD i.k En.dflt) (u.Progs.getD i.k En.dflt).length).size ≤ 1127 := progB_size hpi
  have hpf := progFacts hpi
  have hpe : showP (u.Progs.getD i.k En.dflt) = progB (u.Progs.getD i.k En.dflt) := if_pos hpi
  refine jd (AW.seq (AW.block (sr ?_)))
  refine go [.i,.N,.l,.a,.Z,.R1,.m,.N,.m] (k := ?_)
  refine cv Tryz.call233 rfl rfl (ShowProgI_con _) ?_
  refine go [.N,.S,.N] (k := ?_)
  refine sp (by first | exact Stp.appendC rfl (by decide) (by decide) rfl rfl (by omega) | exact Stp.appendM rfl (by decide) (by decide) rfl rfl rfl (by omega)) ?_
  refine AWL.rep 38 (tr (i.acc ++ [showP (u.Progs.getD i.k En.dflt)])) rfl (app_strs rfl (fun k hk => match k, hk with | 0, _ => rfl | k + 1, hk => absurd hk (by omega))) ?_
  refine go [.N,.a,.Z,.R1,.b,.m,.Z] (k := ?_)
  refine ⟨⟨i.k + 1, by omega, i.acc ++ [showP (u.Progs.getD i.k En.dflt)], i.next [showP (u.Progs.getD i.k En.dflt)] (by rw [hx0, ← hpe]; rfl), i.more [showP (u.Progs.getD i.k En.dflt)] rfl⟩, Weak.trans (Weak.renR (a := 38) (b := 26) rfl (by decide) (by decide)) (ws), ?_⟩
  show u.Progs.length - (i.k + 1) < u.Progs.length - i.k
  omega
 try simp only [cnd] at c2
 refine AW.exit ?_
 dsimp only [thenQ, blockQ, reduceIte]
 refine go [.R,.m,.N,.f,.l,.h,.N] (k := ?_)
 refine cv Tryz.call234 rfl rfl (VarI_con _) ?_
 refine go [.N,.S,.N] (k := ?_)
 refine sp (by first | exact Stp.appendC rfl (by decide) (by decide) rfl rfl (by omega) | exact Stp.appendM rfl (by decide) (by decide) rfl rfl rfl (by omega)) ?_
 refine AWL.rep 46 (tr (i.acc ++ [varS (u.Procs.length : Int)])) rfl (app_strs rfl (fun k hk => match k, hk with | 0, _ => rfl | k + 1, hk => absurd hk (by omega))) ?_
 refine go [.N,.a,.Z,.R2,.f,.l,.N,.h,.m,.Z] (k := ?_)
 refine AW.block ?_
 refine AW.weak (L' := [.sl 50 (.v (iv (0 : Nat))), .sl 3 (.h 46 []), .rt 1 .box (T.s 9 1 fun k c => ([(T.v (iv u.Next), none), (T.v (iv u.Tick), none), (T.j, none), (T.j, none), (T.j, none), (T.j, none), (T.j, none), (T.j, none), (T.j, none)].getD (k * 9 + c) (T.j, none)).fst), .al 1 2 (.h base []), .al 1 3 (.h (base + 1) []), .al 1 4 (.h (base + 2) []), .al 1 5 (.h (base + 3) []), .al 1 6 (.h (base + 4) []), .al 1 7 (.h (base + 5) []), .al 1 8 (.h (base + 6) []), .rt base .ro (tr u.Progs), .rt (base + 1) .ro (tr u.Procs), .rt (base + 2) .ro (tr u.Opens), .rt (base + 3) .ro (tr u.Pipes), .rt (base + 4) .ro (tr u.Files), .rt (base + 5) .ro (tr u.Ready), .rt (base + 6) .ro (tr u.Out), .sl 1 (.p 1 [] 9 0 0), .sl 48 (.h (base + 1) []), .sl 49 (.v (iv u.Procs.length)), .rt 46 .row (tr (i.acc ++ [varS (u.Procs.length : Int)]))]) (ws) ?_
 refine AW.loop (fun j : JInv (wzP u) u.Procs.length 7 6 => [.sl 50 (.v (iv j.k)), .sl 3 (.h 46 []), .rt 1 .box (T.s 9 1 fun k c => ([(T.v (iv u.Next), none), (T.v (iv u.Tick), none), (T.j, none), (T.j, none), (T.j, none), (T.j, none), (T.j, none), (T.j, none), (T.j, none)].getD (k * 9 + c) (T.j, none)).fst), .al 1 2 (.h base []), .al 1 3 (.h (base + 1) []), .al 1 4 (.h (base + 2) []), .al 1 5 (.h (base + 3) []), .al 1 6 (.h (base + 4) []), .al 1 7 (.h (base + 5) []), .al 1 8 (.h (base + 6) []), .rt base .ro (tr u.Progs), .rt (base + 1) .ro (tr u.Procs), .rt (base + 2) .ro (tr u.Opens), .rt (base + 3) .ro (tr u.Pipes), .rt (base + 4) .ro (tr u.Files), .rt (base + 5) .ro (tr u.Ready), .rt (base + 6) .ro (tr u.Out), .sl 1 (.p 1 [] 9 0 0), .sl 48 (.h (base + 1) []), .sl 49 (.v (iv u.Procs.length)), .rt 46 .row (tr j.acc)]) (fun j => u.Procs.length - j.k) ⟨0, Nat.zero_le _, (i.acc ++ [varS (u.Procs.length : Int)]), by rw [joinB_app, i.eq, wzP_zero, show wzA u i.k = wzA u u.Progs.length from congrArg (wzA u) (show i.k = u.Progs.length by omega)]; rfl, by have hq := i.len; simp only [List.length_append, List.length_cons, List.length_nil]; omega⟩ ?_
 intro j
 have hlej := j.le
 have hq1 := wzP_size hF (k := j.k) (by omega)
 have hx1 := wzP_succ u j.k
 have hal1 := j.len
 refine go [.R,.b,.Z] (k := ?_)
 refine AW.seq ?_
 refine cd (fun c3 => ?_) fun c3 => ?_
 ·try simp only [cnd] at c3
  have hpi := hF.proc j.k (by omega)
  have hpz := procB_size hpi
  refine jd (AW.seq (AW.block (sr ?_)))
  refine go [.i,.N,.G,.A,.N,.s,.Z,.D [0, 1, 2, 3, 4, 5, 6, 7, 8, 9, 10, 11, 14, 15, 16, 18, 19, 21, 22, 24, 25, 27, 28],.t 0,.m,.N,.t 1,.f,.t 2,.l,.t 3,.f,.N,.t 4,.l,.t 5,.f,.t 6,.l,.N,.t 7,.f,.t 8,.l,.t 9,.f,.N,.t 10,.f,.t 11,.l,.t 14,.f,.N,.t 15,.f,.t 16,.l,.t 18,.f,.N,.t 19,.l,.t 21,.f,.t 22,.l,.N,.t 24,.f,.t 25,.l,.t 27,.f,.N,.t 28,.l] (k := ?_)
  apply AWA.cutS #[true, true, true, true, true, true, true, true, true, true, true, true, true, true, true, true, true, true, true, true, true, true, true, true, true, true, true, true, true, true, false, false, false, false] [0]
  ·intro K13_5
   apply AWA.cutS #[true, true, true, true, true, true, true, true, true, true, true, true, true, true, true, true, true, true, true, true, true, true, true, true, true, true, false, true, true, true, false, false, false, false] [0, 24, 25]
   ·intro K13_4
    apply AWA.cutS #[true, true, true, true, true, true, true, true, true, true, true, true, true, true, true, true, true, true, true, true, true, true, true, false, true, true, false, true, true, true, false, false, false, false] [0, 21, 22, 24, 25]
    ·intro K13_3
     apply AWA.cutS #[true, true, true, true, true, true, true, true, true, true, true, true, true, true, true, true, true, true, true, true, false, true, true, false, true, true, false, true, true, true, false, false, false, false] [0, 18, 19, 21, 22, 24, 25]
     ·intro K13_2
      apply AWA.cutS #[true, true, true, true, true, true, true, true, true, true, true, true, true, true, true, true, true, false, true, true, false, true, true, false, true, true, false, true, true, true, false, false, false, false] [0, 14, 15, 16, 18, 19, 21, 22, 24, 25]
      ·intro K13_1
       apply AWA.cutS #[true, true, true, true, true, true, true, true, true, true, true, true, true, false, true, true, true, false, true, true, false, true, true, false, true, true, false, true, true, true, false, false, false, false] [0, 14, 15, 16, 18, 19, 21, 22, 24, 25]
       ·intro K13_0
        refine AWA.anyL [12, 29] (by decide +kernel) rfl ⟨?_, ?_, trivial⟩
        ·refine AWA.arm 12 [0, 14, 15, 16, 18, 19, 21, 22, 24, 25, 27, 28] [11, 8, 6, 4, 2, 10, 7, 5, 3, 1, 9] rfl rfl rfl (by decide +kernel) (by decide +kernel) (by decide +kernel) sS ?_
         refine go [.N,.g,.m,.g,.f,.g,.f,.N,.g,.l,.g,.f,.g,.l,.N,.g,.f,.g,.l,.g,.f,.N,.g,.l,.g,.f,.g,.l,.N] (k := ?_)
         refine AWA.rep 66 (tr ([(u.Procs.getD j.k En.dflt).Pid, (u.Procs.getD j.k En.dflt).Parent, (u.Procs.getD j.k En.dflt).State, (u.Procs.getD j.k En.dflt).Prog, (u.Procs.getD j.k En.dflt).Cpu.Pc] : List Int)) rfl (sim_row1 rfl rfl rfl (fun k hk => match k, hk with | 0, _ => rfl | 1, _ => rfl | 2, _ => rfl | 3, _ => rfl | 4, _ => rfl | k + 5, hk => absurd hk (by omega))) ?_
         refine go [.N] (k := ?_)
         refine AWA.anyL [13, 29] (by decide +kernel) rfl ⟨?_, ?_, trivial⟩
         ·refine AWA.arm 13 [0, 14, 15, 16, 18, 19, 21, 22, 24, 25, 27, 28] [12, 11, 8, 6, 4, 2, 10, 7, 5, 3, 1, 9] rfl rfl rfl (by decide +kernel) (by decide +kernel) (by decide +kernel) (Stp.callV rfl (by decide) Tryz.call232 rfl rfl (vars_con _ (by simp))) ?_
          refine go [.N,.g,.m,.g,.f,.g,.f,.N,.g,.l,.g,.f,.g,.l,.N,.g,.f,.g,.l,.g,.f,.N,.g,.l,.g,.f,.g,.l,.N] (k := ?_)
          refine AWA.anyL [17, 29] (by decide +kernel) rfl ⟨?_, ?_, trivial⟩
          ·refine AWA.arm 17 [0, 18, 19, 21, 22, 24, 25, 27, 28] [16, 13, 15, 12, 14, 11, 8, 6, 4, 2, 10, 7, 5, 3, 1, 9] rfl rfl rfl (by decide +kernel) (by decide +kernel) (by decide +kernel) (Stp.callV rfl (by decide) Tryz.call235 rfl rfl (wordList_con _ (by first | exact hF.outW | exact hpi.2 | exact hpi.regsW | exact hpi.memW | (intro i hi; have h0 : i = 0 := (by simpa using hi); subst h0; exact hpi.code)) (by first | omega | (simp; done) | (have := hpi.1; omega) | (have := hpi.regs; have := hpi.mem; omega)))) ?_
           refine go [.N,.g,.m,.g,.f,.g,.l,.N,.g,.f,.g,.l,.g,.f,.N,.g,.l,.g,.f,.g,.l,.N] (k := ?_)
           refine AWA.anyL [20, 29] (by decide +kernel) rfl ⟨?_, ?_, trivial⟩
           ·refine AWA.arm 20 [0, 21, 22, 24, 25, 27, 28] [19, 17, 18, 16, 13, 15, 12, 14, 11, 8, 6, 4, 2, 10, 7, 5, 3, 1, 9] rfl rfl rfl (by decide +kernel) (by decide +kernel) (by decide +kernel) (Stp.callV rfl (by decide) Tryz.call235 rfl rfl (wordList_con _ (by first | exact hF.outW | exact hpi.2 | exact hpi.regsW | exact hpi.memW | (intro i hi; have h0 : i = 0 := (by simpa using hi); subst h0; exact hpi.code)) (by first | omega | (simp; done) | (have := hpi.1; omega) | (have := hpi.regs; have := hpi.mem; omega)))) ?_
            refine go [.N,.g,.m,.g,.f,.g,.l,.N,.g,.f,.g,.l,.g,.f,.N,.g,.l,.N] (k := ?_)
            refine AWA.anyL [23, 29] (by decide +kernel) rfl ⟨?_, ?_, trivial⟩
            ·refine AWA.arm 23 [0, 24, 25, 27, 28] [22, 20, 21, 19, 17, 18, 16, 13, 15, 12, 14, 11, 8, 6, 4, 2, 10, 7, 5, 3, 1, 9] rfl rfl rfl (by decide +kernel) (by decide +kernel) (by decide +kernel) (Stp.callV rfl (by decide) Tryz.call236 rfl rfl (plainList_con _ _ (by first | (intro i hi; have := hF.readyW i hi; omega) | (intro i hi; have := hpi.fdsW i hi; omega)) (by first | omega | (have := hpi.fds; omega)) (by omega) (by omega))) ?_
             refine go [.N,.g,.m,.g,.f,.g,.l,.N,.g,.f,.g,.l,.N] (k := ?_)
             refine AWA.anyL [26, 29] (by decide +kernel) rfl ⟨?_, ?_, trivial⟩
             ·refine AWA.arm 26 [0, 27, 28] [25, 23, 24, 22, 20, 21, 19, 17, 18, 16, 13, 15, 12, 14, 11, 8, 6, 4, 2, 10, 7, 5, 3, 1, 9] rfl rfl rfl (by decide +kernel) (by decide +kernel) (by decide +kernel) (Stp.callV rfl (by decide) Tryz.call234 rfl rfl (VarI_con _)) ?_
              refine go [.N,.g,.m,.g,.f,.g,.l,.N] (k := ?_)
              refine AWA.one 29 [0] [28, 27] (by decide +kernel) rfl rfl rfl (by decide +kernel) (by decide +kernel) (by decide +kernel) sS ?_
              refine go [.N,.g,.m,.N] (k := ?_)
              refine AWA.rep 83 (tr ([(u.Procs.getD j.k En.dflt).Code] : List Int)) rfl (sim_row1 rfl rfl rfl (fun k hk => match k, hk with | 0, _ => rfl | k + 1, hk => absurd hk (by omega))) ?_
              refine go [.N] (k := ?_)
              exact auR K13_5
             ·refine AWA.arm 29 [0, 24, 25] [28, 27] rfl rfl rfl (by decide +kernel) (by decide +kernel) (by decide +kernel) sS ?_
              refine go [.N,.g,.m,.g,.f,.g,.l,.N] (k := ?_)
              refine AWA.rep 83 (tr ([(u.Procs.getD j.k En.dflt).Code] : List Int)) rfl (sim_row1 rfl rfl rfl (fun k hk => match k, hk with | 0, _ => rfl | k + 1, hk => absurd hk (by omega))) ?_
              refine go [.N] (k := ?_)
              exact auR K13_4
            ·refine AWA.arm 29 [0, 21, 22, 24, 25] [28, 27] rfl rfl rfl (by decide +kernel) (by decide +kernel) (by decide +kernel) sS ?_
             refine go [.N,.g,.m,.g,.f,.g,.l,.N,.g,.f,.g,.l,.N] (k := ?_)
             refine AWA.rep 83 (tr ([(u.Procs.getD j.k En.dflt).Code] : List Int)) rfl (sim_row1 rfl rfl rfl (fun k hk => match k, hk with | 0, _ => rfl | k + 1, hk => absurd hk (by omega))) ?_
             refine go [.N] (k := ?_)
             exact auR K13_3
           ·refine AWA.arm 29 [0, 18, 19, 21, 22, 24, 25] [28, 27] rfl rfl rfl (by decide +kernel) (by decide +kernel) (by decide +kernel) sS ?_
            refine go [.N,.g,.m,.g,.f,.g,.l,.N,.g,.f,.g,.l,.g,.f,.N,.g,.l,.N] (k := ?_)
            refine AWA.rep 83 (tr ([(u.Procs.getD j.k En.dflt).Code] : List Int)) rfl (sim_row1 rfl rfl rfl (fun k hk => match k, hk with | 0, _ => rfl | k + 1, hk => absurd hk (by omega))) ?_
            refine go [.N] (k := ?_)
            exact auR K13_2
          ·refine AWA.arm 29 [0, 14, 15, 16, 18, 19, 21, 22, 24, 25] [28, 27] rfl rfl rfl (by decide +kernel) (by decide +kernel) (by decide +kernel) sS ?_
           refine go [.N,.g,.m,.g,.f,.g,.f,.N,.g,.l,.g,.f,.g,.l,.N,.g,.f,.g,.l,.g,.f,.N,.g,.l,.N] (k := ?_)
           refine AWA.rep 83 (tr ([(u.Procs.getD j.k En.dflt).Code] : List Int)) rfl (sim_row1 rfl rfl rfl (fun k hk => match k, hk with | 0, _ => rfl | k + 1, hk => absurd hk (by omega))) ?_
           refine go [.N] (k := ?_)
           exact auR K13_1
         ·refine AWA.arm 29 [0, 14, 15, 16, 18, 19, 21, 22, 24, 25] [28, 27] rfl rfl rfl (by decide +kernel) (by decide +kernel) (by decide +kernel) sS ?_
          refine go [.N,.g,.m,.g,.f,.g,.f,.N,.g,.l,.g,.f,.g,.l,.N,.g,.f,.g,.l,.g,.f,.N,.g,.l,.N] (k := ?_)
          refine AWA.rep 83 (tr ([(u.Procs.getD j.k En.dflt).Code] : List Int)) rfl (sim_row1 rfl rfl rfl (fun k hk => match k, hk with | 0, _ => rfl | k + 1, hk => absurd hk (by omega))) ?_
          refine go [.N] (k := ?_)
          exact auR K13_0
        ·refine AWA.arm 29 [0, 1, 2, 3, 4, 5, 6, 7, 8, 9, 10, 11, 14, 15, 16, 18, 19, 21, 22, 24, 25] [28, 27] rfl rfl rfl (by decide +kernel) (by decide +kernel) (by decide +kernel) sS ?_
         refine go [.N,.g,.m,.g,.f,.g,.l,.N,.g,.f,.g,.l,.g,.f,.N,.g,.l,.g,.f,.g,.l,.N,.g,.f,.g,.f,.g,.l,.N,.g,.f,.g,.f,.g,.l,.N,.g,.f,.g,.l,.g,.f,.N,.g,.l,.g,.f,.g,.l,.N] (k := ?_)
         refine AWA.rep 83 (tr ([(u.Procs.getD j.k En.dflt).Code] : List Int)) rfl (sim_row1 rfl rfl rfl (fun k hk => match k, hk with | 0, _ => rfl | k + 1, hk => absurd hk (by omega))) ?_
         refine go [.N] (k := ?_)
         refine AWA.one 12 [0, 14, 15, 16, 18, 19, 21, 22, 24, 25] [11, 8, 6, 4, 2, 10, 7, 5, 3, 1, 9] (by decide +kernel) rfl rfl rfl (by decide +kernel) (by decide +kernel) (by decide +kernel) sS ?_
         refine go [.N,.g,.m,.g,.f,.g,.f,.N,.g,.l,.g,.f,.g,.l,.N,.g,.f,.g,.l,.g,.f,.N,.g,.l,.N] (k := ?_)
         refine AWA.rep 66 (tr ([(u.Procs.getD j.k En.dflt).Pid, (u.Procs.getD j.k En.dflt).Parent, (u.Procs.getD j.k En.dflt).State, (u.Procs.getD j.k En.dflt).Prog, (u.Procs.getD j.k En.dflt).Cpu.Pc] : List Int)) rfl (sim_row1 rfl rfl rfl (fun k hk => match k, hk with | 0, _ => rfl | 1, _ => rfl | 2, _ => rfl | 3, _ => rfl | 4, _ => rfl | k + 5, hk => absurd hk (by omega))) ?_
         refine go [.N] (k := ?_)
         exact auP K13_0
       ·refine AWA.one 13 [0, 14, 15, 16, 18, 19, 21, 22, 24, 25] [12, 11, 8, 6, 4, 2, 10, 7, 5, 3, 1, 9] (by decide +kernel) rfl rfl rfl (by decide +kernel) (by decide +kernel) (by decide +kernel) (Stp.callV rfl (by decide) Tryz.call232 rfl rfl (vars_con _ (by simp))) ?_
        refine go [.N,.g,.m,.g,.f,.g,.f,.N,.g,.l,.g,.f,.g,.l,.N,.g,.f,.g,.l,.g,.f,.N,.g,.l,.N] (k := ?_)
        exact auP K13_1
      ·refine AWA.one 17 [0, 18, 19, 21, 22, 24, 25] [16, 13, 15, 12, 14, 11, 8, 6, 4, 2, 10, 7, 5, 3, 1, 9] (by decide +kernel) rfl rfl rfl (by decide +kernel) (by decide +kernel) (by decide +kernel) (Stp.callV rfl (by decide) Tryz.call235 rfl rfl (wordList_con _ (by first | exact hF.outW | exact hpi.2 | exact hpi.regsW | exact hpi.memW | (intro i hi; have h0 : i = 0 := (by simpa using hi); subst h0; exact hpi.code)) (by first | omega | (simp; done) | (have := hpi.1; omega) | (have := hpi.regs; have := hpi.mem; omega)))) ?_
       refine go [.N,.g,.m,.g,.f,.g,.l,.N,.g,.f,.g,.l,.g,.f,.N,.g,.l,.N] (k := ?_)
       exact auP K13_2
     ·refine AWA.one 20 [0, 21, 22, 24, 25] [19, 17, 18, 16, 13, 15, 12, 14, 11, 8, 6, 4, 2, 10, 7, 5, 3, 1, 9] (by decide +kernel) rfl rfl rfl (by decide +kernel) (by decide +kernel) (by decide +kernel) (Stp.callV rfl (by decide) Tryz.call235 rfl rfl (wordList_con _ (by first | exact hF.outW | exact hpi.2 | exact hpi.regsW | exact hpi.memW | (intro i hi; have h0 : i = 0 := (by simpa using hi); subst h0; exact hpi.code)) (by first | omega | (simp; done) | (have := hpi.1; omega) | (have := hpi.regs; have := hpi.mem; omega)))) ?_
      refine go [.N,.g,.m,.g,.f,.g,.l,.N,.g,.f,.g,.l,.N] (k := ?_)
      exact auP K13_3
    ·refine AWA.one 23 [0, 24, 25] [22, 20, 21, 19, 17, 18, 16, 13, 15, 12, 14, 11, 8, 6, 4, 2, 10, 7, 5, 3, 1, 9] (by decide +kernel) rfl rfl rfl (by decide +kernel) (by decide +kernel) (by decide +kernel) (Stp.callV rfl (by decide) Tryz.call236 rfl rfl (plainList_con _ _ (by first | (intro i hi; have := hF.readyW i hi; omega) | (intro i hi; have := hpi.fdsW i hi; omega)) (by first | omega | (have := hpi.fds; omega)) (by omega) (by omega))) ?_
     refine go [.N,.g,.m,.g,.f,.g,.l,.N] (k := ?_)
     exact auP K13_4
   ·refine AWA.one 26 [0] [25, 23, 24, 22, 20, 21, 19, 17, 18, 16, 13, 15, 12, 14, 11, 8, 6, 4, 2, 10, 7, 5, 3, 1, 9] (by decide +kernel) rfl rfl rfl (by decide +kernel) (by decide +kernel) (by decide +kernel) (Stp.callV rfl (by decide) Tryz.call234 rfl rfl (VarI_con _)) ?_
    refine go [.N,.g,.m,.N] (k := ?_)
    exact auP K13_5
  ·refine AWA.one 30 [0] [29, 26, 28, 25, 23, 27, 24, 22, 20, 21, 19, 17, 18, 16, 13, 15, 12, 14, 11, 8, 6, 4, 2, 10, 7, 5, 3, 1, 9] (by decide +kernel) rfl rfl rfl (by decide +kernel) (by decide +kernel) (by decide +kernel) (Stp.callV rfl (by decide) Tryz.call235 rfl rfl (wordList_con _ (by first | exact hF.outW | exact hpi.2 | exact hpi.regsW | exact hpi.memW | (intro i hi; have h0 : i = 0 := (by simpa using hi); subst h0; exact hpi.code)) (by first | omega | (simp; done) | (have := hpi.1; omega) | (have := hpi.regs; have := hpi.mem; omega)))) ?_
   refine go [.N,.g,.m,.N] (k := ?_)
   refine AWA.one 31 [0] [30, 26, 23, 20, 17, 13, 29, 25, 22, 19, 16, 12, 28, 24, 21, 18, 15, 11, 8, 6, 4, 2, 27, 14, 10, 7, 5, 3, 1, 9] (by decide +kernel) rfl rfl rfl (by decide +kernel) (by decide +kernel) (by decide +kernel) sS ?_
   refine go [.N,.g,.m,.N] (k := ?_)
   refine AWA.one 32 [] [31, 30, 0, 26, 23, 20, 17, 13, 29, 25, 22, 19, 16, 12, 28, 24, 21, 18, 15, 11, 8, 6, 4, 2, 27, 14, 10, 7, 5, 3, 1, 9] (by decide +kernel) rfl rfl rfl (by decide +kernel) (by decide +kernel) (by decide +kernel) (by first | exact Stp.appendC rfl (by decide) (by decide) rfl rfl (by omega) | exact Stp.appendM rfl (by decide) (by decide) rfl rfl rfl (by omega)) ?_
   refine go [.N] (k := ?_)
   refine AWA.rep 86 (tr (j.acc ++ [varsS [(u.Procs.getD j.k En.dflt).Pid, (u.Procs.getD j.k En.dflt).Parent, (u.Procs.getD j.k En.dflt).State, (u.Procs.getD j.k En.dflt).Prog, (u.Procs.getD j.k En.dflt).Cpu.Pc], wordsS (u.Procs.getD j.k En.dflt).Cpu.Regs, wordsS (u.Procs.getD j.k En.dflt).Mem, plusS 1 (u.Procs.getD j.k En.dflt).Fds, varS (u.Procs.getD j.k En.dflt).Until, wordsS [(u.Procs.getD j.k En.dflt).Code]])) rfl (app_strs rfl (fun k hk => match k, hk with | 0, _ => rfl | 1, _ => rfl | 2, _ => rfl | 3, _ => rfl | 4, _ => rfl | 5, _ => rfl | k + 6, hk => absurd hk (by omega))) ?_
   refine go [.N] (k := ?_)
   refine AWA.one 33 [] [32, 31, 30, 29, 28, 27, 26, 25, 24, 23, 22, 21, 20, 19, 18, 17, 16, 15, 14, 13, 12, 11, 10, 9, 8, 7, 6, 5, 4, 3, 2, 1, 0] (by decide +kernel) rfl rfl rfl (by decide +kernel) (by decide +kernel) (by decide +kernel) (Stp.q rfl (by decide) Qt.assign) ?_
   refine go [.N,.Z,.R1,.b,.m,.Z] (k := ?_)
   refine ⟨⟨j.k + 1, by omega, j.acc ++ [varsS [(u.Procs.getD j.k En.dflt).Pid, (u.Procs.getD j.k En.dflt).Parent, (u.Procs.getD j.k En.dflt).State, (u.Procs.getD j.k En.dflt).Prog, (u.Procs.getD j.k En.dflt).Cpu.Pc], wordsS (u.Procs.getD j.k En.dflt).Cpu.Regs, wordsS (u.Procs.getD j.k En.dflt).Mem, plusS 1 (u.Procs.getD j.k En.dflt).Fds, varS (u.Procs.getD j.k En.dflt).Until, wordsS [(u.Procs.getD j.k En.dflt).Code]], j.next [varsS [(u.Procs.getD j.k En.dflt).Pid, (u.Procs.getD j.k En.dflt).Parent, (u.Procs.getD j.k En.dflt).State, (u.Procs.getD j.k En.dflt).Prog, (u.Procs.getD j.k En.dflt).Cpu.Pc], wordsS (u.Procs.getD j.k En.dflt).Cpu.Regs, wordsS (u.Procs.getD j.k En.dflt).Mem, plusS 1 (u.Procs.getD j.k En.dflt).Fds, varS (u.Procs.getD j.k En.dflt).Until, wordsS [(u.Procs.getD j.k En.dflt).Code]] (by rw [hx1]; simp only [List.foldl_cons, List.foldl_nil, procB, varsS5, ByteArray.append_assoc]), j.more [varsS [(u.Procs.getD j.k En.dflt).Pid, (u.Procs.getD j.k En.dflt).Parent, (u.Procs.getD j.k En.dflt).State, (u.Procs.getD j.k En.dflt).Prog, (u.Procs.getD j.k En.dflt).Cpu.Pc], wordsS (u.Procs.getD j.k En.dflt).Cpu.Regs, wordsS (u.Procs.getD j.k En.dflt).Mem, plusS 1 (u.Procs.getD j.k En.dflt).Fds, varS (u.Procs.getD j.k En.dflt).Until, wordsS [(u.Procs.getD j.k En.dflt).Code]] rfl⟩, Weak.trans (Weak.renR (a := 86) (b := 46) rfl (by decide) (by decide)) (ws), ?_⟩
   show u.Procs.length - (j.k + 1) < u.Procs.length - j.k
   omega
 try simp only [cnd] at c3
 refine AW.exit ?_
 dsimp only [thenQ, blockQ, reduceIte]
 refine go [.R,.m,.N,.f,.l,.h,.N] (k := ?_)
 refine cv Tryz.call234 rfl rfl (VarI_con _) ?_
 refine go [.N,.S,.N] (k := ?_)
 refine sp (by first | exact Stp.appendC rfl (by decide) (by decide) rfl rfl (by omega) | exact Stp.appendM rfl (by decide) (by decide) rfl rfl rfl (by omega)) ?_
 refine AWL.rep 94 (tr (j.acc ++ [varS (u.Opens.length : Int)])) rfl (app_strs rfl (fun k hk => match k, hk with | 0, _ => rfl | k + 1, hk => absurd hk (by omega))) ?_
 refine go [.N,.a,.Z,.R2,.f,.l,.N,.h,.m,.Z] (k := ?_)
 refine AW.block ?_
 refine AW.weak (L' := [.sl 98 (.v (iv (0 : Nat))), .sl 3 (.h 94 []), .rt 1 .box (T.s 9 1 fun k c => ([(T.v (iv u.Next), none), (T.v (iv u.Tick), none), (T.j, none), (T.j, none), (T.j, none), (T.j, none), (T.j, none), (T.j, none), (T.j, none)].getD (k * 9 + c) (T.j, none)).fst), .al 1 2 (.h base []), .al 1 3 (.h (base + 1) []), .al 1 4 (.h (base + 2) []), .al 1 5 (.h (base + 3) []), .al 1 6 (.h (base + 4) []), .al 1 7 (.h (base + 5) []), .al 1 8 (.h (base + 6) []), .rt base .ro (tr u.Progs), .rt (base + 1) .ro (tr u.Procs), .rt (base + 2) .ro (tr u.Opens), .rt (base + 3) .ro (tr u.Pipes), .rt (base + 4) .ro (tr u.Files), .rt (base + 5) .ro (tr u.Ready), .rt (base + 6) .ro (tr u.Out), .sl 1 (.p 1 [] 9 0 0), .sl 96 (.h (base + 2) []), .sl 97 (.v (iv u.Opens.length)), .rt 94 .row (tr (j.acc ++ [varS (u.Opens.length : Int)]))]) (ws) ?_
 refine AW.loop (fun m : JInv (wzO u) u.Opens.length 44 1 => [.sl 98 (.v (iv m.k)), .sl 3 (.h 94 []), .rt 1 .box (T.s 9 1 fun k c => ([(T.v (iv u.Next), none), (T.v (iv u.Tick), none), (T.j, none), (T.j, none), (T.j, none), (T.j, none), (T.j, none), (T.j, none), (T.j, none)].getD (k * 9 + c) (T.j, none)).fst), .al 1 2 (.h base []), .al 1 3 (.h (base + 1) []), .al 1 4 (.h (base + 2) []), .al 1 5 (.h (base + 3) []), .al 1 6 (.h (base + 4) []), .al 1 7 (.h (base + 5) []), .al 1 8 (.h (base + 6) []), .rt base .ro (tr u.Progs), .rt (base + 1) .ro (tr u.Procs), .rt (base + 2) .ro (tr u.Opens), .rt (base + 3) .ro (tr u.Pipes), .rt (base + 4) .ro (tr u.Files), .rt (base + 5) .ro (tr u.Ready), .rt (base + 6) .ro (tr u.Out), .sl 1 (.p 1 [] 9 0 0), .sl 96 (.h (base + 2) []), .sl 97 (.v (iv u.Opens.length)), .rt 94 .row (tr m.acc)]) (fun m => u.Opens.length - m.k) ⟨0, Nat.zero_le _, (j.acc ++ [varS (u.Opens.length : Int)]), by rw [joinB_app, j.eq, wzO_zero, show wzP u j.k = wzP u u.Procs.length from congrArg (wzP u) (show j.k = u.Procs.length by omega)]; rfl, by have hq := j.len; simp only [List.length_append, List.length_cons, List.length_nil]; omega⟩ ?_
 intro m
 have hlem := m.le
 have hq2 := wzO_size hF (k := m.k) (by omega)
 have hx2 := wzO_succ u m.k
 have hy2_0 := varS_size (u.Opens.getD m.k En.dflt).Id
 have hy2_1 := varS_size (u.Opens.getD m.k En.dflt).Kind
 have hy2_2 := varS_size (u.Opens.getD m.k En.dflt).Target
 have hy2_3 := varS_size (u.Opens.getD m.k En.dflt).Off
 have hy2_4 := varS_size (u.Opens.getD m.k En.dflt).Refs
 have hal2 := m.len
 refine go [.R,.b,.Z] (k := ?_)
 refine AW.seq ?_
 refine cd (fun c4 => ?_) fun c4 => ?_
 ·try simp only [cnd] at c4
  refine jd (AW.seq (AW.block (sr ?_)))
  refine go [.i,.N,.G,.A,.N,.s,.Z,.R1,.m,.N,.f,.l,.f,.N,.l,.f,.l,.N,.f,.l,.f,.N,.l,.S] (k := ?_)
  refine AWL.rep 113 (tr ([(u.Opens.getD m.k En.dflt).Id, (u.Opens.getD m.k En.dflt).Kind, (u.Opens.getD m.k En.dflt).Target, (u.Opens.getD m.k En.dflt).Off, (u.Opens.getD m.k En.dflt).Refs] : List Int)) rfl (sim_row1 rfl rfl rfl (fun k hk => match k, hk with | 0, _ => rfl | 1, _ => rfl | 2, _ => rfl | 3, _ => rfl | 4, _ => rfl | k + 5, hk => absurd hk (by omega))) ?_
  refine go [.N] (k := ?_)
  refine cv Tryz.call232 rfl rfl (vars_con _ (by simp)) ?_
  refine go [.N,.S,.N] (k := ?_)
  refine sp (by first | exact Stp.appendC rfl (by decide) (by decide) rfl rfl (by omega) | exact Stp.appendM rfl (by decide) (by decide) rfl rfl rfl (by omega)) ?_
  refine AWL.rep 116 (tr (m.acc ++ [varsS [(u.Opens.getD m.k En.dflt).Id, (u.Opens.getD m.k En.dflt).Kind, (u.Opens.getD m.k En.dflt).Target, (u.Opens.getD m.k En.dflt).Off, (u.Opens.getD m.k En.dflt).Refs]])) rfl (app_strs rfl (fun k hk => match k, hk with | 0, _ => rfl | k + 1, hk => absurd hk (by omega))) ?_
  refine go [.N,.a,.Z,.R1,.b,.m,.Z] (k := ?_)
  refine ⟨⟨m.k + 1, by omega, m.acc ++ [varsS [(u.Opens.getD m.k En.dflt).Id, (u.Opens.getD m.k En.dflt).Kind, (u.Opens.getD m.k En.dflt).Target, (u.Opens.getD m.k En.dflt).Off, (u.Opens.getD m.k En.dflt).Refs]], m.next [varsS [(u.Opens.getD m.k En.dflt).Id, (u.Opens.getD m.k En.dflt).Kind, (u.Opens.getD m.k En.dflt).Target, (u.Opens.getD m.k En.dflt).Off, (u.Opens.getD m.k En.dflt).Refs]] (by rw [hx2]; simp only [List.foldl_cons, List.foldl_nil, openB, varsS5, ByteArray.append_assoc]), m.more [varsS [(u.Opens.getD m.k En.dflt).Id, (u.Opens.getD m.k En.dflt).Kind, (u.Opens.getD m.k En.dflt).Target, (u.Opens.getD m.k En.dflt).Off, (u.Opens.getD m.k En.dflt).Refs]] rfl⟩, Weak.trans (Weak.renR (a := 116) (b := 94) rfl (by decide) (by decide)) (ws), ?_⟩
  show u.Opens.length - (m.k + 1) < u.Opens.length - m.k
  omega
 try simp only [cnd] at c4
 refine AW.exit ?_
 dsimp only [thenQ, blockQ, reduceIte]
 refine go [.R,.m,.N,.f,.l,.h,.N] (k := ?_)
 refine cv Tryz.call234 rfl rfl (VarI_con _) ?_
 refine go [.N,.S,.N] (k := ?_)
 refine sp (by first | exact Stp.appendC rfl (by decide) (by decide) rfl rfl (by omega) | exact Stp.appendM rfl (by decide) (by decide) rfl rfl rfl (by omega)) ?_
 refine AWL.rep 124 (tr (m.acc ++ [varS (u.Pipes.length : Int)])) rfl (app_strs rfl (fun k hk => match k, hk with | 0, _ => rfl | k + 1, hk => absurd hk (by omega))) ?_
 refine go [.N,.a,.Z,.R2,.f,.l,.N,.h,.m,.Z] (k := ?_)
 refine AW.block ?_
 refine AW.weak (L' := [.sl 128 (.v (iv (0 : Nat))), .sl 3 (.h 124 []), .rt 1 .box (T.s 9 1 fun k c => ([(T.v (iv u.Next), none), (T.v (iv u.Tick), none), (T.j, none), (T.j, none), (T.j, none), (T.j, none), (T.j, none), (T.j, none), (T.j, none)].getD (k * 9 + c) (T.j, none)).fst), .al 1 2 (.h base []), .al 1 3 (.h (base + 1) []), .al 1 4 (.h (base + 2) []), .al 1 5 (.h (base + 3) []), .al 1 6 (.h (base + 4) []), .al 1 7 (.h (base + 5) []), .al 1 8 (.h (base + 6) []), .rt base .ro (tr u.Progs), .rt (base + 1) .ro (tr u.Procs), .rt (base + 2) .ro (tr u.Opens), .rt (base + 3) .ro (tr u.Pipes), .rt (base + 4) .ro (tr u.Files), .rt (base + 5) .ro (tr u.Ready), .rt (base + 6) .ro (tr u.Out), .sl 1 (.p 1 [] 9 0 0), .sl 126 (.h (base + 3) []), .sl 127 (.v (iv u.Pipes.length)), .rt 124 .row (tr (m.acc ++ [varS (u.Pipes.length : Int)]))]) (ws) ?_
 refine AW.loop (fun n : JInv (wzI u) u.Pipes.length 53 2 => [.sl 128 (.v (iv n.k)), .sl 3 (.h 124 []), .rt 1 .box (T.s 9 1 fun k c => ([(T.v (iv u.Next), none), (T.v (iv u.Tick), none), (T.j, none), (T.j, none), (T.j, none), (T.j, none), (T.j, none), (T.j, none), (T.j, none)].getD (k * 9 + c) (T.j, none)).fst), .al 1 2 (.h base []), .al 1 3 (.h (base + 1) []), .al 1 4 (.h (base + 2) []), .al 1 5 (.h (base + 3) []), .al 1 6 (.h (base + 4) []), .al 1 7 (.h (base + 5) []), .al 1 8 (.h (base + 6) []), .rt base .ro (tr u.Progs), .rt (base + 1) .ro (tr u.Procs), .rt (base + 2) .ro (tr u.Opens), .rt (base + 3) .ro (tr u.Pipes), .rt (base + 4) .ro (tr u.Files), .rt (base + 5) .ro (tr u.Ready), .rt (base + 6) .ro (tr u.Out), .sl 1 (.p 1 [] 9 0 0), .sl 126 (.h (base + 3) []), .sl 127 (.v (iv u.Pipes.length)), .rt 124 .row (tr n.acc)]) (fun n => u.Pipes.length - n.k) ⟨0, Nat.zero_le _, (m.acc ++ [varS (u.Pipes.length : Int)]), by rw [joinB_app, m.eq, wzI_zero, show wzO u m.k = wzO u u.Opens.length from congrArg (wzO u) (show m.k = u.Opens.length by omega)]; rfl, by have hq := m.len; simp only [List.length_append, List.length_cons, List.length_nil]; omega⟩ ?_
 intro n
 have hlen := n.le
 have hq3 := wzI_size hF (k := n.k) (by omega)
 have hx3 := wzI_succ u n.k
 have hy3_0 := varS_size (u.Pipes.getD n.k En.dflt).Id
 have hz3 := wordsS_size (u.Pipes.getD n.k En.dflt).Data
 have hal3 := n.len
 refine go [.R,.b,.Z] (k := ?_)
 refine AW.seq ?_
 refine cd (fun c5 => ?_) fun c5 => ?_
 ·try simp only [cnd] at c5
  have hpi := hF.pipe n.k (by omega)
  refine jd (AW.seq (AW.block (sr ?_)))
  refine go [.i,.N,.G,.A,.N,.s,.Z,.D [0, 1, 2, 4, 5],.t 0,.m,.N,.t 1,.f,.t 2,.l,.t 4,.f,.N,.t 5,.l] (k := ?_)
  refine a1 3 [0, 4, 5] [2, 1] rfl rfl (Stp.callV rfl (by decide) Tryz.call234 rfl rfl (VarI_con _)) ?_
  refine go [.N,.g,.m,.g,.f,.g,.l,.N] (k := ?_)
  refine a1 6 [0] [5, 3, 4, 2, 1] rfl rfl (Stp.callV rfl (by decide) Tryz.call235 rfl rfl (wordList_con _ (by first | exact hF.outW | exact hpi.2 | exact hpi.regsW | exact hpi.memW | (intro i hi; have h0 : i = 0 := (by simpa using hi); subst h0; exact hpi.code)) (by first | omega | (simp; done) | (have := hpi.1; omega) | (have := hpi.regs; have := hpi.mem; omega)))) ?_
  refine go [.N,.g,.m,.N,.O 7 [0] [6, 3, 5, 2, 4, 1],.S,.N,.g,.m,.N] (k := ?_)
  refine a1 8 [] [7, 6, 0, 3, 5, 2, 4, 1] rfl rfl (by first | exact Stp.appendC rfl (by decide) (by decide) rfl rfl (by omega) | exact Stp.appendM rfl (by decide) (by decide) rfl rfl rfl (by omega)) ?_
  refine go [.N] (k := ?_)
  refine AWA.rep 140 (tr (n.acc ++ [varS (u.Pipes.getD n.k En.dflt).Id, wordsS (u.Pipes.getD n.k En.dflt).Data])) rfl (app_strs rfl (fun k hk => match k, hk with | 0, _ => rfl | 1, _ => rfl | k + 2, hk => absurd hk (by omega))) ?_
  refine go [.N] (k := ?_)
  refine a1 9 [] [8, 7, 6, 5, 4, 3, 2, 1, 0] rfl rfl (Stp.q rfl (by decide) Qt.assign) ?_
  refine go [.N,.Z,.R1,.b,.m,.Z] (k := ?_)
  refine ⟨⟨n.k + 1, by omega, n.acc ++ [varS (u.Pipes.getD n.k En.dflt).Id, wordsS (u.Pipes.getD n.k En.dflt).Data], n.next [varS (u.Pipes.getD n.k En.dflt).Id, wordsS (u.Pipes.getD n.k En.dflt).Data] (by rw [hx3]; simp only [List.foldl_cons, List.foldl_nil, pipeB, ByteArray.append_assoc]), n.more [varS (u.Pipes.getD n.k En.dflt).Id, wordsS (u.Pipes.getD n.k En.dflt).Data] rfl⟩, Weak.trans (Weak.renR (a := 140) (b := 124) rfl (by decide) (by decide)) (ws), ?_⟩
  show u.Pipes.length - (n.k + 1) < u.Pipes.length - n.k
  omega
 try simp only [cnd] at c5
 refine AW.exit ?_
 dsimp only [thenQ, blockQ, reduceIte]
 refine go [.R,.m,.N,.f,.l,.h,.N] (k := ?_)
 refine cv Tryz.call234 rfl rfl (VarI_con _) ?_
 refine go [.N,.S,.N] (k := ?_)
 refine sp (by first | exact Stp.appendC rfl (by decide) (by decide) rfl rfl (by omega) | exact Stp.appendM rfl (by decide) (by decide) rfl rfl rfl (by omega)) ?_
 refine AWL.rep 148 (tr (n.acc ++ [varS (u.Files.length : Int)])) rfl (app_strs rfl (fun k hk => match k, hk with | 0, _ => rfl | k + 1, hk => absurd hk (by omega))) ?_
 refine go [.N,.a,.Z,.R2,.f,.l,.N,.h,.m,.Z] (k := ?_)
 refine AW.block ?_
 refine AW.weak (L' := [.sl 152 (.v (iv (0 : Nat))), .sl 3 (.h 148 []), .rt 1 .box (T.s 9 1 fun k c => ([(T.v (iv u.Next), none), (T.v (iv u.Tick), none), (T.j, none), (T.j, none), (T.j, none), (T.j, none), (T.j, none), (T.j, none), (T.j, none)].getD (k * 9 + c) (T.j, none)).fst), .al 1 2 (.h base []), .al 1 3 (.h (base + 1) []), .al 1 4 (.h (base + 2) []), .al 1 5 (.h (base + 3) []), .al 1 6 (.h (base + 4) []), .al 1 7 (.h (base + 5) []), .al 1 8 (.h (base + 6) []), .rt base .ro (tr u.Progs), .rt (base + 1) .ro (tr u.Procs), .rt (base + 2) .ro (tr u.Opens), .rt (base + 3) .ro (tr u.Pipes), .rt (base + 4) .ro (tr u.Files), .rt (base + 5) .ro (tr u.Ready), .rt (base + 6) .ro (tr u.Out), .sl 1 (.p 1 [] 9 0 0), .sl 150 (.h (base + 4) []), .sl 151 (.v (iv u.Files.length)), .rt 148 .row (tr (n.acc ++ [varS (u.Files.length : Int)]))]) (ws) ?_
 refine AW.loop (fun o : JInv (wzF u) u.Files.length 60 2 => [.sl 152 (.v (iv o.k)), .sl 3 (.h 148 []), .rt 1 .box (T.s 9 1 fun k c => ([(T.v (iv u.Next), none), (T.v (iv u.Tick), none), (T.j, none), (T.j, none), (T.j, none), (T.j, none), (T.j, none), (T.j, none), (T.j, none)].getD (k * 9 + c) (T.j, none)).fst), .al 1 2 (.h base []), .al 1 3 (.h (base + 1) []), .al 1 4 (.h (base + 2) []), .al 1 5 (.h (base + 3) []), .al 1 6 (.h (base + 4) []), .al 1 7 (.h (base + 5) []), .al 1 8 (.h (base + 6) []), .rt base .ro (tr u.Progs), .rt (base + 1) .ro (tr u.Procs), .rt (base + 2) .ro (tr u.Opens), .rt (base + 3) .ro (tr u.Pipes), .rt (base + 4) .ro (tr u.Files), .rt (base + 5) .ro (tr u.Ready), .rt (base + 6) .ro (tr u.Out), .sl 1 (.p 1 [] 9 0 0), .sl 150 (.h (base + 4) []), .sl 151 (.v (iv u.Files.length)), .rt 148 .row (tr o.acc)]) (fun o => u.Files.length - o.k) ⟨0, Nat.zero_le _, (n.acc ++ [varS (u.Files.length : Int)]), by rw [joinB_app, n.eq, wzF_zero, show wzI u n.k = wzI u u.Pipes.length from congrArg (wzI u) (show n.k = u.Pipes.length by omega)]; rfl, by have hq := n.len; simp only [List.length_append, List.length_cons, List.length_nil]; omega⟩ ?_
 intro o
 have hleo := o.le
 have hq4 := wzF_size hF (k := o.k) (by omega)
 have hx4 := wzF_succ u o.k
 have hy4_0 := varS_size (u.Files.getD o.k En.dflt).Name
 have hz4 := wordsS_size (u.Files.getD o.k En.dflt).Data
 have hal4 := o.len
 refine go [.R,.b,.Z] (k := ?_)
 refine AW.seq ?_
 refine cd (fun c6 => ?_) fun c6 => ?_
 ·try simp only [cnd] at c6
  have hpi := hF.file o.k (by omega)
  refine jd (AW.seq (AW.block (sr ?_)))
  refine go [.i,.N,.G,.A,.N,.s,.Z,.D [0, 1, 2, 4, 5],.t 0,.m,.N,.t 1,.f,.t 2,.l,.t 4,.f,.N,.t 5,.l] (k := ?_)
  refine a1 3 [0, 4, 5] [2, 1] rfl rfl (Stp.callV rfl (by decide) Tryz.call234 rfl rfl (VarI_con _)) ?_
  refine go [.N,.g,.m,.g,.f,.g,.l,.N] (k := ?_)
  refine a1 6 [0] [5, 3, 4, 2, 1] rfl rfl (Stp.callV rfl (by decide) Tryz.call235 rfl rfl (wordList_con _ (by first | exact hF.outW | exact hpi.2 | exact hpi.regsW | exact hpi.memW | (intro i hi; have h0 : i = 0 := (by simpa using hi); subst h0; exact hpi.code)) (by first | omega | (simp; done) | (have := hpi.1; omega) | (have := hpi.regs; have := hpi.mem; omega)))) ?_
  refine go [.N,.g,.m,.N,.O 7 [0] [6, 3, 5, 2, 4, 1],.S,.N,.g,.m,.N] (k := ?_)
  refine a1 8 [] [7, 6, 0, 3, 5, 2, 4, 1] rfl rfl (by first | exact Stp.appendC rfl (by decide) (by decide) rfl rfl (by omega) | exact Stp.appendM rfl (by decide) (by decide) rfl rfl rfl (by omega)) ?_
  refine go [.N] (k := ?_)
  refine AWA.rep 164 (tr (o.acc ++ [varS (u.Files.getD o.k En.dflt).Name, wordsS (u.Files.getD o.k En.dflt).Data])) rfl (app_strs rfl (fun k hk => match k, hk with | 0, _ => rfl | 1, _ => rfl | k + 2, hk => absurd hk (by omega))) ?_
  refine go [.N] (k := ?_)
  refine a1 9 [] [8, 7, 6, 5, 4, 3, 2, 1, 0] rfl rfl (Stp.q rfl (by decide) Qt.assign) ?_
  refine go [.N,.Z,.R1,.b,.m,.Z] (k := ?_)
  refine ⟨⟨o.k + 1, by omega, o.acc ++ [varS (u.Files.getD o.k En.dflt).Name, wordsS (u.Files.getD o.k En.dflt).Data], o.next [varS (u.Files.getD o.k En.dflt).Name, wordsS (u.Files.getD o.k En.dflt).Data] (by rw [hx4]; simp only [List.foldl_cons, List.foldl_nil, fileB, ByteArray.append_assoc]), o.more [varS (u.Files.getD o.k En.dflt).Name, wordsS (u.Files.getD o.k En.dflt).Data] rfl⟩, Weak.trans (Weak.renR (a := 164) (b := 148) rfl (by decide) (by decide)) (ws), ?_⟩
  show u.Files.length - (o.k + 1) < u.Files.length - o.k
  omega
 try simp only [cnd] at c6
 have hJ : joinB (o.acc ++ [plusS 0 u.Ready, wordsS u.Out]) = showOf u := by rw [joinB_app, o.eq, show wzF u o.k = wzF u u.Files.length from congrArg (wzF u) (show o.k = u.Files.length by omega), showOf, ← wzR_plus]; rfl
 refine AW.exit ?_
 dsimp only [thenQ, blockQ, reduceIte]
 refine AW.seq ?_
 refine go [.D [0, 1, 2, 4, 5],.t 0,.m,.N,.t 1,.f,.t 2,.l,.t 4,.f,.N,.t 5,.l] (k := ?_)
 refine a1 3 [0, 4, 5] [2, 1] rfl rfl (Stp.callV rfl (by decide) Tryz.call236 rfl rfl (plainList_con _ _ (by first | (intro i hi; have := hF.readyW i hi; omega) | (intro i hi; have := hpi.fdsW i hi; omega)) (by first | omega | (have := hpi.fds; omega)) (by omega) (by omega))) ?_
 refine go [.N,.g,.m,.g,.f,.g,.l,.N] (k := ?_)
 refine a1 6 [0] [5, 3, 4, 2, 1] rfl rfl (Stp.callV rfl (by decide) Tryz.call235 rfl rfl (wordList_con _ (by first | exact hF.outW | exact hpi.2 | exact hpi.regsW | exact hpi.memW | (intro i hi; have h0 : i = 0 := (by simpa using hi); subst h0; exact hpi.code)) (by first | omega | (simp; done) | (have := hpi.1; omega) | (have := hpi.regs; have := hpi.mem; omega)))) ?_
 refine go [.N,.g,.m,.N,.O 7 [0] [6, 3, 5, 2, 4, 1],.S,.N,.g,.m,.N] (k := ?_)
 refine a1 8 [] [7, 6, 0, 3, 5, 2, 4, 1] rfl rfl (by first | exact Stp.appendC rfl (by decide) (by decide) rfl rfl (by omega) | exact Stp.appendM rfl (by decide) (by decide) rfl rfl rfl (by omega)) ?_
 refine go [.N] (k := ?_)
 refine AWA.rep 174 (tr (o.acc ++ [plusS 0 u.Ready, wordsS u.Out])) rfl (app_strs rfl (fun k hk => match k, hk with | 0, _ => rfl | 1, _ => rfl | k + 2, hk => absurd hk (by omega))) ?_
 refine go [.N] (k := ?_)
 refine a1 9 [] [8, 7, 6, 5, 4, 3, 2, 1, 0] rfl rfl (Stp.q rfl (by decide) Qt.assign) ?_
 refine go [.N,.Z,.R,.m] (k := ?_)
 refine cv Tryz.call237 rfl rfl (join_con _ (by simp only [List.length_append, List.length_cons, List.length_nil]; omega) (by rw [hJ, showOf, ByteArray.size_append]; omega)) ?_
 refine go [.N,.a,.Z] (k := ?_)
 refine rt1 2 ?_
 simp only [retX, slotL, reduceIte, Nat.reduceEqDiff]
 congr 2
 rw [hJ, showU, if_pos hu]
end Go.Proofs.YtldefnpobjabpaaGreat.VM

