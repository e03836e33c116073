/- Contracts of functions of the program. No conditions beyond those that each states. -/
import Derived.Test.YtlploojfcmcckaaDoorCK9s
import Derived.Test.YtlploojfcmcckaaDoorCKC
set_option linter.all false
set_option maxHeartbeats 8000000
set_option maxRecDepth 10000
namespace Go.Proofs.YtlploojfcmcckaaDoor.VM
open Go Go.RowKit Go.Proofs
theorem splitB_con (s : ByteArray) (c : UInt8) (hs : s.size ≤ 1048576) : Con Tryd.prog 66 [.v (.string s), .v (.string ⟨#[c]⟩)] [] (Ret (.h 0 []) [(0, .row, tr (cutB c s))]) :=
 con_split (t := 9) (by have := (cutB_len c s).1; omega) (by have := (cutB_len c s).2; simp only [maxLen]; omega) fun w ht => by
  have hg : Tryd.prog.globalNamed "internal/bytealg.MaxLen" = some 2 := by kernel_rfl
  obtain ⟨cs, h1, m, rfl⟩ := ht _ (List.mem_cons_of_mem _ (List.mem_cons_of_mem _ (List.mem_cons_of_mem _ (List.mem_cons_self ..)))) 2 hg
  have hc := World.var?_cell hg h1 0
  have h := Any.strings_Split lays146 (by kernel_rfl) s ⟨#[c]⟩ m w (by omega) (show w.cell? ⟨2, 0, none⟩ = some (.int .i64 m) by simpa using hc) (Nat.le_refl _)
  have hl : (cutB c s).length = Lib.countB s ⟨#[c]⟩ + 1 := by
   rw [← cut_split c s.size s (Nat.le_refl _)]
   exact Lib.splitB_all ⟨#[c]⟩ (Nat.le_refl _) 0 _ s rfl
  rw [cut_split c s.size s (Nat.le_refl _), ← hl] at h
  exact h
theorem idxS_con (l : List ByteArray) (x : ByteArray) (hlen : l.length < 4611686018427387904) : Con Tryd.prog 67 [.h base [], .v (.string x)] [.rt base .ro (tr l)] (fun y _ => y = .v (iv (Lib.idxOfS l x))) :=
 con_indexS (fun b off n c zs x w h1 h2 h3 => Any.slices_Index_string lays109 b off n c zs x w h1 h2 h3) (fun a c x w => Any.slices_Index_string_empty lays109 a c x w) l x hlen
theorem l4Words_con (s : ByteArray) (hs : s.size ≤ 1048576) : Con Tryd.prog 64 [.v (.string s)] [] (Ret (.h 0 []) [(0, .row, tr (cutB 32 s))]) := by
 refine ob Tryd.func64 Tryd.ntmps64 ?_
 refine sr ?_
 refine qs' ?_
 refine sp sS ?_
 refine nm ?_
 refine qs' ?_
 refine qn ?_
 refine sr2 ?_
 refine qn ?_
 refine AW.block ?_
 refine AW.weak (L' := [.sl 5 (.v (iv (0 : Nat))), .sl 4 (.v (iv (0 : Nat))), .sl 3 (.h 6 []), .rt 6 .row (tr ([] : List ByteArray)), .sl 0 (.v (.string s))]) (Weak.sim ⟨rfl, rfl, rfl, ⟨_, rfl, sim_nil⟩, rfl, trivial⟩ rfl rfl) ?_
 refine AW.loop (fun i : CutI 32 s => [.sl 5 (.v (iv i.k)), .sl 4 (.v (iv i.f)), .sl 3 (.h 6 []), .rt 6 .row (tr i.out), .sl 0 (.v (.string s))]) (fun i => s.size - i.k) ⟨0, Nat.zero_le _, 0, Nat.le_refl _, [], by simp, rfl⟩ ?_
 intro i
 have hle := i.le
 have hfl := i.fle
 have hol := i.len
 refine sr2 ?_
 refine mn ?_
 refine qm ?_
 refine qq (Qt.lenS rfl Tryd.underlying9) ?_
 refine qb ?_
 refine nc (fun c1 => ?_) fun c1 => ?_
 ·try simp only [cnd] at c1
  have hlt : i.k < s.size := by omega
  refine jd (AW.seq (AW.block (sr ?_)))
  refine mn ?_
  refine qm ?_
  refine qq (Qt.indexS rfl rfl Tryd.underlying9 (by omega) (by omega)) ?_
  refine qb ?_
  refine nc (fun c2 => ?_) fun c2 => ?_
  ·try simp only [cnd] at c2
   have hc : chr s i.k = 32 := UInt8.toNat_inj.1 (by have : (32 : UInt8).toNat = 32 := rfl; omega)
   refine sr ?_
   refine mn ?_
   refine qm ?_
   refine qm ?_
   refine mn ?_
   refine qq (Qt.sliceS rfl Tryd.underlying9 (slB_so rfl rfl) (slB_so rfl rfl) (by first | omega | (simp only [Int.toNat_natCast]; omega)) (by first | omega | (simp only [Int.toNat_natCast]; omega))) ?_
   refine sp sS ?_
   refine nm ?_
   refine sp (by first | exact Stp.appendC rfl (by decide) (by decide) rfl rfl (by omega) | exact Stp.appendM rfl (by decide) (by decide) rfl rfl rfl (by omega)) ?_
   refine AWL.rep 23 (tr (i.out ++ [s.extract i.f i.k])) rfl (app_strs rfl (fun k hk => match k, hk with | 0, _ => rfl | k + 1, hk => absurd hk (by omega))) ?_
   refine nm ?_
   refine qn ?_
   refine AW.region ?_
   refine qm ?_
   refine ba ?_
   refine nm ?_
   refine qn ?_
   refine AW.region ?_
   refine qm ?_
   refine ba ?_
   refine nm ?_
   refine qn ?_
   refine ⟨⟨i.k + 1, by omega, i.k + 1, by omega, i.out ++ [s.extract i.f i.k], by simp, i.eqN hlt hc⟩, Weak.trans (Weak.renR (a := 23) (b := 6) rfl (by decide) (by decide)) (Weak.sim ⟨rfl, rfl, rfl, Rf rfl, rfl, trivial⟩ rfl rfl), ?_⟩
   show s.size - (i.k + 1) < s.size - i.k
   omega
  try simp only [cnd] at c2
  have hc : ¬ chr s i.k = 32 := fun e => by
   have : (32 : UInt8).toNat = 32 := rfl
   rw [e] at c2
   omega
  refine jd (AW.region ?_)
  refine qm ?_
  refine ba ?_
  refine nm ?_
  refine qn ?_
  refine ⟨⟨i.k + 1, by omega, i.f, by omega, i.out, i.noN hlt hc, i.eq⟩, Weak.sim ⟨rfl, rfl, rfl, Rf rfl, rfl, trivial⟩ rfl rfl, ?_⟩
  show s.size - (i.k + 1) < s.size - i.k
  omega
 try simp only [cnd] at c1
 have hke : i.k = s.size := by omega
 refine AW.exit ?_
 dsimp only [thenQ, blockQ, reduceIte]
 refine sr ?_
 refine qm ?_
 refine mn ?_
 refine qm ?_
 refine qq (Qt.sliceS rfl Tryd.underlying9 (slB_so rfl rfl) slB_no (by first | omega | (simp only [Int.toNat_natCast]; omega)) (by first | omega | (simp only [Int.toNat_natCast]; omega))) ?_
 refine sp sS ?_
 refine nm ?_
 refine sp (by first | exact Stp.appendC rfl (by decide) (by decide) rfl rfl (by omega) | exact Stp.appendM rfl (by decide) (by decide) rfl rfl rfl (by omega)) ?_
 refine AWL.rep 31 (tr (i.out ++ [s.extract i.f s.size])) rfl (app_strs rfl (fun k hk => match k, hk with | 0, _ => rfl | k + 1, hk => absurd hk (by omega))) ?_
 refine nm ?_
 refine qr 2 ?_
 rw [← i.full hke]
 refine ⟨fun _ => 31, rfl, nodup_of rfl, ?_⟩
 intro r hr
 cases List.mem_singleton.1 hr
 exact ⟨by simp, rootL_mem rfl⟩
theorem l4Lines_con (s : ByteArray) (hs : s.size ≤ 1048576) : Con Tryd.prog 48 [.v (.string s)] [] (Ret (.h 0 []) [(0, .row, tr (linesS s))]) := by
 refine ob Tryd.func48 Tryd.ntmps48 ?_
 refine sr ?_
 refine qs' ?_
 refine sp sS ?_
 refine nm ?_
 refine qs' ?_
 refine qn ?_
 refine sr2 ?_
 refine qn ?_
 refine AW.block ?_
 refine AW.weak (L' := [.sl 5 (.v (iv (0 : Nat))), .sl 4 (.v (iv (0 : Nat))), .sl 3 (.h 6 []), .rt 6 .row (tr ([] : List ByteArray)), .sl 0 (.v (.string s))]) (Weak.sim ⟨rfl, rfl, rfl, ⟨_, rfl, sim_nil⟩, rfl, trivial⟩ rfl rfl) ?_
 refine AW.loop (fun i : CutI 10 s => [.sl 5 (.v (iv i.k)), .sl 4 (.v (iv i.f)), .sl 3 (.h 6 []), .rt 6 .row (tr i.out), .sl 0 (.v (.string s))]) (fun i => s.size - i.k) ⟨0, Nat.zero_le _, 0, Nat.le_refl _, [], by simp, rfl⟩ ?_
 intro i
 have hle := i.le
 have hfl := i.fle
 have hol := i.len
 refine sr2 ?_
 refine mn ?_
 refine qm ?_
 refine qq (Qt.lenS rfl Tryd.underlying9) ?_
 refine qb ?_
 refine nc (fun c1 => ?_) fun c1 => ?_
 ·try simp only [cnd] at c1
  have hlt : i.k < s.size := by omega
  refine jd (AW.seq (AW.block (sr ?_)))
  refine mn ?_
  refine qm ?_
  refine qq (Qt.indexS rfl rfl Tryd.underlying9 (by omega) (by omega)) ?_
  refine qb ?_
  refine nc (fun c2 => ?_) fun c2 => ?_
  ·try simp only [cnd] at c2
   have hc : chr s i.k = 10 := UInt8.toNat_inj.1 (by have : (10 : UInt8).toNat = 10 := rfl; omega)
   refine sr ?_
   refine mn ?_
   refine qm ?_
   refine qm ?_
   refine mn ?_
   refine qq (Qt.sliceS rfl Tryd.underlying9 (slB_so rfl rfl) (slB_so rfl rfl) (by first | omega | (simp only [Int.toNat_natCast]; omega)) (by first | omega | (simp only [Int.toNat_natCast]; omega))) ?_
   refine sp sS ?_
   refine nm ?_
   refine sp (by first | exact Stp.appendC rfl (by decide) (by decide) rfl rfl (by omega) | exact Stp.appendM rfl (by decide) (by decide) rfl rfl rfl (by omega)) ?_
   refine AWL.rep 23 (tr (i.out ++ [s.extract i.f i.k])) rfl (app_strs rfl (fun k hk => match k, hk with | 0, _ => rfl | k + 1, hk => absurd hk (by omega))) ?_
   refine nm ?_
   refine qn ?_
   refine AW.region ?_
   refine qm ?_
   refine ba ?_
   refine nm ?_
   refine qn ?_
   refine AW.region ?_
   refine qm ?_
   refine ba ?_
   refine nm ?_
   refine qn ?_
   refine ⟨⟨i.k + 1, by omega, i.k + 1, by omega, i.out ++ [s.extract i.f i.k], by simp, i.eqN hlt hc⟩, Weak.trans (Weak.renR (a := 23) (b := 6) rfl (by decide) (by decide)) (Weak.sim ⟨rfl, rfl, rfl, Rf rfl, rfl, trivial⟩ rfl rfl), ?_⟩
   show s.size - (i.k + 1) < s.size - i.k
   omega
  try simp only [cnd] at c2
  have hc : ¬ chr s i.k = 10 := fun e => by
   have : (10 : UInt8).toNat = 10 := rfl
   rw [e] at c2
   omega
  refine jd (AW.region ?_)
  refine qm ?_
  refine ba ?_
  refine nm ?_
  refine qn ?_
  refine ⟨⟨i.k + 1, by omega, i.f, by omega, i.out, i.noN hlt hc, i.eq⟩, Weak.sim ⟨rfl, rfl, rfl, Rf rfl, rfl, trivial⟩ rfl rfl, ?_⟩
  show s.size - (i.k + 1) < s.size - i.k
  omega
 try simp only [cnd] at c1
 have hke : i.k = s.size := by omega
 refine AW.exit ?_
 dsimp only [thenQ, blockQ, reduceIte]
 refine sr2 ?_
 refine qm ?_
 refine mn ?_
 refine qq (Qt.lenS rfl Tryd.underlying9) ?_
 refine qb ?_
 refine nc (fun c3 => ?_) fun c3 => ?_
 ·try simp only [cnd] at c3
  refine AW.region ?_
  refine mn ?_
  refine qm ?_
  refine qm ?_
  refine qq (Qt.sliceS rfl Tryd.underlying9 (slB_so rfl rfl) slB_no (by first | omega | (simp only [Int.toNat_natCast]; omega)) (by first | omega | (simp only [Int.toNat_natCast]; omega))) ?_
  refine nm ?_
  refine sp sS ?_
  refine nm ?_
  refine sp (by first | exact Stp.appendC rfl (by decide) (by decide) rfl rfl (by omega) | exact Stp.appendM rfl (by decide) (by decide) rfl rfl rfl (by omega)) ?_
  refine AWL.rep 35 (tr (i.out ++ [s.extract i.f s.size])) rfl (app_strs rfl (fun k hk => match k, hk with | 0, _ => rfl | k + 1, hk => absurd hk (by omega))) ?_
  refine nm ?_
  refine qs' ?_
  refine qm ?_
  refine qr 2 ?_
  rw [i.lines1 hke (by omega)]
  refine ⟨fun _ => 35, rfl, nodup_of rfl, ?_⟩
  intro r hr
  cases List.mem_singleton.1 hr
  exact ⟨by simp, rootL_mem rfl⟩
 try simp only [cnd] at c3
 refine jd (sr ?_)
 refine mn ?_
 refine qr 2 ?_
 rw [i.lines0 hke (by omega)]
 refine ⟨fun _ => 6, rfl, nodup_of rfl, ?_⟩
 intro r hr
 cases List.mem_singleton.1 hr
 exact ⟨by simp, rootL_mem rfl⟩
theorem l4Reg_con (s : ByteArray) : Con Tryd.prog 65 [.v (.string s)] [] (fun y _ => y = .v (iv (regN s))) := by
 refine ob Tryd.func65 Tryd.ntmps65 ?_
 refine sr ?_
 refine qn ?_
 refine sr2 ?_
 refine qm ?_
 refine qq (Qt.lenS rfl Tryd.underlying9) ?_
 refine nm ?_
 refine qb ?_
 refine qm ?_
 apply AWL.cut 3
 ·intro Kg1
  refine AWL.splitF 6 rfl (fun g1 => ?_) (fun g1 => ?_)
  ·have eg1 := g1
   try simp only [cnd] at eg1
   refine qg (nF g1) Qt.move ?_
   refine nm ?_
   refine qg (nF g1) (Qt.indexS rfl rfl Tryd.underlying9 (by first | omega | grind only) (by first | omega | grind only)) ?_
   refine qg (nF g1) (Qt.binOp rfl rfl rfl) ?_
   exact wj 9 [7, 8, 9] (ifF g1 _ undef) (by simp only [go_sem, reduceIte, Nat.reduceEqDiff, Nat.reduceBEq, reduceCtorEq]; rfl) Kg1
  ·refine og (nT g1) ?_
   refine og (nT g1) ?_
   refine og (nT g1) ?_
   exact wj 9 [7, 8, 9] (ifT g1 undef _) (by simp only [go_sem, reduceIte, Nat.reduceEqDiff, Nat.reduceBEq, reduceCtorEq]) Kg1
 refine qq (Qt.pickOr rfl rfl rfl) ?_
 refine nm ?_
 refine qm ?_
 apply AWL.cut 3
 ·intro Kg2
  refine AWL.splitF 11 rfl (fun g2 => ?_) (fun g2 => ?_)
  ·have eg2 := g2
   try simp only [cnd] at eg2
   refine qg (nF g2) Qt.move ?_
   refine qg (nF g2) (Qt.indexS rfl rfl Tryd.underlying9 (by first | omega | grind only) (by first | omega | grind only)) ?_
   refine nm ?_
   refine qg (nF g2) (Qt.binOp rfl rfl rfl) ?_
   exact wj 14 [12, 13, 14] (ifF g2 _ undef) (by simp only [go_sem, reduceIte, Nat.reduceEqDiff, Nat.reduceBEq, reduceCtorEq]; rfl) Kg2
  ·refine og (nT g2) ?_
   refine og (nT g2) ?_
   refine og (nT g2) ?_
   exact wj 14 [12, 13, 14] (ifT g2 undef _) (by simp only [go_sem, reduceIte, Nat.reduceEqDiff, Nat.reduceBEq, reduceCtorEq]) Kg2
 refine qq (Qt.pickOr rfl rfl rfl) ?_
 refine mn ?_
 apply AWL.cut 3
 ·intro Kg3
  refine AWL.splitF 16 rfl (fun g3 => ?_) (fun g3 => ?_)
  ·have eg3 := g3
   try simp only [cnd] at eg3
   refine qg (nF g3) Qt.move ?_
   refine qg (nF g3) (Qt.indexS rfl rfl Tryd.underlying9 (by first | omega | grind only) (by first | omega | grind only)) ?_
   refine qg (nF g3) (Qt.binOp rfl rfl rfl) ?_
   refine nm ?_
   exact wj 19 [17, 18, 19] (ifF g3 _ undef) (by simp only [go_sem, reduceIte, Nat.reduceEqDiff, Nat.reduceBEq, reduceCtorEq]; rfl) Kg3
  ·refine og (nT g3) ?_
   refine og (nT g3) ?_
   refine og (nT g3) ?_
   exact wj 19 [17, 18, 19] (ifT g3 undef _) (by simp only [go_sem, reduceIte, Nat.reduceEqDiff, Nat.reduceBEq, reduceCtorEq]) Kg3
 refine qq (Qt.pickOr rfl rfl rfl) ?_
 refine nc (fun c4 => ?_) fun c4 => ?_
 ·try simp only [cnd] at c4
  refine sr ?_
  refine qr 2 ?_
  have hr : regN s = -1 := if_neg (by omega)
  rw [hr]
  rfl
 try simp only [cnd] at c4
 refine jd (sr ?_)
 refine mn ?_
 refine qq (Qt.indexS rfl rfl Tryd.underlying9 (by first | omega | grind only) (by first | omega | grind only)) ?_
 refine qq (Qt.binOp rfl rfl (by first | exact pbSub (by omega) | rfl)) ?_
 refine qq (Qt.convI rfl rfl Tryd.underlying3) ?_
 refine nm ?_
 refine qr 2 ?_
 have hb := sub48 (chr s 1).toNat (chr s 1).toNat_lt (by omega)
 have hr : regN s = (((chr s 1).toNat - 48 : Nat) : Int) := (if_pos (by omega)).trans (by omega)
 show X.v (iv (IntKind.i64.wrap (IntKind.u8.wrap (((chr s 1).toNat : Int) - 48)))) = _
 rw [hb, hr]
theorem readReg_con (s : ByteArray) : Con Tryd.prog 68 [.v (.string s)] [] (Ret (.t [.v (iv (if regN s < 0 then 0 else regN s)), .v (.bool (decide (0 ≤ regN s)))]) []) := by
 refine ob Tryd.func68 Tryd.ntmps68 ?_
 refine sr ?_
 refine qa ?_
 refine qn ?_
 refine sr2 ?_
 refine mn ?_
 refine qq (Qt.lenS rfl Tryd.underlying9) ?_
 refine qb ?_
 refine mn ?_
 apply AWL.cut 3
 ·intro Kg1
  refine AWL.splitF 7 rfl (fun g1 => ?_) (fun g1 => ?_)
  ·have eg1 := g1
   try simp only [cnd] at eg1
   refine qg (nF g1) Qt.move ?_
   refine qg (nF g1) (Qt.indexS rfl rfl Tryd.underlying9 (by first | omega | grind only) (by first | omega | grind only)) ?_
   refine qg (nF g1) (Qt.binOp rfl rfl rfl) ?_
   refine nm ?_
   exact wj 10 [8, 9, 10] (ifF g1 _ undef) (by simp only [go_sem, reduceIte, Nat.reduceEqDiff, Nat.reduceBEq, reduceCtorEq]; rfl) Kg1
  ·refine og (nT g1) ?_
   refine og (nT g1) ?_
   refine og (nT g1) ?_
   exact wj 10 [8, 9, 10] (ifT g1 undef _) (by simp only [go_sem, reduceIte, Nat.reduceEqDiff, Nat.reduceBEq, reduceCtorEq]) Kg1
 refine qq (Qt.pickOr rfl rfl rfl) ?_
 refine qm ?_
 apply AWL.cut 3
 ·intro Kg2
  refine AWL.splitF 12 rfl (fun g2 => ?_) (fun g2 => ?_)
  ·have eg2 := g2
   try simp only [cnd] at eg2
   refine qg (nF g2) Qt.move ?_
   refine nm ?_
   refine qg (nF g2) (Qt.indexS rfl rfl Tryd.underlying9 (by first | omega | grind only) (by first | omega | grind only)) ?_
   refine qg (nF g2) (Qt.binOp rfl rfl rfl) ?_
   exact wj 15 [13, 14, 15] (ifF g2 _ undef) (by simp only [go_sem, reduceIte, Nat.reduceEqDiff, Nat.reduceBEq, reduceCtorEq]; rfl) Kg2
  ·refine og (nT g2) ?_
   refine og (nT g2) ?_
   refine og (nT g2) ?_
   exact wj 15 [13, 14, 15] (ifT g2 undef _) (by simp only [go_sem, reduceIte, Nat.reduceEqDiff, Nat.reduceBEq, reduceCtorEq]) Kg2
 refine qq (Qt.pickOr rfl rfl rfl) ?_
 refine nm ?_
 refine qm ?_
 apply AWL.cut 3
 ·intro Kg3
  refine AWL.splitF 17 rfl (fun g3 => ?_) (fun g3 => ?_)
  ·have eg3 := g3
   try simp only [cnd] at eg3
   refine qg (nF g3) Qt.move ?_
   refine qg (nF g3) (Qt.indexS rfl rfl Tryd.underlying9 (by first | omega | grind only) (by first | omega | grind only)) ?_
   refine nm ?_
   refine qg (nF g3) (Qt.binOp rfl rfl rfl) ?_
   exact wj 20 [18, 19, 20] (ifF g3 _ undef) (by simp only [go_sem, reduceIte, Nat.reduceEqDiff, Nat.reduceBEq, reduceCtorEq]; rfl) Kg3
  ·refine og (nT g3) ?_
   refine og (nT g3) ?_
   refine og (nT g3) ?_
   exact wj 20 [18, 19, 20] (ifT g3 undef _) (by simp only [go_sem, reduceIte, Nat.reduceEqDiff, Nat.reduceBEq, reduceCtorEq]) Kg3
 refine qq (Qt.pickOr rfl rfl rfl) ?_
 refine nc (fun c4 => ?_) fun c4 => ?_
 ·try simp only [cnd] at c4
  refine sr ?_
  refine qa ?_
  refine nm ?_
  refine qn ?_
  refine AW.ret (endQ_ret (.cons (.tmp 2) (.cons (.tmp 3) .nil)) ?_)
  have hr : regN s = -1 := if_neg (by omega)
  rw [hr]
  refine ⟨fun _ => 0, rfl, nodup_of rfl, ?_⟩
  intro r hr
  cases hr
 try simp only [cnd] at c4
 refine jd (sr ?_)
 refine qm ?_
 refine qq (Qt.indexS rfl rfl Tryd.underlying9 (by first | omega | grind only) (by first | omega | grind only)) ?_
 refine nm ?_
 refine qq (Qt.binOp rfl rfl (by first | exact pbSub (by omega) | rfl)) ?_
 refine qq (Qt.convI rfl rfl Tryd.underlying3) ?_
 refine qa ?_
 refine nm ?_
 refine qn ?_
 refine AW.ret (endQ_ret (.cons (.tmp 2) (.cons (.tmp 3) .nil)) ?_)
 have hb := sub48 (chr s 1).toNat (chr s 1).toNat_lt (by omega)
 have hr : regN s = (((chr s 1).toNat - 48 : Nat) : Int) := (if_pos (by omega)).trans (by omega)
 refine ⟨fun _ => 0, ?_, nodup_of rfl, fun r hr => by cases hr⟩
 show retX _ = X.t [.v (iv (if regN s < 0 then 0 else regN s)), .v (.bool (decide (0 ≤ regN s)))]
 rw [hr, if_neg (show ¬ (((chr s 1).toNat - 48 : Nat) : Int) < 0 by omega), decide_eq_true (show (0 : Int) ≤ (((chr s 1).toNat - 48 : Nat) : Int) by omega)]
 show X.t [.v (iv (IntKind.i64.wrap (IntKind.u8.wrap (((chr s 1).toNat : Int) - 48)))), .v (.bool true)] = _
 rw [hb]
end Go.Proofs.YtlploojfcmcckaaDoor.VM
