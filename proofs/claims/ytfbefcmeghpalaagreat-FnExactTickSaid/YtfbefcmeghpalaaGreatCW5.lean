/- Contracts of functions of the program. No conditions beyond those that each states. -/
import Derived.Test.YtfbefcmeghpalaaGreatCW4
import Derived.Test.YtfbefcmeghpalaaGreatCUE
set_option linter.all false
set_option maxHeartbeats 8000000
set_option maxRecDepth 10000
namespace Go.Proofs.YtfbefcmeghpalaaGreat.VM
open Go Go.RowKit Go.Proofs
instance : Fl DIns := ⟨(fun a c hc => by
 have hc' : c < 4 := hc
 match c, hc' with
 | 0, _ => rfl
 | 1, _ => rfl
 | 2, _ => rfl
 | 3, _ => rfl
 | c + 4, h => omega)⟩
instance : Fl DOpen := ⟨(fun a c hc => by
 have hc' : c < 5 := hc
 match c, hc' with
 | 0, _ => rfl
 | 1, _ => rfl
 | 2, _ => rfl
 | 3, _ => rfl
 | 4, _ => rfl
 | c + 5, h => omega)⟩
theorem rowsG_bd {α : Type} [En α] [Mk α] {l : List (List α)} (hw : Mk.wt l ≤ 1048576) : l.length ≤ 1048576 ∧ ∀ k, k < l.length → (l.getD k En.dflt).length ≤ 1048576 := by
 have h1 := wt_list l
 refine ⟨by omega, fun k hk => ?_⟩
 have h2 := wtL_get (w := Mk.wt) (d := En.dflt) (l := l) (i := k) hk
 have h3 := wt_list (l.getD k En.dflt)
 omega
theorem take_snocG {α : Type} {l : List α} {k : Nat} (d : α) (h : k < l.length) : l.take (k + 1) = l.take k ++ [l.getD k d] := by
 rw [List.take_add_one, List.getElem?_eq_getElem h]
 simp [List.getD_eq_getElem?_getD, h]
theorem wt_ge {α : Type} [Mk α] {l : List α} {k : Nat} (hk : k < l.length) : Mk.wt (l.getD k En.dflt) + l.length ≤ Mk.wt l := by
 have h1 := wt_list l
 have h2 := wtL_get (w := Mk.wt) (d := En.dflt) (l := l) (i := k) hk
 omega
theorem wt_len {α : Type} [Mk α] (l : List α) : l.length ≤ Mk.wt l := by
 have h1 := wt_list l
 omega
theorem cloneIns_con (l : List DIns) (hs : l.length ≤ 4194304) : Con Tryz.prog 236 [.h base []] [.rt base .ro (tr l)] (Ret (.h 0 []) [(0, .row, tr l)]) := by
 refine ob Tryz.func236 Tryz.ntmps236 ?_
 refine sr ?_
 refine qn ?_
 refine sr2 ?_
 refine qm ?_
 refine AWL.nilTest rfl rfl rfl (by decide) rfl rfl rfl sl65 ?_
 intro b1 hb1
 refine nc (fun c2 => ?_) fun c2 => ?_
 ·try simp only [cnd] at c2
  refine sr ?_
  refine qn ?_
  have hl0 : l = [] := List.eq_nil_of_length_eq_zero (hb1 c2)
  subst hl0
  refine AW.nilRow 2 900 4 (by omega) rfl rfl (by decide) ?_
  refine AW.rep 900 (tr ([] : List DIns)) rfl sim_nil ?_
  refine rt1 2 ?_
  refine ⟨fun _ => 900, rfl, nodup_of rfl, ?_⟩
  intro r hr
  cases List.mem_singleton.1 hr
  exact ⟨by simp, rootL_mem rfl⟩
 try simp only [cnd] at c2
 refine jd (sr ?_)
 refine sp sS ?_
 refine nm ?_
 refine qm ?_
 refine sp (by first | exact Stp.appendC rfl (by decide) (by decide) rfl rfl (by omega) | exact Stp.appendM rfl (by decide) (by decide) rfl rfl rfl (by omega)) ?_
 refine nm ?_
 refine qn ?_
 refine AW.rep 7 (tr l) rfl (app_nil (α := DIns)) ?_
 refine rt1 2 ?_
 refine ⟨fun _ => 7, rfl, nodup_of rfl, ?_⟩
 intro r hr
 cases List.mem_singleton.1 hr
 exact ⟨by simp, rootL_mem rfl⟩
theorem cloneO_con (l : List DOpen) (hs : l.length ≤ 4194304) : Con Tryz.prog 158 [.h base []] [.rt base .ro (tr l)] (Ret (.h 0 []) [(0, .row, tr l)]) := by
 refine ob Tryz.func158 Tryz.ntmps158 ?_
 refine sr ?_
 refine qn ?_
 refine sr2 ?_
 refine qm ?_
 refine AWL.nilTest rfl rfl rfl (by decide) rfl rfl rfl sl26 ?_
 intro b1 hb1
 refine nc (fun c2 => ?_) fun c2 => ?_
 ·try simp only [cnd] at c2
  refine sr ?_
  refine qn ?_
  have hl0 : l = [] := List.eq_nil_of_length_eq_zero (hb1 c2)
  subst hl0
  refine AW.nilRow 2 900 5 (by omega) rfl rfl (by decide) ?_
  refine AW.rep 900 (tr ([] : List DOpen)) rfl sim_nil ?_
  refine rt1 2 ?_
  refine ⟨fun _ => 900, rfl, nodup_of rfl, ?_⟩
  intro r hr
  cases List.mem_singleton.1 hr
  exact ⟨by simp, rootL_mem rfl⟩
 try simp only [cnd] at c2
 refine jd (sr ?_)
 refine sp sS ?_
 refine nm ?_
 refine qm ?_
 refine sp (by first | exact Stp.appendC rfl (by decide) (by decide) rfl rfl (by omega) | exact Stp.appendM rfl (by decide) (by decide) rfl rfl rfl (by omega)) ?_
 refine nm ?_
 refine qn ?_
 refine AW.rep 7 (tr l) rfl (app_nil (α := DOpen)) ?_
 refine rt1 2 ?_
 refine ⟨fun _ => 7, rfl, nodup_of rfl, ?_⟩
 intro r hr
 cases List.mem_singleton.1 hr
 exact ⟨by simp, rootL_mem rfl⟩
theorem cloneProgs_con (l : List (List DIns)) (hw : Mk.wt l ≤ 1048576) : Con Tryz.prog 157 [.h base []] [.rt base .ro (tr l)] (Ret (.h 0 []) [(0, .row, tr l)]) := by
 refine ob Tryz.func157 Tryz.ntmps157 ?_
 refine AW.len (base) [] rfl (by simp [Okp]) rfl (fun hl => ?_)
 have hbd := rowsG_bd hw
 refine sr ?_
 refine qs' ?_
 refine qn ?_
 refine sr2 ?_
 refine mn ?_
 refine qh sl24 ?_
 refine qm ?_
 refine nl ?_
 refine AW.block ?_
 refine AW.nilRow 3 16 1 (by omega) rfl rfl (by decide) ?_
 refine AW.loopW (fun i : KInv l.length => [.sl 8 (.v (iv i.k)), .sl 7 (.v (iv l.length)), .sl 6 (.h base []), .sl 3 (.h 16 []), .rt base .ro (tr l), .rt 16 .row (tr (l.take i.k))]) (fun i => l.length - i.k) ⟨0, Nat.zero_le _⟩ (Weak.sim ⟨rfl, rfl, rfl, rfl, Rf rfl, ⟨_, rfl, sim_nil⟩, trivial⟩ rfl rfl) ?_
 intro i
 have hle := i.le
 refine sr ?_
 refine qb ?_
 refine nl ?_
 refine AW.seq ?_
 refine cd (fun c1 => ?_) fun c1 => ?_
 ·try simp only [cnd] at c1
  have hik := hbd.2 i.k (by omega)
  have htl : (l.take i.k).length ≤ 1048576 := by rw [List.length_take]; omega
  refine jd (AW.seq (AW.block (sr ?_)))
  refine qq (ix sl24 sz65) ?_
  refine nm ?_
  refine ql ag65 ?_
  refine qn ?_
  refine AW.region ?_
  refine mn ?_
  refine qm ?_
  refine sp (Stp.callR rfl (by decide) Tryz.call236 rfl rfl (cloneIns_con _ (by omega)) (nodup_of rfl) rfl rfl) ?_
  refine nm ?_
  refine sp sS ?_
  refine nm ?_
  refine AWL.rep 15 (tr [(l.getD i.k En.dflt)]) rfl (row1_sim (α := List DIns) (fun c hc => match c, hc with | 0, _ => T.sim_refl _ | c + 1, hc => absurd hc (by simp only [En.n]; omega))) ?_
  refine nm ?_
  refine sp (Stp.appendM rfl (by decide) (by decide) rfl rfl rfl (by simp only [List.length_cons, List.length_nil]; omega)) ?_
  refine nm ?_
  refine AWL.rep 16 (tr (l.take (i.k + 1))) rfl (by rw [take_snocG En.dflt (show i.k < l.length by omega)]; exact app_sim (l := l.take i.k) (l' := [l.getD i.k En.dflt]) rfl (fun _ _ _ _ => rfl) (fun _ _ _ _ => rfl)) ?_
  refine nm ?_
  refine qn ?_
  refine AW.region ?_
  refine ba ?_
  refine qm ?_
  refine nl ?_
  refine ⟨⟨i.k + 1, by omega⟩, Weak.sim ⟨st1, rfl, rfl, rfl, Rf rfl, Rf rfl, trivial⟩ rfl rfl, ?_⟩
  show l.length - (i.k + 1) < l.length - i.k
  omega
 try simp only [cnd] at c1
 refine AW.exit ?_
 dsimp only [thenQ, blockQ, reduceIte]
 refine sr ?_
 refine mn ?_
 refine qn ?_
 refine AW.rep 16 (tr l) rfl (by rw [List.take_of_length_le (by omega)]; exact T.sim_refl _) ?_
 refine rt1 2 ?_
 refine ⟨fun _ => 16, rfl, nodup_of rfl, ?_⟩
 intro r hr
 cases List.mem_singleton.1 hr
 exact ⟨by simp, rootL_mem rfl⟩
theorem cloneFiles_con (l : List DFile) (hw : Mk.wt l ≤ 1048576) : Con Tryz.prog 159 [.h base []] [.rt base .ro (tr l)] (Ret (.h 0 []) [(0, .row, tr l)]) := by
 refine ob Tryz.func159 Tryz.ntmps159 ?_
 refine AW.len (base) [] rfl (by simp [Okp]) rfl (fun hl => ?_)
 have hbd := wt_len l
 refine sr ?_
 refine qs' ?_
 refine qn ?_
 refine sr2 ?_
 refine mn ?_
 refine qh sl28 ?_
 refine qm ?_
 refine nl ?_
 refine AW.block ?_
 refine AW.nilRow 3 20 2 (by omega) rfl rfl (by decide) ?_
 refine AW.loopW (fun i : KInv l.length => [.sl 8 (.v (iv i.k)), .sl 7 (.v (iv l.length)), .sl 6 (.h base []), .sl 3 (.h 20 []), .rt base .ro (tr l), .rt 20 .row (tr (l.take i.k))]) (fun i => l.length - i.k) ⟨0, Nat.zero_le _⟩ (Weak.sim ⟨rfl, rfl, rfl, rfl, Rf rfl, ⟨_, rfl, sim_nil⟩, trivial⟩ rfl rfl) ?_
 intro i
 have hle := i.le
 refine sr ?_
 refine qb ?_
 refine nl ?_
 refine AW.seq ?_
 refine cd (fun c1 => ?_) fun c1 => ?_
 ·try simp only [cnd] at c1
  have hik := wt_ge (show i.k < l.length by omega)
  have hik2 : Mk.wt (l.getD i.k En.dflt) = (l.getD i.k En.dflt).Data.length := wt_ints _
  have htl : (l.take i.k).length ≤ 1048576 := by rw [List.length_take]; omega
  refine jd (AW.seq (AW.block (sr ?_)))
  refine qq (ix sl28 sz155) ?_
  refine nm ?_
  refine qG ag155 sz155 ?_
  refine sp sA ?_
  refine nm ?_
  refine ss ?_
  refine nl ?_
  refine AW.draw [0, 1, 2, 3, 4, 6] rfl (by decide +kernel) ?_
  refine tk 0 rfl Qt.move ?_
  refine na ?_
  refine tk 1 rfl (fA fl155_0) ?_
  refine tk 2 rfl (Qt.load1 rfl rfl rfl ag3) ?_
  refine tk 3 rfl (fA fl155_1) ?_
  refine na ?_
  refine tk 4 rfl (Qt.load1 rfl rfl rfl ag29) ?_
  refine a1 5 [0, 1, 2] [4, 3] rfl rfl (Stp.callR rfl (by decide) Tryz.call160 rfl rfl (cloneI_con _ (by omega)) (nodup_of rfl) rfl rfl) ?_
  refine na ?_
  refine na ?_
  refine ae rfl Qt.move ?_
  refine na ?_
  refine ae rfl (fA fl155_0) ?_
  refine na ?_
  refine ae rfl (Qt.load1 rfl rfl rfl ag3) ?_
  refine na ?_
  refine tk 6 rfl (Qt.build rfl) ?_
  refine a1 7 [0] [6, 5, 2, 4, 1, 3] rfl rfl sS ?_
  refine na ?_
  refine na ?_
  refine ae rfl Qt.move ?_
  refine na ?_
  refine AWA.rep 19 (tr [(l.getD i.k En.dflt)]) rfl (row1_sim (α := DFile) (fun c hc => match c, hc with | 0, _ => T.sim_refl _ | 1, _ => T.sim_refl _ | c + 2, hc => absurd hc (by simp only [En.n]; omega))) ?_
  refine na ?_
  refine a1 8 [] [7, 5, 0, 6, 4, 2, 3, 1] rfl rfl (Stp.appendM rfl (by decide) (by decide) rfl rfl rfl (by simp only [List.length_cons, List.length_nil]; omega)) ?_
  refine na ?_
  refine na ?_
  refine AWA.rep 20 (tr (l.take (i.k + 1))) rfl (by rw [take_snocG En.dflt (show i.k < l.length by omega)]; exact app_sim (l := l.take i.k) (l' := [l.getD i.k En.dflt]) rfl (fun _ _ _ _ => rfl) (fun _ _ _ _ => rfl)) ?_
  refine na ?_
  refine a1 9 [] [8, 7, 6, 5, 4, 3, 2, 1, 0] rfl rfl (Stp.q rfl (by decide) Qt.assign) ?_
  refine na ?_
  refine na ?_
  refine nz ?_
  refine AW.region ?_
  refine ba ?_
  refine qm ?_
  refine nl ?_
  refine ⟨⟨i.k + 1, by omega⟩, Weak.sim ⟨st1, rfl, rfl, rfl, Rf rfl, Rf rfl, trivial⟩ rfl rfl, ?_⟩
  show l.length - (i.k + 1) < l.length - i.k
  omega
 try simp only [cnd] at c1
 refine AW.exit ?_
 dsimp only [thenQ, blockQ, reduceIte]
 refine sr ?_
 refine mn ?_
 refine qn ?_
 refine AW.rep 20 (tr l) rfl (by rw [List.take_of_length_le (by omega)]; exact T.sim_refl _) ?_
 refine rt1 2 ?_
 refine ⟨fun _ => 20, rfl, nodup_of rfl, ?_⟩
 intro r hr
 cases List.mem_singleton.1 hr
 exact ⟨by simp, rootL_mem rfl⟩
theorem cloneCpu_con (c : DCpu) (hs : c.Regs.length ≤ 4194304) : Con Tryz.prog 209 [.g [.v (iv c.Pc), .h base []]] [.rt base .ro (tr c.Regs)] (Ret (.g [.v (iv c.Pc), .h 0 []]) [(0, .row, tr c.Regs)]) := by
 refine ob Tryz.func209 Tryz.ntmps209 ?_
 refine sr ?_
 refine bx ?_
 refine nm ?_
 refine sp sA ?_
 refine nl ?_
 refine AW.seq ?_
 refine AW.draw [0, 1, 2, 3, 5] rfl (by decide +kernel) ?_
 refine tk 0 rfl (fA fl70_0) ?_
 refine na ?_
 refine tk 1 rfl (Qt.load1 rfl rfl rfl ag3) ?_
 refine tk 2 rfl (fA fl70_1) ?_
 refine tk 3 rfl (Qt.load1 rfl rfl rfl ag29) ?_
 refine na ?_
 refine a1 4 [0, 1] [3, 2] rfl rfl (Stp.callR rfl (by decide) Tryz.call160 rfl rfl (cloneI_con _ (by omega)) (nodup_of rfl) rfl rfl) ?_
 refine na ?_
 refine ae rfl (fA fl70_0) ?_
 refine ae rfl (Qt.load1 rfl rfl rfl ag3) ?_
 refine na ?_
 refine tk 5 rfl (Qt.build rfl) ?_
 refine a1 6 [] [5, 4, 3, 2, 1, 0] rfl rfl (by first | exact Stp.storeA rfl rfl rfl rfl (by decide) rfl | exact Stp.store rfl rfl (by simp) rfl rfl rfl (by decide) rfl) ?_
 refine na ?_
 refine na ?_
 refine nz ?_
 refine AW.ret (endQ_ret (.cons (.cellG 2 70 rfl rfl rfl ag70 sz70 (by decide)) .nil) ?_)
 refine ⟨fun _ => 7, rfl, nodup_of rfl, ?_⟩
 intro r hr
 cases List.mem_singleton.1 hr
 exact ⟨by simp, rootL_mem rfl⟩
theorem cloneProc_con (p : DProc) (hw : Mk.wt p ≤ 1048576) : Con Tryz.prog 161 [.g [.v (iv p.Pid), .v (iv p.Parent), .v (iv p.State), .v (iv p.Prog), .v (iv p.Cpu.Pc), .h base [], .h (base + 1) [], .h (base + 2) [], .v (iv p.Until), .v (iv p.Code)]] [.rt base .ro (tr p.Cpu.Regs), .rt (base + 1) .ro (tr p.Mem), .rt (base + 2) .ro (tr p.Fds)] (Ret (.g [.v (iv p.Pid), .v (iv p.Parent), .v (iv p.State), .v (iv p.Prog), .v (iv p.Cpu.Pc), .h 0 [], .h 1 [], .h 2 [], .v (iv p.Until), .v (iv p.Code)]) [(0, .row, tr p.Cpu.Regs), (1, .row, tr p.Mem), (2, .row, tr p.Fds)]) := by
 refine ob Tryz.func161 Tryz.ntmps161 ?_
 have hwp : Mk.wt p.Cpu.Regs + Mk.wt p.Mem + Mk.wt p.Fds ≤ 1048576 := hw
 have hw1 := wt_ints p.Cpu.Regs
 have hw2 := wt_ints p.Mem
 have hw3 := wt_ints p.Fds
 refine sr ?_
 refine bx ?_
 refine nm ?_
 refine sp sA ?_
 refine ns ?_
 refine qq (fA fl72_4) ?_
 refine nm ?_
 refine qG ag70 sz70 ?_
 refine sp (Stp.callR rfl (by decide) Tryz.call209 rfl rfl (cloneCpu_con p.Cpu (by omega)) (nodup_of rfl) rfl rfl) ?_
 refine nm ?_
 refine qq (fA fl72_4) ?_
 refine ss ?_
 refine ns ?_
 refine qq (fA fl72_5) ?_
 refine nm ?_
 refine ql ag29 ?_
 refine sp (Stp.callR rfl (by decide) Tryz.call160 rfl rfl (cloneI_con _ (by omega)) (nodup_of rfl) rfl rfl) ?_
 refine nm ?_
 refine qq (fA fl72_5) ?_
 refine ss ?_
 refine ns ?_
 refine qq (fA fl72_6) ?_
 refine nm ?_
 refine ql ag29 ?_
 refine sp (Stp.callR rfl (by decide) Tryz.call160 rfl rfl (cloneI_con _ (by omega)) (nodup_of rfl) rfl rfl) ?_
 refine nm ?_
 refine qq (fA fl72_6) ?_
 refine ss ?_
 refine ns ?_
 refine qG ag72 sz72 ?_
 refine nm ?_
 refine ss ?_
 refine nl ?_
 refine AW.ret (endQ_ret (.cons (.cellG 2 72 rfl rfl rfl ag72 sz72 (by decide)) .nil) ?_)
 refine ⟨fun i => if i = 0 then 5 else if i = 1 then 9 else 13, rfl, nodup_of rfl, ?_⟩
 intro r hr
 simp only [List.mem_cons, List.not_mem_nil, or_false] at hr
 rcases hr with rfl | rfl | rfl <;> exact ⟨by simp, rootL_mem rfl⟩
end Go.Proofs.YtfbefcmeghpalaaGreat.VM
