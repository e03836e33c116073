/- Contracts. No conditions. -/
import Derived.Test.YtldefnpobjabpaaGreatVmD
import Derived.Test.YtldefnpobjabpaaGreatCQ8
import Derived.Test.YtldefnpobjabpaaGreatCQ2
set_option linter.all false
set_option maxHeartbeats 8000000
set_option maxRecDepth 10000
namespace Go.Proofs.YtldefnpobjabpaaGreat.VM
open Go Go.RowKit Go.Proofs
def putN (l : List PC) (p : PC) (k : Nat) : Bool := (l.take k).any fun y => decide (p.pid < y.pid)
def insN (l : List PC) (p : PC) (k : Nat) : List PC := if putN l p k = true then insK PC.pid (l.take k) p else l.take k
theorem putN_next {l : List PC} {p : PC} {k : Nat} (h : k < l.length) : putN l p (k + 1) = (putN l p k || decide (p.pid < (l.getD k En.dflt).pid)) := by
 unfold putN
 rw [take_snocG En.dflt h, List.any_append]
 simp
theorem insK_any : ∀ {l : List PC} {p y : PC}, (l.any fun y => decide (p.pid < y.pid)) = true → insK PC.pid (l ++ [y]) p = insK PC.pid l p ++ [y]
 | [], _, _, h => by cases h
 | x :: l, p, y, h => by
  rw [List.cons_append, insK, insK]
  by_cases hx : p.pid < x.pid
  ·rw [if_pos hx, if_pos hx]; rfl
  ·rw [if_neg hx, if_neg hx, insK_any (by simpa [List.any_cons, hx] using h)]; rfl
theorem insK_none : ∀ {l l2 : List PC} {p : PC}, (l.any fun y => decide (p.pid < y.pid)) = false → insK PC.pid (l ++ l2) p = l ++ insK PC.pid l2 p
 | [], _, _, _ => rfl
 | x :: l, l2, p, h => by
  rw [List.any_cons, Bool.or_eq_false_iff] at h
  rw [List.cons_append, insK, if_neg (by simpa using h.1), insK_none h.2]; rfl
theorem insN_old {l : List PC} {p : PC} {k : Nat} (h : k < l.length) (h1 : putN l p k = true) : insN l p (k + 1) = insN l p k ++ [l.getD k En.dflt] := by
 unfold insN
 rw [putN_next h, h1, Bool.true_or, if_pos rfl, if_pos rfl, take_snocG En.dflt h, insK_any h1]
theorem insN_not {l : List PC} {p : PC} {k : Nat} (h : k < l.length) (h1 : putN l p k = false) (h2 : ¬ p.pid < (l.getD k En.dflt).pid) : insN l p (k + 1) = insN l p k ++ [l.getD k En.dflt] := by
 unfold insN
 rw [putN_next h, h1, Bool.false_or, decide_eq_false h2, if_neg (by simp), if_neg (by simp), take_snocG En.dflt h]
theorem insN_put {l : List PC} {p : PC} {k : Nat} (h : k < l.length) (h1 : putN l p k = false) (h2 : p.pid < (l.getD k En.dflt).pid) : insN l p (k + 1) = (insN l p k ++ [p]) ++ [l.getD k En.dflt] := by
 unfold insN
 rw [putN_next h, h1, Bool.false_or, decide_eq_true h2, if_pos rfl, if_neg (by simp), take_snocG En.dflt h, insK_none h1, insK, if_pos h2, List.append_assoc]
 rfl
theorem insN_len {l : List PC} {p : PC} {k : Nat} : (insN l p k).length ≤ k + 1 := by
 unfold insN
 split
 ·rw [insK_len, List.length_take]; omega
 ·rw [List.length_take]; omega
theorem insN_end {l : List PC} {p : PC} {k : Nat} (h1 : l.length ≤ k) (h2 : k ≤ l.length) : insK PC.pid l p = if putN l p k = true then insN l p k else insN l p k ++ [p] := by
 obtain rfl : k = l.length := by omega
 unfold insN
 split
 ·rw [List.take_of_length_le (Nat.le_refl _)]
 ·rename_i h
  have h' : (l.any fun y => decide (p.pid < y.pid)) = false := by
   have := (Bool.not_eq_true _).mp h
   unfold putN at this
   rwa [List.take_of_length_le (Nat.le_refl _)] at this
  have := insK_none (l2 := []) h'
  rw [List.append_nil] at this
  rw [this, List.take_of_length_le (Nat.le_refl _)]
  rfl
theorem l12SortPC_con (l : List PC) (p : PC) (hs : l.length ≤ 1000) : Con Tryz.prog 115 [.h base [], .g [.v (iv p.pid), .v (iv p.parent), .v (iv p.state), .v (iv p.prog), .v (iv p.pc), .v (.slice p.ra p.rl p.rc), .v (.slice p.ma p.ml p.mc), .v (.slice p.fa p.fl p.fc), .v (iv p.til), .v (iv p.code)]] [.rt base .ro (tr l)] (Ret (.h 0 []) [(0, .row, tr (insK PC.pid l p))]) := by
 refine ob Tryz.func115 Tryz.ntmps115 ?_
 refine go [.R] (k := ?_)
 refine sp (Stp.boxZ (List.replicate 10 .j) rfl (by decide) (by decide) rfl rfl (by rfl) rfl rfl) ?_
 refine go [.N,.a,.Z,.R,.S,.N,.a,.Z,.R,.a,.Z,.R2,.a,.Z] (k := ?_)
 refine AW.block ?_
 refine AW.renR 8 37 rfl (by decide) (by decide) ?_
 refine AW.loopW (fun i : KInv l.length => [.sl 7 (.v (iv i.k)), .sl 6 (.v (.bool (putN l p i.k))), .sl 5 (.h 37 []), .sl 3 (.p 3 [] 10 0 0), .sl 0 (.h base []), .rt 3 .box (T.s 10 1 fun k c => ([(T.v (iv p.pid), none), (T.v (iv p.parent), none), (T.v (iv p.state), none), (T.v (iv p.prog), none), (T.v (iv p.pc), none), (T.v (.slice p.ra p.rl p.rc), none), (T.v (.slice p.ma p.ml p.mc), none), (T.v (.slice p.fa p.fl p.fc), none), (T.v (iv p.til), none), (T.v (iv p.code), none)].getD (k * 10 + c) (T.j, none)).fst), .rt base .ro (tr l), .rt 37 .row (tr (insN l p i.k))]) (fun i => l.length - i.k) ⟨0, Nat.zero_le _⟩ (Weak.sim ⟨rfl, rfl, rfl, rfl, rfl, Rf rfl, Rf rfl, ⟨_, rfl, sim_nil⟩, trivial⟩ rfl rfl) ?_
 intro i
 have hle := i.le
 have hil := insN_len (l := l) (p := p) (k := i.k)
 refine go [.R2,.m,.N,.m,.h,.b,.Z] (k := ?_)
 refine cd (fun c1 => ?_) fun c1 => ?_
 ·try simp only [cnd] at c1
  refine jd (AW.seq (AW.block (AW.seq (AW.seq ?_))))
  refine go [.D [0, 1, 2, 3, 4, 5, 6, 7, 8, 9, 10, 11],.t 0,.m,.N,.t 1,.n,.t 2,.m] (k := ?_)
  refine AWA.split 17 rfl (fun g2 => ?_) (fun g2 => ?_)
  ·refine go [.t 3,.m,.N,.t 4,.m,.t 5,.i,.t 6,.f,.N,.t 7,.l,.t 8,.f,.t 9,.l,.N,.t 10,.b] (k := ?_)
   refine tk 11 rfl (Qt.pickT rfl g2) ?_
   refine go [.Z] (k := ?_)
   refine cd (fun c3 => ?_) fun c3 => ?_
   ·try simp only [cnd] at c3
    have hq : putN l p i.k = false := by simpa using ‹(!putN l p i.k) = true›
    have hc : p.pid < (l.getD i.k En.dflt).pid := by omega
    refine go [.R,.m,.N,.G] (k := ?_)
    refine sp (Stp.buildSliceZ (List.replicate 10 .j) rfl (by decide) (by decide) rfl (by decide) rfl (by rfl) rfl rfl (nodup_of rfl)) ?_
    refine go [.N] (k := ?_)
    refine AWL.rep 29 (tr [p]) rfl (row1_sim (α := PC) (fun c hc => match c, hc with | 0, _ => tsr | 1, _ => tsr | 2, _ => tsr | 3, _ => tsr | 4, _ => tsr | 5, _ => tsr | 6, _ => tsr | 7, _ => tsr | 8, _ => tsr | 9, _ => tsr | c + 10, hc => absurd hc (by simp only [En.n]; omega))) ?_
    refine go [.N] (k := ?_)
    refine sp (Stp.appendM rfl (by decide) (by decide) rfl rfl rfl (by simp only [List.length_cons, List.length_nil, List.length_append]; omega)) ?_
    refine go [.N] (k := ?_)
    refine AWL.rep 30 (tr (insN l p i.k ++ [p])) rfl (app_sim (l := insN l p i.k) (l' := [p]) rfl (fun _ _ _ _ => rfl) (fun _ _ _ _ => rfl)) ?_
    refine go [.N,.a,.Z,.R1,.a] (k := ?_)
    refine AWL.weak (Weak.slot (d := 6) (v' := .bool (putN l p (i.k + 1))) rfl (congrArg Value.bool (by rw [putN_next (by omega), hq, decide_eq_true hc]; rfl))) ?_
    refine go [.Z,.R1,.m,.N,.m,.m,.i,.N,.G] (k := ?_)
    refine sp (Stp.buildSliceZ (List.replicate 10 .j) rfl (by decide) (by decide) rfl (by decide) rfl (by rfl) rfl rfl (nodup_of rfl)) ?_
    refine go [.N] (k := ?_)
    refine AWL.rep 36 (tr [(l.getD i.k En.dflt)]) rfl (row1_sim (α := PC) (fun c hc => match c, hc with | 0, _ => tsr | 1, _ => tsr | 2, _ => tsr | 3, _ => tsr | 4, _ => tsr | 5, _ => tsr | 6, _ => tsr | 7, _ => tsr | 8, _ => tsr | 9, _ => tsr | c + 10, hc => absurd hc (by simp only [En.n]; omega))) ?_
    refine go [.N] (k := ?_)
    refine sp (Stp.appendM rfl (by decide) (by decide) rfl rfl rfl (by simp only [List.length_cons, List.length_nil, List.length_append]; omega)) ?_
    refine go [.N] (k := ?_)
    refine AWL.rep 37 (tr (insN l p (i.k + 1))) rfl (by rw [insN_put (by omega) hq hc]; exact app_sim (l := insN l p i.k ++ [p]) (l' := [(l.getD i.k En.dflt)]) rfl (fun _ _ _ _ => rfl) (fun _ _ _ _ => rfl)) ?_
    refine go [.N,.a,.Z,.R1,.m,.b,.N,.a,.Z] (k := ?_)
    refine ⟨⟨i.k + 1, by omega⟩, ws, ?_⟩
    show l.length - (i.k + 1) < l.length - i.k
    omega
   try simp only [cnd] at c3
   have hq : putN l p i.k = false := by simpa using ‹(!putN l p i.k) = true›
   have hc : ¬ p.pid < (l.getD i.k En.dflt).pid := by omega
   refine go [.J,.R1,.m,.m,.N,.m,.i,.G,.N] (k := ?_)
   refine sp (Stp.buildSliceZ (List.replicate 10 .j) rfl (by decide) (by decide) rfl (by decide) rfl (by rfl) rfl rfl (nodup_of rfl)) ?_
   refine go [.N] (k := ?_)
   refine AWL.rep 36 (tr [(l.getD i.k En.dflt)]) rfl (row1_sim (α := PC) (fun c hc => match c, hc with | 0, _ => tsr | 1, _ => tsr | 2, _ => tsr | 3, _ => tsr | 4, _ => tsr | 5, _ => tsr | 6, _ => tsr | 7, _ => tsr | 8, _ => tsr | 9, _ => tsr | c + 10, hc => absurd hc (by simp only [En.n]; omega))) ?_
   refine go [.N] (k := ?_)
   refine sp (Stp.appendM rfl (by decide) (by decide) rfl rfl rfl (by simp only [List.length_cons, List.length_nil, List.length_append]; omega)) ?_
   refine go [.N] (k := ?_)
   refine AWL.rep 37 (tr (insN l p (i.k + 1))) rfl (by rw [insN_not (by omega) hq hc]; exact app_sim (l := insN l p i.k) (l' := [(l.getD i.k En.dflt)]) rfl (fun _ _ _ _ => rfl) (fun _ _ _ _ => rfl)) ?_
   refine go [.N,.a] (k := ?_)
   refine AWL.weak (Weak.slot (d := 6) (v' := .bool (putN l p (i.k + 1))) rfl (congrArg Value.bool (by rw [putN_next (by omega), hq, decide_eq_false hc]; rfl))) ?_
   refine go [.Z,.R1,.m,.N,.b,.a,.Z] (k := ?_)
   refine ⟨⟨i.k + 1, by omega⟩, ws, ?_⟩
   show l.length - (i.k + 1) < l.length - i.k
   omega
  refine go [.t 3,.x,.N,.t 4,.x,.t 5,.x,.t 6,.x,.N,.t 7,.x,.t 8,.x,.t 9,.x,.N,.t 10,.x] (k := ?_)
  refine tk 11 rfl (Qt.pickF rfl g2) ?_
  refine go [.Z] (k := ?_)
  refine AW.cond rfl (fun c4 => (by cases c4)) (fun c4 => ?_)
  try simp only [cnd] at c4
  have hq : putN l p i.k = true := by simpa using ‹(!putN l p i.k) = false›
  refine go [.J,.R1,.m,.N,.m,.m,.i,.N,.G] (k := ?_)
  refine sp (Stp.buildSliceZ (List.replicate 10 .j) rfl (by decide) (by decide) rfl (by decide) rfl (by rfl) rfl rfl (nodup_of rfl)) ?_
  refine go [.N] (k := ?_)
  refine AWL.rep 36 (tr [(l.getD i.k En.dflt)]) rfl (row1_sim (α := PC) (fun c hc => match c, hc with | 0, _ => tsr | 1, _ => tsr | 2, _ => tsr | 3, _ => tsr | 4, _ => tsr | 5, _ => tsr | 6, _ => tsr | 7, _ => tsr | 8, _ => tsr | 9, _ => tsr | c + 10, hc => absurd hc (by simp only [En.n]; omega))) ?_
  refine go [.N] (k := ?_)
  refine sp (Stp.appendM rfl (by decide) (by decide) rfl rfl rfl (by simp only [List.length_cons, List.length_nil, List.length_append]; omega)) ?_
  refine go [.N] (k := ?_)
  refine AWL.rep 37 (tr (insN l p (i.k + 1))) rfl (by rw [insN_old (by omega) hq]; exact app_sim (l := insN l p i.k) (l' := [(l.getD i.k En.dflt)]) rfl (fun _ _ _ _ => rfl) (fun _ _ _ _ => rfl)) ?_
  refine go [.N,.a] (k := ?_)
  refine AWL.weak (Weak.slot (d := 6) (v' := .bool (putN l p (i.k + 1))) rfl (congrArg Value.bool (by rw [putN_next (by omega), hq]; rfl))) ?_
  refine go [.Z,.R1,.m,.N,.b,.a,.Z] (k := ?_)
  refine ⟨⟨i.k + 1, by omega⟩, ws, ?_⟩
  show l.length - (i.k + 1) < l.length - i.k
  omega
 try simp only [cnd] at c1
 refine AW.exit ?_
 dsimp only [thenQ, blockQ, reduceIte]
 refine go [.R2,.m,.N,.n,.Z] (k := ?_)
 refine cd (fun c5 => ?_) fun c5 => ?_
 ·try simp only [cnd] at c5
  refine go [.R1,.m,.G,.N] (k := ?_)
  refine sp (Stp.buildSliceZ (List.replicate 10 .j) rfl (by decide) (by decide) rfl (by decide) rfl (by rfl) rfl rfl (nodup_of rfl)) ?_
  refine go [.N] (k := ?_)
  refine AWL.rep 42 (tr [p]) rfl (row1_sim (α := PC) (fun c hc => match c, hc with | 0, _ => tsr | 1, _ => tsr | 2, _ => tsr | 3, _ => tsr | 4, _ => tsr | 5, _ => tsr | 6, _ => tsr | 7, _ => tsr | 8, _ => tsr | 9, _ => tsr | c + 10, hc => absurd hc (by simp only [En.n]; omega))) ?_
  refine go [.N] (k := ?_)
  refine sp (Stp.appendM rfl (by decide) (by decide) rfl rfl rfl (by simp only [List.length_cons, List.length_nil, List.length_append]; omega)) ?_
  refine go [.N] (k := ?_)
  refine AWL.rep 43 (tr (insN l p i.k ++ [p])) rfl (app_sim (l := insN l p i.k) (l' := [p]) rfl (fun _ _ _ _ => rfl) (fun _ _ _ _ => rfl)) ?_
  refine go [.N,.a,.Z,.R,.m,.a,.Z] (k := ?_)
  refine rt1 4 ?_
  rw [show insK PC.pid l p = insN l p i.k ++ [p] from by rw [insN_end (k := i.k) (by omega) (by omega), if_neg (by simpa using c5)]]
  refine ⟨fun _ => 43, rfl, nodup_of rfl, ?_⟩
  intro r hr
  cases List.mem_singleton.1 hr
  exact ⟨by simp, rootL_mem rfl⟩
 try simp only [cnd] at c5
 refine go [.J,.R,.m,.N,.a,.Z] (k := ?_)
 refine rt1 4 ?_
 rw [show insK PC.pid l p = insN l p i.k from by rw [insN_end (k := i.k) (by omega) (by omega), if_pos (by simpa using c5)]]
 refine ⟨fun _ => 37, rfl, nodup_of rfl, ?_⟩
 intro r hr
 cases List.mem_singleton.1 hr
 exact ⟨by simp, rootL_mem rfl⟩
end Go.Proofs.YtldefnpobjabpaaGreat.VM

