/- Contracts. No conditions. -/
import Derived.Test.YtldefnpobjabpaaGreatCQ0
set_option linter.all false
set_option maxHeartbeats 8000000
set_option maxRecDepth 10000
namespace Go.Proofs.YtldefnpobjabpaaGreat.VM
open Go Go.RowKit Go.Proofs
structure PC where
 pid : Int
 parent : Int
 state : Int
 prog : Int
 pc : Int
 ra : Option Addr
 rl : Nat
 rc : Nat
 ma : Option Addr
 ml : Nat
 mc : Nat
 fa : Option Addr
 fl : Nat
 fc : Nat
 til : Int
 code : Int
instance : En PC := ⟨10, by omega, fun a => [.v (iv a.pid), .v (iv a.parent), .v (iv a.state), .v (iv a.prog), .v (iv a.pc), .v (.slice a.ra a.rl a.rc), .v (.slice a.ma a.ml a.mc), .v (.slice a.fa a.fl a.fc), .v (iv a.til), .v (iv a.code)], fun _ => rfl, fun _ => True, ⟨0, 0, 0, 0, 0, none, 0, 0, none, 0, 0, none, 0, 0, 0, 0⟩⟩
@[go_sem] theorem cs_PC (a : PC) : En.cs a = [.v (iv a.pid), .v (iv a.parent), .v (iv a.state), .v (iv a.prog), .v (iv a.pc), .v (.slice a.ra a.rl a.rc), .v (.slice a.ma a.ml a.mc), .v (.slice a.fa a.fl a.fc), .v (iv a.til), .v (iv a.code)] := rfl
def cmpI (a b : Int) : Int := if a < b then -1 else if b < a then 1 else 0
theorem cmpI_neg {a b : Int} : cmpI a b < 0 ↔ a < b := by
 unfold cmpI
 split
 ·simp; assumption
 ·split <;> simp <;> omega
structure SI (l : List PC) where
 k : Nat
 k1 : 1 ≤ k
 le : k ≤ l.length ∨ k = 1
 cur : List PC
 cq : cur = sortK PC.pid (l.take k) ++ l.drop k
structure NI (l : List PC) (k : Nat) where
 j : Nat
 cur : List PC
 l1 : List PC
 l2 : List PC
 srt : sortK PC.pid (l.take k) = l1 ++ l2
 cq : cur = l1 ++ l.getD k En.dflt :: (l2 ++ l.drop (k + 1))
 jl : j = l1.length
 gt : ∀ y ∈ l2, (l.getD k En.dflt).pid < y.pid
theorem SI.full {l : List PC} (i : SI l) (h : l.length ≤ i.k) : i.cur = sortK PC.pid l := by
 rw [i.cq, List.take_of_length_le h, List.drop_of_length_le h, List.append_nil]
theorem SI.first (l : List PC) : l = sortK PC.pid (l.take 1) ++ l.drop 1 := by
 cases l with
 | nil => rfl
 | cons x l => rfl
theorem dropK {l : List PC} {k : Nat} (h : k < l.length) : l.drop k = l.getD k En.dflt :: l.drop (k + 1) := by
 rw [List.drop_eq_getElem_cons h, List.getD_eq_getElem?_getD, List.getElem?_eq_getElem h]
 rfl
theorem SI.start {l : List PC} (i : SI l) (h : i.k < l.length) : i.cur = sortK PC.pid (l.take i.k) ++ l.getD i.k En.dflt :: ([] ++ l.drop (i.k + 1)) := by
 rw [i.cq, dropK h]
 rfl
theorem NI.len {l : List PC} {k : Nat} (i : NI l k) (h : k < l.length) : i.cur.length = l.length ∧ i.j ≤ k := by
 have h1 := congrArg List.length i.srt
 rw [sortK_len, List.length_take, List.length_append] at h1
 have h2 := i.jl
 refine ⟨?_, by omega⟩
 rw [i.cq, List.length_append, List.length_cons, List.length_append, List.length_drop]
 omega
theorem NI.atJ {l : List PC} {k : Nat} (i : NI l k) : i.cur.getD i.j En.dflt = l.getD k En.dflt := by
 rw [i.cq, i.jl, List.getD_eq_getElem?_getD, List.getElem?_append_right (Nat.le_refl _), Nat.sub_self]
 rfl
theorem NI.split {l : List PC} {k : Nat} (i : NI l k) (h : 0 < i.j) : ∃ l0, i.l1 = l0 ++ [i.cur.getD (i.j - 1) En.dflt] := by
 have hjl := i.jl
 rcases List.eq_nil_or_concat i.l1 with e | ⟨l0, z, e⟩
 ·rw [e] at hjl; simp at hjl; omega
 ·refine ⟨l0, ?_⟩
  rw [List.concat_eq_append] at e
  rw [e] at hjl ⊢
  simp at hjl
  have : i.cur.getD (i.j - 1) En.dflt = z := by
   rw [i.cq, e, hjl, List.getD_eq_getElem?_getD, Nat.add_sub_cancel, List.append_assoc, List.getElem?_append_right (Nat.le_refl _), Nat.sub_self]
   rfl
  rw [this]
theorem NI.next {l : List PC} {k : Nat} (i : NI l k) (h : 0 < i.j) (hlt : (i.cur.getD i.j En.dflt).pid < (i.cur.getD (i.j - 1) En.dflt).pid) :
  ∃ i' : NI l k, i'.j = i.j - 1 ∧ i'.cur = (i.cur.set i.j (i.cur.getD (i.j - 1) En.dflt)).set (i.j - 1) (i.cur.getD i.j En.dflt) := by
 obtain ⟨l0, e⟩ := i.split h
 have hjl := i.jl
 have hat := i.atJ
 rw [hat] at hlt ⊢
 generalize hz : i.cur.getD (i.j - 1) En.dflt = z at *
 have hl0 : i.j = l0.length + 1 := by rw [hjl, e]; simp
 have hgt : ∀ y ∈ z :: i.l2, (l.getD k En.dflt).pid < y.pid := fun y hy => by
  rcases List.mem_cons.1 hy with rfl | hy
  ·exact hlt
  ·exact i.gt y hy
 have hcur : l0 ++ l.getD k En.dflt :: ((z :: i.l2) ++ l.drop (k + 1)) = (i.cur.set i.j z).set (i.j - 1) (l.getD k En.dflt) := by
  have hc := i.cq
  rw [e] at hc
  rw [hc, hl0]
  simp
 exact ⟨⟨i.j - 1, l0 ++ l.getD k En.dflt :: ((z :: i.l2) ++ l.drop (k + 1)), l0, z :: i.l2, by rw [i.srt, e]; simp, rfl, by omega, hgt⟩, rfl, hcur⟩
theorem NI.done {l : List PC} {k : Nat} (i : NI l k) (hk : k < l.length) (h : i.j = 0 ∨ ¬ (i.cur.getD i.j En.dflt).pid < (i.cur.getD (i.j - 1) En.dflt).pid) : i.cur = sortK PC.pid (l.take (k + 1)) ++ l.drop (k + 1) := by
 have ht : l.take (k + 1) = l.take k ++ [l.getD k En.dflt] := by
  rw [List.take_add_one, List.getElem?_eq_getElem hk, List.getD_eq_getElem?_getD, List.getElem?_eq_getElem hk]
  rfl
 have ha := sortK_asc PC.pid (l.take k)
 rw [i.srt] at ha
 rw [ht, sortK_snoc, i.srt, insK_end PC.pid ha (fun y hy => ?_) i.gt, i.cq]
 ·simp
 ·rcases Nat.eq_zero_or_pos i.j with h0 | h0
  ·have : i.l1 = [] := List.eq_nil_of_length_eq_zero (by rw [← i.jl]; exact h0)
   rw [this] at hy; cases hy
  ·obtain ⟨l0, e⟩ := i.split h0
   rw [e] at hy
   have hy2 : some (i.cur.getD (i.j - 1) En.dflt) = some y := by rw [List.getLast?_concat] at hy; exact hy
   cases hy2
   rcases h with h | h
   ·omega
   ·rw [i.atJ] at h; omega
theorem byPid_con (a b : PC) : Con Tryz.prog 50 [.g [.v (iv a.pid), .v (iv a.parent), .v (iv a.state), .v (iv a.prog), .v (iv a.pc), .c, .c, .c, .v (iv a.til), .v (iv a.code)], .g [.v (iv b.pid), .v (iv b.parent), .v (iv b.state), .v (iv b.prog), .v (iv b.pc), .c, .c, .c, .v (iv b.til), .v (iv b.code)]] [] (fun y _ => y = .v (iv (cmpI a.pid b.pid))) := by
 refine ob Tryz.func50 Tryz.ntmps50 ?_
 refine sr ?_
 refine bx ?_
 refine nm ?_
 refine bx ?_
 refine nm ?_
 refine qn ?_
 refine AW.seq (AW.block (sr ?_))
 refine qq (fA fl92_0) ?_
 refine ql ag3 ?_
 refine nm ?_
 refine qq (fA fl92_0) ?_
 refine ql ag3 ?_
 refine qb ?_
 refine nm ?_
 refine qn ?_
 refine cd (fun c1 => ?_) fun c1 => ?_
 ·try simp only [cnd] at c1
  refine sr ?_
  refine qr 4 ?_
  rw [show cmpI a.pid b.pid = -1 from if_pos (by omega)]
  rfl
 try simp only [cnd] at c1
 refine sr ?_
 refine qq (fA fl92_0) ?_
 refine nm ?_
 refine ql ag3 ?_
 refine qq (fA fl92_0) ?_
 refine ql ag3 ?_
 refine nm ?_
 refine qb ?_
 refine qn ?_
 refine cd (fun c2 => ?_) fun c2 => ?_
 ·try simp only [cnd] at c2
  refine sr ?_
  refine qr 4 ?_
  rw [show cmpI a.pid b.pid = 1 from (if_neg (by omega)).trans (if_pos (by omega))]
  rfl
 try simp only [cnd] at c2
 refine jd (sr ?_)
 refine qr 4 ?_
 rw [show cmpI a.pid b.pid = 0 from (if_neg (by omega)).trans (if_neg (by omega))]
 rfl
theorem xI7 {a b : Int} (h : a = b) : X.v (iv a) = X.v (iv b) := by rw [h]
theorem insSort_con (l : List PC) (hl : l.length ≤ 1000000) : Con Tryz.prog 196 [.h base [], .v (iv 0), .v (iv l.length), .f 50 []] [.rt base .row (tr l)] (RetW (.t []) [] [(base, tr (sortK PC.pid l))]) := by
 refine ob Tryz.func196 Tryz.ntmps196 ?_
 refine sr ?_
 refine qm ?_
 refine ba ?_
 refine qn ?_
 refine AW.block ?_
 refine AW.loopW (fun q : SI l => [.sl 8 (.v (iv q.k)), .sl 0 (.h base []), .sl 1 (.v (iv 0)), .sl 2 (.v (iv l.length)), .sl 3 (.f 50 []), .rt base .row (tr q.cur)]) (fun q => l.length - q.k) ⟨1, Nat.le_refl _, .inr rfl, l, SI.first l⟩ (Weak.sim ⟨rfl, rfl, rfl, rfl, rfl, Rf rfl, trivial⟩ rfl rfl) ?_
 intro q
 have hqk := q.k1
 refine sr2 ?_
 refine mn ?_
 refine qm ?_
 refine qb ?_
 refine nc (fun c1 => ?_) fun c1 => ?_
 ·have k1 := c1
  try simp only [cnd] at c1
  have hqlt : q.k < l.length := by omega
  refine jd (AW.seq (AW.block (sr ?_)))
  refine mn ?_
  refine qn ?_
  refine AW.block ?_
  refine AW.loopW (fun i : NI l q.k => [.sl 9 (.v (iv i.j)), .sl 8 (.v (iv q.k)), .sl 0 (.h base []), .sl 1 (.v (iv 0)), .sl 2 (.v (iv l.length)), .sl 3 (.f 50 []), .rt base .row (tr i.cur)]) (fun i => i.j) ⟨q.k, q.cur, sortK PC.pid (l.take q.k), [], (List.append_nil _).symm, q.start hqlt, by rw [sortK_len, List.length_take]; omega, fun _ h => by cases h⟩ (Weak.sim ⟨rfl, rfl, rfl, rfl, rfl, rfl, Rf rfl, trivial⟩ rfl rfl) ?_
  intro i
  obtain ⟨hil, hij⟩ := i.len hqlt
  have hjt : (((i.j : Nat) : Int) - 1).toNat = i.j - 1 := by omega
  refine AW.seq (AW.seq ?_)
  refine AW.draw [0, 1, 2, 3, 4, 5, 6, 7, 8, 9, 10, 11, 12, 13, 15, 16] rfl (by decide +kernel) ?_
  refine tk 0 rfl Qt.move ?_
  refine tk 1 rfl Qt.move ?_
  refine na ?_
  refine tk 2 rfl (Qt.binOp rfl rfl rfl) ?_
  refine tk 3 rfl Qt.move ?_
  refine AWA.split 21 rfl (fun g2 => ?_) (fun g2 => ?_)
  ·refine tg 4 rfl g2 Qt.move ?_
   refine na ?_
   refine tg 5 rfl g2 Qt.move ?_
   refine tg 6 rfl g2 Qt.move ?_
   refine tg 7 rfl g2 (ix sl35 sz92) ?_
   refine na ?_
   refine tg 8 rfl g2 (Qt.loadG rfl rfl rfl ag92 sz92 (by decide)) ?_
   refine tg 9 rfl g2 Qt.move ?_
   refine tg 10 rfl g2 Qt.move ?_
   refine na ?_
   refine tg 11 rfl g2 (Qt.binOp rfl rfl (by first | exact pbSub (by omega) | rfl)) ?_
   refine tg 12 rfl g2 (ix sl35 sz92) ?_
   refine tg 13 rfl g2 (Qt.loadG rfl rfl rfl ag92 sz92 (by decide)) ?_
   refine na ?_
   have hj0 : 0 < i.j := by simpa using g2
   refine na ?_
   refine AWA.weak (Weak.toC 26 [.v (iv (i.cur.getD i.j En.dflt).pid), .v (iv (i.cur.getD i.j En.dflt).parent), .v (iv (i.cur.getD i.j En.dflt).state), .v (iv (i.cur.getD i.j En.dflt).prog), .v (iv (i.cur.getD i.j En.dflt).pc), .c, .c, .c, .v (iv (i.cur.getD i.j En.dflt).til), .v (iv (i.cur.getD i.j En.dflt).code)] rfl ⟨.inl rfl, .inl rfl, .inl rfl, .inl rfl, .inl rfl, .inr ⟨rfl, _, rfl, rfl⟩, .inr ⟨rfl, _, rfl, rfl⟩, .inr ⟨rfl, _, rfl, rfl⟩, .inl rfl, .inl rfl, trivial⟩) ?_
   refine AWA.weak (Weak.toC 31 [.v (iv (i.cur.getD (((i.j : Nat) : Int) - 1).toNat En.dflt).pid), .v (iv (i.cur.getD (((i.j : Nat) : Int) - 1).toNat En.dflt).parent), .v (iv (i.cur.getD (((i.j : Nat) : Int) - 1).toNat En.dflt).state), .v (iv (i.cur.getD (((i.j : Nat) : Int) - 1).toNat En.dflt).prog), .v (iv (i.cur.getD (((i.j : Nat) : Int) - 1).toNat En.dflt).pc), .c, .c, .c, .v (iv (i.cur.getD (((i.j : Nat) : Int) - 1).toNat En.dflt).til), .v (iv (i.cur.getD (((i.j : Nat) : Int) - 1).toNat En.dflt).code)] rfl ⟨.inl rfl, .inl rfl, .inl rfl, .inl rfl, .inl rfl, .inr ⟨rfl, _, rfl, rfl⟩, .inr ⟨rfl, _, rfl, rfl⟩, .inr ⟨rfl, _, rfl, rfl⟩, .inl rfl, .inl rfl, trivial⟩) ?_
   refine na ?_
   refine a1 14 [] [13, 8, 4, 3, 12, 7, 2, 11, 9, 6, 5, 1, 0, 10] rfl g2 (Stp.callV rfl (by decide) Tryz.call50 rfl rfl (byPid_con _ _)) ?_
   refine na ?_
   refine na ?_
   refine tg 15 rfl g2 (Qt.binOp rfl rfl rfl) ?_
   refine tk 16 rfl (Qt.pickT rfl g2) ?_
   refine nz ?_
   refine cd (fun c3 => ?_) fun c3 => ?_
   ·try simp only [cnd] at c3
    refine jd (AW.seq (AW.block ?_))
    refine AW.draw [0, 1, 2, 3, 4, 5, 6, 7, 8, 9, 10, 11, 12, 13, 14, 16] rfl (by decide +kernel) ?_
    refine tk 0 rfl Qt.move ?_
    refine na ?_
    refine tk 1 rfl Qt.move ?_
    refine tk 2 rfl Qt.move ?_
    refine tk 3 rfl Qt.move ?_
    refine na ?_
    refine tk 4 rfl (Qt.binOp rfl rfl (by first | exact pbSub (by omega) | rfl)) ?_
    refine tk 5 rfl Qt.move ?_
    refine tk 6 rfl Qt.move ?_
    refine na ?_
    refine tk 7 rfl (Qt.binOp rfl rfl (by first | exact pbSub (by omega) | rfl)) ?_
    refine tk 8 rfl (ix sl35 sz92) ?_
    refine tk 9 rfl (Qt.loadG rfl rfl rfl ag92 sz92 (by decide)) ?_
    refine na ?_
    refine tk 10 rfl Qt.move ?_
    refine tk 11 rfl Qt.move ?_
    refine tk 12 rfl (ix sl35 sz92) ?_
    refine na ?_
    refine tk 13 rfl (Qt.loadG rfl rfl rfl ag92 sz92 (by decide)) ?_
    refine tk 14 rfl (ix sl35 sz92) ?_
    refine a1 15 [2, 3, 4] [14, 13, 9, 8, 7, 6, 5, 1, 0, 12, 11, 10] rfl rfl (Stp.storeZ [.v (.bool false), .v (.bool false), .v (.bool false), .v (.bool false), .v (.bool false), .v (.bool false), .v (.bool false), .v (.bool false), .v (.bool false), .v (.bool false)] rfl rfl (by simp) rfl (by rfl) rfl rfl (by decide) rfl) ?_
    refine na ?_
    refine ae rfl Qt.move ?_
    refine ae rfl Qt.move ?_
    refine ae rfl (Qt.binOp rfl rfl (by first | exact pbSub (by omega) | rfl)) ?_
    refine na ?_
    refine na ?_
    refine AWA.rep base (tr (i.cur.set i.j (i.cur.getD (((i.j : Nat) : Int) - 1).toNat En.dflt))) rfl (set_sim (fun k c hk => by simp only [upd_app, hk, false_and, if_false]; try rfl) (fun c hc => match c, hc with | 0, _ => (by simp only [upd_app, eq_self, and_self, and_true, and_false, if_true, if_false, Nat.reduceEqDiff]; exact tsr) | 1, _ => (by simp only [upd_app, eq_self, and_self, and_true, and_false, if_true, if_false, Nat.reduceEqDiff]; exact tsr) | 2, _ => (by simp only [upd_app, eq_self, and_self, and_true, and_false, if_true, if_false, Nat.reduceEqDiff]; exact tsr) | 3, _ => (by simp only [upd_app, eq_self, and_self, and_true, and_false, if_true, if_false, Nat.reduceEqDiff]; exact tsr) | 4, _ => (by simp only [upd_app, eq_self, and_self, and_true, and_false, if_true, if_false, Nat.reduceEqDiff]; exact tsr) | 5, _ => (by simp only [upd_app, eq_self, and_self, and_true, and_false, if_true, if_false, Nat.reduceEqDiff]; exact tsr) | 6, _ => (by simp only [upd_app, eq_self, and_self, and_true, and_false, if_true, if_false, Nat.reduceEqDiff]; exact tsr) | 7, _ => (by simp only [upd_app, eq_self, and_self, and_true, and_false, if_true, if_false, Nat.reduceEqDiff]; exact tsr) | 8, _ => (by simp only [upd_app, eq_self, and_self, and_true, and_false, if_true, if_false, Nat.reduceEqDiff]; exact tsr) | 9, _ => (by simp only [upd_app, eq_self, and_self, and_true, and_false, if_true, if_false, Nat.reduceEqDiff]; exact tsr) | c + 10, hc => absurd hc (by simp only [En.n]; omega))) ?_
    refine na ?_
    refine tk 16 rfl (Qt.indexAddr rfl rfl rfl rfl sl35 sz92 (by decide) (by first | omega | (simp only [List.length_set]; omega))) ?_
    refine a1 17 [] [16, 15, 14, 13, 12, 11, 10, 9, 8, 7, 6, 5, 4, 3, 2, 1, 0] rfl rfl (Stp.storeZ [.v (.bool false), .v (.bool false), .v (.bool false), .v (.bool false), .v (.bool false), .v (.bool false), .v (.bool false), .v (.bool false), .v (.bool false), .v (.bool false)] rfl rfl (by simp) rfl (by rfl) rfl rfl (by decide) rfl) ?_
    refine na ?_
    refine na ?_
    refine na ?_
    refine AWA.rep base (tr ((i.cur.set i.j (i.cur.getD (((i.j : Nat) : Int) - 1).toNat En.dflt)).set (((i.j : Nat) : Int) - 1).toNat (i.cur.getD i.j En.dflt))) rfl (set_sim (fun k c hk => by simp only [upd_app, hk, false_and, if_false]; try rfl) (fun c hc => match c, hc with | 0, _ => (by simp only [upd_app, eq_self, and_self, and_true, and_false, if_true, if_false, Nat.reduceEqDiff]; exact tsr) | 1, _ => (by simp only [upd_app, eq_self, and_self, and_true, and_false, if_true, if_false, Nat.reduceEqDiff]; exact tsr) | 2, _ => (by simp only [upd_app, eq_self, and_self, and_true, and_false, if_true, if_false, Nat.reduceEqDiff]; exact tsr) | 3, _ => (by simp only [upd_app, eq_self, and_self, and_true, and_false, if_true, if_false, Nat.reduceEqDiff]; exact tsr) | 4, _ => (by simp only [upd_app, eq_self, and_self, and_true, and_false, if_true, if_false, Nat.reduceEqDiff]; exact tsr) | 5, _ => (by simp only [upd_app, eq_self, and_self, and_true, and_false, if_true, if_false, Nat.reduceEqDiff]; exact tsr) | 6, _ => (by simp only [upd_app, eq_self, and_self, and_true, and_false, if_true, if_false, Nat.reduceEqDiff]; exact tsr) | 7, _ => (by simp only [upd_app, eq_self, and_self, and_true, and_false, if_true, if_false, Nat.reduceEqDiff]; exact tsr) | 8, _ => (by simp only [upd_app, eq_self, and_self, and_true, and_false, if_true, if_false, Nat.reduceEqDiff]; exact tsr) | 9, _ => (by simp only [upd_app, eq_self, and_self, and_true, and_false, if_true, if_false, Nat.reduceEqDiff]; exact tsr) | c + 10, hc => absurd hc (by simp only [En.n]; omega))) ?_
    refine na ?_
    refine nz ?_
    refine AW.region ?_
    refine qm ?_
    refine qq (Qt.binOp rfl rfl (by first | exact pbSub (by omega) | rfl)) ?_
    refine qn ?_
    obtain ⟨i', hj', hc'⟩ := i.next (by omega) (by rw [← hjt]; exact cmpI_neg.1 (by omega))
    refine ⟨i', Weak.sim ⟨xI7 (by omega), rfl, rfl, rfl, rfl, rfl, ⟨_, rfl, (by rw [hc', ← hjt]; exact tsr)⟩, trivial⟩ rfl rfl, ?_⟩
    omega
   try simp only [cnd] at c3
   refine AW.exit ?_
   dsimp only [thenQ, blockQ, reduceIte]
   refine AW.region ?_
   refine mn ?_
   refine ba ?_
   refine qn ?_
   have hd := i.done hqlt (.inr (by rw [← hjt]; exact fun h => absurd (cmpI_neg.2 h) (by omega)))
   refine ⟨⟨q.k + 1, by omega, .inl (by omega), i.cur, hd⟩, Weak.sim ⟨rfl, rfl, rfl, rfl, rfl, Rf rfl, trivial⟩ rfl rfl, ?_⟩
   show l.length - (q.k + 1) < l.length - q.k
   omega
  refine tf 4 g2 ?_
  refine na ?_
  refine tf 5 g2 ?_
  refine tf 6 g2 ?_
  refine tf 7 g2 ?_
  refine na ?_
  refine tf 8 g2 ?_
  refine tf 9 g2 ?_
  refine tf 10 g2 ?_
  refine na ?_
  refine tf 11 g2 ?_
  refine tf 12 g2 ?_
  refine tf 13 g2 ?_
  refine na ?_
  refine o1 14 [] [13, 8, 4, 3, 12, 7, 2, 11, 9, 6, 5, 1, 0, 10] rfl g2 ?_
  refine na ?_
  refine na ?_
  refine tf 15 g2 ?_
  refine tk 16 rfl (Qt.pickF rfl g2) ?_
  refine nz ?_
  refine AW.cond rfl (fun c4 => (by exfalso; first | (cases c4; done) | (simp at c4; done) | (simp only [cnd] at c4; omega))) (fun c4 => ?_)
  try simp only [cnd] at c4
  refine AW.exit ?_
  dsimp only [thenQ, blockQ, reduceIte]
  refine AW.region ?_
  refine mn ?_
  refine ba ?_
  refine qn ?_
  have hd := i.done hqlt (.inl (by simpa using g2))
  refine ⟨⟨q.k + 1, by omega, .inl (by omega), i.cur, hd⟩, Weak.sim ⟨rfl, rfl, rfl, rfl, rfl, Rf rfl, trivial⟩ rfl rfl, ?_⟩
  show l.length - (q.k + 1) < l.length - q.k
  omega
 have k1 := c1
 try simp only [cnd] at c1
 refine AW.exit ?_
 dsimp only [thenQ, blockQ, reduceIte]
 rw [← q.full (by omega)]
 refine ⟨.inr rfl, [], .nil, ?_⟩
 refine ⟨fun n => n, rfl, fun _ _ => rfl, List.nodup_nil, (by simp), ?_⟩
 intro p hp
 cases List.mem_singleton.1 hp
 exact rootL_mem rfl
end Go.Proofs.YtldefnpobjabpaaGreat.VM
