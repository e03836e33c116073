/- Contracts. No conditions. -/
import Derived.Test.YtekcnnngjoonbaaGreatCJRO
set_option linter.all false
set_option maxHeartbeats 8000000
set_option maxRecDepth 10000
namespace Go.Proofs.YtekcnnngjoonbaaGreat.VM
open Go Go.RowKit Go.Proofs
def SymOkOpen (n : Nat) : Prop := ∀ (P X Y S : List DOpen) (xa xm xb : Int), xa = (P.length : Nat) → xm = (P.length + X.length : Nat) → xb = (P.length + X.length + Y.length : Nat) → X.length + Y.length ≤ n → 0 < X.length → 0 < Y.length → Asc DOpen.Id X → Asc DOpen.Id Y → P.length + X.length + Y.length + S.length ≤ 2305843009213693952 → Con Tryz.prog 173 [.h base [], .v (iv xa), .v (iv xm), .v (iv xb), .f 47 []] [.rt base .row (tr (row4 P X Y S))] (RetW (.t []) [] [(base, tr (P ++ (sortK DOpen.Id (X ++ Y) ++ S)))])
theorem symMOpen_step (n : Nat) (IH : SymOkOpen n) (P X Y S : List DOpen) (a m b : Nat) (ha : a = P.length) (hm : m = a + X.length) (hb : b = m + Y.length) (hn : X.length + Y.length ≤ n + 1) (hx : 0 < X.length) (hy : 0 < Y.length) (hX : Asc DOpen.Id X) (hY : Asc DOpen.Id Y) (hl : P.length + X.length + Y.length + S.length ≤ 2305843009213693952) : Con Tryz.prog 173 [.h base [], .v (iv (a : Nat)), .v (iv (m : Nat)), .v (iv (b : Nat)), .f 47 []] [.rt base .row (tr (row4 P X Y S))] (RetW (.t []) [] [(base, tr (P ++ (sortK DOpen.Id (X ++ Y) ++ S)))]) := by
 refine ob Tryz.func173 Tryz.ntmps173 ?_
 refine sr2 ?_
 refine qm ?_
 refine qm ?_
 refine qq (Qt.binOp rfl rfl (by first | exact pbSub (by omega) | rfl)) ?_
 refine nm ?_
 refine qb ?_
 refine nc (fun c1 => ?_) fun c1 => ?_
 ·try simp only [cnd] at c1
  obtain ⟨x, rfl⟩ : ∃ x, X = [x] := List.length_eq_one_iff.1 (by omega)
  simp only [List.length_singleton] at hm hn hl
  have hLa : (row4 P [x] Y S).getD a En.dflt = x := by rw [row4_X (by omega) (by simp only [List.length_singleton]; omega), show a - P.length = 0 by omega]; rfl
  have hLl : (row4 P [x] Y S).length = P.length + 1 + Y.length + S.length := row4_len
  have hmono := front_mono (P := P) (X := [x]) (S := S) ha hm hb hY x
  refine sr ?_
  refine qm ?_
  refine qs' ?_
  refine mn ?_
  refine qn ?_
  refine AW.seq (AW.block ?_)
  refine AW.weak (L' := [.sl 10 (.v (iv (m : Nat))), .sl 11 (.v (iv (b : Nat))), .sl 0 (.h base []), .sl 1 (.v (iv (a : Nat))), .sl 4 (.f 47 []), .rt base .row (tr (row4 P [x] Y S))]) (Weak.sim ⟨rfl, rfl, rfl, rfl, rfl, Rf rfl, trivial⟩ rfl rfl) ?_
  refine AW.loop (fun s : BS (fun t => DOpen.Id ((row4 P [x] Y S).getD t En.dflt) < DOpen.Id x) m b => [.sl 10 (.v (iv (s.i : Nat))), .sl 11 (.v (iv (s.j : Nat))), .sl 0 (.h base []), .sl 1 (.v (iv (a : Nat))), .sl 4 (.f 47 []), .rt base .row (tr (row4 P [x] Y S))]) (fun s => s.j - s.i) ⟨m, b, Nat.le_refl _, by omega, Nat.le_refl _, fun t h1 h2 => absurd h2 (by omega), fun t h1 h2 => absurd h2 (by omega)⟩ ?_
  intro s
  have hs1 := s.h1
  have hs2 := s.h2
  have hs3 := s.h3
  refine sr2 ?_
  refine qm ?_
  refine mn ?_
  refine qb ?_
  refine nc (fun c2 => ?_) fun c2 => ?_
  ·try simp only [cnd] at c2
   refine jd (AW.block (sr ?_))
   refine qm ?_
   refine mn ?_
   refine ba ?_
   refine qq (Qt.convI rfl rfl Tryz.underlying205) ?_
   refine qq (Qt.binOp rfl rfl (mid_shr _ _ (by omega))) ?_
   refine nm ?_
   refine qq (Qt.convI rfl rfl Tryz.underlying3) ?_
   refine nm ?_
   refine AWL.weak (Weak.slot (d := 39) (v' := iv ((((s.i + s.j) / 2) : Nat) : Int)) rfl (mid_val _ (by omega))) ?_
   refine nm ?_
   refine qn ?_
   refine AW.seq ?_
   refine AW.draw [0, 1, 2, 3, 4, 5, 6, 7, 8, 10] rfl (by decide +kernel) ?_
   refine tk 0 rfl Qt.move ?_
   refine tk 1 rfl Qt.move ?_
   refine na ?_
   refine tk 2 rfl Qt.move ?_
   refine tk 3 rfl (Qt.indexAddr rfl rfl rfl rfl sl36 sz72 (by decide) (by first | omega | (rw [wnd_len]; omega))) ?_
   refine tk 4 rfl (Qt.loadG rfl rfl rfl ag72 sz72 (by decide)) ?_
   refine na ?_
   refine tk 5 rfl Qt.move ?_
   refine tk 6 rfl Qt.move ?_
   refine tk 7 rfl (Qt.indexAddr rfl rfl rfl rfl sl36 sz72 (by decide) (by first | omega | (rw [wnd_len]; omega))) ?_
   refine na ?_
   refine tk 8 rfl (Qt.loadG rfl rfl rfl ag72 sz72 (by decide)) ?_
   refine na ?_
   refine a1 9 [] [8, 4, 0, 7, 3, 6, 5, 2, 1] rfl rfl (Stp.callV rfl (by decide) Tryz.call47 rfl rfl (cmpOpen_con _ _)) ?_
   refine na ?_
   refine na ?_
   refine tk 10 rfl (Qt.binOp rfl rfl rfl) ?_
   refine nz ?_
   refine cd (fun c3 => ?_) fun c3 => ?_
   ·try simp only [cnd] at c3
    have hq : DOpen.Id ((row4 P [x] Y S).getD ((s.i + s.j) / 2) En.dflt) < DOpen.Id x := by have := cmpI_neg.1 c3; rwa [hLa] at this
    refine AW.region ?_
    refine qm ?_
    refine ba ?_
    refine nm ?_
    refine qn ?_
    refine ⟨⟨((s.i + s.j) / 2) + 1, s.j, by omega, by omega, by omega, s.up hmono (by omega) hq, s.no⟩, Weak.sim ⟨xI7 (by show _ = ((((s.i + s.j) / 2) + 1 : Nat) : Int); omega), rfl, rfl, rfl, rfl, Rf rfl, trivial⟩ rfl rfl, ?_⟩
    show s.j - (((s.i + s.j) / 2) + 1) < s.j - s.i
    omega
   try simp only [cnd] at c3
   have hq : ¬ DOpen.Id ((row4 P [x] Y S).getD ((s.i + s.j) / 2) En.dflt) < DOpen.Id x := by intro hc; have h2 := c3; rw [hLa] at h2; have := cmpI_neg.2 hc; omega
   refine AW.region ?_
   refine qm ?_
   refine qn ?_
   refine ⟨⟨s.i, ((s.i + s.j) / 2), by omega, by omega, by omega, s.yes, s.down hmono (by omega) hq⟩, Weak.sim ⟨rfl, rfl, rfl, rfl, rfl, Rf rfl, trivial⟩ rfl rfl, ?_⟩
   show ((s.i + s.j) / 2) - s.i < s.j - s.i
   omega
  try simp only [cnd] at c2
  refine AW.exit ?_
  dsimp only [thenQ, blockQ, reduceIte]
  refine sr2 ?_
  refine mn ?_
  refine qn ?_
  refine AW.block ?_
  refine AW.weak (L' := [.sl 13 (.v (iv (a + (0 : Nat) : Nat))), .sl 10 (.v (iv (s.i : Nat))), .sl 0 (.h base []), .sl 1 (.v (iv (a : Nat))), .rt base .row (tr (wnd P x Y S (0 : Nat)))]) (Weak.sim ⟨xI7 (by omega), rfl, rfl, rfl, ⟨_, rfl, (by exact tsr)⟩, trivial⟩ rfl rfl) ?_
  refine AW.loop (fun w : KInv (s.i - m) => [.sl 13 (.v (iv (a + w.k : Nat))), .sl 10 (.v (iv (s.i : Nat))), .sl 0 (.h base []), .sl 1 (.v (iv (a : Nat))), .rt base .row (tr (wnd P x Y S w.k))]) (fun w => s.i - m - w.k) ⟨0, Nat.zero_le _⟩ ?_
  intro w
  have hlew := w.le
  have hqt : (((a + w.k : Nat) : Int) + 1).toNat = a + w.k + 1 := by omega
  refine sr2 ?_
  refine qm ?_
  refine mn ?_
  refine qq (Qt.binOp rfl rfl (by first | exact pbSub (by omega) | rfl)) ?_
  refine qb ?_
  refine nc (fun c4 => ?_) fun c4 => ?_
  ·try simp only [cnd] at c4
   refine jd (AW.seq (AW.block ?_))
   refine AW.draw [0, 1, 2, 3, 4, 5, 6, 7, 8, 9, 10, 11, 12, 13, 14, 16] rfl (by decide +kernel) ?_
   refine tk 0 rfl Qt.move ?_
   refine na ?_
   refine tk 1 rfl Qt.move ?_
   refine tk 2 rfl Qt.move ?_
   refine tk 3 rfl Qt.move ?_
   refine na ?_
   refine tk 4 rfl (Qt.binOp rfl rfl (by first | exact pbAdd (by omega) | rfl)) ?_
   refine tk 5 rfl Qt.move ?_
   refine tk 6 rfl Qt.move ?_
   refine na ?_
   refine tk 7 rfl (Qt.binOp rfl rfl (by first | exact pbAdd (by omega) | rfl)) ?_
   refine tk 8 rfl (Qt.indexAddr rfl rfl rfl rfl sl36 sz72 (by decide) (by first | omega | (rw [wnd_len]; omega))) ?_
   refine tk 9 rfl (Qt.loadG rfl rfl rfl ag72 sz72 (by decide)) ?_
   refine na ?_
   refine tk 10 rfl Qt.move ?_
   refine tk 11 rfl Qt.move ?_
   refine tk 12 rfl (Qt.indexAddr rfl rfl rfl rfl sl36 sz72 (by decide) (by first | omega | (rw [wnd_len]; omega))) ?_
   refine na ?_
   refine tk 13 rfl (Qt.loadG rfl rfl rfl ag72 sz72 (by decide)) ?_
   refine tk 14 rfl (Qt.indexAddr rfl rfl rfl rfl sl36 sz72 (by decide) (by first | omega | (rw [wnd_len]; omega))) ?_
   refine a1 15 [2, 3, 4] [14, 13, 9, 8, 7, 6, 5, 1, 0, 12, 11, 10] rfl rfl (Stp.storeZ [.v (.bool false), .v (.bool false), .v (.bool false), .v (.bool false), .v (.bool false)] rfl rfl (by simp) rfl (by rfl) rfl rfl (by decide) rfl) ?_
   refine na ?_
   refine ae rfl Qt.move ?_
   refine ae rfl Qt.move ?_
   refine ae rfl (Qt.binOp rfl rfl (by first | exact pbAdd (by omega) | rfl)) ?_
   refine na ?_
   refine na ?_
   refine AWA.rep base (tr ((wnd P x Y S w.k).set (a + w.k) ((wnd P x Y S w.k).getD (((a + w.k : Nat) : Int) + 1).toNat En.dflt))) rfl (set_sim (fun k c hk => by simp only [upd_app, hk, false_and, if_false]; try rfl) (fun c hc => match c, hc with | 0, _ => (by simp only [upd_app, eq_self, and_self, and_true, and_false, if_true, if_false, Nat.reduceEqDiff]; exact tsr) | 1, _ => (by simp only [upd_app, eq_self, and_self, and_true, and_false, if_true, if_false, Nat.reduceEqDiff]; exact tsr) | 2, _ => (by simp only [upd_app, eq_self, and_self, and_true, and_false, if_true, if_false, Nat.reduceEqDiff]; exact tsr) | 3, _ => (by simp only [upd_app, eq_self, and_self, and_true, and_false, if_true, if_false, Nat.reduceEqDiff]; exact tsr) | 4, _ => (by simp only [upd_app, eq_self, and_self, and_true, and_false, if_true, if_false, Nat.reduceEqDiff]; exact tsr) | c + 5, hc => absurd hc (by simp only [En.n]; omega))) ?_
   refine na ?_
   refine tk 16 rfl (Qt.indexAddr rfl rfl rfl rfl sl36 sz72 (by decide) (by rw [List.length_set, wnd_len]; omega)) ?_
   refine a1 17 [] [16, 15, 14, 13, 12, 11, 10, 9, 8, 7, 6, 5, 4, 3, 2, 1, 0] rfl rfl (Stp.storeZ [.v (.bool false), .v (.bool false), .v (.bool false), .v (.bool false), .v (.bool false)] rfl rfl (by simp) rfl (by rfl) rfl rfl (by decide) rfl) ?_
   refine na ?_
   refine na ?_
   refine na ?_
   refine AWA.rep base (tr (((wnd P x Y S w.k).set (a + w.k) ((wnd P x Y S w.k).getD (((a + w.k : Nat) : Int) + 1).toNat En.dflt)).set (((a + w.k : Nat) : Int) + 1).toNat ((wnd P x Y S w.k).getD (a + w.k) En.dflt))) rfl (set_sim (fun k c hk => by simp only [upd_app, hk, false_and, if_false]; try rfl) (fun c hc => match c, hc with | 0, _ => (by simp only [upd_app, eq_self, and_self, and_true, and_false, if_true, if_false, Nat.reduceEqDiff]; exact tsr) | 1, _ => (by simp only [upd_app, eq_self, and_self, and_true, and_false, if_true, if_false, Nat.reduceEqDiff]; exact tsr) | 2, _ => (by simp only [upd_app, eq_self, and_self, and_true, and_false, if_true, if_false, Nat.reduceEqDiff]; exact tsr) | 3, _ => (by simp only [upd_app, eq_self, and_self, and_true, and_false, if_true, if_false, Nat.reduceEqDiff]; exact tsr) | 4, _ => (by simp only [upd_app, eq_self, and_self, and_true, and_false, if_true, if_false, Nat.reduceEqDiff]; exact tsr) | c + 5, hc => absurd hc (by simp only [En.n]; omega))) ?_
   refine na ?_
   refine nz ?_
   refine AW.region ?_
   refine qm ?_
   refine ba ?_
   refine qn ?_
   refine ⟨⟨w.k + 1, by omega⟩, Weak.sim ⟨xI7 (by show _ = ((a + (w.k + 1) : Nat) : Int); omega), rfl, rfl, rfl, ⟨_, rfl, (by rw [← wnd_up (d := En.dflt) (p := (a + w.k)) (q := (((a + w.k : Nat) : Int) + 1).toNat) (by omega) (by omega) (by omega)]; exact tsr)⟩, trivial⟩ rfl rfl, ?_⟩
   show s.i - m - (w.k + 1) < s.i - m - w.k
   omega
  try simp only [cnd] at c4
  refine AW.exit ?_
  dsimp only [thenQ, blockQ, reduceIte]
  refine AW.ret (endQ_ret (.nil) ?_)
  have hf : wnd P x Y S w.k = P ++ (sortK DOpen.Id ([x] ++ Y) ++ S) := by rw [show w.k = s.i - m by omega]; exact front_sort ha hm hb hY s (by omega)
  rw [← hf]
  refine ⟨fun n => n, rfl, fun _ _ => rfl, List.nodup_nil, (by simp), ?_⟩
  intro p hp
  cases List.mem_singleton.1 hp
  exact rootL_mem rfl
 try simp only [cnd] at c1
 refine jd (sr2 ?_)
 refine mn ?_
 refine qm ?_
 refine qq (Qt.binOp rfl rfl (by first | exact pbSub (by omega) | rfl)) ?_
 refine qb ?_
 refine nc (fun c5 => ?_) fun c5 => ?_
 ·try simp only [cnd] at c5
  obtain ⟨y, rfl⟩ : ∃ y, Y = [y] := List.length_eq_one_iff.1 (by omega)
  simp only [List.length_singleton] at hb hn hl
  have hLa : (row4 P X [y] S).getD m En.dflt = y := by rw [row4_Y (by omega) (by simp only [List.length_singleton]; omega), show m - P.length - X.length = 0 by omega]; rfl
  have hLl : (row4 P X [y] S).length = P.length + X.length + 1 + S.length := row4_len
  have hmono := back_mono (P := P) (Y := [y]) (S := S) ha hm hX y
  refine sr ?_
  refine mn ?_
  refine qs' ?_
  refine qm ?_
  refine qn ?_
  refine AW.seq (AW.block ?_)
  refine AW.weak (L' := [.sl 14 (.v (iv (a : Nat))), .sl 15 (.v (iv (m : Nat))), .sl 0 (.h base []), .sl 1 (.v (iv (a : Nat))), .sl 2 (.v (iv (m : Nat))), .sl 4 (.f 47 []), .rt base .row (tr (row4 P X [y] S))]) (Weak.sim ⟨rfl, rfl, rfl, rfl, rfl, rfl, Rf rfl, trivial⟩ rfl rfl) ?_
  refine AW.loop (fun s : BS (fun t => ¬ DOpen.Id y < DOpen.Id ((row4 P X [y] S).getD t En.dflt)) a m => [.sl 14 (.v (iv (s.i : Nat))), .sl 15 (.v (iv (s.j : Nat))), .sl 0 (.h base []), .sl 1 (.v (iv (a : Nat))), .sl 2 (.v (iv (m : Nat))), .sl 4 (.f 47 []), .rt base .row (tr (row4 P X [y] S))]) (fun s => s.j - s.i) ⟨a, m, Nat.le_refl _, by omega, Nat.le_refl _, fun t h1 h2 => absurd h2 (by omega), fun t h1 h2 => absurd h2 (by omega)⟩ ?_
  intro s
  have hs1 := s.h1
  have hs2 := s.h2
  have hs3 := s.h3
  refine sr2 ?_
  refine mn ?_
  refine qm ?_
  refine qb ?_
  refine nc (fun c6 => ?_) fun c6 => ?_
  ·try simp only [cnd] at c6
   refine jd (AW.block (sr ?_))
   refine mn ?_
   refine qm ?_
   refine ba ?_
   refine qq (Qt.convI rfl rfl Tryz.underlying205) ?_
   refine nm ?_
   refine qq (Qt.binOp rfl rfl (mid_shr _ _ (by omega))) ?_
   refine qq (Qt.convI rfl rfl Tryz.underlying3) ?_
   refine nm ?_
   refine AWL.weak (Weak.slot (d := 91) (v' := iv ((((s.i + s.j) / 2) : Nat) : Int)) rfl (mid_val _ (by omega))) ?_
   refine nm ?_
   refine qn ?_
   refine AW.seq ?_
   refine AW.draw [0, 1, 2, 3, 4, 5, 6, 7, 8, 10, 11] rfl (by decide +kernel) ?_
   refine tk 0 rfl Qt.move ?_
   refine tk 1 rfl Qt.move ?_
   refine na ?_
   refine tk 2 rfl Qt.move ?_
   refine tk 3 rfl (Qt.indexAddr rfl rfl rfl rfl sl36 sz72 (by decide) (by first | omega | (rw [wnd_len]; omega))) ?_
   refine tk 4 rfl (Qt.loadG rfl rfl rfl ag72 sz72 (by decide)) ?_
   refine na ?_
   refine tk 5 rfl Qt.move ?_
   refine tk 6 rfl Qt.move ?_
   refine tk 7 rfl (Qt.indexAddr rfl rfl rfl rfl sl36 sz72 (by decide) (by first | omega | (rw [wnd_len]; omega))) ?_
   refine na ?_
   refine tk 8 rfl (Qt.loadG rfl rfl rfl ag72 sz72 (by decide)) ?_
   refine na ?_
   refine a1 9 [] [8, 4, 0, 7, 3, 6, 5, 2, 1] rfl rfl (Stp.callV rfl (by decide) Tryz.call47 rfl rfl (cmpOpen_con _ _)) ?_
   refine na ?_
   refine na ?_
   refine tk 10 rfl (Qt.binOp rfl rfl rfl) ?_
   refine tk 11 rfl (Qt.notB rfl) ?_
   refine nz ?_
   refine cd (fun c7 => ?_) fun c7 => ?_
   ·try simp only [cnd] at c7
    have hq : ¬ DOpen.Id y < DOpen.Id ((row4 P X [y] S).getD ((s.i + s.j) / 2) En.dflt) := by intro hc; have h2 := c7; rw [hLa] at h2; have := cmpI_neg.2 hc; omega
    refine AW.region ?_
    refine mn ?_
    refine ba ?_
    refine qn ?_
    refine ⟨⟨((s.i + s.j) / 2) + 1, s.j, by omega, by omega, by omega, s.up hmono (by omega) hq, s.no⟩, Weak.sim ⟨xI7 (by show _ = ((((s.i + s.j) / 2) + 1 : Nat) : Int); omega), rfl, rfl, rfl, rfl, rfl, Rf rfl, trivial⟩ rfl rfl, ?_⟩
    show s.j - (((s.i + s.j) / 2) + 1) < s.j - s.i
    omega
   try simp only [cnd] at c7
   have hq : ¬ ¬ DOpen.Id y < DOpen.Id ((row4 P X [y] S).getD ((s.i + s.j) / 2) En.dflt) := by have h2 := c7; rw [hLa] at h2; have := cmpI_neg.1 h2; omega
   refine AW.region ?_
   refine mn ?_
   refine qn ?_
   refine ⟨⟨s.i, ((s.i + s.j) / 2), by omega, by omega, by omega, s.yes, s.down hmono (by omega) hq⟩, Weak.sim ⟨rfl, rfl, rfl, rfl, rfl, rfl, Rf rfl, trivial⟩ rfl rfl, ?_⟩
   show ((s.i + s.j) / 2) - s.i < s.j - s.i
   omega
  try simp only [cnd] at c6
  refine AW.exit ?_
  dsimp only [thenQ, blockQ, reduceIte]
  refine sr2 ?_
  refine qm ?_
  refine qn ?_
  refine AW.block ?_
  refine AW.weak (L' := [.sl 17 (.v (iv (a + X.length : Nat))), .sl 14 (.v (iv (s.i : Nat))), .sl 0 (.h base []), .sl 1 (.v (iv (a : Nat))), .rt base .row (tr (wnd P y X S X.length))]) (Weak.sim ⟨xI7 (by omega), rfl, rfl, rfl, ⟨_, rfl, (by rw [show row4 P X [y] S = wnd P y X S X.length from by rw [wnd, List.take_length, List.drop_length]; rfl]; exact tsr)⟩, trivial⟩ rfl rfl) ?_
  refine AW.loop (fun w : DI (s.i - a) X.length => [.sl 17 (.v (iv (a + w.k : Nat))), .sl 14 (.v (iv (s.i : Nat))), .sl 0 (.h base []), .sl 1 (.v (iv (a : Nat))), .rt base .row (tr (wnd P y X S w.k))]) (fun w => w.k) ⟨X.length, by omega, Nat.le_refl _⟩ ?_
  intro w
  have hlew := w.le
  have hwl := w.h1
  have hqt : a + w.k > s.i → (((a + w.k : Nat) : Int) - 1).toNat = a + w.k - 1 := fun _ => by omega
  refine sr2 ?_
  refine mn ?_
  refine qm ?_
  refine qb ?_
  refine nc (fun c8 => ?_) fun c8 => ?_
  ·try simp only [cnd] at c8
   refine jd (AW.seq (AW.block ?_))
   refine AW.draw [0, 1, 2, 3, 4, 5, 6, 7, 8, 9, 10, 11, 12, 13, 14, 16] rfl (by decide +kernel) ?_
   refine tk 0 rfl Qt.move ?_
   refine na ?_
   refine tk 1 rfl Qt.move ?_
   refine tk 2 rfl Qt.move ?_
   refine tk 3 rfl Qt.move ?_
   refine na ?_
   refine tk 4 rfl (Qt.binOp rfl rfl (by first | exact pbSub (by omega) | rfl)) ?_
   refine tk 5 rfl Qt.move ?_
   refine tk 6 rfl Qt.move ?_
   refine na ?_
   refine tk 7 rfl (Qt.binOp rfl rfl (by first | exact pbSub (by omega) | rfl)) ?_
   refine tk 8 rfl (Qt.indexAddr rfl rfl rfl rfl sl36 sz72 (by decide) (by first | omega | (rw [wnd_len]; omega))) ?_
   refine tk 9 rfl (Qt.loadG rfl rfl rfl ag72 sz72 (by decide)) ?_
   refine na ?_
   refine tk 10 rfl Qt.move ?_
   refine tk 11 rfl Qt.move ?_
   refine tk 12 rfl (Qt.indexAddr rfl rfl rfl rfl sl36 sz72 (by decide) (by first | omega | (rw [wnd_len]; omega))) ?_
   refine na ?_
   refine tk 13 rfl (Qt.loadG rfl rfl rfl ag72 sz72 (by decide)) ?_
   refine tk 14 rfl (Qt.indexAddr rfl rfl rfl rfl sl36 sz72 (by decide) (by first | omega | (rw [wnd_len]; omega))) ?_
   refine a1 15 [2, 3, 4] [14, 13, 9, 8, 7, 6, 5, 1, 0, 12, 11, 10] rfl rfl (Stp.storeZ [.v (.bool false), .v (.bool false), .v (.bool false), .v (.bool false), .v (.bool false)] rfl rfl (by simp) rfl (by rfl) rfl rfl (by decide) rfl) ?_
   refine na ?_
   refine ae rfl Qt.move ?_
   refine ae rfl Qt.move ?_
   refine ae rfl (Qt.binOp rfl rfl (by first | exact pbSub (by omega) | rfl)) ?_
   refine na ?_
   refine na ?_
   refine AWA.rep base (tr ((wnd P y X S w.k).set (a + w.k) ((wnd P y X S w.k).getD (((a + w.k : Nat) : Int) - 1).toNat En.dflt))) rfl (set_sim (fun k c hk => by simp only [upd_app, hk, false_and, if_false]; try rfl) (fun c hc => match c, hc with | 0, _ => (by simp only [upd_app, eq_self, and_self, and_true, and_false, if_true, if_false, Nat.reduceEqDiff]; exact tsr) | 1, _ => (by simp only [upd_app, eq_self, and_self, and_true, and_false, if_true, if_false, Nat.reduceEqDiff]; exact tsr) | 2, _ => (by simp only [upd_app, eq_self, and_self, and_true, and_false, if_true, if_false, Nat.reduceEqDiff]; exact tsr) | 3, _ => (by simp only [upd_app, eq_self, and_self, and_true, and_false, if_true, if_false, Nat.reduceEqDiff]; exact tsr) | 4, _ => (by simp only [upd_app, eq_self, and_self, and_true, and_false, if_true, if_false, Nat.reduceEqDiff]; exact tsr) | c + 5, hc => absurd hc (by simp only [En.n]; omega))) ?_
   refine na ?_
   refine tk 16 rfl (Qt.indexAddr rfl rfl rfl rfl sl36 sz72 (by decide) (by rw [List.length_set, wnd_len]; omega)) ?_
   refine a1 17 [] [16, 15, 14, 13, 12, 11, 10, 9, 8, 7, 6, 5, 4, 3, 2, 1, 0] rfl rfl (Stp.storeZ [.v (.bool false), .v (.bool false), .v (.bool false), .v (.bool false), .v (.bool false)] rfl rfl (by simp) rfl (by rfl) rfl rfl (by decide) rfl) ?_
   refine na ?_
   refine na ?_
   refine na ?_
   refine AWA.rep base (tr (((wnd P y X S w.k).set (a + w.k) ((wnd P y X S w.k).getD (((a + w.k : Nat) : Int) - 1).toNat En.dflt)).set (((a + w.k : Nat) : Int) - 1).toNat ((wnd P y X S w.k).getD (a + w.k) En.dflt))) rfl (set_sim (fun k c hk => by simp only [upd_app, hk, false_and, if_false]; try rfl) (fun c hc => match c, hc with | 0, _ => (by simp only [upd_app, eq_self, and_self, and_true, and_false, if_true, if_false, Nat.reduceEqDiff]; exact tsr) | 1, _ => (by simp only [upd_app, eq_self, and_self, and_true, and_false, if_true, if_false, Nat.reduceEqDiff]; exact tsr) | 2, _ => (by simp only [upd_app, eq_self, and_self, and_true, and_false, if_true, if_false, Nat.reduceEqDiff]; exact tsr) | 3, _ => (by simp only [upd_app, eq_self, and_self, and_true, and_false, if_true, if_false, Nat.reduceEqDiff]; exact tsr) | 4, _ => (by simp only [upd_app, eq_self, and_self, and_true, and_false, if_true, if_false, Nat.reduceEqDiff]; exact tsr) | c + 5, hc => absurd hc (by simp only [En.n]; omega))) ?_
   refine na ?_
   refine nz ?_
   refine AW.region ?_
   refine qm ?_
   refine qq (Qt.binOp rfl rfl (by first | exact pbSub (by omega) | rfl)) ?_
   refine qn ?_
   have hsw := wnd_down (d := En.dflt) (P := P) (Y := X) (S := S) (x := y) (t := w.k - 1) (p := (a + w.k)) (q := (((a + w.k : Nat) : Int) - 1).toNat) (by omega) (by omega) (by omega)
   rw [show w.k - 1 + 1 = w.k by omega] at hsw
   refine ⟨⟨w.k - 1, by omega, by omega⟩, Weak.sim ⟨xI7 (by show _ = ((a + (w.k - 1) : Nat) : Int); omega), rfl, rfl, rfl, ⟨_, rfl, (by rw [← hsw]; exact tsr)⟩, trivial⟩ rfl rfl, ?_⟩
   show w.k - 1 < w.k
   omega
  try simp only [cnd] at c8
  refine AW.exit ?_
  dsimp only [thenQ, blockQ, reduceIte]
  refine AW.ret (endQ_ret (.nil) ?_)
  have hf : wnd P y X S w.k = P ++ (sortK DOpen.Id (X ++ [y]) ++ S) := by rw [show w.k = s.i - a by omega]; exact back_sort ha hm hX s (by omega)
  rw [← hf]
  refine ⟨fun n => n, rfl, fun _ _ => rfl, List.nodup_nil, (by simp), ?_⟩
  intro p hp
  cases List.mem_singleton.1 hp
  exact rootL_mem rfl
 try simp only [cnd] at c5
 have hLl : (row4 P X Y S).length = P.length + X.length + Y.length + S.length := row4_len
 have ham : a < m := by omega
 have hmb : m < b := by omega
 have hsb := sym_bd ham hmb
 have hmono := symQ_mono (key := DOpen.Id) (P := P) (S := S) ha hm hb hX hY ham hmb
 refine jd (sr ?_)
 refine mn ?_
 refine qm ?_
 refine ba ?_
 refine qq (Qt.convI rfl rfl Tryz.underlying205) ?_
 refine nm ?_
 refine qq (Qt.binOp rfl rfl (mid_shr _ _ (by omega))) ?_
 refine qq (Qt.convI rfl rfl Tryz.underlying3) ?_
 refine nm ?_
 refine AWL.weak (Weak.slot (d := 134) (v' := iv ((((a + b) / 2) : Nat) : Int)) rfl (mid_val _ (by omega))) ?_
 refine nm ?_
 refine qs' ?_
 refine qm ?_
 refine mn ?_
 refine ba ?_
 refine qs' ?_
 refine qa ?_
 refine nm ?_
 refine qn ?_
 refine AW.seq ?_
 refine AW.cut [.sl 20 (.v (iv (symS a m b : Nat))), .sl 21 (.v (iv (symR a m b : Nat))), .sl 19 (.v (iv ((((a + b) / 2) + m : Nat) : Int))), .sl 18 (.v (iv (((a + b) / 2) : Nat))), .sl 0 (.h base []), .sl 1 (.v (iv (a : Nat))), .sl 2 (.v (iv (m : Nat))), .sl 3 (.v (iv (b : Nat))), .sl 4 (.f 47 []), .rt base .row (tr (row4 P X Y S))] ?_ ?_
 ·refine sr ?_
  refine qm ?_
  refine mn ?_
  refine qb ?_
  refine nc (fun c9 => ?_) fun c9 => ?_
  ·try simp only [cnd] at c9
   refine sr ?_
   refine qm ?_
   refine mn ?_
   refine qq (Qt.binOp rfl rfl (by first | exact pbSub (by omega) | rfl)) ?_
   refine qn ?_
   refine AW.region ?_
   refine mn ?_
   refine qn ?_
   exact Weak.sim ⟨xI7 (by first | (rw [show symS a m b = _ from if_pos (by omega)]; omega) | rw [show symS a m b = _ from if_pos (by omega)]), xI7 (by rw [show symR a m b = _ from if_pos (by omega)]), xI7 (by omega), rfl, rfl, rfl, rfl, rfl, rfl, Rf rfl, trivial⟩ rfl rfl
  try simp only [cnd] at c9
  refine sr ?_
  refine qm ?_
  refine qn ?_
  refine AW.region ?_
  refine mn ?_
  refine qn ?_
  exact Weak.sim ⟨xI7 (by first | (rw [show symS a m b = _ from if_neg (by omega)]; omega) | rw [show symS a m b = _ from if_neg (by omega)]), xI7 (by rw [show symR a m b = _ from if_neg (by omega)]), xI7 (by omega), rfl, rfl, rfl, rfl, rfl, rfl, Rf rfl, trivial⟩ rfl rfl
 ·refine sr ?_
  refine qm ?_
  refine qq (Qt.binOp rfl rfl (by first | exact pbSub (by omega) | rfl)) ?_
  refine nm ?_
  refine qn ?_
  refine AW.seq (AW.block ?_)
  refine AW.weak (L' := [.sl 22 (.v (iv (((((a + b) / 2) + m : Nat) : Int) - 1))), .sl 20 (.v (iv (symS a m b : Nat))), .sl 21 (.v (iv (symR a m b : Nat))), .sl 19 (.v (iv ((((a + b) / 2) + m : Nat) : Int))), .sl 18 (.v (iv (((a + b) / 2) : Nat))), .sl 0 (.h base []), .sl 1 (.v (iv (a : Nat))), .sl 2 (.v (iv (m : Nat))), .sl 3 (.v (iv (b : Nat))), .sl 4 (.f 47 []), .rt base .row (tr (row4 P X Y S))]) (Weak.sim ⟨rfl, rfl, rfl, rfl, rfl, rfl, rfl, rfl, rfl, rfl, Rf rfl, trivial⟩ rfl rfl) ?_
  refine AW.loop (fun s : BS (symQ DOpen.Id (row4 P X Y S) (((a + b) / 2) + m)) (symS a m b) (symR a m b) => [.sl 22 (.v (iv (((((a + b) / 2) + m : Nat) : Int) - 1))), .sl 20 (.v (iv (s.i : Nat))), .sl 21 (.v (iv (s.j : Nat))), .sl 19 (.v (iv ((((a + b) / 2) + m : Nat) : Int))), .sl 18 (.v (iv (((a + b) / 2) : Nat))), .sl 0 (.h base []), .sl 1 (.v (iv (a : Nat))), .sl 2 (.v (iv (m : Nat))), .sl 3 (.v (iv (b : Nat))), .sl 4 (.f 47 []), .rt base .row (tr (row4 P X Y S))]) (fun s => s.j - s.i) ⟨symS a m b, symR a m b, Nat.le_refl _, by omega, Nat.le_refl _, fun t h1 h2 => absurd h2 (by omega), fun t h1 h2 => absurd h2 (by omega)⟩ ?_
  intro s
  have hs1 := s.h1
  have hs2 := s.h2
  have hs3 := s.h3
  refine sr2 ?_
  refine qm ?_
  refine mn ?_
  refine qb ?_
  refine nc (fun c10 => ?_) fun c10 => ?_
  ·try simp only [cnd] at c10
   have hpc : ((((((a + b) / 2) + m : Nat) : Int) - 1) - ((((s.i + s.j) / 2) : Nat) : Int)).toNat = ((a + b) / 2) + m - 1 - ((s.i + s.j) / 2) := by omega
   refine jd (AW.block (sr ?_))
   refine qm ?_
   refine mn ?_
   refine ba ?_
   refine qq (Qt.convI rfl rfl Tryz.underlying205) ?_
   refine qq (Qt.binOp rfl rfl (mid_shr _ _ (by omega))) ?_
   refine nm ?_
   refine qq (Qt.convI rfl rfl Tryz.underlying3) ?_
   refine nm ?_
   refine AWL.weak (Weak.slot (d := 157) (v' := iv ((((s.i + s.j) / 2) : Nat) : Int)) rfl (mid_val _ (by omega))) ?_
   refine nm ?_
   refine qn ?_
   refine AW.seq ?_
   refine AW.draw [0, 1, 2, 3, 4, 5, 6, 7, 8, 9, 10, 12, 13] rfl (by decide +kernel) ?_
   refine tk 0 rfl Qt.move ?_
   refine tk 1 rfl Qt.move ?_
   refine na ?_
   refine tk 2 rfl Qt.move ?_
   refine tk 3 rfl Qt.move ?_
   refine tk 4 rfl (Qt.binOp rfl rfl (by first | exact pbSub (by omega) | rfl)) ?_
   refine na ?_
   refine tk 5 rfl (Qt.indexAddr rfl rfl rfl rfl sl36 sz72 (by decide) (by first | omega | (rw [wnd_len]; omega))) ?_
   refine tk 6 rfl (Qt.loadG rfl rfl rfl ag72 sz72 (by decide)) ?_
   refine tk 7 rfl Qt.move ?_
   refine na ?_
   refine tk 8 rfl Qt.move ?_
   refine tk 9 rfl (Qt.indexAddr rfl rfl rfl rfl sl36 sz72 (by decide) (by first | omega | (rw [wnd_len]; omega))) ?_
   refine tk 10 rfl (Qt.loadG rfl rfl rfl ag72 sz72 (by decide)) ?_
   refine na ?_
   refine na ?_
   refine a1 11 [] [10, 6, 0, 9, 5, 8, 7, 4, 1, 3, 2] rfl rfl (Stp.callV rfl (by decide) Tryz.call47 rfl rfl (cmpOpen_con _ _)) ?_
   refine na ?_
   refine na ?_
   refine tk 12 rfl (Qt.binOp rfl rfl rfl) ?_
   refine tk 13 rfl (Qt.notB rfl) ?_
   refine nz ?_
   refine cd (fun c11 => ?_) fun c11 => ?_
   ·try simp only [cnd] at c11
    have hq : symQ DOpen.Id (row4 P X Y S) (((a + b) / 2) + m) ((s.i + s.j) / 2) := by intro hc; have h2 := c11; rw [hpc] at h2; have := cmpI_neg.2 hc; omega
    refine AW.region ?_
    refine mn ?_
    refine ba ?_
    refine qn ?_
    refine ⟨⟨((s.i + s.j) / 2) + 1, s.j, by omega, by omega, by omega, s.up hmono (by omega) hq, s.no⟩, Weak.sim ⟨rfl, xI7 (by show _ = ((((s.i + s.j) / 2) + 1 : Nat) : Int); omega), rfl, rfl, rfl, rfl, rfl, rfl, rfl, rfl, Rf rfl, trivial⟩ rfl rfl, ?_⟩
    show s.j - (((s.i + s.j) / 2) + 1) < s.j - s.i
    omega
   try simp only [cnd] at c11
   have hq : ¬ symQ DOpen.Id (row4 P X Y S) (((a + b) / 2) + m) ((s.i + s.j) / 2) := by intro hc; have h2 := c11; rw [hpc] at h2; exact hc (cmpI_neg.1 h2)
   refine AW.region ?_
   refine mn ?_
   refine qn ?_
   refine ⟨⟨s.i, ((s.i + s.j) / 2), by omega, by omega, by omega, s.yes, s.down hmono (by omega) hq⟩, Weak.sim ⟨rfl, rfl, rfl, rfl, rfl, rfl, rfl, rfl, rfl, rfl, Rf rfl, trivial⟩ rfl rfl, ?_⟩
   show ((s.i + s.j) / 2) - s.i < s.j - s.i
   omega
  try simp only [cnd] at c10
  have hge : s.j ≤ s.i := by omega
  have hH := sym_halves ha hm hb hX hY ham hmb s hge
  have n1 : (X.take (s.i - a)).length = s.i - a := by rw [List.length_take]; omega
  have n2 : (X.drop (s.i - a)).length = m - s.i := by rw [List.length_drop]; omega
  have n3 : (Y.take (((a + b) / 2) - s.i)).length = ((a + b) / 2) - s.i := by rw [List.length_take]; omega
  have n4 : (Y.drop (((a + b) / 2) - s.i)).length = b - (((a + b) / 2) + m - s.i) := by rw [List.length_drop]; omega
  have hXe : X = (X.take (s.i - a)) ++ (X.drop (s.i - a)) := (List.take_append_drop _ _).symm
  have hYe : Y = (Y.take (((a + b) / 2) - s.i)) ++ (Y.drop (((a + b) / 2) - s.i)) := (List.take_append_drop _ _).symm
  have hrow : (row4 P X Y S) = (P ++ (X.take (s.i - a))) ++ ((X.drop (s.i - a)) ++ ((Y.take (((a + b) / 2) - s.i)) ++ ((Y.drop (((a + b) / 2) - s.i)) ++ S))) := by
   have : row4 P ((X.take (s.i - a)) ++ (X.drop (s.i - a))) ((Y.take (((a + b) / 2) - s.i)) ++ (Y.drop (((a + b) / 2) - s.i))) S = (P ++ (X.take (s.i - a))) ++ ((X.drop (s.i - a)) ++ ((Y.take (((a + b) / 2) - s.i)) ++ ((Y.drop (((a + b) / 2) - s.i)) ++ S))) := by simp only [row4, List.append_assoc]
   rwa [← hXe, ← hYe] at this
  refine AW.exit ?_
  dsimp only [thenQ, blockQ, reduceIte]
  refine sr ?_
  refine qm ?_
  refine mn ?_
  refine qq (Qt.binOp rfl rfl (by first | exact pbSub (by omega) | rfl)) ?_
  refine qn ?_
  refine AW.seq ?_
  refine AW.cut [.sl 20 (.v (iv (s.i : Nat))), .sl 24 (.v (iv ((((a + b) / 2) + m - s.i) : Nat))), .sl 18 (.v (iv (((a + b) / 2) : Nat))), .sl 0 (.h base []), .sl 1 (.v (iv (a : Nat))), .sl 3 (.v (iv (b : Nat))), .sl 4 (.f 47 []), .rt base .row (tr (P ++ ((X.take (s.i - a)) ++ ((Y.take (((a + b) / 2) - s.i)) ++ ((X.drop (s.i - a)) ++ ((Y.drop (((a + b) / 2) - s.i)) ++ S))))))] ?_ ?_
  ·refine sr ?_
   refine mn ?_
   refine qm ?_
   refine qb ?_
   refine mn ?_
   apply AWL.cut 3
   ·intro Kg12
    refine AWL.split 181 rfl (fun g12 => ?_) (fun g12 => ?_)
    ·have eg12 := g12
     try simp only [cnd] at eg12
     refine qg g12 Qt.move ?_
     refine qg g12 Qt.move ?_
     refine qg g12 (Qt.binOp rfl rfl rfl) ?_
     refine nm ?_
     exact wjT 184 [182, 183, 184] (ifT g12 _ undef) Kg12
    ·refine og g12 ?_
     refine og g12 ?_
     refine og g12 ?_
     exact wjF 184 [182, 183, 184] (ifF g12 undef _) Kg12
   refine qq (Qt.pickAnd rfl rfl rfl) ?_
   refine nc (fun c13 => ?_) fun c13 => ?_
   ·try simp only [cnd] at c13
    refine AW.region ?_
    refine qm ?_
    refine mn ?_
    refine qm ?_
    refine qm ?_
    refine qm ?_
    refine AWL.rep base (tr ((P ++ (X.take (s.i - a))) ++ ((X.drop (s.i - a)) ++ ((Y.take (((a + b) / 2) - s.i)) ++ ((Y.drop (((a + b) / 2) - s.i)) ++ S))))) rfl (rowSim hrow) ?_
    refine nm ?_
    refine sp (Stp.callH rfl (by decide) Tryz.call219 rfl (rotZOpen_con (P ++ (X.take (s.i - a))) (X.drop (s.i - a)) (Y.take (((a + b) / 2) - s.i)) ((Y.drop (((a + b) / 2) - s.i)) ++ S) _ _ _ (by rw [List.length_append, n1]; omega) (by rw [List.length_append, n1, n2]; omega) (by rw [List.length_append, n1, n2, n3]; omega) (by omega) (by omega) (by simp only [List.length_append, n1, n2, n3, n4]; omega)) rfl rfl rfl (nodup_of rfl) rfl rfl) ?_
    refine nl ?_
    exact Weak.sim ⟨rfl, xI7 (by omega), rfl, rfl, rfl, rfl, rfl, ⟨_, rfl, (by rw [List.append_assoc]; exact tsr)⟩, trivial⟩ rfl rfl
   try simp only [cnd] at c13
   refine jd ?_
   have hz : (X.drop (s.i - a)).length = 0 ∨ (Y.take (((a + b) / 2) - s.i)).length = 0 := by omega
   have hr : (row4 P X Y S) = (P ++ ((X.take (s.i - a)) ++ ((Y.take (((a + b) / 2) - s.i)) ++ ((X.drop (s.i - a)) ++ ((Y.drop (((a + b) / 2) - s.i)) ++ S))))) := hrow.trans (by
    rw [List.append_assoc]
    rcases hz with hz | hz <;> rw [List.eq_nil_of_length_eq_zero hz] <;> simp only [List.nil_append])
   exact Weak.sim ⟨rfl, xI7 (by omega), rfl, rfl, rfl, rfl, rfl, ⟨_, rfl, rowSim hr⟩, trivial⟩ rfl rfl
  ·refine AW.seq ?_
   refine AW.cut [.sl 20 (.v (iv (s.i : Nat))), .sl 24 (.v (iv ((((a + b) / 2) + m - s.i) : Nat))), .sl 18 (.v (iv (((a + b) / 2) : Nat))), .sl 0 (.h base []), .sl 1 (.v (iv (a : Nat))), .sl 3 (.v (iv (b : Nat))), .sl 4 (.f 47 []), .rt base .row (tr (P ++ (sortK DOpen.Id ((X.take (s.i - a)) ++ (Y.take (((a + b) / 2) - s.i))) ++ ((X.drop (s.i - a)) ++ ((Y.drop (((a + b) / 2) - s.i)) ++ S)))))] ?_ ?_
   ·refine sr ?_
    refine mn ?_
    refine qm ?_
    refine qb ?_
    refine mn ?_
    apply AWL.cut 3
    ·intro Kg14
     refine AWL.split 195 rfl (fun g14 => ?_) (fun g14 => ?_)
     ·have eg14 := g14
      try simp only [cnd] at eg14
      refine qg g14 Qt.move ?_
      refine qg g14 Qt.move ?_
      refine qg g14 (Qt.binOp rfl rfl rfl) ?_
      refine nm ?_
      exact wjT 198 [196, 197, 198] (ifT g14 _ undef) Kg14
     ·refine og g14 ?_
      refine og g14 ?_
      refine og g14 ?_
      exact wjF 198 [196, 197, 198] (ifF g14 undef _) Kg14
    refine qq (Qt.pickAnd rfl rfl rfl) ?_
    refine nc (fun c15 => ?_) fun c15 => ?_
    ·try simp only [cnd] at c15
     refine AW.region ?_
     refine qm ?_
     refine mn ?_
     refine qm ?_
     refine qm ?_
     refine qm ?_
     refine AWL.rep base (tr (row4 P (X.take (s.i - a)) (Y.take (((a + b) / 2) - s.i)) ((X.drop (s.i - a)) ++ ((Y.drop (((a + b) / 2) - s.i)) ++ S)))) rfl (by exact tsr) ?_
     refine nm ?_
     refine sp (Stp.callH rfl (by decide) Tryz.call173 rfl (IH P (X.take (s.i - a)) (Y.take (((a + b) / 2) - s.i)) ((X.drop (s.i - a)) ++ ((Y.drop (((a + b) / 2) - s.i)) ++ S)) _ _ _ (by omega) (by rw [n1]; omega) (by rw [n1, n3]; omega) (by rw [n1, n3]; omega) (by omega) (by omega) (asc_take hX _) (asc_take hY _) (by simp only [List.length_append, n1, n2, n3, n4]; omega)) rfl rfl rfl (nodup_of rfl) rfl rfl) ?_
     refine nl ?_
     exact Weak.sim ⟨rfl, rfl, rfl, rfl, rfl, rfl, rfl, ⟨_, rfl, (by exact tsr)⟩, trivial⟩ rfl rfl
    try simp only [cnd] at c15
    refine jd ?_
    have hz : (X.take (s.i - a)).length = 0 ∨ (Y.take (((a + b) / 2) - s.i)).length = 0 := by omega
    have hr : sortK DOpen.Id ((X.take (s.i - a)) ++ (Y.take (((a + b) / 2) - s.i))) = (X.take (s.i - a)) ++ (Y.take (((a + b) / 2) - s.i)) := by
     rcases hz with hz | hz
     ·exact sort_nil_l (asc_take hY _) hz
     ·exact sort_nil_r (asc_take hX _) hz
    exact Weak.sim ⟨rfl, rfl, rfl, rfl, rfl, rfl, rfl, ⟨_, rfl, (by rw [hr, List.append_assoc]; exact tsr)⟩, trivial⟩ rfl rfl
   ·refine sr ?_
    refine mn ?_
    refine qm ?_
    refine qb ?_
    refine mn ?_
    apply AWL.cut 3
    ·intro Kg16
     refine AWL.split 209 rfl (fun g16 => ?_) (fun g16 => ?_)
     ·have eg16 := g16
      try simp only [cnd] at eg16
      refine qg g16 Qt.move ?_
      refine qg g16 Qt.move ?_
      refine qg g16 (Qt.binOp rfl rfl rfl) ?_
      refine nm ?_
      exact wjT 212 [210, 211, 212] (ifT g16 _ undef) Kg16
     ·refine og g16 ?_
      refine og g16 ?_
      refine og g16 ?_
      exact wjF 212 [210, 211, 212] (ifF g16 undef _) Kg16
    refine qq (Qt.pickAnd rfl rfl rfl) ?_
    refine nc (fun c17 => ?_) fun c17 => ?_
    ·try simp only [cnd] at c17
     refine AW.region ?_
     refine qm ?_
     refine mn ?_
     refine qm ?_
     refine qm ?_
     refine qm ?_
     refine AWL.rep base (tr (row4 (P ++ sortK DOpen.Id ((X.take (s.i - a)) ++ (Y.take (((a + b) / 2) - s.i)))) (X.drop (s.i - a)) (Y.drop (((a + b) / 2) - s.i)) S)) rfl (rowSim (by simp only [row4, List.append_assoc])) ?_
     refine nm ?_
     refine sp (Stp.callH rfl (by decide) Tryz.call173 rfl (IH (P ++ sortK DOpen.Id ((X.take (s.i - a)) ++ (Y.take (((a + b) / 2) - s.i)))) (X.drop (s.i - a)) (Y.drop (((a + b) / 2) - s.i)) S _ _ _ (by rw [List.length_append, sortK_len, List.length_append, n1, n3]; omega) (by rw [List.length_append, sortK_len, List.length_append, n1, n3, n2]; omega) (by rw [List.length_append, sortK_len, List.length_append, n1, n3, n2, n4]; omega) (by rw [n2, n4]; omega) (by omega) (by omega) (asc_drop hX _) (asc_drop hY _) (by rw [List.length_append, sortK_len, List.length_append, n1, n3, n2, n4]; omega)) rfl rfl rfl (nodup_of rfl) rfl rfl) ?_
     refine nm ?_
     refine AWL.rep base (tr (P ++ (sortK DOpen.Id (X ++ Y) ++ S))) rfl (by rw [hH]; simp only [List.append_assoc]; exact tsr) ?_
     refine nl ?_
     refine ⟨.inr rfl, [], .nil, ?_⟩
     refine ⟨fun n => n, rfl, fun _ _ => rfl, List.nodup_nil, (by simp), ?_⟩
     intro p hp
     cases List.mem_singleton.1 hp
     exact rootL_mem rfl
    try simp only [cnd] at c17
    have hz : (X.drop (s.i - a)).length = 0 ∨ (Y.drop (((a + b) / 2) - s.i)).length = 0 := by omega
    have hr : sortK DOpen.Id ((X.drop (s.i - a)) ++ (Y.drop (((a + b) / 2) - s.i))) = (X.drop (s.i - a)) ++ (Y.drop (((a + b) / 2) - s.i)) := by
     rcases hz with hz | hz
     ·exact sort_nil_l (asc_drop hY _) hz
     ·exact sort_nil_r (asc_drop hX _) hz
    refine AW.rep base (tr (P ++ (sortK DOpen.Id (X ++ Y) ++ S))) rfl (by rw [hH, hr]; simp only [List.append_assoc]; exact tsr) ?_
    refine jd ?_
    refine ⟨.inr rfl, [], .nil, ?_⟩
    refine ⟨fun n => n, rfl, fun _ _ => rfl, List.nodup_nil, (by simp), ?_⟩
    intro p hp
    cases List.mem_singleton.1 hp
    exact rootL_mem rfl
end Go.Proofs.YtekcnnngjoonbaaGreat.VM
