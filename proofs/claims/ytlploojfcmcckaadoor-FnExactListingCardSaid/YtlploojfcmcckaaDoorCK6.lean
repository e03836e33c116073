/- Contracts of functions of the program. No conditions beyond those that each states. -/
import Derived.Lib.ItoaLen
import Derived.Test.YtlploojfcmcckaaDoorCK5
set_option linter.all false
set_option maxHeartbeats 8000000
set_option maxRecDepth 10000
namespace Go.Proofs.YtlploojfcmcckaaDoor.VM
open Go Go.RowKit Go.Proofs
def argStep (f : ByteArray) (n : List Int) (s : ByteArray) (k : Nat) : ByteArray := (if ((chr f k).toNat : Int) = 114 then s ++ ⟨#[32, 114]⟩ else s ++ ⟨#[32]⟩) ++ decB (n.getD k 0)
def argsK (f : ByteArray) (n : List Int) (s : ByteArray) : Nat → ByteArray
 | 0 => s
 | k + 1 => argStep f n (argsK f n s k) k
def opN (i : DIns) : ByteArray := names.getD i.Op.toNat En.dflt
def opF (i : DIns) : ByteArray := forms.getD i.Op.toNat En.dflt
def lineS (s : ByteArray) (i : DIns) : ByteArray := argsK (opF i) [i.A, i.B, i.C] (s ++ opN i) (opF i).size ++ ⟨#[10]⟩
def listK (l : List DIns) : Nat → ByteArray
 | 0 => ⟨#[]⟩
 | k + 1 => lineS (listK l k) (l.getD k En.dflt)
def listS (l : List DIns) : ByteArray := if progOk l then listK l l.length else ⟨#[]⟩
theorem decB_size (n : Int) (h0 : -9223372036854775808 ≤ n) (h1 : n ≤ 9223372036854775807) : (decB n).size ≤ 21 := by
 have h := Lib.itoa_length_le n h0 h1
 simpa [decB, ByteArray.size] using h
theorem argStep_size (f : ByteArray) (n : List Int) (s : ByteArray) (k : Nat) (h : -1000000 ≤ n.getD k 0 ∧ n.getD k 0 ≤ 1000000) : (argStep f n s k).size ≤ s.size + 23 := by
 have h1 := decB_size (n.getD k 0) (by omega) (by omega)
 have h2 : (⟨#[32, 114]⟩ : ByteArray).size = 2 := rfl
 have h3 : (⟨#[32]⟩ : ByteArray).size = 1 := rfl
 unfold argStep
 split <;> simp only [ByteArray.size_append] <;> omega
theorem argsK_size (f : ByteArray) (n : List Int) (s : ByteArray) (h : ∀ k, -1000000 ≤ n.getD k 0 ∧ n.getD k 0 ≤ 1000000) : ∀ k, (argsK f n s k).size ≤ s.size + 23 * k
 | 0 => Nat.le_refl _
 | k + 1 => by
  have h1 := argsK_size f n s h k
  have h2 := argStep_size f n (argsK f n s k) k (h k)
  unfold argsK
  omega
theorem insArgs {i : DIns} (h : insOk i = true) : (∀ k, -1000000 ≤ [i.A, i.B, i.C].getD k 0 ∧ [i.A, i.B, i.C].getD k 0 ≤ 1000000) ∧ 1 ≤ i.Op ∧ i.Op ≤ 8 := by
 have h' : (-1000000 ≤ i.A ∧ i.A ≤ 1000000) ∧ (-1000000 ≤ i.B ∧ i.B ≤ 1000000) ∧ (-1000000 ≤ i.C ∧ i.C ≤ 1000000) ∧ 1 ≤ i.Op ∧ i.Op ≤ 8 := by
  unfold insOk at h
  repeat' split at h
  all_goals (simp only [reg, word, place, Bool.and_eq_true, decide_eq_true_eq, Bool.false_eq_true] at h; try omega)
 obtain ⟨a, b, c, d⟩ := h'
 refine ⟨fun k => ?_, d⟩
 match k with
 | 0 => exact a
 | 1 => exact b
 | 2 => exact c
 | k + 3 => show -1000000 ≤ (0 : Int) ∧ (0 : Int) ≤ 1000000; omega
theorem lineS_size (s : ByteArray) {i : DIns} (h : insOk i = true) : (lineS s i).size ≤ s.size + 75 := by
 have h1 := argsK_size (opF i) [i.A, i.B, i.C] (s ++ opN i) (insArgs h).1 (opF i).size
 have h2 := names_size i.Op.toNat
 have h3 := forms_size i.Op.toNat
 have h4 : (⟨#[10]⟩ : ByteArray).size = 1 := rfl
 unfold lineS opF opN at *
 simp only [ByteArray.size_append] at *
 omega
theorem listK_size (l : List DIns) (h : ∀ k, k < l.length → insOk (l.getD k En.dflt) = true) : ∀ {k : Nat}, k ≤ l.length → (listK l k).size ≤ 75 * k
 | 0, _ => Nat.le_refl _
 | k + 1, hk => by
  have h1 := listK_size l h (k := k) (by omega)
  have h2 := lineS_size (listK l k) (h k (by omega))
  unfold listK
  omega
theorem sim_int3 {a b c : Int} {f : Nat → Nat → T} (h0 : f 0 0 = .v (iv a)) (h1 : f 1 0 = .v (iv b)) (h2 : f 2 0 = .v (iv c)) : (T.s 1 3 f).sim (tr [a, b, c]) := T.sim_of fun k d hk hd => by
 obtain rfl : d = 0 := by omega
 match k, hk with
 | 0, _ => rw [h0]; rfl
 | 1, _ => rw [h1]; rfl
 | 2, _ => rw [h2]; rfl
theorem argsK_r {f : ByteArray} {n : List Int} {s : ByteArray} {k : Nat} (h : ((chr f k).toNat : Int) = 114) : argsK f n s (k + 1) = (argsK f n s k ++ ⟨#[32, 114]⟩) ++ decB (n.getD k En.dflt) := by
 simp only [argsK, argStep]
 rw [if_pos h]
 rfl
theorem argsK_ri {f : ByteArray} {n : List Int} {s : ByteArray} {k : Nat} (h : ((chr f k).toNat : Int) = 114) : argsK f n s (k + 1) = ((argsK f n s k ++ ⟨#[32]⟩) ++ ⟨#[114]⟩) ++ decB (n.getD k En.dflt) := by
 rw [argsK_r h, ByteArray.append_assoc (a := argsK f n s k) (b := ⟨#[32]⟩) (c := ⟨#[114]⟩)]
 rfl
theorem argsK_n {f : ByteArray} {n : List Int} {s : ByteArray} {k : Nat} (h : ¬ ((chr f k).toNat : Int) = 114) : argsK f n s (k + 1) = (argsK f n s k ++ ⟨#[32]⟩) ++ decB (n.getD k En.dflt) := by
 simp only [argsK, argStep]
 rw [if_neg h]
 rfl
theorem chr_at {s : ByteArray} {k : Nat} (hk : k < s.size) : s[k]'hk = chr s k := by
 rw [chr, List.getD_eq_getElem?_getD, List.getElem?_eq_getElem (by simpa using hk)]
 rfl
theorem progFacts {l : List DIns} (h : progOk l = true) : l.length ≤ 40 ∧ ∀ k, k < l.length → insOk (l.getD k En.dflt) = true := by
 simp only [progOk, Bool.and_eq_true, decide_eq_true_eq] at h
 refine ⟨h.1, fun k hk => ?_⟩
 have := List.all_eq_true.1 h.2 l[k] (List.getElem_mem hk)
 simpa [hk] using this
theorem ListingS_con (l : List DIns) : Con Tryd.prog 11 [.h base []] [.rt base .ro (tr l)] (fun y _ => y = .v (.string (listS l))) := by
 refine ob Tryd.func11 Tryd.ntmps11 ?_
 refine AW.len base [] rfl (by simp [Okp]) rfl (fun hl => ?_)
 refine sr ?_
 refine qn ?_
 refine sr2 ?_
 refine qm ?_
 refine cv Tryd.call32 rfl rfl (ProgOkS_con _) ?_
 refine nm ?_
 refine qq (Qt.notB rfl) ?_
 refine nc (fun c1 => ?_) fun c1 => ?_
 ·try simp only [cnd] at c1
  refine sr ?_
  refine qr 2 ?_
  rw [show listS l = ⟨#[]⟩ from if_neg (by simp [c1])]
  rfl
 try simp only [cnd] at c1
 obtain ⟨h40, hI⟩ := progFacts c1
 have hpr := c1
 refine jd (sr ?_)
 refine sp (Stp.buildSlice (ys := [.v (.string ⟨#[]⟩), .v (.string ⟨#[115, 101, 116]⟩), .v (.string ⟨#[97, 100, 100]⟩), .v (.string ⟨#[115, 117, 98]⟩), .v (.string ⟨#[108, 111, 97, 100]⟩), .v (.string ⟨#[115, 116, 111, 114, 101]⟩), .v (.string ⟨#[106, 117, 109, 112]⟩), .v (.string ⟨#[122, 101, 114, 111]⟩), .v (.string ⟨#[115, 121, 115]⟩)]) rfl (by decide) (by decide) rfl (by decide) rfl rfl rfl (nodup_of rfl)) ?_
 refine AWL.rep 13 (tr names) rfl (sim_strs (l := names) (fun k hk => match k, hk with | 0, _ => rfl | 1, _ => rfl | 2, _ => rfl | 3, _ => rfl | 4, _ => rfl | 5, _ => rfl | 6, _ => rfl | 7, _ => rfl | 8, _ => rfl | k + 9, hk => absurd hk (by show ¬ k + 9 < 9; omega))) ?_
 refine nm ?_
 refine qs' ?_
 refine qn ?_
 refine sr2 ?_
 refine qn ?_
 refine AW.block ?_
 refine AW.loopW (fun i : KInv l.length => [.sl 5 (.v (iv i.k)), .sl 4 (.v (.string (listK l i.k))), .sl 3 (.h 13 []), .rt 13 .row (tr names), .sl 0 (.h base []), .rt base .ro (tr l)]) (fun i => l.length - i.k) ⟨0, Nat.zero_le _⟩ (Weak.sim ⟨rfl, rfl, rfl, Rf rfl, rfl, Rf rfl, trivial⟩ rfl rfl) ?_
 intro i
 have hle := i.le
 refine sr2 ?_
 refine mn ?_
 refine qm ?_
 refine qh sl27 ?_
 refine qb ?_
 refine nc (fun c2 => ?_) fun c2 => ?_
 ·try simp only [cnd] at c2
  have hq := listK_size l hI (k := i.k) (by omega)
  have hi := hI i.k (by omega)
  have hia := (insArgs hi).1
  have hi1 := (insArgs hi).2.1
  have hi8 := (insArgs hi).2.2
  have hns := names_size ((l.getD i.k En.dflt)).Op.toNat
  have hfs := forms_size ((l.getD i.k En.dflt)).Op.toNat
  have hn9 : names.length = 9 := rfl
  refine jd (AW.seq (AW.block (sr ?_)))
  refine mn ?_
  refine qm ?_
  refine qm ?_
  refine qq (ix sl27 sz53) ?_
  refine nm ?_
  refine qq (fA fl53_0) ?_
  refine ql ag3 ?_
  refine qq (ix sl49 sz9) ?_
  refine nm ?_
  refine ql ag9 ?_
  refine sp (Stp.callR rfl (by decide) Tryd.call33 rfl rfl (l4FormAt_con _ (by omega)) (nodup_of rfl) rfl rfl) ?_
  refine nm ?_
  refine qm ?_
  refine qq (Qt.extract rfl (of_decide_eq_true rfl)) ?_
  refine qq (Qt.extract rfl (of_decide_eq_true rfl)) ?_
  refine nm ?_
  refine qa ?_
  refine qn ?_
  refine AW.seq ?_
  refine AW.draw [0, 1, 2, 3, 4, 5, 6, 7, 8, 9, 10, 11, 12, 13, 14, 16] rfl (by decide +kernel) ?_
  refine tk 0 rfl Qt.move ?_
  refine na ?_
  refine tk 1 rfl Qt.move ?_
  refine tk 2 rfl (ix sl27 sz53) ?_
  refine tk 3 rfl (fA fl53_1) ?_
  refine na ?_
  refine tk 4 rfl (Qt.load1 rfl rfl rfl ag3) ?_
  refine tk 5 rfl Qt.move ?_
  refine tk 6 rfl Qt.move ?_
  refine na ?_
  refine tk 7 rfl (ix sl27 sz53) ?_
  refine tk 8 rfl (fA fl53_2) ?_
  refine tk 9 rfl (Qt.load1 rfl rfl rfl ag3) ?_
  refine na ?_
  refine tk 10 rfl Qt.move ?_
  refine tk 11 rfl Qt.move ?_
  refine tk 12 rfl (ix sl27 sz53) ?_
  refine na ?_
  refine tk 13 rfl (fA fl53_3) ?_
  refine tk 14 rfl (Qt.load1 rfl rfl rfl ag3) ?_
  refine a1 15 [] [14, 9, 4, 13, 8, 3, 12, 7, 2, 11, 10, 6, 5, 1, 0] rfl rfl sS ?_
  refine na ?_
  refine na ?_
  refine AWA.rep 47 (tr [(l.getD i.k En.dflt).A, (l.getD i.k En.dflt).B, (l.getD i.k En.dflt).C]) rfl (sim_int3 rfl rfl rfl) ?_
  refine na ?_
  refine tk 16 rfl Qt.assign ?_
  refine nz ?_
  refine sr ?_
  refine qm ?_
  refine mn ?_
  refine qm ?_
  refine qm ?_
  refine qq (ix sl27 sz53) ?_
  refine nm ?_
  refine qq (fA fl53_0) ?_
  refine ql ag3 ?_
  refine qq (ix sl49 sz9) ?_
  refine nm ?_
  refine ql ag9 ?_
  refine qq (Qt.binOp rfl rfl (pbCat (by first | omega | (simp only [ByteArray.size_append]; omega)))) ?_
  refine qn ?_
  refine sr2 ?_
  refine qn ?_
  refine AW.block ?_
  refine AW.loopW (fun j : KInv (opF (l.getD i.k En.dflt)).size => [.sl 9 (.v (iv j.k)), .sl 4 (.v (.string (argsK (opF (l.getD i.k En.dflt)) [(l.getD i.k En.dflt).A, (l.getD i.k En.dflt).B, (l.getD i.k En.dflt).C] (listK l i.k ++ opN (l.getD i.k En.dflt)) j.k))), .sl 8 (.h 47 []), .rt 47 .row (tr [(l.getD i.k En.dflt).A, (l.getD i.k En.dflt).B, (l.getD i.k En.dflt).C]), .sl 7 (.v (.string (opF (l.getD i.k En.dflt)))), .sl 5 (.v (iv i.k)), .sl 3 (.h 13 []), .rt 13 .row (tr names), .sl 0 (.h base []), .rt base .ro (tr l)]) (fun j => (opF (l.getD i.k En.dflt)).size - j.k) ⟨0, Nat.zero_le _⟩ (Weak.sim ⟨rfl, rfl, rfl, Rf rfl, rfl, rfl, rfl, Rf rfl, rfl, Rf rfl, trivial⟩ rfl rfl) ?_
  intro j
  have hlej := j.le
  have hj3 := j.le
  refine sr2 ?_
  refine mn ?_
  refine qm ?_
  refine qq (Qt.lenS rfl Tryd.underlying9) ?_
  refine qb ?_
  refine nc (fun c3 => ?_) fun c3 => ?_
  ·try simp only [cnd] at c3
   have hj := argsK_size (opF (l.getD i.k En.dflt)) [(l.getD i.k En.dflt).A, (l.getD i.k En.dflt).B, (l.getD i.k En.dflt).C] (listK l i.k ++ opN (l.getD i.k En.dflt)) hia j.k
   have hjs : (opF (l.getD i.k En.dflt)).size ≤ 3 := hfs
   have hns2 : (opN (l.getD i.k En.dflt)).size ≤ 5 := hns
   simp only [ByteArray.size_append] at hj
   have hx2 : (⟨#[32, 114]⟩ : ByteArray).size = 2 := rfl
   have hx1 : (⟨#[32]⟩ : ByteArray).size = 1 := rfl
   have hx0 : (⟨#[114]⟩ : ByteArray).size = 1 := rfl
   have hl3 : [(l.getD i.k En.dflt).A, (l.getD i.k En.dflt).B, (l.getD i.k En.dflt).C].length = 3 := rfl
   have hd : -1000000 ≤ [(l.getD i.k En.dflt).A, (l.getD i.k En.dflt).B, (l.getD i.k En.dflt).C].getD j.k En.dflt ∧ [(l.getD i.k En.dflt).A, (l.getD i.k En.dflt).B, (l.getD i.k En.dflt).C].getD j.k En.dflt ≤ 1000000 := hia j.k
   have hz := decB_size ([(l.getD i.k En.dflt).A, (l.getD i.k En.dflt).B, (l.getD i.k En.dflt).C].getD j.k En.dflt) (by omega) (by omega)
   refine jd (AW.seq (AW.block (sr ?_)))
   refine mn ?_
   refine qm ?_
   refine qq (Qt.indexS rfl rfl Tryd.underlying9 (by first | omega | grind only) (by first | omega | grind only)) ?_
   refine qb ?_
   refine nc (fun c4 => ?_) fun c4 => ?_
   ·try simp only [cnd] at c4
    refine AW.region ?_
    refine mn ?_
    refine qq (Qt.binOp rfl rfl (pbCat (by first | omega | (simp only [ByteArray.size_append]; omega)))) ?_
    refine qm ?_
    refine mn ?_
    refine qq (ix sl54 sz3) ?_
    refine ql ag3 ?_
    refine cv Tryd.call8 rfl rfl (DecS_con _ (by first | omega | (simp only [Int.toNat_natCast]; omega))) ?_
    refine nm ?_
    refine qq (Qt.binOp rfl rfl (pbCat (by first | omega | (simp only [ByteArray.size_append]; omega)))) ?_
    refine qn ?_
    refine AW.region ?_
    refine mn ?_
    refine ba ?_
    refine qn ?_
    refine ⟨⟨j.k + 1, by omega⟩, Weak.sim ⟨st1, (by simp only [slotL, reduceIte, Nat.reduceEqDiff]; first | rw [argsK_r (by omega)] | rw [argsK_n (by omega)]), rfl, Rf rfl, rfl, rfl, rfl, Rf rfl, rfl, Rf rfl, trivial⟩ rfl rfl, ?_⟩
    show (opF (l.getD i.k En.dflt)).size - (j.k + 1) < (opF (l.getD i.k En.dflt)).size - j.k
    omega
   try simp only [cnd] at c4
   refine AW.region ?_
   refine mn ?_
   refine qq (Qt.binOp rfl rfl (pbCat (by first | omega | (simp only [ByteArray.size_append]; omega)))) ?_
   refine qm ?_
   refine mn ?_
   refine qq (ix sl54 sz3) ?_
   refine ql ag3 ?_
   refine cv Tryd.call8 rfl rfl (DecS_con _ (by first | omega | (simp only [Int.toNat_natCast]; omega))) ?_
   refine nm ?_
   refine qq (Qt.binOp rfl rfl (pbCat (by first | omega | (simp only [ByteArray.size_append]; omega)))) ?_
   refine qn ?_
   refine AW.region ?_
   refine mn ?_
   refine ba ?_
   refine qn ?_
   refine ⟨⟨j.k + 1, by omega⟩, Weak.sim ⟨st1, (by simp only [slotL, reduceIte, Nat.reduceEqDiff]; first | rw [argsK_r (by omega)] | rw [argsK_n (by omega)]), rfl, Rf rfl, rfl, rfl, rfl, Rf rfl, rfl, Rf rfl, trivial⟩ rfl rfl, ?_⟩
   show (opF (l.getD i.k En.dflt)).size - (j.k + 1) < (opF (l.getD i.k En.dflt)).size - j.k
   omega
  try simp only [cnd] at c3
  have hje := argsK_size (opF (l.getD i.k En.dflt)) [(l.getD i.k En.dflt).A, (l.getD i.k En.dflt).B, (l.getD i.k En.dflt).C] (listK l i.k ++ opN (l.getD i.k En.dflt)) hia j.k
  have hjs : (opF (l.getD i.k En.dflt)).size ≤ 3 := hfs
  have hns2 : (opN (l.getD i.k En.dflt)).size ≤ 5 := hns
  simp only [ByteArray.size_append] at hje
  have hx10 : (⟨#[10]⟩ : ByteArray).size = 1 := rfl
  refine AW.exit ?_
  dsimp only [thenQ, blockQ, reduceIte]
  refine AW.region ?_
  refine mn ?_
  refine qq (Qt.binOp rfl rfl (pbCat (by first | omega | (simp only [ByteArray.size_append]; omega)))) ?_
  refine qn ?_
  refine AW.region ?_
  refine mn ?_
  refine ba ?_
  refine qn ?_
  refine ⟨⟨i.k + 1, by omega⟩, Weak.sim ⟨st1, (by rw [show j.k = (opF (l.getD i.k En.dflt)).size by omega]; rfl), rfl, Rf rfl, rfl, Rf rfl, trivial⟩ rfl rfl, ?_⟩
  show l.length - (i.k + 1) < l.length - i.k
  omega
 try simp only [cnd] at c2
 refine AW.exit ?_
 dsimp only [thenQ, blockQ, reduceIte]
 refine sr ?_
 refine mn ?_
 refine qr 2 ?_
 rw [show listS l = listK l i.k from (if_pos hpr).trans (by rw [show i.k = l.length by omega])]
 rfl
theorem ListingI_con (l : List DIns) : Con Tryd.prog 13 [.h base []] [.rt base .ro (tr l)] (fun y _ => y = .v (.string (listS l))) := by
 refine ob Tryd.func13 Tryd.ntmps13 ?_
 refine AW.len base [] rfl (by simp [Okp]) rfl (fun hl => ?_)
 refine sr ?_
 refine qn ?_
 refine sr2 ?_
 refine qm ?_
 refine cv Tryd.call35 rfl rfl (ProgOkI_con _) ?_
 refine nm ?_
 refine qq (Qt.notB rfl) ?_
 refine nc (fun c1 => ?_) fun c1 => ?_
 ·try simp only [cnd] at c1
  refine sr ?_
  refine qr 2 ?_
  rw [show listS l = ⟨#[]⟩ from if_neg (by simp [c1])]
  rfl
 try simp only [cnd] at c1
 obtain ⟨h40, hI⟩ := progFacts c1
 have hpr := c1
 refine jd (sr ?_)
 refine qn ?_
 refine sr2 ?_
 refine mn ?_
 refine qh sl27 ?_
 refine qm ?_
 refine nl ?_
 refine AW.block ?_
 refine AW.loopW (fun q : KInv l.length => [.sl 14 (.v (iv q.k)), .sl 12 (.h base []), .sl 13 (.v (iv l.length)), .sl 3 (.v (.string (listK l q.k))), .sl 0 (.h base []), .rt base .ro (tr l)]) (fun q => l.length - q.k) ⟨0, Nat.zero_le _⟩ (Weak.sim ⟨rfl, rfl, rfl, rfl, rfl, Rf rfl, trivial⟩ rfl rfl) ?_
 intro q
 have hleq := q.le
 refine sr ?_
 refine qb ?_
 refine nl ?_
 refine AW.seq ?_
 refine cd (fun c2 => ?_) fun c2 => ?_
 ·try simp only [cnd] at c2
  have hq := listK_size l hI (k := q.k) (by omega)
  have hi := hI q.k (by omega)
  have hia := (insArgs hi).1
  have hi1 := (insArgs hi).2.1
  have hi8 := (insArgs hi).2.2
  have hns := names_size ((l.getD q.k En.dflt)).Op.toNat
  have hfs := forms_size ((l.getD q.k En.dflt)).Op.toNat
  have hn9 : names.length = 9 := rfl
  refine jd (AW.seq (AW.block (sr ?_)))
  refine qq (ix sl27 sz53) ?_
  refine nm ?_
  refine qG ag53 sz53 ?_
  refine sp sA ?_
  refine nm ?_
  refine ss ?_
  refine nl ?_
  refine AW.seq ?_
  refine AW.draw [0, 2, 3, 4, 5, 6] rfl (by decide +kernel) ?_
  refine tk 0 rfl Qt.move ?_
  refine na ?_
  refine tk 2 rfl (fA fl53_0) ?_
  refine tk 3 rfl (Qt.load1 rfl rfl rfl ag3) ?_
  refine a1 1 [0, 2, 3] [] rfl rfl (Stp.callR rfl (by decide) Tryd.call36 rfl rfl opNames_con (nodup_of rfl) rfl rfl) ?_
  refine na ?_
  refine ae rfl Qt.move ?_
  refine ae rfl (fA fl53_0) ?_
  refine ae rfl (Qt.load1 rfl rfl rfl ag3) ?_
  refine na ?_
  refine tk 4 rfl (ix sl49 sz9) ?_
  refine tk 5 rfl (Qt.load1 rfl rfl rfl ag9) ?_
  refine tk 6 rfl (Qt.binOp rfl rfl (pbCat (by first | omega | (simp only [ByteArray.size_append]; omega)))) ?_
  refine na ?_
  refine a1 7 [] [6, 5, 4, 3, 2, 1, 0] rfl rfl (Stp.q rfl (by decide) Qt.assign) ?_
  refine na ?_
  refine na ?_
  refine nz ?_
  refine sr ?_
  refine qq (fA fl53_1) ?_
  refine ql ag3 ?_
  refine qq (fA fl53_2) ?_
  refine nm ?_
  refine ql ag3 ?_
  refine qq (fA fl53_3) ?_
  refine ql ag3 ?_
  refine nm ?_
  refine sp sS ?_
  refine AWL.rep 31 (tr [(l.getD q.k En.dflt).A, (l.getD q.k En.dflt).B, (l.getD q.k En.dflt).C]) rfl (sim_int3 rfl rfl rfl) ?_
  refine nm ?_
  refine qn ?_
  refine AW.seq ?_
  refine AW.rangeS rfl (by decide) (by decide) (by decide) Tryd.underlying9 ?_
  refine qq (fA fl53_0) ?_
  refine ql ag3 ?_
  refine nm ?_
  refine cv Tryd.call37 rfl rfl (opForm_con _ (by omega) (by omega)) ?_
  refine nl ?_
  refine ⟨opF (l.getD q.k En.dflt), Unit, fun pv p i => [.sl 35 (.v pv), .sl 3 (.v (.string (argsK (opF (l.getD q.k En.dflt)) [(l.getD q.k En.dflt).A, (l.getD q.k En.dflt).B, (l.getD q.k En.dflt).C] (listK l q.k ++ opN (l.getD q.k En.dflt)) p))), .sl 6 (.h 31 []), .rt 31 .row (tr [(l.getD q.k En.dflt).A, (l.getD q.k En.dflt).B, (l.getD q.k En.dflt).C]), .sl 14 (.v (iv q.k)), .sl 12 (.h base []), .sl 13 (.v (iv l.length)), .sl 0 (.h base []), .rt base .ro (tr l)], (), rfl, forms_ascii _, fun pv => Weak.sim ⟨rfl, rfl, rfl, Rf rfl, rfl, rfl, rfl, rfl, Rf rfl, trivial⟩ rfl rfl, fun _ _ _ => rfl, fun pv p i hp => ?_, fun pv i => ?_⟩
  ·have hj := argsK_size (opF (l.getD q.k En.dflt)) [(l.getD q.k En.dflt).A, (l.getD q.k En.dflt).B, (l.getD q.k En.dflt).C] (listK l q.k ++ opN (l.getD q.k En.dflt)) hia p
   have hjs : (opF (l.getD q.k En.dflt)).size ≤ 3 := hfs
   have hns2 : (opN (l.getD q.k En.dflt)).size ≤ 5 := hns
   simp only [ByteArray.size_append] at hj
   have hx2 : (⟨#[32, 114]⟩ : ByteArray).size = 2 := rfl
   have hx1 : (⟨#[32]⟩ : ByteArray).size = 1 := rfl
   have hx0 : (⟨#[114]⟩ : ByteArray).size = 1 := rfl
   have hl3 : [(l.getD q.k En.dflt).A, (l.getD q.k En.dflt).B, (l.getD q.k En.dflt).C].length = 3 := rfl
   have hd : -1000000 ≤ [(l.getD q.k En.dflt).A, (l.getD q.k En.dflt).B, (l.getD q.k En.dflt).C].getD p En.dflt ∧ [(l.getD q.k En.dflt).A, (l.getD q.k En.dflt).B, (l.getD q.k En.dflt).C].getD p En.dflt ≤ 1000000 := hia p
   have hz := decB_size ([(l.getD q.k En.dflt).A, (l.getD q.k En.dflt).B, (l.getD q.k En.dflt).C].getD p En.dflt) (by omega) (by omega)
   have hch : (((opF (l.getD q.k En.dflt))[p]'hp).toNat : Int) = ((chr (opF (l.getD q.k En.dflt)) p).toNat : Int) := by rw [chr_at]
   refine AW.seq ?_
   refine AW.condT rfl rfl ?_
   refine jd (AW.block (sr ?_))
   refine qq (Qt.extract rfl (of_decide_eq_true rfl)) ?_
   refine nm ?_
   refine qq (Qt.extract rfl (of_decide_eq_true rfl)) ?_
   refine qa ?_
   refine qs' ?_
   refine mn ?_
   refine qq (Qt.binOp rfl rfl (pbCat (by first | omega | (simp only [ByteArray.size_append]; omega)))) ?_
   refine qn ?_
   refine sr2 ?_
   refine mn ?_
   refine qb ?_
   refine nc (fun c3 => ?_) fun c3 => ?_
   ·try simp only [cnd] at c3
    refine AW.region ?_
    refine qm ?_
    refine qq (Qt.binOp rfl rfl (pbCat (by first | omega | (simp only [ByteArray.size_append]; omega)))) ?_
    refine nm ?_
    refine qn ?_
    refine AW.region ?_
    refine qm ?_
    refine mn ?_
    refine qm ?_
    refine qq (ix sl54 sz3) ?_
    refine ql ag3 ?_
    refine nm ?_
    refine cv Tryd.call9 rfl rfl (DecI_con _ (by first | omega | (simp only [Int.toNat_natCast]; omega))) ?_
    refine nm ?_
    refine qq (Qt.binOp rfl rfl (pbCat (by first | omega | (simp only [ByteArray.size_append]; omega)))) ?_
    refine qn ?_
    refine ⟨(), Weak.sim ⟨rfl, (by simp only [slotL, reduceIte, Nat.reduceEqDiff]; first | rw [argsK_ri (by omega)] | rw [argsK_n (by omega)]), rfl, Rf rfl, rfl, rfl, rfl, rfl, Rf rfl, trivial⟩ rfl rfl⟩
   try simp only [cnd] at c3
   refine jd (AW.region ?_)
   refine mn ?_
   refine qm ?_
   refine qm ?_
   refine qq (ix sl54 sz3) ?_
   refine nm ?_
   refine ql ag3 ?_
   refine cv Tryd.call9 rfl rfl (DecI_con _ (by first | omega | (simp only [Int.toNat_natCast]; omega))) ?_
   refine nm ?_
   refine qq (Qt.binOp rfl rfl (pbCat (by first | omega | (simp only [ByteArray.size_append]; omega)))) ?_
   refine qn ?_
   refine ⟨(), Weak.sim ⟨rfl, (by simp only [slotL, reduceIte, Nat.reduceEqDiff]; first | rw [argsK_ri (by omega)] | rw [argsK_n (by omega)]), rfl, Rf rfl, rfl, rfl, rfl, rfl, Rf rfl, trivial⟩ rfl rfl⟩
  ·have hje := argsK_size (opF (l.getD q.k En.dflt)) [(l.getD q.k En.dflt).A, (l.getD q.k En.dflt).B, (l.getD q.k En.dflt).C] (listK l q.k ++ opN (l.getD q.k En.dflt)) hia (opF (l.getD q.k En.dflt)).size
   have hjs : (opF (l.getD q.k En.dflt)).size ≤ 3 := hfs
   have hns2 : (opN (l.getD q.k En.dflt)).size ≤ 5 := hns
   simp only [ByteArray.size_append] at hje
   have hx10 : (⟨#[10]⟩ : ByteArray).size = 1 := rfl
   refine AW.seq ?_
   refine AW.condF rfl rfl ?_
   refine AW.exit ?_
   dsimp only [thenQ, blockQ, reduceIte]
   refine AW.region ?_
   refine mn ?_
   refine qq (Qt.binOp rfl rfl (pbCat (by first | omega | (simp only [ByteArray.size_append]; omega)))) ?_
   refine qn ?_
   refine AW.region ?_
   refine ba ?_
   refine nm ?_
   refine qm ?_
   refine nl ?_
   refine ⟨⟨q.k + 1, by omega⟩, Weak.sim ⟨st1, rfl, rfl, st1, rfl, Rf rfl, trivial⟩ rfl rfl, ?_⟩
   show l.length - (q.k + 1) < l.length - q.k
   omega
 try simp only [cnd] at c2
 refine AW.exit ?_
 dsimp only [thenQ, blockQ, reduceIte]
 refine sr ?_
 refine qm ?_
 refine qr 2 ?_
 rw [show listS l = listK l q.k from (if_pos hpr).trans (by rw [show q.k = l.length by omega])]
 rfl
end Go.Proofs.YtlploojfcmcckaaDoor.VM
