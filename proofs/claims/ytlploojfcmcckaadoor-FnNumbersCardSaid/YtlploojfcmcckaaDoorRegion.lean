/- A region that draws its order, some of whose operations make or write memory: whatever order is drawn, it comes to what one fixed order comes to, if each operation that does not stand alone yields one value in every world of a class, and leaves the world. No conditions. -/
import Derived.Test.YtlploojfcmcckaaDoorLibOps
import Derived.StillTail
import Derived.Deep.Quiet
namespace Go.Proofs.YtlploojfcmcckaaDoor
section
variable {P : Program} {ops : Array Oper} {md : Region.Mode} {Q : Exit → Act → World → Prop}

/-- in every world of C it yields v and leaves the world -/
def StIn (P : Program) (ops : Array Oper) (C : World → Prop) (o : Oper) (v : Value) (a : Act) : Prop :=
  (Region.wanted o (yielded ops a.tmps) = true ∧ ∀ w, C w → o.quietAt P a (fun w' => w' = w) w v) ∨
  (Region.wanted o (yielded ops a.tmps) = false ∧ v = undef)

theorem StIn.same {C : World → Prop} {o : Oper} {v : Value} {a b : Act} (hy : StIn P ops C o v a) (he : execOp b.eval o = execOp a.eval o)
    (hw : Region.wanted o (yielded ops b.tmps) = Region.wanted o (yielded ops a.tmps)) : StIn P ops C o v b := by
  rcases hy with ⟨h1, h2⟩ | ⟨h1, h2⟩
  · exact .inl ⟨hw.trans h1, fun w hC => by have := h2 w hC; unfold Oper.quietAt at *; rw [he]; exact this⟩
  · exact .inr ⟨hw.trans h1, h2⟩
theorem StIn.sub {C C' : World → Prop} {o : Oper} {v : Value} {a : Act} (hy : StIn P ops C o v a) (h : ∀ w, C' w → C w) : StIn P ops C' o v a :=
  hy.imp (fun ⟨h1, h2⟩ => ⟨h1, fun w hw => h2 w (h w hw)⟩) id

theorem StIn.run {C : World → Prop} {i : Nat} {o : Oper} {v : Value} {a : Act} {w : World} (hi : ops[i]? = some o) (hy : StIn P ops C o v a) (hw : C w) {K : Act → World → Prop} (h : K (a.put o.dst v) w) : wpOp P ops Q i K a w := by
  unfold wpOp
  rw [hi]
  rcases hy with ⟨h1, h2⟩ | ⟨h1, rfl⟩
  · show if _ then _ else _
    rw [if_pos h1]
    refine .inl (Oper.wp_of_quiet (C := fun w' => w' = w) (K := fun a' => a' = a.put o.dst v) rfl (fun a' w' hw' ha' => by rw [hw', ha']; exact h) ⟨v, fun w' hw' => ?_, rfl⟩)
    rw [hw']
    exact h2 w hw
  · show if _ then _ else _
    rw [if_neg (by rw [h1]; exact Bool.false_ne_true)]
    exact h

/-- another operation, whether i's value stands already or not -/
theorem StIn.beside {C : World → Prop} {j : Nat} {oi oj : Oper} {v : Value} (hj : ops[j]? = some oj) (hap : oi.apart ops oj = true) (hsi : ∀ cs b, oi.op ≠ .select cs b) (hsj : ∀ cs b, oj.op ≠ .select cs b)
    (hQ : ∀ c a d v w, Q (.panic c) (Act.put a d v) w → Q (.panic c) a w)
    {K : Act → World → Prop} {a : Act} {w : World} (hy : StIn P ops C oi v a) (h : wpOp P ops Q j K (a.put oi.dst v) w) :
    wpOp P ops Q j (fun b w' => StIn P ops C oi v b ∧ K (b.put oi.dst v) w') a w := by
  obtain ⟨a1, a2, a3⟩ := Oper.apart_spec hap
  have hexec : execOp (a.put oi.dst v).eval oj = execOp a.eval oj := execOp_put oj hsj a oi.dst v a1
  have hwant := wanted_put oj a oi.dst v a1
  have fin : ∀ (b : Act), StIn P ops C oi v b → ∀ u w', K ((b.put oi.dst v).put oj.dst u) w' → StIn P ops C oi v (b.put oj.dst u) ∧ K ((b.put oj.dst u).put oi.dst v) w' := fun b hb u w' hk =>
    ⟨hb.same (execOp_put oi hsi b oj.dst u a3) (wanted_put oi b oj.dst u a3), by rw [← Act.put_comm b v u a2]; exact hk⟩
  unfold wpOp at h ⊢
  rw [hj] at h ⊢
  simp only [hwant] at h ⊢
  by_cases hw : Region.wanted oj (yielded ops a.tmps) = true
  · rw [if_pos hw] at h ⊢
    refine h.imp (fun h => ?_) (fun ⟨h1, h2⟩ => ⟨by unfold Oper.asks at *; rw [hexec] at h1; exact h1, h2⟩)
    unfold Oper.wp at h ⊢
    rw [hexec] at h
    revert h
    cases (execOp a.eval oj).run P w with
    | halt x w' => cases x <;> first | exact id | exact fun h => hQ _ _ _ _ _ h
    | ok n w' =>
      cases n with
      | value u => exact fun h => fin a hy u w' h
      | skip => exact fun h => fin a hy _ w' h
      | defer d => exact fun h => fin { a with defers := d :: a.defers } (hy.same rfl rfl) undef w' (by cases hd : oi.dst <;> simpa [Act.put, hd, Oper.upon_defer] using h)
      | enter f args =>
        refine fun h => Calls.mono h fun e w'' he => ?_
        cases e with
        | returned u => exact fin a hy u w'' he
        | panicked c => exact hQ _ _ _ _ _ he
        | outgrown => exact he
      | row r args => exact fun h => Rows.mono h fun u w'' he => fin a hy u w'' he
      | _ => exact id
  · rw [if_neg hw] at h ⊢
    exact fin a hy _ w h

/-- whatever order is picked, every world on the way is of the class, which may become narrower -/
def AnyC (P : Program) (md : Region.Mode) (ops : Array Oper) (Q : Exit → Act → World → Prop) : Nat → (World → Prop) → Array Bool → Act → World → Prop
  | 0, _, listed, a, w => Region.ready md ops listed = [] ∧ Q .normal a w
  | fuel + 1, C, listed, a, w =>
    (Region.ready md ops listed = [] → Q .normal a w) ∧
    ∀ i ∈ Region.ready md ops listed, wpOp P ops Q i (fun a' w' => ∃ C' : World → Prop, (∀ x, C' x → C x) ∧ C' w' ∧ AnyC P md ops Q fuel C' (listed.setIfInBounds i true) a' w') a w

theorem AnyC.any : ∀ (fuel : Nat) (C : World → Prop) (listed : Array Bool) (a : Act) (w : World), AnyC P md ops Q fuel C listed a w → wpAny P md ops Q fuel listed a w
  | 0, _, _, _, _, h => h
  | fuel + 1, _, _, _, _, h => ⟨h.1, fun i hi => wpOp_mono (fun a' w' ⟨C', _, _, h'⟩ => AnyC.any fuel C' _ a' w' h') (h.2 i hi)⟩

theorem AnyC.first {i : Nat} {oi : Oper} {v : Value} (hi : ops[i]? = some oi) (hsel : ∀ (j : Nat) (o : Oper) cs b, ops[j]? = some o → o.op ≠ .select cs b)
    (hQ : ∀ c a d v w, Q (.panic c) (Act.put a d v) w → Q (.panic c) a w) :
    ∀ (fuel : Nat) (C : World → Prop) (listed : Array Bool) (a : Act) (w : World),
      (∀ j oj, ops[j]? = some oj → j ≠ i → listed.getD j true = false → (∀ e ∈ oj.after, Region.binds md e = true → e.on ≠ i) → oi.apart ops oj = true) →
      i ∈ Region.ready md ops listed → StIn P ops C oi v a → C w →
      AnyC P md ops Q fuel C (listed.setIfInBounds i true) (a.put oi.dst v) w → AnyC P md ops Q (fuel + 1) C listed a w := by
  intro fuel
  induction fuel with
  | zero =>
    intro C listed a w _ hr hy hC H
    refine ⟨fun h => absurd (h ▸ hr) List.not_mem_nil, fun j hj => ?_⟩
    by_cases hji : j = i
    · subst hji; exact hy.run hi hC ⟨C, fun _ h => h, hC, H⟩
    · have := ready_mono hj hji
      rw [H.1] at this
      exact absurd this List.not_mem_nil
  | succ fuel ih =>
    intro C listed a w hfree hr hy hC H
    refine ⟨fun h => absurd (h ▸ hr) List.not_mem_nil, fun j hj => ?_⟩
    by_cases hji : j = i
    · subst hji; exact hy.run hi hC ⟨C, fun _ h => h, hC, H⟩
    · have hun := (mem_ready.1 hr).1
      obtain ⟨hjun, oj, hoj, hall⟩ := mem_ready.1 hj
      have hnot : ∀ e ∈ oj.after, Region.binds md e = true → e.on ≠ i := fun e he hb heq => by
        have h1 := hall e he hb
        rw [heq, getD_both hun] at h1
        cases h1
      have h2 := hy.beside hoj (hfree j oj hoj hji hjun hnot) (fun cs b => hsel i oi cs b hi) (fun cs b => hsel j oj cs b hoj) hQ (H.2 j (ready_mono hj hji))
      refine wpOp_mono (fun a' w' ⟨h3, C', hC', hw', h4⟩ => ⟨C', hC', hw', ih C' (listed.setIfInBounds j true) a' w' ?_ (ready_mono hr (Ne.symm hji)) (h3.sub hC') hw' ?_⟩) h2
      · intro k ok hk hki hku hkn
        refine hfree k ok hk hki ?_ hkn
        by_cases hjk : j = k
        · subst hjk; exact hjun
        · rw [getD_set_ne true hjk] at hku; exact hku
      · rw [Array.setIfInBounds_comm _ _ hji]
        exact h4

/-- One order: (i, true): operation i yields one value in every world of the class; (i, false): it is the only one that may come up. -/
def ordB (md : Region.Mode) (ops : Array Oper) : List (Nat × Bool) → Array Bool → Bool
  | [], listed => (Region.ready md ops listed).isEmpty
  | (i, true) :: r, listed => (Region.ready md ops listed).contains i && Region.free md ops listed i && ordB md ops r (listed.setIfInBounds i true)
  | (i, false) :: r, listed => decide (Region.ready md ops listed = [i]) && ordB md ops r (listed.setIfInBounds i true)

def Seg (P : Program) (ops : Array Oper) (Q : Exit → Act → World → Prop) : List (Nat × Bool) → (World → Prop) → Act → World → Prop
  | [], _, a, w => Q .normal a w
  | (i, true) :: r, C, a, w => ∃ o v, ops[i]? = some o ∧ StIn P ops C o v a ∧ Seg P ops Q r C (a.put o.dst v) w
  | (i, false) :: r, C, a, w => wpOp P ops Q i (fun a' w' => ∃ C' : World → Prop, (∀ x, C' x → C x) ∧ C' w' ∧ Seg P ops Q r C' a' w') a w

theorem AnyC.of_seg (hs : Region.noSelect ops = true) (hQ : ∀ c a d v w, Q (.panic c) (Act.put a d v) w → Q (.panic c) a w) :
    ∀ (l : List (Nat × Bool)) (C : World → Prop) (listed : Array Bool) (a : Act) (w : World), ordB md ops l listed = true → C w → Seg P ops Q l C a w → AnyC P md ops Q l.length C listed a w
  | [], _, _, _, _, hB, _, h => ⟨by simpa [ordB] using hB, h⟩
  | (i, true) :: r, C, listed, a, w, hB, hC, ⟨o, v, ho, hy, h⟩ => by
    simp only [ordB, Bool.and_eq_true] at hB
    exact AnyC.first ho (Region.noSelect_spec hs) hQ r.length C listed a w (Region.free_spec ho hB.1.2) (by simpa using hB.1.1) hy hC (AnyC.of_seg hs hQ r C _ _ w hB.2 hC h)
  | (i, false) :: r, C, listed, a, w, hB, hC, h => by
    simp only [ordB, Bool.and_eq_true, decide_eq_true_eq] at hB
    refine ⟨fun h0 => absurd (hB.1 ▸ h0) (by simp), fun j hj => ?_⟩
    rw [hB.1] at hj
    obtain rfl : j = i := by simpa using hj
    exact wpOp_mono (fun a' w' ⟨C', h1, h2, h3⟩ => ⟨C', h1, h2, AnyC.of_seg hs hQ r C' _ a' w' hB.2 h2 h3⟩) h

/-- the region, by one order -/
theorem wp_region_seg {id : Nat} {a : Act} {w : World} (C : World → Prop) (l : List (Nat × Bool)) (hm : P.follows .mixedOrders = true)
    (hB : (Region.noSelect ops && decide (l.length = ops.size) && ordB .any ops l (Array.replicate ops.size false)) = true)
    (hQ0 : ∀ c (a : Act) (d : Tmp) v w, Q (.panic c) (Act.put a (some d) v) w → Q (.panic c) a w) (hC : C w.drew) (h : Seg P ops Q l C a w.drew) : (Code.region id ops true).wp P Q a w := by
  have hQ : ∀ c a d v w, Q (.panic c) (Act.put a d v) w → Q (.panic c) a w := fun c a d v w h => by
    cases d with
    | none => exact h
    | some d => exact hQ0 c a d v w h
  simp only [Bool.and_eq_true, decide_eq_true_eq] at hB
  refine wp_region_any hm ?_
  have := AnyC.of_seg hB.1.1 hQ l C _ a w.drew hB.2 hC h
  rw [hB.1.2] at this
  exact this.any

/-! ### The steps -/
theorem seg_pure {i : Nat} {r : List (Nat × Bool)} {C : World → Prop} {a : Act} {w : World} {o : Oper} {v : Value} (hi : ops[i]? = some o) (hw : Region.wanted o (yielded ops a.tmps) = true)
    (hv : ∀ x, C x → (execOp a.eval o).run P x = .ok (.value v) x) (h : Seg P ops Q r C (a.put o.dst v) w) : Seg P ops Q ((i, true) :: r) C a w :=
  ⟨o, v, hi, .inl ⟨hw, fun x hx => by unfold Oper.quietAt; rw [hv x hx]; exact ⟨rfl, rfl⟩⟩, h⟩
theorem seg_skip {i : Nat} {r : List (Nat × Bool)} {C : World → Prop} {a : Act} {w : World} {o : Oper} (hi : ops[i]? = some o) (hw : Region.wanted o (yielded ops a.tmps) = false)
    (h : Seg P ops Q r C (a.put o.dst undef) w) : Seg P ops Q ((i, true) :: r) C a w :=
  ⟨o, _, hi, .inr ⟨hw, rfl⟩, h⟩
theorem seg_call {i : Nat} {r : List (Nat × Bool)} {C : World → Prop} {a : Act} {w : World} {o : Oper} {v : Value} {f : FuncId} {args : Array Value} (hi : ops[i]? = some o) (hw : Region.wanted o (yielded ops a.tmps) = true)
    (hv : ∀ x, C x → (execOp a.eval o).run P x = .ok (.enter f args) x) (hc : ∀ x, C x → Calls P f args x fun e w' => e = .returned v ∧ x = w') (h : Seg P ops Q r C (a.put o.dst v) w) : Seg P ops Q ((i, true) :: r) C a w :=
  ⟨o, v, hi, .inl ⟨hw, fun x hx => by unfold Oper.quietAt; rw [hv x hx]; exact ⟨rfl, (hc x hx).mono fun _ _ ⟨h1, h2⟩ => ⟨h1, h2.symm⟩⟩⟩, h⟩

theorem seg_step {i : Nat} {r : List (Nat × Bool)} {C : World → Prop} {a : Act} {w : World} {o : Oper} (hi : ops[i]? = some o)
    (h : ∀ K : Act → Prop, (∀ a', Seg P ops Q r C a' w → K a') → if Region.wanted o (yielded ops a.tmps) then (∃ v, (∀ x, C x → o.quietAt P a (fun y => y = x) x v) ∧ K (a.put o.dst v)) else K (a.put o.dst undef)) :
    Seg P ops Q ((i, true) :: r) C a w := by
  have h' := h _ (fun _ h => h)
  by_cases hw : Region.wanted o (yielded ops a.tmps) = true
  · rw [if_pos hw] at h'
    obtain ⟨v, h1, h2⟩ := h'
    exact ⟨o, v, hi, .inl ⟨hw, h1⟩, h2⟩
  · rw [if_neg hw] at h'
    exact ⟨o, _, hi, .inr ⟨by simpa using hw, rfl⟩, h'⟩

def Listed (ops : Array Oper) : List (Nat × Bool) → List Oper → Prop
  | [], [] => True
  | x :: r, o :: l => ops[x.1]? = some o ∧ Listed ops r l
  | _, _ => False
/-- what is left stands alone, one behind the other, and nothing is held of the worlds: the plain walk -/
theorem seg_tail {ord : List (Nat × Bool)} {l : List Oper} {a : Act} {w : World} (hf : ord.all (fun x => !x.2) = true) (hl : Listed ops ord l) (h : wpList P ops Q l a w) : Seg P ops Q ord (fun _ => True) a w := by
  induction ord generalizing l a w with
  | nil =>
    cases l with
    | nil => exact h
    | cons _ _ => exact hl.elim
  | cons x ord ih =>
    obtain ⟨i, b⟩ := x
    cases l with
    | nil => exact hl.elim
    | cons o l =>
      obtain ⟨hl1, hl2⟩ := hl
      simp only [List.all_cons, Bool.and_eq_true, Bool.not_eq_true'] at hf
      obtain ⟨rfl, hf⟩ := hf
      have hw : wpOp P ops Q i (wpList P ops Q l) a w := by unfold wpOp; rw [hl1]; exact h
      exact wpOp_mono (fun a' w' h' => ⟨_, fun _ h => h, trivial, ih hf hl2 h'⟩) hw
theorem listed_drop (l : List Oper) : ∀ (k n : Nat), n + k = l.length → Listed l.toArray ((List.range' n k).map fun i => (i, false)) (l.drop n)
  | 0, n, h => by
    rw [List.drop_eq_nil_of_le (by omega)]
    trivial
  | k + 1, n, h => by
    rw [List.range'_succ, List.drop_eq_getElem_cons (by omega)]
    exact ⟨by simp <;> omega, listed_drop l k (n + 1) (by omega)⟩
theorem seg_drop {l : List Oper} {ord : List (Nat × Bool)} {a : Act} {w : World} (n : Nat) (hord : (decide (ord = (List.range' n (l.length - n)).map fun i => (i, false)) && decide (n ≤ l.length)) = true) (h : wpList P l.toArray Q (l.drop n) a w) :
    Seg P l.toArray Q ord (fun _ => True) a w := by
  simp only [Bool.and_eq_true, decide_eq_true_eq] at hord
  obtain ⟨rfl, hn⟩ := hord
  refine seg_tail (l := l.drop n) ?_ (listed_drop l _ n (by omega)) h
  simp [List.all_map]
theorem listed_pick (l : List Oper) : ∀ (ord : List (Nat × Bool)), (∀ x ∈ ord, x.1 < l.length) → Listed l.toArray ord (ord.map fun x => l.getD x.1 default)
  | [], _ => trivial
  | x :: r, h => by
    have hx := h x (by simp)
    refine ⟨?_, listed_pick l r fun y hy => h y (by simp [hy])⟩
    simp [List.getD, hx]
/-- what is left, in the order as it stands -/
theorem seg_pick {l : List Oper} {ord : List (Nat × Bool)} {a : Act} {w : World} (hord : ord.all (fun x => !x.2 && decide (x.1 < l.length)) = true) (h : wpList P l.toArray Q (ord.map fun x => l.getD x.1 default) a w) :
    Seg P l.toArray Q ord (fun _ => True) a w := by
  have h1 : ∀ x ∈ ord, x.2 = false ∧ x.1 < l.length := fun x hx => by
    have := List.all_eq_true.1 hord x hx
    simpa using this
  exact seg_tail (List.all_eq_true.2 fun x hx => by simp [(h1 x hx).1]) (listed_pick l ord fun x hx => (h1 x hx).2) h
end
end Go.Proofs.YtlploojfcmcckaaDoor
