/- Trees of owned cells, states over them, and rules to walk by. No conditions. -/
import Derived.Test.YtbchjcapphclgaaVmD
set_option linter.all false
namespace Go.Proofs.Ytbchjcapphclgaa.VM
open Go Go.RowKit
/-! ### a cursor beside a row that is only read -/
section
variable {P : Program} {N : Nat} {L : List E} {dst : Option Tmp} {ty : TypeId} {pos : String} {af : Array Edge} {g : Option (Nat × Bool)} {d : Nat}
theorem StpK.callD2 {α : Type} {C : α → Prop} {X0 : α → X} {L0 : α → List (Nat × M × T)} {Tm : α → Nat → Nat → T} {f : FuncId} {cal : Operand} {args : Array Operand} {tys : Array TypeId} {bx cd n : Nat} {fb : Nat → Nat → T} {tc : T} {rid : Nat} {mr : M} {tr0 : T} {xs : List X}
    (hds : dst = some d) (hN : d < N) (hE : Ent P f) (hcal : evX L cal = .f f [])
    (hargs : args.toList.map (evX L) = .p bx [] n 0 0 :: .h rid [] :: xs) (hxs : onlyV xs = true) (hb : rootL L bx = some (.box, .s n 1 fb)) (hal : aliasL L bx 0 = .h cd []) (hc : rootL L cd = some (.ro, tc)) (hrr : rootL L rid = some (mr, tr0)) (hnr : Nat.beq rid bx = false) (hals : alsB bx cd L = true) (hleaf : ∀ c n' l f', c < n → fb 0 c ≠ .s n' l f')
    (hcon : Con P f (.p base [] n 0 0 :: .h (base + 2) [] :: xs) [.rt base .box (.s n 1 fb), .al base 0 (.h (base + 1) []), .rt (base + 1) .ro tc, .rt (base + 2) .ro tr0] (RetD n C X0 L0 Tm))
    (hn : ∀ m, ((L0 m).map (·.1)).Nodup) (hbb : ∀ m, ((L0 m).all fun r => nu d r.1 < base) = true) (hx0 : ∀ m, (X0 m).inB ((L0 m).map (·.1)) = true) :
    StpK P N ⟨dst, .call { callee := .value cal, args := args, argTypes := tys }, ty, pos, af, g⟩ L (fun L1 => ∃ m, C m ∧ L1 = putL (newsL (repR L bx (.s n 1 (Tm m))) (rens d (L0 m))) d ((X0 m).ren (nu d))) := fun cx a w Q hs => by
  obtain ⟨H, G, hr, hG⟩ := hs.rp
  have hcv := ev_ok hr cal
  rw [hcal] at hcv
  obtain ⟨us, hu1, hu2⟩ := hcv
  obtain rfl : us = [] := by cases us with
    | nil => rfl
    | cons _ _ => exact hu2.elim
  unfold Oper.wp
  rw [run_callX hE hu1, List.append_nil]
  have hargsV := evXs_ok hr args.toList
  rw [hargs] at hargsV
  generalize hvs : args.toList.map a.eval = vs at hargsV
  cases vs with
  | nil => exact hargsV.elim
  | cons v0 vs =>
  cases vs with
  | nil => exact hargsV.2.elim
  | cons v1 vs =>
  obtain ⟨hv0, hv1, hvs1⟩ := hargsV
  have hrr' := rootL_mem hrr
  have hne3 : rid ≠ bx := fun e => by subst e; rw [Nat.beq_refl] at hnr; cases hnr
  have hb' := rootL_mem hb
  have hc' := rootL_mem hc
  have hne : bx ≠ cd := fun e => by
    subst e
    obtain ⟨e, _⟩ := hr.one _ _ _ _ _ hb' hc'
    cases e
  have hal' : E.al bx 0 (.h cd []) ∈ L := by
    rcases aliasL_mem (L := L) (id := bx) (c := 0) with e | e
    · rw [hal] at e; cases e
    · rw [hal] at e; exact e
  let H' : Nat → Value := fun i => if i = base then H bx else if i = base + 1 then H cd else if i = base + 2 then H rid else undef
  let G' : Nat → FP := fun i => if i = base then G bx else if i = base + 1 then G cd else if i = base + 2 then G rid else fun _ _ => False
  have eH0 : H' base = H bx := if_pos rfl
  have eH1 : H' (base + 1) = H cd := by show (if base + 1 = base then _ else _) = _; rw [if_neg (by omega), if_pos rfl]
  have eG0 : G' base = G bx := if_pos rfl
  have eG1 : G' (base + 1) = G cd := by show (if base + 1 = base then _ else _) = _; rw [if_neg (by omega), if_pos rfl]
  have eH2 : H' (base + 2) = H rid := by show (if base + 2 = base then _ else _) = _; rw [if_neg (by omega), if_neg (by omega), if_pos rfl]
  have eG2 : G' (base + 2) = G rid := by show (if base + 2 = base then _ else _) = _; rw [if_neg (by omega), if_neg (by omega), if_pos rfl]
  have hrts : ∀ {id m t}, rts [.rt base .box (.s n 1 fb), .al base 0 (.h (base + 1) []), .rt (base + 1) .ro tc, .rt (base + 2) .ro tr0] id m t → (id = base ∧ m = .box ∧ t = .s n 1 fb) ∨ (m = .ro ∧ ((id = base + 1 ∧ t = tc) ∨ (id = base + 2 ∧ t = tr0))) := fun {id m t} h => by
    simp only [rts, List.mem_cons, List.not_mem_nil, or_false, E.rt.injEq, reduceCtorEq, false_or] at h
    rcases h with h | ⟨h1, h2, h3⟩ | ⟨h1, h2, h3⟩
    · exact .inl h
    · exact .inr ⟨h2, .inl ⟨h1, h3⟩⟩
    · exact .inr ⟨h2, .inr ⟨h1, h3⟩⟩
  have hr1 : rts [.rt base .box (.s n 1 fb), .al base 0 (.h (base + 1) []), .rt (base + 1) .ro tc, .rt (base + 2) .ro tr0] (base + 1) .ro tc := by simp [rts]
  have hrp : Rp [.rt base .box (.s n 1 fb), .al base 0 (.h (base + 1) []), .rt (base + 1) .ro tc, .rt (base + 2) .ro tr0] (fun _ => undef) H' G' w := by
    refine ⟨fun id m t m' t' k1 k2 => ?_, fun id m t k1 k2 => ?_, fun id t k => ?_, fun id t k => ?_, fun id t k => ?_, fun id m t id' m' t' k1 k2 hne' hm x y hx hy => ?_, fun t x k => ?_, fun id c x k => ?_⟩
    · rcases hrts k1 with ⟨a1, a2, a3⟩ | ⟨a2, ⟨a1, a3⟩ | ⟨a1, a3⟩⟩ <;> rcases hrts k2 with ⟨b1, b2, b3⟩ | ⟨b2, ⟨b1, b3⟩ | ⟨b1, b3⟩⟩
      all_goals first | exact ⟨a2.trans b2.symm, a3.trans b3.symm⟩ | (exfalso; omega)
    · rcases hrts k1 with ⟨rfl, rfl, rfl⟩ | ⟨h, _⟩
      · rw [eH0, eG0]; exact hr.own _ _ _ hb' (by simp)
      · exact absurd h k2
    · rcases hrts k with ⟨_, h, _⟩ | ⟨_, ⟨rfl, rfl⟩ | ⟨rfl, rfl⟩⟩
      · cases h
      · rw [eH1, eG1]; exact hr.ro _ _ hc'
      · rw [eH2, eG2]; exact hr.rd hrr'
    · rcases hrts k with ⟨_, h, _⟩ | ⟨_, ⟨rfl, rfl⟩ | ⟨rfl, rfl⟩⟩
      · cases h
      · rw [eG1]; exact hr.rold _ _ hc'
      · rw [eG2]
        by_cases hm : mr = .ro
        · subst hm; exact hr.rold _ _ hrr'
        · exact (hr.own _ _ _ hrr' hm).old
    · rcases hrts k with ⟨_, _, rfl⟩ | ⟨h, _⟩
      · exact ⟨_, _, rfl⟩
      · cases h
    · rcases hrts k1 with ⟨rfl, rfl, rfl⟩ | ⟨h, _⟩
      · rw [eG0] at hx
        rcases hrts k2 with ⟨e1, _, _⟩ | ⟨_, ⟨rfl, rfl⟩ | ⟨rfl, rfl⟩⟩
        · exact hne' e1.symm
        · rw [eG1] at hy
          exact hr.dis _ _ _ _ _ _ hb' hc' hne (by simp) x y hx hy
        · rw [eG2] at hy
          exact hr.dis _ _ _ _ _ _ hb' hrr' (Ne.symm hne3) (by simp) x y hx hy
      · exact hm h
    · simp at k
    · simp only [List.mem_cons, List.not_mem_nil, or_false, reduceCtorEq, false_or, E.al.injEq] at k
      obtain ⟨rfl, rfl, rfl⟩ := k
      obtain ⟨n1, f1, q1, q2, A, v, q3, q4, q5⟩ := hr.al _ _ _ hal'
      obtain ⟨_, e⟩ := hr.one _ _ _ _ _ hb' q1
      cases e
      refine ⟨n, fb, by simp [rts], q2, A, v, by rw [eH0]; exact q3, q4, ?_⟩
      obtain ⟨m, t, p1, p2, p3, p4⟩ := q5
      obtain ⟨rfl, rfl⟩ := hr.one _ _ _ _ _ hc' p1
      exact ⟨.ro, tc, hr1, p2, p3, by rw [eH1]; exact p4⟩
  have hxv : VRs (rts [.rt base .box (.s n 1 fb), .al base 0 (.h (base + 1) []), .rt (base + 1) .ro tc, .rt (base + 2) .ro tr0]) H' w (.p base [] n 0 0 :: .h (base + 2) [] :: xs) (v0 :: v1 :: vs) := by
    refine ⟨?_, ?_, onlyV_ok hxs hvs1⟩
    · obtain ⟨m, t, p1, p2, p3, hv, A, p4, p5⟩ := hv0
      obtain ⟨rfl, rfl⟩ := hr.one _ _ _ _ _ hb' p1
      exact ⟨.box, _, by simp [rts], p2, p3, hv, A, by rw [eH0]; exact p4, p5⟩
    · obtain ⟨m, t, p1, p2, p3, p4⟩ := hv1
      obtain ⟨rfl, rfl⟩ := hr.one _ _ _ _ _ hrr' p1
      exact ⟨.ro, _, by simp [rts], p2, p3, by rw [eH2]; exact p4⟩
  simp only [Oper.upon]
  refine (hcon w _ H' G' (cx.now hs.chg) (fun id m t h1 h2 a o h3 => by
    rcases hrts h1 with ⟨rfl, _, _⟩ | ⟨h, _⟩
    · rw [eG0] at h3; exact cx.avN (hG.1 _ _ _ hb' (by simp) a o h3)
    · exact absurd h h2) hrp hxv).mono ?_
  rintro e w' ⟨v, x, L2, H2, G2, val2, rfl, ⟨m, hCm, ⟨ρ', rfl, hfix, r1, r2, _⟩, hbx2, hal2⟩, k1, k2, k3, k4, k5⟩
  refine ⟨⟨_, rfl⟩, _, ⟨m, hCm, rfl⟩, ?_⟩
  have hC : Chg (G bx) w w' := k3.mono fun b o _ hx => by
    obtain ⟨id, m', t, q1, q2, q3⟩ := hx
    rcases hrts q1 with ⟨rfl, _, _⟩ | ⟨h, _⟩
    · rw [eG0] at q3; exact q3
    · exact absurd h q2
  have hgrow : ∀ id m' t, rts L2 id m' t → m' ≠ .ro → ∀ b o, G2 id b o → G bx b o ∨ w.heap.size ≤ b := fun id m' t h1 h2 b o hg => by
    rcases k4 _ _ _ h1 h2 b o hg with ⟨id', m'', t', q1, q2, q3⟩ | h
    · rcases hrts q1 with ⟨rfl, _, _⟩ | ⟨h, _⟩
      · rw [eG0] at q3; exact .inl q3
      · exact absurd h q2
    · exact .inr h
  have hH2 : H2 base = H bx := by rw [k5 _ _ _ (Nat.le_refl _) hbx2, eH0]
  have hold : ∀ id m t, rts L id m t → ∀ x y, G id x y → x < w.heap.size := fun id m t h x y hg => by
    by_cases hm : m = .ro
    · subst hm; exact hr.rold id t h x y hg
    · exact (hr.own id m t h hm).old x y hg
  have hoff : ∀ id m t, rts L id m t → id ≠ bx → ∀ b o, G id b o → ¬ G bx b o := fun id m t h hid b o h1 h2 => hr.dis _ _ _ _ _ _ hb' h (Ne.symm hid) (by simp) b o h2 h1
  have hhd : ∀ id m t, rts L id m t → id ≠ bx → ∀ q, Okp t q → hd w' (H id) q = hd w (H id) q := fun id m t h hid q hq => hd_frame hC (hr.rd h) hq (hoff id m t h hid)
  let G3 : Nat → FP := fun i => if i = bx then G2 base else G i
  have eG3 : G3 bx = G2 base := if_pos rfl
  have eG3' : ∀ {i}, i ≠ bx → G3 i = G i := fun h => if_neg h
  have hrt : ∀ {id m' t}, rts (repR L bx (.s n 1 (Tm m))) id m' t → (id = bx ∧ m' = .box ∧ t = .s n 1 (Tm m)) ∨ (id ≠ bx ∧ rts L id m' t) := fun {id m' t} h => by
    rcases rts_repR.1 h with ⟨rfl, rfl, t0, h0⟩ | h
    · obtain ⟨rfl, _⟩ := hr.one _ _ _ _ _ hb' h0
      exact .inl ⟨rfl, rfl, rfl⟩
    · exact .inr h
  have hrb : rts (repR L bx (.s n 1 (Tm m))) bx .box (.s n 1 (Tm m)) := rts_repR.2 (.inl ⟨rfl, rfl, _, hb'⟩)
  have hro : ∀ {id m' t}, id ≠ bx → rts L id m' t → rts (repR L bx (.s n 1 (Tm m))) id m' t := fun h1 h => rts_repR.2 (.inr ⟨h1, h⟩)
  have hq0 : ∀ {q n' l f'}, Okp (.s n 1 fb) q → (T.s n 1 fb).at q = .s n' l f' → q = [] := fun {q n' l f'} h1 h2 => by
    cases q with
    | nil => rfl
    | cons e q =>
      obtain ⟨n1, k, c⟩ := e
      obtain ⟨rfl, e1, e2, h3⟩ := h1
      have : k = 0 := by omega
      subst this
      simp only [T.at] at h2
      cases hf : fb 0 c with
      | s a1 a2 a3 => exact absurd hf (hleaf c _ _ _ e2)
      | v _ => rw [hf] at h2; cases q <;> simp [T.at] at h2
      | j => rw [hf] at h2; cases q <;> simp [T.at] at h2
  have hvr : ∀ {x v}, VR (rts L) H w x v → VR (rts (repR L bx (.s n 1 (Tm m)))) H w' x v := fun {x v} h =>
    VR.leaves (C := fun _ => True) (fun x v hl _ h => by
      cases x with
      | p id q n' k c =>
        obtain ⟨m', t, h1, h2, ⟨l, f', h3, h4, h5⟩, h6⟩ := h
        by_cases e : id = bx
        · subst e
          obtain ⟨rfl, rfl⟩ := hr.one _ _ _ _ _ hb' h1
          obtain rfl := hq0 h2 h3
          simp only [T.at] at h3
          cases h3
          exact ⟨_, _, hrb, trivial, ⟨1, Tm m, rfl, h4, h5⟩, h6⟩
        · exact ⟨m', t, hro e h1, h2, ⟨l, f', h3, h4, h5⟩, by rw [hhd id m' t h1 e q h2]; exact h6⟩
      | h id q =>
        obtain ⟨m', t, h1, h2, ⟨n', l, f', h3⟩, h6⟩ := h
        by_cases e : id = bx
        · subst e
          obtain ⟨rfl, rfl⟩ := hr.one _ _ _ _ _ hb' h1
          obtain rfl := hq0 h2 h3
          exact ⟨_, _, hrb, trivial, ⟨n, 1, Tm m, rfl⟩, h6⟩
        · exact ⟨m', t, hro e h1, h2, ⟨n', l, f', h3⟩, by rw [hhd id m' t h1 e q h2]; exact h6⟩
      | a id q n' lo len =>
        obtain ⟨m', t, h1, h2, ⟨l, f', h3, h4⟩, h6⟩ := h
        by_cases e : id = bx
        · subst e
          obtain ⟨rfl, rfl⟩ := hr.one _ _ _ _ _ hb' h1
          obtain rfl := hq0 h2 h3
          simp only [T.at] at h3
          cases h3
          exact ⟨_, _, hrb, trivial, ⟨1, Tm m, rfl, h4⟩, h6⟩
        · exact ⟨m', t, hro e h1, h2, ⟨l, f', h3, h4⟩, by rw [hhd id m' t h1 e q h2]; exact h6⟩
      | _ => exact hl.elim) (X.all_true (fun _ => trivial) x) h
  have hr2 : Rp (repR L bx (.s n 1 (Tm m))) (Act.val a) H G3 w' := by
    refine ⟨fun id m1 t1 m2 t2 h1 h2 => ?_, fun id m1 t1 h1 h2 => ?_, fun id t h => ?_, fun id t h => ?_, fun id t h => ?_, fun id m1 t1 id' m2 t2 h1 h2 hne' hm x y hx hy => ?_, fun t x h => ?_, fun id c x h => ?_⟩
    · rcases hrt h1 with ⟨rfl, rfl, rfl⟩ | ⟨a1, a2⟩ <;> rcases hrt h2 with ⟨b1, b2, b3⟩ | ⟨b1, b2⟩
      · exact ⟨b2.symm, b3.symm⟩
      · exact absurd rfl b1
      · exact absurd b1 a1
      · exact hr.one _ _ _ _ _ a2 b2
    · rcases hrt h1 with ⟨rfl, rfl, rfl⟩ | ⟨a1, a2⟩
      · rw [eG3, ← hH2]; exact k1.own _ _ _ hbx2 (by simp)
      · rw [eG3' a1]; exact (hr.own _ _ _ a2 h2).frame hC (hoff _ _ _ a2 a1)
    · rcases hrt h with ⟨_, e, _⟩ | ⟨a1, a2⟩
      · cases e
      · rw [eG3' a1]; exact (hr.ro _ _ a2).frame hC (hoff _ _ _ a2 a1)
    · rcases hrt h with ⟨_, e, _⟩ | ⟨a1, a2⟩
      · cases e
      · rw [eG3' a1]; exact fun x y hg => Nat.lt_of_lt_of_le (hr.rold _ _ a2 x y hg) hC.size
    · rcases hrt h with ⟨_, _, rfl⟩ | ⟨a1, a2⟩
      · exact ⟨_, _, rfl⟩
      · exact hr.box _ _ a2
    · rcases hrt h1 with ⟨rfl, rfl, rfl⟩ | ⟨a1, a2⟩ <;> rcases hrt h2 with ⟨b1, b2, b3⟩ | ⟨b1, b2⟩
      · exact hne' b1.symm
      · rw [eG3] at hx; rw [eG3' b1] at hy
        rcases hgrow _ _ _ hbx2 (by simp) x y hx with h | h
        · exact hoff _ _ _ b2 b1 x y hy h
        · have := hold _ _ _ b2 x y hy; omega
      · subst b1
        rw [eG3] at hy; rw [eG3' a1] at hx
        rcases hgrow _ _ _ hbx2 (by simp) x y hy with h | h
        · exact hoff _ _ _ a2 a1 x y hx h
        · have := hold _ _ _ a2 x y hx; omega
      · rw [eG3' a1] at hx; rw [eG3' b1] at hy
        exact hr.dis _ _ _ _ _ _ a2 b2 hne' hm x y hx hy
    · exact hvr (hr.sl t x (repR_sl h))
    · have h' := repR_al h
      clear h
      by_cases e : id = bx
      · subst e
        obtain ⟨rfl, rfl⟩ := alsB_mem hals h'
        obtain ⟨n1, f1, q1, q2, A, v1, q3, q4, q5⟩ := k1.al _ _ _ hal2
        obtain ⟨_, e⟩ := k1.one _ _ _ _ _ hbx2 q1
        cases e
        refine ⟨n, Tm m, hrb, q2, A, v1, by rw [← hH2]; exact q3, q4, ?_⟩
        obtain ⟨m3, t3, p1, p2, ⟨n3, l3, f3, p3⟩, p4⟩ := q5
        obtain ⟨n4, f4, _, _, _, _, _, _, ⟨m5, t5, s1, s2, s3, s4⟩⟩ := hr.al _ _ _ hal'
        obtain ⟨rfl, rfl⟩ := hr.one _ _ _ _ _ hc' s1
        refine ⟨.ro, tc, hro (Ne.symm hne) hc', s2, s3, ?_⟩
        have e5 : H2 (base + 1) = H cd := by rw [k5 _ _ _ (Nat.le_succ _) p1, eH1]
        rw [← e5]; exact p4
      · obtain ⟨n1, f1, q1, q2, A, v1, q3, q4, q5⟩ := hr.al _ _ _ h'
        obtain ⟨b, o, rfl, hg⟩ := box_cell hr q1 q2 q3
        exact ⟨n1, f1, hro e q1, q2, _, v1, q3, hC.cell q4 (hoff _ _ _ q1 e _ _ hg), hvr q5⟩
  have hinv : ∀ i, (nu d i - d) / 1000 = i := fun i => by simp only [nu]; omega
  have hmem : ∀ r ∈ rens d (L0 m), ∃ r0 ∈ L0 m, r = (nu d r0.1, r0.2) := fun r hr => by
    obtain ⟨r0, h, e⟩ := List.mem_map.1 hr; exact ⟨r0, h, e.symm⟩
  have hnd : ((rens d (L0 m)).map (·.1)).Nodup := by
    have e : (rens d (L0 m)).map (·.1) = ((L0 m).map (·.1)).map (nu d) := by simp [rens]
    rw [e]
    exact List.pairwise_map.2 ((hn m).imp fun {x y} h e => h (by simp only [nu] at e; omega))
  have hnews := hr2.news (fun i => G2 (ρ' ((i - d) / 1000))) (fun i => H2 (ρ' ((i - d) / 1000))) (rens d (L0 m)) hnd (fun r hr' b o hF id m1 t1 hid hGG => by
      obtain ⟨r0, h0, rfl⟩ := hmem r hr'
      simp only [hinv] at hF
      obtain ⟨g1, g2, g3⟩ := r2 r0 h0
      rcases hrt hid with ⟨rfl, rfl, rfl⟩ | ⟨a1, a2⟩
      · rw [eG3] at hGG
        exact k1.dis _ _ _ _ _ _ g2 hbx2 (by omega) g1 b o hF hGG
      · rw [eG3' a1] at hGG
        rcases hgrow _ _ _ g2 g1 b o hF with h | h
        · exact hoff _ _ _ a2 a1 b o hGG h
        · have := hold _ _ _ a2 b o hGG; omega) (fun r hr' => by
      obtain ⟨r0, h0, rfl⟩ := hmem r hr'
      obtain ⟨g1, g2, g3⟩ := r2 r0 h0
      simp only [hinv]
      exact ⟨g1, k1.own _ _ _ g2 g1, fun e => by rw [e] at g2; exact k1.box _ _ g2⟩) (fun r hr' r' hr'' hne' b o hF hF' => by
      obtain ⟨r0, h0, rfl⟩ := hmem r hr'
      obtain ⟨r0', h0', rfl⟩ := hmem r' hr''
      simp only [hinv] at hF hF'
      have hne'' : ρ' r0.1 ≠ ρ' r0'.1 := fun e => hne' (by rw [map_inj r1 h0 h0' e])
      exact k1.dis _ _ _ _ _ _ (r2 r0 h0).2.1 (r2 r0' h0').2.1 hne'' (r2 r0 h0).1 b o hF hF')
  have hv : VR (rts (newsL (repR L bx (.s n 1 (Tm m))) (rens d (L0 m)))) (fun i => if i ∈ (rens d (L0 m)).map (·.1) then H2 (ρ' ((i - d) / 1000)) else H i) w' ((X0 m).ren (nu d)) v := by
    refine VR.ren (ids := (L0 m).map (·.1)) (fun id hid m1 t1 hh => ?_) (hx0 m) k2
    obtain ⟨r0, h0, rfl⟩ := List.mem_map.1 hid
    obtain ⟨g1, g2, g3⟩ := r2 r0 h0
    obtain ⟨rfl, rfl⟩ := k1.one _ _ _ _ _ hh g2
    have hin : nu d r0.1 ∈ (rens d (L0 m)).map (·.1) := List.mem_map.2 ⟨_, List.mem_map.2 ⟨r0, h0, rfl⟩, rfl⟩
    refine ⟨(rts_newsL hnd).2 (.inl (List.mem_map.2 ⟨r0, h0, rfl⟩)), ?_⟩
    simp only [hin, if_true, hinv]
  have hgood : Good cx (newsL (repR L bx (.s n 1 (Tm m))) (rens d (L0 m))) (fun i => if i ∈ (rens d (L0 m)).map (·.1) then H2 (ρ' ((i - d) / 1000)) else H i) (fun i => if i ∈ (rens d (L0 m)).map (·.1) then G2 (ρ' ((i - d) / 1000)) else G3 i) := by
    have hold2 : ∀ b o, G bx b o ∨ w.heap.size ≤ b → cx.S0 b o ∨ cx.w0.heap.size ≤ b := fun b o h => by
      rcases h with h | h
      · exact hG.1 _ _ _ hb' (by simp) b o h
      · exact .inr (Nat.le_trans hs.chg.size h)
    refine ⟨fun id m1 t1 hid hne' x y hF => ?_, fun id m1 t1 hbs hid => ?_⟩
    · rcases (rts_newsL hnd).1 hid with hh | ⟨hh, hni⟩
      · obtain ⟨⟨i0, m0, t0⟩, h0, e⟩ := hmem _ hh
        cases e
        have hin : nu d i0 ∈ (rens d (L0 m)).map (·.1) := List.mem_map.2 ⟨_, hh, rfl⟩
        simp only [hin, if_true, hinv] at hF
        exact hold2 x y (hgrow _ _ _ (r2 _ h0).2.1 (r2 _ h0).1 x y hF)
      · simp only [hni, if_false] at hF
        rcases hrt hh with ⟨rfl, rfl, rfl⟩ | ⟨a1, a2⟩
        · rw [eG3] at hF
          exact hold2 x y (hgrow _ _ _ hbx2 (by simp) x y hF)
        · rw [eG3' a1] at hF
          exact hG.1 id m1 t1 a2 hne' x y hF
    · rcases (rts_newsL hnd).1 hid with hh | ⟨hh, hni⟩
      · obtain ⟨⟨i0, m0, t0⟩, h0, e⟩ := hmem _ hh
        cases e
        have := List.all_eq_true.1 (hbb m) _ h0
        replace this : nu d i0 < base := by simpa using this
        have h6 : base ≤ nu d i0 := hbs
        omega
      · simp only [hni, if_false]
        rcases hrt hh with ⟨rfl, rfl, rfl⟩ | ⟨a1, a2⟩
        · exact hG.2 _ _ _ hbs hb'
        · exact hG.2 _ _ _ hbs a2
  refine ⟨by rw [hds]; simpa [Go.Act.put] using hs.siz, by rw [hds]; simpa [Go.Act.put] using hs.dfr, hs.chg.step hC (fun b o hb1 h => ?_), _, _, ?_, by rw [rts_put]; exact hgood⟩
  · rcases hG.1 _ _ _ hb' (by simp) b o h with h | h
    · exact h
    · omega
  · rw [hds]
    exact (hnews.put hv).val fun t => (Act.val_put (Nat.lt_of_lt_of_le hN hs.siz) t).symm
end
end Go.Proofs.Ytbchjcapphclgaa.VM
namespace Go.Proofs.Ytbchjcapphclgaa.VM
open Go Go.RowKit
/-- a view of a row that is only read, as a root of its own -/
theorem Weak.viewG {N : Nat} {L : List E} (d new : Nat) {id n lo len l : Nat} {f : Nat → Nat → T} {y : Value} (h : slotL L d = .g [.v y, .a id [] n lo len]) (hR : rootL L id = some (.ro, .s n l f)) (hle : Nat.ble (lo + len) l = true ∨ lo + len ≤ l) (hn : rootL L new = none) (hb : new < base) : Weak N L (putL (.rt new .ro (.s n len fun k c => f (lo + k) c) :: L) d (.g [.v y, .h new []])) := fun cx a w hs => by
 obtain ⟨H, G, hr, hG⟩ := hs.rp
 have hle : lo + len ≤ l := by rcases hle with h | h; exact Nat.le_of_ble_eq_true h; exact h
 have h0 := rootL_mem hR
 have hnb := rootL_none hn
 have h1 := ev_ok hr (.tmp d)
 simp only [evX, h] at h1
 obtain ⟨us, hus, h1⟩ := h1
 match us, hus, h1 with
 | [u0, u1], hus, ⟨hu0, hu1, _⟩ =>
 obtain ⟨m', t', g1, g2, _, hv, g4, ad, cap, g5, g6, g7, g8⟩ := hu1
 obtain ⟨rfl, rfl⟩ := hr.one _ _ _ _ _ g1 h0
 simp only [VM.hd, Option.some.injEq] at g4
 subst g4
 have hRd := (hr.ro _ _ h0).sub hle g5 g6 g7 g8
 let H' := updN H new u1
 let G' := updN G new (G id)
 have eH : H' new = u1 := by simp [H', updN]
 have eG : G' new = G id := by simp [G', updN]
 have eo : ∀ {i m t}, rts L i m t → i ≠ new := fun {i m t} h e => hnb _ _ (e ▸ h)
 have eH' : ∀ {i m t}, rts L i m t → H' i = H i := fun h => by simp [H', updN, eo h]
 have eG' : ∀ {i m t}, rts L i m t → G' i = G i := fun h => by simp [G', updN, eo h]
 have hrt : ∀ {i m t}, rts (.rt new .ro (.s n len fun k c => f (lo + k) c) :: L) i m t → (i = new ∧ m = .ro ∧ t = .s n len fun k c => f (lo + k) c) ∨ rts L i m t := fun {i m t} h => by
  rcases List.mem_cons.1 h with h | h
  ·cases h; exact .inl ⟨rfl, rfl, rfl⟩
  ·exact .inr h
 have hrn : rts (.rt new .ro (.s n len fun k c => f (lo + k) c) :: L) new .ro (.s n len fun k c => f (lo + k) c) := List.mem_cons_self ..
 have hvr : ∀ {x v}, VR (rts L) H w x v → VR (rts (.rt new .ro (.s n len fun k c => f (lo + k) c) :: L)) H' w x v := fun h => VR.same (fun i m t hh => ⟨List.mem_cons_of_mem _ hh, eH' hh⟩) h
 have hr2 : Rp (.rt new .ro (.s n len fun k c => f (lo + k) c) :: L) (Act.val a) H' G' w := by
  refine ⟨fun i m t m' t' k1 k2 => ?_, fun i m t k1 k2 => ?_, fun i t k => ?_, fun i t k => ?_, fun i t k => ?_, fun i m t i' m' t' k1 k2 hne hm x y hx hy => ?_, fun s x k => ?_, fun i c x k => ?_⟩
  ·rcases hrt k1 with ⟨rfl, rfl, rfl⟩ | a1 <;> rcases hrt k2 with ⟨b1, b2, b3⟩ | b1
   ·exact ⟨b2.symm, b3.symm⟩
   ·exact absurd rfl (eo b1)
   ·exact absurd b1 (eo a1)
   ·exact hr.one _ _ _ _ _ a1 b1
  ·rcases hrt k1 with ⟨rfl, rfl, rfl⟩ | a1
   ·exact absurd rfl k2
   ·rw [eH' a1, eG' a1]; exact hr.own _ _ _ a1 k2
  ·rcases hrt k with ⟨rfl, _, rfl⟩ | a1
   ·rw [eH, eG]; exact hRd
   ·rw [eH' a1, eG' a1]; exact hr.ro _ _ a1
  ·rcases hrt k with ⟨rfl, _, rfl⟩ | a1
   ·rw [eG]; exact hr.rold _ _ h0
   ·rw [eG' a1]; exact hr.rold _ _ a1
  ·rcases hrt k with ⟨_, e, _⟩ | a1
   ·cases e
   ·exact hr.box _ _ a1
  ·rcases hrt k1 with ⟨rfl, rfl, rfl⟩ | a1
   ·exact hm rfl
   ·rw [eG' a1] at hx
    rcases hrt k2 with ⟨rfl, rfl, rfl⟩ | b1
    ·rw [eG] at hy
     have hne2 : i ≠ id := fun e => by
      subst e
      exact hm (hr.one _ _ _ _ _ a1 h0).1
     exact hr.dis _ _ _ _ _ _ a1 h0 hne2 hm x y hx hy
    ·rw [eG' b1] at hy
     exact hr.dis _ _ _ _ _ _ a1 b1 hne hm x y hx hy
  ·rcases List.mem_cons.1 k with k | k
   ·cases k
   ·exact hvr (hr.sl s x k)
  ·rcases List.mem_cons.1 k with k | k
   ·cases k
   ·obtain ⟨n1, f1, q1, q2, A, v, q3, q4, q5⟩ := hr.al i c x k
    exact ⟨n1, f1, List.mem_cons_of_mem _ q1, q2, A, v, by rw [eH' q1]; exact q3, q4, hvr q5⟩
 refine ⟨hs.siz, hs.dfr, hs.chg, H', G', (hr2.put (d := d) (x := .g [.v y, .h new []]) (v := Act.val a d) ⟨[u0, u1], hus, hu0, ⟨.ro, _, hrn, trivial, ⟨_, _, _, rfl⟩, by rw [eH]; rfl⟩, trivial⟩).val fun t => ?_, by
  rw [rts_put]
  refine ⟨fun i m t k1 k2 x y hx => ?_, fun i m t hb1 k => ?_⟩
  ·rcases hrt k1 with ⟨rfl, rfl, rfl⟩ | a1
   ·exact absurd rfl k2
   ·rw [eG' a1] at hx; exact hG.1 _ _ _ a1 k2 x y hx
  ·rcases hrt k with ⟨rfl, _, _⟩ | a1
   ·omega
   ·rw [eH' a1]; exact hG.2 _ _ _ hb1 a1⟩
 split
 ·rename_i e; rw [e]
 ·rfl
end Go.Proofs.Ytbchjcapphclgaa.VM
