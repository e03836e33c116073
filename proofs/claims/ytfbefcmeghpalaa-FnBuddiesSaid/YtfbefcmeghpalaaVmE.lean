/- Trees of owned cells, states over them, and rules to walk by. No conditions. -/
import Derived.Lib.OthersKept
import Derived.Test.YtfbefcmeghpalaaVmD
set_option linter.all false
namespace Go.Proofs.Ytfbefcmeghpalaa.VM
open Go Go.RowKit
/-! ### a cursor beside a row that is only read -/
section
variable {P : Program} {N : Nat} {L : List E} {dst : Option Tmp} {ty : TypeId} {pos : String} {af : Array Edge} {g : Option (Nat × Bool)} {d : Nat}
theorem StpK.callD2 {α : Type} {C : α → Prop} {X0 : α → X} {L0 : α → List (Nat × M × T)} {Tm : α → Nat → Nat → T} {f : FuncId} {cal : Operand} {args : Array Operand} {tys : Array TypeId} {bx cd n : Nat} {fb : Nat → Nat → T} {tc : T} {rid : Nat} {mr : M} {tr0 : T} {xs : List X}
    (hds : dst = some d) (hN : d < N) (hE : Ent P f) (hcal : evX L cal = .f f [])
    (hargs : args.toList.map (evX L) = .p bx [] n 0 0 :: .h rid [] :: xs) (hxs : onlyV xs = true) (hb : rootL L bx = some (.box, .s n 1 fb)) (hal : aliasL L bx 0 = .h cd []) (hc : rootL L cd = some (.ro, tc)) (hrr : rootL L rid = some (mr, tr0)) (hnr : Nat.beq rid bx = false) (hals : alsB bx cd L = true) (hleaf : ∀ c n' l f', c < n → fb 0 c ≠ .s n' l f')
    (hcon : Con P f (.p base [] n 0 0 :: .h (base + 2) [] :: xs) [.rt base .box (.s n 1 fb), .al base 0 (.h (base + 1) []), .rt (base + 1) .ro tc, .rt (base + 2) .ro tr0] (RetD n C X0 L0 Tm))
    (hn : ∀ m, ((L0 m).map (·.1)).Nodup) (hbb : ∀ m, ((L0 m).all fun r => nu d r.1 < base) = true) (hx0 : ∀ m, (X0 m).inB ((L0 m).map (·.1)) = true) :
    StpK P N ⟨dst, .call { callee := .value cal, args := args, argTypes := tys }, ty, pos, af, g⟩ L (fun L1 => ∃ m, C m ∧ L1 = putL (newsL (repR L bx (.s n 1 (Tm m))) (rens d (L0 m))) d ((X0 m).ren (nu d))) := fun cx a w Q hs => by
  obtain ⟨H, G, hr, hG⟩ := hs.rp
  have hcv := ev_ok hr cal
  rw [hcal] at hcv
  obtain ⟨us, hu1, hu2⟩ := hcv
  obtain rfl : us = [] := by cases us with
    | nil => rfl
    | cons _ _ => exact hu2.elim
  unfold Oper.wp
  rw [run_callX hE hu1, List.append_nil]
  have hargsV := evXs_ok hr args.toList
  rw [hargs] at hargsV
  generalize hvs : args.toList.map a.eval = vs at hargsV
  cases vs with
  | nil => exact hargsV.elim
  | cons v0 vs =>
  cases vs with
  | nil => exact hargsV.2.elim
  | cons v1 vs =>
  obtain ⟨hv0, hv1, hvs1⟩ := hargsV
  have hrr' := rootL_mem hrr
  have hne3 : rid ≠ bx := fun e => by subst e; rw [Nat.beq_refl] at hnr; cases hnr
  have hb' := rootL_mem hb
  have hc' := rootL_mem hc
  have hne : bx ≠ cd := fun e => by
    subst e
    obtain ⟨e, _⟩ := hr.one _ _ _ _ _ hb' hc'
    cases e
  have hal' : E.al bx 0 (.h cd []) ∈ L := by
    rcases aliasL_mem (L := L) (id := bx) (c := 0) with e | e
    · rw [hal] at e; cases e
    · rw [hal] at e; exact e
  let H' : Nat → Value := fun i => if i = base then H bx else if i = base + 1 then H cd else if i = base + 2 then H rid else undef
  let G' : Nat → FP := fun i => if i = base then G bx else if i = base + 1 then G cd else if i = base + 2 then G rid else fun _ _ => False
  have eH0 : H' base = H bx := if_pos rfl
  have eH1 : H' (base + 1) = H cd := by show (if base + 1 = base then _ else _) = _; rw [if_neg (by omega), if_pos rfl]
  have eG0 : G' base = G bx := if_pos rfl
  have eG1 : G' (base + 1) = G cd := by show (if base + 1 = base then _ else _) = _; rw [if_neg (by omega), if_pos rfl]
  have eH2 : H' (base + 2) = H rid := by show (if base + 2 = base then _ else _) = _; rw [if_neg (by omega), if_neg (by omega), if_pos rfl]
  have eG2 : G' (base + 2) = G rid := by show (if base + 2 = base then _ else _) = _; rw [if_neg (by omega), if_neg (by omega), if_pos rfl]
  have hrts : ∀ {id m t}, rts [.rt base .box (.s n 1 fb), .al base 0 (.h (base + 1) []), .rt (base + 1) .ro tc, .rt (base + 2) .ro tr0] id m t → (id = base ∧ m = .box ∧ t = .s n 1 fb) ∨ (m = .ro ∧ ((id = base + 1 ∧ t = tc) ∨ (id = base + 2 ∧ t = tr0))) := fun {id m t} h => by
    simp only [rts, List.mem_cons, List.not_mem_nil, or_false, E.rt.injEq, reduceCtorEq, false_or] at h
    rcases h with h | ⟨h1, h2, h3⟩ | ⟨h1, h2, h3⟩
    · exact .inl h
    · exact .inr ⟨h2, .inl ⟨h1, h3⟩⟩
    · exact .inr ⟨h2, .inr ⟨h1, h3⟩⟩
  have hr1 : rts [.rt base .box (.s n 1 fb), .al base 0 (.h (base + 1) []), .rt (base + 1) .ro tc, .rt (base + 2) .ro tr0] (base + 1) .ro tc := by simp [rts]
  have hrp : Rp [.rt base .box (.s n 1 fb), .al base 0 (.h (base + 1) []), .rt (base + 1) .ro tc, .rt (base + 2) .ro tr0] (fun _ => undef) H' G' w := by
    refine ⟨fun id m t m' t' k1 k2 => ?_, fun id m t k1 k2 => ?_, fun id t k => ?_, fun id t k => ?_, fun id t k => ?_, fun id m t id' m' t' k1 k2 hne' hm x y hx hy => ?_, fun t x k => ?_, fun id c x k => ?_⟩
    · rcases hrts k1 with ⟨a1, a2, a3⟩ | ⟨a2, ⟨a1, a3⟩ | ⟨a1, a3⟩⟩ <;> rcases hrts k2 with ⟨b1, b2, b3⟩ | ⟨b2, ⟨b1, b3⟩ | ⟨b1, b3⟩⟩
      all_goals first | exact ⟨a2.trans b2.symm, a3.trans b3.symm⟩ | (exfalso; omega)
    · rcases hrts k1 with ⟨rfl, rfl, rfl⟩ | ⟨h, _⟩
      · rw [eH0, eG0]; exact hr.own _ _ _ hb' (by simp)
      · exact absurd h k2
    · rcases hrts k with ⟨_, h, _⟩ | ⟨_, ⟨rfl, rfl⟩ | ⟨rfl, rfl⟩⟩
      · cases h
      · rw [eH1, eG1]; exact hr.ro _ _ hc'
      · rw [eH2, eG2]; exact hr.rd hrr'
    · rcases hrts k with ⟨_, h, _⟩ | ⟨_, ⟨rfl, rfl⟩ | ⟨rfl, rfl⟩⟩
      · cases h
      · rw [eG1]; exact hr.rold _ _ hc'
      · rw [eG2]
        by_cases hm : mr = .ro
        · subst hm; exact hr.rold _ _ hrr'
        · exact (hr.own _ _ _ hrr' hm).old
    · rcases hrts k with ⟨_, _, rfl⟩ | ⟨h, _⟩
      · exact ⟨_, _, rfl⟩
      · cases h
    · rcases hrts k1 with ⟨rfl, rfl, rfl⟩ | ⟨h, _⟩
      · rw [eG0] at hx
        rcases hrts k2 with ⟨e1, _, _⟩ | ⟨_, ⟨rfl, rfl⟩ | ⟨rfl, rfl⟩⟩
        · exact hne' e1.symm
        · rw [eG1] at hy
          exact hr.dis _ _ _ _ _ _ hb' hc' hne (by simp) x y hx hy
        · rw [eG2] at hy
          exact hr.dis _ _ _ _ _ _ hb' hrr' (Ne.symm hne3) (by simp) x y hx hy
      · exact hm h
    · simp at k
    · simp only [List.mem_cons, List.not_mem_nil, or_false, reduceCtorEq, false_or, E.al.injEq] at k
      obtain ⟨rfl, rfl, rfl⟩ := k
      obtain ⟨n1, f1, q1, q2, A, v, q3, q4, q5⟩ := hr.al _ _ _ hal'
      obtain ⟨_, e⟩ := hr.one _ _ _ _ _ hb' q1
      cases e
      refine ⟨n, fb, by simp [rts], q2, A, v, by rw [eH0]; exact q3, q4, ?_⟩
      obtain ⟨m, t, p1, p2, p3, p4⟩ := q5
      obtain ⟨rfl, rfl⟩ := hr.one _ _ _ _ _ hc' p1
      exact ⟨.ro, tc, hr1, p2, p3, by rw [eH1]; exact p4⟩
  have hxv : VRs (rts [.rt base .box (.s n 1 fb), .al base 0 (.h (base + 1) []), .rt (base + 1) .ro tc, .rt (base + 2) .ro tr0]) H' w (.p base [] n 0 0 :: .h (base + 2) [] :: xs) (v0 :: v1 :: vs) := by
    refine ⟨?_, ?_, onlyV_ok hxs hvs1⟩
    · obtain ⟨m, t, p1, p2, p3, hv, A, p4, p5⟩ := hv0
      obtain ⟨rfl, rfl⟩ := hr.one _ _ _ _ _ hb' p1
      exact ⟨.box, _, by simp [rts], p2, p3, hv, A, by rw [eH0]; exact p4, p5⟩
    · obtain ⟨m, t, p1, p2, p3, p4⟩ := hv1
      obtain ⟨rfl, rfl⟩ := hr.one _ _ _ _ _ hrr' p1
      exact ⟨.ro, _, by simp [rts], p2, p3, by rw [eH2]; exact p4⟩
  simp only [Oper.upon]
  refine (hcon w _ H' G' (cx.now hs.chg) (fun id m t h1 h2 a o h3 => by
    rcases hrts h1 with ⟨rfl, _, _⟩ | ⟨h, _⟩
    · rw [eG0] at h3; exact cx.avN (hG.1 _ _ _ hb' (by simp) a o h3)
    · exact absurd h h2) hrp hxv).mono ?_
  rintro e w' ⟨v, x, L2, H2, G2, val2, rfl, ⟨m, hCm, ⟨ρ', rfl, hfix, r1, r2, _⟩, hbx2, hal2⟩, k1, k2, k3, k4, k5⟩
  refine ⟨⟨_, rfl⟩, _, ⟨m, hCm, rfl⟩, ?_⟩
  have hC : Chg (G bx) w w' := k3.mono fun b o _ hx => by
    obtain ⟨id, m', t, q1, q2, q3⟩ := hx
    rcases hrts q1 with ⟨rfl, _, _⟩ | ⟨h, _⟩
    · rw [eG0] at q3; exact q3
    · exact absurd h q2
  have hgrow : ∀ id m' t, rts L2 id m' t → m' ≠ .ro → ∀ b o, G2 id b o → G bx b o ∨ w.heap.size ≤ b := fun id m' t h1 h2 b o hg => by
    rcases k4 _ _ _ h1 h2 b o hg with ⟨id', m'', t', q1, q2, q3⟩ | h
    · rcases hrts q1 with ⟨rfl, _, _⟩ | ⟨h, _⟩
      · rw [eG0] at q3; exact .inl q3
      · exact absurd h q2
    · exact .inr h
  have hH2 : H2 base = H bx := by rw [k5 _ _ _ (Nat.le_refl _) hbx2, eH0]
  have hold : ∀ id m t, rts L id m t → ∀ x y, G id x y → x < w.heap.size := fun id m t h x y hg => by
    by_cases hm : m = .ro
    · subst hm; exact hr.rold id t h x y hg
    · exact (hr.own id m t h hm).old x y hg
  have hoff : ∀ id m t, rts L id m t → id ≠ bx → ∀ b o, G id b o → ¬ G bx b o := fun id m t h hid b o h1 h2 => hr.dis _ _ _ _ _ _ hb' h (Ne.symm hid) (by simp) b o h2 h1
  have hhd : ∀ id m t, rts L id m t → id ≠ bx → ∀ q, Okp t q → hd w' (H id) q = hd w (H id) q := fun id m t h hid q hq => hd_frame hC (hr.rd h) hq (hoff id m t h hid)
  let G3 : Nat → FP := fun i => if i = bx then G2 base else G i
  have eG3 : G3 bx = G2 base := if_pos rfl
  have eG3' : ∀ {i}, i ≠ bx → G3 i = G i := fun h => if_neg h
  have hrt : ∀ {id m' t}, rts (repR L bx (.s n 1 (Tm m))) id m' t → (id = bx ∧ m' = .box ∧ t = .s n 1 (Tm m)) ∨ (id ≠ bx ∧ rts L id m' t) := fun {id m' t} h => by
    rcases rts_repR.1 h with ⟨rfl, rfl, t0, h0⟩ | h
    · obtain ⟨rfl, _⟩ := hr.one _ _ _ _ _ hb' h0
      exact .inl ⟨rfl, rfl, rfl⟩
    · exact .inr h
  have hrb : rts (repR L bx (.s n 1 (Tm m))) bx .box (.s n 1 (Tm m)) := rts_repR.2 (.inl ⟨rfl, rfl, _, hb'⟩)
  have hro : ∀ {id m' t}, id ≠ bx → rts L id m' t → rts (repR L bx (.s n 1 (Tm m))) id m' t := fun h1 h => rts_repR.2 (.inr ⟨h1, h⟩)
  have hq0 : ∀ {q n' l f'}, Okp (.s n 1 fb) q → (T.s n 1 fb).at q = .s n' l f' → q = [] := fun {q n' l f'} h1 h2 => by
    cases q with
    | nil => rfl
    | cons e q =>
      obtain ⟨n1, k, c⟩ := e
      obtain ⟨rfl, e1, e2, h3⟩ := h1
      have : k = 0 := by omega
      subst this
      simp only [T.at] at h2
      cases hf : fb 0 c with
      | s a1 a2 a3 => exact absurd hf (hleaf c _ _ _ e2)
      | v _ => rw [hf] at h2; cases q <;> simp [T.at] at h2
      | j => rw [hf] at h2; cases q <;> simp [T.at] at h2
  have hvr : ∀ {x v}, VR (rts L) H w x v → VR (rts (repR L bx (.s n 1 (Tm m)))) H w' x v := fun {x v} h =>
    VR.leaves (C := fun _ => True) (fun x v hl _ h => by
      cases x with
      | p id q n' k c =>
        obtain ⟨m', t, h1, h2, ⟨l, f', h3, h4, h5⟩, h6⟩ := h
        by_cases e : id = bx
        · subst e
          obtain ⟨rfl, rfl⟩ := hr.one _ _ _ _ _ hb' h1
          obtain rfl := hq0 h2 h3
          simp only [T.at] at h3
          cases h3
          exact ⟨_, _, hrb, trivial, ⟨1, Tm m, rfl, h4, h5⟩, h6⟩
        · exact ⟨m', t, hro e h1, h2, ⟨l, f', h3, h4, h5⟩, by rw [hhd id m' t h1 e q h2]; exact h6⟩
      | h id q =>
        obtain ⟨m', t, h1, h2, ⟨n', l, f', h3⟩, h6⟩ := h
        by_cases e : id = bx
        · subst e
          obtain ⟨rfl, rfl⟩ := hr.one _ _ _ _ _ hb' h1
          obtain rfl := hq0 h2 h3
          exact ⟨_, _, hrb, trivial, ⟨n, 1, Tm m, rfl⟩, h6⟩
        · exact ⟨m', t, hro e h1, h2, ⟨n', l, f', h3⟩, by rw [hhd id m' t h1 e q h2]; exact h6⟩
      | a id q n' lo len =>
        obtain ⟨m', t, h1, h2, ⟨l, f', h3, h4⟩, h6⟩ := h
        by_cases e : id = bx
        · subst e
          obtain ⟨rfl, rfl⟩ := hr.one _ _ _ _ _ hb' h1
          obtain rfl := hq0 h2 h3
          simp only [T.at] at h3
          cases h3
          exact ⟨_, _, hrb, trivial, ⟨1, Tm m, rfl, h4⟩, h6⟩
        · exact ⟨m', t, hro e h1, h2, ⟨l, f', h3, h4⟩, by rw [hhd id m' t h1 e q h2]; exact h6⟩
      | _ => exact hl.elim) (X.all_true (fun _ => trivial) x) h
  have hr2 : Rp (repR L bx (.s n 1 (Tm m))) (Act.val a) H G3 w' := by
    refine ⟨fun id m1 t1 m2 t2 h1 h2 => ?_, fun id m1 t1 h1 h2 => ?_, fun id t h => ?_, fun id t h => ?_, fun id t h => ?_, fun id m1 t1 id' m2 t2 h1 h2 hne' hm x y hx hy => ?_, fun t x h => ?_, fun id c x h => ?_⟩
    · rcases hrt h1 with ⟨rfl, rfl, rfl⟩ | ⟨a1, a2⟩ <;> rcases hrt h2 with ⟨b1, b2, b3⟩ | ⟨b1, b2⟩
      · exact ⟨b2.symm, b3.symm⟩
      · exact absurd rfl b1
      · exact absurd b1 a1
      · exact hr.one _ _ _ _ _ a2 b2
    · rcases hrt h1 with ⟨rfl, rfl, rfl⟩ | ⟨a1, a2⟩
      · rw [eG3, ← hH2]; exact k1.own _ _ _ hbx2 (by simp)
      · rw [eG3' a1]; exact (hr.own _ _ _ a2 h2).frame hC (hoff _ _ _ a2 a1)
    · rcases hrt h with ⟨_, e, _⟩ | ⟨a1, a2⟩
      · cases e
      · rw [eG3' a1]; exact (hr.ro _ _ a2).frame hC (hoff _ _ _ a2 a1)
    · rcases hrt h with ⟨_, e, _⟩ | ⟨a1, a2⟩
      · cases e
      · rw [eG3' a1]; exact fun x y hg => Nat.lt_of_lt_of_le (hr.rold _ _ a2 x y hg) hC.size
    · rcases hrt h with ⟨_, _, rfl⟩ | ⟨a1, a2⟩
      · exact ⟨_, _, rfl⟩
      · exact hr.box _ _ a2
    · rcases hrt h1 with ⟨rfl, rfl, rfl⟩ | ⟨a1, a2⟩ <;> rcases hrt h2 with ⟨b1, b2, b3⟩ | ⟨b1, b2⟩
      · exact hne' b1.symm
      · rw [eG3] at hx; rw [eG3' b1] at hy
        rcases hgrow _ _ _ hbx2 (by simp) x y hx with h | h
        · exact hoff _ _ _ b2 b1 x y hy h
        · have := hold _ _ _ b2 x y hy; omega
      · subst b1
        rw [eG3] at hy; rw [eG3' a1] at hx
        rcases hgrow _ _ _ hbx2 (by simp) x y hy with h | h
        · exact hoff _ _ _ a2 a1 x y hx h
        · have := hold _ _ _ a2 x y hx; omega
      · rw [eG3' a1] at hx; rw [eG3' b1] at hy
        exact hr.dis _ _ _ _ _ _ a2 b2 hne' hm x y hx hy
    · exact hvr (hr.sl t x (repR_sl h))
    · have h' := repR_al h
      clear h
      by_cases e : id = bx
      · subst e
        obtain ⟨rfl, rfl⟩ := alsB_mem hals h'
        obtain ⟨n1, f1, q1, q2, A, v1, q3, q4, q5⟩ := k1.al _ _ _ hal2
        obtain ⟨_, e⟩ := k1.one _ _ _ _ _ hbx2 q1
        cases e
        refine ⟨n, Tm m, hrb, q2, A, v1, by rw [← hH2]; exact q3, q4, ?_⟩
        obtain ⟨m3, t3, p1, p2, ⟨n3, l3, f3, p3⟩, p4⟩ := q5
        obtain ⟨n4, f4, _, _, _, _, _, _, ⟨m5, t5, s1, s2, s3, s4⟩⟩ := hr.al _ _ _ hal'
        obtain ⟨rfl, rfl⟩ := hr.one _ _ _ _ _ hc' s1
        refine ⟨.ro, tc, hro (Ne.symm hne) hc', s2, s3, ?_⟩
        have e5 : H2 (base + 1) = H cd := by rw [k5 _ _ _ (Nat.le_succ _) p1, eH1]
        rw [← e5]; exact p4
      · obtain ⟨n1, f1, q1, q2, A, v1, q3, q4, q5⟩ := hr.al _ _ _ h'
        obtain ⟨b, o, rfl, hg⟩ := box_cell hr q1 q2 q3
        exact ⟨n1, f1, hro e q1, q2, _, v1, q3, hC.cell q4 (hoff _ _ _ q1 e _ _ hg), hvr q5⟩
  have hinv : ∀ i, (nu d i - d) / 1000 = i := fun i => by simp only [nu]; omega
  have hmem : ∀ r ∈ rens d (L0 m), ∃ r0 ∈ L0 m, r = (nu d r0.1, r0.2) := fun r hr => by
    obtain ⟨r0, h, e⟩ := List.mem_map.1 hr; exact ⟨r0, h, e.symm⟩
  have hnd : ((rens d (L0 m)).map (·.1)).Nodup := by
    have e : (rens d (L0 m)).map (·.1) = ((L0 m).map (·.1)).map (nu d) := by simp [rens]
    rw [e]
    exact List.pairwise_map.2 ((hn m).imp fun {x y} h e => h (by simp only [nu] at e; omega))
  have hnews := hr2.news (fun i => G2 (ρ' ((i - d) / 1000))) (fun i => H2 (ρ' ((i - d) / 1000))) (rens d (L0 m)) hnd (fun r hr' b o hF id m1 t1 hid hGG => by
      obtain ⟨r0, h0, rfl⟩ := hmem r hr'
      simp only [hinv] at hF
      obtain ⟨g1, g2, g3⟩ := r2 r0 h0
      rcases hrt hid with ⟨rfl, rfl, rfl⟩ | ⟨a1, a2⟩
      · rw [eG3] at hGG
        exact k1.dis _ _ _ _ _ _ g2 hbx2 (by omega) g1 b o hF hGG
      · rw [eG3' a1] at hGG
        rcases hgrow _ _ _ g2 g1 b o hF with h | h
        · exact hoff _ _ _ a2 a1 b o hGG h
        · have := hold _ _ _ a2 b o hGG; omega) (fun r hr' => by
      obtain ⟨r0, h0, rfl⟩ := hmem r hr'
      obtain ⟨g1, g2, g3⟩ := r2 r0 h0
      simp only [hinv]
      exact ⟨g1, k1.own _ _ _ g2 g1, fun e => by rw [e] at g2; exact k1.box _ _ g2⟩) (fun r hr' r' hr'' hne' b o hF hF' => by
      obtain ⟨r0, h0, rfl⟩ := hmem r hr'
      obtain ⟨r0', h0', rfl⟩ := hmem r' hr''
      simp only [hinv] at hF hF'
      have hne'' : ρ' r0.1 ≠ ρ' r0'.1 := fun e => hne' (by rw [map_inj r1 h0 h0' e])
      exact k1.dis _ _ _ _ _ _ (r2 r0 h0).2.1 (r2 r0' h0').2.1 hne'' (r2 r0 h0).1 b o hF hF')
  have hv : VR (rts (newsL (repR L bx (.s n 1 (Tm m))) (rens d (L0 m)))) (fun i => if i ∈ (rens d (L0 m)).map (·.1) then H2 (ρ' ((i - d) / 1000)) else H i) w' ((X0 m).ren (nu d)) v := by
    refine VR.ren (ids := (L0 m).map (·.1)) (fun id hid m1 t1 hh => ?_) (hx0 m) k2
    obtain ⟨r0, h0, rfl⟩ := List.mem_map.1 hid
    obtain ⟨g1, g2, g3⟩ := r2 r0 h0
    obtain ⟨rfl, rfl⟩ := k1.one _ _ _ _ _ hh g2
    have hin : nu d r0.1 ∈ (rens d (L0 m)).map (·.1) := List.mem_map.2 ⟨_, List.mem_map.2 ⟨r0, h0, rfl⟩, rfl⟩
    refine ⟨(rts_newsL hnd).2 (.inl (List.mem_map.2 ⟨r0, h0, rfl⟩)), ?_⟩
    simp only [hin, if_true, hinv]
  have hgood : Good cx (newsL (repR L bx (.s n 1 (Tm m))) (rens d (L0 m))) (fun i => if i ∈ (rens d (L0 m)).map (·.1) then H2 (ρ' ((i - d) / 1000)) else H i) (fun i => if i ∈ (rens d (L0 m)).map (·.1) then G2 (ρ' ((i - d) / 1000)) else G3 i) := by
    have hold2 : ∀ b o, G bx b o ∨ w.heap.size ≤ b → cx.S0 b o ∨ cx.w0.heap.size ≤ b := fun b o h => by
      rcases h with h | h
      · exact hG.1 _ _ _ hb' (by simp) b o h
      · exact .inr (Nat.le_trans hs.chg.size h)
    refine ⟨fun id m1 t1 hid hne' x y hF => ?_, fun id m1 t1 hbs hid => ?_⟩
    · rcases (rts_newsL hnd).1 hid with hh | ⟨hh, hni⟩
      · obtain ⟨⟨i0, m0, t0⟩, h0, e⟩ := hmem _ hh
        cases e
        have hin : nu d i0 ∈ (rens d (L0 m)).map (·.1) := List.mem_map.2 ⟨_, hh, rfl⟩
        simp only [hin, if_true, hinv] at hF
        exact hold2 x y (hgrow _ _ _ (r2 _ h0).2.1 (r2 _ h0).1 x y hF)
      · simp only [hni, if_false] at hF
        rcases hrt hh with ⟨rfl, rfl, rfl⟩ | ⟨a1, a2⟩
        · rw [eG3] at hF
          exact hold2 x y (hgrow _ _ _ hbx2 (by simp) x y hF)
        · rw [eG3' a1] at hF
          exact hG.1 id m1 t1 a2 hne' x y hF
    · rcases (rts_newsL hnd).1 hid with hh | ⟨hh, hni⟩
      · obtain ⟨⟨i0, m0, t0⟩, h0, e⟩ := hmem _ hh
        cases e
        have := List.all_eq_true.1 (hbb m) _ h0
        replace this : nu d i0 < base := by simpa using this
        have h6 : base ≤ nu d i0 := hbs
        omega
      · simp only [hni, if_false]
        rcases hrt hh with ⟨rfl, rfl, rfl⟩ | ⟨a1, a2⟩
        · exact hG.2 _ _ _ hbs hb'
        · exact hG.2 _ _ _ hbs a2
  refine ⟨by rw [hds]; simpa [Go.Act.put] using hs.siz, by rw [hds]; simpa [Go.Act.put] using hs.dfr, hs.chg.step hC (fun b o hb1 h => ?_), _, _, ?_, by rw [rts_put]; exact hgood⟩
  · rcases hG.1 _ _ _ hb' (by simp) b o h with h | h
    · exact h
    · omega
  · rw [hds]
    exact (hnews.put hv).val fun t => (Act.val_put (Nat.lt_of_lt_of_le hN hs.siz) t).symm
end
end Go.Proofs.Ytfbefcmeghpalaa.VM
namespace Go.Proofs.Ytfbefcmeghpalaa.VM
open Go Go.RowKit
/-- a view of a row that is only read, as a root of its own -/
theorem Weak.viewG {N : Nat} {L : List E} (d new : Nat) {id n lo len l : Nat} {f : Nat → Nat → T} {y : Value} (h : slotL L d = .g [.v y, .a id [] n lo len]) (hR : rootL L id = some (.ro, .s n l f)) (hle : Nat.ble (lo + len) l = true ∨ lo + len ≤ l) (hn : rootL L new = none) (hb : new < base) : Weak N L (putL (.rt new .ro (.s n len fun k c => f (lo + k) c) :: L) d (.g [.v y, .h new []])) := fun cx a w hs => by
 obtain ⟨H, G, hr, hG⟩ := hs.rp
 have hle : lo + len ≤ l := by rcases hle with h | h; exact Nat.le_of_ble_eq_true h; exact h
 have h0 := rootL_mem hR
 have hnb := rootL_none hn
 have h1 := ev_ok hr (.tmp d)
 simp only [evX, h] at h1
 obtain ⟨us, hus, h1⟩ := h1
 match us, hus, h1 with
 | [u0, u1], hus, ⟨hu0, hu1, _⟩ =>
 obtain ⟨m', t', g1, g2, _, hv, g4, ad, cap, g5, g6, g7, g8, _⟩ := hu1
 obtain ⟨rfl, rfl⟩ := hr.one _ _ _ _ _ g1 h0
 simp only [VM.hd, Option.some.injEq] at g4
 subst g4
 have hRd := (hr.ro _ _ h0).sub hle g5 g6 g7 g8
 let H' := updN H new u1
 let G' := updN G new (G id)
 have eH : H' new = u1 := by simp [H', updN]
 have eG : G' new = G id := by simp [G', updN]
 have eo : ∀ {i m t}, rts L i m t → i ≠ new := fun {i m t} h e => hnb _ _ (e ▸ h)
 have eH' : ∀ {i m t}, rts L i m t → H' i = H i := fun h => by simp [H', updN, eo h]
 have eG' : ∀ {i m t}, rts L i m t → G' i = G i := fun h => by simp [G', updN, eo h]
 have hrt : ∀ {i m t}, rts (.rt new .ro (.s n len fun k c => f (lo + k) c) :: L) i m t → (i = new ∧ m = .ro ∧ t = .s n len fun k c => f (lo + k) c) ∨ rts L i m t := fun {i m t} h => by
  rcases List.mem_cons.1 h with h | h
  ·cases h; exact .inl ⟨rfl, rfl, rfl⟩
  ·exact .inr h
 have hrn : rts (.rt new .ro (.s n len fun k c => f (lo + k) c) :: L) new .ro (.s n len fun k c => f (lo + k) c) := List.mem_cons_self ..
 have hvr : ∀ {x v}, VR (rts L) H w x v → VR (rts (.rt new .ro (.s n len fun k c => f (lo + k) c) :: L)) H' w x v := fun h => VR.same (fun i m t hh => ⟨List.mem_cons_of_mem _ hh, eH' hh⟩) h
 have hr2 : Rp (.rt new .ro (.s n len fun k c => f (lo + k) c) :: L) (Act.val a) H' G' w := by
  refine ⟨fun i m t m' t' k1 k2 => ?_, fun i m t k1 k2 => ?_, fun i t k => ?_, fun i t k => ?_, fun i t k => ?_, fun i m t i' m' t' k1 k2 hne hm x y hx hy => ?_, fun s x k => ?_, fun i c x k => ?_⟩
  ·rcases hrt k1 with ⟨rfl, rfl, rfl⟩ | a1 <;> rcases hrt k2 with ⟨b1, b2, b3⟩ | b1
   ·exact ⟨b2.symm, b3.symm⟩
   ·exact absurd rfl (eo b1)
   ·exact absurd b1 (eo a1)
   ·exact hr.one _ _ _ _ _ a1 b1
  ·rcases hrt k1 with ⟨rfl, rfl, rfl⟩ | a1
   ·exact absurd rfl k2
   ·rw [eH' a1, eG' a1]; exact hr.own _ _ _ a1 k2
  ·rcases hrt k with ⟨rfl, _, rfl⟩ | a1
   ·rw [eH, eG]; exact hRd
   ·rw [eH' a1, eG' a1]; exact hr.ro _ _ a1
  ·rcases hrt k with ⟨rfl, _, rfl⟩ | a1
   ·rw [eG]; exact hr.rold _ _ h0
   ·rw [eG' a1]; exact hr.rold _ _ a1
  ·rcases hrt k with ⟨_, e, _⟩ | a1
   ·cases e
   ·exact hr.box _ _ a1
  ·rcases hrt k1 with ⟨rfl, rfl, rfl⟩ | a1
   ·exact hm rfl
   ·rw [eG' a1] at hx
    rcases hrt k2 with ⟨rfl, rfl, rfl⟩ | b1
    ·rw [eG] at hy
     have hne2 : i ≠ id := fun e => by
      subst e
      exact hm (hr.one _ _ _ _ _ a1 h0).1
     exact hr.dis _ _ _ _ _ _ a1 h0 hne2 hm x y hx hy
    ·rw [eG' b1] at hy
     exact hr.dis _ _ _ _ _ _ a1 b1 hne hm x y hx hy
  ·rcases List.mem_cons.1 k with k | k
   ·cases k
   ·exact hvr (hr.sl s x k)
  ·rcases List.mem_cons.1 k with k | k
   ·cases k
   ·obtain ⟨n1, f1, q1, q2, A, v, q3, q4, q5⟩ := hr.al i c x k
    exact ⟨n1, f1, List.mem_cons_of_mem _ q1, q2, A, v, by rw [eH' q1]; exact q3, q4, hvr q5⟩
 refine ⟨hs.siz, hs.dfr, hs.chg, H', G', (hr2.put (d := d) (x := .g [.v y, .h new []]) (v := Act.val a d) ⟨[u0, u1], hus, hu0, ⟨.ro, _, hrn, trivial, ⟨_, _, _, rfl⟩, by rw [eH]; rfl⟩, trivial⟩).val fun t => ?_, by
  rw [rts_put]
  refine ⟨fun i m t k1 k2 x y hx => ?_, fun i m t hb1 k => ?_⟩
  ·rcases hrt k1 with ⟨rfl, rfl, rfl⟩ | a1
   ·exact absurd rfl k2
   ·rw [eG' a1] at hx; exact hG.1 _ _ _ a1 k2 x y hx
  ·rcases hrt k with ⟨rfl, _, _⟩ | a1
   ·omega
   ·rw [eH' a1]; exact hG.2 _ _ _ hb1 a1⟩
 split
 ·rename_i e; rw [e]
 ·rfl
end Go.Proofs.Ytfbefcmeghpalaa.VM
namespace Go.Proofs.Ytfbefcmeghpalaa.VM
open Go Go.RowKit
/-! ### range over a string -/
section
variable {w w' : World}
theorem Own.same (hc : ∀ A v, w.cell? A = some v → w'.cell? A = some v) (hk : ∀ b sz, Kd w b sz → Kd w' b sz) : ∀ {t : T} {F : FP} {c : Value}, Own w t F c → Own w' t F c
 | .v _, _, _, h => h
 | .j, _, _, h => h
 | .s n len f, F, c, ⟨hn, a, cap, h0, hl, hm, b, off, V, G, h1, h2, h3, h4, h5⟩ =>
  ⟨hn, a, cap, h0, hl, hm, b, off, V, G, fun h => ⟨(h1 h).1, let ⟨sz, k1, k2⟩ := (h1 h).2; ⟨sz, hk _ _ k1, k2⟩⟩, fun k c hk' hc' => by
   obtain ⟨e1, e2⟩ := h2 k c hk' hc'
   exact ⟨hc _ _ e1, Own.same hc hk e2⟩, h3, h4, h5⟩
theorem Rd.same (hc : ∀ A v, w.cell? A = some v → w'.cell? A = some v) : ∀ {t : T} {F : FP} {c : Value}, Rd w t F c → Rd w' t F c
 | .v _, _, _, h => h
 | .j, _, _, h => h
 | .s .., _, _, ⟨hn, a, cap, h0, hl, hm, b, off, V, G, h1, h2⟩ => ⟨hn, a, cap, h0, hl, hm, b, off, V, G, h1, fun k c hk hc' =>
  let ⟨e1, e2, e3, e4⟩ := h2 k c hk hc'; ⟨hc _ _ e1, Rd.same hc e2, e3, e4⟩⟩
theorem hd_same (hc : ∀ A v, w.cell? A = some v → w'.cell? A = some v) : ∀ {q : Path} {h x : Value}, hd w h q = some x → hd w' h q = some x
  | [], _, _, h => h
  | (n, k, c) :: q, h, x, e => by
    unfold hd at e ⊢
    cases ha : adr h n k c with
    | none => rw [ha] at e; cases e
    | some a =>
      rw [ha] at e
      simp only at e ⊢
      cases hh : w.cell? a with
      | none => rw [hh] at e; cases e
      | some h' =>
        rw [hh] at e
        rw [hc _ _ hh]
        exact hd_same hc e
mutual
theorem VR.sameW (hc : ∀ A v, w.cell? A = some v → w'.cell? A = some v) {R : RT} {H : Nat → Value} : ∀ {x : X} {v : Value}, VR R H w x v → VR R H w' x v
 | .v _, _, hx => hx
 | .j, _, _ => trivial
 | .c, _, hx => hx
 | .p .., _, ⟨m, t, h1, h2, h3, hh, A, h4, h5, h6⟩ => ⟨m, t, h1, h2, h3, hh, A, hd_same hc h4, h5, h6⟩
 | .h .., _, ⟨m, t, h1, h2, h3, h4⟩ => ⟨m, t, h1, h2, h3, hd_same hc h4⟩
 | .a .., _, ⟨m, t, h1, h2, h3, hv, h4, h5⟩ => ⟨m, t, h1, h2, h3, hv, hd_same hc h4, h5⟩
 | .g _, _, ⟨vs, h1, h2⟩ => ⟨vs, h1, VRs.sameW hc h2⟩
 | .t _, _, ⟨vs, h1, h2⟩ => ⟨vs, h1, VRs.sameW hc h2⟩
 | .f _ _, _, ⟨vs, h1, h2⟩ => ⟨vs, h1, VRs.sameW hc h2⟩
theorem VRs.sameW (hc : ∀ A v, w.cell? A = some v → w'.cell? A = some v) {R : RT} {H : Nat → Value} : ∀ {xs : List X} {vs : List Value}, VRs R H w xs vs → VRs R H w' xs vs
 | [], [], _ => trivial
 | _ :: _, _ :: _, ⟨h1, h2⟩ => ⟨VR.sameW hc h1, VRs.sameW hc h2⟩
 | [], _ :: _, h => h.elim
 | _ :: _, [], h => h.elim
end
variable {L : List E} {val : Nat → Value} {H : Nat → Value} {G : Nat → FP} {P : Program} {N : Nat} {cx : Cx} {a : Act} {Q : Exit → List E → Prop}
theorem Rp.same (hc : ∀ A v, w.cell? A = some v → w'.cell? A = some v) (hk : ∀ b sz, Kd w b sz → Kd w' b sz) (hz : w.heap.size ≤ w'.heap.size) (hr : Rp L val H G w) : Rp L val H G w' :=
 ⟨hr.one, fun id m t h1 h2 => Own.same hc hk (hr.own id m t h1 h2), fun id t h => Rd.same hc (hr.ro id t h), fun id t h x y hG => Nat.lt_of_lt_of_le (hr.rold id t h x y hG) hz, hr.box, hr.dis, fun t x h => VR.sameW hc (hr.sl t x h),
  fun id c x h => by
   obtain ⟨n, f, h1, h2, A, v, h3, h4, h5⟩ := hr.al id c x h
   exact ⟨n, f, h1, h2, A, v, h3, hc _ _ h4, VR.sameW hc h5⟩⟩
def ItAt (w : World) (b : Nat) (s : ByteArray) (p : Nat) : Prop := w.heap[b]? = some (.stringIter s p)
theorem ItAt.heap {b p p' : Nat} {s : ByteArray} (h : ItAt w b s p) (b' : Nat) : (w.iterAt b s p').heap[b']? = if b' = b then some (.stringIter s p') else w.heap[b']? := by
 have hlt : b < w.heap.size := (Array.getElem?_eq_some_iff.1 h).1
 show (w.heap.setIfInBounds b _)[b']? = _
 by_cases e : b' = b
 ·subst e; simp [hlt]
 ·rw [if_neg e, Array.getElem?_setIfInBounds_ne (Ne.symm e)]
theorem ItAt.cell {b p p' : Nat} {s : ByteArray} (h : ItAt w b s p) (A : Addr) (v : Value) (hA : w.cell? A = some v) : (w.iterAt b s p').cell? A = some v := by
 simp only [World.cell?] at hA ⊢
 rw [h.heap]
 by_cases e : A.block = b
 ·rw [e] at hA
  unfold ItAt at h
  rw [h] at hA
  cases hA
 ·rw [if_neg e]; exact hA
theorem ItAt.kd {b p p' : Nat} {s : ByteArray} (h : ItAt w b s p) (b' sz : Nat) (hk : Kd w b' sz) : Kd (w.iterAt b s p') b' sz := by
 obtain ⟨cur, e, h1, h2⟩ := hk
 refine ⟨cur, e, ?_, h2⟩
 rw [h.heap]
 by_cases e : b' = b
 ·subst e; unfold ItAt at h; rw [h] at h1; cases h1
 ·rw [if_neg e]; exact h1
/-- the iterator goes on -/
theorem Sat.iterAt {b p p' : Nat} {s : ByteArray} (hs : Sat N cx L a w) (h : ItAt w b s p) (hb : cx.w0.heap.size ≤ b) : Sat N cx L a (w.iterAt b s p') := by
 obtain ⟨H, G, hr, hG⟩ := hs.rp
 have hz : (w.iterAt b s p').heap.size = w.heap.size := by simp [World.iterAt]
 refine ⟨hs.siz, hs.dfr, ⟨hs.chg.os, hs.chg.tape, hs.chg.output, by rw [hz]; exact hs.chg.size, ?_, ?_⟩, H, G, hr.same h.cell h.kd (by omega), hG⟩
 ·intro b' cur e fr hb'
  obtain ⟨c1, k1, k2⟩ := hs.chg.cells b' cur e fr hb'
  have hlt : b' < cx.w0.heap.size := (Array.getElem?_eq_some_iff.1 hb').1
  exact ⟨c1, by rw [h.heap, if_neg (by omega)]; exact k1, k2⟩
 ·intro b' o hb' ho
  have hlt : b' < cx.w0.heap.size := (Array.getElem?_eq_some_iff.1 hb').1
  rw [h.heap, if_neg (by omega)]
  exact hs.chg.other b' o hb' ho
end
section
variable {P : Program} {ops : Array Oper} {N : Nat} {L : List E}
end
end Go.Proofs.Ytfbefcmeghpalaa.VM
namespace Go.Proofs.Ytfbefcmeghpalaa.VM
open Go Go.RowKit
section
variable {P : Program} {N : Nat} {L : List E} {Q : Exit → List E → Prop}
theorem QQ.block {bi : Nat} {cx : Cx} {R : Act → World → Prop} {e : Exit} {a : Act} {w : World} {L : List E} (h : blockQ bi Q e L) (hs : Sat N cx L a w) (hne : e ≠ .normal) : Exit.then R (Exit.inBlock bi (QQ N cx Q)) e a w := by
 cases e with
 | normal => exact absurd rfl hne
 | exit j =>
  simp only [blockQ] at h
  show Exit.inBlock bi (QQ N cx Q) (.exit j) a w
  simp only [Exit.inBlock]
  split
  ·rename_i he; rw [if_pos he] at h; exact ⟨L, h, hs⟩
  ·rename_i he; rw [if_neg he] at h; exact ⟨L, h, hs⟩
 | _ => exact ⟨L, h, hs⟩
end
end Go.Proofs.Ytfbefcmeghpalaa.VM
namespace Go.Proofs.Ytfbefcmeghpalaa.VM
open Go Go.RowKit
/-! ### a view of a row becomes a row of its own; a node of a tree becomes a root -/
theorem own_view {w : World} {n l lo l' : Nat} {f : Nat → Nat → T} {F : FP} {hv : Value} (hO : Own w (.s n l f) F hv) (hle : lo + l' ≤ l) {ad : Option Addr} {cap : Nat} (hlc : l' ≤ cap) (hcm : cap ≤ maxLen) (hc : ∃ a0 l0, hv = .slice a0 l0 (lo + cap))
  (ha : ∀ b off l0 c0, hv = .slice (some ⟨b, off, none⟩) l0 c0 → 0 < cap → ad = some ⟨b, off + lo * n, none⟩) : ∃ F', Own w (.s n l' fun k c => f (lo + k) c) F' (.slice ad l' cap) ∧ ∀ x y, F' x y → F x y := by
 obtain ⟨hn, a, cap0, h0, hl, hm, b, off, V, G, h1, h2, h3, h4, h5⟩ := hO
 obtain ⟨a0, l0, e0⟩ := hc
 have e0' := e0
 rw [h0] at e0'
 cases e0'
 refine ⟨fun x y => (0 < cap ∧ blkFP b x y) ∨ ∃ k c, k < l' ∧ c < n ∧ G (lo + k) c x y, ⟨hn, ad, cap, rfl, hlc, hcm, b, off + lo * n, fun k c => V (lo + k) c, fun k c => G (lo + k) c, fun hp => ?_, fun k c hk hc => ?_, fun k c k' c' hne hk hc hk' hc' => h3 _ _ _ _ (by omega) (by omega) hc (by omega) hc', fun k c hk hc => h4 _ _ (by omega) hc, fun x y => Iff.rfl⟩, fun x y h => ?_⟩
 ·obtain ⟨rfl, sz, hk, hs⟩ := h1 (by omega)
  exact ⟨ha b off _ _ h0 hp, sz, hk, by rw [Nat.add_mul] at hs; omega⟩
 ·obtain ⟨e1, e2⟩ := h2 (lo + k) c (by omega) hc
  have he : off + lo * n + (k * n + c) = off + ((lo + k) * n + c) := by rw [Nat.add_mul]; omega
  rw [he]; exact ⟨e1, e2⟩
 ·rcases h with ⟨hp, h⟩ | ⟨k, c, hk, hc, h⟩
  ·exact (h5 x y).2 (.inl ⟨by omega, h⟩)
  ·exact (h5 x y).2 (.inr ⟨lo + k, c, by omega, hc, h⟩)
section
variable {P : Program} {N : Nat} {L : List E} {Q : Exit → List E → Prop}
def truncL (id new : Nat) (t : T) (d : Nat) (L : List E) : List E := putL (.rt new .row t :: delR (.rt id .row .j :: delR L id) new) d (.h new [])
/-- a view of a row of the call's own is from now on a row of its own -/
theorem Weak.trunc (d new : Nat) {id n lo l' l : Nat} {f : Nat → Nat → T} (h : slotL L d = .a id [] n lo l') (hR : rootL L id = some (.row, .s n l f)) (hle : lo + l' ≤ l) (hb : new < base) (hne : Nat.beq new id = false) : Weak N L (truncL id new (.s n l' fun k c => f (lo + k) c) d L) := fun cx a w hs => by
 obtain ⟨H, G, hr, hG⟩ := hs.rp
 have hid := rootL_mem hR
 have hne' : new ≠ id := fun e => by rw [e, Nat.beq_refl] at hne; cases hne
 have h1 := ev_ok hr (.tmp d)
 simp only [evX, h] at h1
 obtain ⟨m', t', g1, g2, _, hv, g4, ad, cap, g5, g6, g7, _, g8, g9⟩ := h1
 obtain ⟨rfl, rfl⟩ := hr.one _ _ _ _ _ g1 hid
 simp only [VM.hd, Option.some.injEq] at g4
 subst g4
 have hO := hr.own id .row _ hid (by simp)
 obtain ⟨F', o1, o2⟩ := own_view hO hle g6 g7 g8 g9
 rw [← g5] at o1
 have r1 := hr.new id (m := .row) (t := .j) (F := fun _ _ => False) (h := H id) (by simp) (own_one hO) (fun h => by cases h) (fun _ _ _ _ _ _ _ _ h => h)
 have hrt : ∀ {i m t}, rts (.rt id .row .j :: delR L id) i m t → (i = id ∧ m = .row ∧ t = .j) ∨ (i ≠ id ∧ rts L i m t) := fun h => by
  rcases List.mem_cons.1 h with h | h
  ·cases h; exact .inl ⟨rfl, rfl, rfl⟩
  ·exact .inr ⟨(rts_delR.1 h).2, (rts_delR.1 h).1⟩
 have r2 := r1.new new (m := .row) (t := .s n l' fun k c => f (lo + k) c) (F := F') (h := a.eval (.tmp d)) (by simp) o1 (fun h => by cases h) (fun i m t _ hi x y hx hy => by
  rcases hrt hi with ⟨rfl, _, _⟩ | ⟨e1, e2⟩
  ·simp only [updN, if_true] at hx
  ·simp only [updN, if_neg e1] at hx
   exact hr.dis _ _ _ _ _ _ hid e2 (Ne.symm e1) (by simp) x y (o2 x y hy) hx)
 have hx : VR (rts (.rt new .row (.s n l' fun k c => f (lo + k) c) :: delR (.rt id .row .j :: delR L id) new)) (updN (updN H id (H id)) new (a.eval (.tmp d))) w (.h new []) (a.eval (.tmp d)) :=
  ⟨.row, _, List.mem_cons_self .., by simp [Okp], ⟨_, _, _, by simp only [T.at]; rfl⟩, by simp [VM.hd, updN]⟩
 refine ⟨hs.siz, hs.dfr, hs.chg, _, _, (r2.put (d := d) hx).val fun t => ?_, ?_, ?_⟩
 ·split
  ·rename_i e; rw [e]; rfl
  ·rfl
 ·unfold truncL
  rw [rts_put]
  intro i m t h1 h2 x y h3
  rcases List.mem_cons.1 h1 with h1 | h1
  ·cases h1
   simp only [updN, if_true] at h3
   exact hG.1 id _ _ hid (by simp) x y (o2 x y h3)
  ·obtain ⟨h1, e1⟩ := rts_delR.1 h1
   simp only [updN, if_neg e1] at h3
   rcases hrt h1 with ⟨rfl, _, _⟩ | ⟨e2, e3⟩
   ·simp only [if_true] at h3
   ·simp only [if_neg e2] at h3
    exact hG.1 i m t e3 h2 x y h3
 ·unfold truncL
  rw [rts_put]
  intro i m t h0 h1
  have e : i ≠ new := by omega
  rcases List.mem_cons.1 h1 with h1 | h1
  ·cases h1; exact absurd rfl e
  ·obtain ⟨h1, _⟩ := rts_delR.1 h1
   simp only [updN, if_neg e]
   rcases hrt h1 with ⟨rfl, _, _⟩ | ⟨e2, e3⟩
   ·simp only [if_true]; exact hG.2 _ _ _ h0 hid
   ·simp only [if_neg e2]; exact hG.2 i m t h0 e3
def pickX : X → Nat → X
 | .g xs, i => xs.getD i .j
 | x, _ => x
def setX : X → Nat → X → X
 | .g xs, i, y => .g (xs.set i y)
 | _, _, y => y
theorem VRs.set {R : RT} {H : Nat → Value} {w : World} : ∀ {xs : List X} {vs : List Value} (i : Nat) {y : X}, VRs R H w xs vs → VR R H w y (vs.getD i undef) → VRs R H w (xs.set i y) vs
 | [], [], _, _, _, _ => trivial
 | _ :: _, _ :: _, 0, _, ⟨_, h2⟩, h => ⟨h, h2⟩
 | _ :: _, _ :: _, i + 1, _, ⟨h1, h2⟩, h => ⟨h1, VRs.set i h2 h⟩
 | [], _ :: _, _, _, h, _ => h.elim
 | _ :: _, [], _, _, h, _ => h.elim
/-- what lies deep within a tree becomes a root of its own; slot s knows it by that name -/
theorem Weak.float (s i d : Nat) {id : Nat} {a : Nat × Nat × Nat} {q' : Path} {x : X} (hx : slotL L s = x) (hp : pickX x i = .h id (a :: q')) {L1 : List E} {n len : Nat} {f : Nat → Nat → T} (ht : takeX L 1 (.h id (a :: q')) = some (L1, .s n len f))
  (hl : X.thr id (a :: q') (setX x i .j) = false) (hm : X.men d (setX x i .j) = false) (hb : d < base) : Weak N L (putL (.rt d .row (.s n len f) :: delR L1 d) s (setX x i (.h d []))) := fun cx ac w hs => by
 obtain ⟨H, G, hr, hG⟩ := hs.rp
 have h1 := ev_ok hr (.tmp s)
 simp only [evX, hx] at h1
 have hpick : ∃ v, VR (rts L) H w (.h id (a :: q')) v ∧ ∀ {R : RT} {H' : Nat → Value} {y : X}, VR R H' w (setX x i .j) (ac.eval (.tmp s)) → VR R H' w y v → VR R H' w (setX x i y) (ac.eval (.tmp s)) := by
  rw [← hp]
  cases x with
  | g xs =>
   obtain ⟨vs, e1, e2⟩ := h1
   refine ⟨vs.getD i undef, e2.nth.2 i, fun {R H' y} g1 g2 => ?_⟩
   obtain ⟨us, k1, k2⟩ := g1
   rw [e1] at k1
   have : us = vs := by simpa using k1.symm
   subst this
   refine ⟨us, e1, ?_⟩
   have := k2.set i (y := y) g2
   simpa using this
  | _ => exact ⟨_, h1, fun _ g => g⟩
 obtain ⟨v, hv, hset⟩ := hpick
 obtain ⟨G1, F, r1, q1, o1, d1, s1, k1, _, _⟩ := take_ok hr hG (n := 1) (by omega) hv ht
 have hj : VR (rts L) H w (setX x i .j) (ac.eval (.tmp s)) := by
  cases x with
  | g xs =>
   obtain ⟨vs, e1, e2⟩ := h1
   exact ⟨vs, e1, e2.set i trivial⟩
  | _ => trivial
 have hj1 := k1 (setX x i .j) _ (by simpa only [lostX] using hl) hj
 have r2 := r1.new d (m := .row) (t := .s n len f) (F := F) (h := v) (by simp) o1 (fun h => by cases h) (fun i m t _ hi x y hx hy => d1 i m t hi x y hx hy)
 have hj2 : VR (rts (.rt d .row (.s n len f) :: delR L1 d)) (updN H d v) w (setX x i .j) (ac.eval (.tmp s)) := hj1.drop (d := d) (fun j m2 t2 hj h => ⟨List.mem_cons_of_mem _ (rts_delR.2 ⟨h, hj⟩), by simp [updN, hj]⟩) hm
 have hd2 : VR (rts (.rt d .row (.s n len f) :: delR L1 d)) (updN H d v) w (.h d []) v := VR.here
 refine ⟨hs.siz, hs.dfr, hs.chg, _, _, (r2.put (d := s) (hset hj2 hd2)).val fun t => ?_, ?_, ?_⟩
 ·split
  ·rename_i e; rw [e]; rfl
  ·rfl
 ·rw [rts_put]
  intro i m t h1 h2 x y h3
  rcases List.mem_cons.1 h1 with h1 | h1
  ·cases h1
   simp only [updN, if_true] at h3
   exact s1 x y h3
  ·obtain ⟨h1, e1⟩ := rts_delR.1 h1
   simp only [updN, if_neg e1] at h3
   exact q1.1 i m t h1 h2 x y h3
 ·rw [rts_put]
  intro i m t h0 h1
  have e : i ≠ d := by omega
  rcases List.mem_cons.1 h1 with h1 | h1
  ·cases h1; exact absurd rfl e
  ·obtain ⟨h1, _⟩ := rts_delR.1 h1
   simp only [updN, if_neg e]
   exact q1.2 i m t h0 h1
end
end Go.Proofs.Ytfbefcmeghpalaa.VM
namespace Go.Proofs.Ytfbefcmeghpalaa.VM
open Go Go.RowKit
/-! ### elements of a row go along with an append of a view of it -/
theorem box_set {n : Nat} {f : Nat → Nat → T} {y : T} : ∀ {q : Path}, q ≠ [] → ∃ f', (T.s n 1 f).set q y = .s n 1 f'
  | [], h => absurd rfl h
  | (_, _, _) :: _, _ => ⟨_, by simp only [T.set]; rfl⟩
section
variable {L : List E} {val : Nat → Value} {H : Nat → Value} {G : Nat → FP} {w : World}
/-- a node's cells are known by less; what they owned is free -/
theorem Rp.drain (hr : Rp L val H G w) {id : Nat} {m : M} {t : T} (hm : m ≠ .ro) (hid : rts L id m t) {q : Path} (hq : Okp t q) {n l : Nat} {f : Nat → Nat → T} (ht : t.at q = .s n l f) :
  ∃ (hv : Value) (Gx : FP), VM.hd w (H id) q = some hv ∧ Own w (.s n l f) Gx hv ∧ (∀ a p, Gx a p → G id a p) ∧ ∀ {g : Nat → Nat → T} {Gy : FP}, Own w (.s n l g) Gy hv → (∀ a p, Gy a p → Gx a p) →
   Rp (setWs [(0, id, q, .s n l f)] [(0, .s n l g)] L) val H (updN G id fun a p => (G id a p ∧ ¬ Gx a p) ∨ Gy a p) w := by
 obtain ⟨hv, Gx, e1, e2, e3, _, e4⟩ := (hr.own id m t hid hm).setN hq
 rw [ht] at e2
 refine ⟨hv, Gx, e1, e2, e3, fun {g Gy} hy hGy => ?_⟩
 obtain ⟨k1, -⟩ := e4 (w' := w) (S := fun _ _ => False) (y := .s n l g) (Gy := Gy) (Chg.refl _ _) (fun _ _ _ h => h.elim) hy (fun a p h => .inl (hGy a p h))
 have hf : ∀ i, wFind [(0, .s n l g)] [(0, id, q, .s n l f)] i = if i = id then some (q, .s n l g) else none := fun i => by
  simp only [wFind, lookW, Nat.beq_refl, if_true]
  by_cases e : i = id
  ·subst e; simp
  ·rw [if_neg e, if_neg fun h => e (Nat.eq_of_beq_eq_true h).symm]
 have hnw : ∀ i t0, newW [(0, id, q, .s n l f)] [(0, .s n l g)] i t0 = if i = id then t0.set q (.s n l g) else t0 := fun i t0 => by
  simp only [newW, hf]
  by_cases e : i = id
  ·simp [e]
  ·simp [e]
 have hrt : ∀ {i m' t'}, rts (setWs [(0, id, q, .s n l f)] [(0, .s n l g)] L) i m' t' → (i = id ∧ m' = m ∧ t' = t.set q (.s n l g)) ∨ (i ≠ id ∧ rts L i m' t') := fun {i m' t'} h => by
  obtain ⟨t0, h1, h2⟩ := rts_setWs.1 h
  rw [hnw] at h2
  by_cases e : i = id
  ·subst e
   obtain ⟨rfl, rfl⟩ := hr.one _ _ _ _ _ h1 hid
   rw [if_pos rfl] at h2
   exact .inl ⟨rfl, rfl, h2⟩
  ·rw [if_neg e] at h2
   exact .inr ⟨e, h2 ▸ h1⟩
 have hri : rts (setWs [(0, id, q, .s n l f)] [(0, .s n l g)] L) id m (t.set q (.s n l g)) := rts_setWs.2 ⟨t, hid, by rw [hnw, if_pos rfl]⟩
 have hro : ∀ {i m' t'}, i ≠ id → rts L i m' t' → rts (setWs [(0, id, q, .s n l f)] [(0, .s n l g)] L) i m' t' := fun {i m' t'} h1 h2 => rts_setWs.2 ⟨t', h2, by rw [hnw, if_neg h1]⟩
 have hGs : ∀ i a p, updN G id (fun a p => (G id a p ∧ ¬ Gx a p) ∨ Gy a p) i a p → G i a p := fun i a p h => by
  by_cases e : i = id
  ·subst e
   simp only [updN, if_true] at h
   rcases h with h | h
   ·exact h.1
   ·exact e3 a p (hGy a p h)
  ·simpa only [updN, if_neg e] using h
 have hbeh : ∀ r, keepP [(0, id, q, .s n l f)] [(0, .s n l g)] id r = true ∨ r.length = q.length → ¬ beh q r := fun r h ⟨a, s, e⟩ => by
  subst e
  rcases h with h | h
  ·simp only [keepP, hf, if_true, pre_app, Bool.not_true] at h
   cases h
  ·simp at h
 have hleaf : ∀ {x v}, keepX [(0, id, q, .s n l f)] [(0, .s n l g)] x = true → VR (rts L) H w x v → VR (rts (setWs [(0, id, q, .s n l f)] [(0, .s n l g)] L)) H w x v := fun hx h =>
  VR.leaves (C := fun x => keepX [(0, id, q, .s n l f)] [(0, .s n l g)] x = true) (fun x v hl hx h => by
   cases x with
   | p i q' n' k' c' =>
    obtain ⟨m', t', h1, h2, ⟨l', f', h3, h4, h5⟩, h6⟩ := h
    by_cases e : i = id
    ·subst e
     obtain ⟨rfl, rfl⟩ := hr.one _ _ _ _ _ h1 hid
     have hb : ¬ beh q q' := by
      simp only [keepX, Bool.or_eq_true] at hx
      refine hbeh q' (hx.imp_right fun hx => ?_)
      simp only [keepN, hf, if_true, Bool.and_eq_true] at hx
      exact Nat.eq_of_beq_eq_true hx.1
     obtain ⟨c1, c2⟩ := set_at (y := .s n l g) hq hb h2
     rcases c2 with ⟨rfl, c3⟩ | ⟨_, c3⟩
     ·rw [ht] at h3; cases h3
      exact ⟨_, _, hri, c1, ⟨_, _, c3, h4, h5⟩, h6⟩
     ·obtain ⟨f2, c4⟩ := c3 h3
      exact ⟨_, _, hri, c1, ⟨_, _, c4, h4, h5⟩, h6⟩
    ·exact ⟨m', t', hro e h1, h2, ⟨l', f', h3, h4, h5⟩, h6⟩
   | h i q' =>
    obtain ⟨m', t', h1, h2, ⟨n', l', f', h3⟩, h6⟩ := h
    by_cases e : i = id
    ·subst e
     obtain ⟨rfl, rfl⟩ := hr.one _ _ _ _ _ h1 hid
     have hb : ¬ beh q q' := by
      simp only [keepX, Bool.or_eq_true, hf, if_true, Bool.and_eq_true] at hx
      exact hbeh q' (hx.imp_right fun hx => Nat.eq_of_beq_eq_true hx.1)
     obtain ⟨c1, c2⟩ := set_at (y := .s n l g) hq hb h2
     rcases c2 with ⟨rfl, c3⟩ | ⟨_, c3⟩
     ·exact ⟨_, _, hri, c1, ⟨_, _, _, c3⟩, h6⟩
     ·obtain ⟨f2, c4⟩ := c3 h3
      exact ⟨_, _, hri, c1, ⟨_, _, _, c4⟩, h6⟩
    ·exact ⟨m', t', hro e h1, h2, ⟨n', l', f', h3⟩, h6⟩
   | a i q' n' lo ln =>
    obtain ⟨m', t', h1, h2, ⟨l', f', h3, h4⟩, h6⟩ := h
    by_cases e : i = id
    ·subst e
     obtain ⟨rfl, rfl⟩ := hr.one _ _ _ _ _ h1 hid
     obtain ⟨c1, c2⟩ := set_at (y := .s n l g) hq (hbeh q' (.inl hx)) h2
     rcases c2 with ⟨rfl, c3⟩ | ⟨_, c3⟩
     ·rw [ht] at h3; cases h3
      exact ⟨_, _, hri, c1, ⟨_, _, c3, h4⟩, h6⟩
     ·obtain ⟨f2, c4⟩ := c3 h3
      exact ⟨_, _, hri, c1, ⟨_, _, c4, h4⟩, h6⟩
    ·exact ⟨m', t', hro e h1, h2, ⟨l', f', h3, h4⟩, h6⟩
   | _ => exact hl.elim) (keepX_all hx) h
 refine ⟨fun i m1 t1 m2 t2 h1 h2 => ?_, fun i m1 t1 h1 h2 => ?_, fun i t1 h1 => ?_, fun i t1 h1 x y hx => ?_, fun i t1 h1 => ?_, fun i m1 t1 i' m2 t2 h1 h2 hne hm1 x y hx hy => ?_, fun s x h => ?_, fun i c x h => ?_⟩
 ·rcases hrt h1 with ⟨rfl, rfl, rfl⟩ | ⟨a1, b1⟩ <;> rcases hrt h2 with ⟨c1, c2, c3⟩ | ⟨c1, c2⟩
  ·exact ⟨c2.symm, c3.symm⟩
  ·exact absurd rfl c1
  ·exact absurd c1 a1
  ·exact hr.one _ _ _ _ _ b1 c2
 ·rcases hrt h1 with ⟨rfl, rfl, rfl⟩ | ⟨a1, b1⟩
  ·simpa only [updN, if_true] using k1
  ·simp only [updN, if_neg a1]; exact hr.own _ _ _ b1 h2
 ·rcases hrt h1 with ⟨rfl, e, rfl⟩ | ⟨a1, b1⟩
  ·exact absurd e.symm hm
  ·simp only [updN, if_neg a1]; exact hr.ro _ _ b1
 ·rcases hrt h1 with ⟨rfl, e, rfl⟩ | ⟨a1, b1⟩
  ·exact absurd e.symm hm
  ·simp only [updN, if_neg a1] at hx; exact hr.rold _ _ b1 x y hx
 ·rcases hrt h1 with ⟨rfl, rfl, rfl⟩ | ⟨a1, b1⟩
  ·obtain ⟨n0, f0, rfl⟩ := hr.box _ _ hid
   by_cases hq0 : q = []
   ·subst hq0
    simp only [T.at] at ht
    cases ht
    exact ⟨_, _, by simp only [T.set]; rfl⟩
   ·obtain ⟨f', hf'⟩ := box_set (n := n0) (f := f0) (y := .s n l g) hq0
    exact ⟨_, _, hf'⟩
  ·exact hr.box _ _ b1
 ·have hx' := hGs _ _ _ hx
  have hy' := hGs _ _ _ hy
  rcases hrt h1 with ⟨rfl, rfl, rfl⟩ | ⟨a1, b1⟩ <;> rcases hrt h2 with ⟨rfl, rfl, rfl⟩ | ⟨c1, c2⟩
  ·exact hne rfl
  ·exact hr.dis _ _ _ _ _ _ hid c2 hne hm1 x y hx' hy'
  ·exact hr.dis _ _ _ _ _ _ b1 hid hne hm1 x y hx' hy'
  ·exact hr.dis _ _ _ _ _ _ b1 c2 hne hm1 x y hx' hy'
 ·obtain ⟨g1, g2⟩ := setWs_sl h
  exact hleaf g2 (hr.sl s x g1)
 ·obtain ⟨g1, g2, g3⟩ := setWs_al h
  obtain ⟨n0, f0, h1, h2, A, v, h3, h4, h5⟩ := hr.al i c x g1
  by_cases e : i = id
  ·subst e
   obtain ⟨rfl, rfl⟩ := hr.one _ _ _ _ _ h1 hid
   by_cases hq0 : q = []
   ·subst hq0
    simp only [keepP, hf, if_true, pre, Bool.not_true] at g3
    cases g3
   ·obtain ⟨f', hf'⟩ := box_set (n := n0) (f := f0) (y := .s n l g) hq0
    exact ⟨n0, f', hf' ▸ hri, h2, A, v, h3, h4, hleaf g2 h5⟩
  ·exact ⟨n0, f0, hro e h1, h2, A, v, h3, h4, hleaf g2 h5⟩
end
section
variable {P : Program} {N : Nat} {L : List E} {dst : Option Tmp} {ty : TypeId} {pos : String} {af : Array Edge} {gd : Option (Nat × Bool)} {d : Nat}
def drainT (n l lo m : Nat) (g : Nat → Nat → T) : T := .s n l fun k c => if lo ≤ k ∧ k < lo + m then flatT (g k c) else g k c
/-- append of a view of a row of the call's own: its elements go along -/
theorem Stp.appendV {t tx e : TypeId} {s x : Operand} {zt : List T} [hS : SlI P t e] [hSx : SlI P tx e] [hT : TyI P e zt] {L1 : List E} {len m lo l id : Nat} {q : Path} {f g : Nat → Nat → T} {mm : M} {t0 : T} (hd : dst = some d) (hN : d < N) (hb : d < base)
  (h1 : takeX L zt.length (evX L s) = some (L1, .s zt.length len f)) (hx : evX L x = .a id q zt.length lo m) (hlost : lostX (evX L s) (evX L x) = false) (hR : rootL L1 id = some (mm, t0)) (hmm : mm ≠ .ro) (hT0 : t0.at q = .s zt.length l g) (hle : lo + m ≤ l) (hbig : len + m ≤ 4194304) :
  Stp P N ⟨dst, .call { callee := .builtin .append, args := #[s, x], argTypes := #[t, tx] }, ty, pos, af, gd⟩ L (putL (.rt d .row (appT zt.length len f m fun k c => g (lo + k) c) :: delR (setWs [(0, id, q, .s zt.length l g)] [(0, drainT zt.length l lo m g)] L1) d) d (.h d [])) :=
 Stp.op (fun cx a w hs => by
  obtain ⟨H, G, hr, hG⟩ := hs.rp
  obtain ⟨G1, F1, r1, q1, o1, d1, s1, k1, u1, v1⟩ := take_ok hr hG hT.pos (ev_ok hr s) h1
  have hvx := k1 _ _ hlost (ev_ok hr x)
  rw [hx] at hvx
  obtain ⟨m', t', g1, g2, ⟨l2, f2, g3, g4⟩, hv, g5, ad, cap, g6, g7, g8, g9, ⟨a0, l0, g10⟩, g11⟩ := hvx
  obtain ⟨rfl, rfl⟩ := r1.one _ _ _ _ _ g1 (rootL_mem hR)
  obtain ⟨hv2, Gx, e1, e2, e3, e4⟩ := r1.drain hmm g1 g2 hT0
  rw [g5] at e1; cases e1
  obtain ⟨hn, a', cap0, h0, hl, hmx, b, off, V, Gk, w1, w2, w3, w4, w5⟩ := e2
  have hcap : cap0 = lo + cap := by rw [h0] at g10; cases g10; rfl
  have hGx : ∀ k c, k < l → c < zt.length → ∀ x y, Gk k c x y → Gx x y := fun k c hk hc x y h => (w5 x y).2 (.inr ⟨k, c, hk, hc, h⟩)
  have hpos := hT.pos
  have hsrc : ∃ news, Src P zt.length tx (a.eval x) m news w ∧ ∀ k c, k < m → c < zt.length → ∃ v, news[k * zt.length + c]? = some v ∧ Own w (g (lo + k) c) (Gk (lo + k) c) v := by
   rw [g6]
   by_cases hm0 : m = 0
   ·subst hm0
    refine ⟨[], ?_, fun k c hk => by omega⟩
    cases ad with
    | none => exact Src.ofNil (P := P) w hSx.sl cap
    | some ad => exact Src.ofSlice (P := P) w hSx.sl ad 0 cap [] (by simp) (by simp) (by simp)
   ·have hc0 : 0 < cap := by omega
    obtain ⟨rfl, -⟩ := w1 (by omega)
    have had := g11 b off _ _ h0 hc0
    subst had
    refine ⟨(List.range (m * zt.length)).map fun j => V (lo + j / zt.length) (j % zt.length), Src.ofSlice (P := P) w hSx.sl _ m cap _ (by simp) (fun j u hj => ?_) (fun u hu => ?_), fun k c hk hc => ?_⟩
    ·simp only [List.getElem?_map] at hj
     have hlt : j < m * zt.length := by
      rcases Nat.lt_or_ge j (m * zt.length) with h | h
      ·exact h
      ·rw [List.getElem?_eq_none (by simpa using h)] at hj; cases hj
     rw [List.getElem?_range hlt] at hj
     simp only [Option.map_some, Option.some.injEq] at hj
     rw [← hj, Addr.add_lit]
     have hdm : j / zt.length < m := (Nat.div_lt_iff_lt_mul hpos).2 hlt
     have := (w2 (lo + j / zt.length) (j % zt.length) (by omega) (Nat.mod_lt _ hpos)).1
     have hj2 : j / zt.length * zt.length + j % zt.length = j := by rw [Nat.mul_comm]; exact Nat.div_add_mod j _
     rwa [show off + ((lo + j / zt.length) * zt.length + j % zt.length) = off + lo * zt.length + j by rw [Nat.add_mul]; omega] at this
    ·obtain ⟨j, hj, rfl⟩ := List.mem_map.1 hu
     have hlt : j < m * zt.length := List.mem_range.1 hj
     have hdm : j / zt.length < m := (Nat.div_lt_iff_lt_mul hpos).2 hlt
     exact (w2 (lo + j / zt.length) (j % zt.length) (by omega) (Nat.mod_lt _ hpos)).2.one
    ·have hlt := row_lt (Nat.le_refl m) hk hc
     refine ⟨V (lo + k) c, ?_, (w2 (lo + k) c (by omega) hc).2⟩
     simp only [List.getElem?_map, List.getElem?_range hlt, Option.map_some]
     rw [show (k * zt.length + c) / zt.length = k by rw [Nat.mul_comm, Nat.mul_add_div hpos, Nat.div_eq_of_lt hc]; rfl, show (k * zt.length + c) % zt.length = c by rw [Nat.mul_comm, Nat.mul_add_mod, Nat.mod_eq_of_lt hc]]
  obtain ⟨news, n1, n2⟩ := hsrc
  obtain ⟨v', w', F', p1, p2, p3, p4⟩ := own_app (ty := ty) hS hT o1 n1 n2 (fun k c k' c' hne hk hc hk' hc' => w3 _ _ _ _ (by omega) (by omega) hc (by omega) hc') (fun k c hk hc x y h h' => d1 id _ _ g1 x y (e3 x y (hGx _ _ (by omega) hc x y h)) h') hbig
  have hdr : Own w (drainT zt.length l lo m g) (fun x y => Gx x y ∧ ¬ ∃ k c, k < m ∧ c < zt.length ∧ Gk (lo + k) c x y) hv := by
   refine ⟨hn, a', cap0, h0, hl, hmx, b, off, V, fun k c => if lo ≤ k ∧ k < lo + m then fun _ _ => False else Gk k c, w1, fun k c hk hc => ⟨(w2 k c hk hc).1, ?_⟩, fun k c k' c' hne hk hc hk' hc' x y h h' => ?_, fun k c hk hc x y h => ?_, fun x y => ?_⟩
   ·by_cases hin : lo ≤ k ∧ k < lo + m
    ·simp only [if_pos hin]; exact (w2 k c hk hc).2.rd.flat
    ·simp only [if_neg hin]; exact (w2 k c hk hc).2
   ·by_cases hin : lo ≤ k ∧ k < lo + m
    ·simp only [if_pos hin] at h
    ·by_cases hin' : lo ≤ k' ∧ k' < lo + m
     ·simp only [if_pos hin'] at h'
     ·simp only [if_neg hin] at h
      simp only [if_neg hin'] at h'
      exact w3 k c k' c' hne hk hc hk' hc' x y h h'
   ·by_cases hin : lo ≤ k ∧ k < lo + m
    ·simp only [if_pos hin] at h
    ·simp only [if_neg hin] at h
     exact w4 k c hk hc x y h
   ·constructor
    ·rintro ⟨h, hno⟩
     rcases (w5 x y).1 h with h | ⟨k, c, hk, hc, h⟩
     ·exact .inl h
     ·refine .inr ⟨k, c, hk, hc, ?_⟩
      by_cases hin : lo ≤ k ∧ k < lo + m
      ·exact absurd ⟨k - lo, c, by omega, hc, by rw [show lo + (k - lo) = k by omega]; exact h⟩ hno
      ·simp only [if_neg hin]; exact h
    ·rintro (h | ⟨k, c, hk, hc, h⟩)
     ·exact ⟨(w5 x y).2 (.inl h), fun ⟨k, c, hk, hc, hg⟩ => w4 (lo + k) c (by omega) hc x y hg h.2⟩
     ·by_cases hin : lo ≤ k ∧ k < lo + m
      ·simp only [if_pos hin] at h
      ·simp only [if_neg hin] at h
       exact ⟨hGx k c hk hc x y h, fun ⟨k', c', hk', hc', hg⟩ => w3 k c (lo + k') c' (by omega) hk hc (by omega) hc' x y h hg⟩
  have r2 := e4 hdr (fun _ _ h => h.1)
  have hGs : ∀ i x y, updN G1 id (fun x y => (G1 id x y ∧ ¬ Gx x y) ∨ (Gx x y ∧ ¬ ∃ k c, k < m ∧ c < zt.length ∧ Gk (lo + k) c x y)) i x y → G1 i x y ∧ (i = id → ¬ ∃ k c, k < m ∧ c < zt.length ∧ Gk (lo + k) c x y) := fun i x y h => by
   by_cases e : i = id
   ·subst e
    simp only [updN, if_true] at h
    rcases h with h | h
    ·exact ⟨h.1, fun _ ⟨k, c, hk, hc, hg⟩ => h.2 (hGx _ _ (by omega) hc x y hg)⟩
    ·exact ⟨e3 x y h.1, fun _ => h.2⟩
   ·simp only [updN, if_neg e] at h
    exact ⟨h, fun e' => absurd e' e⟩
  refine ⟨v', w', run_append p1, ?_⟩
  rw [hd]
  have hq2 : ∀ i m2 t2, rts (setWs [(0, id, q, .s zt.length l g)] [(0, drainT zt.length l lo m g)] L1) i m2 t2 → ∃ t1, rts L1 i m2 t1 := fun i m2 t2 h => by
   obtain ⟨t1, h1, _⟩ := rts_setWs.1 h
   exact ⟨t1, h1⟩
  refine hs.newS r2 ⟨fun i m2 t2 h h2 x y h3 => ?_, fun i m2 t2 h0 h => ?_⟩ p3 (fun i m2 t2 h x y h3 h4 => ?_) s1 hN hb (by simp) (t := appT zt.length len f m fun k c => g (lo + k) c) (F := F') (h := v') p2 (fun h => by cases h) (fun i m2 t2 _ h x y h3 h4 => ?_) (fun x y h => ?_) VR.here
  ·obtain ⟨t1, h1⟩ := hq2 _ _ _ h
   exact q1.1 i m2 t1 h1 h2 x y (hGs i x y h3).1
  ·obtain ⟨t1, h1⟩ := hq2 _ _ _ h
   exact q1.2 i m2 t1 h0 h1
  ·obtain ⟨t1, h1⟩ := hq2 _ _ _ h
   exact d1 i m2 t1 h1 x y (hGs i x y h3).1 h4
  ·obtain ⟨t1, h1⟩ := hq2 _ _ _ h
   obtain ⟨k3, k4⟩ := hGs i x y h3
   rcases p4 x y h4 with h5 | ⟨k, c, hk, hc, h5⟩ | h5
   ·exact d1 i m2 t1 h1 x y k3 h5
   ·by_cases e : i = id
    ·exact k4 e ⟨k, c, hk, hc, h5⟩
    ·exact r1.dis _ _ _ _ _ _ g1 h1 (Ne.symm e) hmm x y (e3 x y (hGx _ _ (by omega) hc x y h5)) k3
   ·have : x < w.heap.size := by
     by_cases hm2 : m2 = .ro
     ·subst hm2; exact r1.rold i t1 h1 x y k3
     ·exact (r1.own i m2 t1 h1 hm2).old x y k3
    omega
  ·rcases p4 x y h with h5 | ⟨k, c, hk, hc, h5⟩ | h5
   ·exact s1 x y h5
   ·exact q1.1 id _ _ g1 hmm x y (e3 x y (hGx _ _ (by omega) hc x y h5))
   ·have := hs.chg.size; exact .inr (by omega))
end
end Go.Proofs.Ytfbefcmeghpalaa.VM
namespace Go.Proofs.Ytfbefcmeghpalaa.VM
open Go Go.RowKit Go.Sort
/-! slices.Delete, slices.Insert at rows of n cells, from their runs; a contract over plain cells, lifted to what the cells own -/
def DelRun (P : Program) (f : FuncId) (n : Nat) : Prop := ∀ (b off cap sz l i j : Nat) (V : Nat → Nat → Value) (w : World), (∀ k c, k < l → c < n → w.cell? ⟨b, off + (k * n + c), none⟩ = some (V k c) ∧ (V k c).oneCell' = true) → Kd w b sz → off + cap * n ≤ sz → l ≤ cap → cap ≤ maxLen → i < j → j ≤ l →
 Calls P f #[.slice (some ⟨b, off, none⟩) l cap, .int .i64 i, .int .i64 j] w fun e w' => e = .returned (.slice (some ⟨b, off, none⟩) (l - (j - i)) cap) ∧ Chg (blkFP b) w w' ∧ ∀ k c, k < l - (j - i) → c < n → w'.cell? ⟨b, off + (k * n + c), none⟩ = some (V (if k < i then k else k + (j - i)) c)
def InsRun (P : Program) (f : FuncId) (n : Nat) : Prop := ∀ (b off cap sz l i vb voff vcap vsz : Nat) (V : Nat → Nat → Value) (U : Nat → Value) (a : Option Addr) (w : World), (∀ k c, k < l → c < n → w.cell? ⟨b, off + (k * n + c), none⟩ = some (V k c) ∧ (V k c).oneCell' = true) → (∀ c, c < n → w.cell? ⟨vb, voff + c, none⟩ = some (U c) ∧ (U c).oneCell' = true) →
 (0 < cap → a = some ⟨b, off, none⟩ ∧ Kd w b sz ∧ off + cap * n ≤ sz) → Kd w vb vsz → voff + vcap * n ≤ vsz → 1 ≤ vcap → (0 < cap → vb ≠ b) → l ≤ cap → cap ≤ maxLen → i ≤ l → l ≤ 1000000 →
 Calls P f #[.slice a l cap, .int .i64 i, .slice (some ⟨vb, voff, none⟩) 1 vcap] w fun e w' => ∃ b' off' cap' sz', e = .returned (.slice (some ⟨b', off', none⟩) (l + 1) cap') ∧ l + 1 ≤ cap' ∧ cap' ≤ maxLen ∧ Kd w' b' sz' ∧ off' + cap' * n ≤ sz' ∧ ((0 < cap ∧ b' = b) ∨ w.heap.size ≤ b') ∧ Chg (fun x _ => 0 < cap ∧ x = b) w w' ∧
  ∀ k c, k < l + 1 → c < n → w'.cell? ⟨b', off' + (k * n + c), none⟩ = some (if k < i then V k c else if k = i then U c else V (k - 1) c)
def delT (n len i j : Nat) (f : Nat → Nat → T) : T := .s n (len - (j - i)) fun k c => f (if k < i then k else k + (j - i)) c
def insT (n len i : Nat) (f g : Nat → Nat → T) : T := .s n (len + 1) fun k c => if k < i then f k c else if k = i then g 0 c else f (k - 1) c
theorem con_delN {P : Program} {f : FuncId} {n : Nat} (hs : DelRun P f n) {len : Nat} {fT : Nat → Nat → T} (i j : Nat) (hij : i < j) (hj : j ≤ len) : Con P f [.h base [], .v (iv i), .v (iv j)] [.rt base .row (.s n len fT)] (RetW (.h 0 []) [(0, .row, delT n len i j fT)] [(base, .j)]) := by
 intro w vs H G _ _ hr hv
 match vs, hv with
 | [v, v1, v2], ⟨⟨m, t, _, _, _, hh⟩, hv1, hv2, _⟩ =>
 simp only [hd, Option.some.injEq] at hh
 obtain rfl : v1 = iv i := hv1
 obtain rfl : v2 = iv j := hv2
 have hb : rts [.rt base .row (.s n len fT)] base .row (.s n len fT) := List.mem_singleton.2 rfl
 obtain ⟨hn, a, cap, e0, hl, hm, b, off, V, Gk, h1, h2, h3, h4, h5⟩ := hr.own base .row _ hb (by simp)
 obtain ⟨rfl, sz, hK, hsz⟩ := h1 (by omega)
 have hv : v = .slice (some ⟨b, off, none⟩) len cap := by rw [← hh, e0]
 subst hv
 refine (hs b off cap sz len i j V w (fun k c hk hc => ⟨(h2 k c hk hc).1, (h2 k c hk hc).2.one⟩) hK hsz hl hm hij hj).mono ?_
 rintro e w' ⟨rfl, hC, hcell⟩
 have hlt : ∀ k, k < len - (j - i) → (if k < i then k else k + (j - i)) < len := fun k hk => by split <;> omega
 have hO : Own w' (delT n len i j fT) (fun x y => (0 < cap ∧ blkFP b x y) ∨ ∃ k c, k < len - (j - i) ∧ c < n ∧ Gk (if k < i then k else k + (j - i)) c x y) (.slice (some ⟨b, off, none⟩) (len - (j - i)) cap) :=
  ⟨hn, _, cap, rfl, by omega, hm, b, off, fun k c => V (if k < i then k else k + (j - i)) c, fun k c => Gk (if k < i then k else k + (j - i)) c, fun _ => ⟨rfl, sz, hK.chg hC, hsz⟩, fun k c hk hc => ⟨hcell k c hk hc, (h2 _ c (hlt k hk) hc).2.frame hC fun x y hg hx => h4 _ c (hlt k hk) hc x y hg hx⟩,
   fun k c k' c' hne hk hc hk' hc' => h3 _ _ _ _ (hne.elim (fun hne => .inl (by split <;> split <;> omega)) .inr) (hlt k hk) hc (hlt k' hk') hc', fun k c hk hc => h4 _ c (hlt k hk) hc, fun x y => Iff.rfl⟩
 have hS : ∀ a o, blkFP b a o → ∃ id m t, rts [E.rt base .row (.s n len fT)] id m t ∧ m ≠ .ro ∧ G id a o := fun a o h => ⟨base, .row, _, hb, by simp, (h5 a o).2 (.inl ⟨by omega, h⟩)⟩
 obtain ⟨x, L, H', G', val, r⟩ := row_new [base] hr (fun id h => by cases List.mem_singleton.1 h; exact ⟨Nat.le_refl _, .row, _, by simp, hb⟩) hC hS hO rfl (fun a o h => .inl ⟨base, .row, _, hb, by simp, (h5 a o).2 (by
  rcases h with h | ⟨k, c, hk, hc, h⟩
  ·exact .inl h
  ·exact .inr ⟨_, c, hlt k hk, hc, h⟩)⟩)
 exact ⟨_, x, L, H', G', val, rfl, r⟩
theorem con_insN {P : Program} {f : FuncId} {n : Nat} (hs : InsRun P f n) {len : Nat} {fT gT : Nat → Nat → T} (i : Nat) (hi : i ≤ len) (hlen : len ≤ 1000000) : Con P f [.h base [], .v (iv i), .h (base + 1) []] [.rt base .row (.s n len fT), .rt (base + 1) .row (.s n 1 gT)] (RetW (.h 0 []) [(0, .row, insT n len i fT gT)] [(base, .j), (base + 1, .j)]) := by
 intro w vs H G _ _ hr hv
 match vs, hv with
 | [v, v1, v2], ⟨⟨m, t, _, _, _, hh⟩, hv1, ⟨m2, t2, _, _, _, hh2⟩, _⟩ =>
 simp only [hd, Option.some.injEq] at hh hh2
 obtain rfl : v1 = iv i := hv1
 have hb : rts [.rt base .row (.s n len fT), .rt (base + 1) .row (.s n 1 gT)] base .row (.s n len fT) := List.mem_cons_self ..
 have hb2 : rts [.rt base .row (.s n len fT), .rt (base + 1) .row (.s n 1 gT)] (base + 1) .row (.s n 1 gT) := List.mem_cons_of_mem _ (List.mem_cons_self ..)
 have hO1 := hr.own base .row _ hb (by simp)
 have hO2 := hr.own (base + 1) .row _ hb2 (by simp)
 have hold1 := fun x y h => hO1.old x y h
 have hold2 := fun x y h => hO2.old x y h
 obtain ⟨hn, a, cap, e0, hl, hm, b, off, V, Gk, h1, h2, h3, h4, h5⟩ := hO1
 obtain ⟨_, a2, cap2, e02, hl2, hm2, vb, voff, U, Gu, g1, g2, g3, g4, g5⟩ := hO2
 obtain ⟨rfl, vsz, hK2, hsz2⟩ := g1 (by omega)
 have hv : v = .slice a len cap := by rw [← hh, e0]
 have hv2 : v2 = .slice (some ⟨vb, voff, none⟩) 1 cap2 := by rw [← hh2, e02]
 subst hv hv2
 have hne : 0 < cap → vb ≠ b := fun h e => hr.dis (base + 1) .row _ base .row _ hb2 hb (by omega) (by simp) b 0 ((g5 b 0).2 (.inl ⟨by omega, e.symm⟩)) ((h5 b 0).2 (.inl ⟨h, rfl⟩))
 have hcsz : ∃ sz, 0 < cap → a = some ⟨b, off, none⟩ ∧ Kd w b sz ∧ off + cap * n ≤ sz := by
  by_cases hc : 0 < cap
  ·obtain ⟨q1, sz, q2, q3⟩ := h1 hc
   exact ⟨sz, fun _ => ⟨q1, q2, q3⟩⟩
  ·exact ⟨0, fun h => absurd h hc⟩
 obtain ⟨sz, hcsz⟩ := hcsz
 have hGk : ∀ k c, k < len → c < n → ∀ x y, Gk k c x y → G base x y := fun k c hk hc x y h => (h5 x y).2 (.inr ⟨k, c, hk, hc, h⟩)
 have hGu : ∀ c, c < n → ∀ x y, Gu 0 c x y → G (base + 1) x y := fun c hc x y h => (g5 x y).2 (.inr ⟨0, c, by omega, hc, h⟩)
 have hgd : ∀ k c c', k < len → c < n → c' < n → ∀ x y, Gk k c x y → Gu 0 c' x y → False := fun k c c' hk hc hc' x y h h' => hr.dis base .row _ (base + 1) .row _ hb hb2 (by omega) (by simp) x y (hGk k c hk hc x y h) (hGu c' hc' x y h')
 refine (hs b off cap sz len i vb voff cap2 vsz V (U 0) a w (fun k c hk hc => ⟨(h2 k c hk hc).1, (h2 k c hk hc).2.one⟩) (fun c hc => by have := g2 0 c (by omega) hc; rw [Nat.zero_mul, Nat.zero_add] at this; exact ⟨this.1, this.2.one⟩) hcsz hK2 hsz2 hl2 hne hl hm hi hlen).mono ?_
 rintro e w' ⟨b', off', cap', sz', rfl, q1, q2, q3, q4, q5, hC, hcell⟩
 have hold : ∀ x y, (∃ k c, k < len ∧ c < n ∧ Gk k c x y) ∨ (∃ c, c < n ∧ Gu 0 c x y) → x < w.heap.size := fun x y h => by
  rcases h with ⟨k, c, hk, hc, h⟩ | ⟨c, hc, h⟩
  ·exact hold1 x y (hGk k c hk hc x y h)
  ·exact hold2 x y (hGu c hc x y h)
 have hnb : ∀ k c, k < len → c < n → ∀ x y, Gk k c x y → x = b' → False := fun k c hk hc x y h e => by
  rcases q5 with ⟨q5, rfl⟩ | q5
  ·exact h4 k c hk hc x y h e
  ·have := hold x y (.inl ⟨k, c, hk, hc, h⟩); omega
 have hnb2 : ∀ c, c < n → ∀ x y, Gu 0 c x y → x = b' → False := fun c hc x y h e => by
  rcases q5 with ⟨q5, rfl⟩ | q5
  ·exact hr.dis (base + 1) .row _ base .row _ hb2 hb (by omega) (by simp) x y (hGu c hc x y h) ((h5 x y).2 (.inl ⟨q5, e⟩))
  ·have := hold x y (.inr ⟨c, hc, h⟩); omega
 have hfr1 : ∀ k c, k < len → c < n → Own w' (fT k c) (Gk k c) (V k c) := fun k c hk hc => (h2 k c hk hc).2.frame hC fun x y hg hx => h4 k c hk hc x y hg hx.2
 have hfr2 : ∀ c, c < n → Own w' (gT 0 c) (Gu 0 c) (U 0 c) := fun c hc => (g2 0 c (by omega) hc).2.frame hC fun x y hg hx => hr.dis (base + 1) .row _ base .row _ hb2 hb (by omega) (by simp) x y (hGu c hc x y hg) ((h5 x y).2 (.inl hx))
 have hO : Own w' (insT n len i fT gT) (fun x y => (0 < cap' ∧ blkFP b' x y) ∨ ∃ k c, k < len + 1 ∧ c < n ∧ (if k < i then Gk k c else if k = i then Gu 0 c else Gk (k - 1) c) x y) (.slice (some ⟨b', off', none⟩) (len + 1) cap') := by
  refine ⟨hn, _, cap', rfl, q1, q2, b', off', fun k c => if k < i then V k c else if k = i then U 0 c else V (k - 1) c, fun k c => if k < i then Gk k c else if k = i then Gu 0 c else Gk (k - 1) c, fun _ => ⟨rfl, sz', q3, q4⟩, fun k c hk hc => ⟨hcell k c hk hc, ?_⟩, fun k c k' c' hn' hk hc hk' hc' x y h h' => ?_, fun k c hk hc x y h hx => ?_, fun x y => Iff.rfl⟩
  ·by_cases c1 : k < i
   ·simp only [if_pos c1]; exact hfr1 k c (by omega) hc
   ·by_cases c2 : k = i
    ·simp only [if_neg c1, if_pos c2]; exact hfr2 c hc
    ·simp only [if_neg c1, if_neg c2]; exact hfr1 (k - 1) c (by omega) hc
  ·dsimp only at h h'
   by_cases c1 : k < i <;> by_cases d1 : k' < i
   ·rw [if_pos c1] at h; rw [if_pos d1] at h'; exact h3 k c k' c' hn' (by omega) hc (by omega) hc' x y h h'
   ·rw [if_pos c1] at h; rw [if_neg d1] at h'
    by_cases d2 : k' = i
    ·rw [if_pos d2] at h'; exact hgd k c c' (by omega) hc hc' x y h h'
    ·rw [if_neg d2] at h'; exact h3 k c (k' - 1) c' (by omega) (by omega) hc (by omega) hc' x y h h'
   ·rw [if_neg c1] at h; rw [if_pos d1] at h'
    by_cases c2 : k = i
    ·rw [if_pos c2] at h; exact hgd k' c' c (by omega) hc' hc x y h' h
    ·rw [if_neg c2] at h; exact h3 (k - 1) c k' c' (by omega) (by omega) hc (by omega) hc' x y h h'
   ·rw [if_neg c1] at h; rw [if_neg d1] at h'
    by_cases c2 : k = i <;> by_cases d2 : k' = i
    ·rw [if_pos c2] at h; rw [if_pos d2] at h'; exact g3 0 c 0 c' (by omega) (by omega) hc (by omega) hc' x y h h'
    ·rw [if_pos c2] at h; rw [if_neg d2] at h'; exact hgd (k' - 1) c' c (by omega) hc' hc x y h' h
    ·rw [if_neg c2] at h; rw [if_pos d2] at h'; exact hgd (k - 1) c c' (by omega) hc hc' x y h h'
    ·rw [if_neg c2] at h; rw [if_neg d2] at h'; exact h3 (k - 1) c (k' - 1) c' (by omega) (by omega) hc (by omega) hc' x y h h'
  ·dsimp only at h
   by_cases c1 : k < i
   ·rw [if_pos c1] at h; exact hnb k c (by omega) hc x y h hx
   ·rw [if_neg c1] at h
    by_cases c2 : k = i
    ·rw [if_pos c2] at h; exact hnb2 c hc x y h hx
    ·rw [if_neg c2] at h; exact hnb (k - 1) c (by omega) hc x y h hx
 have hS : ∀ a o, 0 < cap ∧ a = b → ∃ id m t, rts [E.rt base .row (.s n len fT), .rt (base + 1) .row (.s n 1 gT)] id m t ∧ m ≠ .ro ∧ G id a o := fun a o h => ⟨base, .row, _, hb, by simp, (h5 a o).2 (.inl h)⟩
 obtain ⟨x, L, H', G', val, r⟩ := row_new [base, base + 1] hr (fun id h => by
  rcases List.mem_cons.1 h with rfl | h
  ·exact ⟨Nat.le_refl _, .row, _, by simp, hb⟩
  ·cases List.mem_singleton.1 h
   exact ⟨by omega, .row, _, by simp, hb2⟩) hC hS hO rfl (fun x y h => by
  rcases h with ⟨_, h⟩ | ⟨k, c, hk, hc, h⟩
  ·rcases q5 with ⟨q5, rfl⟩ | q5
   ·exact .inl ⟨base, .row, _, hb, by simp, (h5 x y).2 (.inl ⟨q5, h⟩)⟩
   ·have : x = b' := h
    exact .inr (by omega)
  ·by_cases c1 : k < i
   ·rw [if_pos c1] at h; exact .inl ⟨base, .row, _, hb, by simp, hGk k c (by omega) hc x y h⟩
   ·rw [if_neg c1] at h
    by_cases c2 : k = i
    ·rw [if_pos c2] at h; exact .inl ⟨base + 1, .row, _, hb2, by simp, hGu c hc x y h⟩
    ·rw [if_neg c2] at h; exact .inl ⟨base, .row, _, hb, by simp, hGk (k - 1) c (by omega) hc x y h⟩)
 exact ⟨_, x, L, H', G', val, rfl, r⟩
/-- arguments that speak of no row -/
def X.plain : X → Bool
 | .v _ => true
 | .f _ [] => true
 | _ => false
theorem VR.plain {R R' : RT} {H H' : Nat → Value} {w : World} {x : X} {v : Value} (hx : x.plain = true) (h : VR R H w x v) : VR R' H' w x v := by
 cases x with
 | v y => exact h
 | f fn xs =>
  cases xs with
  | nil =>
   obtain ⟨vs, h1, h2⟩ := h
   exact ⟨vs, h1, by cases vs <;> first | trivial | exact h2.elim⟩
  | cons _ _ => cases hx
 | _ => cases hx
theorem VRs.plain {R R' : RT} {H H' : Nat → Value} {w : World} : ∀ {xs : List X} {vs : List Value}, xs.all X.plain = true → VRs R H w xs vs → VRs R' H' w xs vs
 | [], [], _, _ => trivial
 | _ :: _, _ :: _, hx, ⟨h1, h2⟩ => by
  simp only [List.all_cons, Bool.and_eq_true] at hx
  exact ⟨h1.plain hx.1, VRs.plain hx.2 h2⟩
 | [], _ :: _, _, h => h.elim
 | _ :: _, [], _, h => h.elim
/-- a row whose elements are put in another order: whatever they own goes along -/
theorem con_lift {P : Program} {f : FuncId} {n len : Nat} {fT : Nat → Nat → T} (σ : Nat → Nat) (hσ : ∀ k, k < len → σ k < len) (hinj : ∀ k k', k < len → k' < len → σ k = σ k' → k = k') {xs : List X} (hxs : xs.all X.plain = true)
  (hc : ∀ V : Nat → Nat → Value, (∀ k c, k < len → c < n → (V k c).oneCell' = true) → (∀ k c x, k < len → c < n → fT k c = .v x → V k c = x) → Con P f (.h base [] :: xs) [.rt base .row (.s n len fun k c => .v (V k c))] (RetW (.t []) [] [(base, .s n len fun k c => .v (V (σ k) c))])) :
  Con P f (.h base [] :: xs) [.rt base .row (.s n len fT)] (RetW (.t []) [] [(base, .s n len fun k c => fT (σ k) c)]) := by
 intro w vs H G ht ha hr hv
 match vs, hv with
 | v :: vs, ⟨⟨m, t, hm1, _, _, hh⟩, hvs⟩ =>
 simp only [hd, Option.some.injEq] at hh
 have hb : rts [.rt base .row (.s n len fT)] base .row (.s n len fT) := List.mem_singleton.2 rfl
 obtain ⟨hn, a, cap, e0, hl, hm, b, off, V, Gk, h1, h2, h3, h4, h5⟩ := hr.own base .row _ hb (by simp)
 have hbf : rts [.rt base .row (.s n len fun k c => .v (V k c))] base .row (.s n len fun k c => .v (V k c)) := List.mem_singleton.2 rfl
 have hone : ∀ {id m t}, rts [E.rt base .row (.s n len fun k c => .v (V k c))] id m t → id = base ∧ m = .row ∧ t = .s n len fun k c => .v (V k c) := fun h => by
  cases List.mem_singleton.1 h; exact ⟨rfl, rfl, rfl⟩
 let Gf : Nat → FP := fun _ x _ => 0 < cap ∧ x = b
 have hGf : ∀ x y, Gf base x y → G base x y := fun x y h => (h5 x y).2 (.inl h)
 have hrf : Rp [.rt base .row (.s n len fun k c => .v (V k c))] (fun _ => undef) H Gf w := by
  refine ⟨fun id m t m' t' k1 k2 => ?_, fun id m t k1 _ => ?_, fun id t k => ?_, fun id t k => ?_, fun id t k => ?_, fun id m t id' m' t' k1 k2 hne => ?_, fun s x k => ?_, fun id c x k => ?_⟩
  ·obtain ⟨rfl, rfl, rfl⟩ := hone k1
   obtain ⟨_, rfl, rfl⟩ := hone k2
   exact ⟨rfl, rfl⟩
  ·obtain ⟨rfl, rfl, rfl⟩ := hone k1
   exact ⟨hn, a, cap, e0, hl, hm, b, off, V, fun _ _ _ _ => False, h1, fun k c hk hc => ⟨(h2 k c hk hc).1, rfl, (h2 k c hk hc).2.one, fun _ _ h => h⟩, fun _ _ _ _ _ _ _ _ _ _ _ h => h.elim, fun _ _ _ _ _ _ h => h.elim, fun x y => ⟨fun h => .inl h, fun h => h.elim id fun ⟨_, _, _, _, h⟩ => h.elim⟩⟩
  ·obtain ⟨_, e, _⟩ := hone k; cases e
  ·obtain ⟨_, e, _⟩ := hone k; cases e
  ·obtain ⟨_, e, _⟩ := hone k; cases e
  ·obtain ⟨rfl, _, _⟩ := hone k1
   obtain ⟨rfl, _, _⟩ := hone k2
   exact absurd rfl hne
  ·cases List.mem_singleton.1 k
  ·cases List.mem_singleton.1 k
 refine (hc V (fun k c hk hc => (h2 k c hk hc).2.one) (fun k c x hk hc hf => by have := (h2 k c hk hc).2; rw [hf] at this; exact this.1) w (v :: vs) H Gf ht (fun id m t k1 k2 x y k3 => by
  obtain ⟨rfl, _, _⟩ := hone k1
  exact ha base .row _ hb (by simp) x y (hGf x y k3)) hrf ⟨⟨.row, _, hbf, trivial, ⟨_, _, _, rfl⟩, by simp only [hd, hh]⟩, hvs.plain hxs⟩).mono ?_
 rintro e w' ⟨v', x, L, H', G', val, rfl, ⟨ρ, rfl, hfix, _, _, hW⟩, hr', hx', hC, hG', hH'⟩
 have hbL : rts L base .row (.s n len fun k c => .v (V (σ k) c)) := hW _ (List.mem_singleton.2 rfl)
 have hHb : H' base = H base := hH' base _ _ (Nat.le_refl _) hbL
 obtain ⟨_, a', cap', e0', _, _, b', off', V', G0, k1, k2, _, _, _⟩ := hr'.own base .row _ hbL (by simp)
 rw [hHb, e0] at e0'
 cases e0'
 have hC' : Chg (fun x _ => 0 < cap ∧ x = b) w w' := hC.mono fun x y _ ⟨id, m, t, q1, _, q3⟩ => q3
 have hcell : ∀ k c, k < len → c < n → w'.cell? ⟨b, off + (k * n + c), none⟩ = some (V (σ k) c) := fun k c hk hc' => by
  obtain ⟨q1, q2, q3⟩ := k2 k c hk hc'
  have hp : 0 < cap := by omega
  have e1 := (h1 hp).1
  have e2 := (k1 hp).1
  rw [e1] at e2
  cases e2
  rw [q1, q2]
 have hO : Own w' (.s n len fun k c => fT (σ k) c) (fun x y => (0 < cap ∧ blkFP b x y) ∨ ∃ k c, k < len ∧ c < n ∧ Gk (σ k) c x y) (H' base) := by
  rw [hHb]
  exact ⟨hn, a, cap, e0, hl, hm, b, off, fun k c => V (σ k) c, fun k c => Gk (σ k) c, fun hp => ⟨(h1 hp).1, let ⟨sz, q1, q2⟩ := (h1 hp).2; ⟨sz, q1.chg hC', q2⟩⟩, fun k c hk hc => ⟨hcell k c hk hc, (h2 _ c (hσ k hk) hc).2.frame hC' fun x y hg hx => h4 _ c (hσ k hk) hc x y hg hx.2⟩,
   fun k c k' c' hne hk hc hk' hc' => h3 _ _ _ _ (hne.imp_left fun hne h => hne (hinj k k' hk hk' h)) (hσ k hk) hc (hσ k' hk') hc', fun k c hk hc => h4 _ c (hσ k hk) hc, fun x y => Iff.rfl⟩
 have hone2 : ∀ {id m t}, rts [E.rt base .row (.s n len fun k c => fT (σ k) c)] id m t → id = base ∧ m = .row ∧ t = .s n len fun k c => fT (σ k) c := fun h => by
  cases List.mem_singleton.1 h; exact ⟨rfl, rfl, rfl⟩
 have hb2 : rts [.rt base .row (.s n len fun k c => fT (σ k) c)] base .row (.s n len fun k c => fT (σ k) c) := List.mem_singleton.2 rfl
 have hFG : ∀ x y, ((0 < cap ∧ blkFP b x y) ∨ ∃ k c, k < len ∧ c < n ∧ Gk (σ k) c x y) → G base x y := fun x y h => by
  rcases h with h | ⟨k, c, hk, hc, h⟩
  ·exact (h5 x y).2 (.inl h)
  ·exact (h5 x y).2 (.inr ⟨σ k, c, hσ k hk, hc, h⟩)
 refine ⟨v', .t [], [.rt base .row (.s n len fun k c => fT (σ k) c)], H', fun _ x y => (0 < cap ∧ blkFP b x y) ∨ ∃ k c, k < len ∧ c < n ∧ Gk (σ k) c x y, fun _ => undef, rfl, ⟨fun n => n, rfl, fun _ _ => rfl, List.nodup_nil, by simp, fun p hp => by cases List.mem_singleton.1 hp; exact hb2⟩, ?_, ?_, hC.mono fun x y _ ⟨id, m, t, q1, _, q3⟩ => ⟨base, .row, _, hb, by simp, hGf x y q3⟩, fun id m t q1 _ x y q3 => .inl ⟨base, .row, _, hb, by simp, hFG x y q3⟩, fun id m t q1 q2 => ?_⟩
 ·refine ⟨fun id m t m' t' k1 k2 => ?_, fun id m t k1 _ => ?_, fun id t k => ?_, fun id t k => ?_, fun id t k => ?_, fun id m t id' m' t' k1 k2 hne => ?_, fun s x k => ?_, fun id c x k => ?_⟩
  ·obtain ⟨rfl, rfl, rfl⟩ := hone2 k1
   obtain ⟨_, rfl, rfl⟩ := hone2 k2
   exact ⟨rfl, rfl⟩
  ·obtain ⟨rfl, rfl, rfl⟩ := hone2 k1
   exact hO
  ·obtain ⟨_, e, _⟩ := hone2 k; cases e
  ·obtain ⟨_, e, _⟩ := hone2 k; cases e
  ·obtain ⟨_, e, _⟩ := hone2 k; cases e
  ·obtain ⟨rfl, _, _⟩ := hone2 k1
   obtain ⟨rfl, _, _⟩ := hone2 k2
   exact absurd rfl hne
  ·cases List.mem_singleton.1 k
  ·cases List.mem_singleton.1 k
 ·obtain ⟨us, q1, q2⟩ := hx'
  exact ⟨us, q1, by cases us <;> first | trivial | exact q2.elim⟩
 ·obtain ⟨rfl, _, _⟩ := hone2 q2
  exact hHb
end Go.Proofs.Ytfbefcmeghpalaa.VM
namespace Go.Proofs.Ytfbefcmeghpalaa.VM
open Go Go.RowKit
/-! ### copy -/
section
variable {L : List E} {val : Nat → Value} {H : Nat → Value} {G : Nat → FP} {w w' : World}
/-- a node's row turns, in memory too -/
theorem Rp.turnN (hr : Rp L val H G w) {id : Nat} {m : M} {t : T} (hm : m ≠ .ro) (hid : rts L id m t) {q : Path} (hq : Okp t q) {n l : Nat} {f : Nat → Nat → T} (ht : t.at q = .s n l f) :
  ∃ (hv : Value) (Gx : FP), VM.hd w (H id) q = some hv ∧ Own w (.s n l f) Gx hv ∧ (∀ a p, Gx a p → G id a p) ∧ ∀ {w' : World} {S : FP} {g : Nat → Nat → T} {Gy : FP}, Chg S w w' → (∀ a p, S a p → Gx a p) → Own w' (.s n l g) Gy hv → (∀ a p, Gy a p → Gx a p) →
   Rp (setWs [(0, id, q, .s n l f)] [(0, .s n l g)] L) val H (updN G id fun a p => (G id a p ∧ ¬ Gx a p) ∨ Gy a p) w' := by
 obtain ⟨hv, Gx, e1, e2, e3, e5, e4⟩ := (hr.own id m t hid hm).setN hq
 rw [ht] at e2
 refine ⟨hv, Gx, e1, e2, e3, fun {w' S g Gy} hC hS hy hGy => ?_⟩
 obtain ⟨k1, k2⟩ := e4 (w' := w') (S := S) (y := .s n l g) (Gy := Gy) hC (fun a p _ h => hS a p h) hy (fun a p h => .inl (hGy a p h))
 have hSo : ∀ {i m' t'}, i ≠ id → rts L i m' t' → ∀ a p, G i a p → ¬ S a p := fun {i m' t'} hne h a p hg hs => hr.dis _ _ _ _ _ _ hid h (Ne.symm hne) hm a p (e3 a p (hS a p hs)) hg
 have hfr : ∀ {i m' t'}, i ≠ id → rts L i m' t' → ∀ r, Okp t' r → VM.hd w' (H i) r = VM.hd w (H i) r := fun {i m' t'} hne h r hr' => hd_frame hC (hr.rd h) hr' (hSo hne h)
 have hf : ∀ i, wFind [(0, .s n l g)] [(0, id, q, .s n l f)] i = if i = id then some (q, .s n l g) else none := fun i => by
  simp only [wFind, lookW, Nat.beq_refl, if_true]
  by_cases e : i = id
  ·subst e; simp
  ·rw [if_neg e, if_neg fun h => e (Nat.eq_of_beq_eq_true h).symm]
 have hnw : ∀ i t0, newW [(0, id, q, .s n l f)] [(0, .s n l g)] i t0 = if i = id then t0.set q (.s n l g) else t0 := fun i t0 => by
  simp only [newW, hf]
  by_cases e : i = id
  ·simp [e]
  ·simp [e]
 have hrt : ∀ {i m' t'}, rts (setWs [(0, id, q, .s n l f)] [(0, .s n l g)] L) i m' t' → (i = id ∧ m' = m ∧ t' = t.set q (.s n l g)) ∨ (i ≠ id ∧ rts L i m' t') := fun {i m' t'} h => by
  obtain ⟨t0, h1, h2⟩ := rts_setWs.1 h
  rw [hnw] at h2
  by_cases e : i = id
  ·subst e
   obtain ⟨rfl, rfl⟩ := hr.one _ _ _ _ _ h1 hid
   rw [if_pos rfl] at h2
   exact .inl ⟨rfl, rfl, h2⟩
  ·rw [if_neg e] at h2
   exact .inr ⟨e, h2 ▸ h1⟩
 have hri : rts (setWs [(0, id, q, .s n l f)] [(0, .s n l g)] L) id m (t.set q (.s n l g)) := rts_setWs.2 ⟨t, hid, by rw [hnw, if_pos rfl]⟩
 have hro : ∀ {i m' t'}, i ≠ id → rts L i m' t' → rts (setWs [(0, id, q, .s n l f)] [(0, .s n l g)] L) i m' t' := fun {i m' t'} h1 h2 => rts_setWs.2 ⟨t', h2, by rw [hnw, if_neg h1]⟩
 have hGs : ∀ i a p, updN G id (fun a p => (G id a p ∧ ¬ Gx a p) ∨ Gy a p) i a p → G i a p := fun i a p h => by
  by_cases e : i = id
  ·subst e
   simp only [updN, if_true] at h
   rcases h with h | h
   ·exact h.1
   ·exact e3 a p (hGy a p h)
  ·simpa only [updN, if_neg e] using h
 have hbeh : ∀ r, keepP [(0, id, q, .s n l f)] [(0, .s n l g)] id r = true ∨ r.length = q.length → ¬ beh q r := fun r h ⟨a, s, e⟩ => by
  subst e
  rcases h with h | h
  ·simp only [keepP, hf, if_true, pre_app, Bool.not_true] at h
   cases h
  ·simp at h
 have hleaf : ∀ {x v}, keepX [(0, id, q, .s n l f)] [(0, .s n l g)] x = true → VR (rts L) H w x v → VR (rts (setWs [(0, id, q, .s n l f)] [(0, .s n l g)] L)) H w' x v := fun hx h =>
  VR.leaves (C := fun x => keepX [(0, id, q, .s n l f)] [(0, .s n l g)] x = true) (fun x v hl hx h => by
   cases x with
   | p i q' n' k' c' =>
    obtain ⟨m', t', h1, h2, ⟨l', f', h3, h4, h5⟩, h6⟩ := h
    by_cases e : i = id
    ·subst e
     obtain ⟨rfl, rfl⟩ := hr.one _ _ _ _ _ h1 hid
     have hb : ¬ beh q q' := by
      simp only [keepX, Bool.or_eq_true] at hx
      refine hbeh q' (hx.imp_right fun hx => ?_)
      simp only [keepN, hf, if_true, Bool.and_eq_true] at hx
      exact Nat.eq_of_beq_eq_true hx.1
     obtain ⟨c1, c2⟩ := set_at (y := .s n l g) hq hb h2
     rcases c2 with ⟨rfl, c3⟩ | ⟨_, c3⟩
     ·rw [ht] at h3; cases h3
      exact ⟨_, _, hri, c1, ⟨_, _, c3, h4, h5⟩, by rw [k2 _ hb h2]; exact h6⟩
     ·obtain ⟨f2, c4⟩ := c3 h3
      exact ⟨_, _, hri, c1, ⟨_, _, c4, h4, h5⟩, by rw [k2 _ hb h2]; exact h6⟩
    ·exact ⟨m', t', hro e h1, h2, ⟨l', f', h3, h4, h5⟩, by rw [hfr e h1 _ h2]; exact h6⟩
   | h i q' =>
    obtain ⟨m', t', h1, h2, ⟨n', l', f', h3⟩, h6⟩ := h
    by_cases e : i = id
    ·subst e
     obtain ⟨rfl, rfl⟩ := hr.one _ _ _ _ _ h1 hid
     have hb : ¬ beh q q' := by
      simp only [keepX, Bool.or_eq_true, hf, if_true, Bool.and_eq_true] at hx
      exact hbeh q' (hx.imp_right fun hx => Nat.eq_of_beq_eq_true hx.1)
     obtain ⟨c1, c2⟩ := set_at (y := .s n l g) hq hb h2
     rcases c2 with ⟨rfl, c3⟩ | ⟨_, c3⟩
     ·exact ⟨_, _, hri, c1, ⟨_, _, _, c3⟩, by rw [k2 _ hb h2]; exact h6⟩
     ·obtain ⟨f2, c4⟩ := c3 h3
      exact ⟨_, _, hri, c1, ⟨_, _, _, c4⟩, by rw [k2 _ hb h2]; exact h6⟩
    ·exact ⟨m', t', hro e h1, h2, ⟨n', l', f', h3⟩, by rw [hfr e h1 _ h2]; exact h6⟩
   | a i q' n' lo ln =>
    obtain ⟨m', t', h1, h2, ⟨l', f', h3, h4⟩, h6⟩ := h
    by_cases e : i = id
    ·subst e
     obtain ⟨rfl, rfl⟩ := hr.one _ _ _ _ _ h1 hid
     have hb := hbeh q' (.inl hx)
     obtain ⟨c1, c2⟩ := set_at (y := .s n l g) hq hb h2
     rcases c2 with ⟨rfl, c3⟩ | ⟨_, c3⟩
     ·rw [ht] at h3; cases h3
      exact ⟨_, _, hri, c1, ⟨_, _, c3, h4⟩, by rw [k2 _ hb h2]; exact h6⟩
     ·obtain ⟨f2, c4⟩ := c3 h3
      exact ⟨_, _, hri, c1, ⟨_, _, c4, h4⟩, by rw [k2 _ hb h2]; exact h6⟩
    ·exact ⟨m', t', hro e h1, h2, ⟨l', f', h3, h4⟩, by rw [hfr e h1 _ h2]; exact h6⟩
   | _ => exact hl.elim) (keepX_all hx) h
 refine ⟨fun i m1 t1 m2 t2 h1 h2 => ?_, fun i m1 t1 h1 h2 => ?_, fun i t1 h1 => ?_, fun i t1 h1 x y hx => ?_, fun i t1 h1 => ?_, fun i m1 t1 i' m2 t2 h1 h2 hne hm1 x y hx hy => ?_, fun s x h => ?_, fun i c x h => ?_⟩
 ·rcases hrt h1 with ⟨rfl, rfl, rfl⟩ | ⟨a1, b1⟩ <;> rcases hrt h2 with ⟨c1, c2, c3⟩ | ⟨c1, c2⟩
  ·exact ⟨c2.symm, c3.symm⟩
  ·exact absurd rfl c1
  ·exact absurd c1 a1
  ·exact hr.one _ _ _ _ _ b1 c2
 ·rcases hrt h1 with ⟨rfl, rfl, rfl⟩ | ⟨a1, b1⟩
  ·simpa only [updN, if_true] using k1
  ·simp only [updN, if_neg a1]; exact (hr.own _ _ _ b1 h2).frame hC (hSo a1 b1)
 ·rcases hrt h1 with ⟨rfl, e, rfl⟩ | ⟨a1, b1⟩
  ·exact absurd e.symm hm
  ·simp only [updN, if_neg a1]; exact (hr.ro _ _ b1).frame hC (hSo a1 b1)
 ·rcases hrt h1 with ⟨rfl, e, rfl⟩ | ⟨a1, b1⟩
  ·exact absurd e.symm hm
  ·simp only [updN, if_neg a1] at hx; exact Nat.lt_of_lt_of_le (hr.rold _ _ b1 x y hx) hC.size
 ·rcases hrt h1 with ⟨rfl, rfl, rfl⟩ | ⟨a1, b1⟩
  ·obtain ⟨n0, f0, rfl⟩ := hr.box _ _ hid
   by_cases hq0 : q = []
   ·subst hq0
    simp only [T.at] at ht
    cases ht
    exact ⟨_, _, by simp only [T.set]; rfl⟩
   ·obtain ⟨f', hf'⟩ := box_set (n := n0) (f := f0) (y := .s n l g) hq0
    exact ⟨_, _, hf'⟩
  ·exact hr.box _ _ b1
 ·have hx' := hGs _ _ _ hx
  have hy' := hGs _ _ _ hy
  rcases hrt h1 with ⟨rfl, rfl, rfl⟩ | ⟨a1, b1⟩ <;> rcases hrt h2 with ⟨rfl, rfl, rfl⟩ | ⟨c1, c2⟩
  ·exact hne rfl
  ·exact hr.dis _ _ _ _ _ _ hid c2 hne hm1 x y hx' hy'
  ·exact hr.dis _ _ _ _ _ _ b1 hid hne hm1 x y hx' hy'
  ·exact hr.dis _ _ _ _ _ _ b1 c2 hne hm1 x y hx' hy'
 ·obtain ⟨g1, g2⟩ := setWs_sl h
  exact hleaf g2 (hr.sl s x g1)
 ·obtain ⟨g1, g2, g3⟩ := setWs_al h
  obtain ⟨n0, f0, h1, h2, A, v, h3, h4, h5⟩ := hr.al i c x g1
  by_cases e : i = id
  ·subst e
   obtain ⟨rfl, rfl⟩ := hr.one _ _ _ _ _ h1 hid
   by_cases hq0 : q = []
   ·subst hq0
    simp only [keepP, hf, if_true, pre, Bool.not_true] at g3
    cases g3
   ·obtain ⟨f', hf'⟩ := box_set (n := n0) (f := f0) (y := .s n l g) hq0
    obtain ⟨b0, o0, rfl, hGb⟩ := box_cell hr h1 h2 h3
    have hA : adr (H i) n0 0 c = some ⟨b0, o0, none⟩ := by
     obtain ⟨a1, l1, c1, q1, q2⟩ := adr_some h3
     rw [q1]; simp only [adr, Option.some.injEq]; rw [q2]; simp
    refine ⟨n0, f', hf' ▸ hri, h2, _, v, h3, hC.cell h4 fun hs => e5 hq0 _ _ _ rfl 0 c b0 o0 (by omega) h2 hA (hS _ _ hs), hleaf g2 h5⟩
  ·obtain ⟨b0, o0, rfl, hGb⟩ := box_cell hr h1 h2 h3
   exact ⟨n0, f0, hro e h1, h2, _, v, h3, hC.cell h4 (hSo e h1 _ _ hGb), hleaf g2 h5⟩
end
section
variable {P : Program} {w : World}
theorem run_copy_n (dT sT ty elem : TypeId) (b o dLen dCap : Nat) (a : Addr) (sLen sCap k : Nat) (cs : List Value) (hu : P.underlying dT = some (.slice elem)) (hs : ∀ w, (sizeOf elem).run P w = .ok k w) (hn : cs.length = Nat.min sLen dLen * k)
  (hsrc : ∀ j v, cs[j]? = some v → w.cell? (a.add j) = some v) (hc : ∀ j, j < cs.length → (w.cell? ⟨b, o + j, none⟩).isSome = true) (hf : ∀ j, j < cs.length → w.frozen? ⟨b, o + j, none⟩ = false) (h1 : ∀ v ∈ cs, v.oneCell' = true) :
  (Builtin.copy_ #[dT, sT] ty #[.slice (some ⟨b, o, none⟩) dLen dCap, .slice (some a) sLen sCap]).run P w = .ok (goInt (Nat.min sLen dLen)) (w.setCells b o cs) := by
 have hl := run_loadCells_list (P := P) w a cs hsrc
 have hst := run_storeCells_cells (P := P) b o cs 0 w (by simpa using hc) (by simpa using hf) h1
 simp [Builtin.copy_, run_underlying hu, Builtin.lenOf, Builtin.firstCells, hs, ← hn, hl, hst]
end
end Go.Proofs.Ytfbefcmeghpalaa.VM
namespace Go.Proofs.Ytfbefcmeghpalaa.VM
open Go Go.RowKit
def viewX (L : List E) : X → Option (Nat × Path × Nat × Nat)
 | .a id q _ lo m => some (id, q, lo, m)
 | .h id q => match rootL L id with
  | some (_, t) => match t.at q with
   | .s _ len _ => some (id, q, 0, len)
   | _ => none
  | none => none
 | _ => none
def copyT (n l lo m : Nat) (f g : Nat → Nat → T) : T := .s n l fun k c => if lo ≤ k ∧ k < lo + m then flatT (g (k - lo) c) else f k c
section
variable {P : Program} {N : Nat} {L : List E} {dst : Option Tmp} {ty : TypeId} {pos : String} {af : Array Edge} {gd : Option (Nat × Bool)} {d : Nat}
theorem viewX_ok {val : Nat → Value} {H : Nat → Value} {G : Nat → FP} {w : World} (hr : Rp L val H G w) {x : X} {v : Value} (hv : VR (rts L) H w x v) {id lo m n l : Nat} {q : Path} {f : Nat → Nat → T} {mm : M} {t0 : T} (h : viewX L x = some (id, q, lo, m)) (hR : rootL L id = some (mm, t0)) (hT : t0.at q = .s n l f) (hxn : ∀ i q' n' lo' m', x = .a i q' n' lo' m' → n' = n) (hm : 0 < m) :
  Okp t0 q ∧ ∃ hv, VM.hd w (H id) q = some hv ∧ ∃ b off l0 c0 cap, hv = .slice (some ⟨b, off, none⟩) l0 c0 ∧ v = .slice (some ⟨b, off + lo * n, none⟩) m cap ∧ m ≤ cap ∧ lo + m ≤ l := by
 cases x with
 | h i q' =>
  simp only [viewX] at h
  split at h
  ·rename_i m1 t1 hR1
   split at h
   ·rename_i n1 l1 f1 hT1
    cases h
    obtain ⟨m', t', g1, g2, g3, g4⟩ := hv
    obtain ⟨rfl, rfl⟩ := hr.one _ _ _ _ _ g1 (rootL_mem hR)
    rw [hR] at hR1; cases hR1
    rw [hT] at hT1; cases hT1
    obtain ⟨hv', F, e1, e2⟩ := hr.node g1 g2
    rw [g4] at e1; cases e1
    rw [hT] at e2
    obtain ⟨hn, a, cap, h0, hl, hmx, b, off, V, G', h1, _⟩ := e2
    have := h1 hm
    subst this
    exact ⟨g2, _, g4, b, off, _, _, cap, h0, by rw [h0]; simp, hl, by omega⟩
   ·cases h
  ·cases h
 | a i q' n' lo' m' =>
  simp only [viewX, Option.some.injEq, Prod.mk.injEq] at h
  obtain ⟨rfl, rfl, rfl, rfl⟩ := h
  obtain rfl := hxn _ _ _ _ _ rfl
  obtain ⟨m1, t', g1, g2, ⟨l2, f2, g3, g4⟩, hv', g5, ad, cap, g6, g7, g8, g9, _, g11⟩ := hv
  obtain ⟨rfl, rfl⟩ := hr.one _ _ _ _ _ g1 (rootL_mem hR)
  rw [hT] at g3; cases g3
  obtain ⟨hv2, F, e1, e2⟩ := hr.node g1 g2
  rw [g5] at e1; cases e1
  rw [hT] at e2
  obtain ⟨hn, a, cap0, h0, hl, hmx, b, off, V, G', h1, _⟩ := e2
  have := h1 (by omega)
  subst this
  have := g11 b off _ _ h0 (by omega)
  subst this
  exact ⟨g2, _, g5, b, off, _, _, cap, h0, g6, g7, g4⟩
 | _ => simp [viewX] at h
theorem run_copyOp {t tx : TypeId} {s x : Operand} {a : Act} {w w' : World} {v : Value} (h : (Builtin.copy_ #[t, tx] ty #[a.eval s, a.eval x]).run P w = .ok v w') :
  (execOp a.eval ⟨dst, .call { callee := .builtin .copy, args := #[s, x], argTypes := #[t, tx] }, ty, pos, af, gd⟩).run P w = .ok (.value v) w' := by
 simp [execOp, resolve, invoke, builtin, h]
/-- copy of plain cells into a row of the call's own -/
theorem Stp.copy {t tx e : TypeId} {x y : Operand} {zt : List T} [hS : SlI P t e] [hT : TyI P e zt] {id lo m1 m2 l : Nat} {q : Path} {f g : Nat → Nat → T} {mm : M} {t0 : T} (hd : dst = some d) (hN : d < N)
  (hx : viewX L (evX L x) = some (id, q, lo, m1)) (hR : rootL L id = some (mm, t0)) (hmm : mm ≠ .ro) (hT0 : t0.at q = .s zt.length l f) (hxn : ∀ i q' n' lo' m', evX L x = .a i q' n' lo' m' → n' = zt.length) (hy : rowsX L (evX L y) = some (zt.length, m2, g)) (h1 : 0 < m1) (h2 : 0 < m2) :
  Stp P N ⟨dst, .call { callee := .builtin .copy, args := #[x, y], argTypes := #[t, tx] }, ty, pos, af, gd⟩ L (putL (setWs [(0, id, q, .s zt.length l f)] [(0, copyT zt.length l lo (min m2 m1) f g)] L) d (.v (iv (min m2 m1 : Nat)))) :=
 Stp.op (fun cx a w hs => by
  obtain ⟨H, G, hr, hG⟩ := hs.rp
  obtain ⟨hq, hv, e1, b, off, l0, c0, cap, e2, e3, e4, e5⟩ := viewX_ok hr (ev_ok hr x) hx hR hT0 hxn h1
  obtain ⟨hv2, Gx, k1, k2, k3, k4⟩ := hr.turnN hmm (rootL_mem hR) hq hT0
  rw [e1] at k1; cases k1
  obtain ⟨hn, a', cap0, q0, ql, qm, b', off', V, Gk, w1, w2, w3, w4, w5⟩ := k2
  rw [e2] at q0; cases q0
  obtain ⟨q1, sz, q2, q3⟩ := w1 (by omega)
  cases q1
  obtain ⟨Fy, hRd⟩ := rowsX_ok hr (ev_ok hr y) hy
  obtain ⟨_, a2, cap2, r0, rl, rm, b2, off2, V2, G2, r1, r2⟩ := hRd
  have r1' := r1 h2
  subst r1'
  have hpos := hT.pos
  have hmn1 : min m2 m1 ≤ m1 := Nat.min_le_right _ _
  have hmn2 : min m2 m1 ≤ m2 := Nat.min_le_left _ _
  obtain ⟨M, hM⟩ : ∃ M, M = min m2 m1 := ⟨_, rfl⟩
  rw [← hM] at hmn1 hmn2
  obtain ⟨cs, hcs⟩ : ∃ cs, cs = (List.range (M * zt.length)).map fun j => V2 (j / zt.length) (j % zt.length) := ⟨_, rfl⟩
  have hcl : cs.length = M * zt.length := by rw [hcs]; simp
  have hcg : ∀ j u, cs[j]? = some u → j < M * zt.length ∧ u = V2 (j / zt.length) (j % zt.length) := fun j u hj => by
   rw [hcs, List.getElem?_map] at hj
   have hlt : j < M * zt.length := by
    rcases Nat.lt_or_ge j (M * zt.length) with h | h
    ·exact h
    ·rw [List.getElem?_eq_none (by simpa using h)] at hj; cases hj
   rw [List.getElem?_range hlt] at hj
   simp only [Option.map_some, Option.some.injEq] at hj
   exact ⟨hlt, hj.symm⟩
  have hb : lo * zt.length + M * zt.length ≤ c0 * zt.length := by rw [← Nat.add_mul]; exact Nat.mul_le_mul_right _ (by omega)
  have hrun := run_copy_n (P := P) (w := w) t tx ty e b (off + lo * zt.length) m1 cap ⟨b2, off2, none⟩ m2 cap2 zt.length cs hS.sl hT.size (by rw [hcl, hM]) (fun j v hj => by
    obtain ⟨hlt, rfl⟩ := hcg j v hj
    rw [Addr.add_lit]
    have := (r2 (j / zt.length) (j % zt.length) (by have := (Nat.div_lt_iff_lt_mul hpos).2 hlt; omega) (Nat.mod_lt _ hpos)).1
    rwa [show j / zt.length * zt.length + j % zt.length = j by rw [Nat.mul_comm]; exact Nat.div_add_mod j _] at this)
   (fun j hj => q2.cell (by omega)) (fun j _ => q2.frozen _) (fun v hv => by
    obtain ⟨j, hj⟩ := List.getElem?_of_mem hv
    obtain ⟨hlt, rfl⟩ := hcg j v hj
    exact (r2 (j / zt.length) (j % zt.length) (by have := (Nat.div_lt_iff_lt_mul hpos).2 hlt; omega) (Nat.mod_lt _ hpos)).2.1.flat.one)
  rw [← e3, ← r0, show Nat.min m2 m1 = M from hM.symm] at hrun
  have hC : Chg (blkFP b) w (w.setCells b (off + lo * zt.length) cs) := Chg.setCells fun _ _ => rfl
  have hbx : ∀ x y, blkFP b x y → Gx x y := fun x y h => (w5 x y).2 (.inl ⟨by omega, h⟩)
  have hO : Own (w.setCells b (off + lo * zt.length) cs) (copyT zt.length l lo M f g) (fun x y => (0 < c0 ∧ blkFP b x y) ∨ ∃ k c, k < l ∧ c < zt.length ∧ (if lo ≤ k ∧ k < lo + M then (fun _ _ => False : FP) else Gk k c) x y) hv := by
   rw [e2]
   refine ⟨hn, _, c0, rfl, ql, qm, b, off, fun k c => if lo ≤ k ∧ k < lo + M then V2 (k - lo) c else V k c, fun k c => if lo ≤ k ∧ k < lo + M then (fun _ _ => False : FP) else Gk k c, fun _ => ⟨rfl, sz, q2.chg hC, q3⟩, fun k c hk hc => ?_, fun k c k' c' hne hk hc hk' hc' x y h h' => ?_, fun k c hk hc x y h => ?_, fun x y => Iff.rfl⟩
   ·by_cases hin : lo ≤ k ∧ k < lo + M
    ·simp only [if_pos hin]
     have hlt := row_lt (Nat.le_refl M) (show k - lo < M by omega) hc
     refine ⟨?_, ((r2 (k - lo) c (by omega) hc).2.1.flat).frame hC fun _ _ h => h.elim⟩
     have := World.cell?_setCells_in b cs (off + lo * zt.length) w (fun j hj => q2.cell (by omega)) ((k - lo) * zt.length + c) (by omega)
     have he : off + lo * zt.length + ((k - lo) * zt.length + c) = off + (k * zt.length + c) := by
      have : k * zt.length = lo * zt.length + (k - lo) * zt.length := by rw [← Nat.add_mul]; congr 1; omega
      omega
     rw [he] at this
     rw [this]
     have h3 : cs[(k - lo) * zt.length + c]? = some (cs[(k - lo) * zt.length + c]'(by omega)) := List.getElem?_eq_getElem (by omega)
     obtain ⟨_, h4⟩ := hcg _ _ h3
     rw [h4, show ((k - lo) * zt.length + c) / zt.length = k - lo by rw [Nat.mul_comm, Nat.mul_add_div hpos, Nat.div_eq_of_lt hc]; rfl, show ((k - lo) * zt.length + c) % zt.length = c by rw [Nat.mul_comm, Nat.mul_add_mod, Nat.mod_eq_of_lt hc]]
    ·simp only [if_neg hin]
     refine ⟨?_, (w2 k c hk hc).2.frame hC fun x y hg hx => w4 k c hk hc x y hg hx⟩
     rw [World.cell?_setCells_out b cs (off + lo * zt.length) w _ fun _ _ => ?_]
     ·exact (w2 k c hk hc).1
     ·show off + (k * zt.length + c) < off + lo * zt.length ∨ off + lo * zt.length + cs.length ≤ off + (k * zt.length + c)
      rcases Nat.lt_or_ge k lo with h | h
      ·left
       have := row_lt (Nat.le_refl lo) h hc
       omega
      ·right
       have : lo * zt.length + M * zt.length ≤ k * zt.length := by rw [← Nat.add_mul]; exact Nat.mul_le_mul_right _ (by omega)
       omega
   ·by_cases hin : lo ≤ k ∧ k < lo + M
    ·simp only [if_pos hin] at h
    ·by_cases hin' : lo ≤ k' ∧ k' < lo + M
     ·simp only [if_pos hin'] at h'
     ·simp only [if_neg hin] at h
      simp only [if_neg hin'] at h'
      exact w3 k c k' c' hne hk hc hk' hc' x y h h'
   ·by_cases hin : lo ≤ k ∧ k < lo + M
    ·simp only [if_pos hin] at h
    ·simp only [if_neg hin] at h
     exact w4 k c hk hc x y h
  have hGy : ∀ x y, ((0 < c0 ∧ blkFP b x y) ∨ ∃ k c, k < l ∧ c < zt.length ∧ (if lo ≤ k ∧ k < lo + M then (fun _ _ => False : FP) else Gk k c) x y) → Gx x y := fun x y h => by
   rcases h with h | ⟨k, c, hk, hc, h⟩
   ·exact (w5 x y).2 (.inl h)
   ·by_cases hin : lo ≤ k ∧ k < lo + M
    ·simp only [if_pos hin] at h
    ·simp only [if_neg hin] at h
     exact (w5 x y).2 (.inr ⟨k, c, hk, hc, h⟩)
  have r2' := k4 hC hbx hO hGy
  have hmem : ∀ i m2 t2, rts (setWs [(0, id, q, .s zt.length l f)] [(0, copyT zt.length l lo M f g)] L) i m2 t2 → ∃ t1, rts L i m2 t1 := fun i m2 t2 h => by
   obtain ⟨t1, h1, _⟩ := rts_setWs.1 h
   exact ⟨t1, h1⟩
  have hid := rootL_mem hR
  have hs' : Sat N cx (setWs [(0, id, q, .s zt.length l f)] [(0, copyT zt.length l lo M f g)] L) a (w.setCells b (off + lo * zt.length) cs) :=
   ⟨hs.siz, hs.dfr, hs.chg.step hC fun x y hx h => (hG.1 id _ _ hid hmm x y (k3 x y (hbx x y h))).resolve_right (by omega), H, _, r2', fun i m2 t2 h h2 x y h3 => by
    obtain ⟨t1, h1⟩ := hmem _ _ _ h
    by_cases e : i = id
    ·subst e
     simp only [updN, if_true] at h3
     rcases h3 with h3 | h3
     ·exact hG.1 _ _ _ h1 h2 x y h3.1
     ·exact hG.1 _ _ _ h1 h2 x y (k3 x y (hGy x y h3))
    ·simp only [updN, if_neg e] at h3
     exact hG.1 _ _ _ h1 h2 x y h3, fun i m2 t2 h0 h => by
    obtain ⟨t1, h1⟩ := hmem _ _ _ h
    exact hG.2 i m2 t1 h0 h1⟩
  rw [← hM]
  obtain ⟨H2, G2', hr2, hG2⟩ := hs'.rp
  refine ⟨_, _, run_copyOp hrun, ?_⟩
  rw [hd]
  exact hs'.put hr2 hG2 hN rfl)
end
end Go.Proofs.Ytfbefcmeghpalaa.VM
namespace Go.Proofs.Ytfbefcmeghpalaa.VM
open Go Go.RowKit
/-! ### an element's cells turn one by one -/
def mixF (old : Nat → Nat → T) (new : Nat → T) (k m : Nat) : Nat → Nat → T := fun k' c' => if k' = k ∧ c' < m then new c' else old k' c'
section
variable {old : Nat → Nat → T} {new : Nat → T} {k m n len : Nat}
theorem mixF_at {c : Nat} : mixF old new k m k c = if c < m then new c else old k c := by simp [mixF]
end
/-- rows, those below k as g says, the others as h says -/
def oldF {α : Type} [En α] (g h : Nat → α) (k : Nat) : Nat → Nat → T := fun j c => (En.cs (if j < k then g j else h j)).getD c .j
section
variable {α : Type} [En α] {g h : Nat → α} {k len : Nat}
theorem oldF_at {c : Nat} : oldF g h k k c = (En.cs (h k)).getD c .j := by simp [oldF]
end
theorem isS_j : T.isS .j = false := rfl
attribute [go_sem] mixF_at oldF_at keepN isS_j Bool.not_false Bool.not_true
end Go.Proofs.Ytfbefcmeghpalaa.VM
set_option linter.all false
namespace Go.Proofs.Ytfbefcmeghpalaa.VM
open Go Go.RowKit Go.Sort
/-! clear at rows of k cells -/
end Go.Proofs.Ytfbefcmeghpalaa.VM
set_option linter.all false
namespace Go.Proofs.Ytfbefcmeghpalaa.VM
open Go Go.RowKit Go.Sort
/-! slices.Insert at numbers, from its run -/
set_option maxHeartbeats 4000000 in
theorem con_insI {P : Program} {f : FuncId} (hs : InsRun P f 1) (l : List Int) (i : Nat) (x : Int) (hi : i ≤ l.length) (hlen : l.length ≤ 1000000) :
  Con P f [.h base [], .v (iv i), .h (base + 1) []] [.rt base .row (tr l), .rt (base + 1) .row (tr [x])] (RetW (.h 0 []) [(0, .row, tr (insI l i x))] [(base, .j), (base + 1, .j)]) := by
 intro w vs H G _ _ hr hv
 match vs, hv with
 | [v, v1, v2], ⟨⟨m, t, _, _, _, hh⟩, hv1, ⟨m2, t2, _, _, _, hh2⟩, _⟩ =>
 simp only [hd, Option.some.injEq] at hh hh2
 obtain rfl : v1 = iv i := hv1
 have hb : rts [.rt base .row (tr l), .rt (base + 1) .row (tr [x])] base .row (tr l) := List.mem_cons_self ..
 have hb2 : rts [.rt base .row (tr l), .rt (base + 1) .row (tr [x])] (base + 1) .row (tr [x]) := List.mem_cons_of_mem _ (List.mem_cons_self ..)
 obtain ⟨a, cap, b, off, e0, hl, hm, h1, h2, h3⟩ := ints_own (hr.own base .row (tr l) hb (by simp))
 obtain ⟨a', cap2, vb, voff, e02, hl2, hm2, h12, h22, h32⟩ := ints_own (hr.own (base + 1) .row (tr [x]) hb2 (by simp))
 have hl2' : 1 ≤ cap2 := hl2
 obtain ⟨rfl, sz2, hK2, hsz2⟩ := h12 (by omega)
 have hv : v = .slice a l.length cap := by rw [← hh, e0]
 have hv2 : v2 = .slice (some ⟨vb, voff, none⟩) 1 cap2 := by rw [← hh2, e02]; rfl
 subst hv hv2
 have hcsz : ∃ sz, 0 < cap → a = some ⟨b, off, none⟩ ∧ Kd w b sz ∧ off + cap * 1 ≤ sz := by
  by_cases hc : 0 < cap
  ·obtain ⟨q1, sz, q2, q3⟩ := h1 hc
   exact ⟨sz, fun _ => ⟨q1, q2, by omega⟩⟩
  ·exact ⟨0, fun h => absurd h hc⟩
 obtain ⟨sz, hcsz⟩ := hcsz
 have hne : 0 < cap → vb ≠ b := fun h e => hr.dis (base + 1) .row _ base .row _ hb2 hb (by omega) (by simp) b 0 ((h32 b 0).2 ⟨by omega, e.symm⟩) ((h3 b 0).2 ⟨h, rfl⟩)
 refine (hs b off cap sz l.length i vb voff cap2 sz2 (fun k _ => iv (l.getD k 0)) (fun _ => iv x) a w (fun k c hk hc => ?_) (fun c hc => ?_) hcsz hK2 (by omega) hl2' hne hl hm hi hlen).mono ?_
 ·obtain rfl : c = 0 := by omega
  rw [Nat.mul_one, Nat.add_zero]
  exact ⟨h2 k hk, rfl⟩
 ·obtain rfl : c = 0 := by omega
  exact ⟨h22 0 (by simp), rfl⟩
 rintro e w' ⟨b', off', cap', sz', rfl, q1, q2, q3, q4, q5, hC, hcell⟩
 have hO := own_ints (l := insI l i x) (off := off') (cap := cap') (by rw [insI_len hi]; exact q1) q2 q3 (by omega) fun k hk => by
  have := hcell k 0 (by rw [insI_len hi] at hk; exact hk) (by omega)
  rw [Nat.mul_one, Nat.add_zero] at this
  rw [this, insI_get hi]
  congr 1
  split
  ·rfl
  ·split <;> rfl
 rw [insI_len hi] at hO
 obtain ⟨y, L, H', G', val, r⟩ := row_new [base, base + 1] hr (fun id h => by
  rcases List.mem_cons.1 h with rfl | h
  ·exact ⟨Nat.le_refl _, .row, _, by simp, hb⟩
  ·cases List.mem_singleton.1 h
   exact ⟨by omega, .row, _, by simp, hb2⟩) hC (fun p q h => ⟨base, .row, tr l, hb, by simp, (h3 p q).2 h⟩) hO rfl (fun p q h => by
  rcases q5 with ⟨q5, rfl⟩ | q5
  ·exact .inl ⟨base, .row, tr l, hb, by simp, (h3 p q).2 ⟨q5, h.2⟩⟩
  ·have : p = b' := h.2
   exact .inr (by omega))
 exact ⟨_, y, L, H', G', val, rfl, r⟩
end Go.Proofs.Ytfbefcmeghpalaa.VM
