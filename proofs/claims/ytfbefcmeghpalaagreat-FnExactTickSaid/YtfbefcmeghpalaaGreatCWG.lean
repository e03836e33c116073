/- Contracts of functions of the program. No conditions beyond those that each states. -/
import Derived.Test.YtfbefcmeghpalaaGreatCWE
import Derived.Test.YtfbefcmeghpalaaGreatCW8
set_option linter.all false
set_option maxHeartbeats 8000000
set_option maxRecDepth 10000
namespace Go.Proofs.YtfbefcmeghpalaaGreat.VM
open Go Go.RowKit Go.Proofs
/-- effects, one behind the other -/
def foldU (u : DUnix) (l : List DEff) : DUnix := l.foldl (fun u e => (applyT u e).1) u
def foldB (u : DUnix) : List DEff → Bool
 | [] => true
 | e :: l => (applyT u e).2 && foldB (applyT u e).1 l
theorem foldU_snoc (u : DUnix) (l : List DEff) (e : DEff) : foldU u (l ++ [e]) = (applyT (foldU u l) e).1 := by simp [foldU]
theorem foldB_snoc : ∀ (l : List DEff) (u : DUnix) (e : DEff), foldB u (l ++ [e]) = (foldB u l && (applyT (foldU u l) e).2)
 | [], u, e => by simp [foldB, foldU]
 | a :: l, u, e => by
  rw [List.cons_append, foldB, foldB_snoc l, foldB, Bool.and_assoc]
  rfl
theorem Shp.fold {u : DUnix} (h : Shp u) : ∀ l : List DEff, Shp (foldU u l) := fun l => by
 induction l generalizing u with
 | nil => exact h
 | cons e l ih => exact ih (h.app e)
theorem getD_memW {α : Type} {l : List α} {k : Nat} {d : α} (h : k < l.length) : l.getD k d ∈ l := by simp [List.getD_eq_getElem?_getD, h]
structure AaInv (u : DUnix) (es : List DEff) where
 k : Nat
 le : k ≤ es.length
theorem ApplyAllT_con (u : DUnix) (es : List DEff) (hw : Mk.wt u ≤ 1048576) (hS : Shp u) (hk : ∀ e ∈ es, e.Kind = 3 ∨ e.Kind = 21 ∨ e.Kind = 22 ∨ e.Kind = 24) : Con Tryz.prog 32 [.g [.v (iv u.Next), .v (iv u.Tick), .h base [], .h (base + 1) [], .h (base + 2) [], .h (base + 3) [], .h (base + 4) [], .h (base + 5) [], .h (base + 6) []], .h (base + 7) []] [.rt base .ro (tr u.Progs), .rt (base + 1) .ro (tr u.Procs), .rt (base + 2) .ro (tr u.Opens), .rt (base + 3) .ro (tr u.Pipes), .rt (base + 4) .ro (tr u.Files), .rt (base + 5) .ro (tr u.Ready), .rt (base + 6) .ro (tr u.Out), .rt (base + 7) .ro (tr es)] (Ret (.t [.g [.v (iv (foldU u es).Next), .v (iv (foldU u es).Tick), .h 0 [], .h 1 [], .h 2 [], .h 3 [], .h 4 [], .h 5 [], .h 6 []], .v (.bool (foldB u es))]) [(0, .row, tr (foldU u es).Progs), (1, .row, tr (foldU u es).Procs), (2, .row, tr (foldU u es).Opens), (3, .row, tr (foldU u es).Pipes), (4, .row, tr (foldU u es).Files), (5, .row, tr (foldU u es).Ready), (6, .row, tr (foldU u es).Out)]) := by
 refine ob Tryz.func32 Tryz.ntmps32 ?_
 refine AW.len (base + 7) [] rfl (by simp [Okp]) rfl (fun hle7 => ?_)
 refine sr ?_
 refine bx ?_
 refine nm ?_
 refine sp sA ?_
 refine nm ?_
 refine qs' ?_
 refine qG ag31 sz31 ?_
 refine sp (Stp.callR rfl (by decide) Tryz.call73 rfl rfl (cloneUnix_con u hw) (nodup_of rfl) rfl rfl) ?_
 refine nm ?_
 refine sp sA ?_
 refine nm ?_
 refine ss ?_
 refine nm ?_
 refine AWL.weak (Weak.sink 11 6 2 rfl (by decide) rfl rfl rfl rfl) ?_
 refine AWL.weak (Weak.sink 1011 6 3 rfl (by decide) rfl rfl rfl rfl) ?_
 refine AWL.weak (Weak.sink 2011 6 4 rfl (by decide) rfl rfl rfl rfl) ?_
 refine AWL.weak (Weak.sink 3011 6 5 rfl (by decide) rfl rfl rfl rfl) ?_
 refine AWL.weak (Weak.sink 4011 6 6 rfl (by decide) rfl rfl rfl rfl) ?_
 refine AWL.weak (Weak.sink 5011 6 7 rfl (by decide) rfl rfl rfl rfl) ?_
 refine AWL.weak (Weak.sink 6011 6 8 rfl (by decide) rfl rfl rfl rfl) ?_
 refine AWL.weak (L' := [.sl 1 (.h (base + 7) []), .rt (base + 7) .ro (tr es), .sl 6 (.p 6 [] 9 0 0), .rt 6 .box (T.s 9 1 fun _ c => [T.v (iv u.Next), T.v (iv u.Tick), tr u.Progs, tr u.Procs, tr u.Opens, tr u.Pipes, tr u.Files, tr u.Ready, tr u.Out].getD c T.j), .sl 4 (.p 4 [] 9 0 0), .rt 4 .box (T.s 9 1 fun _ c => [T.v (iv 0), T.v (iv 0), T.s 1 0 fun _ _ => T.j, T.s 10 0 fun _ _ => T.j, T.s 5 0 fun _ _ => T.j, T.s 2 0 fun _ _ => T.j, T.s 2 0 fun _ _ => T.j, T.s 1 0 fun _ _ => T.j, T.s 1 0 fun _ _ => T.j].getD c T.j)]) (Weak.sim ⟨rfl, Rf rfl, rfl, ⟨_, rfl, (sc_sim (n := 9) (fun c hc => match c, hc with | 0, _ => T.sim_refl _ | 1, _ => T.sim_refl _ | 2, _ => T.sim_refl _ | 3, _ => T.sim_refl _ | 4, _ => T.sim_refl _ | 5, _ => T.sim_refl _ | 6, _ => T.sim_refl _ | 7, _ => T.sim_refl _ | 8, _ => T.sim_refl _ | c + 9, hc => absurd hc (by omega)))⟩, rfl, ⟨_, rfl, (sc_sim (n := 9) (fun c hc => match c, hc with | 0, _ => T.sim_refl _ | 1, _ => T.sim_refl _ | 2, _ => T.sim_refl _ | 3, _ => T.sim_refl _ | 4, _ => T.sim_refl _ | 5, _ => T.sim_refl _ | 6, _ => T.sim_refl _ | 7, _ => T.sim_refl _ | 8, _ => T.sim_refl _ | c + 9, hc => absurd hc (by omega)))⟩, trivial⟩ rfl rfl) ?_
 refine ns ?_
 refine qn ?_
 refine sr2 ?_
 refine qm ?_
 refine qh sl59 ?_
 refine nm ?_
 refine qm ?_
 refine nl ?_
 refine AW.block ?_
 refine AW.weak (L' := [.sl 14 (.v (iv (0 : Nat))), .sl 13 (.v (iv es.length)), .sl 12 (.h (base + 7) []), .rt (base + 7) .ro (tr es), .sl 7 (.v (.bool (foldB u (es.take (0 : Nat))))), .sl 6 (.p 6 [] 9 0 0), .rt 6 .box (T.s 9 1 fun _ c => [T.v (iv (foldU u (es.take (0 : Nat))).Next), T.v (iv (foldU u (es.take (0 : Nat))).Tick), tr (foldU u (es.take (0 : Nat))).Progs, tr (foldU u (es.take (0 : Nat))).Procs, tr (foldU u (es.take (0 : Nat))).Opens, tr (foldU u (es.take (0 : Nat))).Pipes, tr (foldU u (es.take (0 : Nat))).Files, tr (foldU u (es.take (0 : Nat))).Ready, tr (foldU u (es.take (0 : Nat))).Out].getD c T.j), .sl 4 (.p 4 [] 9 0 0), .rt 4 .box (T.s 9 1 fun _ c => [T.v (iv 0), T.v (iv 0), T.s 1 0 fun _ _ => T.j, T.s 10 0 fun _ _ => T.j, T.s 5 0 fun _ _ => T.j, T.s 2 0 fun _ _ => T.j, T.s 2 0 fun _ _ => T.j, T.s 1 0 fun _ _ => T.j, T.s 1 0 fun _ _ => T.j].getD c T.j)]) (Weak.sim ⟨rfl, rfl, rfl, Rf rfl, rfl, rfl, ⟨_, rfl, (sc_sim (n := 9) (fun c hc => match c, hc with | 0, _ => T.sim_refl _ | 1, _ => T.sim_refl _ | 2, _ => T.sim_refl _ | 3, _ => T.sim_refl _ | 4, _ => T.sim_refl _ | 5, _ => T.sim_refl _ | 6, _ => T.sim_refl _ | 7, _ => T.sim_refl _ | 8, _ => T.sim_refl _ | c + 9, hc => absurd hc (by omega)))⟩, rfl, ⟨_, rfl, (sc_sim (n := 9) (fun c hc => match c, hc with | 0, _ => T.sim_refl _ | 1, _ => T.sim_refl _ | 2, _ => T.sim_refl _ | 3, _ => T.sim_refl _ | 4, _ => T.sim_refl _ | 5, _ => T.sim_refl _ | 6, _ => T.sim_refl _ | 7, _ => T.sim_refl _ | 8, _ => T.sim_refl _ | c + 9, hc => absurd hc (by omega)))⟩, trivial⟩ rfl rfl) ?_
 refine AW.loop (fun i : AaInv u es => [.sl 14 (.v (iv i.k)), .sl 13 (.v (iv es.length)), .sl 12 (.h (base + 7) []), .rt (base + 7) .ro (tr es), .sl 7 (.v (.bool (foldB u (es.take i.k)))), .sl 6 (.p 6 [] 9 0 0), .rt 6 .box (T.s 9 1 fun _ c => [T.v (iv (foldU u (es.take i.k)).Next), T.v (iv (foldU u (es.take i.k)).Tick), tr (foldU u (es.take i.k)).Progs, tr (foldU u (es.take i.k)).Procs, tr (foldU u (es.take i.k)).Opens, tr (foldU u (es.take i.k)).Pipes, tr (foldU u (es.take i.k)).Files, tr (foldU u (es.take i.k)).Ready, tr (foldU u (es.take i.k)).Out].getD c T.j), .sl 4 (.p 4 [] 9 0 0), .rt 4 .box (T.s 9 1 fun _ c => [T.v (iv 0), T.v (iv 0), T.s 1 0 fun _ _ => T.j, T.s 10 0 fun _ _ => T.j, T.s 5 0 fun _ _ => T.j, T.s 2 0 fun _ _ => T.j, T.s 2 0 fun _ _ => T.j, T.s 1 0 fun _ _ => T.j, T.s 1 0 fun _ _ => T.j].getD c T.j)]) (fun i => es.length - i.k) ⟨0, Nat.zero_le _⟩ ?_
 intro i
 have hle := i.le
 refine sr ?_
 refine qb ?_
 refine nl ?_
 refine AW.seq ?_
 refine cd (fun c1 => ?_) fun c1 => ?_
 ·try simp only [cnd] at c1
  have hkk := hk (es.getD i.k En.dflt) (getD_memW (by omega))
  have hsp := hS.fold (es.take i.k)
  have hst : (foldU u (es.take (i.k + 1))) = (applyT (foldU u (es.take i.k)) (es.getD i.k En.dflt)).1 := by rw [take_snocW En.dflt (by omega), foldU_snoc]
  have hsb : foldB u (es.take (i.k + 1)) = ((foldB u (es.take i.k)) && (applyT (foldU u (es.take i.k)) (es.getD i.k En.dflt)).2) := by rw [take_snocW En.dflt (by omega), foldB_snoc]
  refine jd (AW.seq (AW.block (sr ?_)))
  refine qq (ix sl59 sz49) ?_
  refine nm ?_
  refine qG ag49 sz49 ?_
  refine sp sA ?_
  refine nm ?_
  refine ss ?_
  refine ns ?_
  refine qG ag49 sz49 ?_
  refine nm ?_
  refine sp (Stp.callH rfl (by decide) Tryz.call74 rfl (applyToT9_con (foldU u (es.take i.k)) (es.getD i.k En.dflt) hsp hkk) rfl rfl rfl (nodup_of rfl) rfl rfl) ?_
  refine nm ?_
  refine qq (Qt.notB rfl) ?_
  refine nc (fun c2 => ?_) fun c2 => ?_
  ·try simp only [cnd] at c2
   refine AW.region ?_
   refine qn ?_
   refine AW.region ?_
   refine ba ?_
   refine nm ?_
   refine qm ?_
   refine nl ?_
   refine ⟨⟨i.k + 1, by omega⟩, Weak.sim ⟨st1, rfl, rfl, Rf rfl, (by simp only [slotL, reduceIte, Nat.reduceEqDiff]; rw [hsb, c2, Bool.and_false]), rfl, ⟨_, rfl, (by rw [hst]; exact T.sim_refl _)⟩, rfl, Rf rfl, trivial⟩ rfl rfl, ?_⟩
   show es.length - (i.k + 1) < es.length - i.k
   omega
  try simp only [cnd] at c2
  refine jd (AW.region ?_)
  refine ba ?_
  refine qm ?_
  refine nl ?_
  refine ⟨⟨i.k + 1, by omega⟩, Weak.sim ⟨st1, rfl, rfl, Rf rfl, (by simp only [slotL, reduceIte, Nat.reduceEqDiff]; rw [hsb, c2, Bool.and_true]), rfl, ⟨_, rfl, (by rw [hst]; exact T.sim_refl _)⟩, rfl, Rf rfl, trivial⟩ rfl rfl, ?_⟩
  show es.length - (i.k + 1) < es.length - i.k
  omega
 try simp only [cnd] at c1
 have hfull : es.take i.k = es := List.take_of_length_le (by omega)
 refine AW.rep 6 (T.s 9 1 fun _ c => [T.v (iv (foldU u es).Next), T.v (iv (foldU u es).Tick), tr (foldU u es).Progs, tr (foldU u es).Procs, tr (foldU u es).Opens, tr (foldU u es).Pipes, tr (foldU u es).Files, tr (foldU u es).Ready, tr (foldU u es).Out].getD c T.j) rfl (by rw [hfull]; exact T.sim_refl _) ?_
 refine AW.weak (Weak.hoist 6 2 811 rfl (by decide) rfl rfl rfl) ?_
 refine AW.weak (Weak.hoist 6 3 812 rfl (by decide) rfl rfl rfl) ?_
 refine AW.weak (Weak.hoist 6 4 813 rfl (by decide) rfl rfl rfl) ?_
 refine AW.weak (Weak.hoist 6 5 814 rfl (by decide) rfl rfl rfl) ?_
 refine AW.weak (Weak.hoist 6 6 815 rfl (by decide) rfl rfl rfl) ?_
 refine AW.weak (Weak.hoist 6 7 816 rfl (by decide) rfl rfl rfl) ?_
 refine AW.weak (Weak.hoist 6 8 817 rfl (by decide) rfl rfl rfl) ?_
 refine AW.weak (L' := [.sl 7 (.v (.bool (foldB u es))), .sl 6 (.p 6 [] 9 0 0), .rt 6 .box (T.s 9 1 fun _ c => [T.v (iv (foldU u es).Next), T.v (iv (foldU u es).Tick), T.j, T.j, T.j, T.j, T.j, T.j, T.j].getD c T.j), .al 6 2 (.h 811 []), .al 6 3 (.h 812 []), .al 6 4 (.h 813 []), .al 6 5 (.h 814 []), .al 6 6 (.h 815 []), .al 6 7 (.h 816 []), .al 6 8 (.h 817 []), .rt 811 .row (tr (foldU u es).Progs), .rt 812 .row (tr (foldU u es).Procs), .rt 813 .row (tr (foldU u es).Opens), .rt 814 .row (tr (foldU u es).Pipes), .rt 815 .row (tr (foldU u es).Files), .rt 816 .row (tr (foldU u es).Ready), .rt 817 .row (tr (foldU u es).Out), .sl 4 (.p 4 [] 9 0 0), .rt 4 .box (T.s 9 1 fun _ c => [T.v (iv 0), T.v (iv 0), T.s 1 0 fun _ _ => T.j, T.s 10 0 fun _ _ => T.j, T.s 5 0 fun _ _ => T.j, T.s 2 0 fun _ _ => T.j, T.s 2 0 fun _ _ => T.j, T.s 1 0 fun _ _ => T.j, T.s 1 0 fun _ _ => T.j].getD c T.j)]) (Weak.sim ⟨(by show X.v (.bool (foldB u (es.take i.k))) = _; rw [hfull]), rfl, ⟨_, rfl, (sc_sim (n := 9) (fun c hc => match c, hc with | 0, _ => T.sim_refl _ | 1, _ => T.sim_refl _ | 2, _ => T.sim_refl _ | 3, _ => T.sim_refl _ | 4, _ => T.sim_refl _ | 5, _ => T.sim_refl _ | 6, _ => T.sim_refl _ | 7, _ => T.sim_refl _ | 8, _ => T.sim_refl _ | c + 9, hc => absurd hc (by omega)))⟩, ⟨rfl, rfl⟩, ⟨rfl, rfl⟩, ⟨rfl, rfl⟩, ⟨rfl, rfl⟩, ⟨rfl, rfl⟩, ⟨rfl, rfl⟩, ⟨rfl, rfl⟩, Rf rfl, Rf rfl, Rf rfl, Rf rfl, Rf rfl, Rf rfl, Rf rfl, rfl, Rf rfl, trivial⟩ rfl rfl) ?_
 refine AW.exit ?_
 dsimp only [thenQ, blockQ, reduceIte]
 refine sr ?_
 refine qG ag31 sz31 ?_
 refine nm ?_
 refine qm ?_
 refine ss ?_
 refine nm ?_
 refine qn ?_
 refine AW.ret (endQ_ret (.cons (.cellG 4 31 rfl rfl rfl ag31 sz31 (by decide)) (.cons (.tmp 5) .nil)) ?_)
 refine ⟨fun i => if i = 0 then 811 else if i = 1 then 812 else if i = 2 then 813 else if i = 3 then 814 else if i = 4 then 815 else if i = 5 then 816 else 817, rfl, nodup_of rfl, ?_⟩
 intro r hr
 simp only [List.mem_cons, List.not_mem_nil, or_false] at hr
 rcases hr with rfl | rfl | rfl | rfl | rfl | rfl | rfl <;> exact ⟨by simp, rootL_mem rfl⟩
end Go.Proofs.YtfbefcmeghpalaaGreat.VM
