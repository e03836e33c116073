/- Contracts. No conditions. -/
import Derived.Test.YtekcnnngjoonbaaGreatCJKP
import Derived.Test.YtekcnnngjoonbaaGreatCJEP
set_option linter.all false
set_option maxHeartbeats 8000000
set_option maxRecDepth 10000
namespace Go.Proofs.YtekcnnngjoonbaaGreat.VM
open Go Go.RowKit Go.Proofs
theorem ofProc_cs (p : DProc) (U : Nat → Value) (h1 : ∀ c x, c < 10 → (En.cs p).getD c .j = .v x → U c = x) (h2 : ∀ c n0 l g, c < 10 → (En.cs p).getD c .j = .s n0 l g → ∃ a cap, U c = .slice a l cap) : ∀ c, c < 10 → (En.cs (ofProc p (U 5) (U 6) (U 7))).getD c .j = .v (U c) := fun c hc => by
 match c, hc with
 | 0, hc => rw [h1 0 _ hc rfl]; rfl
 | 1, hc => rw [h1 1 _ hc rfl]; rfl
 | 2, hc => rw [h1 2 _ hc rfl]; rfl
 | 3, hc => rw [h1 3 _ hc rfl]; rfl
 | 4, hc => rw [h1 4 _ hc rfl]; rfl
 | 5, hc => obtain ⟨a, cap, e⟩ := h2 5 _ _ _ hc rfl; rw [e]; simp only [ofProc, e]; rfl
 | 6, hc => obtain ⟨a, cap, e⟩ := h2 6 _ _ _ hc rfl; rw [e]; simp only [ofProc, e]; rfl
 | 7, hc => obtain ⟨a, cap, e⟩ := h2 7 _ _ _ hc rfl; rw [e]; simp only [ofProc, e]; rfl
 | 8, hc => rw [h1 8 _ hc rfl]; rfl
 | 9, hc => rw [h1 9 _ hc rfl]; rfl
 | c + 10, hc => exact absurd hc (by omega)
def srcProc : Nat → Option Nat
 | 5 => some (base + 1)
 | 6 => some (base + 2)
 | 7 => some (base + 3)
 | _ => none
def XBProc (U : Nat → Value) : X := .g [.v (U 0), .v (U 1), .v (U 2), .v (U 3), .v (U 4), .v (U 5), .v (U 6), .v (U 7), .v (U 8), .v (U 9)]
theorem insAllProc_con (l : List DProc) (p : DProc) (hs : l.length ≤ 2000000) : Con Tryz.prog 96 [.h base [], .g [.v (iv p.Pid), .v (iv p.Parent), .v (iv p.State), .v (iv p.Prog), .v (iv p.Cpu.Pc), .h (base + 1) [], .h (base + 2) [], .h (base + 3) [], .v (iv p.Until), .v (iv p.Code)]] [.rt base .row (tr l), .rt (base + 1) .row (tr p.Cpu.Regs), .rt (base + 2) .row (tr p.Mem), .rt (base + 3) .row (tr p.Fds)] (RetW (.h 0 []) [(0, .row, tr (insK DProc.Pid l p))] [(base, .j), (base + 1, .j), (base + 2, .j), (base + 3, .j)]) := by
 have hle := insAt_le (l.map DProc.Pid) (DProc.Pid p)
 rw [List.length_map] at hle
 have eT : tr (insK DProc.Pid l p) = .s 10 (l.length + 1) fun k c => if k < insAt (l.map DProc.Pid) (DProc.Pid p) then (En.cs (l.getD k En.dflt)).getD c .j else if k = insAt (l.map DProc.Pid) (DProc.Pid p) then (En.cs p).getD c .j else (En.cs (l.getD (k - 1) En.dflt)).getD c .j := by
  show T.s 10 (insK DProc.Pid l p).length (fun k c => (En.cs ((insK DProc.Pid l p).getD k En.dflt)).getD c .j) = _
  rw [insK_len]
  congr 1
  funext k c
  rw [insK_getD]
  split
  ·rfl
  ·split <;> rfl
 rw [eT]
 refine con_insV (gT := fun c => (En.cs p).getD c .j) (fT := fun k c => (En.cs (l.getD k En.dflt)).getD c .j) srcProc [base + 1, base + 2, base + 3] _ (insAt (l.map DProc.Pid) (DProc.Pid p)) hle XBProc (fun id m t h => ?_) (fun id h => ?_) (fun c id hc h => ?_) (fun c c' id hc hc' h h' => ?_) (fun R H w vp h => ?_) fun V U h1 h2 h3 h4 => ?_
 ·simp only [rts, List.mem_cons, List.not_mem_nil, or_false, E.rt.injEq] at h
  rcases h with ⟨rfl, _⟩ | ⟨rfl, _⟩ | ⟨rfl, _⟩ <;> omega
 ·simp only [List.mem_cons, List.not_mem_nil, or_false] at h
  rcases h with rfl | rfl | rfl
  ·exact ⟨by omega, _, List.mem_cons_self ..⟩
  ·exact ⟨by omega, _, List.mem_cons_of_mem _ (List.mem_cons_self ..)⟩
  ·exact ⟨by omega, _, List.mem_cons_of_mem _ (List.mem_cons_of_mem _ (List.mem_cons_self ..))⟩
 ·match c, hc, h with
  | 5, _, h => cases h; exact List.mem_cons_self ..
  | 6, _, h => cases h; exact List.mem_cons_of_mem _ (List.mem_cons_self ..)
  | 7, _, h => cases h; exact List.mem_cons_of_mem _ (List.mem_cons_of_mem _ (List.mem_cons_self ..))
 ·match c, c', h, h' with
  | 5, 5, _, _ => rfl
  | 6, 6, _, _ => rfl
  | 7, 7, _, _ => rfl
  | 5, 6, h, h' => cases h; simp [srcProc] at h'
  | 5, 7, h, h' => cases h; simp [srcProc] at h'
  | 6, 5, h, h' => cases h; simp [srcProc] at h'
  | 6, 7, h, h' => cases h; simp [srcProc] at h'
  | 7, 5, h, h' => cases h; simp [srcProc] at h'
  | 7, 6, h, h' => cases h; simp [srcProc] at h'
 ·obtain ⟨vs, e, h⟩ := h
  match vs, h with
  | [u0, u1, u2, u3, u4, u5, u6, u7, u8, u9], ⟨e0, e1, e2, e3, e4, ⟨_, _, _, _, _, q5⟩, ⟨_, _, _, _, _, q6⟩, ⟨_, _, _, _, _, q7⟩, e8, e9, _⟩ =>
  simp only [hd, Option.some.injEq] at q5 q6 q7
  obtain rfl : u0 = _ := e0
  obtain rfl : u1 = _ := e1
  obtain rfl : u2 = _ := e2
  obtain rfl : u3 = _ := e3
  obtain rfl : u4 = _ := e4
  obtain rfl : u8 = _ := e8
  obtain rfl : u9 = _ := e9
  refine ⟨fun c => [iv p.Pid, iv p.Parent, iv p.State, iv p.Prog, iv p.Cpu.Pc, u5, u6, u7, iv p.Until, iv p.Code].getD c undef, fun R' H' w' => ⟨_, e, rfl, rfl, rfl, rfl, rfl, rfl, rfl, rfl, rfl, rfl, trivial⟩, fun c hc => ?_⟩
  match c, hc with
  | 0, _ => exact ⟨fun _ => ⟨rfl, rfl⟩, fun id h => by cases h⟩
  | 1, _ => exact ⟨fun _ => ⟨rfl, rfl⟩, fun id h => by cases h⟩
  | 2, _ => exact ⟨fun _ => ⟨rfl, rfl⟩, fun id h => by cases h⟩
  | 3, _ => exact ⟨fun _ => ⟨rfl, rfl⟩, fun id h => by cases h⟩
  | 4, _ => exact ⟨fun _ => ⟨rfl, rfl⟩, fun id h => by cases h⟩
  | 5, _ => exact ⟨fun h => (by cases h), fun id h => by cases h; exact q5.symm⟩
  | 6, _ => exact ⟨fun h => (by cases h), fun id h => by cases h; exact q6.symm⟩
  | 7, _ => exact ⟨fun h => (by cases h), fun id h => by cases h; exact q7.symm⟩
  | 8, _ => exact ⟨fun _ => ⟨rfl, rfl⟩, fun id h => by cases h⟩
  | 9, _ => exact ⟨fun _ => ⟨rfl, rfl⟩, fun id h => by cases h⟩
  | c + 10, hc => exact absurd (show c + 10 < 10 from hc) (by omega)
 ·let lp := (List.range l.length).map fun k => ofProc (l.getD k En.dflt) (V k 5) (V k 6) (V k 7)
  let pp := ofProc p (U 5) (U 6) (U 7)
  have hl : lp.length = l.length := by simp [lp]
  have hg : ∀ k, k < l.length → lp.getD k En.dflt = ofProc (l.getD k En.dflt) (V k 5) (V k 6) (V k 7) := fun k hk => by
   rw [List.getD_eq_getElem?_getD, List.getElem?_map, List.getElem?_range hk]
   rfl
  have hcs : ∀ k c, k < l.length → c < 10 → (En.cs (lp.getD k En.dflt)).getD c .j = .v (V k c) := fun k c hk hc => by
   rw [hg k hk]
   exact ofProc_cs _ (V k) (fun c x hc => h1 k c x hk hc) (fun c n0 l g hc => h2 k c n0 l g hk hc) c hc
  have hps : ∀ c, c < 10 → (En.cs pp).getD c .j = .v (U c) := ofProc_cs p U h3 h4
  have hkey : lp.map CProc.f0 = l.map DProc.Pid := by
   conv => rhs; rw [← range_getD l En.dflt]
   rw [List.map_map, List.map_map]
   rfl
  have hc := insKProc_con lp pp (by omega)
  have hX : XBProc U = .g [.v (iv pp.f0), .v (iv pp.f1), .v (iv pp.f2), .v (iv pp.f3), .v (iv pp.f4), .v (.slice pp.f5a pp.f5l pp.f5c), .v (.slice pp.f6a pp.f6l pp.f6c), .v (.slice pp.f7a pp.f7l pp.f7c), .v (iv pp.f8), .v (iv pp.f9)] := by
   unfold XBProc
   rw [← T.v.inj (hps 0 (by omega)), ← T.v.inj (hps 1 (by omega)), ← T.v.inj (hps 2 (by omega)), ← T.v.inj (hps 3 (by omega)), ← T.v.inj (hps 4 (by omega)), ← T.v.inj (hps 5 (by omega)), ← T.v.inj (hps 6 (by omega)), ← T.v.inj (hps 7 (by omega)), ← T.v.inj (hps 8 (by omega)), ← T.v.inj (hps 9 (by omega))]
  rw [← hX, show tr lp = .s 10 l.length (fun k c => (En.cs (lp.getD k En.dflt)).getD c .j) from congrArg (fun m => T.s 10 m fun k c => (En.cs (lp.getD k En.dflt)).getD c .j) hl, show tr (insK CProc.f0 lp pp) = .s 10 (l.length + 1) (fun k c => (En.cs ((insK CProc.f0 lp pp).getD k En.dflt)).getD c .j) from congrArg (fun m => T.s 10 m fun k c => (En.cs ((insK CProc.f0 lp pp).getD k En.dflt)).getD c .j) (by rw [insK_len, hl])] at hc
  refine ⟨_, _, hcs, fun k c hk hc => ?_, hc⟩
  rw [insK_getD, hkey, show CProc.f0 pp = DProc.Pid p from rfl]
  split
  ·exact hcs k c (by omega) hc
  ·split
   ·exact hps c hc
   ·exact hcs (k - 1) c (by omega) hc
end Go.Proofs.YtekcnnngjoonbaaGreat.VM
