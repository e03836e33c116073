/- Contracts. No conditions. -/
import Derived.Test.YtekcnnngjoonbaaGreatCN8
import Derived.Test.YtekcnnngjoonbaaGreatCNV1
import Derived.Test.YtekcnnngjoonbaaGreatCNV3i
import Derived.Test.YtekcnnngjoonbaaGreatCNV3bpr
import Derived.Test.YtekcnnngjoonbaaGreatCNV3pro
import Derived.Test.YtekcnnngjoonbaaGreatCNA
import Derived.Test.YtekcnnngjoonbaaGreatCN9
set_option linter.all false
set_option maxHeartbeats 8000000
set_option maxRecDepth 10000
namespace Go.Proofs.YtekcnnngjoonbaaGreat.VM
open Go Go.RowKit Go.Proofs
theorem cntL_le {α : Type} [Mk α] {K : Nat} (h : ∀ a : α, Mk.cnt a ≤ K * (Mk.wt a + 1)) (l : List α) : Mk.cnt l ≤ K * Mk.wt l := by
 rw [cnt_list, cumN_wtL, wt_list]
 induction l with
 | nil => simp [wtL]
 | cons a l ih =>
  have := h a
  simp only [wtL, List.map_cons, List.foldr_cons, List.length_cons, Nat.mul_add, Nat.mul_one] at this ih ⊢
  omega
theorem cnt_progs (l : List (List DIns)) : Mk.cnt l ≤ 4 * Mk.wt l :=
 cntL_le (fun l => by
  have i1 : ∀ a : DIns, Mk.cnt a ≤ 4 * (Mk.wt a + 1) := fun a => by show 4 ≤ 4 * (0 + 1); omega
  have := cntL_le i1 l; omega) l
theorem cnt_lists (l : List (List Int)) : Mk.cnt l ≤ 1 * Mk.wt l := cntL_le (fun l => by rw [cnt_ints, wt_ints]; omega) l
theorem cnt_unix {u : DUnix} (hw : Mk.wt u ≤ 20000000) : Mk.cnt u.Progs + Mk.cnt u.Procs + Mk.cnt u.Opens + Mk.cnt u.Pipes + Mk.cnt u.Files + Mk.cnt u.Ready + Mk.cnt u.Out ≤ 200000000 := by
 have hwu : Mk.wt u.Progs + Mk.wt u.Procs + Mk.wt u.Opens + Mk.wt u.Pipes + Mk.wt u.Files + Mk.wt u.Ready + Mk.wt u.Out ≤ 20000000 := hw
 have i0 : ∀ l : List Int, Mk.cnt l = Mk.wt l := fun l => by rw [cnt_ints, wt_ints]
 have i3 : ∀ a : DProc, Mk.cnt a ≤ 7 * (Mk.wt a + 1) := fun a => by
  rw [cnt_Proc, i0, i0, i0]
  show _ ≤ 7 * ((Mk.wt a.Cpu.Regs + Mk.wt a.Mem + Mk.wt a.Fds) + 1)
  omega
 have i4 : ∀ a : DOpen, Mk.cnt a ≤ 5 * (Mk.wt a + 1) := fun a => by show 5 ≤ 5 * (0 + 1); omega
 have i5 : ∀ a : DPipe, Mk.cnt a ≤ 1 * (Mk.wt a + 1) := fun a => by
  show 1 + Mk.cnt a.Data ≤ 1 * (Mk.wt a.Data + 1)
  rw [i0]; omega
 have i6 : ∀ a : DFile, Mk.cnt a ≤ 1 * (Mk.wt a + 1) := fun a => by
  show 1 + Mk.cnt a.Data ≤ 1 * (Mk.wt a.Data + 1)
  rw [i0]; omega
 have h1 := cnt_progs u.Progs
 have h2 := cntL_le i3 u.Procs
 have h3 := cntL_le i4 u.Opens
 have h4 := cntL_le i5 u.Pipes
 have h5 := cntL_le i6 u.Files
 rw [i0 u.Ready, i0 u.Out]
 omega
theorem wt_app1 {α : Type} [Mk α] (l : List α) (x : α) : Mk.wt (l ++ [x]) = Mk.wt l + (Mk.wt x + 1) := by
 rw [wt_list, wt_list]
 induction l with
 | nil => simp [wtL]; omega
 | cons y l ih => simp only [wtL, List.cons_append, List.map_cons, List.foldr_cons, List.length_cons] at ih ⊢; omega
theorem wt_ins {α : Type} [Mk α] (key : α → Int) (x : α) : ∀ l : List α, Mk.wt (insK key l x) = Mk.wt l + (Mk.wt x + 1)
 | [] => wt_app1 [] x
 | y :: l => by
  have h : ∀ (z : α) (m : List α), Mk.wt (z :: m) = Mk.wt m + (Mk.wt z + 1) := fun z m => by
   rw [wt_list, wt_list]; simp only [wtL, List.map_cons, List.foldr_cons, List.length_cons]; omega
  rw [insK]
  split
  ·rw [h x]
  ·rw [h, h, wt_ins key x l]; omega
theorem wt_sort {α : Type} [Mk α] (key : α → Int) (l : List α) : Mk.wt (sortK key l) = Mk.wt l := by
 have h : ∀ (l acc : List α), Mk.wt (l.foldl (insK key) acc) = Mk.wt acc + Mk.wt l := fun l => by
  induction l with
  | nil => intro acc; rfl
  | cons x l ih =>
   intro acc
   rw [List.foldl_cons, ih, wt_ins, wt_list (x :: l), wt_list l]
   simp only [wtL, List.map_cons, List.foldr_cons, List.length_cons]; omega
 rw [sortK, h]
 show 0 + _ = _
 omega
theorem memK_lenLe (ram fs : List Int) (k : Nat) : (memK ram fs k).length ≤ 4 * k := by
 unfold memK
 rw [List.length_flatten, List.map_map]
 have h : ∀ l : List Int, (l.map (List.length ∘ frW ram)).sum ≤ 4 * l.length := fun l => by
  induction l with
  | nil => exact Nat.le_refl _
  | cons x l ih =>
   have : (List.length ∘ frW ram) x ≤ 4 := by show (frW ram x).length ≤ 4; unfold frW; exact List.length_take_le _ _
   simp only [List.map_cons, List.sum_cons, List.length_cons]; omega
 have := h (fs.take k)
 have := List.length_take_le k fs
 omega
theorem cnt_nodes {a : DNodes} (hw : Mk.wt a ≤ 1048576) : Mk.cnt a.Progs + Mk.cnt a.Procs + Mk.cnt a.Ram + Mk.cnt a.Heap.Free + Mk.cnt a.Opens + Mk.cnt a.Pipes + Mk.cnt a.Files + Mk.cnt a.Ready + Mk.cnt a.Out ≤ 20000000 := by
 have hwu : Mk.wt a.Progs + Mk.wt a.Procs + Mk.wt a.Ram + Mk.wt a.Heap.Free + Mk.wt a.Opens + Mk.wt a.Pipes + Mk.wt a.Files + Mk.wt a.Ready + Mk.wt a.Out ≤ 1048576 := hw
 have i0 : ∀ l : List Int, Mk.cnt l = Mk.wt l := fun l => by rw [cnt_ints, wt_ints]
 have i1 : ∀ a : DBProc, Mk.cnt a ≤ 7 * (Mk.wt a + 1) := fun a => by
  rw [cnt_BProc, i0, i0, i0]
  show _ ≤ 7 * ((Mk.wt a.Cpu.Regs + Mk.wt a.Pages + Mk.wt a.Fds) + 1)
  omega
 have i4 : ∀ a : DOpen, Mk.cnt a ≤ 5 * (Mk.wt a + 1) := fun a => by show 5 ≤ 5 * (0 + 1); omega
 have i5 : ∀ a : DBPipe, Mk.cnt a ≤ 1 * (Mk.wt a + 1) := fun a => by
  have := cnt_lists a.Chunks
  show 1 + Mk.cnt a.Chunks ≤ 1 * (Mk.wt a.Chunks + 1)
  omega
 have i6 : ∀ a : DFile, Mk.cnt a ≤ 1 * (Mk.wt a + 1) := fun a => by
  show 1 + Mk.cnt a.Data ≤ 1 * (Mk.wt a.Data + 1)
  rw [i0]; omega
 have h1 := cnt_progs a.Progs
 have h2 := cntL_le i1 a.Procs
 have h3 := cntL_le i4 a.Opens
 have h4 := cntL_le i5 a.Pipes
 have h5 := cntL_le i6 a.Files
 have h6 := cnt_lists a.Heap.Free
 rw [i0 a.Ram, i0 a.Ready, i0 a.Out]
 omega
/-- a process has at most four words for each page -/
theorem procN_wt (a : DNodes) (p : DBProc) : Mk.wt (procN a p) ≤ 4 * Mk.wt p := by
 have e : Mk.wt (procN a p) = Mk.wt p.Cpu.Regs + Mk.wt (memK a.Ram p.Pages.reverse p.Pages.length) + Mk.wt p.Fds := rfl
 have e2 : Mk.wt p = Mk.wt p.Cpu.Regs + Mk.wt p.Pages + Mk.wt p.Fds := rfl
 have h := memK_lenLe a.Ram p.Pages.reverse p.Pages.length
 have h2 := wt_ints p.Pages
 rw [wt_ints (memK _ _ _)] at e
 omega
theorem map_wt {α β : Type} [Mk α] [Mk β] (f : α → β) {K : Nat} (hK : 1 ≤ K) (h : ∀ x, Mk.wt (f x) ≤ K * Mk.wt x) : ∀ l : List α, Mk.wt (l.map f) ≤ K * Mk.wt l
 | [] => Nat.zero_le _
 | x :: l => by
  have h1 := map_wt f hK h l
  have h2 := h x
  have e1 : Mk.wt (f x :: l.map f) = Mk.wt (l.map f) + (Mk.wt (f x) + 1) := by
   rw [wt_list, wt_list]; simp only [wtL, List.map_cons, List.foldr_cons, List.length_cons]; omega
  have e2 : Mk.wt (x :: l) = Mk.wt l + (Mk.wt x + 1) := by
   rw [wt_list, wt_list]; simp only [wtL, List.map_cons, List.foldr_cons, List.length_cons]; omega
  rw [List.map_cons, e1, e2, Nat.mul_add, Nat.mul_add, Nat.mul_one]
  omega
theorem pipeN_wt (p : DBPipe) : Mk.wt (pipeN p) ≤ 1 * Mk.wt p := by
 have e : Mk.wt (pipeN p) = Mk.wt p.Chunks.flatten := rfl
 have e2 : Mk.wt p = Mk.wt p.Chunks := rfl
 have h := flat_len p.Chunks
 rw [wt_ints] at e
 omega
theorem absB_wt {a : DNodes} (hw : Mk.wt a ≤ 1048576) : Mk.wt (absB a) ≤ 20000000 := by
 have hwu : Mk.wt a.Progs + Mk.wt a.Procs + Mk.wt a.Ram + Mk.wt a.Heap.Free + Mk.wt a.Opens + Mk.wt a.Pipes + Mk.wt a.Files + Mk.wt a.Ready + Mk.wt a.Out ≤ 1048576 := hw
 cases hsh : shapeB a with
 | false => rw [absB_f hsh]; show 0 ≤ _; omega
 | true =>
  rw [absB_t hsh]
  have e : Mk.wt (absN a) = Mk.wt a.Progs + Mk.wt (prK a a.Procs.length) + Mk.wt (opK a a.Opens.length) + Mk.wt (piK a a.Pipes.length) + Mk.wt (fiK a a.Files.length) + Mk.wt a.Ready + Mk.wt a.Out := rfl
  rw [prK, opK, piK, fiK, wt_sort, wt_sort, wt_sort, wt_sort, List.take_length, List.take_length, List.take_length, List.take_length] at e
  have h1 := map_wt (procN a) (by omega) (procN_wt a) a.Procs
  have h2 := map_wt pipeN (by omega) pipeN_wt a.Pipes
  omega
end Go.Proofs.YtekcnnngjoonbaaGreat.VM
set_option linter.all false
set_option maxHeartbeats 8000000
set_option maxRecDepth 10000
namespace Go.Proofs.YtekcnnngjoonbaaGreat.VM
open Go Go.RowKit Go.Proofs
theorem markInsS_con (a : List DIns) (k : Int) (hk : 0 ≤ k) (hk2 : k + (Mk.cnt a : Nat) ≤ 4611686018427387904) : Con Tryz.prog 132 [.h base [], .v (iv k)] [.rt base .row (tr a)] (RetW (.v (iv (k + (Mk.cnt a : Nat)))) [] [(base, tr (mkL a (k)))]) := by
 refine ob Tryz.func132 Tryz.ntmps132 ?_
 refine AW.len base [] rfl (by simp [Okp]) rfl (fun hl => ?_)
 refine go [.R,.a,.Z,.R2,.a,.Z] (k := ?_)
 refine AW.block ?_
 refine AW.weak (L' := [.sl 5 (.v (iv (0 : Nat))), .sl 1 (.v (iv (k + (cumN Mk.cnt En.dflt a 0 : Nat)))), .sl 0 (.h base []), .rt base .row (trMix 0 a.length (mkF a k) fun j => a.getD j En.dflt)]) (Weak.sim ⟨rfl, (by simp only [slotL, reduceIte, Nat.reduceEqDiff]; show X.v (iv k) = _; simp [cumN]), rfl, ⟨_, rfl, trMix_tr⟩, trivial⟩ rfl rfl) ?_
 refine AW.loop (fun i : KInv a.length => [.sl 5 (.v (iv i.k)), .sl 1 (.v (iv (k + (cumN Mk.cnt En.dflt a i.k : Nat)))), .sl 0 (.h base []), .rt base .row (trMix i.k a.length (mkF a k) fun j => a.getD j En.dflt)]) (fun i => a.length - i.k) ⟨0, Nat.zero_le _⟩ ?_
 intro i
 have hle := i.le
 refine go [.R2,.m,.N,.m,.h,.b,.Z] (k := ?_)
 refine cd (fun c1 => ?_) fun c1 => ?_
 ·try simp only [cnd] at c1
  have hc1 := cumN_mono (c := Mk.cnt) (d := En.dflt) (l := a) (show i.k + 1 ≤ a.length by omega)
  simp only [cumN, cnt_Ins] at hc1
  simp only [cnt_list] at hk2
  refine jd (AW.seq (AW.block (sr ?_)))
  refine go [.m,.N,.m,.m,.i,.N,.f,.s,.Z,.R,.m,.N,.b,.a,.Z,.R,.m,.N,.m,.m,.i,.N,.f,.s,.Z,.R,.m,.N,.b,.a,.Z,.R,.m,.N,.m,.m,.i,.N,.f,.s,.Z,.R,.m,.N,.b,.a,.Z,.R,.m,.N,.m,.m,.i,.N,.f,.s,.Z,.R1,.m,.N,.b,.a,.Z,.R1,.m,.N,.b,.a,.Z] (k := ?_)
  refine ⟨⟨i.k + 1, by omega⟩, Weak.sim ⟨st1, (by simp only [slotL, reduceIte, Nat.reduceEqDiff]; congr 2; simp only [cumN, cnt_Ins]; omega), rfl, ⟨_, rfl, trMix_next (fun i c hi => by simp only [upd_app, hi, false_and, if_false]; rfl) (fun c hc => match c, hc with | 0, _ => (by simp only [upd_app, eq_self, and_true, and_false, Nat.reduceEqDiff, if_true, if_false]; exact tsr) | 1, _ => (by simp only [upd_app, eq_self, and_true, and_false, Nat.reduceEqDiff, if_true, if_false]; exact tsr) | 2, _ => (by simp only [upd_app, eq_self, and_true, and_false, Nat.reduceEqDiff, if_true, if_false]; exact tsr) | 3, _ => (by simp only [upd_app, eq_self, and_true, and_false, Nat.reduceEqDiff, if_true, if_false]; exact tsr) | c + 4, hc => absurd hc (by simp only [En.n]; omega))⟩, trivial⟩ rfl rfl, ?_⟩
  show a.length - (i.k + 1) < a.length - i.k
  omega
 try simp only [cnd] at c1
 refine AW.exit ?_
 dsimp only [thenQ, blockQ, reduceIte]
 refine go [.R,.m,.N,.a,.Z] (k := ?_)
 refine AW.weak (L' := [.rt base .row (tr (mkL a k)), .sl 4 (.v (iv (k + (Mk.cnt a : Nat))))]) (Weak.sim ⟨⟨_, rfl, trMix_mk a k (by omega)⟩, (by simp only [slotL, reduceIte, Nat.reduceEqDiff]; rw [cnt_list, show cumN Mk.cnt En.dflt a i.k = cumN Mk.cnt En.dflt a a.length by rw [show i.k = a.length by omega]]), trivial⟩ rfl rfl) ?_
 refine rt1 4 ?_
 refine ⟨fun n => n, rfl, fun _ _ => rfl, List.nodup_nil, (by simp), ?_⟩
 intro p hp
 cases List.mem_singleton.1 hp
 exact rootL_mem rfl
theorem markInsSS_con (a : List (List DIns)) (k : Int) (hk : 0 ≤ k) (hk2 : k + (Mk.cnt a : Nat) ≤ 4611686018427387904) : Con Tryz.prog 62 [.h base [], .v (iv k)] [.rt base .row (tr a)] (RetW (.v (iv (k + (Mk.cnt a : Nat)))) [] [(base, tr (mkL a (k)))]) := by
 refine ob Tryz.func62 Tryz.ntmps62 ?_
 refine AW.len base [] rfl (by simp [Okp]) rfl (fun hl => ?_)
 refine go [.R,.a,.Z,.R2,.a,.Z] (k := ?_)
 refine AW.block ?_
 refine AW.weak (L' := [.sl 5 (.v (iv (0 : Nat))), .sl 1 (.v (iv (k + (cumN Mk.cnt En.dflt a 0 : Nat)))), .sl 0 (.h base []), .rt base .row (trMix 0 a.length (mkF a k) fun j => a.getD j En.dflt)]) (Weak.sim ⟨rfl, (by simp only [slotL, reduceIte, Nat.reduceEqDiff]; show X.v (iv k) = _; simp [cumN]), rfl, ⟨_, rfl, trMix_tr⟩, trivial⟩ rfl rfl) ?_
 refine AW.loop (fun i : KInv a.length => [.sl 5 (.v (iv i.k)), .sl 1 (.v (iv (k + (cumN Mk.cnt En.dflt a i.k : Nat)))), .sl 0 (.h base []), .rt base .row (trMix i.k a.length (mkF a k) fun j => a.getD j En.dflt)]) (fun i => a.length - i.k) ⟨0, Nat.zero_le _⟩ ?_
 intro i
 have hle := i.le
 refine go [.R2,.m,.N,.m,.h,.b,.Z] (k := ?_)
 refine cd (fun c1 => ?_) fun c1 => ?_
 ·try simp only [cnd] at c1
  have hc1 := cumN_mono (c := Mk.cnt) (d := En.dflt) (l := a) (show i.k + 1 ≤ a.length by omega)
  simp only [cumN] at hc1
  simp only [cnt_list] at hk2
  refine jd (AW.seq (AW.block (AW.region ?_)))
  refine go [.m,.N,.m,.i,.l,.N,.m] (k := ?_)
  refine sp (Stp.callH rfl (by decide) Tryz.call132 rfl (markInsS_con (a.getD i.k En.dflt) (k + (cumN Mk.cnt En.dflt a i.k : Nat)) (by omega) (by omega)) (by simp only [go_sem, reduceIte, Nat.reduceEqDiff, Nat.reduceBEq, reduceCtorEq, tr, List.map_cons, List.map_nil]; rfl) rfl rfl (nodup_of rfl) rfl rfl) ?_
  refine go [.N,.a,.Z,.R1,.m,.b,.N,.a,.Z] (k := ?_)
  refine ⟨⟨i.k + 1, by omega⟩, Weak.sim ⟨st1, (by simp only [slotL, reduceIte, Nat.reduceEqDiff]; congr 2; simp only [cumN]; omega), rfl, ⟨_, rfl, trMix_next (fun i c hi => by simp only [upd_app, hi, false_and, if_false]; rfl) (fun c hc => match c, hc with | 0, _ => (by simp only [upd_app, eq_self, and_true, and_false, Nat.reduceEqDiff, if_true, if_false]; exact tsr) | c + 1, hc => absurd hc (by simp only [En.n]; omega))⟩, trivial⟩ rfl rfl, ?_⟩
  show a.length - (i.k + 1) < a.length - i.k
  omega
 try simp only [cnd] at c1
 refine AW.exit ?_
 dsimp only [thenQ, blockQ, reduceIte]
 refine go [.R,.m,.a,.Z] (k := ?_)
 refine AW.weak (L' := [.rt base .row (tr (mkL a k)), .sl 4 (.v (iv (k + (Mk.cnt a : Nat))))]) (Weak.sim ⟨⟨_, rfl, trMix_mk a k (by omega)⟩, (by simp only [slotL, reduceIte, Nat.reduceEqDiff]; rw [cnt_list, show cumN Mk.cnt En.dflt a i.k = cumN Mk.cnt En.dflt a a.length by rw [show i.k = a.length by omega]]), trivial⟩ rfl rfl) ?_
 refine rt1 4 ?_
 refine ⟨fun n => n, rfl, fun _ _ => rfl, List.nodup_nil, (by simp), ?_⟩
 intro p hp
 cases List.mem_singleton.1 hp
 exact rootL_mem rfl
theorem markIntSS_con (a : List (List Int)) (k : Int) (hk : 0 ≤ k) (hk2 : k + (Mk.cnt a : Nat) ≤ 4611686018427387904) : Con Tryz.prog 133 [.h base [], .v (iv k)] [.rt base .row (tr a)] (RetW (.v (iv (k + (Mk.cnt a : Nat)))) [] [(base, tr (mkL a (k)))]) := by
 refine ob Tryz.func133 Tryz.ntmps133 ?_
 refine AW.len base [] rfl (by simp [Okp]) rfl (fun hl => ?_)
 refine go [.R,.a,.Z,.R2,.a,.Z] (k := ?_)
 refine AW.block ?_
 refine AW.weak (L' := [.sl 5 (.v (iv (0 : Nat))), .sl 1 (.v (iv (k + (cumN Mk.cnt En.dflt a 0 : Nat)))), .sl 0 (.h base []), .rt base .row (trMix 0 a.length (mkF a k) fun j => a.getD j En.dflt)]) (Weak.sim ⟨rfl, (by simp only [slotL, reduceIte, Nat.reduceEqDiff]; show X.v (iv k) = _; simp [cumN]), rfl, ⟨_, rfl, trMix_tr⟩, trivial⟩ rfl rfl) ?_
 refine AW.loop (fun i : KInv a.length => [.sl 5 (.v (iv i.k)), .sl 1 (.v (iv (k + (cumN Mk.cnt En.dflt a i.k : Nat)))), .sl 0 (.h base []), .rt base .row (trMix i.k a.length (mkF a k) fun j => a.getD j En.dflt)]) (fun i => a.length - i.k) ⟨0, Nat.zero_le _⟩ ?_
 intro i
 have hle := i.le
 refine go [.R2,.m,.N,.m,.h,.b,.Z] (k := ?_)
 refine cd (fun c1 => ?_) fun c1 => ?_
 ·try simp only [cnd] at c1
  have hc1 := cumN_mono (c := Mk.cnt) (d := En.dflt) (l := a) (show i.k + 1 ≤ a.length by omega)
  simp only [cumN] at hc1
  simp only [cnt_list] at hk2
  refine jd (AW.seq (AW.block (AW.region ?_)))
  refine go [.m,.N,.m,.i,.l,.N,.m] (k := ?_)
  refine sp (Stp.callH rfl (by decide) Tryz.call64 rfl (markIntS_con (a.getD i.k En.dflt) (k + (cumN Mk.cnt En.dflt a i.k : Nat)) (by omega) (by omega)) (by simp only [go_sem, reduceIte, Nat.reduceEqDiff, Nat.reduceBEq, reduceCtorEq, tr, List.map_cons, List.map_nil]; rfl) rfl rfl (nodup_of rfl) rfl rfl) ?_
  refine go [.N,.a,.Z,.R1,.m,.b,.N,.a,.Z] (k := ?_)
  refine ⟨⟨i.k + 1, by omega⟩, Weak.sim ⟨st1, (by simp only [slotL, reduceIte, Nat.reduceEqDiff]; congr 2; simp only [cumN]; omega), rfl, ⟨_, rfl, trMix_next (fun i c hi => by simp only [upd_app, hi, false_and, if_false]; rfl) (fun c hc => match c, hc with | 0, _ => (by simp only [upd_app, eq_self, and_true, and_false, Nat.reduceEqDiff, if_true, if_false]; exact tsr) | c + 1, hc => absurd hc (by simp only [En.n]; omega))⟩, trivial⟩ rfl rfl, ?_⟩
  show a.length - (i.k + 1) < a.length - i.k
  omega
 try simp only [cnd] at c1
 refine AW.exit ?_
 dsimp only [thenQ, blockQ, reduceIte]
 refine go [.R,.m,.a,.Z] (k := ?_)
 refine AW.weak (L' := [.rt base .row (tr (mkL a k)), .sl 4 (.v (iv (k + (Mk.cnt a : Nat))))]) (Weak.sim ⟨⟨_, rfl, trMix_mk a k (by omega)⟩, (by simp only [slotL, reduceIte, Nat.reduceEqDiff]; rw [cnt_list, show cumN Mk.cnt En.dflt a i.k = cumN Mk.cnt En.dflt a a.length by rw [show i.k = a.length by omega]]), trivial⟩ rfl rfl) ?_
 refine rt1 4 ?_
 refine ⟨fun n => n, rfl, fun _ _ => rfl, List.nodup_nil, (by simp), ?_⟩
 intro p hp
 cases List.mem_singleton.1 hp
 exact rootL_mem rfl
theorem markBuddy_con (a : DBuddy) (k : Int) (hk : 0 ≤ k) (hk2 : k + (Mk.cnt a.Free : Nat) ≤ 4611686018427387904) : Con Tryz.prog 65 [.g [.h base []], .v (iv k)] [.rt base .row (tr a.Free)] (RetW (.v (iv (k + (Mk.cnt a.Free : Nat)))) [] [(base, tr (mkL a.Free (k)))]) := by
 refine ob Tryz.func65 Tryz.ntmps65 ?_
 refine go [.R,.B,.N,.a,.Z,.R,.f,.l,.N,.m] (k := ?_)
 refine sp (Stp.callH rfl (by decide) Tryz.call133 rfl (markIntSS_con _ _ (by omega) (by omega)) rfl rfl rfl (nodup_of rfl) rfl rfl) ?_
 refine go [.N,.a,.Z,.R,.m,.a,.Z] (k := ?_)
 refine rt1 4 ?_
 refine ⟨fun n => n, rfl, fun _ _ => rfl, List.nodup_nil, (by simp), ?_⟩
 intro p hp
 cases List.mem_singleton.1 hp
 exact rootL_mem rfl
theorem markOpenS_con (a : List DOpen) (k : Int) (hk : 0 ≤ k) (hk2 : k + (Mk.cnt a : Nat) ≤ 4611686018427387904) : Con Tryz.prog 66 [.h base [], .v (iv k)] [.rt base .row (tr a)] (RetW (.v (iv (k + (Mk.cnt a : Nat)))) [] [(base, tr (mkL a (k)))]) := by
 refine ob Tryz.func66 Tryz.ntmps66 ?_
 refine AW.len base [] rfl (by simp [Okp]) rfl (fun hl => ?_)
 refine go [.R,.a,.Z,.R2,.a,.Z] (k := ?_)
 refine AW.block ?_
 refine AW.weak (L' := [.sl 5 (.v (iv (0 : Nat))), .sl 1 (.v (iv (k + (cumN Mk.cnt En.dflt a 0 : Nat)))), .sl 0 (.h base []), .rt base .row (trMix 0 a.length (mkF a k) fun j => a.getD j En.dflt)]) (Weak.sim ⟨rfl, (by simp only [slotL, reduceIte, Nat.reduceEqDiff]; show X.v (iv k) = _; simp [cumN]), rfl, ⟨_, rfl, trMix_tr⟩, trivial⟩ rfl rfl) ?_
 refine AW.loop (fun i : KInv a.length => [.sl 5 (.v (iv i.k)), .sl 1 (.v (iv (k + (cumN Mk.cnt En.dflt a i.k : Nat)))), .sl 0 (.h base []), .rt base .row (trMix i.k a.length (mkF a k) fun j => a.getD j En.dflt)]) (fun i => a.length - i.k) ⟨0, Nat.zero_le _⟩ ?_
 intro i
 have hle := i.le
 refine go [.R2,.m,.N,.m,.h,.b,.Z] (k := ?_)
 refine cd (fun c1 => ?_) fun c1 => ?_
 ·try simp only [cnd] at c1
  have hc1 := cumN_mono (c := Mk.cnt) (d := En.dflt) (l := a) (show i.k + 1 ≤ a.length by omega)
  simp only [cumN, cnt_Open] at hc1
  simp only [cnt_list] at hk2
  refine jd (AW.seq (AW.block (sr ?_)))
  refine go [.m,.N,.m,.m,.i,.N,.f,.s,.Z,.R,.m,.N,.b,.a,.Z,.R,.m,.N,.m,.m,.i,.N,.f,.s,.Z,.R,.m,.N,.b,.a,.Z,.R,.m,.N,.m,.m,.i,.N,.f,.s,.Z,.R,.m,.N,.b,.a,.Z,.R,.m,.N,.m,.m,.i,.N,.f,.s,.Z,.R,.m,.N,.b,.a,.Z,.R,.m,.N,.m,.m,.i,.N,.f,.s,.Z,.R1,.m,.N,.b,.a,.Z,.R1,.m,.N,.b,.a,.Z] (k := ?_)
  refine ⟨⟨i.k + 1, by omega⟩, Weak.sim ⟨st1, (by simp only [slotL, reduceIte, Nat.reduceEqDiff]; congr 2; simp only [cumN, cnt_Open]; omega), rfl, ⟨_, rfl, trMix_next (fun i c hi => by simp only [upd_app, hi, false_and, if_false]; rfl) (fun c hc => match c, hc with | 0, _ => (by simp only [upd_app, eq_self, and_true, and_false, Nat.reduceEqDiff, if_true, if_false]; exact tsr) | 1, _ => (by simp only [upd_app, eq_self, and_true, and_false, Nat.reduceEqDiff, if_true, if_false]; exact tsr) | 2, _ => (by simp only [upd_app, eq_self, and_true, and_false, Nat.reduceEqDiff, if_true, if_false]; exact tsr) | 3, _ => (by simp only [upd_app, eq_self, and_true, and_false, Nat.reduceEqDiff, if_true, if_false]; exact tsr) | 4, _ => (by simp only [upd_app, eq_self, and_true, and_false, Nat.reduceEqDiff, if_true, if_false]; exact tsr) | c + 5, hc => absurd hc (by simp only [En.n]; omega))⟩, trivial⟩ rfl rfl, ?_⟩
  show a.length - (i.k + 1) < a.length - i.k
  omega
 try simp only [cnd] at c1
 refine AW.exit ?_
 dsimp only [thenQ, blockQ, reduceIte]
 refine go [.R,.m,.N,.a,.Z] (k := ?_)
 refine AW.weak (L' := [.rt base .row (tr (mkL a k)), .sl 4 (.v (iv (k + (Mk.cnt a : Nat))))]) (Weak.sim ⟨⟨_, rfl, trMix_mk a k (by omega)⟩, (by simp only [slotL, reduceIte, Nat.reduceEqDiff]; rw [cnt_list, show cumN Mk.cnt En.dflt a i.k = cumN Mk.cnt En.dflt a a.length by rw [show i.k = a.length by omega]]), trivial⟩ rfl rfl) ?_
 refine rt1 4 ?_
 refine ⟨fun n => n, rfl, fun _ _ => rfl, List.nodup_nil, (by simp), ?_⟩
 intro p hp
 cases List.mem_singleton.1 hp
 exact rootL_mem rfl
theorem markBPipeS_con (a : List DBPipe) (k : Int) (hk : 0 ≤ k) (hk2 : k + (Mk.cnt a : Nat) ≤ 4611686018427387904) : Con Tryz.prog 67 [.h base [], .v (iv k)] [.rt base .row (tr a)] (RetW (.v (iv (k + (Mk.cnt a : Nat)))) [] [(base, tr (mkL a (k)))]) := by
 refine ob Tryz.func67 Tryz.ntmps67 ?_
 refine AW.len base [] rfl (by simp [Okp]) rfl (fun hl => ?_)
 refine go [.R,.a,.Z,.R2,.a,.Z] (k := ?_)
 refine AW.block ?_
 refine AW.weak (L' := [.sl 5 (.v (iv (0 : Nat))), .sl 1 (.v (iv (k + (cumN Mk.cnt En.dflt a 0 : Nat)))), .sl 0 (.h base []), .rt base .row (T.s 2 a.length (oldF (mkF a k) (fun j => a.getD j En.dflt) 0))]) (Weak.sim ⟨rfl, (by simp only [slotL, reduceIte, Nat.reduceEqDiff]; show X.v (iv k) = _; simp [cumN]), rfl, ⟨_, rfl, oldF_zero⟩, trivial⟩ rfl rfl) ?_
 refine AW.loop (fun i : KInv a.length => [.sl 5 (.v (iv i.k)), .sl 1 (.v (iv (k + (cumN Mk.cnt En.dflt a i.k : Nat)))), .sl 0 (.h base []), .rt base .row (T.s 2 a.length (oldF (mkF a k) (fun j => a.getD j En.dflt) i.k))]) (fun i => a.length - i.k) ⟨0, Nat.zero_le _⟩ ?_
 intro i
 have hle := i.le
 refine go [.R2,.m,.N,.m,.h,.b,.Z] (k := ?_)
 refine cd (fun c1 => ?_) fun c1 => ?_
 ·try simp only [cnd] at c1
  have hc1 := cumN_mono (c := Mk.cnt) (d := En.dflt) (l := a) (show i.k + 1 ≤ a.length by omega)
  simp only [cumN, cnt_BPipe] at hc1
  simp only [cnt_list] at hk2
  refine AW.rep base (T.s 2 a.length (mixF (oldF (mkF a k) (fun j => a.getD j En.dflt) i.k) (newF (mkF a k) i.k) i.k 0)) rfl mix_zero ?_
  refine jd (AW.seq (AW.block (sr ?_)))
  refine go [.m,.N,.m,.m,.i,.N,.f,.s] (k := ?_)
  refine AWL.rep base (T.s 2 a.length (mixF (oldF (mkF a k) (fun j => a.getD j En.dflt) i.k) (newF (mkF a k) i.k) i.k 1)) rfl (mix_step (m := 0) (tsr)) ?_
  refine go [.Z,.R,.m,.N,.b,.a,.Z,.R1,.m,.N,.m,.i,.f,.N,.l,.m] (k := ?_)
  refine sp (Stp.callH rfl (by decide) Tryz.call133 rfl (markIntSS_con (a.getD i.k En.dflt).Chunks (k + (cumN Mk.cnt En.dflt a i.k : Nat) + 1) (by omega) (by omega)) (by simp only [go_sem, reduceIte, Nat.reduceEqDiff, Nat.reduceBEq, reduceCtorEq, tr, List.map_cons, List.map_nil]; rfl) rfl rfl (nodup_of rfl) rfl rfl) ?_
  refine go [.N] (k := ?_)
  refine AWL.rep base (T.s 2 a.length (mixF (oldF (mkF a k) (fun j => a.getD j En.dflt) i.k) (newF (mkF a k) i.k) i.k 2)) rfl (mix_step (m := 1) (tsr)) ?_
  refine go [.N,.a,.Z,.R1,.m,.b,.N,.a,.Z] (k := ?_)
  refine ⟨⟨i.k + 1, by omega⟩, Weak.sim ⟨st1, (by simp only [slotL, reduceIte, Nat.reduceEqDiff]; congr 2; simp only [cumN, cnt_BPipe]; omega), rfl, ⟨_, rfl, mix_next (α := DBPipe)⟩, trivial⟩ rfl rfl, ?_⟩
  show a.length - (i.k + 1) < a.length - i.k
  omega
 try simp only [cnd] at c1
 refine AW.exit ?_
 dsimp only [thenQ, blockQ, reduceIte]
 refine go [.R,.m,.a,.Z] (k := ?_)
 refine AW.weak (L' := [.rt base .row (tr (mkL a k)), .sl 4 (.v (iv (k + (Mk.cnt a : Nat))))]) (Weak.sim ⟨⟨_, rfl, oldF_full a k (by omega)⟩, (by simp only [slotL, reduceIte, Nat.reduceEqDiff]; rw [cnt_list, show cumN Mk.cnt En.dflt a i.k = cumN Mk.cnt En.dflt a a.length by rw [show i.k = a.length by omega]]), trivial⟩ rfl rfl) ?_
 refine rt1 4 ?_
 refine ⟨fun n => n, rfl, fun _ _ => rfl, List.nodup_nil, (by simp), ?_⟩
 intro p hp
 cases List.mem_singleton.1 hp
 exact rootL_mem rfl
theorem markFileS_con (a : List DFile) (k : Int) (hk : 0 ≤ k) (hk2 : k + (Mk.cnt a : Nat) ≤ 4611686018427387904) : Con Tryz.prog 68 [.h base [], .v (iv k)] [.rt base .row (tr a)] (RetW (.v (iv (k + (Mk.cnt a : Nat)))) [] [(base, tr (mkL a (k)))]) := by
 refine ob Tryz.func68 Tryz.ntmps68 ?_
 refine AW.len base [] rfl (by simp [Okp]) rfl (fun hl => ?_)
 refine go [.R,.a,.Z,.R2,.a,.Z] (k := ?_)
 refine AW.block ?_
 refine AW.weak (L' := [.sl 5 (.v (iv (0 : Nat))), .sl 1 (.v (iv (k + (cumN Mk.cnt En.dflt a 0 : Nat)))), .sl 0 (.h base []), .rt base .row (T.s 2 a.length (oldF (mkF a k) (fun j => a.getD j En.dflt) 0))]) (Weak.sim ⟨rfl, (by simp only [slotL, reduceIte, Nat.reduceEqDiff]; show X.v (iv k) = _; simp [cumN]), rfl, ⟨_, rfl, oldF_zero⟩, trivial⟩ rfl rfl) ?_
 refine AW.loop (fun i : KInv a.length => [.sl 5 (.v (iv i.k)), .sl 1 (.v (iv (k + (cumN Mk.cnt En.dflt a i.k : Nat)))), .sl 0 (.h base []), .rt base .row (T.s 2 a.length (oldF (mkF a k) (fun j => a.getD j En.dflt) i.k))]) (fun i => a.length - i.k) ⟨0, Nat.zero_le _⟩ ?_
 intro i
 have hle := i.le
 refine go [.R2,.m,.N,.m,.h,.b,.Z] (k := ?_)
 refine cd (fun c1 => ?_) fun c1 => ?_
 ·try simp only [cnd] at c1
  have hc1 := cumN_mono (c := Mk.cnt) (d := En.dflt) (l := a) (show i.k + 1 ≤ a.length by omega)
  simp only [cumN, cnt_File] at hc1
  simp only [cnt_list] at hk2
  refine AW.rep base (T.s 2 a.length (mixF (oldF (mkF a k) (fun j => a.getD j En.dflt) i.k) (newF (mkF a k) i.k) i.k 0)) rfl mix_zero ?_
  refine jd (AW.seq (AW.block (sr ?_)))
  refine go [.m,.N,.m,.m,.i,.N,.f,.s] (k := ?_)
  refine AWL.rep base (T.s 2 a.length (mixF (oldF (mkF a k) (fun j => a.getD j En.dflt) i.k) (newF (mkF a k) i.k) i.k 1)) rfl (mix_step (m := 0) (tsr)) ?_
  refine go [.Z,.R,.m,.N,.b,.a,.Z,.R1,.m,.N,.m,.i,.f,.N,.l,.m] (k := ?_)
  refine sp (Stp.callH rfl (by decide) Tryz.call64 rfl (markIntS_con (a.getD i.k En.dflt).Data (k + (cumN Mk.cnt En.dflt a i.k : Nat) + 1) (by omega) (by omega)) (by simp only [go_sem, reduceIte, Nat.reduceEqDiff, Nat.reduceBEq, reduceCtorEq, tr, List.map_cons, List.map_nil]; rfl) rfl rfl (nodup_of rfl) rfl rfl) ?_
  refine go [.N] (k := ?_)
  refine AWL.rep base (T.s 2 a.length (mixF (oldF (mkF a k) (fun j => a.getD j En.dflt) i.k) (newF (mkF a k) i.k) i.k 2)) rfl (mix_step (m := 1) (tsr)) ?_
  refine go [.N,.a,.Z,.R1,.m,.b,.N,.a,.Z] (k := ?_)
  refine ⟨⟨i.k + 1, by omega⟩, Weak.sim ⟨st1, (by simp only [slotL, reduceIte, Nat.reduceEqDiff]; congr 2; simp only [cumN, cnt_File]; omega), rfl, ⟨_, rfl, mix_next (α := DFile)⟩, trivial⟩ rfl rfl, ?_⟩
  show a.length - (i.k + 1) < a.length - i.k
  omega
 try simp only [cnd] at c1
 refine AW.exit ?_
 dsimp only [thenQ, blockQ, reduceIte]
 refine go [.R,.m,.a,.Z] (k := ?_)
 refine AW.weak (L' := [.rt base .row (tr (mkL a k)), .sl 4 (.v (iv (k + (Mk.cnt a : Nat))))]) (Weak.sim ⟨⟨_, rfl, oldF_full a k (by omega)⟩, (by simp only [slotL, reduceIte, Nat.reduceEqDiff]; rw [cnt_list, show cumN Mk.cnt En.dflt a i.k = cumN Mk.cnt En.dflt a a.length by rw [show i.k = a.length by omega]]), trivial⟩ rfl rfl) ?_
 refine rt1 4 ?_
 refine ⟨fun n => n, rfl, fun _ _ => rfl, List.nodup_nil, (by simp), ?_⟩
 intro p hp
 cases List.mem_singleton.1 hp
 exact rootL_mem rfl
theorem markNodes_con (a : DNodes) (k : Int) (hk : 0 ≤ k) (hk2 : k + (Mk.cnt a.Progs : Nat) + (Mk.cnt a.Procs : Nat) + (Mk.cnt a.Ram : Nat) + (Mk.cnt a.Heap.Free : Nat) + (Mk.cnt a.Opens : Nat) + (Mk.cnt a.Pipes : Nat) + (Mk.cnt a.Files : Nat) + (Mk.cnt a.Ready : Nat) + (Mk.cnt a.Out : Nat) ≤ 4611686018427387904) : Con Tryz.prog 12 [.g [.v (iv a.Next), .v (iv a.Tick), .h base [], .h (base + 1) [], .h (base + 2) [], .h (base + 3) [], .h (base + 4) [], .h (base + 5) [], .h (base + 6) [], .h (base + 7) [], .h (base + 8) []], .v (iv k)] [.rt base .row (tr a.Progs), .rt (base + 1) .row (tr a.Procs), .rt (base + 2) .row (tr a.Ram), .rt (base + 3) .row (tr a.Heap.Free), .rt (base + 4) .row (tr a.Opens), .rt (base + 5) .row (tr a.Pipes), .rt (base + 6) .row (tr a.Files), .rt (base + 7) .row (tr a.Ready), .rt (base + 8) .row (tr a.Out)] (RetW (.v (iv (k + (Mk.cnt a.Progs : Nat) + (Mk.cnt a.Procs : Nat) + (Mk.cnt a.Ram : Nat) + (Mk.cnt a.Heap.Free : Nat) + (Mk.cnt a.Opens : Nat) + (Mk.cnt a.Pipes : Nat) + (Mk.cnt a.Files : Nat) + (Mk.cnt a.Ready : Nat) + (Mk.cnt a.Out : Nat)))) [] [(base, tr (mkL a.Progs (k))), (base + 1, tr (mkL a.Procs (k + (Mk.cnt a.Progs : Nat)))), (base + 2, tr (mkL a.Ram (k + (Mk.cnt a.Progs : Nat) + (Mk.cnt a.Procs : Nat)))), (base + 3, tr (mkL a.Heap.Free (k + (Mk.cnt a.Progs : Nat) + (Mk.cnt a.Procs : Nat) + (Mk.cnt a.Ram : Nat)))), (base + 4, tr (mkL a.Opens (k + (Mk.cnt a.Progs : Nat) + (Mk.cnt a.Procs : Nat) + (Mk.cnt a.Ram : Nat) + (Mk.cnt a.Heap.Free : Nat)))), (base + 5, tr (mkL a.Pipes (k + (Mk.cnt a.Progs : Nat) + (Mk.cnt a.Procs : Nat) + (Mk.cnt a.Ram : Nat) + (Mk.cnt a.Heap.Free : Nat) + (Mk.cnt a.Opens : Nat)))), (base + 6, tr (mkL a.Files (k + (Mk.cnt a.Progs : Nat) + (Mk.cnt a.Procs : Nat) + (Mk.cnt a.Ram : Nat) + (Mk.cnt a.Heap.Free : Nat) + (Mk.cnt a.Opens : Nat) + (Mk.cnt a.Pipes : Nat)))), (base + 7, tr (mkL a.Ready (k + (Mk.cnt a.Progs : Nat) + (Mk.cnt a.Procs : Nat) + (Mk.cnt a.Ram : Nat) + (Mk.cnt a.Heap.Free : Nat) + (Mk.cnt a.Opens : Nat) + (Mk.cnt a.Pipes : Nat) + (Mk.cnt a.Files : Nat)))), (base + 8, tr (mkL a.Out (k + (Mk.cnt a.Progs : Nat) + (Mk.cnt a.Procs : Nat) + (Mk.cnt a.Ram : Nat) + (Mk.cnt a.Heap.Free : Nat) + (Mk.cnt a.Opens : Nat) + (Mk.cnt a.Pipes : Nat) + (Mk.cnt a.Files : Nat) + (Mk.cnt a.Ready : Nat))))]) := by
 refine ob Tryz.func12 Tryz.ntmps12 ?_
 refine go [.R,.B,.N,.a,.Z,.R,.f,.l,.N,.m] (k := ?_)
 refine sp (Stp.callH rfl (by decide) Tryz.call62 rfl (markInsSS_con _ _ (by omega) (by omega)) rfl rfl rfl (nodup_of rfl) rfl rfl) ?_
 refine go [.N,.a,.Z,.R,.f,.l,.N,.m] (k := ?_)
 refine sp (Stp.callH rfl (by decide) Tryz.call63 rfl (markBProcS_con _ _ (by omega) (by omega)) rfl rfl rfl (nodup_of rfl) rfl rfl) ?_
 refine go [.N,.a,.Z,.R,.f,.l,.N,.m] (k := ?_)
 refine sp (Stp.callH rfl (by decide) Tryz.call64 rfl (markIntS_con _ _ (by omega) (by omega)) rfl rfl rfl (nodup_of rfl) rfl rfl) ?_
 refine go [.N,.a,.Z,.R,.f,.G,.N,.m] (k := ?_)
 refine sp (Stp.callH rfl (by decide) Tryz.call65 rfl (markBuddy_con _ _ (by omega) (by omega)) rfl rfl rfl (nodup_of rfl) rfl rfl) ?_
 refine go [.N,.a,.Z,.R,.f,.l,.N,.m] (k := ?_)
 refine sp (Stp.callH rfl (by decide) Tryz.call66 rfl (markOpenS_con _ _ (by omega) (by omega)) rfl rfl rfl (nodup_of rfl) rfl rfl) ?_
 refine go [.N,.a,.Z,.R,.f,.l,.N,.m] (k := ?_)
 refine sp (Stp.callH rfl (by decide) Tryz.call67 rfl (markBPipeS_con _ _ (by omega) (by omega)) rfl rfl rfl (nodup_of rfl) rfl rfl) ?_
 refine go [.N,.a,.Z,.R,.f,.l,.N,.m] (k := ?_)
 refine sp (Stp.callH rfl (by decide) Tryz.call68 rfl (markFileS_con _ _ (by omega) (by omega)) rfl rfl rfl (nodup_of rfl) rfl rfl) ?_
 refine go [.N,.a,.Z,.R,.f,.l,.N,.m] (k := ?_)
 refine sp (Stp.callH rfl (by decide) Tryz.call64 rfl (markIntS_con _ _ (by omega) (by omega)) rfl rfl rfl (nodup_of rfl) rfl rfl) ?_
 refine go [.N,.a,.Z,.R,.f,.l,.N,.m] (k := ?_)
 refine sp (Stp.callH rfl (by decide) Tryz.call64 rfl (markIntS_con _ _ (by omega) (by omega)) rfl rfl rfl (nodup_of rfl) rfl rfl) ?_
 refine go [.N,.a,.Z,.R,.m,.a,.Z] (k := ?_)
 refine rt1 4 ?_
 refine ⟨fun n => n, rfl, fun _ _ => rfl, List.nodup_nil, (by simp), ?_⟩
 intro p hp
 simp only [List.mem_cons, List.not_mem_nil, or_false] at hp
 rcases hp with rfl | rfl | rfl | rfl | rfl | rfl | rfl | rfl | rfl <;> exact rootL_mem rfl
theorem markPipeS_con (a : List DPipe) (k : Int) (hk : 0 ≤ k) (hk2 : k + (Mk.cnt a : Nat) ≤ 4611686018427387904) : Con Tryz.prog 70 [.h base [], .v (iv k)] [.rt base .row (tr a)] (RetW (.v (iv (k + (Mk.cnt a : Nat)))) [] [(base, tr (mkL a (k)))]) := by
 refine ob Tryz.func70 Tryz.ntmps70 ?_
 refine AW.len base [] rfl (by simp [Okp]) rfl (fun hl => ?_)
 refine go [.R,.a,.Z,.R2,.a,.Z] (k := ?_)
 refine AW.block ?_
 refine AW.weak (L' := [.sl 5 (.v (iv (0 : Nat))), .sl 1 (.v (iv (k + (cumN Mk.cnt En.dflt a 0 : Nat)))), .sl 0 (.h base []), .rt base .row (T.s 2 a.length (oldF (mkF a k) (fun j => a.getD j En.dflt) 0))]) (Weak.sim ⟨rfl, (by simp only [slotL, reduceIte, Nat.reduceEqDiff]; show X.v (iv k) = _; simp [cumN]), rfl, ⟨_, rfl, oldF_zero⟩, trivial⟩ rfl rfl) ?_
 refine AW.loop (fun i : KInv a.length => [.sl 5 (.v (iv i.k)), .sl 1 (.v (iv (k + (cumN Mk.cnt En.dflt a i.k : Nat)))), .sl 0 (.h base []), .rt base .row (T.s 2 a.length (oldF (mkF a k) (fun j => a.getD j En.dflt) i.k))]) (fun i => a.length - i.k) ⟨0, Nat.zero_le _⟩ ?_
 intro i
 have hle := i.le
 refine go [.R2,.m,.N,.m,.h,.b,.Z] (k := ?_)
 refine cd (fun c1 => ?_) fun c1 => ?_
 ·try simp only [cnd] at c1
  have hc1 := cumN_mono (c := Mk.cnt) (d := En.dflt) (l := a) (show i.k + 1 ≤ a.length by omega)
  simp only [cumN, cnt_Pipe] at hc1
  simp only [cnt_list] at hk2
  refine AW.rep base (T.s 2 a.length (mixF (oldF (mkF a k) (fun j => a.getD j En.dflt) i.k) (newF (mkF a k) i.k) i.k 0)) rfl mix_zero ?_
  refine jd (AW.seq (AW.block (sr ?_)))
  refine go [.m,.N,.m,.m,.i,.N,.f,.s] (k := ?_)
  refine AWL.rep base (T.s 2 a.length (mixF (oldF (mkF a k) (fun j => a.getD j En.dflt) i.k) (newF (mkF a k) i.k) i.k 1)) rfl (mix_step (m := 0) (tsr)) ?_
  refine go [.Z,.R,.m,.N,.b,.a,.Z,.R1,.m,.N,.m,.i,.f,.N,.l,.m] (k := ?_)
  refine sp (Stp.callH rfl (by decide) Tryz.call64 rfl (markIntS_con (a.getD i.k En.dflt).Data (k + (cumN Mk.cnt En.dflt a i.k : Nat) + 1) (by omega) (by omega)) (by simp only [go_sem, reduceIte, Nat.reduceEqDiff, Nat.reduceBEq, reduceCtorEq, tr, List.map_cons, List.map_nil]; rfl) rfl rfl (nodup_of rfl) rfl rfl) ?_
  refine go [.N] (k := ?_)
  refine AWL.rep base (T.s 2 a.length (mixF (oldF (mkF a k) (fun j => a.getD j En.dflt) i.k) (newF (mkF a k) i.k) i.k 2)) rfl (mix_step (m := 1) (tsr)) ?_
  refine go [.N,.a,.Z,.R1,.m,.b,.N,.a,.Z] (k := ?_)
  refine ⟨⟨i.k + 1, by omega⟩, Weak.sim ⟨st1, (by simp only [slotL, reduceIte, Nat.reduceEqDiff]; congr 2; simp only [cumN, cnt_Pipe]; omega), rfl, ⟨_, rfl, mix_next (α := DPipe)⟩, trivial⟩ rfl rfl, ?_⟩
  show a.length - (i.k + 1) < a.length - i.k
  omega
 try simp only [cnd] at c1
 refine AW.exit ?_
 dsimp only [thenQ, blockQ, reduceIte]
 refine go [.R,.m,.a,.Z] (k := ?_)
 refine AW.weak (L' := [.rt base .row (tr (mkL a k)), .sl 4 (.v (iv (k + (Mk.cnt a : Nat))))]) (Weak.sim ⟨⟨_, rfl, oldF_full a k (by omega)⟩, (by simp only [slotL, reduceIte, Nat.reduceEqDiff]; rw [cnt_list, show cumN Mk.cnt En.dflt a i.k = cumN Mk.cnt En.dflt a a.length by rw [show i.k = a.length by omega]]), trivial⟩ rfl rfl) ?_
 refine rt1 4 ?_
 refine ⟨fun n => n, rfl, fun _ _ => rfl, List.nodup_nil, (by simp), ?_⟩
 intro p hp
 cases List.mem_singleton.1 hp
 exact rootL_mem rfl
theorem markUnix_con (a : DUnix) (k : Int) (hk : 0 ≤ k) (hk2 : k + (Mk.cnt a.Progs : Nat) + (Mk.cnt a.Procs : Nat) + (Mk.cnt a.Opens : Nat) + (Mk.cnt a.Pipes : Nat) + (Mk.cnt a.Files : Nat) + (Mk.cnt a.Ready : Nat) + (Mk.cnt a.Out : Nat) ≤ 4611686018427387904) : Con Tryz.prog 13 [.g [.v (iv a.Next), .v (iv a.Tick), .h base [], .h (base + 1) [], .h (base + 2) [], .h (base + 3) [], .h (base + 4) [], .h (base + 5) [], .h (base + 6) []], .v (iv k)] [.rt base .row (tr a.Progs), .rt (base + 1) .row (tr a.Procs), .rt (base + 2) .row (tr a.Opens), .rt (base + 3) .row (tr a.Pipes), .rt (base + 4) .row (tr a.Files), .rt (base + 5) .row (tr a.Ready), .rt (base + 6) .row (tr a.Out)] (RetW (.v (iv (k + (Mk.cnt a.Progs : Nat) + (Mk.cnt a.Procs : Nat) + (Mk.cnt a.Opens : Nat) + (Mk.cnt a.Pipes : Nat) + (Mk.cnt a.Files : Nat) + (Mk.cnt a.Ready : Nat) + (Mk.cnt a.Out : Nat)))) [] [(base, tr (mkL a.Progs (k))), (base + 1, tr (mkL a.Procs (k + (Mk.cnt a.Progs : Nat)))), (base + 2, tr (mkL a.Opens (k + (Mk.cnt a.Progs : Nat) + (Mk.cnt a.Procs : Nat)))), (base + 3, tr (mkL a.Pipes (k + (Mk.cnt a.Progs : Nat) + (Mk.cnt a.Procs : Nat) + (Mk.cnt a.Opens : Nat)))), (base + 4, tr (mkL a.Files (k + (Mk.cnt a.Progs : Nat) + (Mk.cnt a.Procs : Nat) + (Mk.cnt a.Opens : Nat) + (Mk.cnt a.Pipes : Nat)))), (base + 5, tr (mkL a.Ready (k + (Mk.cnt a.Progs : Nat) + (Mk.cnt a.Procs : Nat) + (Mk.cnt a.Opens : Nat) + (Mk.cnt a.Pipes : Nat) + (Mk.cnt a.Files : Nat)))), (base + 6, tr (mkL a.Out (k + (Mk.cnt a.Progs : Nat) + (Mk.cnt a.Procs : Nat) + (Mk.cnt a.Opens : Nat) + (Mk.cnt a.Pipes : Nat) + (Mk.cnt a.Files : Nat) + (Mk.cnt a.Ready : Nat))))]) := by
 refine ob Tryz.func13 Tryz.ntmps13 ?_
 refine go [.R,.B,.N,.a,.Z,.R,.f,.l,.N,.m] (k := ?_)
 refine sp (Stp.callH rfl (by decide) Tryz.call62 rfl (markInsSS_con _ _ (by omega) (by omega)) rfl rfl rfl (nodup_of rfl) rfl rfl) ?_
 refine go [.N,.a,.Z,.R,.f,.l,.N,.m] (k := ?_)
 refine sp (Stp.callH rfl (by decide) Tryz.call69 rfl (markProcS_con _ _ (by omega) (by omega)) rfl rfl rfl (nodup_of rfl) rfl rfl) ?_
 refine go [.N,.a,.Z,.R,.f,.l,.N,.m] (k := ?_)
 refine sp (Stp.callH rfl (by decide) Tryz.call66 rfl (markOpenS_con _ _ (by omega) (by omega)) rfl rfl rfl (nodup_of rfl) rfl rfl) ?_
 refine go [.N,.a,.Z,.R,.f,.l,.N,.m] (k := ?_)
 refine sp (Stp.callH rfl (by decide) Tryz.call70 rfl (markPipeS_con _ _ (by omega) (by omega)) rfl rfl rfl (nodup_of rfl) rfl rfl) ?_
 refine go [.N,.a,.Z,.R,.f,.l,.N,.m] (k := ?_)
 refine sp (Stp.callH rfl (by decide) Tryz.call68 rfl (markFileS_con _ _ (by omega) (by omega)) rfl rfl rfl (nodup_of rfl) rfl rfl) ?_
 refine go [.N,.a,.Z,.R,.f,.l,.N,.m] (k := ?_)
 refine sp (Stp.callH rfl (by decide) Tryz.call64 rfl (markIntS_con _ _ (by omega) (by omega)) rfl rfl rfl (nodup_of rfl) rfl rfl) ?_
 refine go [.N,.a,.Z,.R,.f,.l,.N,.m] (k := ?_)
 refine sp (Stp.callH rfl (by decide) Tryz.call64 rfl (markIntS_con _ _ (by omega) (by omega)) rfl rfl rfl (nodup_of rfl) rfl rfl) ?_
 refine go [.N,.a,.Z,.R,.m,.a,.Z] (k := ?_)
 refine rt1 4 ?_
 refine ⟨fun n => n, rfl, fun _ _ => rfl, List.nodup_nil, (by simp), ?_⟩
 intro p hp
 simp only [List.mem_cons, List.not_mem_nil, or_false] at hp
 rcases hp with rfl | rfl | rfl | rfl | rfl | rfl | rfl <;> exact rootL_mem rfl
end Go.Proofs.YtekcnnngjoonbaaGreat.VM
set_option linter.all false
set_option maxHeartbeats 8000000
set_option maxRecDepth 10000
namespace Go.Proofs.YtekcnnngjoonbaaGreat.VM
open Go Go.RowKit Go.Proofs
theorem heldInsS_con (a : List DIns) (k : Int) (hk : 0 ≤ k) (hk2 : k + (Mk.cnt a : Nat) ≤ 4611686018427387904) : Con Tryz.prog 134 [.h base [], .v (iv k)] [.rt base .ro (tr (mkL a (k)))] (fun y _ => y = .v (iv (k + (Mk.cnt a : Nat)))) := by
 refine ob Tryz.func134 Tryz.ntmps134 ?_
 refine AW.weak (L' := [.sl 0 (.h base []), .sl 1 (.v (iv k)), .rt base .ro (trG a.length (mkF a k))]) (Weak.sim ⟨rfl, rfl, ⟨_, rfl, mkL_trG a k⟩, trivial⟩ rfl rfl) ?_
 refine AW.len base [] rfl (by simp [Okp]) rfl (fun hl => ?_)
 refine go [.R,.a,.Z,.R2,.a,.Z] (k := ?_)
 refine AW.block ?_
 refine AW.weak (L' := [.sl 5 (.v (iv (0 : Nat))), .sl 1 (.v (iv (k + (cumN Mk.cnt En.dflt a 0 : Nat)))), .sl 0 (.h base []), .rt base .ro (trG a.length (mkF a k))]) (Weak.sim ⟨rfl, (by simp only [slotL, reduceIte, Nat.reduceEqDiff]; show X.v (iv k) = _; simp [cumN]), rfl, Rf rfl, trivial⟩ rfl rfl) ?_
 refine AW.loop (fun i : KInv a.length => [.sl 5 (.v (iv i.k)), .sl 1 (.v (iv (k + (cumN Mk.cnt En.dflt a i.k : Nat)))), .sl 0 (.h base []), .rt base .ro (trG a.length (mkF a k))]) (fun i => a.length - i.k) ⟨0, Nat.zero_le _⟩ ?_
 intro i
 have hle := i.le
 refine go [.R2,.m,.N,.m,.h,.b,.Z] (k := ?_)
 refine cd (fun c1 => ?_) fun c1 => ?_
 ·try simp only [cnd] at c1
  have hc1 := cumN_mono (c := Mk.cnt) (d := En.dflt) (l := a) (show i.k + 1 ≤ a.length by omega)
  simp only [cumN, cnt_Ins] at hc1
  simp only [cnt_list] at hk2
  refine jd (AW.seq (AW.block (sr2 ?_)))
  refine go [.m,.N,.m,.i,.f,.N,.l,.m,.b,.Z] (k := ?_)
  refine cd (fun c2 => ?_) fun c2 => ?_
  ·try simp only [cnd] at c2
   refine go [.R,.a,.Z] (k := ?_)
   refine rt1 4 ?_
   first | (simp only [retX, slotL, reduceIte, Nat.reduceEqDiff]; rw [cnt_list, show cumN Mk.cnt En.dflt a i.k = cumN Mk.cnt En.dflt a a.length by rw [show i.k = a.length by omega]]; done) | (exfalso; first | (exact absurd rfl c2; done) | (simp [mkF, Mk.mark] at *; done) | (simp_all [mkF, Mk.mark]; done) | omega)
  try simp only [cnd] at c2
  refine go [.J,.R,.m,.N,.b,.a,.Z,.R2,.m,.N,.m,.i,.f,.N,.l,.m,.b,.Z] (k := ?_)
  refine cd (fun c3 => ?_) fun c3 => ?_
  ·try simp only [cnd] at c3
   refine go [.R,.a,.Z] (k := ?_)
   refine rt1 4 ?_
   first | (simp only [retX, slotL, reduceIte, Nat.reduceEqDiff]; rw [cnt_list, show cumN Mk.cnt En.dflt a i.k = cumN Mk.cnt En.dflt a a.length by rw [show i.k = a.length by omega]]; done) | (exfalso; first | (exact absurd rfl c3; done) | (simp [mkF, Mk.mark] at *; done) | (simp_all [mkF, Mk.mark]; done) | omega)
  try simp only [cnd] at c3
  refine go [.J,.R,.m,.N,.b,.a,.Z,.R2,.m,.N,.m,.i,.f,.N,.l,.m,.b,.Z] (k := ?_)
  refine cd (fun c4 => ?_) fun c4 => ?_
  ·try simp only [cnd] at c4
   refine go [.R,.a,.Z] (k := ?_)
   refine rt1 4 ?_
   first | (simp only [retX, slotL, reduceIte, Nat.reduceEqDiff]; rw [cnt_list, show cumN Mk.cnt En.dflt a i.k = cumN Mk.cnt En.dflt a a.length by rw [show i.k = a.length by omega]]; done) | (exfalso; first | (exact absurd rfl c4; done) | (simp [mkF, Mk.mark] at *; done) | (simp_all [mkF, Mk.mark]; done) | omega)
  try simp only [cnd] at c4
  refine go [.J,.R,.m,.N,.b,.a,.Z,.R2,.m,.N,.m,.i,.f,.N,.l,.m,.b,.Z] (k := ?_)
  refine cd (fun c5 => ?_) fun c5 => ?_
  ·try simp only [cnd] at c5
   refine go [.R,.a,.Z] (k := ?_)
   refine rt1 4 ?_
   first | (simp only [retX, slotL, reduceIte, Nat.reduceEqDiff]; rw [cnt_list, show cumN Mk.cnt En.dflt a i.k = cumN Mk.cnt En.dflt a a.length by rw [show i.k = a.length by omega]]; done) | (exfalso; first | (exact absurd rfl c5; done) | (simp [mkF, Mk.mark] at *; done) | (simp_all [mkF, Mk.mark]; done) | omega)
  try simp only [cnd] at c5
  refine go [.J,.R1,.m,.N,.b,.a,.Z,.R1,.m,.N,.b,.a,.Z] (k := ?_)
  refine ⟨⟨i.k + 1, by omega⟩, Weak.sim ⟨st1, (by simp only [slotL, reduceIte, Nat.reduceEqDiff]; congr 2; simp only [cumN, cnt_Ins]; omega), rfl, Rf rfl, trivial⟩ rfl rfl, ?_⟩
  show a.length - (i.k + 1) < a.length - i.k
  omega
 try simp only [cnd] at c1
 refine AW.exit ?_
 dsimp only [thenQ, blockQ, reduceIte]
 refine go [.R,.m,.N,.a,.Z] (k := ?_)
 refine rt1 4 ?_
 first | (simp only [retX, slotL, reduceIte, Nat.reduceEqDiff]; rw [cnt_list, show cumN Mk.cnt En.dflt a i.k = cumN Mk.cnt En.dflt a a.length by rw [show i.k = a.length by omega]]; done) | (exfalso; first | (exact absurd rfl c1; done) | (simp [mkF, Mk.mark] at *; done) | (simp_all [mkF, Mk.mark]; done) | omega)
theorem heldInsSS_con (a : List (List DIns)) (k : Int) (hk : 0 ≤ k) (hk2 : k + (Mk.cnt a : Nat) ≤ 4611686018427387904) : Con Tryz.prog 71 [.h base [], .v (iv k)] [.rt base .ro (tr (mkL a (k)))] (fun y _ => y = .v (iv (k + (Mk.cnt a : Nat)))) := by
 refine ob Tryz.func71 Tryz.ntmps71 ?_
 refine AW.weak (L' := [.sl 0 (.h base []), .sl 1 (.v (iv k)), .rt base .ro (trG a.length (mkF a k))]) (Weak.sim ⟨rfl, rfl, ⟨_, rfl, mkL_trG a k⟩, trivial⟩ rfl rfl) ?_
 refine AW.len base [] rfl (by simp [Okp]) rfl (fun hl => ?_)
 refine go [.R,.a,.Z,.R2,.a,.Z] (k := ?_)
 refine AW.block ?_
 refine AW.weak (L' := [.sl 5 (.v (iv (0 : Nat))), .sl 1 (.v (iv (k + (cumN Mk.cnt En.dflt a 0 : Nat)))), .sl 0 (.h base []), .rt base .ro (trG a.length (mkF a k))]) (Weak.sim ⟨rfl, (by simp only [slotL, reduceIte, Nat.reduceEqDiff]; show X.v (iv k) = _; simp [cumN]), rfl, Rf rfl, trivial⟩ rfl rfl) ?_
 refine AW.loop (fun i : KInv a.length => [.sl 5 (.v (iv i.k)), .sl 1 (.v (iv (k + (cumN Mk.cnt En.dflt a i.k : Nat)))), .sl 0 (.h base []), .rt base .ro (trG a.length (mkF a k))]) (fun i => a.length - i.k) ⟨0, Nat.zero_le _⟩ ?_
 intro i
 have hle := i.le
 refine go [.R2,.m,.N,.m,.h,.b,.Z] (k := ?_)
 refine cd (fun c1 => ?_) fun c1 => ?_
 ·try simp only [cnd] at c1
  have hc1 := cumN_mono (c := Mk.cnt) (d := En.dflt) (l := a) (show i.k + 1 ≤ a.length by omega)
  simp only [cumN] at hc1
  simp only [cnt_list] at hk2
  refine jd (AW.seq (AW.block (sr ?_)))
  refine go [.m,.N,.m,.i,.l,.N,.m] (k := ?_)
  refine cv Tryz.call134 rfl rfl (heldInsS_con _ _ (by omega) (by omega)) ?_
  refine go [.N,.a,.Z,.R,.m,.b,.Z] (k := ?_)
  refine cd (fun c2 => ?_) fun c2 => ?_
  ·try simp only [cnd] at c2
   refine go [.R,.a,.Z] (k := ?_)
   refine rt1 4 ?_
   first | (simp only [retX, slotL, reduceIte, Nat.reduceEqDiff]; rw [cnt_list, show cumN Mk.cnt En.dflt a i.k = cumN Mk.cnt En.dflt a a.length by rw [show i.k = a.length by omega]]; done) | (exfalso; first | (exact absurd rfl c2; done) | (simp [mkF, Mk.mark] at *; done) | (simp_all [mkF, Mk.mark]; done) | omega)
  try simp only [cnd] at c2
  refine go [.J,.R1,.m,.N,.b,.a,.Z] (k := ?_)
  refine ⟨⟨i.k + 1, by omega⟩, Weak.sim ⟨st1, (by simp only [slotL, reduceIte, Nat.reduceEqDiff]; congr 2; simp only [cumN]; omega), rfl, Rf rfl, trivial⟩ rfl rfl, ?_⟩
  show a.length - (i.k + 1) < a.length - i.k
  omega
 try simp only [cnd] at c1
 refine AW.exit ?_
 dsimp only [thenQ, blockQ, reduceIte]
 refine go [.R,.m,.N,.a,.Z] (k := ?_)
 refine rt1 4 ?_
 first | (simp only [retX, slotL, reduceIte, Nat.reduceEqDiff]; rw [cnt_list, show cumN Mk.cnt En.dflt a i.k = cumN Mk.cnt En.dflt a a.length by rw [show i.k = a.length by omega]]; done) | (exfalso; first | (exact absurd rfl c1; done) | (simp [mkF, Mk.mark] at *; done) | (simp_all [mkF, Mk.mark]; done) | omega)
theorem heldIntS_con (a : List Int) (k : Int) (hk : 0 ≤ k) (hk2 : k + (Mk.cnt a : Nat) ≤ 4611686018427387904) : Con Tryz.prog 76 [.h base [], .v (iv k)] [.rt base .ro (tr (mkL a (k)))] (fun y _ => y = .v (iv (k + (Mk.cnt a : Nat)))) := by
 refine ob Tryz.func76 Tryz.ntmps76 ?_
 refine AW.weak (L' := [.sl 0 (.h base []), .sl 1 (.v (iv k)), .rt base .ro (trG a.length (mkF a k))]) (Weak.sim ⟨rfl, rfl, ⟨_, rfl, mkL_trG a k⟩, trivial⟩ rfl rfl) ?_
 refine AW.len base [] rfl (by simp [Okp]) rfl (fun hl => ?_)
 refine go [.R,.a,.Z,.R2,.a,.Z] (k := ?_)
 refine AW.block ?_
 refine AW.weak (L' := [.sl 5 (.v (iv (0 : Nat))), .sl 1 (.v (iv (k + (cumN Mk.cnt En.dflt a 0 : Nat)))), .sl 0 (.h base []), .rt base .ro (trG a.length (mkF a k))]) (Weak.sim ⟨rfl, (by simp only [slotL, reduceIte, Nat.reduceEqDiff]; show X.v (iv k) = _; simp [cumN]), rfl, Rf rfl, trivial⟩ rfl rfl) ?_
 refine AW.loop (fun i : KInv a.length => [.sl 5 (.v (iv i.k)), .sl 1 (.v (iv (k + (cumN Mk.cnt En.dflt a i.k : Nat)))), .sl 0 (.h base []), .rt base .ro (trG a.length (mkF a k))]) (fun i => a.length - i.k) ⟨0, Nat.zero_le _⟩ ?_
 intro i
 have hle := i.le
 refine go [.R2,.m,.N,.m,.h,.b,.Z] (k := ?_)
 refine cd (fun c1 => ?_) fun c1 => ?_
 ·try simp only [cnd] at c1
  have hc1 := cumN_mono (c := Mk.cnt) (d := En.dflt) (l := a) (show i.k + 1 ≤ a.length by omega)
  simp only [cumN, cnt_int] at hc1
  simp only [cnt_list] at hk2
  refine jd (AW.seq (AW.block (sr2 ?_)))
  refine go [.m,.N,.m,.i,.l,.N,.m,.b,.Z] (k := ?_)
  refine cd (fun c2 => ?_) fun c2 => ?_
  ·try simp only [cnd] at c2
   refine go [.R,.a,.Z] (k := ?_)
   refine rt1 4 ?_
   first | (simp only [retX, slotL, reduceIte, Nat.reduceEqDiff]; rw [cnt_list, show cumN Mk.cnt En.dflt a i.k = cumN Mk.cnt En.dflt a a.length by rw [show i.k = a.length by omega]]; done) | (exfalso; first | (exact absurd rfl c2; done) | (simp [mkF, Mk.mark] at *; done) | (simp_all [mkF, Mk.mark]; done) | omega)
  try simp only [cnd] at c2
  refine go [.J,.R1,.m,.N,.b,.a,.Z,.R1,.m,.N,.b,.a,.Z] (k := ?_)
  refine ⟨⟨i.k + 1, by omega⟩, Weak.sim ⟨st1, (by simp only [slotL, reduceIte, Nat.reduceEqDiff]; congr 2; simp only [cumN, cnt_int]; omega), rfl, Rf rfl, trivial⟩ rfl rfl, ?_⟩
  show a.length - (i.k + 1) < a.length - i.k
  omega
 try simp only [cnd] at c1
 refine AW.exit ?_
 dsimp only [thenQ, blockQ, reduceIte]
 refine go [.R,.m,.N,.a,.Z] (k := ?_)
 refine rt1 4 ?_
 first | (simp only [retX, slotL, reduceIte, Nat.reduceEqDiff]; rw [cnt_list, show cumN Mk.cnt En.dflt a i.k = cumN Mk.cnt En.dflt a a.length by rw [show i.k = a.length by omega]]; done) | (exfalso; first | (exact absurd rfl c1; done) | (simp [mkF, Mk.mark] at *; done) | (simp_all [mkF, Mk.mark]; done) | omega)
theorem heldProcS_con (a : List DProc) (k : Int) (hk : 0 ≤ k) (hk2 : k + (Mk.cnt a : Nat) ≤ 4611686018427387904) : Con Tryz.prog 72 [.h base [], .v (iv k)] [.rt base .ro (tr (mkL a (k)))] (fun y _ => y = .v (iv (k + (Mk.cnt a : Nat)))) := by
 refine ob Tryz.func72 Tryz.ntmps72 ?_
 refine AW.weak (L' := [.sl 0 (.h base []), .sl 1 (.v (iv k)), .rt base .ro (trG a.length (mkF a k))]) (Weak.sim ⟨rfl, rfl, ⟨_, rfl, mkL_trG a k⟩, trivial⟩ rfl rfl) ?_
 refine AW.len base [] rfl (by simp [Okp]) rfl (fun hl => ?_)
 refine go [.R,.a,.Z,.R2,.a,.Z] (k := ?_)
 refine AW.block ?_
 refine AW.weak (L' := [.sl 5 (.v (iv (0 : Nat))), .sl 1 (.v (iv (k + (cumN Mk.cnt En.dflt a 0 : Nat)))), .sl 0 (.h base []), .rt base .ro (trG a.length (mkF a k))]) (Weak.sim ⟨rfl, (by simp only [slotL, reduceIte, Nat.reduceEqDiff]; show X.v (iv k) = _; simp [cumN]), rfl, Rf rfl, trivial⟩ rfl rfl) ?_
 refine AW.loop (fun i : KInv a.length => [.sl 5 (.v (iv i.k)), .sl 1 (.v (iv (k + (cumN Mk.cnt En.dflt a i.k : Nat)))), .sl 0 (.h base []), .rt base .ro (trG a.length (mkF a k))]) (fun i => a.length - i.k) ⟨0, Nat.zero_le _⟩ ?_
 intro i
 have hle := i.le
 refine go [.R2,.m,.N,.m,.h,.b,.Z] (k := ?_)
 refine cd (fun c1 => ?_) fun c1 => ?_
 ·try simp only [cnd] at c1
  have hc1 := cumN_mono (c := Mk.cnt) (d := En.dflt) (l := a) (show i.k + 1 ≤ a.length by omega)
  simp only [cumN, cnt_Proc] at hc1
  simp only [cnt_list] at hk2
  refine jd (AW.seq (AW.block (sr2 ?_)))
  refine go [.m,.N,.m,.i,.f,.N,.l,.m,.b,.Z] (k := ?_)
  refine cd (fun c2 => ?_) fun c2 => ?_
  ·try simp only [cnd] at c2
   refine go [.R,.a,.Z] (k := ?_)
   refine rt1 4 ?_
   first | (simp only [retX, slotL, reduceIte, Nat.reduceEqDiff]; rw [cnt_list, show cumN Mk.cnt En.dflt a i.k = cumN Mk.cnt En.dflt a a.length by rw [show i.k = a.length by omega]]; done) | (exfalso; first | (exact absurd rfl c2; done) | (simp [mkF, Mk.mark] at *; done) | (simp_all [mkF, Mk.mark]; done) | omega)
  try simp only [cnd] at c2
  refine go [.J,.R,.m,.N,.b,.a,.Z,.R2,.m,.N,.m,.i,.f,.N,.l,.m,.b,.Z] (k := ?_)
  refine cd (fun c3 => ?_) fun c3 => ?_
  ·try simp only [cnd] at c3
   refine go [.R,.a,.Z] (k := ?_)
   refine rt1 4 ?_
   first | (simp only [retX, slotL, reduceIte, Nat.reduceEqDiff]; rw [cnt_list, show cumN Mk.cnt En.dflt a i.k = cumN Mk.cnt En.dflt a a.length by rw [show i.k = a.length by omega]]; done) | (exfalso; first | (exact absurd rfl c3; done) | (simp [mkF, Mk.mark] at *; done) | (simp_all [mkF, Mk.mark]; done) | omega)
  try simp only [cnd] at c3
  refine go [.J,.R,.m,.N,.b,.a,.Z,.R2,.m,.N,.m,.i,.f,.N,.l,.m,.b,.Z] (k := ?_)
  refine cd (fun c4 => ?_) fun c4 => ?_
  ·try simp only [cnd] at c4
   refine go [.R,.a,.Z] (k := ?_)
   refine rt1 4 ?_
   first | (simp only [retX, slotL, reduceIte, Nat.reduceEqDiff]; rw [cnt_list, show cumN Mk.cnt En.dflt a i.k = cumN Mk.cnt En.dflt a a.length by rw [show i.k = a.length by omega]]; done) | (exfalso; first | (exact absurd rfl c4; done) | (simp [mkF, Mk.mark] at *; done) | (simp_all [mkF, Mk.mark]; done) | omega)
  try simp only [cnd] at c4
  refine go [.J,.R,.m,.N,.b,.a,.Z,.R2,.m,.N,.m,.i,.f,.N,.l,.m,.b,.Z] (k := ?_)
  refine cd (fun c5 => ?_) fun c5 => ?_
  ·try simp only [cnd] at c5
   refine go [.R,.a,.Z] (k := ?_)
   refine rt1 4 ?_
   first | (simp only [retX, slotL, reduceIte, Nat.reduceEqDiff]; rw [cnt_list, show cumN Mk.cnt En.dflt a i.k = cumN Mk.cnt En.dflt a a.length by rw [show i.k = a.length by omega]]; done) | (exfalso; first | (exact absurd rfl c5; done) | (simp [mkF, Mk.mark] at *; done) | (simp_all [mkF, Mk.mark]; done) | omega)
  try simp only [cnd] at c5
  refine go [.J,.R,.m,.N,.b,.a,.Z,.R2,.m,.N,.m,.i,.f,.N,.f,.l,.m,.N,.b,.Z] (k := ?_)
  refine cd (fun c6 => ?_) fun c6 => ?_
  ·try simp only [cnd] at c6
   refine go [.R,.a,.Z] (k := ?_)
   refine rt1 4 ?_
   first | (simp only [retX, slotL, reduceIte, Nat.reduceEqDiff]; rw [cnt_list, show cumN Mk.cnt En.dflt a i.k = cumN Mk.cnt En.dflt a a.length by rw [show i.k = a.length by omega]]; done) | (exfalso; first | (exact absurd rfl c6; done) | (simp [mkF, Mk.mark] at *; done) | (simp_all [mkF, Mk.mark]; done) | omega)
  try simp only [cnd] at c6
  refine go [.J,.R,.m,.N,.b,.a,.Z,.R,.m,.N,.m,.i,.f,.N,.f,.l,.m,.N] (k := ?_)
  refine cv Tryz.call76 rfl rfl (heldIntS_con _ _ (by omega) (by omega)) ?_
  refine go [.N,.a,.Z,.R2,.m,.b,.Z] (k := ?_)
  refine cd (fun c7 => ?_) fun c7 => ?_
  ·try simp only [cnd] at c7
   refine go [.R,.a,.Z] (k := ?_)
   refine rt1 4 ?_
   first | (simp only [retX, slotL, reduceIte, Nat.reduceEqDiff]; rw [cnt_list, show cumN Mk.cnt En.dflt a i.k = cumN Mk.cnt En.dflt a a.length by rw [show i.k = a.length by omega]]; done) | (exfalso; first | (exact absurd rfl c7; done) | (simp [mkF, Mk.mark] at *; done) | (simp_all [mkF, Mk.mark]; done) | omega)
  try simp only [cnd] at c7
  refine go [.J,.R,.m,.N,.m,.i,.f,.N,.l,.m] (k := ?_)
  refine cv Tryz.call76 rfl rfl (heldIntS_con _ _ (by omega) (by omega)) ?_
  refine go [.N,.a,.Z,.R2,.m,.b,.Z] (k := ?_)
  refine cd (fun c8 => ?_) fun c8 => ?_
  ·try simp only [cnd] at c8
   refine go [.R,.a,.Z] (k := ?_)
   refine rt1 4 ?_
   first | (simp only [retX, slotL, reduceIte, Nat.reduceEqDiff]; rw [cnt_list, show cumN Mk.cnt En.dflt a i.k = cumN Mk.cnt En.dflt a a.length by rw [show i.k = a.length by omega]]; done) | (exfalso; first | (exact absurd rfl c8; done) | (simp [mkF, Mk.mark] at *; done) | (simp_all [mkF, Mk.mark]; done) | omega)
  try simp only [cnd] at c8
  refine go [.J,.R,.m,.N,.m,.i,.f,.N,.l,.m] (k := ?_)
  refine cv Tryz.call76 rfl rfl (heldIntS_con _ _ (by omega) (by omega)) ?_
  refine go [.N,.a,.Z,.R2,.m,.b,.Z] (k := ?_)
  refine cd (fun c9 => ?_) fun c9 => ?_
  ·try simp only [cnd] at c9
   refine go [.R,.a,.Z] (k := ?_)
   refine rt1 4 ?_
   first | (simp only [retX, slotL, reduceIte, Nat.reduceEqDiff]; rw [cnt_list, show cumN Mk.cnt En.dflt a i.k = cumN Mk.cnt En.dflt a a.length by rw [show i.k = a.length by omega]]; done) | (exfalso; first | (exact absurd rfl c9; done) | (simp [mkF, Mk.mark] at *; done) | (simp_all [mkF, Mk.mark]; done) | omega)
  try simp only [cnd] at c9
  refine jd (sr2 ?_)
  refine go [.m,.N,.m,.i,.f,.N,.l,.m,.b,.Z] (k := ?_)
  refine cd (fun c10 => ?_) fun c10 => ?_
  ·try simp only [cnd] at c10
   refine go [.R,.a,.Z] (k := ?_)
   refine rt1 4 ?_
   first | (simp only [retX, slotL, reduceIte, Nat.reduceEqDiff]; rw [cnt_list, show cumN Mk.cnt En.dflt a i.k = cumN Mk.cnt En.dflt a a.length by rw [show i.k = a.length by omega]]; done) | (exfalso; first | (exact absurd rfl c10; done) | (simp [mkF, Mk.mark] at *; done) | (simp_all [mkF, Mk.mark]; done) | omega)
  try simp only [cnd] at c10
  refine go [.J,.R,.m,.N,.b,.a,.Z,.R2,.m,.N,.m,.i,.f,.N,.l,.m,.b,.Z] (k := ?_)
  refine cd (fun c11 => ?_) fun c11 => ?_
  ·try simp only [cnd] at c11
   refine go [.R,.a,.Z] (k := ?_)
   refine rt1 4 ?_
   first | (simp only [retX, slotL, reduceIte, Nat.reduceEqDiff]; rw [cnt_list, show cumN Mk.cnt En.dflt a i.k = cumN Mk.cnt En.dflt a a.length by rw [show i.k = a.length by omega]]; done) | (exfalso; first | (exact absurd rfl c11; done) | (simp [mkF, Mk.mark] at *; done) | (simp_all [mkF, Mk.mark]; done) | omega)
  try simp only [cnd] at c11
  refine go [.J,.R1,.m,.N,.b,.a,.Z,.R1,.m,.N,.b,.a,.Z] (k := ?_)
  refine ⟨⟨i.k + 1, by omega⟩, Weak.sim ⟨st1, (by simp only [slotL, reduceIte, Nat.reduceEqDiff]; congr 2; simp only [cumN, cnt_Proc]; omega), rfl, Rf rfl, trivial⟩ rfl rfl, ?_⟩
  show a.length - (i.k + 1) < a.length - i.k
  omega
 try simp only [cnd] at c1
 refine AW.exit ?_
 dsimp only [thenQ, blockQ, reduceIte]
 refine go [.R,.m,.N,.a,.Z] (k := ?_)
 refine rt1 4 ?_
 first | (simp only [retX, slotL, reduceIte, Nat.reduceEqDiff]; rw [cnt_list, show cumN Mk.cnt En.dflt a i.k = cumN Mk.cnt En.dflt a a.length by rw [show i.k = a.length by omega]]; done) | (exfalso; first | (exact absurd rfl c1; done) | (simp [mkF, Mk.mark] at *; done) | (simp_all [mkF, Mk.mark]; done) | omega)
theorem heldOpenS_con (a : List DOpen) (k : Int) (hk : 0 ≤ k) (hk2 : k + (Mk.cnt a : Nat) ≤ 4611686018427387904) : Con Tryz.prog 73 [.h base [], .v (iv k)] [.rt base .ro (tr (mkL a (k)))] (fun y _ => y = .v (iv (k + (Mk.cnt a : Nat)))) := by
 refine ob Tryz.func73 Tryz.ntmps73 ?_
 refine AW.weak (L' := [.sl 0 (.h base []), .sl 1 (.v (iv k)), .rt base .ro (trG a.length (mkF a k))]) (Weak.sim ⟨rfl, rfl, ⟨_, rfl, mkL_trG a k⟩, trivial⟩ rfl rfl) ?_
 refine AW.len base [] rfl (by simp [Okp]) rfl (fun hl => ?_)
 refine go [.R,.a,.Z,.R2,.a,.Z] (k := ?_)
 refine AW.block ?_
 refine AW.weak (L' := [.sl 5 (.v (iv (0 : Nat))), .sl 1 (.v (iv (k + (cumN Mk.cnt En.dflt a 0 : Nat)))), .sl 0 (.h base []), .rt base .ro (trG a.length (mkF a k))]) (Weak.sim ⟨rfl, (by simp only [slotL, reduceIte, Nat.reduceEqDiff]; show X.v (iv k) = _; simp [cumN]), rfl, Rf rfl, trivial⟩ rfl rfl) ?_
 refine AW.loop (fun i : KInv a.length => [.sl 5 (.v (iv i.k)), .sl 1 (.v (iv (k + (cumN Mk.cnt En.dflt a i.k : Nat)))), .sl 0 (.h base []), .rt base .ro (trG a.length (mkF a k))]) (fun i => a.length - i.k) ⟨0, Nat.zero_le _⟩ ?_
 intro i
 have hle := i.le
 refine go [.R2,.m,.N,.m,.h,.b,.Z] (k := ?_)
 refine cd (fun c1 => ?_) fun c1 => ?_
 ·try simp only [cnd] at c1
  have hc1 := cumN_mono (c := Mk.cnt) (d := En.dflt) (l := a) (show i.k + 1 ≤ a.length by omega)
  simp only [cumN, cnt_Open] at hc1
  simp only [cnt_list] at hk2
  refine jd (AW.seq (AW.block (sr2 ?_)))
  refine go [.m,.N,.m,.i,.f,.N,.l,.m,.b,.Z] (k := ?_)
  refine cd (fun c2 => ?_) fun c2 => ?_
  ·try simp only [cnd] at c2
   refine go [.R,.a,.Z] (k := ?_)
   refine rt1 4 ?_
   first | (simp only [retX, slotL, reduceIte, Nat.reduceEqDiff]; rw [cnt_list, show cumN Mk.cnt En.dflt a i.k = cumN Mk.cnt En.dflt a a.length by rw [show i.k = a.length by omega]]; done) | (exfalso; first | (exact absurd rfl c2; done) | (simp [mkF, Mk.mark] at *; done) | (simp_all [mkF, Mk.mark]; done) | omega)
  try simp only [cnd] at c2
  refine go [.J,.R,.m,.N,.b,.a,.Z,.R2,.m,.N,.m,.i,.f,.N,.l,.m,.b,.Z] (k := ?_)
  refine cd (fun c3 => ?_) fun c3 => ?_
  ·try simp only [cnd] at c3
   refine go [.R,.a,.Z] (k := ?_)
   refine rt1 4 ?_
   first | (simp only [retX, slotL, reduceIte, Nat.reduceEqDiff]; rw [cnt_list, show cumN Mk.cnt En.dflt a i.k = cumN Mk.cnt En.dflt a a.length by rw [show i.k = a.length by omega]]; done) | (exfalso; first | (exact absurd rfl c3; done) | (simp [mkF, Mk.mark] at *; done) | (simp_all [mkF, Mk.mark]; done) | omega)
  try simp only [cnd] at c3
  refine go [.J,.R,.m,.N,.b,.a,.Z,.R2,.m,.N,.m,.i,.f,.N,.l,.m,.b,.Z] (k := ?_)
  refine cd (fun c4 => ?_) fun c4 => ?_
  ·try simp only [cnd] at c4
   refine go [.R,.a,.Z] (k := ?_)
   refine rt1 4 ?_
   first | (simp only [retX, slotL, reduceIte, Nat.reduceEqDiff]; rw [cnt_list, show cumN Mk.cnt En.dflt a i.k = cumN Mk.cnt En.dflt a a.length by rw [show i.k = a.length by omega]]; done) | (exfalso; first | (exact absurd rfl c4; done) | (simp [mkF, Mk.mark] at *; done) | (simp_all [mkF, Mk.mark]; done) | omega)
  try simp only [cnd] at c4
  refine go [.J,.R,.m,.N,.b,.a,.Z,.R2,.m,.N,.m,.i,.f,.N,.l,.m,.b,.Z] (k := ?_)
  refine cd (fun c5 => ?_) fun c5 => ?_
  ·try simp only [cnd] at c5
   refine go [.R,.a,.Z] (k := ?_)
   refine rt1 4 ?_
   first | (simp only [retX, slotL, reduceIte, Nat.reduceEqDiff]; rw [cnt_list, show cumN Mk.cnt En.dflt a i.k = cumN Mk.cnt En.dflt a a.length by rw [show i.k = a.length by omega]]; done) | (exfalso; first | (exact absurd rfl c5; done) | (simp [mkF, Mk.mark] at *; done) | (simp_all [mkF, Mk.mark]; done) | omega)
  try simp only [cnd] at c5
  refine go [.J,.R,.m,.N,.b,.a,.Z,.R2,.m,.N,.m,.i,.f,.N,.l,.m,.b,.Z] (k := ?_)
  refine cd (fun c6 => ?_) fun c6 => ?_
  ·try simp only [cnd] at c6
   refine go [.R,.a,.Z] (k := ?_)
   refine rt1 4 ?_
   first | (simp only [retX, slotL, reduceIte, Nat.reduceEqDiff]; rw [cnt_list, show cumN Mk.cnt En.dflt a i.k = cumN Mk.cnt En.dflt a a.length by rw [show i.k = a.length by omega]]; done) | (exfalso; first | (exact absurd rfl c6; done) | (simp [mkF, Mk.mark] at *; done) | (simp_all [mkF, Mk.mark]; done) | omega)
  try simp only [cnd] at c6
  refine go [.J,.R1,.m,.N,.b,.a,.Z,.R1,.m,.N,.b,.a,.Z] (k := ?_)
  refine ⟨⟨i.k + 1, by omega⟩, Weak.sim ⟨st1, (by simp only [slotL, reduceIte, Nat.reduceEqDiff]; congr 2; simp only [cumN, cnt_Open]; omega), rfl, Rf rfl, trivial⟩ rfl rfl, ?_⟩
  show a.length - (i.k + 1) < a.length - i.k
  omega
 try simp only [cnd] at c1
 refine AW.exit ?_
 dsimp only [thenQ, blockQ, reduceIte]
 refine go [.R,.m,.N,.a,.Z] (k := ?_)
 refine rt1 4 ?_
 first | (simp only [retX, slotL, reduceIte, Nat.reduceEqDiff]; rw [cnt_list, show cumN Mk.cnt En.dflt a i.k = cumN Mk.cnt En.dflt a a.length by rw [show i.k = a.length by omega]]; done) | (exfalso; first | (exact absurd rfl c1; done) | (simp [mkF, Mk.mark] at *; done) | (simp_all [mkF, Mk.mark]; done) | omega)
theorem heldPipeS_con (a : List DPipe) (k : Int) (hk : 0 ≤ k) (hk2 : k + (Mk.cnt a : Nat) ≤ 4611686018427387904) : Con Tryz.prog 74 [.h base [], .v (iv k)] [.rt base .ro (tr (mkL a (k)))] (fun y _ => y = .v (iv (k + (Mk.cnt a : Nat)))) := by
 refine ob Tryz.func74 Tryz.ntmps74 ?_
 refine AW.weak (L' := [.sl 0 (.h base []), .sl 1 (.v (iv k)), .rt base .ro (trG a.length (mkF a k))]) (Weak.sim ⟨rfl, rfl, ⟨_, rfl, mkL_trG a k⟩, trivial⟩ rfl rfl) ?_
 refine AW.len base [] rfl (by simp [Okp]) rfl (fun hl => ?_)
 refine go [.R,.a,.Z,.R2,.a,.Z] (k := ?_)
 refine AW.block ?_
 refine AW.weak (L' := [.sl 5 (.v (iv (0 : Nat))), .sl 1 (.v (iv (k + (cumN Mk.cnt En.dflt a 0 : Nat)))), .sl 0 (.h base []), .rt base .ro (trG a.length (mkF a k))]) (Weak.sim ⟨rfl, (by simp only [slotL, reduceIte, Nat.reduceEqDiff]; show X.v (iv k) = _; simp [cumN]), rfl, Rf rfl, trivial⟩ rfl rfl) ?_
 refine AW.loop (fun i : KInv a.length => [.sl 5 (.v (iv i.k)), .sl 1 (.v (iv (k + (cumN Mk.cnt En.dflt a i.k : Nat)))), .sl 0 (.h base []), .rt base .ro (trG a.length (mkF a k))]) (fun i => a.length - i.k) ⟨0, Nat.zero_le _⟩ ?_
 intro i
 have hle := i.le
 refine go [.R2,.m,.N,.m,.h,.b,.Z] (k := ?_)
 refine cd (fun c1 => ?_) fun c1 => ?_
 ·try simp only [cnd] at c1
  have hc1 := cumN_mono (c := Mk.cnt) (d := En.dflt) (l := a) (show i.k + 1 ≤ a.length by omega)
  simp only [cumN, cnt_Pipe] at hc1
  simp only [cnt_list] at hk2
  refine jd (AW.seq (AW.block (sr2 ?_)))
  refine go [.m,.N,.m,.i,.f,.N,.l,.m,.b,.Z] (k := ?_)
  refine cd (fun c2 => ?_) fun c2 => ?_
  ·try simp only [cnd] at c2
   refine go [.R,.a,.Z] (k := ?_)
   refine rt1 4 ?_
   first | (simp only [retX, slotL, reduceIte, Nat.reduceEqDiff]; rw [cnt_list, show cumN Mk.cnt En.dflt a i.k = cumN Mk.cnt En.dflt a a.length by rw [show i.k = a.length by omega]]; done) | (exfalso; first | (exact absurd rfl c2; done) | (simp [mkF, Mk.mark] at *; done) | (simp_all [mkF, Mk.mark]; done) | omega)
  try simp only [cnd] at c2
  refine go [.J,.R,.m,.N,.b,.a,.Z,.R,.m,.N,.m,.i,.f,.N,.l,.m] (k := ?_)
  refine cv Tryz.call76 rfl rfl (heldIntS_con _ _ (by omega) (by omega)) ?_
  refine go [.N,.a,.Z,.R,.m,.b,.Z] (k := ?_)
  refine cd (fun c3 => ?_) fun c3 => ?_
  ·try simp only [cnd] at c3
   refine go [.R,.a,.Z] (k := ?_)
   refine rt1 4 ?_
   first | (simp only [retX, slotL, reduceIte, Nat.reduceEqDiff]; rw [cnt_list, show cumN Mk.cnt En.dflt a i.k = cumN Mk.cnt En.dflt a a.length by rw [show i.k = a.length by omega]]; done) | (exfalso; first | (exact absurd rfl c3; done) | (simp [mkF, Mk.mark] at *; done) | (simp_all [mkF, Mk.mark]; done) | omega)
  try simp only [cnd] at c3
  refine go [.J,.R1,.m,.N,.b,.a,.Z] (k := ?_)
  refine ⟨⟨i.k + 1, by omega⟩, Weak.sim ⟨st1, (by simp only [slotL, reduceIte, Nat.reduceEqDiff]; congr 2; simp only [cumN, cnt_Pipe]; omega), rfl, Rf rfl, trivial⟩ rfl rfl, ?_⟩
  show a.length - (i.k + 1) < a.length - i.k
  omega
 try simp only [cnd] at c1
 refine AW.exit ?_
 dsimp only [thenQ, blockQ, reduceIte]
 refine go [.R,.m,.N,.a,.Z] (k := ?_)
 refine rt1 4 ?_
 first | (simp only [retX, slotL, reduceIte, Nat.reduceEqDiff]; rw [cnt_list, show cumN Mk.cnt En.dflt a i.k = cumN Mk.cnt En.dflt a a.length by rw [show i.k = a.length by omega]]; done) | (exfalso; first | (exact absurd rfl c1; done) | (simp [mkF, Mk.mark] at *; done) | (simp_all [mkF, Mk.mark]; done) | omega)
theorem heldFileS_con (a : List DFile) (k : Int) (hk : 0 ≤ k) (hk2 : k + (Mk.cnt a : Nat) ≤ 4611686018427387904) : Con Tryz.prog 75 [.h base [], .v (iv k)] [.rt base .ro (tr (mkL a (k)))] (fun y _ => y = .v (iv (k + (Mk.cnt a : Nat)))) := by
 refine ob Tryz.func75 Tryz.ntmps75 ?_
 refine AW.weak (L' := [.sl 0 (.h base []), .sl 1 (.v (iv k)), .rt base .ro (trG a.length (mkF a k))]) (Weak.sim ⟨rfl, rfl, ⟨_, rfl, mkL_trG a k⟩, trivial⟩ rfl rfl) ?_
 refine AW.len base [] rfl (by simp [Okp]) rfl (fun hl => ?_)
 refine go [.R,.a,.Z,.R2,.a,.Z] (k := ?_)
 refine AW.block ?_
 refine AW.weak (L' := [.sl 5 (.v (iv (0 : Nat))), .sl 1 (.v (iv (k + (cumN Mk.cnt En.dflt a 0 : Nat)))), .sl 0 (.h base []), .rt base .ro (trG a.length (mkF a k))]) (Weak.sim ⟨rfl, (by simp only [slotL, reduceIte, Nat.reduceEqDiff]; show X.v (iv k) = _; simp [cumN]), rfl, Rf rfl, trivial⟩ rfl rfl) ?_
 refine AW.loop (fun i : KInv a.length => [.sl 5 (.v (iv i.k)), .sl 1 (.v (iv (k + (cumN Mk.cnt En.dflt a i.k : Nat)))), .sl 0 (.h base []), .rt base .ro (trG a.length (mkF a k))]) (fun i => a.length - i.k) ⟨0, Nat.zero_le _⟩ ?_
 intro i
 have hle := i.le
 refine go [.R2,.m,.N,.m,.h,.b,.Z] (k := ?_)
 refine cd (fun c1 => ?_) fun c1 => ?_
 ·try simp only [cnd] at c1
  have hc1 := cumN_mono (c := Mk.cnt) (d := En.dflt) (l := a) (show i.k + 1 ≤ a.length by omega)
  simp only [cumN, cnt_File] at hc1
  simp only [cnt_list] at hk2
  refine jd (AW.seq (AW.block (sr2 ?_)))
  refine go [.m,.N,.m,.i,.f,.N,.l,.m,.b,.Z] (k := ?_)
  refine cd (fun c2 => ?_) fun c2 => ?_
  ·try simp only [cnd] at c2
   refine go [.R,.a,.Z] (k := ?_)
   refine rt1 4 ?_
   first | (simp only [retX, slotL, reduceIte, Nat.reduceEqDiff]; rw [cnt_list, show cumN Mk.cnt En.dflt a i.k = cumN Mk.cnt En.dflt a a.length by rw [show i.k = a.length by omega]]; done) | (exfalso; first | (exact absurd rfl c2; done) | (simp [mkF, Mk.mark] at *; done) | (simp_all [mkF, Mk.mark]; done) | omega)
  try simp only [cnd] at c2
  refine go [.J,.R,.m,.N,.b,.a,.Z,.R,.m,.N,.m,.i,.f,.N,.l,.m] (k := ?_)
  refine cv Tryz.call76 rfl rfl (heldIntS_con _ _ (by omega) (by omega)) ?_
  refine go [.N,.a,.Z,.R,.m,.b,.Z] (k := ?_)
  refine cd (fun c3 => ?_) fun c3 => ?_
  ·try simp only [cnd] at c3
   refine go [.R,.a,.Z] (k := ?_)
   refine rt1 4 ?_
   first | (simp only [retX, slotL, reduceIte, Nat.reduceEqDiff]; rw [cnt_list, show cumN Mk.cnt En.dflt a i.k = cumN Mk.cnt En.dflt a a.length by rw [show i.k = a.length by omega]]; done) | (exfalso; first | (exact absurd rfl c3; done) | (simp [mkF, Mk.mark] at *; done) | (simp_all [mkF, Mk.mark]; done) | omega)
  try simp only [cnd] at c3
  refine go [.J,.R1,.m,.N,.b,.a,.Z] (k := ?_)
  refine ⟨⟨i.k + 1, by omega⟩, Weak.sim ⟨st1, (by simp only [slotL, reduceIte, Nat.reduceEqDiff]; congr 2; simp only [cumN, cnt_File]; omega), rfl, Rf rfl, trivial⟩ rfl rfl, ?_⟩
  show a.length - (i.k + 1) < a.length - i.k
  omega
 try simp only [cnd] at c1
 refine AW.exit ?_
 dsimp only [thenQ, blockQ, reduceIte]
 refine go [.R,.m,.N,.a,.Z] (k := ?_)
 refine rt1 4 ?_
 first | (simp only [retX, slotL, reduceIte, Nat.reduceEqDiff]; rw [cnt_list, show cumN Mk.cnt En.dflt a i.k = cumN Mk.cnt En.dflt a a.length by rw [show i.k = a.length by omega]]; done) | (exfalso; first | (exact absurd rfl c1; done) | (simp [mkF, Mk.mark] at *; done) | (simp_all [mkF, Mk.mark]; done) | omega)
theorem heldUnix_con (a : DUnix) (k : Int) (hk : 0 ≤ k) (hk2 : k + (Mk.cnt a.Progs : Nat) + (Mk.cnt a.Procs : Nat) + (Mk.cnt a.Opens : Nat) + (Mk.cnt a.Pipes : Nat) + (Mk.cnt a.Files : Nat) + (Mk.cnt a.Ready : Nat) + (Mk.cnt a.Out : Nat) ≤ 4611686018427387904) : Con Tryz.prog 14 [.g [.v (iv a.Next), .v (iv a.Tick), .h base [], .h (base + 1) [], .h (base + 2) [], .h (base + 3) [], .h (base + 4) [], .h (base + 5) [], .h (base + 6) []], .v (iv k)] [.rt base .ro (tr (mkL a.Progs (k))), .rt (base + 1) .ro (tr (mkL a.Procs (k + (Mk.cnt a.Progs : Nat)))), .rt (base + 2) .ro (tr (mkL a.Opens (k + (Mk.cnt a.Progs : Nat) + (Mk.cnt a.Procs : Nat)))), .rt (base + 3) .ro (tr (mkL a.Pipes (k + (Mk.cnt a.Progs : Nat) + (Mk.cnt a.Procs : Nat) + (Mk.cnt a.Opens : Nat)))), .rt (base + 4) .ro (tr (mkL a.Files (k + (Mk.cnt a.Progs : Nat) + (Mk.cnt a.Procs : Nat) + (Mk.cnt a.Opens : Nat) + (Mk.cnt a.Pipes : Nat)))), .rt (base + 5) .ro (tr (mkL a.Ready (k + (Mk.cnt a.Progs : Nat) + (Mk.cnt a.Procs : Nat) + (Mk.cnt a.Opens : Nat) + (Mk.cnt a.Pipes : Nat) + (Mk.cnt a.Files : Nat)))), .rt (base + 6) .ro (tr (mkL a.Out (k + (Mk.cnt a.Progs : Nat) + (Mk.cnt a.Procs : Nat) + (Mk.cnt a.Opens : Nat) + (Mk.cnt a.Pipes : Nat) + (Mk.cnt a.Files : Nat) + (Mk.cnt a.Ready : Nat))))] (fun y _ => y = .v (iv (k + (Mk.cnt a.Progs : Nat) + (Mk.cnt a.Procs : Nat) + (Mk.cnt a.Opens : Nat) + (Mk.cnt a.Pipes : Nat) + (Mk.cnt a.Files : Nat) + (Mk.cnt a.Ready : Nat) + (Mk.cnt a.Out : Nat)))) := by
 refine ob Tryz.func14 Tryz.ntmps14 ?_
 refine go [.R,.B,.N,.a,.Z,.R,.f,.l,.N,.m] (k := ?_)
 refine cv Tryz.call71 rfl rfl (heldInsSS_con _ _ (by omega) (by omega)) ?_
 refine go [.N,.a,.Z,.R2,.m,.b,.Z] (k := ?_)
 refine cd (fun c1 => ?_) fun c1 => ?_
 ·try simp only [cnd] at c1
  refine go [.R,.a,.Z] (k := ?_)
  refine rt1 4 ?_
  first | rfl | (exfalso; simp_all; done) | (exfalso; omega)
 try simp only [cnd] at c1
 refine go [.J,.R,.f,.N,.l,.m] (k := ?_)
 refine cv Tryz.call72 rfl rfl (heldProcS_con _ _ (by omega) (by omega)) ?_
 refine go [.N,.a,.Z,.R2,.m,.b,.Z] (k := ?_)
 refine cd (fun c2 => ?_) fun c2 => ?_
 ·try simp only [cnd] at c2
  refine go [.R,.a,.Z] (k := ?_)
  refine rt1 4 ?_
  first | rfl | (exfalso; simp_all; done) | (exfalso; omega)
 try simp only [cnd] at c2
 refine go [.J,.R,.f,.N,.l,.m] (k := ?_)
 refine cv Tryz.call73 rfl rfl (heldOpenS_con _ _ (by omega) (by omega)) ?_
 refine go [.N,.a,.Z,.R2,.m,.b,.Z] (k := ?_)
 refine cd (fun c3 => ?_) fun c3 => ?_
 ·try simp only [cnd] at c3
  refine go [.R,.a,.Z] (k := ?_)
  refine rt1 4 ?_
  first | rfl | (exfalso; simp_all; done) | (exfalso; omega)
 try simp only [cnd] at c3
 refine go [.J,.R,.f,.N,.l,.m] (k := ?_)
 refine cv Tryz.call74 rfl rfl (heldPipeS_con _ _ (by omega) (by omega)) ?_
 refine go [.N,.a,.Z,.R2,.m,.b,.Z] (k := ?_)
 refine cd (fun c4 => ?_) fun c4 => ?_
 ·try simp only [cnd] at c4
  refine go [.R,.a,.Z] (k := ?_)
  refine rt1 4 ?_
  first | rfl | (exfalso; simp_all; done) | (exfalso; omega)
 try simp only [cnd] at c4
 refine go [.J,.R,.f,.N,.l,.m] (k := ?_)
 refine cv Tryz.call75 rfl rfl (heldFileS_con _ _ (by omega) (by omega)) ?_
 refine go [.N,.a,.Z,.R2,.m,.b,.Z] (k := ?_)
 refine cd (fun c5 => ?_) fun c5 => ?_
 ·try simp only [cnd] at c5
  refine go [.R,.a,.Z] (k := ?_)
  refine rt1 4 ?_
  first | rfl | (exfalso; simp_all; done) | (exfalso; omega)
 try simp only [cnd] at c5
 refine go [.J,.R,.f,.N,.l,.m] (k := ?_)
 refine cv Tryz.call76 rfl rfl (heldIntS_con _ _ (by omega) (by omega)) ?_
 refine go [.N,.a,.Z,.R2,.m,.b,.Z] (k := ?_)
 refine cd (fun c6 => ?_) fun c6 => ?_
 ·try simp only [cnd] at c6
  refine go [.R,.a,.Z] (k := ?_)
  refine rt1 4 ?_
  first | rfl | (exfalso; simp_all; done) | (exfalso; omega)
 try simp only [cnd] at c6
 refine go [.J,.R,.f,.N,.l,.m] (k := ?_)
 refine cv Tryz.call76 rfl rfl (heldIntS_con _ _ (by omega) (by omega)) ?_
 refine go [.N,.a,.Z,.R2,.m,.b,.Z] (k := ?_)
 refine cd (fun c7 => ?_) fun c7 => ?_
 ·try simp only [cnd] at c7
  refine go [.R,.a,.Z] (k := ?_)
  refine rt1 4 ?_
  first | rfl | (exfalso; simp_all; done) | (exfalso; omega)
 try simp only [cnd] at c7
 refine go [.J,.R,.m,.N,.a,.Z] (k := ?_)
 refine rt1 4 ?_
 first | rfl | (exfalso; simp_all; done) | (exfalso; omega)
end Go.Proofs.YtekcnnngjoonbaaGreat.VM
set_option linter.all false
set_option maxHeartbeats 8000000
set_option maxRecDepth 10000
namespace Go.Proofs.YtekcnnngjoonbaaGreat.VM
open Go Go.RowKit Go.Proofs
theorem FnExactAbsB_con (a : DNodes) : Con Tryz.prog 3 [.g [.v (iv a.Next), .v (iv a.Tick), .h base [], .h (base + 1) [], .h (base + 2) [], .h (base + 3) [], .h (base + 4) [], .h (base + 5) [], .h (base + 6) [], .h (base + 7) [], .h (base + 8) []]] [.rt base .ro (tr a.Progs), .rt (base + 1) .ro (tr a.Procs), .rt (base + 2) .ro (tr a.Ram), .rt (base + 3) .ro (tr a.Heap.Free), .rt (base + 4) .ro (tr a.Opens), .rt (base + 5) .ro (tr a.Pipes), .rt (base + 6) .ro (tr a.Files), .rt (base + 7) .ro (tr a.Ready), .rt (base + 8) .ro (tr a.Out)] (fun y _ => y = .v (.bool true)) := by
 refine ob Tryz.func3 Tryz.ntmps3 ?_
 refine sr ?_
 refine bx ?_
 refine nm ?_
 refine qs' ?_
 refine qs' ?_
 refine qG ag32 sz32 ?_
 refine nm ?_
 refine qm ?_
 refine cv Tryz.call6 rfl rfl (szNodes_con _ _ (by first | omega | (repeat (first | omega | apply szd_lo))) (by first | omega | (repeat (first | omega | apply szd_hi)))) ?_
 refine nm ?_
 refine qn ?_
 refine sr2 ?_
 refine qm ?_
 refine qb ?_
 refine nc (fun c1 => ?_) fun c1 => ?_
 ·try simp only [cnd] at c1
  refine sr ?_
  refine qr 2 ?_
  first | rfl | (exfalso; simp_all; done)
 try simp only [cnd] at c1
 have hw : Mk.wt a ≤ 1048576 := by simp only [szd] at c1; omega
 have hca := cnt_nodes hw
 have hct := cnt_unix (absB_wt hw)
 refine jd (sr ?_)
 refine qG ag32 sz32 ?_
 refine nm ?_
 refine sp (Stp.callR rfl (by decide) Tryz.call8 rfl rfl (toNodes_con _ (by first | omega | (simp only [Int.toNat_natCast]; omega) | (simp only [Mk.wt] at *; omega))) (nodup_of rfl) rfl rfl) ?_
 refine nm ?_
 refine sp (Stp.callR rfl (by decide) Tryz.call7 rfl rfl (AbsBS_con _ hw) (nodup_of rfl) rfl rfl) ?_
 refine nm ?_
 refine sp sA ?_
 refine nm ?_
 refine ss ?_
 refine ns ?_
 refine qG ag32 sz32 ?_
 refine nm ?_
 refine sp (Stp.callR rfl (by decide) Tryz.call8 rfl rfl (toNodes_con _ (by first | omega | (simp only [Int.toNat_natCast]; omega) | (simp only [Mk.wt] at *; omega))) (nodup_of rfl) rfl rfl) ?_
 refine nm ?_
 refine sp sA ?_
 refine nm ?_
 refine ss ?_
 refine ns ?_
 refine qG ag46 sz46 ?_
 refine nm ?_
 refine sp (Stp.callR rfl (by decide) Tryz.call9 rfl rfl (AbsBI_con _ hw) (nodup_of rfl) rfl rfl) ?_
 refine nm ?_
 refine sp sA ?_
 refine nm ?_
 refine ss ?_
 refine nl ?_
 refine sr2 ?_
 refine qG ag40 sz40 ?_
 refine nm ?_
 refine qG ag40 sz40 ?_
 refine cv Tryz.call10 rfl rfl (eqUnix_con _ _) ?_
 refine nm ?_
 refine qq (Qt.notB rfl) ?_
 refine nl ?_
 refine AW.cond rfl (fun c2 => (by exfalso; first | (simp at c2; done) | (simp only [decide_eq_true_eq] at c2; omega))) (fun c2 => ?_)
 refine jd (AW.seq (AW.seq ?_))
 refine AW.draw [0, 1, 4] rfl (by decide +kernel) ?_
 refine tk 0 rfl (Qt.loadG rfl rfl rfl ag46 sz46 (by decide)) ?_
 refine tk 1 rfl (Qt.loadG rfl rfl rfl ag32 sz32 (by decide)) ?_
 refine na ?_
 refine a1 2 [0] [1] rfl rfl (Stp.callR rfl (by decide) Tryz.call8 rfl rfl (toNodes_con _ (by first | omega | (simp only [Int.toNat_natCast]; omega) | (simp only [Mk.wt] at *; omega))) (nodup_of rfl) rfl rfl) ?_
 refine na ?_
 refine ae rfl (Qt.loadG rfl rfl rfl ag46 sz46 (by decide)) ?_
 refine na ?_
 refine a1 3 [] [2, 0, 1] rfl rfl (Stp.callV rfl (by decide) Tryz.call11 rfl rfl (eqNodes_con _ _)) ?_
 refine na ?_
 refine na ?_
 refine tk 4 rfl (Qt.notB rfl) ?_
 refine nz ?_
 refine AW.cond rfl (fun c3 => (by exfalso; first | (simp at c3; done) | (simp only [decide_eq_true_eq] at c3; omega))) (fun c3 => ?_)
 refine jd (sr ?_)
 refine qs' ?_
 refine qG ag46 sz46 ?_
 refine nm ?_
 refine qm ?_
 refine sp (Stp.callH rfl (by decide) Tryz.call12 rfl (markNodes_con _ _ (by omega) (by omega)) rfl rfl rfl (nodup_of rfl) rfl rfl) ?_
 refine nm ?_
 refine qn ?_
 refine sr2 ?_
 refine qm ?_
 refine qb ?_
 refine nm ?_
 refine qm ?_
 refine AWL.split 37 rfl (fun g4 => (by exfalso; first | (simp at g4; done) | (simp only [decide_eq_true_eq] at g4; omega))) (fun g4 => ?_)
 refine qg (nF g4) (Qt.loadG rfl rfl rfl ag40 sz40 (by decide)) ?_
 refine qg (nF g4) (Qt.loadG rfl rfl rfl ag40 sz40 (by decide)) ?_
 refine nm ?_
 refine AWL.step rfl (nF g4) (Stp.callV rfl (by decide) Tryz.call10 rfl rfl (eqUnix_con _ _)) ?_
 refine nm ?_
 refine qg (nF g4) (Qt.notB rfl) ?_
 refine qq (Qt.pickF rfl g4) ?_
 refine nl ?_
 refine AW.cond rfl (fun c5 => (by exfalso; first | (simp at c5; done) | (simp only [decide_eq_true_eq] at c5; omega))) (fun c5 => ?_)
 refine jd (sr ?_)
 refine qs' ?_
 refine qG ag40 sz40 ?_
 refine nm ?_
 refine qm ?_
 refine sp (Stp.callH rfl (by decide) Tryz.call13 rfl (markUnix_con _ _ (by omega) (by omega)) rfl rfl rfl (nodup_of rfl) rfl rfl) ?_
 refine nm ?_
 refine qs' ?_
 refine qs' ?_
 refine qG ag40 sz40 ?_
 refine nm ?_
 refine qm ?_
 refine cv Tryz.call14 rfl rfl (heldUnix_con _ _ (by omega) (by omega)) ?_
 refine nm ?_
 refine qn ?_
 refine sr2 ?_
 refine qm ?_
 refine qb ?_
 refine nl ?_
 refine AW.cond rfl (fun c6 => (by exfalso; first | (simp at c6; done) | (simp only [decide_eq_true_eq] at c6; omega))) (fun c6 => ?_)
 refine jd (sr2 ?_)
 refine mn ?_
 refine qm ?_
 refine qb ?_
 refine nl ?_
 refine AW.cond rfl (fun c7 => (by exfalso; first | (simp at c7; done) | (simp only [decide_eq_true_eq] at c7; omega))) (fun c7 => ?_)
 refine jd (sr ?_)
 refine qG ag32 sz32 ?_
 refine nm ?_
 refine sp (Stp.callR rfl (by decide) Tryz.call8 rfl rfl (toNodes_con _ (by first | omega | (simp only [Int.toNat_natCast]; omega) | (simp only [Mk.wt] at *; omega))) (nodup_of rfl) rfl rfl) ?_
 refine nm ?_
 refine sp (Stp.callR rfl (by decide) Tryz.call9 rfl rfl (AbsBI_con _ hw) (nodup_of rfl) rfl rfl) ?_
 refine nm ?_
 refine sp sA ?_
 refine nm ?_
 refine ss ?_
 refine nl ?_
 refine sr2 ?_
 refine qG ag40 sz40 ?_
 refine nm ?_
 refine qG ag40 sz40 ?_
 refine cv Tryz.call10 rfl rfl (eqUnix_con _ _) ?_
 refine nm ?_
 refine qq (Qt.notB rfl) ?_
 refine nl ?_
 refine AW.cond rfl (fun c8 => (by exfalso; first | (simp at c8; done) | (simp only [decide_eq_true_eq] at c8; omega))) (fun c8 => ?_)
 refine jd (sr ?_)
 refine qs' ?_
 refine qG ag40 sz40 ?_
 refine nm ?_
 refine qm ?_
 refine cv Tryz.call14 rfl rfl (heldUnix_con _ _ (by omega) (by omega)) ?_
 refine nm ?_
 refine qn ?_
 refine sr2 ?_
 refine qm ?_
 refine qb ?_
 refine nl ?_
 refine AW.cond rfl (fun c9 => (by exfalso; first | (simp at c9; done) | (simp only [decide_eq_true_eq] at c9; omega))) (fun c9 => ?_)
 refine jd (sr2 ?_)
 refine mn ?_
 refine qm ?_
 refine qb ?_
 refine nl ?_
 refine AW.cond rfl (fun c10 => (by exfalso; first | (simp at c10; done) | (simp only [decide_eq_true_eq] at c10; omega))) (fun c10 => ?_)
 refine jd (sr ?_)
 refine qr 2 ?_
 first | rfl | (exfalso; simp_all; done)
end Go.Proofs.YtekcnnngjoonbaaGreat.VM
