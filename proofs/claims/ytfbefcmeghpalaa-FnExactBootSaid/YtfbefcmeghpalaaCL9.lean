/- Contracts of functions of the program. No conditions beyond those that each states. -/
import Derived.Test.YtfbefcmeghpalaaCL5
import Derived.Test.YtfbefcmeghpalaaCL8
set_option linter.all false
namespace Go.Proofs.Ytfbefcmeghpalaa.VM
open Go Go.RowKit Go.Proofs
instance : Fl DIns := ⟨fun a c hc => by
 have hc' : c < 4 := hc
 match c, hc' with
 | 0, _ => rfl
 | 1, _ => rfl
 | 2, _ => rfl
 | 3, _ => rfl
 | c + 4, h => omega⟩
theorem rowsG_bd {α : Type} [En α] [Mk α] {l : List (List α)} (hw : Mk.wt l ≤ 1048576) : l.length ≤ 1048576 ∧ ∀ k, k < l.length → (l.getD k En.dflt).length ≤ 1048576 := by
 have h1 := wt_list l
 refine ⟨by omega, fun k hk => ?_⟩
 have h2 := wtL_get (w := Mk.wt) (d := En.dflt) (l := l) (i := k) hk
 have h3 := wt_list (l.getD k En.dflt)
 omega
theorem take_snocG {α : Type} {l : List α} {k : Nat} (d : α) (h : k < l.length) : l.take (k + 1) = l.take k ++ [l.getD k d] := by
 rw [List.take_add_one, List.getElem?_eq_getElem h]
 simp [List.getD_eq_getElem?_getD, h]
theorem app_rowG {α : Type} [En α] {l : List (List α)} {k : Nat} (h : k < l.length) {g : Nat → Nat → T} (hg : g 0 0 = tr (l.getD k En.dflt)) : (appT 1 (l.take k).length (fun i c => (En.cs ((l.take k).getD i En.dflt)).getD c .j) 1 g).sim (tr (l.take (k + 1))) := by
 rw [take_snocG En.dflt h]
 refine app_sim (l := l.take k) (l' := [l.getD k En.dflt]) rfl (fun _ _ _ _ => rfl) fun i c hi hc => ?_
 have hi' : i < 1 := hi
 have hc' : c < 1 := hc
 obtain rfl : i = 0 := by omega
 obtain rfl : c = 0 := by omega
 exact hg
set_option maxHeartbeats 8000000 in
set_option maxRecDepth 10000 in
theorem cloneIns_con (l : List DIns) (hs : l.length ≤ 4194304) : Con Try.prog 83 [.h base []] [.rt base .ro (tr l)] (Ret (.h 0 []) [(0, .row, tr l)]) := by
 refine Con.of_body Try.func83 rfl (by simp) ?_
 rw [Try.ntmps83]
 refine AW.seq (AW.region ?_)
 refine qq Qt.assign ?_
 refine nl ?_
 refine AW.seq (AW.seq (AW.region ?_))
 refine qq Qt.move ?_
 refine AWL.nilTest rfl rfl rfl (by decide) rfl rfl rfl sl73 ?_
 intro b1 hb1
 refine nl ?_
 refine AW.cond rfl (fun c2 => ?_) (fun c2 => ?_)
 ·have k2 := c2
  try simp only [cnd] at c2
  refine AW.seq (AW.region ?_)
  refine qq Qt.assign ?_
  refine nl ?_
  have hl0 : l = [] := List.eq_nil_of_length_eq_zero (hb1 c2)
  subst hl0
  refine AW.nilRow 2 900 4 (by omega) rfl rfl (by decide) ?_
  refine AW.rep 900 (tr ([] : List DIns)) rfl sim_nil ?_
  refine AW.ret (endQ_ret (.cons (.tmp 2) .nil) ?_)
  refine ⟨fun _ => 900, rfl, nodup_of rfl, ?_⟩
  intro r hr
  cases List.mem_singleton.1 hr
  exact ⟨by simp, rootL_mem rfl⟩
 have k2 := c2
 try simp only [cnd] at c2
 refine jd (AW.seq (AW.region ?_))
 refine sp (Stp.buildSlice rfl (by decide) (by decide) rfl (by decide) rfl rfl rfl (nodup_of rfl)) ?_
 refine nm ?_
 refine qq Qt.move ?_
 refine sp (by first | exact Stp.appendC rfl (by decide) (by decide) rfl rfl (by omega) | exact Stp.appendM rfl (by decide) (by decide) rfl rfl rfl (by omega)) ?_
 refine nm ?_
 refine qq Qt.assign ?_
 refine nl ?_
 refine AW.rep 7 (tr l) rfl (app_nil (α := DIns)) ?_
 refine AW.ret (endQ_ret (.cons (.tmp 2) .nil) ?_)
 refine ⟨fun _ => 7, rfl, nodup_of rfl, ?_⟩
 intro r hr
 cases List.mem_singleton.1 hr
 exact ⟨by simp, rootL_mem rfl⟩
set_option maxHeartbeats 8000000 in
set_option maxRecDepth 10000 in
theorem cloneProgs_con (l : List (List DIns)) (hw : Mk.wt l ≤ 1048576) : Con Try.prog 47 [.h base []] [.rt base .ro (tr l)] (Ret (.h 0 []) [(0, .row, tr l)]) := by
 refine Con.of_body Try.func47 rfl (by simp) ?_
 rw [Try.ntmps47]
 refine AW.len (base) [] rfl (by simp [Okp]) rfl (fun hl => ?_)
 have hbd := rowsG_bd hw
 refine AW.seq (AW.region ?_)
 refine qq Qt.assign ?_
 refine nl ?_
 refine AW.seq (AW.region ?_)
 refine qq Qt.assign ?_
 refine nl ?_
 refine AW.seq (AW.seq (AW.region ?_))
 refine qq Qt.move ?_
 refine nm ?_
 refine qq (Qt.lenH rfl rfl rfl sl39) ?_
 refine qq Qt.move ?_
 refine nl ?_
 refine AW.block ?_
 refine AW.nilRow 3 16 1 (by omega) rfl rfl (by decide) ?_
 refine AW.loopW (fun i : KInv l.length => [.sl 8 (.v (iv i.k)), .sl 7 (.v (iv l.length)), .sl 6 (.h base []), .sl 3 (.h 16 []), .rt base .ro (tr l), .rt 16 .row (tr (l.take i.k))]) (fun i => l.length - i.k) ⟨0, Nat.zero_le _⟩ (Weak.sim ⟨rfl, rfl, rfl, rfl, Rf rfl, ⟨_, rfl, sim_nil⟩, trivial⟩ rfl rfl) ?_
 intro i
 have hle := i.le
 refine AW.seq (AW.region ?_)
 refine qq (Qt.binOp rfl rfl rfl) ?_
 refine nl ?_
 refine AW.seq ?_
 refine AW.cond rfl (fun c1 => ?_) (fun c1 => ?_)
 ·have k1 := c1
  try simp only [cnd] at c1
  have hik := hbd.2 i.k (by omega)
  have htl : (l.take i.k).length ≤ 1048576 := by rw [List.length_take]; omega
  refine jd (AW.seq (AW.block (AW.seq (AW.region ?_))))
  refine qq (Qt.indexAddr rfl rfl rfl rfl sl39 sz73 (by decide) (by first | omega | grind only)) ?_
  refine nm ?_
  refine qq (Qt.load1 rfl rfl rfl ag73) ?_
  refine qq Qt.assign ?_
  refine nl ?_
  refine AW.region ?_
  refine qq Qt.move ?_
  refine nm ?_
  refine qq Qt.move ?_
  refine sp (Stp.callR rfl (by decide) Try.call83 rfl rfl (cloneIns_con _ (by omega)) (nodup_of rfl) rfl rfl) ?_
  refine nm ?_
  refine sp (Stp.buildSlice rfl (by decide) (by decide) rfl (by decide) rfl rfl rfl (nodup_of rfl)) ?_
  refine nm ?_
  refine sp (Stp.appendM rfl (by decide) (by decide) rfl rfl rfl (by omega)) ?_
  refine nm ?_
  refine qq Qt.assign ?_
  refine nl ?_
  refine AW.region ?_
  refine qq (Qt.binOp rfl rfl (by first | exact pbAdd (by omega) | rfl)) ?_
  refine qq Qt.move ?_
  refine nl ?_
  refine ⟨⟨i.k + 1, by omega⟩, Weak.sim ⟨st1, rfl, rfl, rfl, Rf rfl, ⟨_, rfl, app_rowG (by omega) rfl⟩, trivial⟩ rfl rfl, ?_⟩
  show l.length - (i.k + 1) < l.length - i.k
  omega
 have k1 := c1
 try simp only [cnd] at c1
 refine AW.exit ?_
 dsimp only [thenQ, blockQ, reduceIte]
 refine AW.seq (AW.region ?_)
 refine qq Qt.move ?_
 refine nm ?_
 refine qq Qt.assign ?_
 refine nl ?_
 refine AW.rep 16 (tr l) rfl (by rw [List.take_of_length_le (by omega)]; exact T.sim_refl _) ?_
 refine AW.ret (endQ_ret (.cons (.tmp 2) .nil) ?_)
 refine ⟨fun _ => 16, rfl, nodup_of rfl, ?_⟩
 intro r hr
 cases List.mem_singleton.1 hr
 exact ⟨by simp, rootL_mem rfl⟩
set_option maxHeartbeats 8000000 in
set_option maxRecDepth 10000 in
theorem noFds_con : Con Try.prog 46 [] [] (Ret (.h 0 []) [(0, .row, tr [-1, -1, -1, (-1 : Int)])]) := by
 refine Con.of_body Try.func46 rfl (by simp) ?_
 rw [Try.ntmps46]
 refine AW.seq (AW.region ?_)
 refine qq Qt.assign ?_
 refine nl ?_
 refine AW.seq (AW.region ?_)
 refine sp (Stp.buildSlice rfl (by decide) (by decide) rfl (by decide) rfl rfl rfl (nodup_of rfl)) ?_
 refine AWL.rep 1 (tr [(-1 : Int)]) rfl (sim_row1 rfl rfl rfl (fun k hk => match k, hk with | 0, _ => rfl | k + 1, hk => absurd hk (by omega))) ?_
 refine nm ?_
 refine sp (Stp.callR rfl (by decide) Try.call82 rfl rfl (rep_4_con (-1)) (nodup_of rfl) rfl rfl) ?_
 refine nm ?_
 refine qq Qt.assign ?_
 refine nl ?_
 refine AW.ret (endQ_ret (.cons (.tmp 0) .nil) ?_)
 refine ⟨fun _ => 2, rfl, nodup_of rfl, ?_⟩
 intro r hr
 cases List.mem_singleton.1 hr
 exact ⟨by simp, rootL_mem rfl⟩
set_option maxHeartbeats 8000000 in
set_option maxRecDepth 10000 in
theorem l6Zeros_con : Con Try.prog 40 [.v (iv 4)] [] (Ret (.h 0 []) [(0, .row, tr [0, 0, 0, (0 : Int)])]) := by
 refine Con.of_body Try.func40 rfl (by simp) ?_
 rw [Try.ntmps40]
 refine AW.seq (AW.region ?_)
 refine qq Qt.assign ?_
 refine nl ?_
 refine AW.seq (AW.region ?_)
 refine qq Qt.move ?_
 refine sp (Stp.makeSlice rfl (by decide) (by decide) rfl rfl (by omega) (by omega) (by omega)) ?_
 refine nm ?_
 refine qq Qt.assign ?_
 refine nl ?_
 refine AW.rep 4 (tr [0, 0, 0, (0 : Int)]) rfl (sim_row1 rfl rfl rfl (fun k hk => match k, hk with | 0, _ => rfl | 1, _ => rfl | 2, _ => rfl | 3, _ => rfl | k + 4, hk => absurd hk (by show ¬ k + 4 < 4; omega))) ?_
 refine AW.ret (endQ_ret (.cons (.tmp 2) .nil) ?_)
 refine ⟨fun _ => 4, rfl, nodup_of rfl, ?_⟩
 intro r hr
 cases List.mem_singleton.1 hr
 exact ⟨by simp, rootL_mem rfl⟩
end Go.Proofs.Ytfbefcmeghpalaa.VM
