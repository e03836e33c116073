/- Contracts of functions of the program. No conditions beyond those that each states. -/
import Derived.Test.YtfbefcmeghpalaaCMF
set_option linter.all false
namespace Go.Proofs.Ytfbefcmeghpalaa.VM
open Go Go.RowKit Go.Proofs
theorem rows_bd {l : List (List Int)} (hw : Mk.wt l ≤ 1048576) : l.length ≤ 1048576 ∧ ∀ k, k < l.length → (l.getD k En.dflt).length ≤ 1048576 := by
 have h1 := wt_list l
 refine ⟨by omega, fun k hk => ?_⟩
 have h2 := wtL_get (w := Mk.wt) (d := En.dflt) (l := l) (i := k) hk
 have h3 := wt_list (l.getD k En.dflt)
 omega
theorem sim_j11 {f : Nat → Nat → T} (h : f 0 0 = .j) : (T.s 1 1 f).sim (T.s 1 1 fun _ _ => .j) := T.sim_of fun k c hk hc => by
 obtain rfl : k = 0 := by omega
 obtain rfl : c = 0 := by omega
 exact h
theorem take_snoc {α : Type} {l : List α} {k : Nat} (d : α) (h : k < l.length) : l.take (k + 1) = l.take k ++ [l.getD k d] := by
 rw [List.take_add_one, List.getElem?_eq_getElem h]
 simp [List.getD_eq_getElem?_getD, h]
theorem app_row {l : List (List Int)} {k : Nat} (h : k < l.length) {g : Nat → Nat → T} (hg : g 0 0 = tr (l.getD k En.dflt)) : (appT 1 (l.take k).length (fun i c => (En.cs ((l.take k).getD i En.dflt)).getD c .j) 1 g).sim (tr (l.take (k + 1))) := by
 rw [take_snoc En.dflt h]
 refine app_sim (l := l.take k) (l' := [l.getD k En.dflt]) rfl (fun _ _ _ _ => rfl) fun i c hi hc => ?_
 have hi' : i < 1 := hi
 have hc' : c < 1 := hc
 obtain rfl : i = 0 := by omega
 obtain rfl : c = 0 := by omega
 exact hg
set_option maxHeartbeats 8000000 in
set_option maxRecDepth 10000 in
theorem cloneI_con (l : List Int) (hs : l.length ≤ 4194304) : Con Try.prog 72 [.h base []] [.rt base .ro (tr l)] (Ret (.h 0 []) [(0, .row, tr l)]) := by
 refine Con.of_body Try.func72 rfl (by simp) ?_
 rw [Try.ntmps72]
 refine AW.seq (AW.region ?_)
 refine qq Qt.assign ?_
 refine nl ?_
 refine AW.seq (AW.seq (AW.region ?_))
 refine qq Qt.move ?_
 refine AWL.nilTest rfl rfl rfl (by decide) rfl rfl rfl sl35 ?_
 intro b1 hb1
 refine nl ?_
 refine AW.cond rfl (fun c2 => ?_) (fun c2 => ?_)
 ·have k2 := c2
  try simp only [cnd] at c2
  refine AW.seq (AW.region ?_)
  refine qq Qt.assign ?_
  refine nl ?_
  have hl0 : l = [] := List.eq_nil_of_length_eq_zero (hb1 c2)
  subst hl0
  refine AW.nilRow 2 900 1 (by omega) rfl rfl (by decide) ?_
  refine AW.rep 900 (tr ([] : List Int)) rfl sim_nil ?_
  refine AW.ret (endQ_ret (.cons (.tmp 2) .nil) ?_)
  refine ⟨fun _ => 900, rfl, nodup_of rfl, ?_⟩
  intro r hr
  cases List.mem_singleton.1 hr
  exact ⟨by simp, rootL_mem rfl⟩
 have k2 := c2
 try simp only [cnd] at c2
 refine jd (AW.seq (AW.region ?_))
 refine sp (Stp.buildSlice rfl (by decide) (by decide) rfl (by decide) rfl rfl rfl (nodup_of rfl)) ?_
 refine nm ?_
 refine qq Qt.move ?_
 refine sp (by first | exact Stp.appendC rfl (by decide) (by decide) rfl rfl (by omega) | exact Stp.appendM rfl (by decide) (by decide) rfl rfl rfl (by omega)) ?_
 refine nm ?_
 refine qq Qt.assign ?_
 refine nl ?_
 refine AW.rep 7 (tr l) rfl (app_nil (α := Int)) ?_
 refine AW.ret (endQ_ret (.cons (.tmp 2) .nil) ?_)
 refine ⟨fun _ => 7, rfl, nodup_of rfl, ?_⟩
 intro r hr
 cases List.mem_singleton.1 hr
 exact ⟨by simp, rootL_mem rfl⟩
set_option maxHeartbeats 8000000 in
set_option maxRecDepth 10000 in
theorem cloneBuddy_con (a : DBuddy) (hw : Mk.wt a.Free ≤ 1048576) : Con Try.prog 27 [.g [.h base []]] [.rt base .ro (tr a.Free)] (Ret (.g [.h 0 []]) [(0, .row, tr a.Free)]) := by
 refine Con.of_body Try.func27 rfl (by simp) ?_
 rw [Try.ntmps27]
 refine AW.len (base) [] rfl (by simp [Okp]) rfl (fun hl => ?_)
 have hbd := rows_bd hw
 refine AW.seq (AW.region ?_)
 refine sp (Stp.boxB rfl (by decide) (by decide) rfl rfl rfl rfl) ?_
 refine nm ?_
 refine sp (Stp.alloc rfl (by decide) (by decide)) ?_
 refine nl ?_
 refine AW.seq (AW.region ?_)
 refine qq (Qt.build rfl) ?_
 refine nm ?_
 refine sp (Stp.alloc rfl (by decide) (by decide)) ?_
 refine nm ?_
 refine ss ?_
 refine nl ?_
 refine AW.seq (AW.seq (AW.region ?_))
 refine qq (fA fl26_0) ?_
 refine nm ?_
 refine qq (Qt.load1 rfl rfl rfl ag24) ?_
 refine qq (Qt.lenH rfl rfl rfl sl24) ?_
 refine qq Qt.move ?_
 refine nl ?_
 refine AW.block ?_
 refine AW.weak (Weak.hoist 3 0 19 rfl (by decide) rfl rfl rfl) ?_
 refine AW.loopW (fun i : KInv a.Free.length => [.sl 10 (.v (iv i.k)), .sl 9 (.v (iv a.Free.length)), .sl 8 (.h base []), .sl 3 (.p 3 [] 1 0 0), .sl 2 (.p 2 [] 1 0 0), .rt base .ro (tr a.Free), .rt 3 .box (T.s 1 1 fun _ _ => .j), .al 3 0 (.h 19 []), .rt 19 .row (tr (a.Free.take i.k)), .rt 2 .box (T.s 1 1 fun _ c => [T.s 1 0 fun _ _ => T.j].getD c T.j)]) (fun i => a.Free.length - i.k) ⟨0, Nat.zero_le _⟩ (Weak.sim ⟨rfl, rfl, rfl, rfl, rfl, Rf rfl, ⟨_, rfl, sim_j11 rfl⟩, ⟨rfl, rfl⟩, ⟨_, rfl, sim_nil⟩, Rf rfl, trivial⟩ rfl rfl) ?_
 intro i
 have hle := i.le
 refine AW.seq (AW.region ?_)
 refine qq (Qt.binOp rfl rfl rfl) ?_
 refine nl ?_
 refine AW.seq ?_
 refine AW.cond rfl (fun c1 => ?_) (fun c1 => ?_)
 ·have k1 := c1
  try simp only [cnd] at c1
  have hik := hbd.2 i.k (by omega)
  have htl : (a.Free.take i.k).length ≤ 1048576 := by rw [List.length_take]; omega
  refine jd (AW.seq (AW.block (AW.seq (AW.region ?_))))
  refine qq (Qt.indexAddr rfl rfl rfl rfl sl24 sz35 (by decide) (by first | omega | grind only)) ?_
  refine nm ?_
  refine qq (Qt.load1 rfl rfl rfl ag35) ?_
  refine qq Qt.assign ?_
  refine nl ?_
  refine AW.draw [0, 1, 2, 6] rfl (by decide +kernel) ?_
  refine tk 0 rfl (fA fl26_0) ?_
  refine na ?_
  refine tk 1 rfl (Qt.load1 rfl rfl rfl ag24) ?_
  refine tk 2 rfl Qt.move ?_
  refine a1 3 [0, 1] [2] rfl rfl (Stp.callR rfl (by decide) Try.call72 rfl rfl (cloneI_con _ (by omega)) (nodup_of rfl) rfl rfl) ?_
  refine na ?_
  refine AWA.againE rfl rfl (by decide +kernel) (.on rfl rfl (fA fl26_0)) rfl ?_
  refine AWA.againE rfl rfl (by decide +kernel) (.on rfl rfl (Qt.load1 rfl rfl rfl ag24)) rfl ?_
  refine na ?_
  refine a1 4 [0, 1] [3, 2] rfl rfl (Stp.buildSlice rfl (by decide) (by decide) rfl (by decide) rfl rfl rfl (nodup_of rfl)) ?_
  refine na ?_
  refine AWA.againE rfl rfl (by decide +kernel) (.on rfl rfl (fA fl26_0)) rfl ?_
  refine AWA.againE rfl rfl (by decide +kernel) (.on rfl rfl (Qt.load1 rfl rfl rfl ag24)) rfl ?_
  refine na ?_
  refine a1 5 [] [4, 3, 1, 2, 0] rfl rfl (Stp.appendM rfl (by decide) (by decide) rfl rfl rfl (by omega)) ?_
  refine na ?_
  refine na ?_
  refine tk 6 rfl (fA fl26_0) ?_
  refine a1 7 [] [6, 5, 4, 3, 2, 1, 0] rfl rfl (by first | exact Stp.storeA rfl rfl rfl rfl (by decide) rfl | exact Stp.store rfl rfl (by simp) rfl rfl rfl (by decide) rfl) ?_
  refine na ?_
  refine na ?_
  refine nz ?_
  refine AW.region ?_
  refine qq (Qt.binOp rfl rfl (by first | exact pbAdd (by omega) | rfl)) ?_
  refine qq Qt.move ?_
  refine nl ?_
  refine ⟨⟨i.k + 1, by omega⟩, Weak.sim ⟨st1, rfl, rfl, rfl, rfl, Rf rfl, ⟨_, rfl, sim_j11 rfl⟩, ⟨rfl, rfl⟩, ⟨_, rfl, app_row (by omega) rfl⟩, Rf rfl, trivial⟩ rfl rfl, ?_⟩
  show a.Free.length - (i.k + 1) < a.Free.length - i.k
  omega
 have k1 := c1
 try simp only [cnd] at c1
 refine AW.exit ?_
 dsimp only [thenQ, blockQ, reduceIte]
 refine AW.seq (AW.region ?_)
 refine qq (Qt.loadG rfl rfl rfl ag26 sz26 (by decide)) ?_
 refine nm ?_
 refine ss ?_
 refine nl ?_
 refine AW.rep 19 (tr a.Free) rfl (by rw [List.take_of_length_le (by omega)]; exact T.sim_refl _) ?_
 refine AW.ret (endQ_ret (.cons (.cellG 2 26 rfl rfl rfl ag26 sz26 (by decide)) .nil) ?_)
 refine ⟨fun _ => 19, rfl, nodup_of rfl, ?_⟩
 intro r hr
 cases List.mem_singleton.1 hr
 exact ⟨by simp, rootL_mem rfl⟩
end Go.Proofs.Ytfbefcmeghpalaa.VM
