/- Contracts of functions of the program. No conditions beyond those that each states. -/
import Derived.Test.YtlploojfcmcckaaDoorCK4
import Derived.Test.YtlploojfcmcckaaDoorCKA
set_option linter.all false
set_option maxHeartbeats 8000000
set_option maxRecDepth 10000
namespace Go.Proofs.YtlploojfcmcckaaDoor.VM
open Go Go.RowKit Go.Proofs
def names : List ByteArray := [(⟨#[]⟩ : ByteArray), (⟨#[115, 101, 116]⟩ : ByteArray), (⟨#[97, 100, 100]⟩ : ByteArray), (⟨#[115, 117, 98]⟩ : ByteArray), (⟨#[108, 111, 97, 100]⟩ : ByteArray), (⟨#[115, 116, 111, 114, 101]⟩ : ByteArray), (⟨#[106, 117, 109, 112]⟩ : ByteArray), (⟨#[122, 101, 114, 111]⟩ : ByteArray), (⟨#[115, 121, 115]⟩ : ByteArray)]
def forms : List ByteArray := [(⟨#[]⟩ : ByteArray), (⟨#[114, 110]⟩ : ByteArray), (⟨#[114, 114, 114]⟩ : ByteArray), (⟨#[114, 114, 114]⟩ : ByteArray), (⟨#[114, 114]⟩ : ByteArray), (⟨#[114, 114]⟩ : ByteArray), (⟨#[110]⟩ : ByteArray), (⟨#[114, 110]⟩ : ByteArray), (⟨#[110]⟩ : ByteArray)]
def formOf (w : ByteArray) : Int × ByteArray := if w = (⟨#[115, 101, 116]⟩ : ByteArray) then (1, (⟨#[114, 110]⟩ : ByteArray)) else if w = (⟨#[97, 100, 100]⟩ : ByteArray) then (2, (⟨#[114, 114, 114]⟩ : ByteArray)) else if w = (⟨#[115, 117, 98]⟩ : ByteArray) then (3, (⟨#[114, 114, 114]⟩ : ByteArray)) else if w = (⟨#[108, 111, 97, 100]⟩ : ByteArray) then (4, (⟨#[114, 114]⟩ : ByteArray)) else if w = (⟨#[115, 116, 111, 114, 101]⟩ : ByteArray) then (5, (⟨#[114, 114]⟩ : ByteArray)) else if w = (⟨#[106, 117, 109, 112]⟩ : ByteArray) then (6, (⟨#[110]⟩ : ByteArray)) else if w = (⟨#[122, 101, 114, 111]⟩ : ByteArray) then (7, (⟨#[114, 110]⟩ : ByteArray)) else if w = (⟨#[115, 121, 115]⟩ : ByteArray) then (8, (⟨#[110]⟩ : ByteArray)) else (0, (⟨#[]⟩ : ByteArray))
theorem forms_size : ∀ k : Nat, (forms.getD k En.dflt).size ≤ 3 := fun k => match k with
 | 0 | 1 | 2 | 3 | 4 | 5 | 6 | 7 | 8 => by decide
 | k + 9 => by show (En.dflt : ByteArray).size ≤ 3; decide
theorem baD {a b : ByteArray} : (a.toList == b.toList) = decide (a = b) := by
 rw [ByteArray.toList_eq, ByteArray.toList_eq, Bool.eq_iff_iff, beq_iff_eq, decide_eq_true_eq]
 exact ⟨fun h => ByteArray.ext (Array.toList_inj.mp h), fun h => by rw [h]⟩
theorem sim_strs {l : List ByteArray} {f : Nat → Nat → T} (h : ∀ k, k < l.length → f k 0 = .v (.string (l.getD k En.dflt))) : (T.s 1 l.length f).sim (tr l) := T.sim_of fun k c hk hc => by
 obtain rfl : c = 0 := by omega
 rw [h k hk]
 rfl
theorem l4Form_con (w : ByteArray) : Con Tryd.prog 33 [.v (.string w)] [] (Ret (.t [.v (iv (formOf w).1), .v (.string (formOf w).2)]) []) := by
 refine ob Tryd.func33 Tryd.ntmps33 ?_
 refine sr ?_
 refine qa ?_
 refine qn ?_
 refine sr2 ?_
 refine qm ?_
 refine nl ?_
 refine AW.block (sr ?_)
 refine qb ?_
 refine nm ?_
 refine qn ?_
 refine cd (fun c1 => ?_) fun c1 => ?_
 ·try simp only [cnd] at c1
  refine sr ?_
  refine qa ?_
  refine qn ?_
  refine AW.ret (endQ_ret (.cons (.tmp 2) (.cons (.tmp 3) .nil)) ?_)
  refine ⟨fun _ => 0, ?_, nodup_of rfl, fun r hr => by cases hr⟩
  show retX _ = X.t [.v (iv (formOf w).1), .v (.string (formOf w).2)]
  simp only [baD, decide_eq_true_eq, decide_eq_false_iff_not] at *
  simp only [retX, slotL, reduceIte, Nat.reduceEqDiff, formOf]
  first | (simp [*]; done) | (subst_vars; rfl)
 try simp only [cnd] at c1
 refine sr ?_
 refine qb ?_
 refine nm ?_
 refine qn ?_
 refine cd (fun c2 => ?_) fun c2 => ?_
 ·try simp only [cnd] at c2
  refine sr ?_
  refine qa ?_
  refine qn ?_
  refine AW.ret (endQ_ret (.cons (.tmp 2) (.cons (.tmp 3) .nil)) ?_)
  refine ⟨fun _ => 0, ?_, nodup_of rfl, fun r hr => by cases hr⟩
  show retX _ = X.t [.v (iv (formOf w).1), .v (.string (formOf w).2)]
  simp only [baD, decide_eq_true_eq, decide_eq_false_iff_not] at *
  simp only [retX, slotL, reduceIte, Nat.reduceEqDiff, formOf]
  first | (simp [*]; done) | (subst_vars; rfl)
 try simp only [cnd] at c2
 refine sr ?_
 refine qb ?_
 refine nm ?_
 refine qn ?_
 refine cd (fun c3 => ?_) fun c3 => ?_
 ·try simp only [cnd] at c3
  refine sr ?_
  refine qa ?_
  refine qn ?_
  refine AW.ret (endQ_ret (.cons (.tmp 2) (.cons (.tmp 3) .nil)) ?_)
  refine ⟨fun _ => 0, ?_, nodup_of rfl, fun r hr => by cases hr⟩
  show retX _ = X.t [.v (iv (formOf w).1), .v (.string (formOf w).2)]
  simp only [baD, decide_eq_true_eq, decide_eq_false_iff_not] at *
  simp only [retX, slotL, reduceIte, Nat.reduceEqDiff, formOf]
  first | (simp [*]; done) | (subst_vars; rfl)
 try simp only [cnd] at c3
 refine sr ?_
 refine qb ?_
 refine nm ?_
 refine qn ?_
 refine cd (fun c4 => ?_) fun c4 => ?_
 ·try simp only [cnd] at c4
  refine sr ?_
  refine qa ?_
  refine qn ?_
  refine AW.ret (endQ_ret (.cons (.tmp 2) (.cons (.tmp 3) .nil)) ?_)
  refine ⟨fun _ => 0, ?_, nodup_of rfl, fun r hr => by cases hr⟩
  show retX _ = X.t [.v (iv (formOf w).1), .v (.string (formOf w).2)]
  simp only [baD, decide_eq_true_eq, decide_eq_false_iff_not] at *
  simp only [retX, slotL, reduceIte, Nat.reduceEqDiff, formOf]
  first | (simp [*]; done) | (subst_vars; rfl)
 try simp only [cnd] at c4
 refine sr ?_
 refine qb ?_
 refine nm ?_
 refine qn ?_
 refine cd (fun c5 => ?_) fun c5 => ?_
 ·try simp only [cnd] at c5
  refine sr ?_
  refine qa ?_
  refine qn ?_
  refine AW.ret (endQ_ret (.cons (.tmp 2) (.cons (.tmp 3) .nil)) ?_)
  refine ⟨fun _ => 0, ?_, nodup_of rfl, fun r hr => by cases hr⟩
  show retX _ = X.t [.v (iv (formOf w).1), .v (.string (formOf w).2)]
  simp only [baD, decide_eq_true_eq, decide_eq_false_iff_not] at *
  simp only [retX, slotL, reduceIte, Nat.reduceEqDiff, formOf]
  first | (simp [*]; done) | (subst_vars; rfl)
 try simp only [cnd] at c5
 refine sr ?_
 refine qb ?_
 refine nm ?_
 refine qn ?_
 refine cd (fun c6 => ?_) fun c6 => ?_
 ·try simp only [cnd] at c6
  refine sr ?_
  refine qa ?_
  refine qn ?_
  refine AW.ret (endQ_ret (.cons (.tmp 2) (.cons (.tmp 3) .nil)) ?_)
  refine ⟨fun _ => 0, ?_, nodup_of rfl, fun r hr => by cases hr⟩
  show retX _ = X.t [.v (iv (formOf w).1), .v (.string (formOf w).2)]
  simp only [baD, decide_eq_true_eq, decide_eq_false_iff_not] at *
  simp only [retX, slotL, reduceIte, Nat.reduceEqDiff, formOf]
  first | (simp [*]; done) | (subst_vars; rfl)
 try simp only [cnd] at c6
 refine sr ?_
 refine qb ?_
 refine nm ?_
 refine qn ?_
 refine cd (fun c7 => ?_) fun c7 => ?_
 ·try simp only [cnd] at c7
  refine sr ?_
  refine qa ?_
  refine qn ?_
  refine AW.ret (endQ_ret (.cons (.tmp 2) (.cons (.tmp 3) .nil)) ?_)
  refine ⟨fun _ => 0, ?_, nodup_of rfl, fun r hr => by cases hr⟩
  show retX _ = X.t [.v (iv (formOf w).1), .v (.string (formOf w).2)]
  simp only [baD, decide_eq_true_eq, decide_eq_false_iff_not] at *
  simp only [retX, slotL, reduceIte, Nat.reduceEqDiff, formOf]
  first | (simp [*]; done) | (subst_vars; rfl)
 try simp only [cnd] at c7
 refine sr ?_
 refine qb ?_
 refine nm ?_
 refine qn ?_
 refine cd (fun c8 => ?_) fun c8 => ?_
 ·try simp only [cnd] at c8
  refine sr ?_
  refine qa ?_
  refine qn ?_
  refine AW.ret (endQ_ret (.cons (.tmp 2) (.cons (.tmp 3) .nil)) ?_)
  refine ⟨fun _ => 0, ?_, nodup_of rfl, fun r hr => by cases hr⟩
  show retX _ = X.t [.v (iv (formOf w).1), .v (.string (formOf w).2)]
  simp only [baD, decide_eq_true_eq, decide_eq_false_iff_not] at *
  simp only [retX, slotL, reduceIte, Nat.reduceEqDiff, formOf]
  first | (simp [*]; done) | (subst_vars; rfl)
 try simp only [cnd] at c8
 refine jd (sr ?_)
 refine qa ?_
 refine nm ?_
 refine qn ?_
 refine AW.ret (endQ_ret (.cons (.tmp 2) (.cons (.tmp 3) .nil)) ?_)
 refine ⟨fun _ => 0, ?_, nodup_of rfl, fun r hr => by cases hr⟩
 show retX _ = X.t [.v (iv (formOf w).1), .v (.string (formOf w).2)]
 simp only [baD, decide_eq_true_eq, decide_eq_false_iff_not] at *
 simp only [retX, slotL, reduceIte, Nat.reduceEqDiff, formOf]
 first | (simp [*]; done) | (subst_vars; rfl)
theorem opNames_con : Con Tryd.prog 36 [] [] (Ret (.h 0 []) [(0, .row, tr names)]) := by
 refine ob Tryd.func36 Tryd.ntmps36 ?_
 refine sr ?_
 refine qs' ?_
 refine sp (Stp.buildSlice (ys := [.v (.string ⟨#[]⟩), .v (.string ⟨#[115, 101, 116]⟩), .v (.string ⟨#[97, 100, 100]⟩), .v (.string ⟨#[115, 117, 98]⟩), .v (.string ⟨#[108, 111, 97, 100]⟩), .v (.string ⟨#[115, 116, 111, 114, 101]⟩), .v (.string ⟨#[106, 117, 109, 112]⟩), .v (.string ⟨#[122, 101, 114, 111]⟩), .v (.string ⟨#[115, 121, 115]⟩)]) rfl (by decide) (by decide) rfl (by decide) rfl rfl rfl (nodup_of rfl)) ?_
 refine AWL.rep 1 (tr names) rfl (sim_strs (l := names) (fun k hk => match k, hk with | 0, _ => rfl | 1, _ => rfl | 2, _ => rfl | 3, _ => rfl | 4, _ => rfl | 5, _ => rfl | 6, _ => rfl | 7, _ => rfl | 8, _ => rfl | k + 9, hk => absurd hk (by show ¬ k + 9 < 9; omega))) ?_
 refine nm ?_
 refine qr 0 ?_
 refine ⟨fun _ => 1, rfl, nodup_of rfl, ?_⟩
 intro r hr
 cases List.mem_singleton.1 hr
 exact ⟨by simp, rootL_mem rfl⟩
theorem opForm_con (op : Int) (h0 : 0 ≤ op) (h9 : op < 9) : Con Tryd.prog 37 [.v (iv op)] [] (fun y _ => y = .v (.string (forms.getD op.toNat En.dflt))) := by
 refine ob Tryd.func37 Tryd.ntmps37 ?_
 refine sr ?_
 refine qs' ?_
 refine sp (Stp.buildSlice (ys := [.v (.string ⟨#[]⟩), .v (.string ⟨#[114, 110]⟩), .v (.string ⟨#[114, 114, 114]⟩), .v (.string ⟨#[114, 114, 114]⟩), .v (.string ⟨#[114, 114]⟩), .v (.string ⟨#[114, 114]⟩), .v (.string ⟨#[110]⟩), .v (.string ⟨#[114, 110]⟩), .v (.string ⟨#[110]⟩)]) rfl (by decide) (by decide) rfl (by decide) rfl rfl rfl (nodup_of rfl)) ?_
 refine AWL.rep 3 (tr forms) rfl (sim_strs (l := forms) (fun k hk => match k, hk with | 0, _ => rfl | 1, _ => rfl | 2, _ => rfl | 3, _ => rfl | 4, _ => rfl | 5, _ => rfl | 6, _ => rfl | 7, _ => rfl | 8, _ => rfl | k + 9, hk => absurd hk (by show ¬ k + 9 < 9; omega))) ?_
 refine nm ?_
 refine qm ?_
 refine qq (Qt.indexAddr rfl rfl rfl rfl sl49 sz9 (by decide) (by have hf9 : forms.length = 9 := rfl; omega)) ?_
 refine ql ag9 ?_
 refine nm ?_
 refine qr 2 ?_
 rfl
end Go.Proofs.YtlploojfcmcckaaDoor.VM
