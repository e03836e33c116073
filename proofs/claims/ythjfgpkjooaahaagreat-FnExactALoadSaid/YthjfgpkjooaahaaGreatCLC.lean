/- Contracts. No conditions. -/
import Derived.Test.YthjfgpkjooaahaaGreatCEV1
set_option linter.all false
set_option maxHeartbeats 8000000
set_option maxRecDepth 10000
namespace Go.Proofs.YthjfgpkjooaahaaGreat.VM
open Go Go.RowKit Go.Proofs
theorem ring_ix {k n : Nat} (h : k < n) : ((0 : Int) + (k : Int)).tmod (n : Int) = (k : Int) := by
 rw [Int.zero_add, Int.tmod_eq_emod_of_nonneg (by omega)]
 exact Int.emod_eq_of_lt (by omega) (by omega)
theorem pbRemR {a b : Int} (h : b ≠ 0) : pureBin .rem (iv a) (iv b) = some (iv (a.tmod b)) := by
 show (if b = 0 then none else some (Value.int .i64 (a.tmod b))) = _
 rw [if_neg h]
theorem pbRemK {k n : Nat} {a b : Int} (ha : a = 0) (hb : b = (k : Int)) (h : k < n) : pureBin .rem (iv (a + b)) (iv (n : Int)) = some (iv (k : Nat)) := by
 subst ha hb
 rw [pbRemR (by omega), ring_ix h]
theorem pbAddL {a : Int} {k : Nat} (h : a = (k : Int)) (hk : k ≤ 1000) : pureBin .add (iv a) (iv 1) = some (iv ((k : Int) + 1)) := by
 subst h
 exact pbAdd (by omega)
theorem ringBuf_sim {l : List DARing} {i k : Nat} {x : Int} : ((tr l).put [(4, i, 1)] k 0 (T.v (iv x))).sim (tr (l.set i { l.getD i En.dflt with Buf := (l.getD i En.dflt).Buf.set k x })) := by
 show (T.s 4 l.length (upd (fun k c => (En.cs (l.getD k En.dflt)).getD c .j) i 1 (T.s 1 (l.getD i En.dflt).Buf.length (upd (fun k c => (En.cs ((l.getD i En.dflt).Buf.getD k En.dflt)).getD c .j) k 0 (.v (iv x)))))).sim _
 refine set_sim (α := DARing) (fun k' c hk => by simp only [upd_app, hk, false_and, if_false]) (fun c hc => ?_)
 match c, hc with
 | 0, _ => simp only [upd_app, eq_self, and_true, and_false, true_and, false_and, Nat.reduceEqDiff, if_true, if_false]; exact tsr
 | 1, _ =>
  simp only [upd_app, eq_self, and_true, and_false, true_and, if_true, if_false]
  exact (set_sim (fun k c hk => by simp only [upd_app, hk, false_and, if_false]; try rfl) (fun c hc => match c, hc with | 0, _ => (by simp only [upd_app, eq_self, and_self, if_true]; exact tsr) | c + 1, hc => absurd hc (by simp only [En.n]; omega)))
 | 2, _ => simp only [upd_app, eq_self, and_true, and_false, true_and, false_and, Nat.reduceEqDiff, if_true, if_false]; exact tsr
 | 3, _ => simp only [upd_app, eq_self, and_true, and_false, true_and, false_and, Nat.reduceEqDiff, if_true, if_false]; exact tsr
 | c + 4, hc => exact absurd hc (by simp only [En.n]; omega)
theorem ringLen_sim {l : List DARing} {i k : Nat} {B : List Int} (hi : i < l.length) (hn : (l.getD i En.dflt).Len = (k : Int)) : (T.s 4 l.length (upd (fun j c => (En.cs ((l.set i { l.getD i En.dflt with Buf := B }).getD j En.dflt)).getD c .j) i 3 (.v (iv ((k : Int) + 1))))).sim (tr (l.set i { l.getD i En.dflt with Buf := B, Len := ((k + 1 : Nat) : Int) })) := by
 have e : ∀ j, (l.set i { l.getD i En.dflt with Buf := B }).getD j En.dflt = if j = i then { l.getD i En.dflt with Buf := B } else l.getD j En.dflt := fun j => by
  by_cases h : j = i
  ·subst h; rw [if_pos rfl, List.getD_eq_getElem?_getD, List.getElem?_set_self hi]; rfl
  ·rw [if_neg h, List.getD_eq_getElem?_getD, List.getElem?_set_ne (fun e => h e.symm), List.getD_eq_getElem?_getD]
 refine set_sim (α := DARing) (fun k' c hk => by simp only [upd_app, hk, false_and, if_false]; rw [e, if_neg hk]) (fun c hc => ?_)
 match c, hc with
 | 0, _ => simp only [upd_app, eq_self, and_true, and_false, true_and, false_and, Nat.reduceEqDiff, if_true, if_false]; rw [e, if_pos rfl]; exact tsr
 | 1, _ => simp only [upd_app, eq_self, and_true, and_false, true_and, false_and, Nat.reduceEqDiff, if_true, if_false]; rw [e, if_pos rfl]; exact tsr
 | 2, _ => simp only [upd_app, eq_self, and_true, and_false, true_and, false_and, Nat.reduceEqDiff, if_true, if_false]; rw [e, if_pos rfl]; exact tsr
 | 3, _ => simp only [upd_app, eq_self, and_true, and_false, true_and, false_and, Nat.reduceEqDiff, if_true, if_false]; exact tsr
 | c + 4, hc => exact absurd hc (by simp only [En.n]; omega)
theorem l13Push_con (b : Bool) (l : List Int) (k : Nat) (x : Int) (hk : k < l.length) (hl : l.length ≤ 100) : Con Tryz.prog 146 [.g [.v (.bool b), .h base [], .v (iv 0), .v (iv (k : Nat))], .v (iv x)] [.rt base .row (tr l)] (RetW (.g [.v (.bool b), .h 0 [], .v (iv 0), .v (iv ((k + 1 : Nat) : Int))]) [(0, .row, tr (l.set k x))] [(base, .j)]) := by
 refine ob Tryz.func146 Tryz.ntmps146 ?_
 refine AW.movR base 2000 rfl rfl (by decide) rfl ?_
 have hrx := ring_ix hk
 refine go [.R,.B,.N,.A,.Z] (k := ?_)
 refine AW.seq ?_
 refine go [.D [0, 1, 2, 3, 4, 5, 6, 7, 8, 9, 10, 11, 12],.t 0,.f,.N,.t 1,.l,.t 2,.f,.t 3,.l,.N,.t 4,.f,.t 5,.l,.t 6,.b,.N,.t 7,.f,.t 8,.l,.t 9,.h,.N] (k := ?_)
 refine tk 10 rfl (Qt.binOp rfl rfl (pbRemK rfl rfl hk)) ?_
 refine go [.t 11,.m,.t 12,.i,.N,.o 13 [],.s,.N,.Z,.R,.f,.l,.b,.N,.f,.s,.Z,.R,.G,.N,.s,.Z] (k := ?_)
 refine AW.rep 2000 (tr (l.set k x)) rfl (set_sim (fun k c hk => by simp only [upd_app, hk, false_and, if_false]; try rfl) (fun c hc => match c, hc with | 0, _ => (by simp only [upd_app, eq_self, and_self, if_true]; exact tsr) | c + 1, hc => absurd hc (by simp only [En.n]; omega))) ?_
 refine AW.ret (endQ_ret (.cons (.cellG 4 38 rfl rfl rfl ag38 sz38 (by decide)) .nil) ?_)
 refine ⟨fun n => if n = 0 then 2000 else n, rfl, (fun n hn => by simp only [base] at hn; dsimp only; repeat (rw [if_neg (by omega)])), nodup_of rfl, (fun r hr => by simp only [List.mem_cons, List.not_mem_nil, or_false] at hr; rcases hr with rfl <;> exact ⟨by simp, rootL_mem rfl, of_decide_eq_true rfl⟩), ?_⟩
 intro p hp
 simp only [List.mem_cons, List.not_mem_nil, or_false] at hp
 rcases hp with rfl <;> exact rootL_mem rfl
theorem putRing_con (l : List DARing) (i k : Nat) (x : Int) (hi : i < l.length) (hd : (l.getD i En.dflt).Head = 0) (hn : (l.getD i En.dflt).Len = (k : Int)) (hk : k < (l.getD i En.dflt).Buf.length) (hl : (l.getD i En.dflt).Buf.length ≤ 100) : Con Tryz.prog 49 [.p base [] 4 i 0, .v (iv x)] [.rt base .row (tr l)] (RetW (.t []) [] [(base, tr (l.set i { l.getD i En.dflt with Buf := (l.getD i En.dflt).Buf.set k x, Len := ((k + 1 : Nat) : Int) }))]) := by
 refine ob Tryz.func49 Tryz.ntmps49 ?_
 have hrx := ring_ix hk
 refine AW.seq ?_
 refine go [.D [0, 1, 2, 3, 4, 5, 6, 7, 8, 9, 10, 11, 12, 13, 14, 15, 16, 17, 18, 19, 20],.t 0,.m,.t 1,.p,.t 2,.f,.N,.t 3,.l,.t 4,.m,.t 5,.p,.N,.t 6,.f,.t 7,.l,.t 8,.m,.N,.t 9,.p,.t 10,.f,.t 11,.l,.N,.t 12,.b,.t 13,.m,.t 14,.p,.N,.t 15,.f,.t 16,.l,.t 17,.h,.N] (k := ?_)
 refine tk 18 rfl (Qt.binOp rfl rfl (pbRemK hd hn hk)) ?_
 refine go [.t 19,.m,.t 20,.i,.N,.o 21 [],.s,.N] (k := ?_)
 refine AWA.rep base (tr (l.set i { l.getD i En.dflt with Buf := (l.getD i En.dflt).Buf.set k x })) rfl ringBuf_sim ?_
 have hg : (l.set i { l.getD i En.dflt with Buf := (l.getD i En.dflt).Buf.set k x }).getD i En.dflt = { l.getD i En.dflt with Buf := (l.getD i En.dflt).Buf.set k x } := by rw [List.getD_eq_getElem?_getD, List.getElem?_set_self hi]; rfl
 have hln : ((l.set i { l.getD i En.dflt with Buf := (l.getD i En.dflt).Buf.set k x }).getD i En.dflt).Len = (k : Int) := by rw [hg]; exact hn
 refine go [.N,.Z,.R1,.m,.p,.f,.N,.l] (k := ?_)
 refine qq (Qt.binOp rfl rfl (pbAddL hln (by omega))) ?_
 refine go [.p,.N,.f,.s,.N] (k := ?_)
 refine AWL.rep base (tr (l.set i { l.getD i En.dflt with Buf := (l.getD i En.dflt).Buf.set k x, Len := ((k + 1 : Nat) : Int) })) rfl (by simp only [List.length_set]; exact ringLen_sim (B := (l.getD i En.dflt).Buf.set k x) hi hn) ?_
 refine go [.Z] (k := ?_)
 refine ⟨.inr rfl, [], .nil, ?_⟩
 refine ⟨fun n => n, rfl, fun _ _ => rfl, List.nodup_nil, (by simp), ?_⟩
 intro p hp
 cases List.mem_singleton.1 hp
 exact rootL_mem rfl
end Go.Proofs.YthjfgpkjooaahaaGreat.VM

