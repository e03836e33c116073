/- Contracts. No conditions. -/
import Derived.Test.YthjfgpkjooaahaaGreatCLT
set_option linter.all false
set_option maxHeartbeats 8000000
set_option maxRecDepth 10000
namespace Go.Proofs.YthjfgpkjooaahaaGreat.VM
open Go Go.RowKit Go.Proofs
theorem l11TakeA_con (l : List Bool) (t : Nat) (h : l = mapA t) (ht : t < 16) : Con Tryz.prog 252 [.h base []] [.rt base .row (tr l)] (RetW (.t [.h base [], .v (iv (t : Nat))]) [] [(base, tr (mapA (t + 1)))]) := by
 have hc := l11Take_con l
 rwa [show ixOf (fun x => false == x) l = (t : Int) from by rw [h, mapA_ix ht], show takeL l = mapA (t + 1) from by rw [h, takeL_mapA ht]] at hc
theorem slotPt_sim {l : List DASlot} {i k : Nat} {x : Int} : ((tr l).put [(11, i, 9)] k 0 (T.v (iv x))).sim (tr (l.set i { l.getD i En.dflt with Pt := (l.getD i En.dflt).Pt.set k x })) := by
 show (T.s 11 l.length (upd (fun k c => (En.cs (l.getD k En.dflt)).getD c .j) i 9 (T.s 1 (l.getD i En.dflt).Pt.length (upd (fun k c => (En.cs ((l.getD i En.dflt).Pt.getD k En.dflt)).getD c .j) k 0 (.v (iv x)))))).sim _
 refine set_sim (α := DASlot) (fun k' c hk => by simp only [upd_app, hk, false_and, if_false]) (fun c hc => ?_)
 match c, hc with
 | 9, _ =>
  simp only [upd_app, eq_self, and_true, and_false, true_and, if_true, if_false]
  exact (set_sim (fun k c hk => by simp only [upd_app, hk, false_and, if_false]; try rfl) (fun c hc => match c, hc with | 0, _ => (by simp only [upd_app, eq_self, and_self, if_true]; exact tsr) | c + 1, hc => absurd hc (by simp only [En.n]; omega)))
 | 0, _ => simp only [upd_app, eq_self, and_true, and_false, true_and, false_and, Nat.reduceEqDiff, if_true, if_false]; exact tsr
 | 1, _ => simp only [upd_app, eq_self, and_true, and_false, true_and, false_and, Nat.reduceEqDiff, if_true, if_false]; exact tsr
 | 2, _ => simp only [upd_app, eq_self, and_true, and_false, true_and, false_and, Nat.reduceEqDiff, if_true, if_false]; exact tsr
 | 3, _ => simp only [upd_app, eq_self, and_true, and_false, true_and, false_and, Nat.reduceEqDiff, if_true, if_false]; exact tsr
 | 4, _ => simp only [upd_app, eq_self, and_true, and_false, true_and, false_and, Nat.reduceEqDiff, if_true, if_false]; exact tsr
 | 5, _ => simp only [upd_app, eq_self, and_true, and_false, true_and, false_and, Nat.reduceEqDiff, if_true, if_false]; exact tsr
 | 6, _ => simp only [upd_app, eq_self, and_true, and_false, true_and, false_and, Nat.reduceEqDiff, if_true, if_false]; exact tsr
 | 7, _ => simp only [upd_app, eq_self, and_true, and_false, true_and, false_and, Nat.reduceEqDiff, if_true, if_false]; exact tsr
 | 8, _ => simp only [upd_app, eq_self, and_true, and_false, true_and, false_and, Nat.reduceEqDiff, if_true, if_false]; exact tsr
 | 10, _ => simp only [upd_app, eq_self, and_true, and_false, true_and, false_and, Nat.reduceEqDiff, if_true, if_false]; exact tsr
 | c + 11, hc => exact absurd hc (by simp only [En.n]; omega)
theorem ramA_set {ws w : List Int} {t j : Nat} (hl : ws.length = 4 * t) (hw : w.length = 4) (hj : j < 4) (ht : t < 16) : (ramA (ws ++ w.take j)).set (4 * t + j) (w.getD j En.dflt) = ramA (ws ++ w.take (j + 1)) := by
 have hlen : (ws ++ w.take j).length = 4 * t + j := by rw [List.length_append, List.length_take]; omega
 have h1 := set_rep (a := (0 : Int)) (b := w.getD j En.dflt) (l := ws ++ w.take j) (n := 64 - (4 * t + j)) (by omega)
 rw [hlen] at h1
 rw [ramA, hlen, h1, ramA, take_snocG En.dflt (by omega), ← List.append_assoc, List.length_append, hlen]
 rfl
theorem l13Take_con (a : DArrays) (i t t0 k : Nat) (ws w : List Int) (hm : a.Map = mapA t) (hr : a.Ram = ramA ws) (hl : ws.length = 4 * t) (hw : w.length = 4) (ht : t < 16) (hi : i < a.Slots.length) (hp : (a.Slots.getD i En.dflt).Pt = ptA t0 k) (hk : k < 3) (htk : t0 + k = t) (hpg : pagesN (a.Slots.getD i En.dflt).Pt = k) : Con Tryz.prog 144 [.g [.v (iv a.Next), .v (iv a.Tick), .h base [], .h (base + 1) [], .h (base + 2) [], .h (base + 3) [], .h (base + 4) [], .h (base + 5) [], .h (base + 6) [], .v (.bool a.Ready.Used), .h (base + 7) [], .v (iv a.Ready.Head), .v (iv a.Ready.Len), .h (base + 8) []], .v (iv (i : Nat)), .h (base + 9) []] [.rt base .row (tr a.Progs), .rt (base + 1) .row (tr a.Slots), .rt (base + 2) .row (tr a.Ram), .rt (base + 3) .row (tr a.Map), .rt (base + 4) .row (tr a.Opens), .rt (base + 5) .row (tr a.Pipes), .rt (base + 6) .row (tr a.Files), .rt (base + 7) .row (tr a.Ready.Buf), .rt (base + 8) .row (tr a.Out), .rt (base + 9) .ro (tr w)] (RetW (.t [.g [.v (iv ({ a with Map := mapA (t + 1), Ram := ramA (ws ++ w), Slots := a.Slots.set i { a.Slots.getD i En.dflt with Pt := ptA t0 (k + 1) } } : DArrays).Next), .v (iv ({ a with Map := mapA (t + 1), Ram := ramA (ws ++ w), Slots := a.Slots.set i { a.Slots.getD i En.dflt with Pt := ptA t0 (k + 1) } } : DArrays).Tick), .h 0 [], .h 1 [], .h 2 [], .h 3 [], .h 4 [], .h 5 [], .h 6 [], .v (.bool ({ a with Map := mapA (t + 1), Ram := ramA (ws ++ w), Slots := a.Slots.set i { a.Slots.getD i En.dflt with Pt := ptA t0 (k + 1) } } : DArrays).Ready.Used), .h 7 [], .v (iv ({ a with Map := mapA (t + 1), Ram := ramA (ws ++ w), Slots := a.Slots.set i { a.Slots.getD i En.dflt with Pt := ptA t0 (k + 1) } } : DArrays).Ready.Head), .v (iv ({ a with Map := mapA (t + 1), Ram := ramA (ws ++ w), Slots := a.Slots.set i { a.Slots.getD i En.dflt with Pt := ptA t0 (k + 1) } } : DArrays).Ready.Len), .h 8 []], .v (.bool true)]) [(0, .row, tr ({ a with Map := mapA (t + 1), Ram := ramA (ws ++ w), Slots := a.Slots.set i { a.Slots.getD i En.dflt with Pt := ptA t0 (k + 1) } } : DArrays).Progs), (1, .row, tr ({ a with Map := mapA (t + 1), Ram := ramA (ws ++ w), Slots := a.Slots.set i { a.Slots.getD i En.dflt with Pt := ptA t0 (k + 1) } } : DArrays).Slots), (2, .row, tr ({ a with Map := mapA (t + 1), Ram := ramA (ws ++ w), Slots := a.Slots.set i { a.Slots.getD i En.dflt with Pt := ptA t0 (k + 1) } } : DArrays).Ram), (3, .row, tr ({ a with Map := mapA (t + 1), Ram := ramA (ws ++ w), Slots := a.Slots.set i { a.Slots.getD i En.dflt with Pt := ptA t0 (k + 1) } } : DArrays).Map), (4, .row, tr ({ a with Map := mapA (t + 1), Ram := ramA (ws ++ w), Slots := a.Slots.set i { a.Slots.getD i En.dflt with Pt := ptA t0 (k + 1) } } : DArrays).Opens), (5, .row, tr ({ a with Map := mapA (t + 1), Ram := ramA (ws ++ w), Slots := a.Slots.set i { a.Slots.getD i En.dflt with Pt := ptA t0 (k + 1) } } : DArrays).Pipes), (6, .row, tr ({ a with Map := mapA (t + 1), Ram := ramA (ws ++ w), Slots := a.Slots.set i { a.Slots.getD i En.dflt with Pt := ptA t0 (k + 1) } } : DArrays).Files), (7, .row, tr ({ a with Map := mapA (t + 1), Ram := ramA (ws ++ w), Slots := a.Slots.set i { a.Slots.getD i En.dflt with Pt := ptA t0 (k + 1) } } : DArrays).Ready.Buf), (8, .row, tr ({ a with Map := mapA (t + 1), Ram := ramA (ws ++ w), Slots := a.Slots.set i { a.Slots.getD i En.dflt with Pt := ptA t0 (k + 1) } } : DArrays).Out)] [(base, .j), ((base + 1), .j), ((base + 2), .j), ((base + 3), .j), ((base + 4), .j), ((base + 5), .j), ((base + 6), .j), ((base + 7), .j), ((base + 8), .j)]) := by
 refine ob Tryz.func144 Tryz.ntmps144 ?_
 have hrl : a.Ram.length = 64 := by rw [hr, ramA_len]; omega
 have hml : a.Map.length = 16 := by rw [hm, mapA_len (by omega)]
 have hptl : (a.Slots.getD i En.dflt).Pt.length = 3 := by rw [hp, ptA_len (by omega)]
 have hcp : Con Tryz.prog 197 [.h base []] [.rt base .ro (tr (a.Slots.getD i En.dflt).Pt)] (fun y _ => y = .v (iv (k : Nat))) := by
  have hz := l12Pages_con (a.Slots.getD i En.dflt).Pt (by omega)
  rwa [hpg] at hz
 refine AW.movR base 2000 rfl rfl (by decide) rfl ?_
 refine AW.movR (base + 1) 2001 rfl rfl (by decide) rfl ?_
 refine AW.movR (base + 2) 2002 rfl rfl (by decide) rfl ?_
 refine AW.movR (base + 3) 2003 rfl rfl (by decide) rfl ?_
 refine AW.movR (base + 4) 2004 rfl rfl (by decide) rfl ?_
 refine AW.movR (base + 5) 2005 rfl rfl (by decide) rfl ?_
 refine AW.movR (base + 6) 2006 rfl rfl (by decide) rfl ?_
 refine AW.movR (base + 7) 2007 rfl rfl (by decide) rfl ?_
 refine AW.movR (base + 8) 2008 rfl rfl (by decide) rfl ?_
 refine go [.R,.B,.N,.A,.N,.a,.Z,.R,.S,.N,.f,.l] (k := ?_)
 refine sp (by first | exact Stp.appendC rfl (by decide) (by decide) rfl rfl (by omega) | exact Stp.appendM rfl (by decide) (by decide) rfl rfl rfl (by omega)) ?_
 refine AWL.rep 16 (tr a.Map) rfl (app_nil (α := Bool)) ?_
 refine go [.N] (k := ?_)
 refine sp (Stp.callH rfl (by decide) Tryz.call252 rfl (l11TakeA_con a.Map t hm ht) rfl rfl rfl (nodup_of rfl) rfl rfl) ?_
 refine go [.N,.m,.e,.e,.N,.a,.a,.Z,.R,.f,.N,.l,.m,.i,.N,.f,.l] (k := ?_)
 refine cv Tryz.call197 rfl rfl hcp ?_
 refine go [.N,.a,.Z,.R2,.m,.b,.N,.m] (k := ?_)
 apply AWL.cut 2
 ·intro Kg1
  refine AWL.splitF 29 rfl (fun g1 => ?_) (fun g1 => ?_)
  ·have eg1 := g1
   try simp only [cnd] at eg1
   refine go [.m,.b,.N] (k := ?_)
   exact wjT 31 [30, 31] (ifF g1 _ undef) Kg1
  ·refine go [.x,.x] (k := ?_)
   exact wjF 31 [30, 31] (ifT g1 undef _) Kg1
 refine qq (Qt.pickOr rfl rfl rfl) ?_
 refine go [.Z] (k := ?_)
 refine AW.cond rfl (fun c2 => (by exfalso; simp at c2; omega)) (fun c2 => ?_)
 try simp only [cnd] at c2
 refine go [.J,.R,.m,.f,.N,.s,.Z,.R,.f,.N,.l,.m,.i,.N,.f,.l,.m,.N,.m,.i,.s,.N] (k := ?_)
 refine AWL.rep 2001 (tr (a.Slots.set i { a.Slots.getD i En.dflt with Pt := ptA t0 (k + 1) })) rfl (by have hz := slotPt_sim (l := a.Slots) (i := i) (k := k) (x := (t : Int)); rwa [show (a.Slots.getD i En.dflt).Pt.set k (t : Int) = ptA t0 (k + 1) from by rw [hp, ← ptA_set hk, htk]] at hz) ?_
 refine go [.Z,.R2,.a,.Z] (k := ?_)
 refine AW.block ?_
 refine AW.weak (L' := (.sl 11 (.v (iv (0 : Nat))) :: .sl 9 (.v (iv (t : Nat))) :: .sl 2 (.h (base + 9) []) :: .sl 3 (.p 3 [] 14 0 0) :: .sl 6 (.p 6 [] 14 0 0) :: .rt 3 .box (T.s 14 1 fun _ c => [T.v (iv a.Next), T.v (iv a.Tick), T.j, T.j, T.j, T.j, T.j, T.j, T.j, T.v (.bool a.Ready.Used), T.j, T.v (iv a.Ready.Head), T.v (iv a.Ready.Len), T.j].getD c T.j) :: .rt 6 .box (T.s 14 1 fun _ c => [T.v (iv 0), T.v (iv 0), T.s 1 0 fun _ _ => T.j, T.s 11 0 fun _ _ => T.j, T.s 1 0 fun _ _ => T.j, T.s 1 0 fun _ _ => T.j, T.s 5 0 fun _ _ => T.j, T.s 4 0 fun _ _ => T.j, T.s 2 0 fun _ _ => T.j, T.v (.bool false), T.s 1 0 fun _ _ => T.j, T.v (iv 0), T.v (iv 0), T.s 1 0 fun _ _ => T.j].getD c T.j) :: .al 3 2 (.h 2000 []) :: .al 3 3 (.h 2001 []) :: .al 3 4 (.h 2002 []) :: .al 3 5 (.h 16 []) :: .al 3 6 (.h 2004 []) :: .al 3 7 (.h 2005 []) :: .al 3 8 (.h 2006 []) :: .al 3 10 (.h 2007 []) :: .al 3 13 (.h 2008 []) :: .rt 2000 .row (tr a.Progs) :: .rt 2001 .row (tr (a.Slots.set i { a.Slots.getD i En.dflt with Pt := ptA t0 (k + 1) })) :: .rt 2002 .row (tr (ramA (ws ++ w.take (0 : Nat)))) :: .rt 16 .row (tr (mapA (t + 1))) :: .rt 2004 .row (tr a.Opens) :: .rt 2005 .row (tr a.Pipes) :: .rt 2006 .row (tr a.Files) :: .rt 2007 .row (tr a.Ready.Buf) :: .rt 2008 .row (tr a.Out) :: .rt (base + 9) .ro (tr w) :: .rt base .row .j :: .rt (base + 1) .row .j :: .rt (base + 2) .row .j :: .rt (base + 3) .row .j :: .rt (base + 4) .row .j :: .rt (base + 5) .row .j :: .rt (base + 6) .row .j :: .rt (base + 7) .row .j :: .rt (base + 8) .row .j :: [])) (Weak.sim ⟨rfl, rfl, rfl, rfl, rfl, ⟨_, rfl, (scA_sim (n := 14) (fun c hc => match c, hc with | 0, _ => tsr | 1, _ => tsr | 2, _ => tsr | 3, _ => tsr | 4, _ => tsr | 5, _ => tsr | 6, _ => tsr | 7, _ => tsr | 8, _ => tsr | 9, _ => tsr | 10, _ => tsr | 11, _ => tsr | 12, _ => tsr | 13, _ => tsr | c + 14, hc => absurd hc (by omega)))⟩, ⟨_, rfl, (scA_sim (n := 14) (fun c hc => match c, hc with | 0, _ => tsr | 1, _ => tsr | 2, _ => tsr | 3, _ => tsr | 4, _ => tsr | 5, _ => tsr | 6, _ => tsr | 7, _ => tsr | 8, _ => tsr | 9, _ => tsr | 10, _ => tsr | 11, _ => tsr | 12, _ => tsr | 13, _ => tsr | c + 14, hc => absurd hc (by omega)))⟩, ⟨rfl, rfl⟩, ⟨rfl, rfl⟩, ⟨rfl, rfl⟩, ⟨rfl, rfl⟩, ⟨rfl, rfl⟩, ⟨rfl, rfl⟩, ⟨rfl, rfl⟩, ⟨rfl, rfl⟩, ⟨rfl, rfl⟩, Rf rfl, Rf rfl, ⟨_, rfl, by rw [hr, List.take_zero, List.append_nil]; exact tsr⟩, Rf rfl, Rf rfl, Rf rfl, Rf rfl, Rf rfl, Rf rfl, Rf rfl, Rf rfl, Rf rfl, Rf rfl, Rf rfl, Rf rfl, Rf rfl, Rf rfl, Rf rfl, Rf rfl, trivial⟩ rfl rfl) ?_
 refine AW.loop (fun j : KInv 4 => (.sl 11 (.v (iv j.k)) :: .sl 9 (.v (iv (t : Nat))) :: .sl 2 (.h (base + 9) []) :: .sl 3 (.p 3 [] 14 0 0) :: .sl 6 (.p 6 [] 14 0 0) :: .rt 3 .box (T.s 14 1 fun _ c => [T.v (iv a.Next), T.v (iv a.Tick), T.j, T.j, T.j, T.j, T.j, T.j, T.j, T.v (.bool a.Ready.Used), T.j, T.v (iv a.Ready.Head), T.v (iv a.Ready.Len), T.j].getD c T.j) :: .rt 6 .box (T.s 14 1 fun _ c => [T.v (iv 0), T.v (iv 0), T.s 1 0 fun _ _ => T.j, T.s 11 0 fun _ _ => T.j, T.s 1 0 fun _ _ => T.j, T.s 1 0 fun _ _ => T.j, T.s 5 0 fun _ _ => T.j, T.s 4 0 fun _ _ => T.j, T.s 2 0 fun _ _ => T.j, T.v (.bool false), T.s 1 0 fun _ _ => T.j, T.v (iv 0), T.v (iv 0), T.s 1 0 fun _ _ => T.j].getD c T.j) :: .al 3 2 (.h 2000 []) :: .al 3 3 (.h 2001 []) :: .al 3 4 (.h 2002 []) :: .al 3 5 (.h 16 []) :: .al 3 6 (.h 2004 []) :: .al 3 7 (.h 2005 []) :: .al 3 8 (.h 2006 []) :: .al 3 10 (.h 2007 []) :: .al 3 13 (.h 2008 []) :: .rt 2000 .row (tr a.Progs) :: .rt 2001 .row (tr (a.Slots.set i { a.Slots.getD i En.dflt with Pt := ptA t0 (k + 1) })) :: .rt 2002 .row (tr (ramA (ws ++ w.take j.k))) :: .rt 16 .row (tr (mapA (t + 1))) :: .rt 2004 .row (tr a.Opens) :: .rt 2005 .row (tr a.Pipes) :: .rt 2006 .row (tr a.Files) :: .rt 2007 .row (tr a.Ready.Buf) :: .rt 2008 .row (tr a.Out) :: .rt (base + 9) .ro (tr w) :: .rt base .row .j :: .rt (base + 1) .row .j :: .rt (base + 2) .row .j :: .rt (base + 3) .row .j :: .rt (base + 4) .row .j :: .rt (base + 5) .row .j :: .rt (base + 6) .row .j :: .rt (base + 7) .row .j :: .rt (base + 8) .row .j :: [])) (fun j => 4 - j.k) ⟨0, Nat.zero_le _⟩ ?_
 intro j
 have hlej := j.le
 have hix : ((t : Int) * 4 + (j.k : Int)).toNat = 4 * t + j.k := by omega
 have hra : (ramA (ws ++ w.take j.k)).length = 64 := ramA_len (by rw [List.length_append, List.length_take]; omega)
 refine go [.R2,.m,.N,.b,.Z] (k := ?_)
 refine cd (fun c3 => ?_) fun c3 => ?_
 ·try simp only [cnd] at c3
  refine jd (AW.seq (AW.block ?_))
  refine go [.D [0, 1, 2, 3, 4, 5, 6, 7, 8, 9, 10],.t 0,.f,.t 1,.l,.N,.t 2,.m] (k := ?_)
  refine tk 3 rfl (Qt.binOp rfl rfl (by first | exact pbMul (by omega) | rfl)) ?_
  refine go [.t 4,.m,.N,.t 5,.b,.t 6,.m,.t 7,.m,.N,.t 8,.i,.t 9,.l,.t 10,.i,.N,.o 11 [],.s,.N,.Z,.R1,.m,.b,.a,.Z] (k := ?_)
  refine ⟨⟨j.k + 1, by omega⟩, Weak.sim ⟨st1, rfl, rfl, rfl, rfl, ⟨_, rfl, (scA_sim (n := 14) (fun c hc => match c, hc with | 0, _ => tsr | 1, _ => tsr | 2, _ => tsr | 3, _ => tsr | 4, _ => tsr | 5, _ => tsr | 6, _ => tsr | 7, _ => tsr | 8, _ => tsr | 9, _ => tsr | 10, _ => tsr | 11, _ => tsr | 12, _ => tsr | 13, _ => tsr | c + 14, hc => absurd hc (by omega)))⟩, Rf rfl, ⟨rfl, rfl⟩, ⟨rfl, rfl⟩, ⟨rfl, rfl⟩, ⟨rfl, rfl⟩, ⟨rfl, rfl⟩, ⟨rfl, rfl⟩, ⟨rfl, rfl⟩, ⟨rfl, rfl⟩, ⟨rfl, rfl⟩, Rf rfl, Rf rfl, ⟨_, rfl, by rw [← ramA_set hl hw (by omega) ht]; exact set_sim (fun q c hq => by simp only [upd_app, hix, hq, false_and, if_false]; try rfl) (fun c hc => match c, hc with | 0, _ => (by simp only [upd_app, hix, eq_self, and_self, if_true]; exact tsr) | c + 1, hc => absurd hc (by simp only [En.n]; omega))⟩, Rf rfl, Rf rfl, Rf rfl, Rf rfl, Rf rfl, Rf rfl, Rf rfl, Rf rfl, Rf rfl, Rf rfl, Rf rfl, Rf rfl, Rf rfl, Rf rfl, Rf rfl, Rf rfl, trivial⟩ rfl rfl, ?_⟩
  show 4 - (j.k + 1) < 4 - j.k
  omega
 try simp only [cnd] at c3
 refine AW.exit ?_
 dsimp only [thenQ, blockQ, reduceIte]
 refine go [.R,.G,.N,.s,.N,.a,.Z] (k := ?_)
 refine AW.rep 2002 (tr (ramA (ws ++ w))) rfl (by rw [show w.take j.k = w from List.take_of_length_le (by omega)]; exact tsr) ?_
 refine AW.ret (endQ_ret (.cons (.cellG 6 40 rfl rfl rfl ag40 sz40 (by decide)) (.cons (.tmp 7) .nil)) ?_)
 refine ⟨fun n => if n = 0 then 2000 else if n = 1 then 2001 else if n = 2 then 2002 else if n = 3 then 16 else if n = 4 then 2004 else if n = 5 then 2005 else if n = 6 then 2006 else if n = 7 then 2007 else if n = 8 then 2008 else n, rfl, (fun n hn => by simp only [base] at hn; dsimp only; repeat (rw [if_neg (by omega)])), nodup_of rfl, (fun r hr => by simp only [List.mem_cons, List.not_mem_nil, or_false] at hr; rcases hr with rfl | rfl | rfl | rfl | rfl | rfl | rfl | rfl | rfl <;> exact ⟨by simp, rootL_mem rfl, of_decide_eq_true rfl⟩), ?_⟩
 intro p hp
 simp only [List.mem_cons, List.not_mem_nil, or_false] at hp
 rcases hp with rfl | rfl | rfl | rfl | rfl | rfl | rfl | rfl | rfl <;> exact rootL_mem rfl
end Go.Proofs.YthjfgpkjooaahaaGreat.VM

