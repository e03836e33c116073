/- Contracts. No conditions. -/
import Derived.Test.YthjfgpkjooaahaaGreatCEV1
set_option linter.all false
set_option maxHeartbeats 8000000
set_option maxRecDepth 10000
namespace Go.Proofs.YthjfgpkjooaahaaGreat.VM
open Go Go.RowKit Go.Proofs
theorem mkB_ne {x : Int} (h : (decide (x.tmod 3 = 0) != (x.tmod 3 == 0)) = true) : False := by
 by_cases e : x.tmod 3 = 0 <;> simp [e] at h
theorem heldInsS_con (a : List DIns) (k : Int) (hk : 0 ≤ k) (hk2 : k + (Mk.cnt a : Nat) ≤ 4611686018427387904) : Con Tryz.prog 177 [.h base [], .v (iv k)] [.rt base .ro (tr (mkL a (k)))] (fun y _ => y = .v (iv (k + (Mk.cnt a : Nat)))) := by
 refine ob Tryz.func177 Tryz.ntmps177 ?_
 refine AW.weak (L' := [.sl 0 (.h base []), .sl 1 (.v (iv k)), .rt base .ro (trG a.length (mkF a k))]) (Weak.sim ⟨rfl, rfl, ⟨_, rfl, mkL_trG a k⟩, trivial⟩ rfl rfl) ?_
 refine AW.len base [] rfl (by simp [Okp]) rfl (fun hl => ?_)
 refine go [.R,.a,.Z,.R2,.a,.Z] (k := ?_)
 refine AW.block ?_
 refine AW.weak (L' := [.sl 5 (.v (iv (0 : Nat))), .sl 1 (.v (iv (k + (cumN Mk.cnt En.dflt a 0 : Nat)))), .sl 0 (.h base []), .rt base .ro (trG a.length (mkF a k))]) (Weak.sim ⟨rfl, (by simp only [slotL, reduceIte, Nat.reduceEqDiff]; show X.v (iv k) = _; simp [cumN]), rfl, Rf rfl, trivial⟩ rfl rfl) ?_
 refine AW.loop (fun i : KInv a.length => [.sl 5 (.v (iv i.k)), .sl 1 (.v (iv (k + (cumN Mk.cnt En.dflt a i.k : Nat)))), .sl 0 (.h base []), .rt base .ro (trG a.length (mkF a k))]) (fun i => a.length - i.k) ⟨0, Nat.zero_le _⟩ ?_
 intro i
 have hle := i.le
 refine go [.R2,.m,.N,.m,.h,.b,.Z] (k := ?_)
 refine cd (fun c1 => ?_) fun c1 => ?_
 ·try simp only [cnd] at c1
  have hc1 := cumN_mono (c := Mk.cnt) (d := En.dflt) (l := a) (show i.k + 1 ≤ a.length by omega)
  simp only [cumN, cnt_Ins] at hc1
  simp only [cnt_list] at hk2
  refine jd (AW.seq (AW.block (sr2 ?_)))
  refine go [.m,.N,.m,.i,.f,.N,.l,.m,.b,.Z] (k := ?_)
  refine cd (fun c2 => ?_) fun c2 => ?_
  ·try simp only [cnd] at c2
   refine go [.R,.a,.Z] (k := ?_)
   refine rt1 4 ?_
   first | (simp only [retX, slotL, reduceIte, Nat.reduceEqDiff]; rw [cnt_list, show cumN Mk.cnt En.dflt a i.k = cumN Mk.cnt En.dflt a a.length by rw [show i.k = a.length by omega]]; done) | (exfalso; first | (exact mkB_ne c2; done) | (exact absurd rfl c2; done) | (simp [mkF, Mk.mark] at *; done) | (simp_all [mkF, Mk.mark]; done) | omega)
  try simp only [cnd] at c2
  refine go [.J,.R,.m,.N,.b,.a,.Z,.R2,.m,.N,.m,.i,.f,.N,.l,.m,.b,.Z] (k := ?_)
  refine cd (fun c3 => ?_) fun c3 => ?_
  ·try simp only [cnd] at c3
   refine go [.R,.a,.Z] (k := ?_)
   refine rt1 4 ?_
   first | (simp only [retX, slotL, reduceIte, Nat.reduceEqDiff]; rw [cnt_list, show cumN Mk.cnt En.dflt a i.k = cumN Mk.cnt En.dflt a a.length by rw [show i.k = a.length by omega]]; done) | (exfalso; first | (exact mkB_ne c3; done) | (exact absurd rfl c3; done) | (simp [mkF, Mk.mark] at *; done) | (simp_all [mkF, Mk.mark]; done) | omega)
  try simp only [cnd] at c3
  refine go [.J,.R,.m,.N,.b,.a,.Z,.R2,.m,.N,.m,.i,.f,.N,.l,.m,.b,.Z] (k := ?_)
  refine cd (fun c4 => ?_) fun c4 => ?_
  ·try simp only [cnd] at c4
   refine go [.R,.a,.Z] (k := ?_)
   refine rt1 4 ?_
   first | (simp only [retX, slotL, reduceIte, Nat.reduceEqDiff]; rw [cnt_list, show cumN Mk.cnt En.dflt a i.k = cumN Mk.cnt En.dflt a a.length by rw [show i.k = a.length by omega]]; done) | (exfalso; first | (exact mkB_ne c4; done) | (exact absurd rfl c4; done) | (simp [mkF, Mk.mark] at *; done) | (simp_all [mkF, Mk.mark]; done) | omega)
  try simp only [cnd] at c4
  refine go [.J,.R,.m,.N,.b,.a,.Z,.R2,.m,.N,.m,.i,.f,.N,.l,.m,.b,.Z] (k := ?_)
  refine cd (fun c5 => ?_) fun c5 => ?_
  ·try simp only [cnd] at c5
   refine go [.R,.a,.Z] (k := ?_)
   refine rt1 4 ?_
   first | (simp only [retX, slotL, reduceIte, Nat.reduceEqDiff]; rw [cnt_list, show cumN Mk.cnt En.dflt a i.k = cumN Mk.cnt En.dflt a a.length by rw [show i.k = a.length by omega]]; done) | (exfalso; first | (exact mkB_ne c5; done) | (exact absurd rfl c5; done) | (simp [mkF, Mk.mark] at *; done) | (simp_all [mkF, Mk.mark]; done) | omega)
  try simp only [cnd] at c5
  refine go [.J,.R1,.m,.N,.b,.a,.Z,.R1,.m,.N,.b,.a,.Z] (k := ?_)
  refine ⟨⟨i.k + 1, by omega⟩, Weak.sim ⟨st1, (by simp only [slotL, reduceIte, Nat.reduceEqDiff]; congr 2; simp only [cumN, cnt_Ins]; omega), rfl, Rf rfl, trivial⟩ rfl rfl, ?_⟩
  show a.length - (i.k + 1) < a.length - i.k
  omega
 try simp only [cnd] at c1
 refine AW.exit ?_
 dsimp only [thenQ, blockQ, reduceIte]
 refine go [.R,.m,.N,.a,.Z] (k := ?_)
 refine rt1 4 ?_
 first | (simp only [retX, slotL, reduceIte, Nat.reduceEqDiff]; rw [cnt_list, show cumN Mk.cnt En.dflt a i.k = cumN Mk.cnt En.dflt a a.length by rw [show i.k = a.length by omega]]; done) | (exfalso; first | (exact mkB_ne c1; done) | (exact absurd rfl c1; done) | (simp [mkF, Mk.mark] at *; done) | (simp_all [mkF, Mk.mark]; done) | omega)
theorem heldInsSS_con (a : List (List DIns)) (k : Int) (hk : 0 ≤ k) (hk2 : k + (Mk.cnt a : Nat) ≤ 4611686018427387904) : Con Tryz.prog 74 [.h base [], .v (iv k)] [.rt base .ro (tr (mkL a (k)))] (fun y _ => y = .v (iv (k + (Mk.cnt a : Nat)))) := by
 refine ob Tryz.func74 Tryz.ntmps74 ?_
 refine AW.weak (L' := [.sl 0 (.h base []), .sl 1 (.v (iv k)), .rt base .ro (trG a.length (mkF a k))]) (Weak.sim ⟨rfl, rfl, ⟨_, rfl, mkL_trG a k⟩, trivial⟩ rfl rfl) ?_
 refine AW.len base [] rfl (by simp [Okp]) rfl (fun hl => ?_)
 refine go [.R,.a,.Z,.R2,.a,.Z] (k := ?_)
 refine AW.block ?_
 refine AW.weak (L' := [.sl 5 (.v (iv (0 : Nat))), .sl 1 (.v (iv (k + (cumN Mk.cnt En.dflt a 0 : Nat)))), .sl 0 (.h base []), .rt base .ro (trG a.length (mkF a k))]) (Weak.sim ⟨rfl, (by simp only [slotL, reduceIte, Nat.reduceEqDiff]; show X.v (iv k) = _; simp [cumN]), rfl, Rf rfl, trivial⟩ rfl rfl) ?_
 refine AW.loop (fun i : KInv a.length => [.sl 5 (.v (iv i.k)), .sl 1 (.v (iv (k + (cumN Mk.cnt En.dflt a i.k : Nat)))), .sl 0 (.h base []), .rt base .ro (trG a.length (mkF a k))]) (fun i => a.length - i.k) ⟨0, Nat.zero_le _⟩ ?_
 intro i
 have hle := i.le
 refine go [.R2,.m,.N,.m,.h,.b,.Z] (k := ?_)
 refine cd (fun c1 => ?_) fun c1 => ?_
 ·try simp only [cnd] at c1
  have hc1 := cumN_mono (c := Mk.cnt) (d := En.dflt) (l := a) (show i.k + 1 ≤ a.length by omega)
  simp only [cumN] at hc1
  simp only [cnt_list] at hk2
  refine jd (AW.seq (AW.block (sr ?_)))
  refine go [.m,.N,.m,.i,.l,.N,.m] (k := ?_)
  refine cv Tryz.call177 rfl rfl (heldInsS_con _ _ (by omega) (by omega)) ?_
  refine go [.N,.a,.Z,.R,.m,.b,.Z] (k := ?_)
  refine cd (fun c2 => ?_) fun c2 => ?_
  ·try simp only [cnd] at c2
   refine go [.R,.a,.Z] (k := ?_)
   refine rt1 4 ?_
   first | (simp only [retX, slotL, reduceIte, Nat.reduceEqDiff]; rw [cnt_list, show cumN Mk.cnt En.dflt a i.k = cumN Mk.cnt En.dflt a a.length by rw [show i.k = a.length by omega]]; done) | (exfalso; first | (exact mkB_ne c2; done) | (exact absurd rfl c2; done) | (simp [mkF, Mk.mark] at *; done) | (simp_all [mkF, Mk.mark]; done) | omega)
  try simp only [cnd] at c2
  refine go [.J,.R1,.m,.N,.b,.a,.Z] (k := ?_)
  refine ⟨⟨i.k + 1, by omega⟩, Weak.sim ⟨st1, (by simp only [slotL, reduceIte, Nat.reduceEqDiff]; congr 2; simp only [cumN]; omega), rfl, Rf rfl, trivial⟩ rfl rfl, ?_⟩
  show a.length - (i.k + 1) < a.length - i.k
  omega
 try simp only [cnd] at c1
 refine AW.exit ?_
 dsimp only [thenQ, blockQ, reduceIte]
 refine go [.R,.m,.N,.a,.Z] (k := ?_)
 refine rt1 4 ?_
 first | (simp only [retX, slotL, reduceIte, Nat.reduceEqDiff]; rw [cnt_list, show cumN Mk.cnt En.dflt a i.k = cumN Mk.cnt En.dflt a a.length by rw [show i.k = a.length by omega]]; done) | (exfalso; first | (exact mkB_ne c1; done) | (exact absurd rfl c1; done) | (simp [mkF, Mk.mark] at *; done) | (simp_all [mkF, Mk.mark]; done) | omega)
theorem heldIntS_con (a : List Int) (k : Int) (hk : 0 ≤ k) (hk2 : k + (Mk.cnt a : Nat) ≤ 4611686018427387904) : Con Tryz.prog 76 [.h base [], .v (iv k)] [.rt base .ro (tr (mkL a (k)))] (fun y _ => y = .v (iv (k + (Mk.cnt a : Nat)))) := by
 refine ob Tryz.func76 Tryz.ntmps76 ?_
 refine AW.weak (L' := [.sl 0 (.h base []), .sl 1 (.v (iv k)), .rt base .ro (trG a.length (mkF a k))]) (Weak.sim ⟨rfl, rfl, ⟨_, rfl, mkL_trG a k⟩, trivial⟩ rfl rfl) ?_
 refine AW.len base [] rfl (by simp [Okp]) rfl (fun hl => ?_)
 refine go [.R,.a,.Z,.R2,.a,.Z] (k := ?_)
 refine AW.block ?_
 refine AW.weak (L' := [.sl 5 (.v (iv (0 : Nat))), .sl 1 (.v (iv (k + (cumN Mk.cnt En.dflt a 0 : Nat)))), .sl 0 (.h base []), .rt base .ro (trG a.length (mkF a k))]) (Weak.sim ⟨rfl, (by simp only [slotL, reduceIte, Nat.reduceEqDiff]; show X.v (iv k) = _; simp [cumN]), rfl, Rf rfl, trivial⟩ rfl rfl) ?_
 refine AW.loop (fun i : KInv a.length => [.sl 5 (.v (iv i.k)), .sl 1 (.v (iv (k + (cumN Mk.cnt En.dflt a i.k : Nat)))), .sl 0 (.h base []), .rt base .ro (trG a.length (mkF a k))]) (fun i => a.length - i.k) ⟨0, Nat.zero_le _⟩ ?_
 intro i
 have hle := i.le
 refine go [.R2,.m,.N,.m,.h,.b,.Z] (k := ?_)
 refine cd (fun c1 => ?_) fun c1 => ?_
 ·try simp only [cnd] at c1
  have hc1 := cumN_mono (c := Mk.cnt) (d := En.dflt) (l := a) (show i.k + 1 ≤ a.length by omega)
  simp only [cumN, cnt_int] at hc1
  simp only [cnt_list] at hk2
  refine jd (AW.seq (AW.block (sr2 ?_)))
  refine go [.m,.N,.m,.i,.l,.N,.m,.b,.Z] (k := ?_)
  refine cd (fun c2 => ?_) fun c2 => ?_
  ·try simp only [cnd] at c2
   refine go [.R,.a,.Z] (k := ?_)
   refine rt1 4 ?_
   first | (simp only [retX, slotL, reduceIte, Nat.reduceEqDiff]; rw [cnt_list, show cumN Mk.cnt En.dflt a i.k = cumN Mk.cnt En.dflt a a.length by rw [show i.k = a.length by omega]]; done) | (exfalso; first | (exact mkB_ne c2; done) | (exact absurd rfl c2; done) | (simp [mkF, Mk.mark] at *; done) | (simp_all [mkF, Mk.mark]; done) | omega)
  try simp only [cnd] at c2
  refine go [.J,.R1,.m,.N,.b,.a,.Z,.R1,.m,.N,.b,.a,.Z] (k := ?_)
  refine ⟨⟨i.k + 1, by omega⟩, Weak.sim ⟨st1, (by simp only [slotL, reduceIte, Nat.reduceEqDiff]; congr 2; simp only [cumN, cnt_int]; omega), rfl, Rf rfl, trivial⟩ rfl rfl, ?_⟩
  show a.length - (i.k + 1) < a.length - i.k
  omega
 try simp only [cnd] at c1
 refine AW.exit ?_
 dsimp only [thenQ, blockQ, reduceIte]
 refine go [.R,.m,.N,.a,.Z] (k := ?_)
 refine rt1 4 ?_
 first | (simp only [retX, slotL, reduceIte, Nat.reduceEqDiff]; rw [cnt_list, show cumN Mk.cnt En.dflt a i.k = cumN Mk.cnt En.dflt a a.length by rw [show i.k = a.length by omega]]; done) | (exfalso; first | (exact mkB_ne c1; done) | (exact absurd rfl c1; done) | (simp [mkF, Mk.mark] at *; done) | (simp_all [mkF, Mk.mark]; done) | omega)
theorem heldASlotS_con (a : List DASlot) (k : Int) (hk : 0 ≤ k) (hk2 : k + (Mk.cnt a : Nat) ≤ 4611686018427387904) : Con Tryz.prog 75 [.h base [], .v (iv k)] [.rt base .ro (tr (mkL a (k)))] (fun y _ => y = .v (iv (k + (Mk.cnt a : Nat)))) := by
 refine ob Tryz.func75 Tryz.ntmps75 ?_
 refine AW.weak (L' := [.sl 0 (.h base []), .sl 1 (.v (iv k)), .rt base .ro (trG a.length (mkF a k))]) (Weak.sim ⟨rfl, rfl, ⟨_, rfl, mkL_trG a k⟩, trivial⟩ rfl rfl) ?_
 refine AW.len base [] rfl (by simp [Okp]) rfl (fun hl => ?_)
 refine go [.R,.a,.Z,.R2,.a,.Z] (k := ?_)
 refine AW.block ?_
 refine AW.weak (L' := [.sl 5 (.v (iv (0 : Nat))), .sl 1 (.v (iv (k + (cumN Mk.cnt En.dflt a 0 : Nat)))), .sl 0 (.h base []), .rt base .ro (trG a.length (mkF a k))]) (Weak.sim ⟨rfl, (by simp only [slotL, reduceIte, Nat.reduceEqDiff]; show X.v (iv k) = _; simp [cumN]), rfl, Rf rfl, trivial⟩ rfl rfl) ?_
 refine AW.loop (fun i : KInv a.length => [.sl 5 (.v (iv i.k)), .sl 1 (.v (iv (k + (cumN Mk.cnt En.dflt a i.k : Nat)))), .sl 0 (.h base []), .rt base .ro (trG a.length (mkF a k))]) (fun i => a.length - i.k) ⟨0, Nat.zero_le _⟩ ?_
 intro i
 have hle := i.le
 refine go [.R2,.m,.N,.m,.h,.b,.Z] (k := ?_)
 refine cd (fun c1 => ?_) fun c1 => ?_
 ·try simp only [cnd] at c1
  have hc1 := cumN_mono (c := Mk.cnt) (d := En.dflt) (l := a) (show i.k + 1 ≤ a.length by omega)
  simp only [cumN, cnt_ASlot] at hc1
  simp only [cnt_list] at hk2
  refine jd (AW.seq (AW.block (sr2 ?_)))
  refine go [.m,.N,.m,.i,.f,.N,.l,.m,.b,.N,.b] (k := ?_)
  refine qq (Qt.neB rfl rfl Tryz.underlying4) ?_
  refine go [.Z] (k := ?_)
  refine cd (fun c2 => ?_) fun c2 => ?_
  ·try simp only [cnd] at c2
   refine go [.R,.a,.Z] (k := ?_)
   refine rt1 4 ?_
   first | (simp only [retX, slotL, reduceIte, Nat.reduceEqDiff]; rw [cnt_list, show cumN Mk.cnt En.dflt a i.k = cumN Mk.cnt En.dflt a a.length by rw [show i.k = a.length by omega]]; done) | (exfalso; first | (exact mkB_ne c2; done) | (exact absurd rfl c2; done) | (simp [mkF, Mk.mark] at *; done) | (simp_all [mkF, Mk.mark]; done) | omega)
  try simp only [cnd] at c2
  refine go [.J,.R,.m,.N,.b,.a,.Z,.R2,.m,.N,.m,.i,.f,.N,.l,.m,.b,.Z] (k := ?_)
  refine cd (fun c3 => ?_) fun c3 => ?_
  ·try simp only [cnd] at c3
   refine go [.R,.a,.Z] (k := ?_)
   refine rt1 4 ?_
   first | (simp only [retX, slotL, reduceIte, Nat.reduceEqDiff]; rw [cnt_list, show cumN Mk.cnt En.dflt a i.k = cumN Mk.cnt En.dflt a a.length by rw [show i.k = a.length by omega]]; done) | (exfalso; first | (exact mkB_ne c3; done) | (exact absurd rfl c3; done) | (simp [mkF, Mk.mark] at *; done) | (simp_all [mkF, Mk.mark]; done) | omega)
  try simp only [cnd] at c3
  refine go [.J,.R,.m,.N,.b,.a,.Z,.R2,.m,.N,.m,.i,.f,.N,.l,.m,.b,.Z] (k := ?_)
  refine cd (fun c4 => ?_) fun c4 => ?_
  ·try simp only [cnd] at c4
   refine go [.R,.a,.Z] (k := ?_)
   refine rt1 4 ?_
   first | (simp only [retX, slotL, reduceIte, Nat.reduceEqDiff]; rw [cnt_list, show cumN Mk.cnt En.dflt a i.k = cumN Mk.cnt En.dflt a a.length by rw [show i.k = a.length by omega]]; done) | (exfalso; first | (exact mkB_ne c4; done) | (exact absurd rfl c4; done) | (simp [mkF, Mk.mark] at *; done) | (simp_all [mkF, Mk.mark]; done) | omega)
  try simp only [cnd] at c4
  refine go [.J,.R,.m,.N,.b,.a,.Z,.R2,.m,.N,.m,.i,.f,.N,.l,.m,.b,.Z] (k := ?_)
  refine cd (fun c5 => ?_) fun c5 => ?_
  ·try simp only [cnd] at c5
   refine go [.R,.a,.Z] (k := ?_)
   refine rt1 4 ?_
   first | (simp only [retX, slotL, reduceIte, Nat.reduceEqDiff]; rw [cnt_list, show cumN Mk.cnt En.dflt a i.k = cumN Mk.cnt En.dflt a a.length by rw [show i.k = a.length by omega]]; done) | (exfalso; first | (exact mkB_ne c5; done) | (exact absurd rfl c5; done) | (simp [mkF, Mk.mark] at *; done) | (simp_all [mkF, Mk.mark]; done) | omega)
  try simp only [cnd] at c5
  refine go [.J,.R,.m,.N,.b,.a,.Z,.R2,.m,.N,.m,.i,.f,.N,.l,.m,.b,.Z] (k := ?_)
  refine cd (fun c6 => ?_) fun c6 => ?_
  ·try simp only [cnd] at c6
   refine go [.R,.a,.Z] (k := ?_)
   refine rt1 4 ?_
   first | (simp only [retX, slotL, reduceIte, Nat.reduceEqDiff]; rw [cnt_list, show cumN Mk.cnt En.dflt a i.k = cumN Mk.cnt En.dflt a a.length by rw [show i.k = a.length by omega]]; done) | (exfalso; first | (exact mkB_ne c6; done) | (exact absurd rfl c6; done) | (simp [mkF, Mk.mark] at *; done) | (simp_all [mkF, Mk.mark]; done) | omega)
  try simp only [cnd] at c6
  refine go [.J,.R,.m,.N,.b,.a,.Z,.R2,.m,.N,.m,.i,.f,.N,.l,.m,.b,.Z] (k := ?_)
  refine cd (fun c7 => ?_) fun c7 => ?_
  ·try simp only [cnd] at c7
   refine go [.R,.a,.Z] (k := ?_)
   refine rt1 4 ?_
   first | (simp only [retX, slotL, reduceIte, Nat.reduceEqDiff]; rw [cnt_list, show cumN Mk.cnt En.dflt a i.k = cumN Mk.cnt En.dflt a a.length by rw [show i.k = a.length by omega]]; done) | (exfalso; first | (exact mkB_ne c7; done) | (exact absurd rfl c7; done) | (simp [mkF, Mk.mark] at *; done) | (simp_all [mkF, Mk.mark]; done) | omega)
  try simp only [cnd] at c7
  refine go [.J,.R,.m,.N,.b,.a,.Z,.R2,.m,.N,.m,.i,.f,.N,.l,.m,.b,.Z] (k := ?_)
  refine cd (fun c8 => ?_) fun c8 => ?_
  ·try simp only [cnd] at c8
   refine go [.R,.a,.Z] (k := ?_)
   refine rt1 4 ?_
   first | (simp only [retX, slotL, reduceIte, Nat.reduceEqDiff]; rw [cnt_list, show cumN Mk.cnt En.dflt a i.k = cumN Mk.cnt En.dflt a a.length by rw [show i.k = a.length by omega]]; done) | (exfalso; first | (exact mkB_ne c8; done) | (exact absurd rfl c8; done) | (simp [mkF, Mk.mark] at *; done) | (simp_all [mkF, Mk.mark]; done) | omega)
  try simp only [cnd] at c8
  refine go [.J,.R,.m,.N,.b,.a,.Z,.R2,.m,.N,.m,.i,.f,.N,.l,.m,.b,.Z] (k := ?_)
  refine cd (fun c9 => ?_) fun c9 => ?_
  ·try simp only [cnd] at c9
   refine go [.R,.a,.Z] (k := ?_)
   refine rt1 4 ?_
   first | (simp only [retX, slotL, reduceIte, Nat.reduceEqDiff]; rw [cnt_list, show cumN Mk.cnt En.dflt a i.k = cumN Mk.cnt En.dflt a a.length by rw [show i.k = a.length by omega]]; done) | (exfalso; first | (exact mkB_ne c9; done) | (exact absurd rfl c9; done) | (simp [mkF, Mk.mark] at *; done) | (simp_all [mkF, Mk.mark]; done) | omega)
  try simp only [cnd] at c9
  refine go [.J,.R,.m,.N,.b,.a,.Z,.R,.m,.N,.m,.i,.f,.N,.l,.m] (k := ?_)
  refine cv Tryz.call76 rfl rfl (heldIntS_con _ _ (by omega) (by omega)) ?_
  refine go [.N,.a,.Z,.R2,.m,.b,.Z] (k := ?_)
  refine cd (fun c10 => ?_) fun c10 => ?_
  ·try simp only [cnd] at c10
   refine go [.R,.a,.Z] (k := ?_)
   refine rt1 4 ?_
   first | (simp only [retX, slotL, reduceIte, Nat.reduceEqDiff]; rw [cnt_list, show cumN Mk.cnt En.dflt a i.k = cumN Mk.cnt En.dflt a a.length by rw [show i.k = a.length by omega]]; done) | (exfalso; first | (exact mkB_ne c10; done) | (exact absurd rfl c10; done) | (simp [mkF, Mk.mark] at *; done) | (simp_all [mkF, Mk.mark]; done) | omega)
  try simp only [cnd] at c10
  refine go [.J,.R,.m,.N,.m,.i,.f,.N,.l,.m] (k := ?_)
  refine cv Tryz.call76 rfl rfl (heldIntS_con _ _ (by omega) (by omega)) ?_
  refine go [.N,.a,.Z,.R2,.m,.b,.Z] (k := ?_)
  refine cd (fun c11 => ?_) fun c11 => ?_
  ·try simp only [cnd] at c11
   refine go [.R,.a,.Z] (k := ?_)
   refine rt1 4 ?_
   first | (simp only [retX, slotL, reduceIte, Nat.reduceEqDiff]; rw [cnt_list, show cumN Mk.cnt En.dflt a i.k = cumN Mk.cnt En.dflt a a.length by rw [show i.k = a.length by omega]]; done) | (exfalso; first | (exact mkB_ne c11; done) | (exact absurd rfl c11; done) | (simp [mkF, Mk.mark] at *; done) | (simp_all [mkF, Mk.mark]; done) | omega)
  try simp only [cnd] at c11
  refine go [.J,.R,.m,.N,.m,.i,.f,.N,.l,.m] (k := ?_)
  refine cv Tryz.call76 rfl rfl (heldIntS_con _ _ (by omega) (by omega)) ?_
  refine go [.N,.a,.Z,.R,.m,.b,.Z] (k := ?_)
  refine cd (fun c12 => ?_) fun c12 => ?_
  ·try simp only [cnd] at c12
   refine go [.R,.a,.Z] (k := ?_)
   refine rt1 4 ?_
   first | (simp only [retX, slotL, reduceIte, Nat.reduceEqDiff]; rw [cnt_list, show cumN Mk.cnt En.dflt a i.k = cumN Mk.cnt En.dflt a a.length by rw [show i.k = a.length by omega]]; done) | (exfalso; first | (exact mkB_ne c12; done) | (exact absurd rfl c12; done) | (simp [mkF, Mk.mark] at *; done) | (simp_all [mkF, Mk.mark]; done) | omega)
  try simp only [cnd] at c12
  refine go [.J,.R1,.m,.N,.b,.a,.Z] (k := ?_)
  refine ⟨⟨i.k + 1, by omega⟩, Weak.sim ⟨st1, (by simp only [slotL, reduceIte, Nat.reduceEqDiff]; congr 2; simp only [cumN, cnt_ASlot]; omega), rfl, Rf rfl, trivial⟩ rfl rfl, ?_⟩
  show a.length - (i.k + 1) < a.length - i.k
  omega
 try simp only [cnd] at c1
 refine AW.exit ?_
 dsimp only [thenQ, blockQ, reduceIte]
 refine go [.R,.m,.N,.a,.Z] (k := ?_)
 refine rt1 4 ?_
 first | (simp only [retX, slotL, reduceIte, Nat.reduceEqDiff]; rw [cnt_list, show cumN Mk.cnt En.dflt a i.k = cumN Mk.cnt En.dflt a a.length by rw [show i.k = a.length by omega]]; done) | (exfalso; first | (exact mkB_ne c1; done) | (exact absurd rfl c1; done) | (simp [mkF, Mk.mark] at *; done) | (simp_all [mkF, Mk.mark]; done) | omega)
theorem heldBoolS_con (a : List Bool) (k : Int) (hk : 0 ≤ k) (hk2 : k + (Mk.cnt a : Nat) ≤ 4611686018427387904) : Con Tryz.prog 77 [.h base [], .v (iv k)] [.rt base .ro (tr (mkL a (k)))] (fun y _ => y = .v (iv (k + (Mk.cnt a : Nat)))) := by
 refine ob Tryz.func77 Tryz.ntmps77 ?_
 refine AW.weak (L' := [.sl 0 (.h base []), .sl 1 (.v (iv k)), .rt base .ro (trG a.length (mkF a k))]) (Weak.sim ⟨rfl, rfl, ⟨_, rfl, mkL_trG a k⟩, trivial⟩ rfl rfl) ?_
 refine AW.len base [] rfl (by simp [Okp]) rfl (fun hl => ?_)
 refine go [.R,.a,.Z,.R2,.a,.Z] (k := ?_)
 refine AW.block ?_
 refine AW.weak (L' := [.sl 5 (.v (iv (0 : Nat))), .sl 1 (.v (iv (k + (cumN Mk.cnt En.dflt a 0 : Nat)))), .sl 0 (.h base []), .rt base .ro (trG a.length (mkF a k))]) (Weak.sim ⟨rfl, (by simp only [slotL, reduceIte, Nat.reduceEqDiff]; show X.v (iv k) = _; simp [cumN]), rfl, Rf rfl, trivial⟩ rfl rfl) ?_
 refine AW.loop (fun i : KInv a.length => [.sl 5 (.v (iv i.k)), .sl 1 (.v (iv (k + (cumN Mk.cnt En.dflt a i.k : Nat)))), .sl 0 (.h base []), .rt base .ro (trG a.length (mkF a k))]) (fun i => a.length - i.k) ⟨0, Nat.zero_le _⟩ ?_
 intro i
 have hle := i.le
 refine go [.R2,.m,.N,.m,.h,.b,.Z] (k := ?_)
 refine cd (fun c1 => ?_) fun c1 => ?_
 ·try simp only [cnd] at c1
  have hc1 := cumN_mono (c := Mk.cnt) (d := En.dflt) (l := a) (show i.k + 1 ≤ a.length by omega)
  simp only [cumN, cnt_bool] at hc1
  simp only [cnt_list] at hk2
  refine jd (AW.seq (AW.block (sr2 ?_)))
  refine go [.m,.N,.m,.i,.l,.N,.m,.b,.b,.N] (k := ?_)
  refine qq (Qt.neB rfl rfl Tryz.underlying4) ?_
  refine go [.Z] (k := ?_)
  refine cd (fun c2 => ?_) fun c2 => ?_
  ·try simp only [cnd] at c2
   refine go [.R,.a,.Z] (k := ?_)
   refine rt1 4 ?_
   first | (simp only [retX, slotL, reduceIte, Nat.reduceEqDiff]; rw [cnt_list, show cumN Mk.cnt En.dflt a i.k = cumN Mk.cnt En.dflt a a.length by rw [show i.k = a.length by omega]]; done) | (exfalso; first | (exact mkB_ne c2; done) | (exact absurd rfl c2; done) | (simp [mkF, Mk.mark] at *; done) | (simp_all [mkF, Mk.mark]; done) | omega)
  try simp only [cnd] at c2
  refine go [.J,.R1,.m,.N,.b,.a,.Z,.R1,.m,.N,.b,.a,.Z] (k := ?_)
  refine ⟨⟨i.k + 1, by omega⟩, Weak.sim ⟨st1, (by simp only [slotL, reduceIte, Nat.reduceEqDiff]; congr 2; simp only [cumN, cnt_bool]; omega), rfl, Rf rfl, trivial⟩ rfl rfl, ?_⟩
  show a.length - (i.k + 1) < a.length - i.k
  omega
 try simp only [cnd] at c1
 refine AW.exit ?_
 dsimp only [thenQ, blockQ, reduceIte]
 refine go [.R,.m,.N,.a,.Z] (k := ?_)
 refine rt1 4 ?_
 first | (simp only [retX, slotL, reduceIte, Nat.reduceEqDiff]; rw [cnt_list, show cumN Mk.cnt En.dflt a i.k = cumN Mk.cnt En.dflt a a.length by rw [show i.k = a.length by omega]]; done) | (exfalso; first | (exact mkB_ne c1; done) | (exact absurd rfl c1; done) | (simp [mkF, Mk.mark] at *; done) | (simp_all [mkF, Mk.mark]; done) | omega)
theorem heldAOpenS_con (a : List DAOpen) (k : Int) (hk : 0 ≤ k) (hk2 : k + (Mk.cnt a : Nat) ≤ 4611686018427387904) : Con Tryz.prog 78 [.h base [], .v (iv k)] [.rt base .ro (tr (mkL a (k)))] (fun y _ => y = .v (iv (k + (Mk.cnt a : Nat)))) := by
 refine ob Tryz.func78 Tryz.ntmps78 ?_
 refine AW.weak (L' := [.sl 0 (.h base []), .sl 1 (.v (iv k)), .rt base .ro (trG a.length (mkF a k))]) (Weak.sim ⟨rfl, rfl, ⟨_, rfl, mkL_trG a k⟩, trivial⟩ rfl rfl) ?_
 refine AW.len base [] rfl (by simp [Okp]) rfl (fun hl => ?_)
 refine go [.R,.a,.Z,.R2,.a,.Z] (k := ?_)
 refine AW.block ?_
 refine AW.weak (L' := [.sl 5 (.v (iv (0 : Nat))), .sl 1 (.v (iv (k + (cumN Mk.cnt En.dflt a 0 : Nat)))), .sl 0 (.h base []), .rt base .ro (trG a.length (mkF a k))]) (Weak.sim ⟨rfl, (by simp only [slotL, reduceIte, Nat.reduceEqDiff]; show X.v (iv k) = _; simp [cumN]), rfl, Rf rfl, trivial⟩ rfl rfl) ?_
 refine AW.loop (fun i : KInv a.length => [.sl 5 (.v (iv i.k)), .sl 1 (.v (iv (k + (cumN Mk.cnt En.dflt a i.k : Nat)))), .sl 0 (.h base []), .rt base .ro (trG a.length (mkF a k))]) (fun i => a.length - i.k) ⟨0, Nat.zero_le _⟩ ?_
 intro i
 have hle := i.le
 refine go [.R2,.m,.N,.m,.h,.b,.Z] (k := ?_)
 refine cd (fun c1 => ?_) fun c1 => ?_
 ·try simp only [cnd] at c1
  have hc1 := cumN_mono (c := Mk.cnt) (d := En.dflt) (l := a) (show i.k + 1 ≤ a.length by omega)
  simp only [cumN, cnt_AOpen] at hc1
  simp only [cnt_list] at hk2
  refine jd (AW.seq (AW.block (sr2 ?_)))
  refine go [.m,.N,.m,.i,.f,.N,.l,.m,.b,.N,.b] (k := ?_)
  refine qq (Qt.neB rfl rfl Tryz.underlying4) ?_
  refine go [.Z] (k := ?_)
  refine cd (fun c2 => ?_) fun c2 => ?_
  ·try simp only [cnd] at c2
   refine go [.R,.a,.Z] (k := ?_)
   refine rt1 4 ?_
   first | (simp only [retX, slotL, reduceIte, Nat.reduceEqDiff]; rw [cnt_list, show cumN Mk.cnt En.dflt a i.k = cumN Mk.cnt En.dflt a a.length by rw [show i.k = a.length by omega]]; done) | (exfalso; first | (exact mkB_ne c2; done) | (exact absurd rfl c2; done) | (simp [mkF, Mk.mark] at *; done) | (simp_all [mkF, Mk.mark]; done) | omega)
  try simp only [cnd] at c2
  refine go [.J,.R,.m,.N,.b,.a,.Z,.R2,.m,.N,.m,.i,.f,.N,.l,.m,.b,.Z] (k := ?_)
  refine cd (fun c3 => ?_) fun c3 => ?_
  ·try simp only [cnd] at c3
   refine go [.R,.a,.Z] (k := ?_)
   refine rt1 4 ?_
   first | (simp only [retX, slotL, reduceIte, Nat.reduceEqDiff]; rw [cnt_list, show cumN Mk.cnt En.dflt a i.k = cumN Mk.cnt En.dflt a a.length by rw [show i.k = a.length by omega]]; done) | (exfalso; first | (exact mkB_ne c3; done) | (exact absurd rfl c3; done) | (simp [mkF, Mk.mark] at *; done) | (simp_all [mkF, Mk.mark]; done) | omega)
  try simp only [cnd] at c3
  refine go [.J,.R,.m,.N,.b,.a,.Z,.R2,.m,.N,.m,.i,.f,.N,.l,.m,.b,.Z] (k := ?_)
  refine cd (fun c4 => ?_) fun c4 => ?_
  ·try simp only [cnd] at c4
   refine go [.R,.a,.Z] (k := ?_)
   refine rt1 4 ?_
   first | (simp only [retX, slotL, reduceIte, Nat.reduceEqDiff]; rw [cnt_list, show cumN Mk.cnt En.dflt a i.k = cumN Mk.cnt En.dflt a a.length by rw [show i.k = a.length by omega]]; done) | (exfalso; first | (exact mkB_ne c4; done) | (exact absurd rfl c4; done) | (simp [mkF, Mk.mark] at *; done) | (simp_all [mkF, Mk.mark]; done) | omega)
  try simp only [cnd] at c4
  refine go [.J,.R,.m,.N,.b,.a,.Z,.R2,.m,.N,.m,.i,.f,.N,.l,.m,.b,.Z] (k := ?_)
  refine cd (fun c5 => ?_) fun c5 => ?_
  ·try simp only [cnd] at c5
   refine go [.R,.a,.Z] (k := ?_)
   refine rt1 4 ?_
   first | (simp only [retX, slotL, reduceIte, Nat.reduceEqDiff]; rw [cnt_list, show cumN Mk.cnt En.dflt a i.k = cumN Mk.cnt En.dflt a a.length by rw [show i.k = a.length by omega]]; done) | (exfalso; first | (exact mkB_ne c5; done) | (exact absurd rfl c5; done) | (simp [mkF, Mk.mark] at *; done) | (simp_all [mkF, Mk.mark]; done) | omega)
  try simp only [cnd] at c5
  refine go [.J,.R,.m,.N,.b,.a,.Z,.R2,.m,.N,.m,.i,.f,.N,.l,.m,.b,.Z] (k := ?_)
  refine cd (fun c6 => ?_) fun c6 => ?_
  ·try simp only [cnd] at c6
   refine go [.R,.a,.Z] (k := ?_)
   refine rt1 4 ?_
   first | (simp only [retX, slotL, reduceIte, Nat.reduceEqDiff]; rw [cnt_list, show cumN Mk.cnt En.dflt a i.k = cumN Mk.cnt En.dflt a a.length by rw [show i.k = a.length by omega]]; done) | (exfalso; first | (exact mkB_ne c6; done) | (exact absurd rfl c6; done) | (simp [mkF, Mk.mark] at *; done) | (simp_all [mkF, Mk.mark]; done) | omega)
  try simp only [cnd] at c6
  refine go [.J,.R1,.m,.N,.b,.a,.Z,.R1,.m,.N,.b,.a,.Z] (k := ?_)
  refine ⟨⟨i.k + 1, by omega⟩, Weak.sim ⟨st1, (by simp only [slotL, reduceIte, Nat.reduceEqDiff]; congr 2; simp only [cumN, cnt_AOpen]; omega), rfl, Rf rfl, trivial⟩ rfl rfl, ?_⟩
  show a.length - (i.k + 1) < a.length - i.k
  omega
 try simp only [cnd] at c1
 refine AW.exit ?_
 dsimp only [thenQ, blockQ, reduceIte]
 refine go [.R,.m,.N,.a,.Z] (k := ?_)
 refine rt1 4 ?_
 first | (simp only [retX, slotL, reduceIte, Nat.reduceEqDiff]; rw [cnt_list, show cumN Mk.cnt En.dflt a i.k = cumN Mk.cnt En.dflt a a.length by rw [show i.k = a.length by omega]]; done) | (exfalso; first | (exact mkB_ne c1; done) | (exact absurd rfl c1; done) | (simp [mkF, Mk.mark] at *; done) | (simp_all [mkF, Mk.mark]; done) | omega)
theorem heldARingS_con (a : List DARing) (k : Int) (hk : 0 ≤ k) (hk2 : k + (Mk.cnt a : Nat) ≤ 4611686018427387904) : Con Tryz.prog 79 [.h base [], .v (iv k)] [.rt base .ro (tr (mkL a (k)))] (fun y _ => y = .v (iv (k + (Mk.cnt a : Nat)))) := by
 refine ob Tryz.func79 Tryz.ntmps79 ?_
 refine AW.weak (L' := [.sl 0 (.h base []), .sl 1 (.v (iv k)), .rt base .ro (trG a.length (mkF a k))]) (Weak.sim ⟨rfl, rfl, ⟨_, rfl, mkL_trG a k⟩, trivial⟩ rfl rfl) ?_
 refine AW.len base [] rfl (by simp [Okp]) rfl (fun hl => ?_)
 refine go [.R,.a,.Z,.R2,.a,.Z] (k := ?_)
 refine AW.block ?_
 refine AW.weak (L' := [.sl 5 (.v (iv (0 : Nat))), .sl 1 (.v (iv (k + (cumN Mk.cnt En.dflt a 0 : Nat)))), .sl 0 (.h base []), .rt base .ro (trG a.length (mkF a k))]) (Weak.sim ⟨rfl, (by simp only [slotL, reduceIte, Nat.reduceEqDiff]; show X.v (iv k) = _; simp [cumN]), rfl, Rf rfl, trivial⟩ rfl rfl) ?_
 refine AW.loop (fun i : KInv a.length => [.sl 5 (.v (iv i.k)), .sl 1 (.v (iv (k + (cumN Mk.cnt En.dflt a i.k : Nat)))), .sl 0 (.h base []), .rt base .ro (trG a.length (mkF a k))]) (fun i => a.length - i.k) ⟨0, Nat.zero_le _⟩ ?_
 intro i
 have hle := i.le
 refine go [.R2,.m,.N,.m,.h,.b,.Z] (k := ?_)
 refine cd (fun c1 => ?_) fun c1 => ?_
 ·try simp only [cnd] at c1
  have hc1 := cumN_mono (c := Mk.cnt) (d := En.dflt) (l := a) (show i.k + 1 ≤ a.length by omega)
  simp only [cumN, cnt_ARing] at hc1
  simp only [cnt_list] at hk2
  refine jd (AW.seq (AW.block (sr2 ?_)))
  refine go [.m,.N,.m,.i,.f,.N,.l,.m,.b,.N,.b] (k := ?_)
  refine qq (Qt.neB rfl rfl Tryz.underlying4) ?_
  refine go [.Z] (k := ?_)
  refine cd (fun c2 => ?_) fun c2 => ?_
  ·try simp only [cnd] at c2
   refine go [.R,.a,.Z] (k := ?_)
   refine rt1 4 ?_
   first | (simp only [retX, slotL, reduceIte, Nat.reduceEqDiff]; rw [cnt_list, show cumN Mk.cnt En.dflt a i.k = cumN Mk.cnt En.dflt a a.length by rw [show i.k = a.length by omega]]; done) | (exfalso; first | (exact mkB_ne c2; done) | (exact absurd rfl c2; done) | (simp [mkF, Mk.mark] at *; done) | (simp_all [mkF, Mk.mark]; done) | omega)
  try simp only [cnd] at c2
  refine go [.J,.R,.m,.N,.b,.a,.Z,.R,.m,.N,.m,.i,.f,.N,.l,.m] (k := ?_)
  refine cv Tryz.call76 rfl rfl (heldIntS_con _ _ (by omega) (by omega)) ?_
  refine go [.N,.a,.Z,.R2,.m,.b,.Z] (k := ?_)
  refine cd (fun c3 => ?_) fun c3 => ?_
  ·try simp only [cnd] at c3
   refine go [.R,.a,.Z] (k := ?_)
   refine rt1 4 ?_
   first | (simp only [retX, slotL, reduceIte, Nat.reduceEqDiff]; rw [cnt_list, show cumN Mk.cnt En.dflt a i.k = cumN Mk.cnt En.dflt a a.length by rw [show i.k = a.length by omega]]; done) | (exfalso; first | (exact mkB_ne c3; done) | (exact absurd rfl c3; done) | (simp [mkF, Mk.mark] at *; done) | (simp_all [mkF, Mk.mark]; done) | omega)
  try simp only [cnd] at c3
  refine jd (sr2 ?_)
  refine go [.m,.N,.m,.i,.f,.N,.l,.m,.b,.Z] (k := ?_)
  refine cd (fun c4 => ?_) fun c4 => ?_
  ·try simp only [cnd] at c4
   refine go [.R,.a,.Z] (k := ?_)
   refine rt1 4 ?_
   first | (simp only [retX, slotL, reduceIte, Nat.reduceEqDiff]; rw [cnt_list, show cumN Mk.cnt En.dflt a i.k = cumN Mk.cnt En.dflt a a.length by rw [show i.k = a.length by omega]]; done) | (exfalso; first | (exact mkB_ne c4; done) | (exact absurd rfl c4; done) | (simp [mkF, Mk.mark] at *; done) | (simp_all [mkF, Mk.mark]; done) | omega)
  try simp only [cnd] at c4
  refine go [.J,.R,.m,.N,.b,.a,.Z,.R2,.m,.N,.m,.i,.f,.N,.l,.m,.b,.Z] (k := ?_)
  refine cd (fun c5 => ?_) fun c5 => ?_
  ·try simp only [cnd] at c5
   refine go [.R,.a,.Z] (k := ?_)
   refine rt1 4 ?_
   first | (simp only [retX, slotL, reduceIte, Nat.reduceEqDiff]; rw [cnt_list, show cumN Mk.cnt En.dflt a i.k = cumN Mk.cnt En.dflt a a.length by rw [show i.k = a.length by omega]]; done) | (exfalso; first | (exact mkB_ne c5; done) | (exact absurd rfl c5; done) | (simp [mkF, Mk.mark] at *; done) | (simp_all [mkF, Mk.mark]; done) | omega)
  try simp only [cnd] at c5
  refine go [.J,.R1,.m,.N,.b,.a,.Z,.R1,.m,.N,.b,.a,.Z] (k := ?_)
  refine ⟨⟨i.k + 1, by omega⟩, Weak.sim ⟨st1, (by simp only [slotL, reduceIte, Nat.reduceEqDiff]; congr 2; simp only [cumN, cnt_ARing]; omega), rfl, Rf rfl, trivial⟩ rfl rfl, ?_⟩
  show a.length - (i.k + 1) < a.length - i.k
  omega
 try simp only [cnd] at c1
 refine AW.exit ?_
 dsimp only [thenQ, blockQ, reduceIte]
 refine go [.R,.m,.N,.a,.Z] (k := ?_)
 refine rt1 4 ?_
 first | (simp only [retX, slotL, reduceIte, Nat.reduceEqDiff]; rw [cnt_list, show cumN Mk.cnt En.dflt a i.k = cumN Mk.cnt En.dflt a a.length by rw [show i.k = a.length by omega]]; done) | (exfalso; first | (exact mkB_ne c1; done) | (exact absurd rfl c1; done) | (simp [mkF, Mk.mark] at *; done) | (simp_all [mkF, Mk.mark]; done) | omega)
theorem heldAFileS_con (a : List DAFile) (k : Int) (hk : 0 ≤ k) (hk2 : k + (Mk.cnt a : Nat) ≤ 4611686018427387904) : Con Tryz.prog 80 [.h base [], .v (iv k)] [.rt base .ro (tr (mkL a (k)))] (fun y _ => y = .v (iv (k + (Mk.cnt a : Nat)))) := by
 refine ob Tryz.func80 Tryz.ntmps80 ?_
 refine AW.weak (L' := [.sl 0 (.h base []), .sl 1 (.v (iv k)), .rt base .ro (trG a.length (mkF a k))]) (Weak.sim ⟨rfl, rfl, ⟨_, rfl, mkL_trG a k⟩, trivial⟩ rfl rfl) ?_
 refine AW.len base [] rfl (by simp [Okp]) rfl (fun hl => ?_)
 refine go [.R,.a,.Z,.R2,.a,.Z] (k := ?_)
 refine AW.block ?_
 refine AW.weak (L' := [.sl 5 (.v (iv (0 : Nat))), .sl 1 (.v (iv (k + (cumN Mk.cnt En.dflt a 0 : Nat)))), .sl 0 (.h base []), .rt base .ro (trG a.length (mkF a k))]) (Weak.sim ⟨rfl, (by simp only [slotL, reduceIte, Nat.reduceEqDiff]; show X.v (iv k) = _; simp [cumN]), rfl, Rf rfl, trivial⟩ rfl rfl) ?_
 refine AW.loop (fun i : KInv a.length => [.sl 5 (.v (iv i.k)), .sl 1 (.v (iv (k + (cumN Mk.cnt En.dflt a i.k : Nat)))), .sl 0 (.h base []), .rt base .ro (trG a.length (mkF a k))]) (fun i => a.length - i.k) ⟨0, Nat.zero_le _⟩ ?_
 intro i
 have hle := i.le
 refine go [.R2,.m,.N,.m,.h,.b,.Z] (k := ?_)
 refine cd (fun c1 => ?_) fun c1 => ?_
 ·try simp only [cnd] at c1
  have hc1 := cumN_mono (c := Mk.cnt) (d := En.dflt) (l := a) (show i.k + 1 ≤ a.length by omega)
  simp only [cumN, cnt_AFile] at hc1
  simp only [cnt_list] at hk2
  refine jd (AW.seq (AW.block (sr2 ?_)))
  refine go [.m,.N,.m,.i,.f,.N,.l,.m,.b,.N,.b] (k := ?_)
  refine qq (Qt.neB rfl rfl Tryz.underlying4) ?_
  refine go [.Z] (k := ?_)
  refine cd (fun c2 => ?_) fun c2 => ?_
  ·try simp only [cnd] at c2
   refine go [.R,.a,.Z] (k := ?_)
   refine rt1 4 ?_
   first | (simp only [retX, slotL, reduceIte, Nat.reduceEqDiff]; rw [cnt_list, show cumN Mk.cnt En.dflt a i.k = cumN Mk.cnt En.dflt a a.length by rw [show i.k = a.length by omega]]; done) | (exfalso; first | (exact mkB_ne c2; done) | (exact absurd rfl c2; done) | (simp [mkF, Mk.mark] at *; done) | (simp_all [mkF, Mk.mark]; done) | omega)
  try simp only [cnd] at c2
  refine go [.J,.R,.m,.N,.b,.a,.Z,.R,.m,.N,.m,.i,.f,.N,.l,.m] (k := ?_)
  refine cv Tryz.call76 rfl rfl (heldIntS_con _ _ (by omega) (by omega)) ?_
  refine go [.N,.a,.Z,.R,.m,.b,.Z] (k := ?_)
  refine cd (fun c3 => ?_) fun c3 => ?_
  ·try simp only [cnd] at c3
   refine go [.R,.a,.Z] (k := ?_)
   refine rt1 4 ?_
   first | (simp only [retX, slotL, reduceIte, Nat.reduceEqDiff]; rw [cnt_list, show cumN Mk.cnt En.dflt a i.k = cumN Mk.cnt En.dflt a a.length by rw [show i.k = a.length by omega]]; done) | (exfalso; first | (exact mkB_ne c3; done) | (exact absurd rfl c3; done) | (simp [mkF, Mk.mark] at *; done) | (simp_all [mkF, Mk.mark]; done) | omega)
  try simp only [cnd] at c3
  refine go [.J,.R1,.m,.N,.b,.a,.Z] (k := ?_)
  refine ⟨⟨i.k + 1, by omega⟩, Weak.sim ⟨st1, (by simp only [slotL, reduceIte, Nat.reduceEqDiff]; congr 2; simp only [cumN, cnt_AFile]; omega), rfl, Rf rfl, trivial⟩ rfl rfl, ?_⟩
  show a.length - (i.k + 1) < a.length - i.k
  omega
 try simp only [cnd] at c1
 refine AW.exit ?_
 dsimp only [thenQ, blockQ, reduceIte]
 refine go [.R,.m,.N,.a,.Z] (k := ?_)
 refine rt1 4 ?_
 first | (simp only [retX, slotL, reduceIte, Nat.reduceEqDiff]; rw [cnt_list, show cumN Mk.cnt En.dflt a i.k = cumN Mk.cnt En.dflt a a.length by rw [show i.k = a.length by omega]]; done) | (exfalso; first | (exact mkB_ne c1; done) | (exact absurd rfl c1; done) | (simp [mkF, Mk.mark] at *; done) | (simp_all [mkF, Mk.mark]; done) | omega)
theorem heldARing_con (a : DARing) (k : Int) (hk : 0 ≤ k) (hk2 : k + (Mk.cnt a.Buf : Nat) ≤ 4611686018427387904) : Con Tryz.prog 81 [.g [.v (.bool a.Used), .h base [], .v (iv a.Head), .v (iv a.Len)], .v (iv k)] [.rt base .ro (tr (mkL a.Buf (k)))] (fun y _ => y = .v (iv (k + (Mk.cnt a.Buf : Nat)))) := by
 refine ob Tryz.func81 Tryz.ntmps81 ?_
 refine go [.R,.B,.N,.a,.Z,.R,.f,.l,.N,.m] (k := ?_)
 refine cv Tryz.call76 rfl rfl (heldIntS_con _ _ (by omega) (by omega)) ?_
 refine go [.N,.a,.Z,.R2,.m,.b,.Z] (k := ?_)
 refine cd (fun c1 => ?_) fun c1 => ?_
 ·try simp only [cnd] at c1
  refine go [.R,.a,.Z] (k := ?_)
  refine rt1 4 ?_
  first | rfl | (exfalso; simp_all; done) | (exfalso; omega)
 try simp only [cnd] at c1
 refine go [.J,.R,.m,.N,.a,.Z] (k := ?_)
 refine rt1 4 ?_
 first | rfl | (exfalso; simp_all; done) | (exfalso; omega)
theorem heldArrays_con (a : DArrays) (k : Int) (hk : 0 ≤ k) (hk2 : k + (Mk.cnt a.Progs : Nat) + (Mk.cnt a.Slots : Nat) + (Mk.cnt a.Ram : Nat) + (Mk.cnt a.Map : Nat) + (Mk.cnt a.Opens : Nat) + (Mk.cnt a.Pipes : Nat) + (Mk.cnt a.Files : Nat) + (Mk.cnt a.Ready.Buf : Nat) + (Mk.cnt a.Out : Nat) ≤ 4611686018427387904) : Con Tryz.prog 15 [.g [.v (iv a.Next), .v (iv a.Tick), .h base [], .h (base + 1) [], .h (base + 2) [], .h (base + 3) [], .h (base + 4) [], .h (base + 5) [], .h (base + 6) [], .v (.bool a.Ready.Used), .h (base + 7) [], .v (iv a.Ready.Head), .v (iv a.Ready.Len), .h (base + 8) []], .v (iv k)] [.rt base .ro (tr (mkL a.Progs (k))), .rt (base + 1) .ro (tr (mkL a.Slots (k + (Mk.cnt a.Progs : Nat)))), .rt (base + 2) .ro (tr (mkL a.Ram (k + (Mk.cnt a.Progs : Nat) + (Mk.cnt a.Slots : Nat)))), .rt (base + 3) .ro (tr (mkL a.Map (k + (Mk.cnt a.Progs : Nat) + (Mk.cnt a.Slots : Nat) + (Mk.cnt a.Ram : Nat)))), .rt (base + 4) .ro (tr (mkL a.Opens (k + (Mk.cnt a.Progs : Nat) + (Mk.cnt a.Slots : Nat) + (Mk.cnt a.Ram : Nat) + (Mk.cnt a.Map : Nat)))), .rt (base + 5) .ro (tr (mkL a.Pipes (k + (Mk.cnt a.Progs : Nat) + (Mk.cnt a.Slots : Nat) + (Mk.cnt a.Ram : Nat) + (Mk.cnt a.Map : Nat) + (Mk.cnt a.Opens : Nat)))), .rt (base + 6) .ro (tr (mkL a.Files (k + (Mk.cnt a.Progs : Nat) + (Mk.cnt a.Slots : Nat) + (Mk.cnt a.Ram : Nat) + (Mk.cnt a.Map : Nat) + (Mk.cnt a.Opens : Nat) + (Mk.cnt a.Pipes : Nat)))), .rt (base + 7) .ro (tr (mkL a.Ready.Buf (k + (Mk.cnt a.Progs : Nat) + (Mk.cnt a.Slots : Nat) + (Mk.cnt a.Ram : Nat) + (Mk.cnt a.Map : Nat) + (Mk.cnt a.Opens : Nat) + (Mk.cnt a.Pipes : Nat) + (Mk.cnt a.Files : Nat)))), .rt (base + 8) .ro (tr (mkL a.Out (k + (Mk.cnt a.Progs : Nat) + (Mk.cnt a.Slots : Nat) + (Mk.cnt a.Ram : Nat) + (Mk.cnt a.Map : Nat) + (Mk.cnt a.Opens : Nat) + (Mk.cnt a.Pipes : Nat) + (Mk.cnt a.Files : Nat) + (Mk.cnt a.Ready.Buf : Nat))))] (fun y _ => y = .v (iv (k + (Mk.cnt a.Progs : Nat) + (Mk.cnt a.Slots : Nat) + (Mk.cnt a.Ram : Nat) + (Mk.cnt a.Map : Nat) + (Mk.cnt a.Opens : Nat) + (Mk.cnt a.Pipes : Nat) + (Mk.cnt a.Files : Nat) + (Mk.cnt a.Ready.Buf : Nat) + (Mk.cnt a.Out : Nat)))) := by
 refine ob Tryz.func15 Tryz.ntmps15 ?_
 refine go [.R,.B,.N,.a,.Z,.R,.f,.l,.N,.m] (k := ?_)
 refine cv Tryz.call74 rfl rfl (heldInsSS_con _ _ (by omega) (by omega)) ?_
 refine go [.N,.a,.Z,.R2,.m,.b,.Z] (k := ?_)
 refine cd (fun c1 => ?_) fun c1 => ?_
 ·try simp only [cnd] at c1
  refine go [.R,.a,.Z] (k := ?_)
  refine rt1 4 ?_
  first | rfl | (exfalso; simp_all; done) | (exfalso; omega)
 try simp only [cnd] at c1
 refine go [.J,.R,.f,.N,.l,.m] (k := ?_)
 refine cv Tryz.call75 rfl rfl (heldASlotS_con _ _ (by omega) (by omega)) ?_
 refine go [.N,.a,.Z,.R2,.m,.b,.Z] (k := ?_)
 refine cd (fun c2 => ?_) fun c2 => ?_
 ·try simp only [cnd] at c2
  refine go [.R,.a,.Z] (k := ?_)
  refine rt1 4 ?_
  first | rfl | (exfalso; simp_all; done) | (exfalso; omega)
 try simp only [cnd] at c2
 refine go [.J,.R,.f,.N,.l,.m] (k := ?_)
 refine cv Tryz.call76 rfl rfl (heldIntS_con _ _ (by omega) (by omega)) ?_
 refine go [.N,.a,.Z,.R2,.m,.b,.Z] (k := ?_)
 refine cd (fun c3 => ?_) fun c3 => ?_
 ·try simp only [cnd] at c3
  refine go [.R,.a,.Z] (k := ?_)
  refine rt1 4 ?_
  first | rfl | (exfalso; simp_all; done) | (exfalso; omega)
 try simp only [cnd] at c3
 refine go [.J,.R,.f,.N,.l,.m] (k := ?_)
 refine cv Tryz.call77 rfl rfl (heldBoolS_con _ _ (by omega) (by omega)) ?_
 refine go [.N,.a,.Z,.R2,.m,.b,.Z] (k := ?_)
 refine cd (fun c4 => ?_) fun c4 => ?_
 ·try simp only [cnd] at c4
  refine go [.R,.a,.Z] (k := ?_)
  refine rt1 4 ?_
  first | rfl | (exfalso; simp_all; done) | (exfalso; omega)
 try simp only [cnd] at c4
 refine go [.J,.R,.f,.N,.l,.m] (k := ?_)
 refine cv Tryz.call78 rfl rfl (heldAOpenS_con _ _ (by omega) (by omega)) ?_
 refine go [.N,.a,.Z,.R2,.m,.b,.Z] (k := ?_)
 refine cd (fun c5 => ?_) fun c5 => ?_
 ·try simp only [cnd] at c5
  refine go [.R,.a,.Z] (k := ?_)
  refine rt1 4 ?_
  first | rfl | (exfalso; simp_all; done) | (exfalso; omega)
 try simp only [cnd] at c5
 refine go [.J,.R,.f,.N,.l,.m] (k := ?_)
 refine cv Tryz.call79 rfl rfl (heldARingS_con _ _ (by omega) (by omega)) ?_
 refine go [.N,.a,.Z,.R2,.m,.b,.Z] (k := ?_)
 refine cd (fun c6 => ?_) fun c6 => ?_
 ·try simp only [cnd] at c6
  refine go [.R,.a,.Z] (k := ?_)
  refine rt1 4 ?_
  first | rfl | (exfalso; simp_all; done) | (exfalso; omega)
 try simp only [cnd] at c6
 refine go [.J,.R,.f,.N,.l,.m] (k := ?_)
 refine cv Tryz.call80 rfl rfl (heldAFileS_con _ _ (by omega) (by omega)) ?_
 refine go [.N,.a,.Z,.R2,.m,.b,.Z] (k := ?_)
 refine cd (fun c7 => ?_) fun c7 => ?_
 ·try simp only [cnd] at c7
  refine go [.R,.a,.Z] (k := ?_)
  refine rt1 4 ?_
  first | rfl | (exfalso; simp_all; done) | (exfalso; omega)
 try simp only [cnd] at c7
 refine go [.J,.R,.f,.N,.G,.m] (k := ?_)
 refine cv Tryz.call81 rfl rfl (heldARing_con _ _ (by omega) (by omega)) ?_
 refine go [.N,.a,.Z,.R2,.m,.b,.Z] (k := ?_)
 refine cd (fun c8 => ?_) fun c8 => ?_
 ·try simp only [cnd] at c8
  refine go [.R,.a,.Z] (k := ?_)
  refine rt1 4 ?_
  first | rfl | (exfalso; simp_all; done) | (exfalso; omega)
 try simp only [cnd] at c8
 refine go [.J,.R,.f,.N,.l,.m] (k := ?_)
 refine cv Tryz.call76 rfl rfl (heldIntS_con _ _ (by omega) (by omega)) ?_
 refine go [.N,.a,.Z,.R2,.m,.b,.Z] (k := ?_)
 refine cd (fun c9 => ?_) fun c9 => ?_
 ·try simp only [cnd] at c9
  refine go [.R,.a,.Z] (k := ?_)
  refine rt1 4 ?_
  first | rfl | (exfalso; simp_all; done) | (exfalso; omega)
 try simp only [cnd] at c9
 refine go [.J,.R,.m,.N,.a,.Z] (k := ?_)
 refine rt1 4 ?_
 first | rfl | (exfalso; simp_all; done) | (exfalso; omega)
end Go.Proofs.YthjfgpkjooaahaaGreat.VM
