/- Trees of owned cells, states over them, and rules to walk by. No conditions. -/
import Derived.Test.YtlploojfcmcckaaDoorVmC
set_option linter.all false
set_option linter.all false
namespace Go.Proofs.YtlploojfcmcckaaDoor.VM
open Go Go.RowKit
/-! walking by itself: a row of letters names the rules -/
class AgI (P : Program) (t : TypeId) (b : outParam Bool) : Prop where
 ok : Ag P t b
class SzI (P : Program) (t : TypeId) (n : outParam Nat) : Prop where
 ok : Sz P t n
class FlI (P : Program) (t : TypeId) (i : Nat) (off : outParam Nat) : Prop where
 ok : Fld P t i off
class BoI (P : Program) (t : TypeId) : Prop where
 ok : P.underlying t = some .bool
class StI (P : Program) (t : TypeId) : Prop where
 ok : P.underlying t = some .string
/-- the letters -/
inductive K
 | m | a | f | l | p | i | b | h | G | e | u | n | q | k | c
 | A | B | S | s
 | N | Z | R | R2 | R1 | J | D (qs : List Nat) | t (i : Nat) | o (i : Nat) (pend' : List Nat) | O (i : Nat) (pend' D : List Nat) | g | x
structure GL (ks : List K) (P : Program) (N : Nat) (ops : Array Oper) (rest : List Oper) (Q : Exit → List E → Prop) (L : List E) where
 G : Prop
 f : G → AWL P N ops rest Q L
structure GW (ks : List K) (P : Program) (N : Nat) (c : Code) (Q : Exit → List E → Prop) (L : List E) where
 G : Prop
 f : G → AW P N c Q L
structure GA (ks : List K) (P : Program) (N : Nat) (ops : Array Oper) (qs : List Nat) (Q : Exit → List E → Prop) (S : Array Bool) (pend todo : List Nat) (L : List E) where
 G : Prop
 f : G → AWA P N ops qs Q S pend todo L
structure GP (ks : List K) (A : Prop) where
 G : Prop
 f : G → A
structure QK (k : K) (P : Program) (o : Oper) (L : List E) (x : X) : Prop where
 h : Qt P o L x
structure SK (k : K) (P : Program) (N : Nat) (o : Oper) (L L' : List E) : Prop where
 h : Stp P N o L L'
section
variable {P : Program} {N : Nat} {L L' : List E} {Q : Exit → List E → Prop} {ops : Array Oper} {rest : List Oper} {o : Oper} {d : Nat} {gb : Bool} {x : X} {c : Code} {A : Prop} {qs pend todo : List Nat} {S : Array Bool} {κ : K} {ks : List K}
@[reducible] def zL : GL [] P N ops rest Q L := ⟨_, fun h => h⟩
@[reducible] def zW : GW [] P N c Q L := ⟨_, fun h => h⟩
@[reducible] def zA : GA [] P N ops qs Q S pend todo L := ⟨_, fun h => h⟩
@[reducible] def zP : GP [] A := ⟨_, fun h => h⟩
@[reducible] def pL (k : GL ks P N ops rest Q L) : GP ks (AWL P N ops rest Q L) := ⟨k.G, k.f⟩
@[reducible] def pW (k : GW ks P N c Q L) : GP ks (AW P N c Q L) := ⟨k.G, k.f⟩
@[reducible] def pA (k : GA ks P N ops qs Q S pend todo L) : GP ks (AWA P N ops qs Q S pend todo L) := ⟨k.G, k.f⟩
@[reducible] def qF (h : QK κ P o L x) (k : GL ks P N ops rest Q (putL L d x)) (hw : wantL ops L o = some gb := by exact rfl) (hgb : gb = true := by first | exact rfl | exact nT (by assumption) | exact nF (by assumption) | assumption) (hd : o.dst = some d := by exact rfl) (hN : d < N := by decide) : GL (κ :: ks) P N ops (o :: rest) Q L := ⟨k.G, fun g => qg hgb h.h (k.f g) hw hd hN⟩
@[reducible] def xF (k : GL ks P N ops rest Q (putL L d (.v undef))) (hw : wantL ops L o = some gb := by exact rfl) (hgb : gb = false := by first | exact rfl | exact nT (by assumption) | exact nF (by assumption) | assumption) (hd : o.dst = some d := by exact rfl) (hN : d < N := by decide) : GL (.x :: ks) P N ops (o :: rest) Q L := ⟨k.G, fun g => og hgb (k.f g) hw hd hN⟩
@[reducible] def sF (h : SK κ P N o L L') (k : GL ks P N ops rest Q L') (hw : wantL ops L o = some gb := by exact rfl) (hgb : gb = true := by exact rfl) : GL (κ :: ks) P N ops (o :: rest) Q L := ⟨k.G, fun g => sp h.h (k.f g) hw hgb⟩
@[reducible] def nFx (k : GL ks P N ops rest Q L') (h : L = L' := by simp only [go_sem, Int.reduceToNat, Nat.reduceLT, reduceIte, Nat.reduceEqDiff, Nat.reduceAdd, Nat.reduceMul, Nat.reduceBEq, reduceCtorEq]; rfl) : GL (.N :: ks) P N ops rest Q L := ⟨k.G, fun g => nm (k.f g) h⟩
@[reducible] def nFa (k : GA ks P N ops qs Q S pend todo L') (h : L = L' := by first | (simp only [go_sem, Int.reduceToNat, Nat.reduceLT, reduceIte, Nat.reduceEqDiff, Nat.reduceAdd, Nat.reduceMul, Nat.reduceBEq, reduceCtorEq]; rfl) | rfl) : GA (.N :: ks) P N ops qs Q S pend todo L := ⟨k.G, fun g => na (k.f g) h⟩
@[reducible] def lF (k : GP ks (Q .normal L')) (h : L = L' := by first | (simp only [go_sem, Int.reduceToNat, Nat.reduceLT, reduceIte, Nat.reduceEqDiff, Nat.reduceAdd, Nat.reduceMul, Nat.reduceBEq, reduceCtorEq]; rfl) | rfl) : GL (.Z :: ks) P N ops [] Q L := ⟨k.G, fun g => nl (k.f g) h⟩
@[reducible] def rF {id : Nat} {l : List Oper} {c : Code} (k : GL ks P N l.toArray l (thenQ (AW P N c Q) Q) L) : GW (.R :: ks) P N (.seq (.region id l.toArray false) c) Q L := ⟨k.G, fun g => sr (k.f g)⟩
@[reducible] def rF1 {id : Nat} {l : List Oper} (k : GL ks P N l.toArray l Q L) : GW (.R1 :: ks) P N (.region id l.toArray false) Q L := ⟨k.G, fun g => AW.region (k.f g)⟩
@[reducible] def rF2 {id : Nat} {l : List Oper} {c c2 : Code} (k : GL ks P N l.toArray l (thenQ (AW P N c (thenQ (AW P N c2 Q) Q)) (thenQ (AW P N c2 Q) Q)) L) : GW (.R2 :: ks) P N (.seq (.seq (.region id l.toArray false) c) c2) Q L := ⟨k.G, fun g => sr2 (k.f g)⟩
@[reducible] def jF (k : GP ks (Q .normal L)) : GW (.J :: ks) P N .skip Q L := ⟨k.G, fun g => jd (k.f g)⟩
@[reducible] def dF {qs : List Nat} {id : Nat} (k : GA ks P N ops qs Q (Array.replicate ops.size false) [] [] L) (hm : P.follows .mixedOrders = true := by exact rfl) (hq : quietB ops N qs = true := by decide +kernel) : GW (.D qs :: ks) P N (.region id ops true) Q L := ⟨k.G, fun g => AW.draw qs hm hq (k.f g)⟩
@[reducible] def tF {i : Nat} (ho : ops[i]? = some o) (h : QK κ P o L x) (k : GA ks P N ops qs Q (S.setIfInBounds i true) (i :: pend) [] (putL L d x)) (hd : o.dst = some d := by exact rfl) (hq' : qs.contains i = true := by exact rfl) (hr : (Region.ready .any ops S).contains i = true := by decide +kernel) (hw : wantL ops L o = some gb := by exact rfl) (hgb : gb = true := by first | exact rfl | exact nT (by assumption) | exact nF (by assumption) | assumption) : GA (.t i :: κ :: ks) P N ops qs Q S pend [] L := ⟨k.G, fun g => tg i ho hgb h.h (k.f g) hd hq' hr hw⟩
@[reducible] def tX {i : Nat} (ho : ops[i]? = some o) (k : GA ks P N ops qs Q (S.setIfInBounds i true) (i :: pend) [] (putL L d (.v undef))) (hd : o.dst = some d := by exact rfl) (hq' : qs.contains i = true := by exact rfl) (hr : (Region.ready .any ops S).contains i = true := by decide +kernel) (hw : wantL ops L o = some gb := by exact rfl) (hgb : gb = false := by first | exact rfl | exact nT (by assumption) | exact nF (by assumption) | assumption) : GA (.t i :: .x :: ks) P N ops qs Q S pend [] L := ⟨k.G, fun g => tf i hgb (k.f g) ho hd hq' hr hw⟩
@[reducible] def oF {j : Nat} {pend' : List Nat} (ho : ops[j]? = some o) (h : SK κ P N o L L') (k : GA ks P N ops qs Q (S.setIfInBounds j true) pend' pend' L') (hw : wantL ops L o = some gb := by exact rfl) (hgb : gb = true := by first | exact rfl | exact nT (by assumption) | exact nF (by assumption) | assumption) (hr : Region.ready .any ops S = [j] := by decide +kernel)
    (hD : chainB ops [j] (pend.filter fun i => !pend'.contains i) = true := by decide +kernel) (hp : (pend.all fun i => pend'.contains i || (pend.filter fun i => !pend'.contains i).contains i) = true := by decide +kernel) (hp' : (pend'.all fun i => pend.contains i) = true := by decide +kernel) : GA (.o j pend' :: κ :: ks) P N ops qs Q S pend [] L := ⟨k.G, fun g => a1 j pend' _ ho hgb h.h (k.f g) hr hw hD hp hp'⟩
@[reducible] def OF {j : Nat} {pend' D : List Nat} (ho : ops[j]? = some o) (h : SK κ P N o L L') (k : GA ks P N ops qs Q (S.setIfInBounds j true) pend' pend' L') (hw : wantL ops L o = some gb := by exact rfl) (hgb : gb = true := by first | exact rfl | exact nT (by assumption) | exact nF (by assumption) | assumption) (hr : Region.ready .any ops S = [j] := by decide +kernel)
  (hD : chainB ops [j] D = true := by decide +kernel) (hp : (pend.all fun i => pend'.contains i || D.contains i) = true := by decide +kernel) (hp' : (pend'.all fun i => pend.contains i) = true := by decide +kernel) : GA (.O j pend' D :: κ :: ks) P N ops qs Q S pend [] L := ⟨k.G, fun g => a1 j pend' D ho hgb h.h (k.f g) hr hw hD hp hp'⟩
@[reducible] def oX {j : Nat} {pend' : List Nat} (ho : ops[j]? = some o) (k : GA ks P N ops qs Q (S.setIfInBounds j true) pend' pend' (putL L d (.v undef))) (hw : wantL ops L o = some gb := by exact rfl) (hgb : gb = false := by first | exact rfl | exact nT (by assumption) | exact nF (by assumption) | assumption) (hd : o.dst = some d := by exact rfl) (hN : d < N := by decide) (hr : Region.ready .any ops S = [j] := by decide +kernel)
    (hD : chainB ops [j] (pend.filter fun i => !pend'.contains i) = true := by decide +kernel) (hp : (pend.all fun i => pend'.contains i || (pend.filter fun i => !pend'.contains i).contains i) = true := by decide +kernel) (hp' : (pend'.all fun i => pend.contains i) = true := by decide +kernel) : GA (.o j pend' :: .x :: ks) P N ops qs Q S pend [] L := ⟨k.G, fun g => o1 j pend' _ ho hgb (k.f g) hr hw hD hp hp' hd hN⟩
@[reducible] def OX {j : Nat} {pend' D : List Nat} (ho : ops[j]? = some o) (k : GA ks P N ops qs Q (S.setIfInBounds j true) pend' pend' (putL L d (.v undef))) (hw : wantL ops L o = some gb := by exact rfl) (hgb : gb = false := by first | exact rfl | exact nT (by assumption) | exact nF (by assumption) | assumption) (hd : o.dst = some d := by exact rfl) (hN : d < N := by decide) (hr : Region.ready .any ops S = [j] := by decide +kernel)
  (hD : chainB ops [j] D = true := by decide +kernel) (hp : (pend.all fun i => pend'.contains i || D.contains i) = true := by decide +kernel) (hp' : (pend'.all fun i => pend.contains i) = true := by decide +kernel) : GA (.O j pend' D :: .x :: ks) P N ops qs Q S pend [] L := ⟨k.G, fun g => o1 j pend' D ho hgb (k.f g) hr hw hD hp hp' hd hN⟩
@[reducible] def gF {i : Nat} (ho : ops[i]? = some o) (h : QK κ P o L x) (k : GA ks P N ops qs Q S pend todo (putL L d x)) (hd : o.dst = some d := by exact rfl) (hp : pend.all (fun k => todo.contains k || k == i || !waits ops k i) = true := by decide +kernel) (hw : wantL ops L o = some gb := by exact rfl) (hgb : gb = true := by first | exact rfl | exact nT (by assumption) | exact nF (by assumption) | assumption) (hx : slotL L d = x := by exact rfl) : GA (.g :: κ :: ks) P N ops qs Q S pend (i :: todo) L := ⟨k.G, fun g => AWA.againE ho hd hp (.on hw hgb h.h) hx (k.f g)⟩
@[reducible] def gX {i : Nat} (ho : ops[i]? = some o) (k : GA ks P N ops qs Q S pend todo (putL L d (.v undef))) (hd : o.dst = some d := by exact rfl) (hp : pend.all (fun k => todo.contains k || k == i || !waits ops k i) = true := by decide +kernel) (hw : wantL ops L o = some gb := by exact rfl) (hgb : gb = false := by first | exact rfl | exact nT (by assumption) | exact nF (by assumption) | assumption) (hx : slotL L d = .v undef := by exact rfl) : GA (.g :: .x :: ks) P N ops qs Q S pend (i :: todo) L := ⟨k.G, fun g => AWA.againE ho hd hp (.off hw hgb) hx (k.f g)⟩
@[reducible] def zF (k : GP ks (Q .normal L')) (hr : Region.ready .any ops S = [] := by decide +kernel) (h : L = L' := by first | (simp only [go_sem, Int.reduceToNat, Nat.reduceLT, reduceIte, Nat.reduceEqDiff, Nat.reduceAdd, Nat.reduceMul, Nat.reduceBEq, reduceCtorEq]; rfl) | rfl) : GA (.Z :: ks) P N ops qs Q S pend [] L := ⟨k.G, fun g => nz (k.f g) hr h⟩
end
theorem ws {N : Nat} {L L' : List E} (h : hasS L L' := by repeat (first | exact trivial | refine ⟨(by first | exact ⟨rfl, rfl⟩ | exact Rf rfl | rfl | exact st1), ?_⟩)) (hc : closedB (idsL L') L' = true := by exact rfl) (hu : nodupB (idsL L') = true := by exact rfl) : Weak N L L' := Weak.sim h hc hu
theorem kQ (κ : K) {P : Program} {o : Oper} {L : List E} {x : X} (h : Qt P o L x) : QK κ P o L x := ⟨h⟩
theorem kS (κ : K) {P : Program} {N : Nat} {o : Oper} {L L' : List E} (h : Stp P N o L L') : SK κ P N o L L' := ⟨h⟩
/-- .. as the letters say -/
theorem go (ks : List K) {G : Prop} (he : GP ks G := by
  first | refine pW ?_ | refine pL ?_ | refine pA ?_
  repeat
    first
      | (show GL (.N :: _) _ _ _ _ _ _; refine nFx ?_)
      | (show GL (.m :: _) _ _ _ _ _ _; refine qF (kQ .m Qt.move) ?_)
      | (show GL (.f :: _) _ _ _ _ _ _; refine qF (kQ .f (fA FlI.ok)) ?_)
      | (show GL (.l :: _) _ _ _ _ _ _; refine qF (kQ .l (Qt.load1 rfl rfl rfl AgI.ok)) ?_)
      | (show GL (.a :: _) _ _ _ _ _ _; refine qF (kQ .a Qt.assign) ?_)
      | (show GL _ _ _ _ _ _ _; first
          | (show GL (.p :: _) _ _ _ _ _ _; refine qF (kQ .p (Qt.nilCheck rfl)) ?_)
          | (show GL (.b :: _) _ _ _ _ _ _; refine qF (kQ .b (Qt.binOp rfl rfl (by first | exact pbAdd (by omega) | exact pbSub (by omega) | exact pbMul (by omega) | rfl))) ?_)
          | (show GL (.i :: _) _ _ _ _ _ _; refine qF (kQ .i (Qt.indexAddr rfl rfl rfl rfl SlI.sl SzI.ok (by decide) (by first | omega | grind only))) ?_)
          | (show GL (.h :: _) _ _ _ _ _ _; refine qF (kQ .h (Qt.lenH rfl rfl rfl SlI.sl)) ?_)
          | (show GL (.G :: _) _ _ _ _ _ _; refine qF (kQ .G (Qt.loadG rfl rfl rfl AgI.ok SzI.ok (by decide))) ?_)
          | (show GL (.e :: _) _ _ _ _ _ _; refine qF (kQ .e (Qt.extract rfl (of_decide_eq_true rfl))) ?_)
          | (show GL (.u :: _) _ _ _ _ _ _; refine qF (kQ .u (Qt.build rfl)) ?_)
          | (show GL (.n :: _) _ _ _ _ _ _; refine qF (kQ .n (Qt.notB rfl)) ?_)
          | (show GL (.q :: _) _ _ _ _ _ _; refine qF (kQ .q (Qt.eqB rfl rfl BoI.ok)) ?_)
          | (show GL (.k :: _) _ _ _ _ _ _; refine qF (kQ .k (Qt.neB rfl rfl BoI.ok)) ?_)
          | (show GL (.c :: _) _ _ _ _ _ _; refine qF (kQ .c (Qt.lenS rfl StI.ok)) ?_)
          | (show GL (.Z :: _) _ _ _ _ _ _; refine lF ?_; (first | refine pW ?_ | refine pL ?_ | refine pA ?_ | exact zP))
          | (show GL (.s :: _) _ _ _ _ _ _; refine sF (kS .s (by first | exact Stp.storeA rfl rfl rfl rfl (by decide) rfl | exact Stp.store rfl rfl (by simp) rfl rfl rfl (by decide) rfl)) ?_)
          | (show GL (.A :: _) _ _ _ _ _ _; refine sF (kS .A sA) ?_)
          | (show GL (.B :: _) _ _ _ _ _ _; refine sF (kS .B (Stp.boxB rfl (by decide) (by decide) rfl rfl rfl rfl)) ?_)
          | (show GL (.S :: _) _ _ _ _ _ _; refine sF (kS .S sS) ?_)
          | (show GL (.x :: _) _ _ _ _ _ _; refine xF ?_)
          | (show GL [] _ _ _ _ _ _; exact zL))
      | (show GA _ _ _ _ _ _ _ _ _ _; first
          | (show GA (.N :: _) _ _ _ _ _ _ _ _ _; refine nFa ?_)
          | (show GA (.t _ :: .x :: _) _ _ _ _ _ _ _ _ _; refine tX rfl ?_)
          | (show GA (.t _ :: .m :: _) _ _ _ _ _ _ _ _ _; refine tF rfl (kQ .m Qt.move) ?_)
          | (show GA (.t _ :: .f :: _) _ _ _ _ _ _ _ _ _; refine tF rfl (kQ .f (fA FlI.ok)) ?_)
          | (show GA (.t _ :: .l :: _) _ _ _ _ _ _ _ _ _; refine tF rfl (kQ .l (Qt.load1 rfl rfl rfl AgI.ok)) ?_)
          | (show GA (.t _ :: .a :: _) _ _ _ _ _ _ _ _ _; refine tF rfl (kQ .a Qt.assign) ?_)
          | (show GA (.g :: _ :: _) _ _ _ _ _ _ _ _ _; first
              | (show GA (.g :: .x :: _) _ _ _ _ _ _ _ _ _; refine gX rfl ?_)
              | (show GA (.g :: .m :: _) _ _ _ _ _ _ _ _ _; refine gF rfl (kQ .m Qt.move) ?_)
              | (show GA (.g :: .f :: _) _ _ _ _ _ _ _ _ _; refine gF rfl (kQ .f (fA FlI.ok)) ?_)
              | (show GA (.g :: .l :: _) _ _ _ _ _ _ _ _ _; refine gF rfl (kQ .l (Qt.load1 rfl rfl rfl AgI.ok)) ?_)
              | (show GA (.g :: .a :: _) _ _ _ _ _ _ _ _ _; refine gF rfl (kQ .a Qt.assign) ?_)
              | (show GA (.g :: .p :: _) _ _ _ _ _ _ _ _ _; refine gF rfl (kQ .p (Qt.nilCheck rfl)) ?_)
              | (show GA (.g :: .b :: _) _ _ _ _ _ _ _ _ _; refine gF rfl (kQ .b (Qt.binOp rfl rfl (by first | exact pbAdd (by omega) | exact pbSub (by omega) | exact pbMul (by omega) | rfl))) ?_)
              | (show GA (.g :: .i :: _) _ _ _ _ _ _ _ _ _; refine gF rfl (kQ .i (Qt.indexAddr rfl rfl rfl rfl SlI.sl SzI.ok (by decide) (by first | omega | grind only))) ?_)
              | (show GA (.g :: .h :: _) _ _ _ _ _ _ _ _ _; refine gF rfl (kQ .h (Qt.lenH rfl rfl rfl SlI.sl)) ?_)
              | (show GA (.g :: .G :: _) _ _ _ _ _ _ _ _ _; refine gF rfl (kQ .G (Qt.loadG rfl rfl rfl AgI.ok SzI.ok (by decide))) ?_)
              | (show GA (.g :: .e :: _) _ _ _ _ _ _ _ _ _; refine gF rfl (kQ .e (Qt.extract rfl (of_decide_eq_true rfl))) ?_)
              | (show GA (.g :: .u :: _) _ _ _ _ _ _ _ _ _; refine gF rfl (kQ .u (Qt.build rfl)) ?_)
              | (show GA (.g :: .n :: _) _ _ _ _ _ _ _ _ _; refine gF rfl (kQ .n (Qt.notB rfl)) ?_)
              | (show GA (.g :: .q :: _) _ _ _ _ _ _ _ _ _; refine gF rfl (kQ .q (Qt.eqB rfl rfl BoI.ok)) ?_)
              | (show GA (.g :: .k :: _) _ _ _ _ _ _ _ _ _; refine gF rfl (kQ .k (Qt.neB rfl rfl BoI.ok)) ?_)
              | (show GA (.g :: .c :: _) _ _ _ _ _ _ _ _ _; refine gF rfl (kQ .c (Qt.lenS rfl StI.ok)) ?_))
          | (show GA (.t _ :: .p :: _) _ _ _ _ _ _ _ _ _; refine tF rfl (kQ .p (Qt.nilCheck rfl)) ?_)
          | (show GA (.t _ :: .b :: _) _ _ _ _ _ _ _ _ _; refine tF rfl (kQ .b (Qt.binOp rfl rfl (by first | exact pbAdd (by omega) | exact pbSub (by omega) | exact pbMul (by omega) | rfl))) ?_)
          | (show GA (.t _ :: .i :: _) _ _ _ _ _ _ _ _ _; refine tF rfl (kQ .i (Qt.indexAddr rfl rfl rfl rfl SlI.sl SzI.ok (by decide) (by first | omega | grind only))) ?_)
          | (show GA (.t _ :: .h :: _) _ _ _ _ _ _ _ _ _; refine tF rfl (kQ .h (Qt.lenH rfl rfl rfl SlI.sl)) ?_)
          | (show GA (.t _ :: .G :: _) _ _ _ _ _ _ _ _ _; refine tF rfl (kQ .G (Qt.loadG rfl rfl rfl AgI.ok SzI.ok (by decide))) ?_)
          | (show GA (.t _ :: .e :: _) _ _ _ _ _ _ _ _ _; refine tF rfl (kQ .e (Qt.extract rfl (of_decide_eq_true rfl))) ?_)
          | (show GA (.t _ :: .u :: _) _ _ _ _ _ _ _ _ _; refine tF rfl (kQ .u (Qt.build rfl)) ?_)
          | (show GA (.t _ :: .n :: _) _ _ _ _ _ _ _ _ _; refine tF rfl (kQ .n (Qt.notB rfl)) ?_)
          | (show GA (.t _ :: .q :: _) _ _ _ _ _ _ _ _ _; refine tF rfl (kQ .q (Qt.eqB rfl rfl BoI.ok)) ?_)
          | (show GA (.t _ :: .k :: _) _ _ _ _ _ _ _ _ _; refine tF rfl (kQ .k (Qt.neB rfl rfl BoI.ok)) ?_)
          | (show GA (.t _ :: .c :: _) _ _ _ _ _ _ _ _ _; refine tF rfl (kQ .c (Qt.lenS rfl StI.ok)) ?_)
          | (show GA (.o _ _ :: .x :: _) _ _ _ _ _ _ _ _ _; refine oX rfl ?_)
          | (show GA (.o _ _ :: .s :: _) _ _ _ _ _ _ _ _ _; refine oF rfl (kS .s (by first | exact Stp.storeA rfl rfl rfl rfl (by decide) rfl | exact Stp.store rfl rfl (by simp) rfl rfl rfl (by decide) rfl)) ?_)
          | (show GA (.o _ _ :: .A :: _) _ _ _ _ _ _ _ _ _; refine oF rfl (kS .A sA) ?_)
          | (show GA (.o _ _ :: .B :: _) _ _ _ _ _ _ _ _ _; refine oF rfl (kS .B (Stp.boxB rfl (by decide) (by decide) rfl rfl rfl rfl)) ?_)
          | (show GA (.o _ _ :: .S :: _) _ _ _ _ _ _ _ _ _; refine oF rfl (kS .S sS) ?_)
          | (show GA (.O _ _ _ :: .x :: _) _ _ _ _ _ _ _ _ _; refine OX rfl ?_)
          | (show GA (.O _ _ _ :: .s :: _) _ _ _ _ _ _ _ _ _; refine OF rfl (kS .s (by first | exact Stp.storeA rfl rfl rfl rfl (by decide) rfl | exact Stp.store rfl rfl (by simp) rfl rfl rfl (by decide) rfl)) ?_)
          | (show GA (.O _ _ _ :: .A :: _) _ _ _ _ _ _ _ _ _; refine OF rfl (kS .A sA) ?_)
          | (show GA (.O _ _ _ :: .B :: _) _ _ _ _ _ _ _ _ _; refine OF rfl (kS .B (Stp.boxB rfl (by decide) (by decide) rfl rfl rfl rfl)) ?_)
          | (show GA (.O _ _ _ :: .S :: _) _ _ _ _ _ _ _ _ _; refine OF rfl (kS .S sS) ?_)
          | (show GA (.Z :: _) _ _ _ _ _ _ _ _ _; refine zF ?_; (first | refine pW ?_ | refine pL ?_ | refine pA ?_ | exact zP))
          | (show GA [] _ _ _ _ _ _ _ _ _; exact zA))
      | (show GW _ _ _ _ _ _; first
          | (show GW (.R :: _) _ _ _ _ _; refine rF ?_)
          | (show GW (.R2 :: _) _ _ _ _ _; refine rF2 ?_)
          | (show GW (.R1 :: _) _ _ _ _ _; refine rF1 ?_)
          | (show GW (.J :: _) _ _ _ _ _; refine jF ?_; (first | refine pW ?_ | refine pL ?_ | refine pA ?_ | exact zP))
          | (show GW (.D _ :: _) _ _ _ _ _; refine dF ?_)
          | (show GW [] _ _ _ _ _; exact zW))
      | exact zP) (k : he.G) : G := he.f k
end Go.Proofs.YtlploojfcmcckaaDoor.VM
namespace Go.Proofs.YtlploojfcmcckaaDoor.VM
open Go Go.RowKit
/-! plain values of plain values, by a walk that only lays new blocks -/
theorem con_belowX {P : Program} {f : FuncId} {xs : List Value} {α : Type} {C : α → Prop} {X0 : α → X} {V0 : α → Value} (hX : ∀ (m : α) (R : RT) (H : Nat → Value) (w : World), VR R H w (X0 m) (V0 m)) (h : ∀ w, Calls P f xs.toArray w fun e w' => (∃ m, C m ∧ e = .returned (V0 m)) ∧ Below w.heap.size w w') : Con P f (xs.map .v) [] (fun y _ => ∃ m, C m ∧ y = X0 m) := by
 intro w vs H G ht _ hr hv
 have hxs : vs = xs := by
  clear h ht hr
  induction xs generalizing vs with
  | nil => cases vs with
   | nil => rfl
   | cons _ _ => exact hv.elim
  | cons x xs ih => cases vs with
   | nil => exact hv.elim
   | cons v vs =>
    obtain ⟨h1, h2⟩ := hv
    have h1' : v = x := h1
    rw [h1', ih vs h2]
 subst hxs
 refine (h w).mono ?_
 rintro e w' ⟨⟨m, hm, rfl⟩, hb⟩
 have no : ∀ {α : Prop} {e : E}, e ∈ ([] : List E) → α := fun h => by cases h
 exact ⟨_, X0 m, [], H, G, fun _ => undef, rfl, ⟨m, hm, rfl⟩, ⟨fun _ _ _ _ _ h => no h, fun _ _ _ h => no h, fun _ _ h => no h, fun _ _ h => no h, fun _ _ h => no h, fun _ _ _ _ _ _ h => no h, fun _ _ h => no h, fun _ _ _ h => no h⟩, hX m _ _ _, Chg.of_below hb, fun _ _ _ h => no h, fun _ _ _ _ h => no h⟩
theorem vrs_mapV {R : RT} {H : Nat → Value} {w : World} : ∀ xs : List Value, VRs R H w (xs.map .v) xs
 | [] => trivial
 | _ :: xs => ⟨rfl, vrs_mapV xs⟩
theorem con_below {P : Program} {f : FuncId} {xs : List Value} {r : Value} (h : ∀ w, Calls P f xs.toArray w fun e w' => e = .returned r ∧ Below w.heap.size w w') : Con P f (xs.map .v) [] (fun y _ => y = .v r) :=
 (con_belowX (α := Unit) (C := fun _ => True) (X0 := fun _ => .v r) (V0 := fun _ => r) (fun _ _ _ _ => rfl) fun w => (h w).mono fun _ _ ⟨h1, h2⟩ => ⟨⟨(), trivial, h1⟩, h2⟩).mono fun _ _ ⟨_, _, h⟩ => h
theorem con_belowP {P : Program} {f : FuncId} {xs : List Value} {α : Type} {C : α → Prop} {rs : α → List Value} (h : ∀ w, Calls P f xs.toArray w fun e w' => (∃ m, C m ∧ e = .returned (.tuple (rs m).toArray)) ∧ Below w.heap.size w w') : Con P f (xs.map .v) [] (fun y _ => ∃ m, C m ∧ y = .t ((rs m).map .v)) :=
 con_belowX (fun m R H w => ⟨(rs m), rfl, vrs_mapV _⟩) h
theorem slB_sn {L : List E} {d : Nat} {x : Operand} {kd : IntKind} {j : Int} (h : evX L x = .v (.int kd j)) (h0 : 0 ≤ j) : slB L d (some x) j.toNat := ⟨kd, j, h, (Int.toNat_of_nonneg h0).symm⟩
/-- a number as a byte -/
def bvI (x : Int) : UInt8 := UInt8.ofNat (IntKind.u8.wrap x).toNat
theorem bvI_val (x : Int) : Value.int .u8 (IntKind.u8.wrap x) = bv (bvI x) := by
 show Value.int .u8 _ = Value.int .u8 _
 unfold bvI
 rw [UInt8.toNat_ofNat', IntKind.wrap_u8]
 congr 1
 omega
end Go.Proofs.YtlploojfcmcckaaDoor.VM
