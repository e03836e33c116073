/- How arguments read, for the rows. No conditions. -/
import Derived.Test.YtimmbmphfgnelaaGreatVmD
set_option linter.all false
namespace Go.Proofs.YtimmbmphfgnelaaGreat.VM
open Go Go.RowKit
end Go.Proofs.YtimmbmphfgnelaaGreat.VM
namespace Go.Proofs.YtimmbmphfgnelaaGreat.VM
open Go Go.RowKit
end Go.Proofs.YtimmbmphfgnelaaGreat.VM
namespace Go.Proofs.YtimmbmphfgnelaaGreat.VM
open Go Go.RowKit
section
variable {P : Program} {N : Nat} {Q : Exit → List E → Prop} {L : List E}
end
end Go.Proofs.YtimmbmphfgnelaaGreat.VM
namespace Go.Proofs.YtimmbmphfgnelaaGreat.VM
open Go Go.RowKit
section
variable {P : Program} {N : Nat} {Q : Exit → List E → Prop} {L : List E} {cx : Cx} {a : Act} {w : World}
variable {ops : Array Oper} {o : Oper} {rest : List Oper}
end
end Go.Proofs.YtimmbmphfgnelaaGreat.VM
namespace Go.Proofs.YtimmbmphfgnelaaGreat.VM
open Go Go.RowKit
section
variable {P : Program} {N : Nat} {Q : Exit → List E → Prop} {L : List E} {val : Nat → Value} {H : Nat → Value} {G : Nat → FP} {w : World}
end
section
variable {P : Program} {N : Nat} {Q : Exit → List E → Prop} {L : List E} {ops : Array Oper} {rest : List Oper} {dst : Option Tmp} {ty : TypeId} {pos : String} {af : Array Edge} {g : Option (Nat × Bool)}
end
end Go.Proofs.YtimmbmphfgnelaaGreat.VM
namespace Go.Proofs.YtimmbmphfgnelaaGreat.VM
open Go Go.RowKit
section
variable {P : Program} {N : Nat} {Q : Exit → List E → Prop} {L : List E} {ops : Array Oper} {rest : List Oper} {dst : Option Tmp} {ty : TypeId} {pos : String} {af : Array Edge} {g : Option (Nat × Bool)}
end
end Go.Proofs.YtimmbmphfgnelaaGreat.VM
namespace Go.Proofs.YtimmbmphfgnelaaGreat.VM
open Go Go.RowKit
section
variable {P : Program} {N : Nat} {L : List E} {val : Nat → Value} {H : Nat → Value} {G : Nat → FP} {w : World}
end
section
variable {P : Program}
end
end Go.Proofs.YtimmbmphfgnelaaGreat.VM
namespace Go.Proofs.YtimmbmphfgnelaaGreat.VM
open Go Go.RowKit
section
variable {L : List E} {val : Nat → Value} {H : Nat → Value} {G : Nat → FP} {w w' : World} {S : FP}
end
section
variable {P : Program} {N : Nat} {Q : Exit → List E → Prop} {L : List E} {ops : Array Oper} {rest : List Oper} {dst : Option Tmp} {ty : TypeId} {pos : String} {af : Array Edge} {g : Option (Nat × Bool)} {d : Nat}
end
end Go.Proofs.YtimmbmphfgnelaaGreat.VM
namespace Go.Proofs.YtimmbmphfgnelaaGreat.VM
open Go Go.RowKit
section
variable {L : List E} {val : Nat → Value} {H : Nat → Value} {G : Nat → FP} {w w' : World} {S : FP} {P : Program} {N : Nat} {cx : Cx}
end
end Go.Proofs.YtimmbmphfgnelaaGreat.VM
namespace Go.Proofs.YtimmbmphfgnelaaGreat.VM
open Go Go.RowKit
section
variable {L : List E} {val : Nat → Value} {H : Nat → Value} {G : Nat → FP} {w w' : World} {S : FP} {P : Program} {N : Nat} {cx : Cx} {a : Act}
end
section
variable {P : Program} {N : Nat} {Q : Exit → List E → Prop} {L : List E} {ops : Array Oper} {rest : List Oper} {dst : Option Tmp} {ty : TypeId} {pos : String} {af : Array Edge} {g : Option (Nat × Bool)} {d : Nat}
end
end Go.Proofs.YtimmbmphfgnelaaGreat.VM
namespace Go.Proofs.YtimmbmphfgnelaaGreat.VM
open Go Go.RowKit
end Go.Proofs.YtimmbmphfgnelaaGreat.VM
namespace Go.Proofs.YtimmbmphfgnelaaGreat.VM
open Go Go.RowKit
section
variable {L : List E} {val : Nat → Value} {H : Nat → Value} {G : Nat → FP} {w w' : World} {P : Program} {N : Nat} {cx : Cx} {a : Act}
end
end Go.Proofs.YtimmbmphfgnelaaGreat.VM
namespace Go.Proofs.YtimmbmphfgnelaaGreat.VM
open Go Go.RowKit
section
variable {P : Program} {N : Nat} {Q : Exit → List E → Prop} {L : List E} {ops : Array Oper} {rest : List Oper} {dst : Option Tmp} {ty : TypeId} {pos : String} {af : Array Edge} {g : Option (Nat × Bool)} {d : Nat}
end
end Go.Proofs.YtimmbmphfgnelaaGreat.VM
namespace Go.Proofs.YtimmbmphfgnelaaGreat.VM
open Go Go.RowKit
section
variable {P : Program} {N : Nat} {Q : Exit → List E → Prop} {L : List E} {ops : Array Oper} {rest : List Oper} {dst : Option Tmp} {ty : TypeId} {pos : String} {af : Array Edge} {g : Option (Nat × Bool)} {d : Nat}
end
end Go.Proofs.YtimmbmphfgnelaaGreat.VM
namespace Go.Proofs.YtimmbmphfgnelaaGreat.VM
open Go Go.RowKit
section
variable {P : Program} {w : World}
end
end Go.Proofs.YtimmbmphfgnelaaGreat.VM
namespace Go.Proofs.YtimmbmphfgnelaaGreat.VM
open Go Go.RowKit
end Go.Proofs.YtimmbmphfgnelaaGreat.VM
namespace Go.Proofs.YtimmbmphfgnelaaGreat.VM
open Go Go.RowKit
section
variable {L : List E} {val : Nat → Value} {H : Nat → Value} {G : Nat → FP} {w w' : World}
end
end Go.Proofs.YtimmbmphfgnelaaGreat.VM
namespace Go.Proofs.YtimmbmphfgnelaaGreat.VM
open Go Go.RowKit
section
variable {L : List E} {val : Nat → Value} {H : Nat → Value} {G : Nat → FP} {w w' : World} {cx : Cx}
end
end Go.Proofs.YtimmbmphfgnelaaGreat.VM
namespace Go.Proofs.YtimmbmphfgnelaaGreat.VM
open Go Go.RowKit
section
variable {L : List E} {val : Nat → Value} {H : Nat → Value} {G : Nat → FP} {w w' : World} {cx : Cx} {P : Program}
end
section
variable {P : Program} {N : Nat} {Q : Exit → List E → Prop} {L : List E} {ops : Array Oper} {rest : List Oper} {dst : Option Tmp} {ty : TypeId} {pos : String} {af : Array Edge} {g : Option (Nat × Bool)} {d : Nat}
end
end Go.Proofs.YtimmbmphfgnelaaGreat.VM
namespace Go.Proofs.YtimmbmphfgnelaaGreat.VM
open Go Go.RowKit
section
variable {L : List E} {val : Nat → Value} {H : Nat → Value} {G : Nat → FP} {w w' : World} {cx : Cx} {P : Program} {N : Nat} {a : Act}
end
end Go.Proofs.YtimmbmphfgnelaaGreat.VM
namespace Go.Proofs.YtimmbmphfgnelaaGreat.VM
open Go Go.RowKit
section
variable {P : Program} {N : Nat} {Q : Exit → List E → Prop} {L : List E} {ops : Array Oper} {rest : List Oper} {dst : Option Tmp} {ty : TypeId} {pos : String} {af : Array Edge} {gd : Option (Nat × Bool)} {d : Nat}
end
end Go.Proofs.YtimmbmphfgnelaaGreat.VM
namespace Go.Proofs.YtimmbmphfgnelaaGreat.VM
open Go Go.RowKit
section
variable {P : Program} {N : Nat} {Q : Exit → List E → Prop} {L : List E} {ops : Array Oper} {cx : Cx} {a b : Act} {w : World} {o : Oper} {S R : Array Bool} {pend todo qs : List Nat}
end
end Go.Proofs.YtimmbmphfgnelaaGreat.VM
namespace Go.Proofs.YtimmbmphfgnelaaGreat.VM
open Go Go.RowKit
section
variable {P : Program} {N : Nat} {Q : Exit → List E → Prop} {L : List E} {ops : Array Oper} {cx : Cx} {a b : Act} {w : World} {o : Oper} {S R : Array Bool} {pend todo qs : List Nat}
end
end Go.Proofs.YtimmbmphfgnelaaGreat.VM
namespace Go.Proofs.YtimmbmphfgnelaaGreat.VM
open Go Go.RowKit
section
variable {P : Program} {N : Nat} {Q : Exit → List E → Prop} {L : List E} {ops : Array Oper} {cx : Cx} {a b : Act} {w : World} {o : Oper} {S R : Array Bool} {pend todo qs : List Nat}
end
end Go.Proofs.YtimmbmphfgnelaaGreat.VM
namespace Go.Proofs.YtimmbmphfgnelaaGreat.VM
open Go Go.RowKit
section
variable {P : Program} {N : Nat} {L L' : List E}
end
end Go.Proofs.YtimmbmphfgnelaaGreat.VM
namespace Go.Proofs.YtimmbmphfgnelaaGreat.VM
open Go Go.RowKit
section
variable {P : Program} {N : Nat} {L : List E} {Q : Exit → List E → Prop}
end
end Go.Proofs.YtimmbmphfgnelaaGreat.VM
namespace Go.Proofs.YtimmbmphfgnelaaGreat.VM
open Go Go.RowKit
section
variable {P : Program} {N : Nat} {L : List E} {Q : Exit → List E → Prop} {ops : Array Oper} {S : Array Bool} {pend qs : List Nat}
end
end Go.Proofs.YtimmbmphfgnelaaGreat.VM
namespace Go.Proofs.YtimmbmphfgnelaaGreat.VM
open Go Go.RowKit
section
variable {L L' A : List E} {val : Nat → Value} {H : Nat → Value} {G : Nat → FP} {w w' : World} {S : FP} {P : Program} {N : Nat} {cx : Cx} {a : Act}
end
section
variable {P : Program} {N : Nat} {L : List E} {dst : Option Tmp} {ty : TypeId} {pos : String} {af : Array Edge} {g : Option (Nat × Bool)} {d : Nat}
end
end Go.Proofs.YtimmbmphfgnelaaGreat.VM
namespace Go.Proofs.YtimmbmphfgnelaaGreat.VM
open Go Go.RowKit
section
variable {L : List E} {val : Nat → Value} {H : Nat → Value} {G : Nat → FP} {w w' : World} {P : Program} {N : Nat} {cx : Cx} {a : Act}
end
section
variable {P : Program} {N : Nat} {L : List E} {dst : Option Tmp} {ty : TypeId} {pos : String} {af : Array Edge} {g : Option (Nat × Bool)} {d : Nat}
end
end Go.Proofs.YtimmbmphfgnelaaGreat.VM
namespace Go.Proofs.YtimmbmphfgnelaaGreat.VM
open Go Go.RowKit
section
variable {P : Program} {N : Nat} {L : List E} {dst : Option Tmp} {ty : TypeId} {pos : String} {af : Array Edge} {g : Option (Nat × Bool)} {d : Nat}
end
end Go.Proofs.YtimmbmphfgnelaaGreat.VM
namespace Go.Proofs.YtimmbmphfgnelaaGreat.VM
open Go Go.RowKit
section
variable {P : Program}
theorem i64_wf {n : Int} (h : (Lit.int .i64 n).wf = true) : -9223372036854775808 ≤ n ∧ n ≤ 9223372036854775807 := by
 simpa [Lit.wf, IntKind.min, IntKind.max, IntKind.bits, IntKind.signed] using h
theorem rds_int {t : TypeId} (ht : P.underlying t = some (.int .i64)) : Rds P t Int := fun h => by
 obtain ⟨n, rfl, _, hw⟩ := DataW.trod_int ht h
 exact ⟨n, RdC.one rfl, i64_wf hw⟩
end
end Go.Proofs.YtimmbmphfgnelaaGreat.VM
namespace Go.Proofs.YtimmbmphfgnelaaGreat.VM
open Go Go.RowKit
section
variable {w : World} {P : Program}
end
section
variable {H : Type} {enc : TypeId × Value → H} {P : Program}
end
end Go.Proofs.YtimmbmphfgnelaaGreat.VM
namespace Go.Proofs.YtimmbmphfgnelaaGreat.VM
open Go Go.RowKit
end Go.Proofs.YtimmbmphfgnelaaGreat.VM
namespace Go.Proofs.YtimmbmphfgnelaaGreat.VM
open Go Go.RowKit
section
variable {P : Program} {L : List E} {dst : Option Tmp} {ty : TypeId} {pos : String} {af : Array Edge} {g : Option (Nat × Bool)}
end
end Go.Proofs.YtimmbmphfgnelaaGreat.VM
namespace Go.Proofs.YtimmbmphfgnelaaGreat.VM
open Go Go.RowKit
end Go.Proofs.YtimmbmphfgnelaaGreat.VM
namespace Go.Proofs.YtimmbmphfgnelaaGreat.VM
open Go Go.RowKit
section
variable {P : Program} {N : Nat} {Q : Exit → List E → Prop} {L L' : List E} {ops : Array Oper} {l : List Oper} {qs pend todo : List Nat} {S : Array Bool}
end
end Go.Proofs.YtimmbmphfgnelaaGreat.VM
namespace Go.Proofs.YtimmbmphfgnelaaGreat.VM
end Go.Proofs.YtimmbmphfgnelaaGreat.VM
namespace Go.Proofs.YtimmbmphfgnelaaGreat.VM
open Go Go.RowKit
section
variable {L : List E} {val : Nat → Value} {H : Nat → Value} {G : Nat → FP} {w w' : World} {P : Program} {N : Nat} {cx : Cx} {a : Act}
end
section
variable {P : Program} {N : Nat} {L : List E} {dst : Option Tmp} {ty : TypeId} {pos : String} {af : Array Edge} {g : Option (Nat × Bool)} {d : Nat}
end
section
variable {L : List E} {val : Nat → Value} {H : Nat → Value} {G : Nat → FP} {w w' : World} {cx : Cx} {P : Program}
end
section
variable {P : Program} {N : Nat} {L : List E} {dst : Option Tmp} {ty : TypeId} {pos : String} {af : Array Edge} {g : Option (Nat × Bool)} {d : Nat}
end
end Go.Proofs.YtimmbmphfgnelaaGreat.VM
namespace Go.Proofs.YtimmbmphfgnelaaGreat.VM
open Go Go.RowKit
end Go.Proofs.YtimmbmphfgnelaaGreat.VM
namespace Go.Proofs.YtimmbmphfgnelaaGreat.VM
open Go Go.RowKit
section
variable {L : List E} {val : Nat → Value} {H : Nat → Value} {G : Nat → FP} {w w' : World}
end
end Go.Proofs.YtimmbmphfgnelaaGreat.VM
namespace Go.Proofs.YtimmbmphfgnelaaGreat.VM
open Go Go.RowKit
end Go.Proofs.YtimmbmphfgnelaaGreat.VM
namespace Go.Proofs.YtimmbmphfgnelaaGreat.VM
open Go Go.RowKit
section
variable {P : Program} {N : Nat} {L : List E} {dst : Option Tmp} {ty : TypeId} {pos : String} {af : Array Edge} {g : Option (Nat × Bool)} {d : Nat}
end
end Go.Proofs.YtimmbmphfgnelaaGreat.VM
namespace Go.Proofs.YtimmbmphfgnelaaGreat.VM
open Go Go.RowKit
section
variable {P : Program} {N : Nat} {Q : Exit → List E → Prop} {L : List E} {ops : Array Oper} {rest : List Oper} {dst : Option Tmp} {ty : TypeId} {pos : String} {af : Array Edge} {g : Option (Nat × Bool)} {d : Nat}
end
section
variable {P : Program} {N : Nat} {Q : Exit → List E → Prop} {L : List E} {cx : Cx} {a : Act} {w : World} {val H : Nat → Value} {G : Nat → FP}
end
end Go.Proofs.YtimmbmphfgnelaaGreat.VM
namespace Go.Proofs.YtimmbmphfgnelaaGreat.VM
open Go Go.RowKit
section
variable {P : Program} {N : Nat} {Q : Exit → List E → Prop} {L : List E}
end
section
variable {α : Type} [En α] {len k : Nat} {g h : Nat → α} {l : List α}
end
section
variable {α : Type} {l l' : List α}
end
end Go.Proofs.YtimmbmphfgnelaaGreat.VM
namespace Go.Proofs.YtimmbmphfgnelaaGreat.VM
open Go Go.RowKit
end Go.Proofs.YtimmbmphfgnelaaGreat.VM
namespace Go.Proofs.YtimmbmphfgnelaaGreat.VM
end Go.Proofs.YtimmbmphfgnelaaGreat.VM
namespace Go.Proofs.YtimmbmphfgnelaaGreat.VM
end Go.Proofs.YtimmbmphfgnelaaGreat.VM
namespace Go.Proofs.YtimmbmphfgnelaaGreat.VM
open Go Go.RowKit
section
variable {P : Program} {N : Nat} {Q : Exit → List E → Prop} {L : List E} {ops : Array Oper} {qs pend todo : List Nat} {S : Array Bool}
end
end Go.Proofs.YtimmbmphfgnelaaGreat.VM
namespace Go.Proofs.YtimmbmphfgnelaaGreat.VM
open Go Go.RowKit
theorem RdC.cons_part {w : World} {cs : List Value} {ts us : List T} (o k : Nat) (h : RdC w ts ((cs.drop o).take k)) (h' : RdC w us (cs.drop (o + k))) : RdC w (ts ++ us) (cs.drop o) := by
 have : cs.drop o = (cs.drop o).take k ++ cs.drop (o + k) := by
  rw [← List.drop_drop, List.take_append_drop]
 rw [this]
 exact h.append h'
theorem RdC.end_part {w : World} {cs : List Value} {n : Nat} (h : cs.length = n) : RdC w [] (cs.drop n) := by
 rw [List.drop_eq_nil_of_le (by omega)]
 exact ⟨rfl, fun i t v h => by simp at h⟩
end Go.Proofs.YtimmbmphfgnelaaGreat.VM
namespace Go.Proofs.YtimmbmphfgnelaaGreat.VM
open Go Go.RowKit
end Go.Proofs.YtimmbmphfgnelaaGreat.VM
namespace Go.Proofs.YtimmbmphfgnelaaGreat.VM
open Go Go.RowKit
end Go.Proofs.YtimmbmphfgnelaaGreat.VM
namespace Go.Proofs.YtimmbmphfgnelaaGreat.VM
open Go Go.RowKit
section
variable {P : Program} {L : List E} {dst : Option Tmp} {ty : TypeId} {pos : String} {af : Array Edge} {g : Option (Nat × Bool)}
end
end Go.Proofs.YtimmbmphfgnelaaGreat.VM
namespace Go.Proofs.YtimmbmphfgnelaaGreat.VM
open Go Go.RowKit
end Go.Proofs.YtimmbmphfgnelaaGreat.VM
namespace Go.Proofs.YtimmbmphfgnelaaGreat.VM
open Go Go.RowKit
section
variable {P : Program} {N : Nat} {Q : Exit → List E → Prop} {L : List E} {ops : Array Oper} {l : List Oper} {qs pend todo : List Nat} {S : Array Bool} {m : M} {t : T}
end
end Go.Proofs.YtimmbmphfgnelaaGreat.VM
namespace Go.Proofs.YtimmbmphfgnelaaGreat.VM
end Go.Proofs.YtimmbmphfgnelaaGreat.VM
namespace Go.Proofs.YtimmbmphfgnelaaGreat.VM
open Go Go.RowKit
section
variable {P : Program} {L : List E} {dst : Option Tmp} {ty : TypeId} {pos : String} {af : Array Edge} {g : Option (Nat × Bool)}
end
end Go.Proofs.YtimmbmphfgnelaaGreat.VM
namespace Go.Proofs.YtimmbmphfgnelaaGreat.VM
end Go.Proofs.YtimmbmphfgnelaaGreat.VM
namespace Go.Proofs.YtimmbmphfgnelaaGreat.VM
open Go Go.RowKit
section
variable {P : Program} {N : Nat} {Q : Exit → List E → Prop} {L L' : List E} {ops : Array Oper} {l : List Oper} {qs pend todo : List Nat} {S : Array Bool}
end
section
variable {P : Program} {L : List E} {dst : Option Tmp} {ty : TypeId} {pos : String} {af : Array Edge} {g : Option (Nat × Bool)}
end
end Go.Proofs.YtimmbmphfgnelaaGreat.VM
namespace Go.Proofs.YtimmbmphfgnelaaGreat.VM
open Go Go.RowKit
section
variable {P : Program} {N : Nat} {Q : Exit → List E → Prop} {L : List E} {ops : Array Oper} {l : List Oper}
end
end Go.Proofs.YtimmbmphfgnelaaGreat.VM
namespace Go.Proofs.YtimmbmphfgnelaaGreat.VM
end Go.Proofs.YtimmbmphfgnelaaGreat.VM
namespace Go.Proofs.YtimmbmphfgnelaaGreat.VM
open Go Go.RowKit
section
variable {P : Program} {N : Nat} {Q : Exit → List E → Prop} {L : List E}
end
end Go.Proofs.YtimmbmphfgnelaaGreat.VM
namespace Go.Proofs.YtimmbmphfgnelaaGreat.VM
end Go.Proofs.YtimmbmphfgnelaaGreat.VM
namespace Go.Proofs.YtimmbmphfgnelaaGreat.VM
end Go.Proofs.YtimmbmphfgnelaaGreat.VM
namespace Go.Proofs.YtimmbmphfgnelaaGreat.VM
end Go.Proofs.YtimmbmphfgnelaaGreat.VM
namespace Go.Proofs.YtimmbmphfgnelaaGreat.VM
end Go.Proofs.YtimmbmphfgnelaaGreat.VM
namespace Go.Proofs.YtimmbmphfgnelaaGreat.VM
end Go.Proofs.YtimmbmphfgnelaaGreat.VM
namespace Go.Proofs.YtimmbmphfgnelaaGreat.VM
open Go Go.RowKit
section
variable {P : Program} {N : Nat} {Q : Exit → List E → Prop} {L L' : List E} {ops : Array Oper} {cx : Cx} {a b : Act} {w : World} {S R S' : Array Bool} {pend pend' todo qs : List Nat}
end
end Go.Proofs.YtimmbmphfgnelaaGreat.VM
namespace Go.Proofs.YtimmbmphfgnelaaGreat.VM
open Go Go.RowKit
section
variable {P : Program} {N : Nat} {Q : Exit → List E → Prop} {L : List E}
end
end Go.Proofs.YtimmbmphfgnelaaGreat.VM
namespace Go.Proofs.YtimmbmphfgnelaaGreat.VM
open Go Go.RowKit
section
variable {P : Program} {L : List E} {dst : Option Tmp} {ty : TypeId} {pos : String} {af : Array Edge} {g : Option (Nat × Bool)}
end
end Go.Proofs.YtimmbmphfgnelaaGreat.VM
namespace Go.Proofs.YtimmbmphfgnelaaGreat.VM
open Go Go.RowKit
end Go.Proofs.YtimmbmphfgnelaaGreat.VM
namespace Go.Proofs.YtimmbmphfgnelaaGreat.VM
open Go Go.RowKit
section
variable {P : Program} {N : Nat} {Q : Exit → List E → Prop} {L : List E}
end
end Go.Proofs.YtimmbmphfgnelaaGreat.VM
namespace Go.Proofs.YtimmbmphfgnelaaGreat.VM
open Go Go.RowKit
end Go.Proofs.YtimmbmphfgnelaaGreat.VM
namespace Go.Proofs.YtimmbmphfgnelaaGreat.VM
open Go Go.RowKit
section
variable {P : Program} {N : Nat} {L : List E} {dst : Option Tmp} {ty : TypeId} {pos : String} {af : Array Edge} {g : Option (Nat × Bool)}
end
end Go.Proofs.YtimmbmphfgnelaaGreat.VM
namespace Go.Proofs.YtimmbmphfgnelaaGreat.VM
open Go Go.RowKit Go.Sort
end Go.Proofs.YtimmbmphfgnelaaGreat.VM
namespace Go.Proofs.YtimmbmphfgnelaaGreat.VM
open Go Go.RowKit
end Go.Proofs.YtimmbmphfgnelaaGreat.VM
namespace Go.Proofs.YtimmbmphfgnelaaGreat.VM
open Go Go.RowKit
section
variable {P : Program} {N : Nat} {L : List E} {dst : Option Tmp} {ty : TypeId} {pos : String} {af : Array Edge} {g : Option (Nat × Bool)} {d : Nat}
end
end Go.Proofs.YtimmbmphfgnelaaGreat.VM
namespace Go.Proofs.YtimmbmphfgnelaaGreat.VM
open Go Go.RowKit
section
variable {R R' : RT} {H H' : Nat → Value} {w w' : World}
end
end Go.Proofs.YtimmbmphfgnelaaGreat.VM
namespace Go.Proofs.YtimmbmphfgnelaaGreat.VM
open Go Go.RowKit
end Go.Proofs.YtimmbmphfgnelaaGreat.VM
namespace Go.Proofs.YtimmbmphfgnelaaGreat.VM
open Go Go.RowKit
section
variable {P : Program} {N : Nat} {L L' : List E} {Q : Exit → List E → Prop} {ops : Array Oper} {rest : List Oper} {o : Oper} {qs pend todo : List Nat} {S : Array Bool}
end
section
variable {P : Program} {L : List E} {dst : Option Tmp} {ty : TypeId} {pos : String} {af : Array Edge} {g : Option (Nat × Bool)}
end
section
variable {P : Program} {N : Nat} {L : List E} {Q : Exit → List E → Prop} {ops : Array Oper} {rest : List Oper} {d : Nat} {ty : TypeId} {pos : String} {af : Array Edge} {g : Option (Nat × Bool)}
end
end Go.Proofs.YtimmbmphfgnelaaGreat.VM
