/-
  No cell of these rows narrows 'for every input' (looked for: loops, veiled, ifaces, maps, wideKeys, modest, calm, conditions, laid).
  DERIVED. THE GIVEN ROWS OF THIS SEAT. 4 by the template 'for every input the law returns true; each argument reads behind the call as it read before'; 0 by the template 'total and deterministic' (their statements: YtldefnpobjabpaaGreatTotals.lean).
  GIVEN WITH THE SEED: the statements are not yours to turn. If you find one false, say at which input.
  Laid BY PROGRAM, IN A SANDBOX (cutbox-rows.mjs): the forced cells as the released guide's own fill.sh prints them over the translation 1631bf13ea3e1778… (all of the seat's roots in one cut). By AI agents, Wed Nov 11 2026. No macro, syntax, notation, axiom, sorry.
-/
import Derived.Test.YtldefnpobjabpaaGreatChecked
import GoSem.Claim
import GoSem.ClaimJoined
import GoSem.ClaimMapViews
import Derived.JoinedTies
import Derived.KernelRfl
namespace Go.Proofs.YtldefnpobjabpaaGreat
/- THE CELL 'sum', in the pinned program and in every row, IS THE sha256 OF THE DUMP (.gsa) THAT YtldefnpobjabpaaGreatProg.lean LOADS. Nothing in Lean hashes anything: it is a label: what it is worth is what the hold of that sum in a sandbox is worth. -/
noncomputable def Tryz.pinned : Pinned := { name := "ytldefnpobjabpaagreat", sum := "1631bf13ea3e1778fb558ebe37731e918908e9aca377967586495066568cfcaf", checked := Tryz.checked }
namespace Rows
def none {H : Type} : Left H := { results := [], args := [] }

/-- 'laws.FnExactAbsA': WHATEVER THE INPUT: true; the input reads as it did. -/
def fnExactAbsASpec : ChangeSpec := { name := "fnExactAbsA", fn := fun _ => fun
  | [d] => { results := [.lit (.bool true)], args := [d] }
  | _ => none }
def fnExactAbsARow : OpenClaim := { program := "ytldefnpobjabpaagreat", sum := "1631bf13ea3e1778fb558ebe37731e918908e9aca377967586495066568cfcaf", func := "loop.example/g00781/laws.FnExactAbsA", spec := "fnExactAbsA", unfollowed := true, recurses := true, apart := false }
def FnExactAbsASaid : Prop := fnExactAbsARow.holds Tryz.pinned (OpenSpec.ofChange fnExactAbsASpec)

/-- ITS FALSE NEIGHBOUR: 'it returns false'. Refute it at one input. -/
def fnExactAbsAWrong : ChangeSpec := { name := "fnExactAbsA", fn := fun _ => fun
  | [d] => { results := [.lit (.bool false)], args := [d] }
  | _ => none }
def FnExactAbsAWrongFalsely : Prop := fnExactAbsARow.holds Tryz.pinned (OpenSpec.ofChange fnExactAbsAWrong)

/-- 'laws.FnExactAOk': WHATEVER THE INPUT: true; the input reads as it did. -/
def fnExactAOkSpec : ChangeSpec := { name := "fnExactAOk", fn := fun _ => fun
  | [d] => { results := [.lit (.bool true)], args := [d] }
  | _ => none }
def fnExactAOkRow : OpenClaim := { program := "ytldefnpobjabpaagreat", sum := "1631bf13ea3e1778fb558ebe37731e918908e9aca377967586495066568cfcaf", func := "loop.example/g00781/laws.FnExactAOk", spec := "fnExactAOk", unfollowed := true, recurses := true, apart := false }
def FnExactAOkSaid : Prop := fnExactAOkRow.holds Tryz.pinned (OpenSpec.ofChange fnExactAOkSpec)

/-- ITS FALSE NEIGHBOUR: 'it returns false'. Refute it at one input. -/
def fnExactAOkWrong : ChangeSpec := { name := "fnExactAOk", fn := fun _ => fun
  | [d] => { results := [.lit (.bool false)], args := [d] }
  | _ => none }
def FnExactAOkWrongFalsely : Prop := fnExactAOkRow.holds Tryz.pinned (OpenSpec.ofChange fnExactAOkWrong)

/-- 'laws.FnExactImageA': WHATEVER THE INPUT: true; the input reads as it did. -/
def fnExactImageASpec : ChangeSpec := { name := "fnExactImageA", fn := fun _ => fun
  | [d] => { results := [.lit (.bool true)], args := [d] }
  | _ => none }
def fnExactImageARow : OpenClaim := { program := "ytldefnpobjabpaagreat", sum := "1631bf13ea3e1778fb558ebe37731e918908e9aca377967586495066568cfcaf", func := "loop.example/g00781/laws.FnExactImageA", spec := "fnExactImageA", inPlace := ["internal/abi.NoEscape", "internal/bytealg.MakeNoZero"], unfollowed := true, recurses := true, apart := false }
def FnExactImageASaid : Prop := fnExactImageARow.holds Tryz.pinned (OpenSpec.ofChange fnExactImageASpec)

/-- ITS FALSE NEIGHBOUR: 'it returns false'. Refute it at one input. -/
def fnExactImageAWrong : ChangeSpec := { name := "fnExactImageA", fn := fun _ => fun
  | [d] => { results := [.lit (.bool false)], args := [d] }
  | _ => none }
def FnExactImageAWrongFalsely : Prop := fnExactImageARow.holds Tryz.pinned (OpenSpec.ofChange fnExactImageAWrong)

/-- 'laws.FnExactALoad': WHATEVER THE INPUT: true; the input reads as it did. -/
def fnExactALoadSpec : ChangeSpec := { name := "fnExactALoad", fn := fun _ => fun
  | [d] => { results := [.lit (.bool true)], args := [d] }
  | _ => none }
def fnExactALoadRow : OpenClaim := { program := "ytldefnpobjabpaagreat", sum := "1631bf13ea3e1778fb558ebe37731e918908e9aca377967586495066568cfcaf", func := "loop.example/g00781/laws.FnExactALoad", spec := "fnExactALoad", unfollowed := true, recurses := true, apart := false }
def FnExactALoadSaid : Prop := fnExactALoadRow.holds Tryz.pinned (OpenSpec.ofChange fnExactALoadSpec)

/-- ITS FALSE NEIGHBOUR: 'it returns false'. Refute it at one input. -/
def fnExactALoadWrong : ChangeSpec := { name := "fnExactALoad", fn := fun _ => fun
  | [d] => { results := [.lit (.bool false)], args := [d] }
  | _ => none }
def FnExactALoadWrongFalsely : Prop := fnExactALoadRow.holds Tryz.pinned (OpenSpec.ofChange fnExactALoadWrong)

/- THE SECOND FORM. 'bulk': how many values and letters a reading holds, each counted each time it is reached (what is shared counts as often as it is met; a slice's spare places count too). A statement '..UptoSaid' is the law's where the arguments, and the package variables that the reading takes, are together of bulk at most 1048576: NARROWER than '..Said'. Prove '..Said' where nothing that the law and all that it calls make is longer than what came in: it says more and counts as full. Else prove '..UptoSaid'. A law counts once. -/
mutual
def uptoBulk {H : Type} : DataW H → Nat
  | .lit (.string bytes) => bytes.length + 1
  | .lit _ => 1
  | .nil => 1
  | .ptr d => uptoBulk d + 1
  | .slice elems spare => uptoBulkAll elems + uptoBulkAll spare + 1
  | .agg parts => uptoBulkAll parts + 1
  | .iface _ d => uptoBulk d + 1
  | .map entries => uptoBulkEntries entries + 1
  | .held _ => 1
def uptoBulkAll {H : Type} : List (DataW H) → Nat
  | [] => 0
  | d :: r => uptoBulk d + uptoBulkAll r
def uptoBulkEntries {H : Type} : List (Lit × DataW H) → Nat
  | [] => 0
  | x :: r => uptoBulkEntry x + uptoBulkEntries r
def uptoBulkEntry {H : Type} : Lit × DataW H → Nat
  | (.string bytes, d) => bytes.length + uptoBulk d + 1
  | (_, d) => uptoBulk d + 1
 end
def uptoSmall : (H : Type) → List (DataW H) → Bool := fun _ ds => decide (uptoBulkAll ds ≤ 1048576)
def OpenSpec.upto (s : _root_.Go.ChangeSpec) : _root_.Go.OpenSpec := { _root_.Go.OpenSpec.ofChange s with cond := some uptoSmall }

/-- 'laws.FnExactAbsA', WHERE WHAT IT READS IS OF BULK AT MOST 1048576: true; the input reads as it did. -/
def fnExactAbsAUptoRow : OpenClaim := { program := "ytldefnpobjabpaagreat", sum := "1631bf13ea3e1778fb558ebe37731e918908e9aca377967586495066568cfcaf", func := "loop.example/g00781/laws.FnExactAbsA", spec := "fnExactAbsA", unfollowed := true, recurses := true, apart := false, narrowed := true }
def FnExactAbsAUptoSaid : Prop := fnExactAbsAUptoRow.holds Tryz.pinned (OpenSpec.upto fnExactAbsASpec)

/-- 'laws.FnExactAOk', WHERE WHAT IT READS IS OF BULK AT MOST 1048576: true; the input reads as it did. -/
def fnExactAOkUptoRow : OpenClaim := { program := "ytldefnpobjabpaagreat", sum := "1631bf13ea3e1778fb558ebe37731e918908e9aca377967586495066568cfcaf", func := "loop.example/g00781/laws.FnExactAOk", spec := "fnExactAOk", unfollowed := true, recurses := true, apart := false, narrowed := true }
def FnExactAOkUptoSaid : Prop := fnExactAOkUptoRow.holds Tryz.pinned (OpenSpec.upto fnExactAOkSpec)

/-- 'laws.FnExactImageA', WHERE WHAT IT READS IS OF BULK AT MOST 1048576: true; the input reads as it did. -/
def fnExactImageAUptoRow : OpenClaim := { program := "ytldefnpobjabpaagreat", sum := "1631bf13ea3e1778fb558ebe37731e918908e9aca377967586495066568cfcaf", func := "loop.example/g00781/laws.FnExactImageA", spec := "fnExactImageA", inPlace := ["internal/abi.NoEscape", "internal/bytealg.MakeNoZero"], unfollowed := true, recurses := true, apart := false, narrowed := true }
def FnExactImageAUptoSaid : Prop := fnExactImageAUptoRow.holds Tryz.pinned (OpenSpec.upto fnExactImageASpec)

/-- 'laws.FnExactALoad', WHERE WHAT IT READS IS OF BULK AT MOST 1048576: true; the input reads as it did. -/
def fnExactALoadUptoRow : OpenClaim := { program := "ytldefnpobjabpaagreat", sum := "1631bf13ea3e1778fb558ebe37731e918908e9aca377967586495066568cfcaf", func := "loop.example/g00781/laws.FnExactALoad", spec := "fnExactALoad", unfollowed := true, recurses := true, apart := false, narrowed := true }
def FnExactALoadUptoSaid : Prop := fnExactALoadUptoRow.holds Tryz.pinned (OpenSpec.upto fnExactALoadSpec)

end Rows
end Go.Proofs.YtldefnpobjabpaaGreat
