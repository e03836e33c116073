/-
  No cell of these rows narrows 'for every input' (looked for: loops, veiled, ifaces, maps, wideKeys, modest, calm, conditions, laid).
  DERIVED. THE GIVEN ROWS OF THIS SEAT. 3 by the template 'for every input the law returns true; each argument reads behind the call as it read before'; 0 by the template 'total and deterministic' (their statements: YtekcnnngjoonbaaGreatTotals.lean).
  GIVEN WITH THE SEED: the statements are not yours to turn. If you find one false, say at which input.
  Laid BY PROGRAM, IN A SANDBOX (cutbox-rows.mjs): the forced cells as the released guide's own fill.sh prints them over the translation 3eb45a6ea5895dd0… (all of the seat's roots in one cut). By AI agents, Wed Nov 11 2026. No macro, syntax, notation, axiom, sorry.
-/
import Derived.Test.YtekcnnngjoonbaaGreatChecked
import GoSem.Claim
import GoSem.ClaimJoined
import GoSem.ClaimMapViews
import Derived.JoinedTies
import Derived.KernelRfl
namespace Go.Proofs.YtekcnnngjoonbaaGreat
/- THE CELL 'sum', in the pinned program and in every row, IS THE sha256 OF THE DUMP (.gsa) THAT YtekcnnngjoonbaaGreatProg.lean LOADS. Nothing in Lean hashes anything: it is a label: what it is worth is what the hold of that sum in a sandbox is worth. -/
noncomputable def Tryz.pinned : Pinned := { name := "ytekcnnngjoonbaagreat", sum := "3eb45a6ea5895dd0faff2405a7eaaeeec94a6378785357f8ae8ee2591dbd6968", checked := Tryz.checked }
namespace Rows
def none {H : Type} : Left H := { results := [], args := [] }

/-- 'laws.FnExactAbsB': WHATEVER THE INPUT: true; the input reads as it did. -/
def fnExactAbsBSpec : ChangeSpec := { name := "fnExactAbsB", fn := fun _ => fun
  | [d] => { results := [.lit (.bool true)], args := [d] }
  | _ => none }
def fnExactAbsBRow : OpenClaim := { program := "ytekcnnngjoonbaagreat", sum := "3eb45a6ea5895dd0faff2405a7eaaeeec94a6378785357f8ae8ee2591dbd6968", func := "loop.example/g00781/laws.FnExactAbsB", spec := "fnExactAbsB", unfollowed := true, recurses := true, apart := false }
def FnExactAbsBSaid : Prop := fnExactAbsBRow.holds Tryz.pinned (OpenSpec.ofChange fnExactAbsBSpec)

/-- ITS FALSE NEIGHBOUR: 'it returns false'. Refute it at one input. -/
def fnExactAbsBWrong : ChangeSpec := { name := "fnExactAbsB", fn := fun _ => fun
  | [d] => { results := [.lit (.bool false)], args := [d] }
  | _ => none }
def FnExactAbsBWrongFalsely : Prop := fnExactAbsBRow.holds Tryz.pinned (OpenSpec.ofChange fnExactAbsBWrong)

/-- 'laws.FnExactBOk': WHATEVER THE INPUT: true; the input reads as it did. -/
def fnExactBOkSpec : ChangeSpec := { name := "fnExactBOk", fn := fun _ => fun
  | [d] => { results := [.lit (.bool true)], args := [d] }
  | _ => none }
def fnExactBOkRow : OpenClaim := { program := "ytekcnnngjoonbaagreat", sum := "3eb45a6ea5895dd0faff2405a7eaaeeec94a6378785357f8ae8ee2591dbd6968", func := "loop.example/g00781/laws.FnExactBOk", spec := "fnExactBOk", unfollowed := true, recurses := true, apart := false }
def FnExactBOkSaid : Prop := fnExactBOkRow.holds Tryz.pinned (OpenSpec.ofChange fnExactBOkSpec)

/-- ITS FALSE NEIGHBOUR: 'it returns false'. Refute it at one input. -/
def fnExactBOkWrong : ChangeSpec := { name := "fnExactBOk", fn := fun _ => fun
  | [d] => { results := [.lit (.bool false)], args := [d] }
  | _ => none }
def FnExactBOkWrongFalsely : Prop := fnExactBOkRow.holds Tryz.pinned (OpenSpec.ofChange fnExactBOkWrong)

/-- 'laws.FnExactImageB': WHATEVER THE INPUT: true; the input reads as it did. -/
def fnExactImageBSpec : ChangeSpec := { name := "fnExactImageB", fn := fun _ => fun
  | [d] => { results := [.lit (.bool true)], args := [d] }
  | _ => none }
def fnExactImageBRow : OpenClaim := { program := "ytekcnnngjoonbaagreat", sum := "3eb45a6ea5895dd0faff2405a7eaaeeec94a6378785357f8ae8ee2591dbd6968", func := "loop.example/g00781/laws.FnExactImageB", spec := "fnExactImageB", inPlace := ["internal/abi.NoEscape", "internal/bytealg.MakeNoZero"], unfollowed := true, recurses := true, apart := false }
def FnExactImageBSaid : Prop := fnExactImageBRow.holds Tryz.pinned (OpenSpec.ofChange fnExactImageBSpec)

/-- ITS FALSE NEIGHBOUR: 'it returns false'. Refute it at one input. -/
def fnExactImageBWrong : ChangeSpec := { name := "fnExactImageB", fn := fun _ => fun
  | [d] => { results := [.lit (.bool false)], args := [d] }
  | _ => none }
def FnExactImageBWrongFalsely : Prop := fnExactImageBRow.holds Tryz.pinned (OpenSpec.ofChange fnExactImageBWrong)

/- THE SECOND FORM. 'bulk': how many values and letters a reading holds, each counted each time it is reached (what is shared counts as often as it is met; a slice's spare places count too). A statement '..UptoSaid' is the law's where the arguments, and the package variables that the reading takes, are together of bulk at most 1048576: NARROWER than '..Said'. Prove '..Said' where nothing that the law and all that it calls make is longer than what came in: it says more and counts as full. Else prove '..UptoSaid'. A law counts once. -/
mutual
def uptoBulk {H : Type} : DataW H → Nat
  | .lit (.string bytes) => bytes.length + 1
  | .lit _ => 1
  | .nil => 1
  | .ptr d => uptoBulk d + 1
  | .slice elems spare => uptoBulkAll elems + uptoBulkAll spare + 1
  | .agg parts => uptoBulkAll parts + 1
  | .iface _ d => uptoBulk d + 1
  | .map entries => uptoBulkEntries entries + 1
  | .held _ => 1
def uptoBulkAll {H : Type} : List (DataW H) → Nat
  | [] => 0
  | d :: r => uptoBulk d + uptoBulkAll r
def uptoBulkEntries {H : Type} : List (Lit × DataW H) → Nat
  | [] => 0
  | x :: r => uptoBulkEntry x + uptoBulkEntries r
def uptoBulkEntry {H : Type} : Lit × DataW H → Nat
  | (.string bytes, d) => bytes.length + uptoBulk d + 1
  | (_, d) => uptoBulk d + 1
 end
def uptoSmall : (H : Type) → List (DataW H) → Bool := fun _ ds => decide (uptoBulkAll ds ≤ 1048576)
def OpenSpec.upto (s : _root_.Go.ChangeSpec) : _root_.Go.OpenSpec := { _root_.Go.OpenSpec.ofChange s with cond := some uptoSmall }

/-- 'laws.FnExactAbsB', WHERE WHAT IT READS IS OF BULK AT MOST 1048576: true; the input reads as it did. -/
def fnExactAbsBUptoRow : OpenClaim := { program := "ytekcnnngjoonbaagreat", sum := "3eb45a6ea5895dd0faff2405a7eaaeeec94a6378785357f8ae8ee2591dbd6968", func := "loop.example/g00781/laws.FnExactAbsB", spec := "fnExactAbsB", unfollowed := true, recurses := true, apart := false, narrowed := true }
def FnExactAbsBUptoSaid : Prop := fnExactAbsBUptoRow.holds Tryz.pinned (OpenSpec.upto fnExactAbsBSpec)

/-- 'laws.FnExactBOk', WHERE WHAT IT READS IS OF BULK AT MOST 1048576: true; the input reads as it did. -/
def fnExactBOkUptoRow : OpenClaim := { program := "ytekcnnngjoonbaagreat", sum := "3eb45a6ea5895dd0faff2405a7eaaeeec94a6378785357f8ae8ee2591dbd6968", func := "loop.example/g00781/laws.FnExactBOk", spec := "fnExactBOk", unfollowed := true, recurses := true, apart := false, narrowed := true }
def FnExactBOkUptoSaid : Prop := fnExactBOkUptoRow.holds Tryz.pinned (OpenSpec.upto fnExactBOkSpec)

/-- 'laws.FnExactImageB', WHERE WHAT IT READS IS OF BULK AT MOST 1048576: true; the input reads as it did. -/
def fnExactImageBUptoRow : OpenClaim := { program := "ytekcnnngjoonbaagreat", sum := "3eb45a6ea5895dd0faff2405a7eaaeeec94a6378785357f8ae8ee2591dbd6968", func := "loop.example/g00781/laws.FnExactImageB", spec := "fnExactImageB", inPlace := ["internal/abi.NoEscape", "internal/bytealg.MakeNoZero"], unfollowed := true, recurses := true, apart := false, narrowed := true }
def FnExactImageBUptoSaid : Prop := fnExactImageBUptoRow.holds Tryz.pinned (OpenSpec.upto fnExactImageBSpec)

end Rows
end Go.Proofs.YtekcnnngjoonbaaGreat
