/-
  No cell of these rows narrows 'for every input' (looked for: loops, veiled, ifaces, maps, wideKeys, modest, calm, conditions, laid).
  DERIVED. THE GIVEN ROWS OF THIS SEAT. 4 by the template 'for every input the law returns true; each argument reads behind the call as it read before'; 0 by the template 'total and deterministic' (their statements: YthjfgpkjooaahaaGreatTotals.lean).
  GIVEN WITH THE SEED: the statements are not yours to turn. If you find one false, say at which input.
  Laid BY PROGRAM, IN A SANDBOX (cutbox-rows.mjs): the forced cells as the released guide's own fill.sh prints them over the translation 36257f8042c708a1… (all of the seat's roots in one cut). By AI agents, Wed Nov 11 2026. No macro, syntax, notation, axiom, sorry.
-/
import Derived.Test.YthjfgpkjooaahaaGreatChecked
import GoSem.Claim
import GoSem.ClaimJoined
import GoSem.ClaimMapViews
import Derived.JoinedTies
import Derived.KernelRfl
namespace Go.Proofs.YthjfgpkjooaahaaGreat
/- THE CELL 'sum', in the pinned program and in every row, IS THE sha256 OF THE DUMP (.gsa) THAT YthjfgpkjooaahaaGreatProg.lean LOADS. Nothing in Lean hashes anything: it is a label: what it is worth is what the hold of that sum in a sandbox is worth. -/
noncomputable def Tryz.pinned : Pinned := { name := "ythjfgpkjooaahaagreat", sum := "36257f8042c708a1580fb9811e760d11455a4e0ac71c67bb356f285699ac9aca", checked := Tryz.checked }
namespace Rows
def none {H : Type} : Left H := { results := [], args := [] }

/-- 'laws.FnExactALoad': WHATEVER THE INPUT: true; the input reads as it did. -/
def fnExactALoadSpec : ChangeSpec := { name := "fnExactALoad", fn := fun _ => fun
  | [d] => { results := [.lit (.bool true)], args := [d] }
  | _ => none }
def fnExactALoadRow : OpenClaim := { program := "ythjfgpkjooaahaagreat", sum := "36257f8042c708a1580fb9811e760d11455a4e0ac71c67bb356f285699ac9aca", func := "loop.example/g00781/laws.FnExactALoad", spec := "fnExactALoad", unfollowed := true, recurses := true, apart := false }
def FnExactALoadSaid : Prop := fnExactALoadRow.holds Tryz.pinned (OpenSpec.ofChange fnExactALoadSpec)

/-- ITS FALSE NEIGHBOUR: 'it returns false'. Refute it at one input. -/
def fnExactALoadWrong : ChangeSpec := { name := "fnExactALoad", fn := fun _ => fun
  | [d] => { results := [.lit (.bool false)], args := [d] }
  | _ => none }
def FnExactALoadWrongFalsely : Prop := fnExactALoadRow.holds Tryz.pinned (OpenSpec.ofChange fnExactALoadWrong)

/-- 'laws.FnExactBLoad': WHATEVER THE INPUT: true; the input reads as it did. -/
def fnExactBLoadSpec : ChangeSpec := { name := "fnExactBLoad", fn := fun _ => fun
  | [d] => { results := [.lit (.bool true)], args := [d] }
  | _ => none }
def fnExactBLoadRow : OpenClaim := { program := "ythjfgpkjooaahaagreat", sum := "36257f8042c708a1580fb9811e760d11455a4e0ac71c67bb356f285699ac9aca", func := "loop.example/g00781/laws.FnExactBLoad", spec := "fnExactBLoad", inPlace := ["slices.overlaps[int]", "slices.overlaps[loop.example/g00781/impl.BProc]", "slices.overlaps[loop.example/g00781/impl.BPipe]"], unfollowed := true, recurses := true, apart := false }
def FnExactBLoadSaid : Prop := fnExactBLoadRow.holds Tryz.pinned (OpenSpec.ofChange fnExactBLoadSpec)

/-- ITS FALSE NEIGHBOUR: 'it returns false'. Refute it at one input. -/
def fnExactBLoadWrong : ChangeSpec := { name := "fnExactBLoad", fn := fun _ => fun
  | [d] => { results := [.lit (.bool false)], args := [d] }
  | _ => none }
def FnExactBLoadWrongFalsely : Prop := fnExactBLoadRow.holds Tryz.pinned (OpenSpec.ofChange fnExactBLoadWrong)

/-- 'laws.FnExactAToB': WHATEVER THE INPUT: true; the input reads as it did. -/
def fnExactAToBSpec : ChangeSpec := { name := "fnExactAToB", fn := fun _ => fun
  | [d] => { results := [.lit (.bool true)], args := [d] }
  | _ => none }
def fnExactAToBRow : OpenClaim := { program := "ythjfgpkjooaahaagreat", sum := "36257f8042c708a1580fb9811e760d11455a4e0ac71c67bb356f285699ac9aca", func := "loop.example/g00781/laws.FnExactAToB", spec := "fnExactAToB", inPlace := ["slices.overlaps[int]", "slices.overlaps[loop.example/g00781/impl.BProc]", "slices.overlaps[loop.example/g00781/impl.BPipe]"], unfollowed := true, recurses := true, apart := false }
def FnExactAToBSaid : Prop := fnExactAToBRow.holds Tryz.pinned (OpenSpec.ofChange fnExactAToBSpec)

/-- ITS FALSE NEIGHBOUR: 'it returns false'. Refute it at one input. -/
def fnExactAToBWrong : ChangeSpec := { name := "fnExactAToB", fn := fun _ => fun
  | [d] => { results := [.lit (.bool false)], args := [d] }
  | _ => none }
def FnExactAToBWrongFalsely : Prop := fnExactAToBRow.holds Tryz.pinned (OpenSpec.ofChange fnExactAToBWrong)

/-- 'laws.FnExactBToA': WHATEVER THE INPUT: true; the input reads as it did. -/
def fnExactBToASpec : ChangeSpec := { name := "fnExactBToA", fn := fun _ => fun
  | [d] => { results := [.lit (.bool true)], args := [d] }
  | _ => none }
def fnExactBToARow : OpenClaim := { program := "ythjfgpkjooaahaagreat", sum := "36257f8042c708a1580fb9811e760d11455a4e0ac71c67bb356f285699ac9aca", func := "loop.example/g00781/laws.FnExactBToA", spec := "fnExactBToA", unfollowed := true, recurses := true, apart := false }
def FnExactBToASaid : Prop := fnExactBToARow.holds Tryz.pinned (OpenSpec.ofChange fnExactBToASpec)

/-- ITS FALSE NEIGHBOUR: 'it returns false'. Refute it at one input. -/
def fnExactBToAWrong : ChangeSpec := { name := "fnExactBToA", fn := fun _ => fun
  | [d] => { results := [.lit (.bool false)], args := [d] }
  | _ => none }
def FnExactBToAWrongFalsely : Prop := fnExactBToARow.holds Tryz.pinned (OpenSpec.ofChange fnExactBToAWrong)

/- THE SECOND FORM. 'bulk': how many values and letters a reading holds, each counted each time it is reached (what is shared counts as often as it is met; a slice's spare places count too). A statement '..UptoSaid' is the law's where the arguments, and the package variables that the reading takes, are together of bulk at most 1048576: NARROWER than '..Said'. Prove '..Said' where nothing that the law and all that it calls make is longer than what came in: it says more and counts as full. Else prove '..UptoSaid'. A law counts once. -/
mutual
def uptoBulk {H : Type} : DataW H → Nat
  | .lit (.string bytes) => bytes.length + 1
  | .lit _ => 1
  | .nil => 1
  | .ptr d => uptoBulk d + 1
  | .slice elems spare => uptoBulkAll elems + uptoBulkAll spare + 1
  | .agg parts => uptoBulkAll parts + 1
  | .iface _ d => uptoBulk d + 1
  | .map entries => uptoBulkEntries entries + 1
  | .held _ => 1
def uptoBulkAll {H : Type} : List (DataW H) → Nat
  | [] => 0
  | d :: r => uptoBulk d + uptoBulkAll r
def uptoBulkEntries {H : Type} : List (Lit × DataW H) → Nat
  | [] => 0
  | x :: r => uptoBulkEntry x + uptoBulkEntries r
def uptoBulkEntry {H : Type} : Lit × DataW H → Nat
  | (.string bytes, d) => bytes.length + uptoBulk d + 1
  | (_, d) => uptoBulk d + 1
 end
def uptoSmall : (H : Type) → List (DataW H) → Bool := fun _ ds => decide (uptoBulkAll ds ≤ 1048576)
def OpenSpec.upto (s : _root_.Go.ChangeSpec) : _root_.Go.OpenSpec := { _root_.Go.OpenSpec.ofChange s with cond := some uptoSmall }

/-- 'laws.FnExactALoad', WHERE WHAT IT READS IS OF BULK AT MOST 1048576: true; the input reads as it did. -/
def fnExactALoadUptoRow : OpenClaim := { program := "ythjfgpkjooaahaagreat", sum := "36257f8042c708a1580fb9811e760d11455a4e0ac71c67bb356f285699ac9aca", func := "loop.example/g00781/laws.FnExactALoad", spec := "fnExactALoad", unfollowed := true, recurses := true, apart := false, narrowed := true }
def FnExactALoadUptoSaid : Prop := fnExactALoadUptoRow.holds Tryz.pinned (OpenSpec.upto fnExactALoadSpec)

/-- 'laws.FnExactBLoad', WHERE WHAT IT READS IS OF BULK AT MOST 1048576: true; the input reads as it did. -/
def fnExactBLoadUptoRow : OpenClaim := { program := "ythjfgpkjooaahaagreat", sum := "36257f8042c708a1580fb9811e760d11455a4e0ac71c67bb356f285699ac9aca", func := "loop.example/g00781/laws.FnExactBLoad", spec := "fnExactBLoad", inPlace := ["slices.overlaps[int]", "slices.overlaps[loop.example/g00781/impl.BProc]", "slices.overlaps[loop.example/g00781/impl.BPipe]"], unfollowed := true, recurses := true, apart := false, narrowed := true }
def FnExactBLoadUptoSaid : Prop := fnExactBLoadUptoRow.holds Tryz.pinned (OpenSpec.upto fnExactBLoadSpec)

/-- 'laws.FnExactAToB', WHERE WHAT IT READS IS OF BULK AT MOST 1048576: true; the input reads as it did. -/
def fnExactAToBUptoRow : OpenClaim := { program := "ythjfgpkjooaahaagreat", sum := "36257f8042c708a1580fb9811e760d11455a4e0ac71c67bb356f285699ac9aca", func := "loop.example/g00781/laws.FnExactAToB", spec := "fnExactAToB", inPlace := ["slices.overlaps[int]", "slices.overlaps[loop.example/g00781/impl.BProc]", "slices.overlaps[loop.example/g00781/impl.BPipe]"], unfollowed := true, recurses := true, apart := false, narrowed := true }
def FnExactAToBUptoSaid : Prop := fnExactAToBUptoRow.holds Tryz.pinned (OpenSpec.upto fnExactAToBSpec)

/-- 'laws.FnExactBToA', WHERE WHAT IT READS IS OF BULK AT MOST 1048576: true; the input reads as it did. -/
def fnExactBToAUptoRow : OpenClaim := { program := "ythjfgpkjooaahaagreat", sum := "36257f8042c708a1580fb9811e760d11455a4e0ac71c67bb356f285699ac9aca", func := "loop.example/g00781/laws.FnExactBToA", spec := "fnExactBToA", unfollowed := true, recurses := true, apart := false, narrowed := true }
def FnExactBToAUptoSaid : Prop := fnExactBToAUptoRow.holds Tryz.pinned (OpenSpec.upto fnExactBToASpec)

end Rows
end Go.Proofs.YthjfgpkjooaahaaGreat
