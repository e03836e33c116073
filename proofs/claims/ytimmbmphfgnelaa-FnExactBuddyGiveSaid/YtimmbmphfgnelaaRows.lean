/-
  No cell of these rows narrows 'for every input' (looked for: loops, veiled, ifaces, maps, wideKeys, modest, calm, conditions, laid).
  DERIVED. THE GIVEN ROWS OF THIS SEAT. 5 by the template 'for every input the law returns true; each argument reads behind the call as it read before'; 0 by the template 'total and deterministic' (their statements: YtimmbmphfgnelaaTotals.lean).
  GIVEN WITH THE SEED: the statements are not yours to turn. If you find one false, say at which input.
  Laid BY PROGRAM, IN A SANDBOX (cutbox-rows.mjs): the forced cells as the released guide's own fill.sh prints them over the translation cdf3614175d636a4… (all of the seat's roots in one cut). By AI agents, Wed Nov 11 2026. No macro, syntax, notation, axiom, sorry.
-/
import Derived.Test.YtimmbmphfgnelaaChecked
import GoSem.Claim
import GoSem.ClaimJoined
import GoSem.ClaimMapViews
import Derived.JoinedTies
import Derived.KernelRfl
namespace Go.Proofs.Ytimmbmphfgnelaa
/- THE CELL 'sum', in the pinned program and in every row, IS THE sha256 OF THE DUMP (.gsa) THAT YtimmbmphfgnelaaProg.lean LOADS. Nothing in Lean hashes anything: it is a label: what it is worth is what the hold of that sum in a sandbox is worth. -/
noncomputable def Try.pinned : Pinned := { name := "ytimmbmphfgnelaa", sum := "cdf3614175d636a40dd67188685d94f9f85bc57f7bf1a989c70830969f5dd809", checked := Try.checked }
namespace Rows
def none {H : Type} : Left H := { results := [], args := [] }

/-- 'laws.FnExactBSize': WHATEVER THE INPUT: true; the input reads as it did. -/
def fnExactBSizeSpec : ChangeSpec := { name := "fnExactBSize", fn := fun _ => fun
  | [d] => { results := [.lit (.bool true)], args := [d] }
  | _ => none }
def fnExactBSizeRow : OpenClaim := { program := "ytimmbmphfgnelaa", sum := "cdf3614175d636a40dd67188685d94f9f85bc57f7bf1a989c70830969f5dd809", func := "loop.example/g00781/laws.FnExactBSize", spec := "fnExactBSize", unfollowed := true, recurses := true, apart := false }
def FnExactBSizeSaid : Prop := fnExactBSizeRow.holds Try.pinned (OpenSpec.ofChange fnExactBSizeSpec)

/-- ITS FALSE NEIGHBOUR: 'it returns false'. Refute it at one input. -/
def fnExactBSizeWrong : ChangeSpec := { name := "fnExactBSize", fn := fun _ => fun
  | [d] => { results := [.lit (.bool false)], args := [d] }
  | _ => none }
def FnExactBSizeWrongFalsely : Prop := fnExactBSizeRow.holds Try.pinned (OpenSpec.ofChange fnExactBSizeWrong)

/-- 'laws.FnExactASize': WHATEVER THE INPUT: true; the input reads as it did. -/
def fnExactASizeSpec : ChangeSpec := { name := "fnExactASize", fn := fun _ => fun
  | [d] => { results := [.lit (.bool true)], args := [d] }
  | _ => none }
def fnExactASizeRow : OpenClaim := { program := "ytimmbmphfgnelaa", sum := "cdf3614175d636a40dd67188685d94f9f85bc57f7bf1a989c70830969f5dd809", func := "loop.example/g00781/laws.FnExactASize", spec := "fnExactASize", unfollowed := true, recurses := true, apart := false }
def FnExactASizeSaid : Prop := fnExactASizeRow.holds Try.pinned (OpenSpec.ofChange fnExactASizeSpec)

/-- ITS FALSE NEIGHBOUR: 'it returns false'. Refute it at one input. -/
def fnExactASizeWrong : ChangeSpec := { name := "fnExactASize", fn := fun _ => fun
  | [d] => { results := [.lit (.bool false)], args := [d] }
  | _ => none }
def FnExactASizeWrongFalsely : Prop := fnExactASizeRow.holds Try.pinned (OpenSpec.ofChange fnExactASizeWrong)

/-- 'laws.FnExactBoot': WHATEVER THE INPUT: true; the input reads as it did. -/
def fnExactBootSpec : ChangeSpec := { name := "fnExactBoot", fn := fun _ => fun
  | [d] => { results := [.lit (.bool true)], args := [d] }
  | _ => none }
def fnExactBootRow : OpenClaim := { program := "ytimmbmphfgnelaa", sum := "cdf3614175d636a40dd67188685d94f9f85bc57f7bf1a989c70830969f5dd809", func := "loop.example/g00781/laws.FnExactBoot", spec := "fnExactBoot", unfollowed := true, recurses := true, apart := false }
def FnExactBootSaid : Prop := fnExactBootRow.holds Try.pinned (OpenSpec.ofChange fnExactBootSpec)

/-- ITS FALSE NEIGHBOUR: 'it returns false'. Refute it at one input. -/
def fnExactBootWrong : ChangeSpec := { name := "fnExactBoot", fn := fun _ => fun
  | [d] => { results := [.lit (.bool false)], args := [d] }
  | _ => none }
def FnExactBootWrongFalsely : Prop := fnExactBootRow.holds Try.pinned (OpenSpec.ofChange fnExactBootWrong)

/-- 'laws.FnExactBuddyTake': WHATEVER THE INPUT: true; the input reads as it did. -/
def fnExactBuddyTakeSpec : ChangeSpec := { name := "fnExactBuddyTake", fn := fun _ => fun
  | [d] => { results := [.lit (.bool true)], args := [d] }
  | _ => none }
def fnExactBuddyTakeRow : OpenClaim := { program := "ytimmbmphfgnelaa", sum := "cdf3614175d636a40dd67188685d94f9f85bc57f7bf1a989c70830969f5dd809", func := "loop.example/g00781/laws.FnExactBuddyTake", spec := "fnExactBuddyTake", inPlace := ["slices.overlaps[int]"], unfollowed := true, recurses := true, apart := false }
def FnExactBuddyTakeSaid : Prop := fnExactBuddyTakeRow.holds Try.pinned (OpenSpec.ofChange fnExactBuddyTakeSpec)

/-- ITS FALSE NEIGHBOUR: 'it returns false'. Refute it at one input. -/
def fnExactBuddyTakeWrong : ChangeSpec := { name := "fnExactBuddyTake", fn := fun _ => fun
  | [d] => { results := [.lit (.bool false)], args := [d] }
  | _ => none }
def FnExactBuddyTakeWrongFalsely : Prop := fnExactBuddyTakeRow.holds Try.pinned (OpenSpec.ofChange fnExactBuddyTakeWrong)

/-- 'laws.FnExactBuddyGive': WHATEVER THE INPUT: true; the input reads as it did. -/
def fnExactBuddyGiveSpec : ChangeSpec := { name := "fnExactBuddyGive", fn := fun _ => fun
  | [d1, d2] => { results := [.lit (.bool true)], args := [d1, d2] }
  | _ => none }
def fnExactBuddyGiveRow : OpenClaim := { program := "ytimmbmphfgnelaa", sum := "cdf3614175d636a40dd67188685d94f9f85bc57f7bf1a989c70830969f5dd809", func := "loop.example/g00781/laws.FnExactBuddyGive", spec := "fnExactBuddyGive", inPlace := ["slices.overlaps[int]"], apart := false }
def FnExactBuddyGiveSaid : Prop := fnExactBuddyGiveRow.holds Try.pinned (OpenSpec.ofChange fnExactBuddyGiveSpec)

/-- ITS FALSE NEIGHBOUR: 'it returns false'. Refute it at one input. -/
def fnExactBuddyGiveWrong : ChangeSpec := { name := "fnExactBuddyGive", fn := fun _ => fun
  | [d1, d2] => { results := [.lit (.bool false)], args := [d1, d2] }
  | _ => none }
def FnExactBuddyGiveWrongFalsely : Prop := fnExactBuddyGiveRow.holds Try.pinned (OpenSpec.ofChange fnExactBuddyGiveWrong)

/- THE SECOND FORM. 'bulk': how many values and letters a reading holds, each counted each time it is reached (what is shared counts as often as it is met; a slice's spare places count too). A statement '..UptoSaid' is the law's where the arguments, and the package variables that the reading takes, are together of bulk at most 1048576: NARROWER than '..Said'. Prove '..Said' where nothing that the law and all that it calls make is longer than what came in: it says more and counts as full. Else prove '..UptoSaid'. A law counts once. -/
mutual
def uptoBulk {H : Type} : DataW H → Nat
  | .lit (.string bytes) => bytes.length + 1
  | .lit _ => 1
  | .nil => 1
  | .ptr d => uptoBulk d + 1
  | .slice elems spare => uptoBulkAll elems + uptoBulkAll spare + 1
  | .agg parts => uptoBulkAll parts + 1
  | .iface _ d => uptoBulk d + 1
  | .map entries => uptoBulkEntries entries + 1
  | .held _ => 1
def uptoBulkAll {H : Type} : List (DataW H) → Nat
  | [] => 0
  | d :: r => uptoBulk d + uptoBulkAll r
def uptoBulkEntries {H : Type} : List (Lit × DataW H) → Nat
  | [] => 0
  | x :: r => uptoBulkEntry x + uptoBulkEntries r
def uptoBulkEntry {H : Type} : Lit × DataW H → Nat
  | (.string bytes, d) => bytes.length + uptoBulk d + 1
  | (_, d) => uptoBulk d + 1
 end
def uptoSmall : (H : Type) → List (DataW H) → Bool := fun _ ds => decide (uptoBulkAll ds ≤ 1048576)
def OpenSpec.upto (s : _root_.Go.ChangeSpec) : _root_.Go.OpenSpec := { _root_.Go.OpenSpec.ofChange s with cond := some uptoSmall }

/-- 'laws.FnExactBSize', WHERE WHAT IT READS IS OF BULK AT MOST 1048576: true; the input reads as it did. -/
def fnExactBSizeUptoRow : OpenClaim := { program := "ytimmbmphfgnelaa", sum := "cdf3614175d636a40dd67188685d94f9f85bc57f7bf1a989c70830969f5dd809", func := "loop.example/g00781/laws.FnExactBSize", spec := "fnExactBSize", unfollowed := true, recurses := true, apart := false, narrowed := true }
def FnExactBSizeUptoSaid : Prop := fnExactBSizeUptoRow.holds Try.pinned (OpenSpec.upto fnExactBSizeSpec)

/-- 'laws.FnExactASize', WHERE WHAT IT READS IS OF BULK AT MOST 1048576: true; the input reads as it did. -/
def fnExactASizeUptoRow : OpenClaim := { program := "ytimmbmphfgnelaa", sum := "cdf3614175d636a40dd67188685d94f9f85bc57f7bf1a989c70830969f5dd809", func := "loop.example/g00781/laws.FnExactASize", spec := "fnExactASize", unfollowed := true, recurses := true, apart := false, narrowed := true }
def FnExactASizeUptoSaid : Prop := fnExactASizeUptoRow.holds Try.pinned (OpenSpec.upto fnExactASizeSpec)

/-- 'laws.FnExactBoot', WHERE WHAT IT READS IS OF BULK AT MOST 1048576: true; the input reads as it did. -/
def fnExactBootUptoRow : OpenClaim := { program := "ytimmbmphfgnelaa", sum := "cdf3614175d636a40dd67188685d94f9f85bc57f7bf1a989c70830969f5dd809", func := "loop.example/g00781/laws.FnExactBoot", spec := "fnExactBoot", unfollowed := true, recurses := true, apart := false, narrowed := true }
def FnExactBootUptoSaid : Prop := fnExactBootUptoRow.holds Try.pinned (OpenSpec.upto fnExactBootSpec)

/-- 'laws.FnExactBuddyTake', WHERE WHAT IT READS IS OF BULK AT MOST 1048576: true; the input reads as it did. -/
def fnExactBuddyTakeUptoRow : OpenClaim := { program := "ytimmbmphfgnelaa", sum := "cdf3614175d636a40dd67188685d94f9f85bc57f7bf1a989c70830969f5dd809", func := "loop.example/g00781/laws.FnExactBuddyTake", spec := "fnExactBuddyTake", inPlace := ["slices.overlaps[int]"], unfollowed := true, recurses := true, apart := false, narrowed := true }
def FnExactBuddyTakeUptoSaid : Prop := fnExactBuddyTakeUptoRow.holds Try.pinned (OpenSpec.upto fnExactBuddyTakeSpec)

/-- 'laws.FnExactBuddyGive', WHERE WHAT IT READS IS OF BULK AT MOST 1048576: true; the input reads as it did. -/
def fnExactBuddyGiveUptoRow : OpenClaim := { program := "ytimmbmphfgnelaa", sum := "cdf3614175d636a40dd67188685d94f9f85bc57f7bf1a989c70830969f5dd809", func := "loop.example/g00781/laws.FnExactBuddyGive", spec := "fnExactBuddyGive", inPlace := ["slices.overlaps[int]"], apart := false, narrowed := true }
def FnExactBuddyGiveUptoSaid : Prop := fnExactBuddyGiveUptoRow.holds Try.pinned (OpenSpec.upto fnExactBuddyGiveSpec)

end Rows
end Go.Proofs.Ytimmbmphfgnelaa
