/-
  No cell of these rows narrows 'for every input' (looked for: loops, veiled, ifaces, maps, wideKeys, modest, calm, conditions, laid).
  DERIVED. THE GIVEN ROWS OF THIS SEAT. 10 by the template 'for every input the law returns true; each argument reads behind the call as it read before'; 0 by the template 'total and deterministic' (their statements: YtjfojlaoiifppaaTotals.lean).
  GIVEN WITH THE SEED: the statements are not yours to turn. If you find one false, say at which input.
  Laid BY PROGRAM, IN A SANDBOX (cutbox-rows.mjs): the forced cells as the released guide's own fill.sh prints them over the translation c26782b1cf0ba223… (all of the seat's roots in one cut). By AI agents, Wed Nov 11 2026. No macro, syntax, notation, axiom, sorry.
-/
import Derived.Test.YtjfojlaoiifppaaChecked
import GoSem.Claim
import GoSem.ClaimJoined
import GoSem.ClaimMapViews
import Derived.JoinedTies
import Derived.KernelRfl
namespace Go.Proofs.Ytjfojlaoiifppaa
/- THE CELL 'sum', in the pinned program and in every row, IS THE sha256 OF THE DUMP (.gsa) THAT YtjfojlaoiifppaaProg.lean LOADS. Nothing in Lean hashes anything: it is a label: what it is worth is what the hold of that sum in a sandbox is worth. -/
noncomputable def Try.pinned : Pinned := { name := "ytjfojlaoiifppaa", sum := "c26782b1cf0ba223a30773ea92ca8ed1a496cfab7f350f7fa561a6b72e38eed5", checked := Try.checked }
namespace Rows
def none {H : Type} : Left H := { results := [], args := [] }

/-- 'laws.FnExactCpuOk': WHATEVER THE INPUT: true; the input reads as it did. -/
def fnExactCpuOkSpec : ChangeSpec := { name := "fnExactCpuOk", fn := fun _ => fun
  | [d] => { results := [.lit (.bool true)], args := [d] }
  | _ => none }
def fnExactCpuOkRow : OpenClaim := { program := "ytjfojlaoiifppaa", sum := "c26782b1cf0ba223a30773ea92ca8ed1a496cfab7f350f7fa561a6b72e38eed5", func := "loop.example/g00781/laws.FnExactCpuOk", spec := "fnExactCpuOk", unfollowed := true, recurses := true, apart := false }
def FnExactCpuOkSaid : Prop := fnExactCpuOkRow.holds Try.pinned (OpenSpec.ofChange fnExactCpuOkSpec)

/-- ITS FALSE NEIGHBOUR: 'it returns false'. Refute it at one input. -/
def fnExactCpuOkWrong : ChangeSpec := { name := "fnExactCpuOk", fn := fun _ => fun
  | [d] => { results := [.lit (.bool false)], args := [d] }
  | _ => none }
def FnExactCpuOkWrongFalsely : Prop := fnExactCpuOkRow.holds Try.pinned (OpenSpec.ofChange fnExactCpuOkWrong)

/-- 'laws.FnExactMapTake': WHATEVER THE INPUT: true; the input reads as it did. -/
def fnExactMapTakeSpec : ChangeSpec := { name := "fnExactMapTake", fn := fun _ => fun
  | [d] => { results := [.lit (.bool true)], args := [d] }
  | _ => none }
def fnExactMapTakeRow : OpenClaim := { program := "ytjfojlaoiifppaa", sum := "c26782b1cf0ba223a30773ea92ca8ed1a496cfab7f350f7fa561a6b72e38eed5", func := "loop.example/g00781/laws.FnExactMapTake", spec := "fnExactMapTake", apart := false }
def FnExactMapTakeSaid : Prop := fnExactMapTakeRow.holds Try.pinned (OpenSpec.ofChange fnExactMapTakeSpec)

/-- ITS FALSE NEIGHBOUR: 'it returns false'. Refute it at one input. -/
def fnExactMapTakeWrong : ChangeSpec := { name := "fnExactMapTake", fn := fun _ => fun
  | [d] => { results := [.lit (.bool false)], args := [d] }
  | _ => none }
def FnExactMapTakeWrongFalsely : Prop := fnExactMapTakeRow.holds Try.pinned (OpenSpec.ofChange fnExactMapTakeWrong)

/-- 'laws.FnExactProgOk': WHATEVER THE INPUT: true; the input reads as it did. -/
def fnExactProgOkSpec : ChangeSpec := { name := "fnExactProgOk", fn := fun _ => fun
  | [d] => { results := [.lit (.bool true)], args := [d] }
  | _ => none }
def fnExactProgOkRow : OpenClaim := { program := "ytjfojlaoiifppaa", sum := "c26782b1cf0ba223a30773ea92ca8ed1a496cfab7f350f7fa561a6b72e38eed5", func := "loop.example/g00781/laws.FnExactProgOk", spec := "fnExactProgOk", unfollowed := true, recurses := true, apart := false }
def FnExactProgOkSaid : Prop := fnExactProgOkRow.holds Try.pinned (OpenSpec.ofChange fnExactProgOkSpec)

/-- ITS FALSE NEIGHBOUR: 'it returns false'. Refute it at one input. -/
def fnExactProgOkWrong : ChangeSpec := { name := "fnExactProgOk", fn := fun _ => fun
  | [d] => { results := [.lit (.bool false)], args := [d] }
  | _ => none }
def FnExactProgOkWrongFalsely : Prop := fnExactProgOkRow.holds Try.pinned (OpenSpec.ofChange fnExactProgOkWrong)

/-- 'laws.FnBitmap': WHATEVER THE INPUT: true; the input reads as it did. -/
def fnBitmapSpec : ChangeSpec := { name := "fnBitmap", fn := fun _ => fun
  | [d] => { results := [.lit (.bool true)], args := [d] }
  | _ => none }
def fnBitmapRow : OpenClaim := { program := "ytjfojlaoiifppaa", sum := "c26782b1cf0ba223a30773ea92ca8ed1a496cfab7f350f7fa561a6b72e38eed5", func := "loop.example/g00781/laws.FnBitmap", spec := "fnBitmap", apart := false }
def FnBitmapSaid : Prop := fnBitmapRow.holds Try.pinned (OpenSpec.ofChange fnBitmapSpec)

/-- ITS FALSE NEIGHBOUR: 'it returns false'. Refute it at one input. -/
def fnBitmapWrong : ChangeSpec := { name := "fnBitmap", fn := fun _ => fun
  | [d] => { results := [.lit (.bool false)], args := [d] }
  | _ => none }
def FnBitmapWrongFalsely : Prop := fnBitmapRow.holds Try.pinned (OpenSpec.ofChange fnBitmapWrong)

/-- 'laws.FnExactBuddyAll': WHATEVER THE INPUT: true; the input reads as it did. -/
def fnExactBuddyAllSpec : ChangeSpec := { name := "fnExactBuddyAll", fn := fun _ => fun
  | [] => { results := [.lit (.bool true)], args := [] }
  | _ => none }
def fnExactBuddyAllRow : OpenClaim := { program := "ytjfojlaoiifppaa", sum := "c26782b1cf0ba223a30773ea92ca8ed1a496cfab7f350f7fa561a6b72e38eed5", func := "loop.example/g00781/laws.FnExactBuddyAll", spec := "fnExactBuddyAll", apart := false }
def FnExactBuddyAllSaid : Prop := fnExactBuddyAllRow.holds Try.pinned (OpenSpec.ofChange fnExactBuddyAllSpec)

/-- ITS FALSE NEIGHBOUR: 'it returns false'. Refute it at one input. -/
def fnExactBuddyAllWrong : ChangeSpec := { name := "fnExactBuddyAll", fn := fun _ => fun
  | [] => { results := [.lit (.bool false)], args := [] }
  | _ => none }
def FnExactBuddyAllWrongFalsely : Prop := fnExactBuddyAllRow.holds Try.pinned (OpenSpec.ofChange fnExactBuddyAllWrong)

/-- 'laws.FnExactBuddyOk': WHATEVER THE INPUT: true; the input reads as it did. -/
def fnExactBuddyOkSpec : ChangeSpec := { name := "fnExactBuddyOk", fn := fun _ => fun
  | [d] => { results := [.lit (.bool true)], args := [d] }
  | _ => none }
def fnExactBuddyOkRow : OpenClaim := { program := "ytjfojlaoiifppaa", sum := "c26782b1cf0ba223a30773ea92ca8ed1a496cfab7f350f7fa561a6b72e38eed5", func := "loop.example/g00781/laws.FnExactBuddyOk", spec := "fnExactBuddyOk", apart := false }
def FnExactBuddyOkSaid : Prop := fnExactBuddyOkRow.holds Try.pinned (OpenSpec.ofChange fnExactBuddyOkSpec)

/-- ITS FALSE NEIGHBOUR: 'it returns false'. Refute it at one input. -/
def fnExactBuddyOkWrong : ChangeSpec := { name := "fnExactBuddyOk", fn := fun _ => fun
  | [d] => { results := [.lit (.bool false)], args := [d] }
  | _ => none }
def FnExactBuddyOkWrongFalsely : Prop := fnExactBuddyOkRow.holds Try.pinned (OpenSpec.ofChange fnExactBuddyOkWrong)

/-- 'laws.FnExactBuddyFree': WHATEVER THE INPUT: true; the input reads as it did. -/
def fnExactBuddyFreeSpec : ChangeSpec := { name := "fnExactBuddyFree", fn := fun _ => fun
  | [d] => { results := [.lit (.bool true)], args := [d] }
  | _ => none }
def fnExactBuddyFreeRow : OpenClaim := { program := "ytjfojlaoiifppaa", sum := "c26782b1cf0ba223a30773ea92ca8ed1a496cfab7f350f7fa561a6b72e38eed5", func := "loop.example/g00781/laws.FnExactBuddyFree", spec := "fnExactBuddyFree", apart := false }
def FnExactBuddyFreeSaid : Prop := fnExactBuddyFreeRow.holds Try.pinned (OpenSpec.ofChange fnExactBuddyFreeSpec)

/-- ITS FALSE NEIGHBOUR: 'it returns false'. Refute it at one input. -/
def fnExactBuddyFreeWrong : ChangeSpec := { name := "fnExactBuddyFree", fn := fun _ => fun
  | [d] => { results := [.lit (.bool false)], args := [d] }
  | _ => none }
def FnExactBuddyFreeWrongFalsely : Prop := fnExactBuddyFreeRow.holds Try.pinned (OpenSpec.ofChange fnExactBuddyFreeWrong)

/-- 'laws.FnExactShowProg': WHATEVER THE INPUT: true; the input reads as it did. -/
def fnExactShowProgSpec : ChangeSpec := { name := "fnExactShowProg", fn := fun _ => fun
  | [d] => { results := [.lit (.bool true)], args := [d] }
  | _ => none }
def fnExactShowProgRow : OpenClaim := { program := "ytjfojlaoiifppaa", sum := "c26782b1cf0ba223a30773ea92ca8ed1a496cfab7f350f7fa561a6b72e38eed5", func := "loop.example/g00781/laws.FnExactShowProg", spec := "fnExactShowProg", unfollowed := true, recurses := true, apart := false }
def FnExactShowProgSaid : Prop := fnExactShowProgRow.holds Try.pinned (OpenSpec.ofChange fnExactShowProgSpec)

/-- ITS FALSE NEIGHBOUR: 'it returns false'. Refute it at one input. -/
def fnExactShowProgWrong : ChangeSpec := { name := "fnExactShowProg", fn := fun _ => fun
  | [d] => { results := [.lit (.bool false)], args := [d] }
  | _ => none }
def FnExactShowProgWrongFalsely : Prop := fnExactShowProgRow.holds Try.pinned (OpenSpec.ofChange fnExactShowProgWrong)

/-- 'laws.FnExec': WHATEVER THE INPUT: true; the input reads as it did. -/
def fnExecSpec : ChangeSpec := { name := "fnExec", fn := fun _ => fun
  | [d] => { results := [.lit (.bool true)], args := [d] }
  | _ => none }
def fnExecRow : OpenClaim := { program := "ytjfojlaoiifppaa", sum := "c26782b1cf0ba223a30773ea92ca8ed1a496cfab7f350f7fa561a6b72e38eed5", func := "loop.example/g00781/laws.FnExec", spec := "fnExec", unfollowed := true, recurses := true, apart := false }
def FnExecSaid : Prop := fnExecRow.holds Try.pinned (OpenSpec.ofChange fnExecSpec)

/-- ITS FALSE NEIGHBOUR: 'it returns false'. Refute it at one input. -/
def fnExecWrong : ChangeSpec := { name := "fnExec", fn := fun _ => fun
  | [d] => { results := [.lit (.bool false)], args := [d] }
  | _ => none }
def FnExecWrongFalsely : Prop := fnExecRow.holds Try.pinned (OpenSpec.ofChange fnExecWrong)

/-- 'laws.FnExactExec': WHATEVER THE INPUT: true; the input reads as it did. -/
def fnExactExecSpec : ChangeSpec := { name := "fnExactExec", fn := fun _ => fun
  | [d1, d2, d3] => { results := [.lit (.bool true)], args := [d1, d2, d3] }
  | _ => none }
def fnExactExecRow : OpenClaim := { program := "ytjfojlaoiifppaa", sum := "c26782b1cf0ba223a30773ea92ca8ed1a496cfab7f350f7fa561a6b72e38eed5", func := "loop.example/g00781/laws.FnExactExec", spec := "fnExactExec", unfollowed := true, recurses := true, apart := false }
def FnExactExecSaid : Prop := fnExactExecRow.holds Try.pinned (OpenSpec.ofChange fnExactExecSpec)

/-- ITS FALSE NEIGHBOUR: 'it returns false'. Refute it at one input. -/
def fnExactExecWrong : ChangeSpec := { name := "fnExactExec", fn := fun _ => fun
  | [d1, d2, d3] => { results := [.lit (.bool false)], args := [d1, d2, d3] }
  | _ => none }
def FnExactExecWrongFalsely : Prop := fnExactExecRow.holds Try.pinned (OpenSpec.ofChange fnExactExecWrong)

/- THE SECOND FORM. 'bulk': how many values and letters a reading holds, each counted each time it is reached (what is shared counts as often as it is met; a slice's spare places count too). A statement '..UptoSaid' is the law's where the arguments, and the package variables that the reading takes, are together of bulk at most 1048576: NARROWER than '..Said'. Prove '..Said' where nothing that the law and all that it calls make is longer than what came in: it says more and counts as full. Else prove '..UptoSaid'. A law counts once. -/
mutual
def uptoBulk {H : Type} : DataW H → Nat
  | .lit (.string bytes) => bytes.length + 1
  | .lit _ => 1
  | .nil => 1
  | .ptr d => uptoBulk d + 1
  | .slice elems spare => uptoBulkAll elems + uptoBulkAll spare + 1
  | .agg parts => uptoBulkAll parts + 1
  | .iface _ d => uptoBulk d + 1
  | .map entries => uptoBulkEntries entries + 1
  | .held _ => 1
def uptoBulkAll {H : Type} : List (DataW H) → Nat
  | [] => 0
  | d :: r => uptoBulk d + uptoBulkAll r
def uptoBulkEntries {H : Type} : List (Lit × DataW H) → Nat
  | [] => 0
  | x :: r => uptoBulkEntry x + uptoBulkEntries r
def uptoBulkEntry {H : Type} : Lit × DataW H → Nat
  | (.string bytes, d) => bytes.length + uptoBulk d + 1
  | (_, d) => uptoBulk d + 1
 end
def uptoSmall : (H : Type) → List (DataW H) → Bool := fun _ ds => decide (uptoBulkAll ds ≤ 1048576)
def OpenSpec.upto (s : _root_.Go.ChangeSpec) : _root_.Go.OpenSpec := { _root_.Go.OpenSpec.ofChange s with cond := some uptoSmall }

/-- 'laws.FnExactCpuOk', WHERE WHAT IT READS IS OF BULK AT MOST 1048576: true; the input reads as it did. -/
def fnExactCpuOkUptoRow : OpenClaim := { program := "ytjfojlaoiifppaa", sum := "c26782b1cf0ba223a30773ea92ca8ed1a496cfab7f350f7fa561a6b72e38eed5", func := "loop.example/g00781/laws.FnExactCpuOk", spec := "fnExactCpuOk", unfollowed := true, recurses := true, apart := false, narrowed := true }
def FnExactCpuOkUptoSaid : Prop := fnExactCpuOkUptoRow.holds Try.pinned (OpenSpec.upto fnExactCpuOkSpec)

/-- 'laws.FnExactMapTake', WHERE WHAT IT READS IS OF BULK AT MOST 1048576: true; the input reads as it did. -/
def fnExactMapTakeUptoRow : OpenClaim := { program := "ytjfojlaoiifppaa", sum := "c26782b1cf0ba223a30773ea92ca8ed1a496cfab7f350f7fa561a6b72e38eed5", func := "loop.example/g00781/laws.FnExactMapTake", spec := "fnExactMapTake", apart := false, narrowed := true }
def FnExactMapTakeUptoSaid : Prop := fnExactMapTakeUptoRow.holds Try.pinned (OpenSpec.upto fnExactMapTakeSpec)

/-- 'laws.FnExactProgOk', WHERE WHAT IT READS IS OF BULK AT MOST 1048576: true; the input reads as it did. -/
def fnExactProgOkUptoRow : OpenClaim := { program := "ytjfojlaoiifppaa", sum := "c26782b1cf0ba223a30773ea92ca8ed1a496cfab7f350f7fa561a6b72e38eed5", func := "loop.example/g00781/laws.FnExactProgOk", spec := "fnExactProgOk", unfollowed := true, recurses := true, apart := false, narrowed := true }
def FnExactProgOkUptoSaid : Prop := fnExactProgOkUptoRow.holds Try.pinned (OpenSpec.upto fnExactProgOkSpec)

/-- 'laws.FnBitmap', WHERE WHAT IT READS IS OF BULK AT MOST 1048576: true; the input reads as it did. -/
def fnBitmapUptoRow : OpenClaim := { program := "ytjfojlaoiifppaa", sum := "c26782b1cf0ba223a30773ea92ca8ed1a496cfab7f350f7fa561a6b72e38eed5", func := "loop.example/g00781/laws.FnBitmap", spec := "fnBitmap", apart := false, narrowed := true }
def FnBitmapUptoSaid : Prop := fnBitmapUptoRow.holds Try.pinned (OpenSpec.upto fnBitmapSpec)

/-- 'laws.FnExactBuddyAll', WHERE WHAT IT READS IS OF BULK AT MOST 1048576: true; the input reads as it did. -/
def fnExactBuddyAllUptoRow : OpenClaim := { program := "ytjfojlaoiifppaa", sum := "c26782b1cf0ba223a30773ea92ca8ed1a496cfab7f350f7fa561a6b72e38eed5", func := "loop.example/g00781/laws.FnExactBuddyAll", spec := "fnExactBuddyAll", apart := false, narrowed := true }
def FnExactBuddyAllUptoSaid : Prop := fnExactBuddyAllUptoRow.holds Try.pinned (OpenSpec.upto fnExactBuddyAllSpec)

/-- 'laws.FnExactBuddyOk', WHERE WHAT IT READS IS OF BULK AT MOST 1048576: true; the input reads as it did. -/
def fnExactBuddyOkUptoRow : OpenClaim := { program := "ytjfojlaoiifppaa", sum := "c26782b1cf0ba223a30773ea92ca8ed1a496cfab7f350f7fa561a6b72e38eed5", func := "loop.example/g00781/laws.FnExactBuddyOk", spec := "fnExactBuddyOk", apart := false, narrowed := true }
def FnExactBuddyOkUptoSaid : Prop := fnExactBuddyOkUptoRow.holds Try.pinned (OpenSpec.upto fnExactBuddyOkSpec)

/-- 'laws.FnExactBuddyFree', WHERE WHAT IT READS IS OF BULK AT MOST 1048576: true; the input reads as it did. -/
def fnExactBuddyFreeUptoRow : OpenClaim := { program := "ytjfojlaoiifppaa", sum := "c26782b1cf0ba223a30773ea92ca8ed1a496cfab7f350f7fa561a6b72e38eed5", func := "loop.example/g00781/laws.FnExactBuddyFree", spec := "fnExactBuddyFree", apart := false, narrowed := true }
def FnExactBuddyFreeUptoSaid : Prop := fnExactBuddyFreeUptoRow.holds Try.pinned (OpenSpec.upto fnExactBuddyFreeSpec)

/-- 'laws.FnExactShowProg', WHERE WHAT IT READS IS OF BULK AT MOST 1048576: true; the input reads as it did. -/
def fnExactShowProgUptoRow : OpenClaim := { program := "ytjfojlaoiifppaa", sum := "c26782b1cf0ba223a30773ea92ca8ed1a496cfab7f350f7fa561a6b72e38eed5", func := "loop.example/g00781/laws.FnExactShowProg", spec := "fnExactShowProg", unfollowed := true, recurses := true, apart := false, narrowed := true }
def FnExactShowProgUptoSaid : Prop := fnExactShowProgUptoRow.holds Try.pinned (OpenSpec.upto fnExactShowProgSpec)

/-- 'laws.FnExec', WHERE WHAT IT READS IS OF BULK AT MOST 1048576: true; the input reads as it did. -/
def fnExecUptoRow : OpenClaim := { program := "ytjfojlaoiifppaa", sum := "c26782b1cf0ba223a30773ea92ca8ed1a496cfab7f350f7fa561a6b72e38eed5", func := "loop.example/g00781/laws.FnExec", spec := "fnExec", unfollowed := true, recurses := true, apart := false, narrowed := true }
def FnExecUptoSaid : Prop := fnExecUptoRow.holds Try.pinned (OpenSpec.upto fnExecSpec)

/-- 'laws.FnExactExec', WHERE WHAT IT READS IS OF BULK AT MOST 1048576: true; the input reads as it did. -/
def fnExactExecUptoRow : OpenClaim := { program := "ytjfojlaoiifppaa", sum := "c26782b1cf0ba223a30773ea92ca8ed1a496cfab7f350f7fa561a6b72e38eed5", func := "loop.example/g00781/laws.FnExactExec", spec := "fnExactExec", unfollowed := true, recurses := true, apart := false, narrowed := true }
def FnExactExecUptoSaid : Prop := fnExactExecUptoRow.holds Try.pinned (OpenSpec.upto fnExactExecSpec)

end Rows
end Go.Proofs.Ytjfojlaoiifppaa
