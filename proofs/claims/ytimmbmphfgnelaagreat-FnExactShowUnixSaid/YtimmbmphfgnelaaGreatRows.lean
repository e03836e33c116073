/-
  No cell of these rows narrows 'for every input' (looked for: loops, veiled, ifaces, maps, wideKeys, modest, calm, conditions, laid).
  DERIVED. THE GIVEN ROWS OF THIS SEAT. 7 by the template 'for every input the law returns true; each argument reads behind the call as it read before'; 0 by the template 'total and deterministic' (their statements: YtimmbmphfgnelaaGreatTotals.lean).
  GIVEN WITH THE SEED: the statements are not yours to turn. If you find one false, say at which input.
  Laid BY PROGRAM, IN A SANDBOX (cutbox-rows.mjs): the forced cells as the released guide's own fill.sh prints them over the translation c10204d14fd90a71… (all of the seat's roots in one cut). By AI agents, Wed Nov 11 2026. No macro, syntax, notation, axiom, sorry.
-/
import Derived.Test.YtimmbmphfgnelaaGreatChecked
import GoSem.Claim
import GoSem.ClaimJoined
import GoSem.ClaimMapViews
import Derived.JoinedTies
import Derived.KernelRfl
namespace Go.Proofs.YtimmbmphfgnelaaGreat
/- THE CELL 'sum', in the pinned program and in every row, IS THE sha256 OF THE DUMP (.gsa) THAT YtimmbmphfgnelaaGreatProg.lean LOADS. Nothing in Lean hashes anything: it is a label: what it is worth is what the hold of that sum in a sandbox is worth. -/
noncomputable def Tryz.pinned : Pinned := { name := "ytimmbmphfgnelaagreat", sum := "c10204d14fd90a71394edfc196b79c8065bc69baeb64603e3a48435d0c5dda94", checked := Tryz.checked }
namespace Rows
def none {H : Type} : Left H := { results := [], args := [] }

/-- 'laws.FnExactUnixOk': WHATEVER THE INPUT: true; the input reads as it did. -/
def fnExactUnixOkSpec : ChangeSpec := { name := "fnExactUnixOk", fn := fun _ => fun
  | [d] => { results := [.lit (.bool true)], args := [d] }
  | _ => none }
def fnExactUnixOkRow : OpenClaim := { program := "ytimmbmphfgnelaagreat", sum := "c10204d14fd90a71394edfc196b79c8065bc69baeb64603e3a48435d0c5dda94", func := "loop.example/g00781/laws.FnExactUnixOk", spec := "fnExactUnixOk", unfollowed := true, recurses := true, apart := false }
def FnExactUnixOkSaid : Prop := fnExactUnixOkRow.holds Tryz.pinned (OpenSpec.ofChange fnExactUnixOkSpec)

/-- ITS FALSE NEIGHBOUR: 'it returns false'. Refute it at one input. -/
def fnExactUnixOkWrong : ChangeSpec := { name := "fnExactUnixOk", fn := fun _ => fun
  | [d] => { results := [.lit (.bool false)], args := [d] }
  | _ => none }
def FnExactUnixOkWrongFalsely : Prop := fnExactUnixOkRow.holds Tryz.pinned (OpenSpec.ofChange fnExactUnixOkWrong)

/-- 'laws.FnExactHeld': WHATEVER THE INPUT: true; the input reads as it did. -/
def fnExactHeldSpec : ChangeSpec := { name := "fnExactHeld", fn := fun _ => fun
  | [d] => { results := [.lit (.bool true)], args := [d] }
  | _ => none }
def fnExactHeldRow : OpenClaim := { program := "ytimmbmphfgnelaagreat", sum := "c10204d14fd90a71394edfc196b79c8065bc69baeb64603e3a48435d0c5dda94", func := "loop.example/g00781/laws.FnExactHeld", spec := "fnExactHeld", unfollowed := true, recurses := true, apart := false }
def FnExactHeldSaid : Prop := fnExactHeldRow.holds Tryz.pinned (OpenSpec.ofChange fnExactHeldSpec)

/-- ITS FALSE NEIGHBOUR: 'it returns false'. Refute it at one input. -/
def fnExactHeldWrong : ChangeSpec := { name := "fnExactHeld", fn := fun _ => fun
  | [d] => { results := [.lit (.bool false)], args := [d] }
  | _ => none }
def FnExactHeldWrongFalsely : Prop := fnExactHeldRow.holds Tryz.pinned (OpenSpec.ofChange fnExactHeldWrong)

/-- 'laws.FnExactStuck': WHATEVER THE INPUT: true; the input reads as it did. -/
def fnExactStuckSpec : ChangeSpec := { name := "fnExactStuck", fn := fun _ => fun
  | [d] => { results := [.lit (.bool true)], args := [d] }
  | _ => none }
def fnExactStuckRow : OpenClaim := { program := "ytimmbmphfgnelaagreat", sum := "c10204d14fd90a71394edfc196b79c8065bc69baeb64603e3a48435d0c5dda94", func := "loop.example/g00781/laws.FnExactStuck", spec := "fnExactStuck", unfollowed := true, recurses := true, apart := false }
def FnExactStuckSaid : Prop := fnExactStuckRow.holds Tryz.pinned (OpenSpec.ofChange fnExactStuckSpec)

/-- ITS FALSE NEIGHBOUR: 'it returns false'. Refute it at one input. -/
def fnExactStuckWrong : ChangeSpec := { name := "fnExactStuck", fn := fun _ => fun
  | [d] => { results := [.lit (.bool false)], args := [d] }
  | _ => none }
def FnExactStuckWrongFalsely : Prop := fnExactStuckRow.holds Tryz.pinned (OpenSpec.ofChange fnExactStuckWrong)

/-- 'laws.FnExactSound': WHATEVER THE INPUT: true; the input reads as it did. -/
def fnExactSoundSpec : ChangeSpec := { name := "fnExactSound", fn := fun _ => fun
  | [d] => { results := [.lit (.bool true)], args := [d] }
  | _ => none }
def fnExactSoundRow : OpenClaim := { program := "ytimmbmphfgnelaagreat", sum := "c10204d14fd90a71394edfc196b79c8065bc69baeb64603e3a48435d0c5dda94", func := "loop.example/g00781/laws.FnExactSound", spec := "fnExactSound", unfollowed := true, recurses := true, apart := false }
def FnExactSoundSaid : Prop := fnExactSoundRow.holds Tryz.pinned (OpenSpec.ofChange fnExactSoundSpec)

/-- ITS FALSE NEIGHBOUR: 'it returns false'. Refute it at one input. -/
def fnExactSoundWrong : ChangeSpec := { name := "fnExactSound", fn := fun _ => fun
  | [d] => { results := [.lit (.bool false)], args := [d] }
  | _ => none }
def FnExactSoundWrongFalsely : Prop := fnExactSoundRow.holds Tryz.pinned (OpenSpec.ofChange fnExactSoundWrong)

/-- 'laws.FnExactShowUnix': WHATEVER THE INPUT: true; the input reads as it did. -/
def fnExactShowUnixSpec : ChangeSpec := { name := "fnExactShowUnix", fn := fun _ => fun
  | [d] => { results := [.lit (.bool true)], args := [d] }
  | _ => none }
def fnExactShowUnixRow : OpenClaim := { program := "ytimmbmphfgnelaagreat", sum := "c10204d14fd90a71394edfc196b79c8065bc69baeb64603e3a48435d0c5dda94", func := "loop.example/g00781/laws.FnExactShowUnix", spec := "fnExactShowUnix", inPlace := ["internal/abi.NoEscape", "internal/bytealg.MakeNoZero"], unfollowed := true, recurses := true, apart := false }
def FnExactShowUnixSaid : Prop := fnExactShowUnixRow.holds Tryz.pinned (OpenSpec.ofChange fnExactShowUnixSpec)

/-- ITS FALSE NEIGHBOUR: 'it returns false'. Refute it at one input. -/
def fnExactShowUnixWrong : ChangeSpec := { name := "fnExactShowUnix", fn := fun _ => fun
  | [d] => { results := [.lit (.bool false)], args := [d] }
  | _ => none }
def FnExactShowUnixWrongFalsely : Prop := fnExactShowUnixRow.holds Tryz.pinned (OpenSpec.ofChange fnExactShowUnixWrong)

/-- 'laws.FnExactAbsA': WHATEVER THE INPUT: true; the input reads as it did. -/
def fnExactAbsASpec : ChangeSpec := { name := "fnExactAbsA", fn := fun _ => fun
  | [d] => { results := [.lit (.bool true)], args := [d] }
  | _ => none }
def fnExactAbsARow : OpenClaim := { program := "ytimmbmphfgnelaagreat", sum := "c10204d14fd90a71394edfc196b79c8065bc69baeb64603e3a48435d0c5dda94", func := "loop.example/g00781/laws.FnExactAbsA", spec := "fnExactAbsA", unfollowed := true, recurses := true, apart := false }
def FnExactAbsASaid : Prop := fnExactAbsARow.holds Tryz.pinned (OpenSpec.ofChange fnExactAbsASpec)

/-- ITS FALSE NEIGHBOUR: 'it returns false'. Refute it at one input. -/
def fnExactAbsAWrong : ChangeSpec := { name := "fnExactAbsA", fn := fun _ => fun
  | [d] => { results := [.lit (.bool false)], args := [d] }
  | _ => none }
def FnExactAbsAWrongFalsely : Prop := fnExactAbsARow.holds Tryz.pinned (OpenSpec.ofChange fnExactAbsAWrong)

/-- 'laws.FnExactAbsB': WHATEVER THE INPUT: true; the input reads as it did. -/
def fnExactAbsBSpec : ChangeSpec := { name := "fnExactAbsB", fn := fun _ => fun
  | [d] => { results := [.lit (.bool true)], args := [d] }
  | _ => none }
def fnExactAbsBRow : OpenClaim := { program := "ytimmbmphfgnelaagreat", sum := "c10204d14fd90a71394edfc196b79c8065bc69baeb64603e3a48435d0c5dda94", func := "loop.example/g00781/laws.FnExactAbsB", spec := "fnExactAbsB", unfollowed := true, recurses := true, apart := false }
def FnExactAbsBSaid : Prop := fnExactAbsBRow.holds Tryz.pinned (OpenSpec.ofChange fnExactAbsBSpec)

/-- ITS FALSE NEIGHBOUR: 'it returns false'. Refute it at one input. -/
def fnExactAbsBWrong : ChangeSpec := { name := "fnExactAbsB", fn := fun _ => fun
  | [d] => { results := [.lit (.bool false)], args := [d] }
  | _ => none }
def FnExactAbsBWrongFalsely : Prop := fnExactAbsBRow.holds Tryz.pinned (OpenSpec.ofChange fnExactAbsBWrong)

/- THE SECOND FORM. 'bulk': how many values and letters a reading holds, each counted each time it is reached (what is shared counts as often as it is met; a slice's spare places count too). A statement '..UptoSaid' is the law's where the arguments, and the package variables that the reading takes, are together of bulk at most 1048576: NARROWER than '..Said'. Prove '..Said' where nothing that the law and all that it calls make is longer than what came in: it says more and counts as full. Else prove '..UptoSaid'. A law counts once. -/
mutual
def uptoBulk {H : Type} : DataW H → Nat
  | .lit (.string bytes) => bytes.length + 1
  | .lit _ => 1
  | .nil => 1
  | .ptr d => uptoBulk d + 1
  | .slice elems spare => uptoBulkAll elems + uptoBulkAll spare + 1
  | .agg parts => uptoBulkAll parts + 1
  | .iface _ d => uptoBulk d + 1
  | .map entries => uptoBulkEntries entries + 1
  | .held _ => 1
def uptoBulkAll {H : Type} : List (DataW H) → Nat
  | [] => 0
  | d :: r => uptoBulk d + uptoBulkAll r
def uptoBulkEntries {H : Type} : List (Lit × DataW H) → Nat
  | [] => 0
  | x :: r => uptoBulkEntry x + uptoBulkEntries r
def uptoBulkEntry {H : Type} : Lit × DataW H → Nat
  | (.string bytes, d) => bytes.length + uptoBulk d + 1
  | (_, d) => uptoBulk d + 1
 end
def uptoSmall : (H : Type) → List (DataW H) → Bool := fun _ ds => decide (uptoBulkAll ds ≤ 1048576)
def OpenSpec.upto (s : _root_.Go.ChangeSpec) : _root_.Go.OpenSpec := { _root_.Go.OpenSpec.ofChange s with cond := some uptoSmall }

/-- 'laws.FnExactUnixOk', WHERE WHAT IT READS IS OF BULK AT MOST 1048576: true; the input reads as it did. -/
def fnExactUnixOkUptoRow : OpenClaim := { program := "ytimmbmphfgnelaagreat", sum := "c10204d14fd90a71394edfc196b79c8065bc69baeb64603e3a48435d0c5dda94", func := "loop.example/g00781/laws.FnExactUnixOk", spec := "fnExactUnixOk", unfollowed := true, recurses := true, apart := false, narrowed := true }
def FnExactUnixOkUptoSaid : Prop := fnExactUnixOkUptoRow.holds Tryz.pinned (OpenSpec.upto fnExactUnixOkSpec)

/-- 'laws.FnExactHeld', WHERE WHAT IT READS IS OF BULK AT MOST 1048576: true; the input reads as it did. -/
def fnExactHeldUptoRow : OpenClaim := { program := "ytimmbmphfgnelaagreat", sum := "c10204d14fd90a71394edfc196b79c8065bc69baeb64603e3a48435d0c5dda94", func := "loop.example/g00781/laws.FnExactHeld", spec := "fnExactHeld", unfollowed := true, recurses := true, apart := false, narrowed := true }
def FnExactHeldUptoSaid : Prop := fnExactHeldUptoRow.holds Tryz.pinned (OpenSpec.upto fnExactHeldSpec)

/-- 'laws.FnExactStuck', WHERE WHAT IT READS IS OF BULK AT MOST 1048576: true; the input reads as it did. -/
def fnExactStuckUptoRow : OpenClaim := { program := "ytimmbmphfgnelaagreat", sum := "c10204d14fd90a71394edfc196b79c8065bc69baeb64603e3a48435d0c5dda94", func := "loop.example/g00781/laws.FnExactStuck", spec := "fnExactStuck", unfollowed := true, recurses := true, apart := false, narrowed := true }
def FnExactStuckUptoSaid : Prop := fnExactStuckUptoRow.holds Tryz.pinned (OpenSpec.upto fnExactStuckSpec)

/-- 'laws.FnExactSound', WHERE WHAT IT READS IS OF BULK AT MOST 1048576: true; the input reads as it did. -/
def fnExactSoundUptoRow : OpenClaim := { program := "ytimmbmphfgnelaagreat", sum := "c10204d14fd90a71394edfc196b79c8065bc69baeb64603e3a48435d0c5dda94", func := "loop.example/g00781/laws.FnExactSound", spec := "fnExactSound", unfollowed := true, recurses := true, apart := false, narrowed := true }
def FnExactSoundUptoSaid : Prop := fnExactSoundUptoRow.holds Tryz.pinned (OpenSpec.upto fnExactSoundSpec)

/-- 'laws.FnExactShowUnix', WHERE WHAT IT READS IS OF BULK AT MOST 1048576: true; the input reads as it did. -/
def fnExactShowUnixUptoRow : OpenClaim := { program := "ytimmbmphfgnelaagreat", sum := "c10204d14fd90a71394edfc196b79c8065bc69baeb64603e3a48435d0c5dda94", func := "loop.example/g00781/laws.FnExactShowUnix", spec := "fnExactShowUnix", inPlace := ["internal/abi.NoEscape", "internal/bytealg.MakeNoZero"], unfollowed := true, recurses := true, apart := false, narrowed := true }
def FnExactShowUnixUptoSaid : Prop := fnExactShowUnixUptoRow.holds Tryz.pinned (OpenSpec.upto fnExactShowUnixSpec)

/-- 'laws.FnExactAbsA', WHERE WHAT IT READS IS OF BULK AT MOST 1048576: true; the input reads as it did. -/
def fnExactAbsAUptoRow : OpenClaim := { program := "ytimmbmphfgnelaagreat", sum := "c10204d14fd90a71394edfc196b79c8065bc69baeb64603e3a48435d0c5dda94", func := "loop.example/g00781/laws.FnExactAbsA", spec := "fnExactAbsA", unfollowed := true, recurses := true, apart := false, narrowed := true }
def FnExactAbsAUptoSaid : Prop := fnExactAbsAUptoRow.holds Tryz.pinned (OpenSpec.upto fnExactAbsASpec)

/-- 'laws.FnExactAbsB', WHERE WHAT IT READS IS OF BULK AT MOST 1048576: true; the input reads as it did. -/
def fnExactAbsBUptoRow : OpenClaim := { program := "ytimmbmphfgnelaagreat", sum := "c10204d14fd90a71394edfc196b79c8065bc69baeb64603e3a48435d0c5dda94", func := "loop.example/g00781/laws.FnExactAbsB", spec := "fnExactAbsB", unfollowed := true, recurses := true, apart := false, narrowed := true }
def FnExactAbsBUptoSaid : Prop := fnExactAbsBUptoRow.holds Tryz.pinned (OpenSpec.upto fnExactAbsBSpec)

end Rows
end Go.Proofs.YtimmbmphfgnelaaGreat
