/-
  No cell of these rows narrows 'for every input' (looked for: loops, veiled, ifaces, maps, wideKeys, modest, calm, conditions, laid).
  DERIVED. THE GIVEN ROWS OF THIS SEAT. 9 by the template 'for every input the law returns true; each argument reads behind the call as it read before'; 0 by the template 'total and deterministic' (their statements: YtfbefcmeghpalaaGreatTotals.lean).
  GIVEN WITH THE SEED: the statements are not yours to turn. If you find one false, say at which input.
  Laid BY PROGRAM, IN A SANDBOX (cutbox-rows.mjs): the forced cells as the released guide's own fill.sh prints them over the translation 8edd70dd6cb80b5f… (all of the seat's roots in one cut). By AI agents, Wed Nov 11 2026. No macro, syntax, notation, axiom, sorry.
-/
import Derived.Test.YtfbefcmeghpalaaGreatChecked
import GoSem.Claim
import GoSem.ClaimJoined
import GoSem.ClaimMapViews
import Derived.JoinedTies
import Derived.KernelRfl
namespace Go.Proofs.YtfbefcmeghpalaaGreat
/- THE CELL 'sum', in the pinned program and in every row, IS THE sha256 OF THE DUMP (.gsa) THAT YtfbefcmeghpalaaGreatProg.lean LOADS. Nothing in Lean hashes anything: it is a label: what it is worth is what the hold of that sum in a sandbox is worth. -/
noncomputable def Tryz.pinned : Pinned := { name := "ytfbefcmeghpalaagreat", sum := "8edd70dd6cb80b5f956f85fec9bae5d012eca8611fe9de9204a912d1b69baa2d", checked := Tryz.checked }
namespace Rows
def none {H : Type} : Left H := { results := [], args := [] }

/-- 'laws.FnSoundOn': WHATEVER THE INPUT: true; the input reads as it did. -/
def fnSoundOnSpec : ChangeSpec := { name := "fnSoundOn", fn := fun _ => fun
  | [d] => { results := [.lit (.bool true)], args := [d] }
  | _ => none }
def fnSoundOnRow : OpenClaim := { program := "ytfbefcmeghpalaagreat", sum := "8edd70dd6cb80b5f956f85fec9bae5d012eca8611fe9de9204a912d1b69baa2d", func := "loop.example/g00781/laws.FnSoundOn", spec := "fnSoundOn", inPlace := ["slices.overlaps[loop.example/g00781/impl.Open]", "slices.overlaps[loop.example/g00781/impl.Pipe]", "slices.overlaps[loop.example/g00781/impl.File]"], unfollowed := true, recurses := true, apart := false }
def FnSoundOnSaid : Prop := fnSoundOnRow.holds Tryz.pinned (OpenSpec.ofChange fnSoundOnSpec)

/-- ITS FALSE NEIGHBOUR: 'it returns false'. Refute it at one input. -/
def fnSoundOnWrong : ChangeSpec := { name := "fnSoundOn", fn := fun _ => fun
  | [d] => { results := [.lit (.bool false)], args := [d] }
  | _ => none }
def FnSoundOnWrongFalsely : Prop := fnSoundOnRow.holds Tryz.pinned (OpenSpec.ofChange fnSoundOnWrong)

/-- 'laws.FnExactApply': WHATEVER THE INPUT: true; the input reads as it did. -/
def fnExactApplySpec : ChangeSpec := { name := "fnExactApply", fn := fun _ => fun
  | [d1, d2] => { results := [.lit (.bool true)], args := [d1, d2] }
  | _ => none }
def fnExactApplyRow : OpenClaim := { program := "ytfbefcmeghpalaagreat", sum := "8edd70dd6cb80b5f956f85fec9bae5d012eca8611fe9de9204a912d1b69baa2d", func := "loop.example/g00781/laws.FnExactApply", spec := "fnExactApply", inPlace := ["slices.overlaps[loop.example/g00781/impl.Open]", "slices.overlaps[loop.example/g00781/impl.Pipe]", "slices.overlaps[loop.example/g00781/impl.File]"], unfollowed := true, recurses := true, apart := false }
def FnExactApplySaid : Prop := fnExactApplyRow.holds Tryz.pinned (OpenSpec.ofChange fnExactApplySpec)

/-- ITS FALSE NEIGHBOUR: 'it returns false'. Refute it at one input. -/
def fnExactApplyWrong : ChangeSpec := { name := "fnExactApply", fn := fun _ => fun
  | [d1, d2] => { results := [.lit (.bool false)], args := [d1, d2] }
  | _ => none }
def FnExactApplyWrongFalsely : Prop := fnExactApplyRow.holds Tryz.pinned (OpenSpec.ofChange fnExactApplyWrong)

/-- 'laws.FnExactApplyAll': WHATEVER THE INPUT: true; the input reads as it did. -/
def fnExactApplyAllSpec : ChangeSpec := { name := "fnExactApplyAll", fn := fun _ => fun
  | [d1, d2] => { results := [.lit (.bool true)], args := [d1, d2] }
  | _ => none }
def fnExactApplyAllRow : OpenClaim := { program := "ytfbefcmeghpalaagreat", sum := "8edd70dd6cb80b5f956f85fec9bae5d012eca8611fe9de9204a912d1b69baa2d", func := "loop.example/g00781/laws.FnExactApplyAll", spec := "fnExactApplyAll", inPlace := ["slices.overlaps[loop.example/g00781/impl.Open]", "slices.overlaps[loop.example/g00781/impl.Pipe]", "slices.overlaps[loop.example/g00781/impl.File]"], unfollowed := true, recurses := true, apart := false }
def FnExactApplyAllSaid : Prop := fnExactApplyAllRow.holds Tryz.pinned (OpenSpec.ofChange fnExactApplyAllSpec)

/-- ITS FALSE NEIGHBOUR: 'it returns false'. Refute it at one input. -/
def fnExactApplyAllWrong : ChangeSpec := { name := "fnExactApplyAll", fn := fun _ => fun
  | [d1, d2] => { results := [.lit (.bool false)], args := [d1, d2] }
  | _ => none }
def FnExactApplyAllWrongFalsely : Prop := fnExactApplyAllRow.holds Tryz.pinned (OpenSpec.ofChange fnExactApplyAllWrong)

/-- 'laws.FnSleep': WHATEVER THE INPUT: true; the input reads as it did. -/
def fnSleepSpec : ChangeSpec := { name := "fnSleep", fn := fun _ => fun
  | [d] => { results := [.lit (.bool true)], args := [d] }
  | _ => none }
def fnSleepRow : OpenClaim := { program := "ytfbefcmeghpalaagreat", sum := "8edd70dd6cb80b5f956f85fec9bae5d012eca8611fe9de9204a912d1b69baa2d", func := "loop.example/g00781/laws.FnSleep", spec := "fnSleep", inPlace := ["slices.overlaps[loop.example/g00781/impl.Open]", "slices.overlaps[loop.example/g00781/impl.Pipe]", "slices.overlaps[loop.example/g00781/impl.File]"], unfollowed := true, recurses := true, apart := false }
def FnSleepSaid : Prop := fnSleepRow.holds Tryz.pinned (OpenSpec.ofChange fnSleepSpec)

/-- ITS FALSE NEIGHBOUR: 'it returns false'. Refute it at one input. -/
def fnSleepWrong : ChangeSpec := { name := "fnSleep", fn := fun _ => fun
  | [d] => { results := [.lit (.bool false)], args := [d] }
  | _ => none }
def FnSleepWrongFalsely : Prop := fnSleepRow.holds Tryz.pinned (OpenSpec.ofChange fnSleepWrong)

/-- 'laws.FnExactTickEffects': WHATEVER THE INPUT: true; the input reads as it did. -/
def fnExactTickEffectsSpec : ChangeSpec := { name := "fnExactTickEffects", fn := fun _ => fun
  | [d] => { results := [.lit (.bool true)], args := [d] }
  | _ => none }
def fnExactTickEffectsRow : OpenClaim := { program := "ytfbefcmeghpalaagreat", sum := "8edd70dd6cb80b5f956f85fec9bae5d012eca8611fe9de9204a912d1b69baa2d", func := "loop.example/g00781/laws.FnExactTickEffects", spec := "fnExactTickEffects", inPlace := ["slices.overlaps[loop.example/g00781/impl.Open]", "slices.overlaps[loop.example/g00781/impl.Pipe]", "slices.overlaps[loop.example/g00781/impl.File]"], unfollowed := true, recurses := true, apart := false }
def FnExactTickEffectsSaid : Prop := fnExactTickEffectsRow.holds Tryz.pinned (OpenSpec.ofChange fnExactTickEffectsSpec)

/-- ITS FALSE NEIGHBOUR: 'it returns false'. Refute it at one input. -/
def fnExactTickEffectsWrong : ChangeSpec := { name := "fnExactTickEffects", fn := fun _ => fun
  | [d] => { results := [.lit (.bool false)], args := [d] }
  | _ => none }
def FnExactTickEffectsWrongFalsely : Prop := fnExactTickEffectsRow.holds Tryz.pinned (OpenSpec.ofChange fnExactTickEffectsWrong)

/-- 'laws.FnExactTick': WHATEVER THE INPUT: true; the input reads as it did. -/
def fnExactTickSpec : ChangeSpec := { name := "fnExactTick", fn := fun _ => fun
  | [d] => { results := [.lit (.bool true)], args := [d] }
  | _ => none }
def fnExactTickRow : OpenClaim := { program := "ytfbefcmeghpalaagreat", sum := "8edd70dd6cb80b5f956f85fec9bae5d012eca8611fe9de9204a912d1b69baa2d", func := "loop.example/g00781/laws.FnExactTick", spec := "fnExactTick", inPlace := ["slices.overlaps[loop.example/g00781/impl.Open]", "slices.overlaps[loop.example/g00781/impl.Pipe]", "slices.overlaps[loop.example/g00781/impl.File]"], unfollowed := true, recurses := true, apart := false }
def FnExactTickSaid : Prop := fnExactTickRow.holds Tryz.pinned (OpenSpec.ofChange fnExactTickSpec)

/-- ITS FALSE NEIGHBOUR: 'it returns false'. Refute it at one input. -/
def fnExactTickWrong : ChangeSpec := { name := "fnExactTick", fn := fun _ => fun
  | [d] => { results := [.lit (.bool false)], args := [d] }
  | _ => none }
def FnExactTickWrongFalsely : Prop := fnExactTickRow.holds Tryz.pinned (OpenSpec.ofChange fnExactTickWrong)

/-- 'laws.FnSound': WHATEVER THE INPUT: true; the input reads as it did. -/
def fnSoundSpec : ChangeSpec := { name := "fnSound", fn := fun _ => fun
  | [d] => { results := [.lit (.bool true)], args := [d] }
  | _ => none }
def fnSoundRow : OpenClaim := { program := "ytfbefcmeghpalaagreat", sum := "8edd70dd6cb80b5f956f85fec9bae5d012eca8611fe9de9204a912d1b69baa2d", func := "loop.example/g00781/laws.FnSound", spec := "fnSound", inPlace := ["slices.overlaps[loop.example/g00781/impl.Open]", "slices.overlaps[loop.example/g00781/impl.Pipe]", "slices.overlaps[loop.example/g00781/impl.File]"], unfollowed := true, recurses := true, apart := false }
def FnSoundSaid : Prop := fnSoundRow.holds Tryz.pinned (OpenSpec.ofChange fnSoundSpec)

/-- ITS FALSE NEIGHBOUR: 'it returns false'. Refute it at one input. -/
def fnSoundWrong : ChangeSpec := { name := "fnSound", fn := fun _ => fun
  | [d] => { results := [.lit (.bool false)], args := [d] }
  | _ => none }
def FnSoundWrongFalsely : Prop := fnSoundRow.holds Tryz.pinned (OpenSpec.ofChange fnSoundWrong)

/-- 'laws.FnExactPlay': WHATEVER THE INPUT: true; the input reads as it did. -/
def fnExactPlaySpec : ChangeSpec := { name := "fnExactPlay", fn := fun _ => fun
  | [d1, d2] => { results := [.lit (.bool true)], args := [d1, d2] }
  | _ => none }
def fnExactPlayRow : OpenClaim := { program := "ytfbefcmeghpalaagreat", sum := "8edd70dd6cb80b5f956f85fec9bae5d012eca8611fe9de9204a912d1b69baa2d", func := "loop.example/g00781/laws.FnExactPlay", spec := "fnExactPlay", inPlace := ["slices.overlaps[loop.example/g00781/impl.Open]", "slices.overlaps[loop.example/g00781/impl.Pipe]", "slices.overlaps[loop.example/g00781/impl.File]"], unfollowed := true, recurses := true, apart := false }
def FnExactPlaySaid : Prop := fnExactPlayRow.holds Tryz.pinned (OpenSpec.ofChange fnExactPlaySpec)

/-- ITS FALSE NEIGHBOUR: 'it returns false'. Refute it at one input. -/
def fnExactPlayWrong : ChangeSpec := { name := "fnExactPlay", fn := fun _ => fun
  | [d1, d2] => { results := [.lit (.bool false)], args := [d1, d2] }
  | _ => none }
def FnExactPlayWrongFalsely : Prop := fnExactPlayRow.holds Tryz.pinned (OpenSpec.ofChange fnExactPlayWrong)

/-- 'laws.FnExactRunEffects': WHATEVER THE INPUT: true; the input reads as it did. -/
def fnExactRunEffectsSpec : ChangeSpec := { name := "fnExactRunEffects", fn := fun _ => fun
  | [d] => { results := [.lit (.bool true)], args := [d] }
  | _ => none }
def fnExactRunEffectsRow : OpenClaim := { program := "ytfbefcmeghpalaagreat", sum := "8edd70dd6cb80b5f956f85fec9bae5d012eca8611fe9de9204a912d1b69baa2d", func := "loop.example/g00781/laws.FnExactRunEffects", spec := "fnExactRunEffects", inPlace := ["slices.overlaps[loop.example/g00781/impl.Open]", "slices.overlaps[loop.example/g00781/impl.Pipe]", "slices.overlaps[loop.example/g00781/impl.File]"], unfollowed := true, recurses := true, apart := false }
def FnExactRunEffectsSaid : Prop := fnExactRunEffectsRow.holds Tryz.pinned (OpenSpec.ofChange fnExactRunEffectsSpec)

/-- ITS FALSE NEIGHBOUR: 'it returns false'. Refute it at one input. -/
def fnExactRunEffectsWrong : ChangeSpec := { name := "fnExactRunEffects", fn := fun _ => fun
  | [d] => { results := [.lit (.bool false)], args := [d] }
  | _ => none }
def FnExactRunEffectsWrongFalsely : Prop := fnExactRunEffectsRow.holds Tryz.pinned (OpenSpec.ofChange fnExactRunEffectsWrong)

/- THE SECOND FORM. 'bulk': how many values and letters a reading holds, each counted each time it is reached (what is shared counts as often as it is met; a slice's spare places count too). A statement '..UptoSaid' is the law's where the arguments, and the package variables that the reading takes, are together of bulk at most 1048576: NARROWER than '..Said'. Prove '..Said' where nothing that the law and all that it calls make is longer than what came in: it says more and counts as full. Else prove '..UptoSaid'. A law counts once. -/
mutual
def uptoBulk {H : Type} : DataW H → Nat
  | .lit (.string bytes) => bytes.length + 1
  | .lit _ => 1
  | .nil => 1
  | .ptr d => uptoBulk d + 1
  | .slice elems spare => uptoBulkAll elems + uptoBulkAll spare + 1
  | .agg parts => uptoBulkAll parts + 1
  | .iface _ d => uptoBulk d + 1
  | .map entries => uptoBulkEntries entries + 1
  | .held _ => 1
def uptoBulkAll {H : Type} : List (DataW H) → Nat
  | [] => 0
  | d :: r => uptoBulk d + uptoBulkAll r
def uptoBulkEntries {H : Type} : List (Lit × DataW H) → Nat
  | [] => 0
  | x :: r => uptoBulkEntry x + uptoBulkEntries r
def uptoBulkEntry {H : Type} : Lit × DataW H → Nat
  | (.string bytes, d) => bytes.length + uptoBulk d + 1
  | (_, d) => uptoBulk d + 1
 end
def uptoSmall : (H : Type) → List (DataW H) → Bool := fun _ ds => decide (uptoBulkAll ds ≤ 1048576)
def OpenSpec.upto (s : _root_.Go.ChangeSpec) : _root_.Go.OpenSpec := { _root_.Go.OpenSpec.ofChange s with cond := some uptoSmall }

/-- 'laws.FnSoundOn', WHERE WHAT IT READS IS OF BULK AT MOST 1048576: true; the input reads as it did. -/
def fnSoundOnUptoRow : OpenClaim := { program := "ytfbefcmeghpalaagreat", sum := "8edd70dd6cb80b5f956f85fec9bae5d012eca8611fe9de9204a912d1b69baa2d", func := "loop.example/g00781/laws.FnSoundOn", spec := "fnSoundOn", inPlace := ["slices.overlaps[loop.example/g00781/impl.Open]", "slices.overlaps[loop.example/g00781/impl.Pipe]", "slices.overlaps[loop.example/g00781/impl.File]"], unfollowed := true, recurses := true, apart := false, narrowed := true }
def FnSoundOnUptoSaid : Prop := fnSoundOnUptoRow.holds Tryz.pinned (OpenSpec.upto fnSoundOnSpec)

/-- 'laws.FnExactApply', WHERE WHAT IT READS IS OF BULK AT MOST 1048576: true; the input reads as it did. -/
def fnExactApplyUptoRow : OpenClaim := { program := "ytfbefcmeghpalaagreat", sum := "8edd70dd6cb80b5f956f85fec9bae5d012eca8611fe9de9204a912d1b69baa2d", func := "loop.example/g00781/laws.FnExactApply", spec := "fnExactApply", inPlace := ["slices.overlaps[loop.example/g00781/impl.Open]", "slices.overlaps[loop.example/g00781/impl.Pipe]", "slices.overlaps[loop.example/g00781/impl.File]"], unfollowed := true, recurses := true, apart := false, narrowed := true }
def FnExactApplyUptoSaid : Prop := fnExactApplyUptoRow.holds Tryz.pinned (OpenSpec.upto fnExactApplySpec)

/-- 'laws.FnExactApplyAll', WHERE WHAT IT READS IS OF BULK AT MOST 1048576: true; the input reads as it did. -/
def fnExactApplyAllUptoRow : OpenClaim := { program := "ytfbefcmeghpalaagreat", sum := "8edd70dd6cb80b5f956f85fec9bae5d012eca8611fe9de9204a912d1b69baa2d", func := "loop.example/g00781/laws.FnExactApplyAll", spec := "fnExactApplyAll", inPlace := ["slices.overlaps[loop.example/g00781/impl.Open]", "slices.overlaps[loop.example/g00781/impl.Pipe]", "slices.overlaps[loop.example/g00781/impl.File]"], unfollowed := true, recurses := true, apart := false, narrowed := true }
def FnExactApplyAllUptoSaid : Prop := fnExactApplyAllUptoRow.holds Tryz.pinned (OpenSpec.upto fnExactApplyAllSpec)

/-- 'laws.FnSleep', WHERE WHAT IT READS IS OF BULK AT MOST 1048576: true; the input reads as it did. -/
def fnSleepUptoRow : OpenClaim := { program := "ytfbefcmeghpalaagreat", sum := "8edd70dd6cb80b5f956f85fec9bae5d012eca8611fe9de9204a912d1b69baa2d", func := "loop.example/g00781/laws.FnSleep", spec := "fnSleep", inPlace := ["slices.overlaps[loop.example/g00781/impl.Open]", "slices.overlaps[loop.example/g00781/impl.Pipe]", "slices.overlaps[loop.example/g00781/impl.File]"], unfollowed := true, recurses := true, apart := false, narrowed := true }
def FnSleepUptoSaid : Prop := fnSleepUptoRow.holds Tryz.pinned (OpenSpec.upto fnSleepSpec)

/-- 'laws.FnExactTickEffects', WHERE WHAT IT READS IS OF BULK AT MOST 1048576: true; the input reads as it did. -/
def fnExactTickEffectsUptoRow : OpenClaim := { program := "ytfbefcmeghpalaagreat", sum := "8edd70dd6cb80b5f956f85fec9bae5d012eca8611fe9de9204a912d1b69baa2d", func := "loop.example/g00781/laws.FnExactTickEffects", spec := "fnExactTickEffects", inPlace := ["slices.overlaps[loop.example/g00781/impl.Open]", "slices.overlaps[loop.example/g00781/impl.Pipe]", "slices.overlaps[loop.example/g00781/impl.File]"], unfollowed := true, recurses := true, apart := false, narrowed := true }
def FnExactTickEffectsUptoSaid : Prop := fnExactTickEffectsUptoRow.holds Tryz.pinned (OpenSpec.upto fnExactTickEffectsSpec)

/-- 'laws.FnExactTick', WHERE WHAT IT READS IS OF BULK AT MOST 1048576: true; the input reads as it did. -/
def fnExactTickUptoRow : OpenClaim := { program := "ytfbefcmeghpalaagreat", sum := "8edd70dd6cb80b5f956f85fec9bae5d012eca8611fe9de9204a912d1b69baa2d", func := "loop.example/g00781/laws.FnExactTick", spec := "fnExactTick", inPlace := ["slices.overlaps[loop.example/g00781/impl.Open]", "slices.overlaps[loop.example/g00781/impl.Pipe]", "slices.overlaps[loop.example/g00781/impl.File]"], unfollowed := true, recurses := true, apart := false, narrowed := true }
def FnExactTickUptoSaid : Prop := fnExactTickUptoRow.holds Tryz.pinned (OpenSpec.upto fnExactTickSpec)

/-- 'laws.FnSound', WHERE WHAT IT READS IS OF BULK AT MOST 1048576: true; the input reads as it did. -/
def fnSoundUptoRow : OpenClaim := { program := "ytfbefcmeghpalaagreat", sum := "8edd70dd6cb80b5f956f85fec9bae5d012eca8611fe9de9204a912d1b69baa2d", func := "loop.example/g00781/laws.FnSound", spec := "fnSound", inPlace := ["slices.overlaps[loop.example/g00781/impl.Open]", "slices.overlaps[loop.example/g00781/impl.Pipe]", "slices.overlaps[loop.example/g00781/impl.File]"], unfollowed := true, recurses := true, apart := false, narrowed := true }
def FnSoundUptoSaid : Prop := fnSoundUptoRow.holds Tryz.pinned (OpenSpec.upto fnSoundSpec)

/-- 'laws.FnExactPlay', WHERE WHAT IT READS IS OF BULK AT MOST 1048576: true; the input reads as it did. -/
def fnExactPlayUptoRow : OpenClaim := { program := "ytfbefcmeghpalaagreat", sum := "8edd70dd6cb80b5f956f85fec9bae5d012eca8611fe9de9204a912d1b69baa2d", func := "loop.example/g00781/laws.FnExactPlay", spec := "fnExactPlay", inPlace := ["slices.overlaps[loop.example/g00781/impl.Open]", "slices.overlaps[loop.example/g00781/impl.Pipe]", "slices.overlaps[loop.example/g00781/impl.File]"], unfollowed := true, recurses := true, apart := false, narrowed := true }
def FnExactPlayUptoSaid : Prop := fnExactPlayUptoRow.holds Tryz.pinned (OpenSpec.upto fnExactPlaySpec)

/-- 'laws.FnExactRunEffects', WHERE WHAT IT READS IS OF BULK AT MOST 1048576: true; the input reads as it did. -/
def fnExactRunEffectsUptoRow : OpenClaim := { program := "ytfbefcmeghpalaagreat", sum := "8edd70dd6cb80b5f956f85fec9bae5d012eca8611fe9de9204a912d1b69baa2d", func := "loop.example/g00781/laws.FnExactRunEffects", spec := "fnExactRunEffects", inPlace := ["slices.overlaps[loop.example/g00781/impl.Open]", "slices.overlaps[loop.example/g00781/impl.Pipe]", "slices.overlaps[loop.example/g00781/impl.File]"], unfollowed := true, recurses := true, apart := false, narrowed := true }
def FnExactRunEffectsUptoSaid : Prop := fnExactRunEffectsUptoRow.holds Tryz.pinned (OpenSpec.upto fnExactRunEffectsSpec)

end Rows
end Go.Proofs.YtfbefcmeghpalaaGreat
