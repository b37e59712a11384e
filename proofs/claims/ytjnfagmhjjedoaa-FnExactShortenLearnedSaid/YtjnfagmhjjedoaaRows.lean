/-
  No cell of these rows narrows 'for every input' (looked for: loops, veiled, ifaces, maps, wideKeys, modest, calm, conditions, laid).
  DERIVED. THE GIVEN ROWS OF THIS SEAT. 11 by the template 'for every input the law returns true; each argument reads behind the call as it read before'; 0 by the template 'total and deterministic' (their statements: YtjnfagmhjjedoaaTotals.lean).
  GIVEN WITH THE SEED: the statements are not yours to turn. If you find one false, say at which input.
  Laid BY PROGRAM, IN A SANDBOX (cutbox-rows.mjs): the forced cells as the released guide's own fill.sh prints them over the translation 1a89246ae71bee33… (all of the seat's roots in one cut). By AI agents, Wed Nov 11 2026. No macro, syntax, notation, axiom, sorry.
-/
import Derived.Test.YtjnfagmhjjedoaaChecked
import GoSem.Claim
import GoSem.ClaimJoined
import GoSem.ClaimMapViews
import Derived.JoinedTies
import Derived.KernelRfl
namespace Go.Proofs.Ytjnfagmhjjedoaa
/- THE CELL 'sum', in the pinned program and in every row, IS THE sha256 OF THE DUMP (.gsa) THAT YtjnfagmhjjedoaaProg.lean LOADS. Nothing in Lean hashes anything: it is a label: what it is worth is what the hold of that sum in a sandbox is worth. -/
noncomputable def Try.pinned : Pinned := { name := "ytjnfagmhjjedoaa", sum := "1a89246ae71bee33f91d8adf4994efb886a5303a04f7ec197e163825c5f84c80", checked := Try.checked }
namespace Rows
def none {H : Type} : Left H := { results := [], args := [] }

/-- 'laws.FnExactFollowsByUnits': WHATEVER THE INPUT: true; the input reads as it did. -/
def fnExactFollowsByUnitsSpec : ChangeSpec := { name := "fnExactFollowsByUnits", fn := fun _ => fun
  | [d1, d2] => { results := [.lit (.bool true)], args := [d1, d2] }
  | _ => none }
def fnExactFollowsByUnitsRow : OpenClaim := { program := "ytjnfagmhjjedoaa", sum := "1a89246ae71bee33f91d8adf4994efb886a5303a04f7ec197e163825c5f84c80", func := "loop.example/g01080/laws.FnExactFollowsByUnits", spec := "fnExactFollowsByUnits", unfollowed := true, recurses := true, apart := false }
def FnExactFollowsByUnitsSaid : Prop := fnExactFollowsByUnitsRow.holds Try.pinned (OpenSpec.ofChange fnExactFollowsByUnitsSpec)

/-- ITS FALSE NEIGHBOUR: 'it returns false'. Refute it at one input. -/
def fnExactFollowsByUnitsWrong : ChangeSpec := { name := "fnExactFollowsByUnits", fn := fun _ => fun
  | [d1, d2] => { results := [.lit (.bool false)], args := [d1, d2] }
  | _ => none }
def FnExactFollowsByUnitsWrongFalsely : Prop := fnExactFollowsByUnitsRow.holds Try.pinned (OpenSpec.ofChange fnExactFollowsByUnitsWrong)

/-- 'laws.FnExactPropagate': WHATEVER THE INPUT: true; the input reads as it did. -/
def fnExactPropagateSpec : ChangeSpec := { name := "fnExactPropagate", fn := fun _ => fun
  | [d1, d2] => { results := [.lit (.bool true)], args := [d1, d2] }
  | _ => none }
def fnExactPropagateRow : OpenClaim := { program := "ytjnfagmhjjedoaa", sum := "1a89246ae71bee33f91d8adf4994efb886a5303a04f7ec197e163825c5f84c80", func := "loop.example/g01080/laws.FnExactPropagate", spec := "fnExactPropagate", unfollowed := true, recurses := true, apart := false }
def FnExactPropagateSaid : Prop := fnExactPropagateRow.holds Try.pinned (OpenSpec.ofChange fnExactPropagateSpec)

/-- ITS FALSE NEIGHBOUR: 'it returns false'. Refute it at one input. -/
def fnExactPropagateWrong : ChangeSpec := { name := "fnExactPropagate", fn := fun _ => fun
  | [d1, d2] => { results := [.lit (.bool false)], args := [d1, d2] }
  | _ => none }
def FnExactPropagateWrongFalsely : Prop := fnExactPropagateRow.holds Try.pinned (OpenSpec.ofChange fnExactPropagateWrong)

/-- 'laws.FnExactPropagationSteps': WHATEVER THE INPUT: true; the input reads as it did. -/
def fnExactPropagationStepsSpec : ChangeSpec := { name := "fnExactPropagationSteps", fn := fun _ => fun
  | [d1, d2] => { results := [.lit (.bool true)], args := [d1, d2] }
  | _ => none }
def fnExactPropagationStepsRow : OpenClaim := { program := "ytjnfagmhjjedoaa", sum := "1a89246ae71bee33f91d8adf4994efb886a5303a04f7ec197e163825c5f84c80", func := "loop.example/g01080/laws.FnExactPropagationSteps", spec := "fnExactPropagationSteps", unfollowed := true, recurses := true, apart := false }
def FnExactPropagationStepsSaid : Prop := fnExactPropagationStepsRow.holds Try.pinned (OpenSpec.ofChange fnExactPropagationStepsSpec)

/-- ITS FALSE NEIGHBOUR: 'it returns false'. Refute it at one input. -/
def fnExactPropagationStepsWrong : ChangeSpec := { name := "fnExactPropagationSteps", fn := fun _ => fun
  | [d1, d2] => { results := [.lit (.bool false)], args := [d1, d2] }
  | _ => none }
def FnExactPropagationStepsWrongFalsely : Prop := fnExactPropagationStepsRow.holds Try.pinned (OpenSpec.ofChange fnExactPropagationStepsWrong)

/-- 'laws.FnExactFirstUnfollowed': WHATEVER THE INPUT: true; the input reads as it did. -/
def fnExactFirstUnfollowedSpec : ChangeSpec := { name := "fnExactFirstUnfollowed", fn := fun _ => fun
  | [d1, d2] => { results := [.lit (.bool true)], args := [d1, d2] }
  | _ => none }
def fnExactFirstUnfollowedRow : OpenClaim := { program := "ytjnfagmhjjedoaa", sum := "1a89246ae71bee33f91d8adf4994efb886a5303a04f7ec197e163825c5f84c80", func := "loop.example/g01080/laws.FnExactFirstUnfollowed", spec := "fnExactFirstUnfollowed", unfollowed := true, recurses := true, apart := false }
def FnExactFirstUnfollowedSaid : Prop := fnExactFirstUnfollowedRow.holds Try.pinned (OpenSpec.ofChange fnExactFirstUnfollowedSpec)

/-- ITS FALSE NEIGHBOUR: 'it returns false'. Refute it at one input. -/
def fnExactFirstUnfollowedWrong : ChangeSpec := { name := "fnExactFirstUnfollowed", fn := fun _ => fun
  | [d1, d2] => { results := [.lit (.bool false)], args := [d1, d2] }
  | _ => none }
def FnExactFirstUnfollowedWrongFalsely : Prop := fnExactFirstUnfollowedRow.holds Try.pinned (OpenSpec.ofChange fnExactFirstUnfollowedWrong)

/-- 'laws.FnExactIsLearnedRefutation': WHATEVER THE INPUT: true; the input reads as it did. -/
def fnExactIsLearnedRefutationSpec : ChangeSpec := { name := "fnExactIsLearnedRefutation", fn := fun _ => fun
  | [d1, d2] => { results := [.lit (.bool true)], args := [d1, d2] }
  | _ => none }
def fnExactIsLearnedRefutationRow : OpenClaim := { program := "ytjnfagmhjjedoaa", sum := "1a89246ae71bee33f91d8adf4994efb886a5303a04f7ec197e163825c5f84c80", func := "loop.example/g01080/laws.FnExactIsLearnedRefutation", spec := "fnExactIsLearnedRefutation", unfollowed := true, recurses := true, apart := false }
def FnExactIsLearnedRefutationSaid : Prop := fnExactIsLearnedRefutationRow.holds Try.pinned (OpenSpec.ofChange fnExactIsLearnedRefutationSpec)

/-- ITS FALSE NEIGHBOUR: 'it returns false'. Refute it at one input. -/
def fnExactIsLearnedRefutationWrong : ChangeSpec := { name := "fnExactIsLearnedRefutation", fn := fun _ => fun
  | [d1, d2] => { results := [.lit (.bool false)], args := [d1, d2] }
  | _ => none }
def FnExactIsLearnedRefutationWrongFalsely : Prop := fnExactIsLearnedRefutationRow.holds Try.pinned (OpenSpec.ofChange fnExactIsLearnedRefutationWrong)

/-- 'laws.FnExactShortenLearned': WHATEVER THE INPUT: true; the input reads as it did. -/
def fnExactShortenLearnedSpec : ChangeSpec := { name := "fnExactShortenLearned", fn := fun _ => fun
  | [d1, d2, d3] => { results := [.lit (.bool true)], args := [d1, d2, d3] }
  | _ => none }
def fnExactShortenLearnedRow : OpenClaim := { program := "ytjnfagmhjjedoaa", sum := "1a89246ae71bee33f91d8adf4994efb886a5303a04f7ec197e163825c5f84c80", func := "loop.example/g01080/laws.FnExactShortenLearned", spec := "fnExactShortenLearned", unfollowed := true, recurses := true, apart := false }
def FnExactShortenLearnedSaid : Prop := fnExactShortenLearnedRow.holds Try.pinned (OpenSpec.ofChange fnExactShortenLearnedSpec)

/-- ITS FALSE NEIGHBOUR: 'it returns false'. Refute it at one input. -/
def fnExactShortenLearnedWrong : ChangeSpec := { name := "fnExactShortenLearned", fn := fun _ => fun
  | [d1, d2, d3] => { results := [.lit (.bool false)], args := [d1, d2, d3] }
  | _ => none }
def FnExactShortenLearnedWrongFalsely : Prop := fnExactShortenLearnedRow.holds Try.pinned (OpenSpec.ofChange fnExactShortenLearnedWrong)

/-- 'laws.FnExactIsTree': WHATEVER THE INPUT: true; the input reads as it did. -/
def fnExactIsTreeSpec : ChangeSpec := { name := "fnExactIsTree", fn := fun _ => fun
  | [d1, d2] => { results := [.lit (.bool true)], args := [d1, d2] }
  | _ => none }
def fnExactIsTreeRow : OpenClaim := { program := "ytjnfagmhjjedoaa", sum := "1a89246ae71bee33f91d8adf4994efb886a5303a04f7ec197e163825c5f84c80", func := "loop.example/g01080/laws.FnExactIsTree", spec := "fnExactIsTree", unfollowed := true, recurses := true, apart := false }
def FnExactIsTreeSaid : Prop := fnExactIsTreeRow.holds Try.pinned (OpenSpec.ofChange fnExactIsTreeSpec)

/-- ITS FALSE NEIGHBOUR: 'it returns false'. Refute it at one input. -/
def fnExactIsTreeWrong : ChangeSpec := { name := "fnExactIsTree", fn := fun _ => fun
  | [d1, d2] => { results := [.lit (.bool false)], args := [d1, d2] }
  | _ => none }
def FnExactIsTreeWrongFalsely : Prop := fnExactIsTreeRow.holds Try.pinned (OpenSpec.ofChange fnExactIsTreeWrong)

/-- 'laws.FnExactCountLeaves': WHATEVER THE INPUT: true; the input reads as it did. -/
def fnExactCountLeavesSpec : ChangeSpec := { name := "fnExactCountLeaves", fn := fun _ => fun
  | [d1, d2] => { results := [.lit (.bool true)], args := [d1, d2] }
  | _ => none }
def fnExactCountLeavesRow : OpenClaim := { program := "ytjnfagmhjjedoaa", sum := "1a89246ae71bee33f91d8adf4994efb886a5303a04f7ec197e163825c5f84c80", func := "loop.example/g01080/laws.FnExactCountLeaves", spec := "fnExactCountLeaves", unfollowed := true, recurses := true, apart := false }
def FnExactCountLeavesSaid : Prop := fnExactCountLeavesRow.holds Try.pinned (OpenSpec.ofChange fnExactCountLeavesSpec)

/-- ITS FALSE NEIGHBOUR: 'it returns false'. Refute it at one input. -/
def fnExactCountLeavesWrong : ChangeSpec := { name := "fnExactCountLeaves", fn := fun _ => fun
  | [d1, d2] => { results := [.lit (.bool false)], args := [d1, d2] }
  | _ => none }
def FnExactCountLeavesWrongFalsely : Prop := fnExactCountLeavesRow.holds Try.pinned (OpenSpec.ofChange fnExactCountLeavesWrong)

/-- 'laws.FnExactTreeHeight': WHATEVER THE INPUT: true; the input reads as it did. -/
def fnExactTreeHeightSpec : ChangeSpec := { name := "fnExactTreeHeight", fn := fun _ => fun
  | [d1, d2] => { results := [.lit (.bool true)], args := [d1, d2] }
  | _ => none }
def fnExactTreeHeightRow : OpenClaim := { program := "ytjnfagmhjjedoaa", sum := "1a89246ae71bee33f91d8adf4994efb886a5303a04f7ec197e163825c5f84c80", func := "loop.example/g01080/laws.FnExactTreeHeight", spec := "fnExactTreeHeight", unfollowed := true, recurses := true, apart := false }
def FnExactTreeHeightSaid : Prop := fnExactTreeHeightRow.holds Try.pinned (OpenSpec.ofChange fnExactTreeHeightSpec)

/-- ITS FALSE NEIGHBOUR: 'it returns false'. Refute it at one input. -/
def fnExactTreeHeightWrong : ChangeSpec := { name := "fnExactTreeHeight", fn := fun _ => fun
  | [d1, d2] => { results := [.lit (.bool false)], args := [d1, d2] }
  | _ => none }
def FnExactTreeHeightWrongFalsely : Prop := fnExactTreeHeightRow.holds Try.pinned (OpenSpec.ofChange fnExactTreeHeightWrong)

/-- 'laws.FnExactPathTo': WHATEVER THE INPUT: true; the input reads as it did. -/
def fnExactPathToSpec : ChangeSpec := { name := "fnExactPathTo", fn := fun _ => fun
  | [d1, d2, d3] => { results := [.lit (.bool true)], args := [d1, d2, d3] }
  | _ => none }
def fnExactPathToRow : OpenClaim := { program := "ytjnfagmhjjedoaa", sum := "1a89246ae71bee33f91d8adf4994efb886a5303a04f7ec197e163825c5f84c80", func := "loop.example/g01080/laws.FnExactPathTo", spec := "fnExactPathTo", unfollowed := true, recurses := true, apart := false }
def FnExactPathToSaid : Prop := fnExactPathToRow.holds Try.pinned (OpenSpec.ofChange fnExactPathToSpec)

/-- ITS FALSE NEIGHBOUR: 'it returns false'. Refute it at one input. -/
def fnExactPathToWrong : ChangeSpec := { name := "fnExactPathTo", fn := fun _ => fun
  | [d1, d2, d3] => { results := [.lit (.bool false)], args := [d1, d2, d3] }
  | _ => none }
def FnExactPathToWrongFalsely : Prop := fnExactPathToRow.holds Try.pinned (OpenSpec.ofChange fnExactPathToWrong)

/-- 'laws.FnExactIsSearchTree': WHATEVER THE INPUT: true; the input reads as it did. -/
def fnExactIsSearchTreeSpec : ChangeSpec := { name := "fnExactIsSearchTree", fn := fun _ => fun
  | [d1, d2] => { results := [.lit (.bool true)], args := [d1, d2] }
  | _ => none }
def fnExactIsSearchTreeRow : OpenClaim := { program := "ytjnfagmhjjedoaa", sum := "1a89246ae71bee33f91d8adf4994efb886a5303a04f7ec197e163825c5f84c80", func := "loop.example/g01080/laws.FnExactIsSearchTree", spec := "fnExactIsSearchTree", unfollowed := true, recurses := true, apart := false }
def FnExactIsSearchTreeSaid : Prop := fnExactIsSearchTreeRow.holds Try.pinned (OpenSpec.ofChange fnExactIsSearchTreeSpec)

/-- ITS FALSE NEIGHBOUR: 'it returns false'. Refute it at one input. -/
def fnExactIsSearchTreeWrong : ChangeSpec := { name := "fnExactIsSearchTree", fn := fun _ => fun
  | [d1, d2] => { results := [.lit (.bool false)], args := [d1, d2] }
  | _ => none }
def FnExactIsSearchTreeWrongFalsely : Prop := fnExactIsSearchTreeRow.holds Try.pinned (OpenSpec.ofChange fnExactIsSearchTreeWrong)

/- THE SECOND FORM. 'bulk': how many values and letters a reading holds, each counted each time it is reached (what is shared counts as often as it is met; a slice's spare places count too). A statement '..UptoSaid' is the law's where the arguments, and the package variables that the reading takes, are together of bulk at most 1048576: NARROWER than '..Said'. Prove '..Said' where nothing that the law and all that it calls make is longer than what came in: it says more and counts as full. Else prove '..UptoSaid'. A law counts once. -/
mutual
def uptoBulk {H : Type} : DataW H → Nat
  | .lit (.string bytes) => bytes.length + 1
  | .lit _ => 1
  | .nil => 1
  | .ptr d => uptoBulk d + 1
  | .slice elems spare => uptoBulkAll elems + uptoBulkAll spare + 1
  | .agg parts => uptoBulkAll parts + 1
  | .iface _ d => uptoBulk d + 1
  | .map entries => uptoBulkEntries entries + 1
  | .held _ => 1
def uptoBulkAll {H : Type} : List (DataW H) → Nat
  | [] => 0
  | d :: r => uptoBulk d + uptoBulkAll r
def uptoBulkEntries {H : Type} : List (Lit × DataW H) → Nat
  | [] => 0
  | x :: r => uptoBulkEntry x + uptoBulkEntries r
def uptoBulkEntry {H : Type} : Lit × DataW H → Nat
  | (.string bytes, d) => bytes.length + uptoBulk d + 1
  | (_, d) => uptoBulk d + 1
 end
def uptoSmall : (H : Type) → List (DataW H) → Bool := fun _ ds => decide (uptoBulkAll ds ≤ 1048576)
def OpenSpec.upto (s : _root_.Go.ChangeSpec) : _root_.Go.OpenSpec := { _root_.Go.OpenSpec.ofChange s with cond := some uptoSmall }

/-- 'laws.FnExactFollowsByUnits', WHERE WHAT IT READS IS OF BULK AT MOST 1048576: true; the input reads as it did. -/
def fnExactFollowsByUnitsUptoRow : OpenClaim := { program := "ytjnfagmhjjedoaa", sum := "1a89246ae71bee33f91d8adf4994efb886a5303a04f7ec197e163825c5f84c80", func := "loop.example/g01080/laws.FnExactFollowsByUnits", spec := "fnExactFollowsByUnits", unfollowed := true, recurses := true, apart := false, narrowed := true }
def FnExactFollowsByUnitsUptoSaid : Prop := fnExactFollowsByUnitsUptoRow.holds Try.pinned (OpenSpec.upto fnExactFollowsByUnitsSpec)

/-- 'laws.FnExactPropagate', WHERE WHAT IT READS IS OF BULK AT MOST 1048576: true; the input reads as it did. -/
def fnExactPropagateUptoRow : OpenClaim := { program := "ytjnfagmhjjedoaa", sum := "1a89246ae71bee33f91d8adf4994efb886a5303a04f7ec197e163825c5f84c80", func := "loop.example/g01080/laws.FnExactPropagate", spec := "fnExactPropagate", unfollowed := true, recurses := true, apart := false, narrowed := true }
def FnExactPropagateUptoSaid : Prop := fnExactPropagateUptoRow.holds Try.pinned (OpenSpec.upto fnExactPropagateSpec)

/-- 'laws.FnExactPropagationSteps', WHERE WHAT IT READS IS OF BULK AT MOST 1048576: true; the input reads as it did. -/
def fnExactPropagationStepsUptoRow : OpenClaim := { program := "ytjnfagmhjjedoaa", sum := "1a89246ae71bee33f91d8adf4994efb886a5303a04f7ec197e163825c5f84c80", func := "loop.example/g01080/laws.FnExactPropagationSteps", spec := "fnExactPropagationSteps", unfollowed := true, recurses := true, apart := false, narrowed := true }
def FnExactPropagationStepsUptoSaid : Prop := fnExactPropagationStepsUptoRow.holds Try.pinned (OpenSpec.upto fnExactPropagationStepsSpec)

/-- 'laws.FnExactFirstUnfollowed', WHERE WHAT IT READS IS OF BULK AT MOST 1048576: true; the input reads as it did. -/
def fnExactFirstUnfollowedUptoRow : OpenClaim := { program := "ytjnfagmhjjedoaa", sum := "1a89246ae71bee33f91d8adf4994efb886a5303a04f7ec197e163825c5f84c80", func := "loop.example/g01080/laws.FnExactFirstUnfollowed", spec := "fnExactFirstUnfollowed", unfollowed := true, recurses := true, apart := false, narrowed := true }
def FnExactFirstUnfollowedUptoSaid : Prop := fnExactFirstUnfollowedUptoRow.holds Try.pinned (OpenSpec.upto fnExactFirstUnfollowedSpec)

/-- 'laws.FnExactIsLearnedRefutation', WHERE WHAT IT READS IS OF BULK AT MOST 1048576: true; the input reads as it did. -/
def fnExactIsLearnedRefutationUptoRow : OpenClaim := { program := "ytjnfagmhjjedoaa", sum := "1a89246ae71bee33f91d8adf4994efb886a5303a04f7ec197e163825c5f84c80", func := "loop.example/g01080/laws.FnExactIsLearnedRefutation", spec := "fnExactIsLearnedRefutation", unfollowed := true, recurses := true, apart := false, narrowed := true }
def FnExactIsLearnedRefutationUptoSaid : Prop := fnExactIsLearnedRefutationUptoRow.holds Try.pinned (OpenSpec.upto fnExactIsLearnedRefutationSpec)

/-- 'laws.FnExactShortenLearned', WHERE WHAT IT READS IS OF BULK AT MOST 1048576: true; the input reads as it did. -/
def fnExactShortenLearnedUptoRow : OpenClaim := { program := "ytjnfagmhjjedoaa", sum := "1a89246ae71bee33f91d8adf4994efb886a5303a04f7ec197e163825c5f84c80", func := "loop.example/g01080/laws.FnExactShortenLearned", spec := "fnExactShortenLearned", unfollowed := true, recurses := true, apart := false, narrowed := true }
def FnExactShortenLearnedUptoSaid : Prop := fnExactShortenLearnedUptoRow.holds Try.pinned (OpenSpec.upto fnExactShortenLearnedSpec)

/-- 'laws.FnExactIsTree', WHERE WHAT IT READS IS OF BULK AT MOST 1048576: true; the input reads as it did. -/
def fnExactIsTreeUptoRow : OpenClaim := { program := "ytjnfagmhjjedoaa", sum := "1a89246ae71bee33f91d8adf4994efb886a5303a04f7ec197e163825c5f84c80", func := "loop.example/g01080/laws.FnExactIsTree", spec := "fnExactIsTree", unfollowed := true, recurses := true, apart := false, narrowed := true }
def FnExactIsTreeUptoSaid : Prop := fnExactIsTreeUptoRow.holds Try.pinned (OpenSpec.upto fnExactIsTreeSpec)

/-- 'laws.FnExactCountLeaves', WHERE WHAT IT READS IS OF BULK AT MOST 1048576: true; the input reads as it did. -/
def fnExactCountLeavesUptoRow : OpenClaim := { program := "ytjnfagmhjjedoaa", sum := "1a89246ae71bee33f91d8adf4994efb886a5303a04f7ec197e163825c5f84c80", func := "loop.example/g01080/laws.FnExactCountLeaves", spec := "fnExactCountLeaves", unfollowed := true, recurses := true, apart := false, narrowed := true }
def FnExactCountLeavesUptoSaid : Prop := fnExactCountLeavesUptoRow.holds Try.pinned (OpenSpec.upto fnExactCountLeavesSpec)

/-- 'laws.FnExactTreeHeight', WHERE WHAT IT READS IS OF BULK AT MOST 1048576: true; the input reads as it did. -/
def fnExactTreeHeightUptoRow : OpenClaim := { program := "ytjnfagmhjjedoaa", sum := "1a89246ae71bee33f91d8adf4994efb886a5303a04f7ec197e163825c5f84c80", func := "loop.example/g01080/laws.FnExactTreeHeight", spec := "fnExactTreeHeight", unfollowed := true, recurses := true, apart := false, narrowed := true }
def FnExactTreeHeightUptoSaid : Prop := fnExactTreeHeightUptoRow.holds Try.pinned (OpenSpec.upto fnExactTreeHeightSpec)

/-- 'laws.FnExactPathTo', WHERE WHAT IT READS IS OF BULK AT MOST 1048576: true; the input reads as it did. -/
def fnExactPathToUptoRow : OpenClaim := { program := "ytjnfagmhjjedoaa", sum := "1a89246ae71bee33f91d8adf4994efb886a5303a04f7ec197e163825c5f84c80", func := "loop.example/g01080/laws.FnExactPathTo", spec := "fnExactPathTo", unfollowed := true, recurses := true, apart := false, narrowed := true }
def FnExactPathToUptoSaid : Prop := fnExactPathToUptoRow.holds Try.pinned (OpenSpec.upto fnExactPathToSpec)

/-- 'laws.FnExactIsSearchTree', WHERE WHAT IT READS IS OF BULK AT MOST 1048576: true; the input reads as it did. -/
def fnExactIsSearchTreeUptoRow : OpenClaim := { program := "ytjnfagmhjjedoaa", sum := "1a89246ae71bee33f91d8adf4994efb886a5303a04f7ec197e163825c5f84c80", func := "loop.example/g01080/laws.FnExactIsSearchTree", spec := "fnExactIsSearchTree", unfollowed := true, recurses := true, apart := false, narrowed := true }
def FnExactIsSearchTreeUptoSaid : Prop := fnExactIsSearchTreeUptoRow.holds Try.pinned (OpenSpec.upto fnExactIsSearchTreeSpec)

end Rows
end Go.Proofs.Ytjnfagmhjjedoaa
