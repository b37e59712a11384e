/-
  No cell of these rows narrows 'for every input' (looked for: loops, veiled, ifaces, maps, wideKeys, modest, calm, conditions, laid).
  DERIVED. THE GIVEN ROWS OF THIS SEAT. 10 by the template 'for every input the law returns true; each argument reads behind the call as it read before'; 0 by the template 'total and deterministic' (their statements: YtmoncdcidlinfaaTotals.lean).
  GIVEN WITH THE SEED: the statements are not yours to turn. If you find one false, say at which input.
  Laid BY PROGRAM, IN A SANDBOX (cutbox-rows.mjs): the forced cells as the released guide's own fill.sh prints them over the translation e1c83f4ba65232e9… (all of the seat's roots in one cut). By AI agents, Wed Nov 11 2026. No macro, syntax, notation, axiom, sorry.
-/
import Derived.Test.YtmoncdcidlinfaaChecked
import GoSem.Claim
import GoSem.ClaimJoined
import GoSem.ClaimMapViews
import Derived.JoinedTies
import Derived.KernelRfl
namespace Go.Proofs.Ytmoncdcidlinfaa
/- THE CELL 'sum', in the pinned program and in every row, IS THE sha256 OF THE DUMP (.gsa) THAT YtmoncdcidlinfaaProg.lean LOADS. Nothing in Lean hashes anything: it is a label: what it is worth is what the hold of that sum in a sandbox is worth. -/
noncomputable def Try.pinned : Pinned := { name := "ytmoncdcidlinfaa", sum := "e1c83f4ba65232e9b7f0126abdbb2f9d9eabcaddbf82f26cddb88c210f5ba440", checked := Try.checked }
namespace Rows
def none {H : Type} : Left H := { results := [], args := [] }

/-- 'laws.FnExactWeakenPlane': WHATEVER THE INPUT: true; the input reads as it did. -/
def fnExactWeakenPlaneSpec : ChangeSpec := { name := "fnExactWeakenPlane", fn := fun _ => fun
  | [d1, d2, d3] => { results := [.lit (.bool true)], args := [d1, d2, d3] }
  | _ => none }
def fnExactWeakenPlaneRow : OpenClaim := { program := "ytmoncdcidlinfaa", sum := "e1c83f4ba65232e9b7f0126abdbb2f9d9eabcaddbf82f26cddb88c210f5ba440", func := "loop.example/g01080/laws.FnExactWeakenPlane", spec := "fnExactWeakenPlane", unfollowed := true, recurses := true, apart := false }
def FnExactWeakenPlaneSaid : Prop := fnExactWeakenPlaneRow.holds Try.pinned (OpenSpec.ofChange fnExactWeakenPlaneSpec)

/-- ITS FALSE NEIGHBOUR: 'it returns false'. Refute it at one input. -/
def fnExactWeakenPlaneWrong : ChangeSpec := { name := "fnExactWeakenPlane", fn := fun _ => fun
  | [d1, d2, d3] => { results := [.lit (.bool false)], args := [d1, d2, d3] }
  | _ => none }
def FnExactWeakenPlaneWrongFalsely : Prop := fnExactWeakenPlaneRow.holds Try.pinned (OpenSpec.ofChange fnExactWeakenPlaneWrong)

/-- 'laws.FnExactSpanSize': WHATEVER THE INPUT: true; the input reads as it did. -/
def fnExactSpanSizeSpec : ChangeSpec := { name := "fnExactSpanSize", fn := fun _ => fun
  | [d1, d2, d3] => { results := [.lit (.bool true)], args := [d1, d2, d3] }
  | _ => none }
def fnExactSpanSizeRow : OpenClaim := { program := "ytmoncdcidlinfaa", sum := "e1c83f4ba65232e9b7f0126abdbb2f9d9eabcaddbf82f26cddb88c210f5ba440", func := "loop.example/g01080/laws.FnExactSpanSize", spec := "fnExactSpanSize", unfollowed := true, recurses := true, apart := false }
def FnExactSpanSizeSaid : Prop := fnExactSpanSizeRow.holds Try.pinned (OpenSpec.ofChange fnExactSpanSizeSpec)

/-- ITS FALSE NEIGHBOUR: 'it returns false'. Refute it at one input. -/
def fnExactSpanSizeWrong : ChangeSpec := { name := "fnExactSpanSize", fn := fun _ => fun
  | [d1, d2, d3] => { results := [.lit (.bool false)], args := [d1, d2, d3] }
  | _ => none }
def FnExactSpanSizeWrongFalsely : Prop := fnExactSpanSizeRow.holds Try.pinned (OpenSpec.ofChange fnExactSpanSizeWrong)

/-- 'laws.FnExactPebblingFormula': WHATEVER THE INPUT: true; the input reads as it did. -/
def fnExactPebblingFormulaSpec : ChangeSpec := { name := "fnExactPebblingFormula", fn := fun _ => fun
  | [d] => { results := [.lit (.bool true)], args := [d] }
  | _ => none }
def fnExactPebblingFormulaRow : OpenClaim := { program := "ytmoncdcidlinfaa", sum := "e1c83f4ba65232e9b7f0126abdbb2f9d9eabcaddbf82f26cddb88c210f5ba440", func := "loop.example/g01080/laws.FnExactPebblingFormula", spec := "fnExactPebblingFormula", unfollowed := true, recurses := true, apart := false }
def FnExactPebblingFormulaSaid : Prop := fnExactPebblingFormulaRow.holds Try.pinned (OpenSpec.ofChange fnExactPebblingFormulaSpec)

/-- ITS FALSE NEIGHBOUR: 'it returns false'. Refute it at one input. -/
def fnExactPebblingFormulaWrong : ChangeSpec := { name := "fnExactPebblingFormula", fn := fun _ => fun
  | [d] => { results := [.lit (.bool false)], args := [d] }
  | _ => none }
def FnExactPebblingFormulaWrongFalsely : Prop := fnExactPebblingFormulaRow.holds Try.pinned (OpenSpec.ofChange fnExactPebblingFormulaWrong)

/-- 'laws.FnExactIsTree': WHATEVER THE INPUT: true; the input reads as it did. -/
def fnExactIsTreeSpec : ChangeSpec := { name := "fnExactIsTree", fn := fun _ => fun
  | [d1, d2] => { results := [.lit (.bool true)], args := [d1, d2] }
  | _ => none }
def fnExactIsTreeRow : OpenClaim := { program := "ytmoncdcidlinfaa", sum := "e1c83f4ba65232e9b7f0126abdbb2f9d9eabcaddbf82f26cddb88c210f5ba440", func := "loop.example/g01080/laws.FnExactIsTree", spec := "fnExactIsTree", unfollowed := true, recurses := true, apart := false }
def FnExactIsTreeSaid : Prop := fnExactIsTreeRow.holds Try.pinned (OpenSpec.ofChange fnExactIsTreeSpec)

/-- ITS FALSE NEIGHBOUR: 'it returns false'. Refute it at one input. -/
def fnExactIsTreeWrong : ChangeSpec := { name := "fnExactIsTree", fn := fun _ => fun
  | [d1, d2] => { results := [.lit (.bool false)], args := [d1, d2] }
  | _ => none }
def FnExactIsTreeWrongFalsely : Prop := fnExactIsTreeRow.holds Try.pinned (OpenSpec.ofChange fnExactIsTreeWrong)

/-- 'laws.FnExactCountLeaves': WHATEVER THE INPUT: true; the input reads as it did. -/
def fnExactCountLeavesSpec : ChangeSpec := { name := "fnExactCountLeaves", fn := fun _ => fun
  | [d1, d2] => { results := [.lit (.bool true)], args := [d1, d2] }
  | _ => none }
def fnExactCountLeavesRow : OpenClaim := { program := "ytmoncdcidlinfaa", sum := "e1c83f4ba65232e9b7f0126abdbb2f9d9eabcaddbf82f26cddb88c210f5ba440", func := "loop.example/g01080/laws.FnExactCountLeaves", spec := "fnExactCountLeaves", unfollowed := true, recurses := true, apart := false }
def FnExactCountLeavesSaid : Prop := fnExactCountLeavesRow.holds Try.pinned (OpenSpec.ofChange fnExactCountLeavesSpec)

/-- ITS FALSE NEIGHBOUR: 'it returns false'. Refute it at one input. -/
def fnExactCountLeavesWrong : ChangeSpec := { name := "fnExactCountLeaves", fn := fun _ => fun
  | [d1, d2] => { results := [.lit (.bool false)], args := [d1, d2] }
  | _ => none }
def FnExactCountLeavesWrongFalsely : Prop := fnExactCountLeavesRow.holds Try.pinned (OpenSpec.ofChange fnExactCountLeavesWrong)

/-- 'laws.FnExactTreeHeight': WHATEVER THE INPUT: true; the input reads as it did. -/
def fnExactTreeHeightSpec : ChangeSpec := { name := "fnExactTreeHeight", fn := fun _ => fun
  | [d1, d2] => { results := [.lit (.bool true)], args := [d1, d2] }
  | _ => none }
def fnExactTreeHeightRow : OpenClaim := { program := "ytmoncdcidlinfaa", sum := "e1c83f4ba65232e9b7f0126abdbb2f9d9eabcaddbf82f26cddb88c210f5ba440", func := "loop.example/g01080/laws.FnExactTreeHeight", spec := "fnExactTreeHeight", unfollowed := true, recurses := true, apart := false }
def FnExactTreeHeightSaid : Prop := fnExactTreeHeightRow.holds Try.pinned (OpenSpec.ofChange fnExactTreeHeightSpec)

/-- ITS FALSE NEIGHBOUR: 'it returns false'. Refute it at one input. -/
def fnExactTreeHeightWrong : ChangeSpec := { name := "fnExactTreeHeight", fn := fun _ => fun
  | [d1, d2] => { results := [.lit (.bool false)], args := [d1, d2] }
  | _ => none }
def FnExactTreeHeightWrongFalsely : Prop := fnExactTreeHeightRow.holds Try.pinned (OpenSpec.ofChange fnExactTreeHeightWrong)

/-- 'laws.FnExactPathTo': WHATEVER THE INPUT: true; the input reads as it did. -/
def fnExactPathToSpec : ChangeSpec := { name := "fnExactPathTo", fn := fun _ => fun
  | [d1, d2, d3] => { results := [.lit (.bool true)], args := [d1, d2, d3] }
  | _ => none }
def fnExactPathToRow : OpenClaim := { program := "ytmoncdcidlinfaa", sum := "e1c83f4ba65232e9b7f0126abdbb2f9d9eabcaddbf82f26cddb88c210f5ba440", func := "loop.example/g01080/laws.FnExactPathTo", spec := "fnExactPathTo", unfollowed := true, recurses := true, apart := false }
def FnExactPathToSaid : Prop := fnExactPathToRow.holds Try.pinned (OpenSpec.ofChange fnExactPathToSpec)

/-- ITS FALSE NEIGHBOUR: 'it returns false'. Refute it at one input. -/
def fnExactPathToWrong : ChangeSpec := { name := "fnExactPathTo", fn := fun _ => fun
  | [d1, d2, d3] => { results := [.lit (.bool false)], args := [d1, d2, d3] }
  | _ => none }
def FnExactPathToWrongFalsely : Prop := fnExactPathToRow.holds Try.pinned (OpenSpec.ofChange fnExactPathToWrong)

/-- 'laws.FnExactIsSearchTree': WHATEVER THE INPUT: true; the input reads as it did. -/
def fnExactIsSearchTreeSpec : ChangeSpec := { name := "fnExactIsSearchTree", fn := fun _ => fun
  | [d1, d2] => { results := [.lit (.bool true)], args := [d1, d2] }
  | _ => none }
def fnExactIsSearchTreeRow : OpenClaim := { program := "ytmoncdcidlinfaa", sum := "e1c83f4ba65232e9b7f0126abdbb2f9d9eabcaddbf82f26cddb88c210f5ba440", func := "loop.example/g01080/laws.FnExactIsSearchTree", spec := "fnExactIsSearchTree", unfollowed := true, recurses := true, apart := false }
def FnExactIsSearchTreeSaid : Prop := fnExactIsSearchTreeRow.holds Try.pinned (OpenSpec.ofChange fnExactIsSearchTreeSpec)

/-- ITS FALSE NEIGHBOUR: 'it returns false'. Refute it at one input. -/
def fnExactIsSearchTreeWrong : ChangeSpec := { name := "fnExactIsSearchTree", fn := fun _ => fun
  | [d1, d2] => { results := [.lit (.bool false)], args := [d1, d2] }
  | _ => none }
def FnExactIsSearchTreeWrongFalsely : Prop := fnExactIsSearchTreeRow.holds Try.pinned (OpenSpec.ofChange fnExactIsSearchTreeWrong)

/-- 'laws.FnExactFirstBadLeaf': WHATEVER THE INPUT: true; the input reads as it did. -/
def fnExactFirstBadLeafSpec : ChangeSpec := { name := "fnExactFirstBadLeaf", fn := fun _ => fun
  | [d1, d2] => { results := [.lit (.bool true)], args := [d1, d2] }
  | _ => none }
def fnExactFirstBadLeafRow : OpenClaim := { program := "ytmoncdcidlinfaa", sum := "e1c83f4ba65232e9b7f0126abdbb2f9d9eabcaddbf82f26cddb88c210f5ba440", func := "loop.example/g01080/laws.FnExactFirstBadLeaf", spec := "fnExactFirstBadLeaf", unfollowed := true, recurses := true, apart := false }
def FnExactFirstBadLeafSaid : Prop := fnExactFirstBadLeafRow.holds Try.pinned (OpenSpec.ofChange fnExactFirstBadLeafSpec)

/-- ITS FALSE NEIGHBOUR: 'it returns false'. Refute it at one input. -/
def fnExactFirstBadLeafWrong : ChangeSpec := { name := "fnExactFirstBadLeaf", fn := fun _ => fun
  | [d1, d2] => { results := [.lit (.bool false)], args := [d1, d2] }
  | _ => none }
def FnExactFirstBadLeafWrongFalsely : Prop := fnExactFirstBadLeafRow.holds Try.pinned (OpenSpec.ofChange fnExactFirstBadLeafWrong)

/-- 'laws.FnExactTreeByUnits': WHATEVER THE INPUT: true; the input reads as it did. -/
def fnExactTreeByUnitsSpec : ChangeSpec := { name := "fnExactTreeByUnits", fn := fun _ => fun
  | [d] => { results := [.lit (.bool true)], args := [d] }
  | _ => none }
def fnExactTreeByUnitsRow : OpenClaim := { program := "ytmoncdcidlinfaa", sum := "e1c83f4ba65232e9b7f0126abdbb2f9d9eabcaddbf82f26cddb88c210f5ba440", func := "loop.example/g01080/laws.FnExactTreeByUnits", spec := "fnExactTreeByUnits", unfollowed := true, recurses := true, apart := false }
def FnExactTreeByUnitsSaid : Prop := fnExactTreeByUnitsRow.holds Try.pinned (OpenSpec.ofChange fnExactTreeByUnitsSpec)

/-- ITS FALSE NEIGHBOUR: 'it returns false'. Refute it at one input. -/
def fnExactTreeByUnitsWrong : ChangeSpec := { name := "fnExactTreeByUnits", fn := fun _ => fun
  | [d] => { results := [.lit (.bool false)], args := [d] }
  | _ => none }
def FnExactTreeByUnitsWrongFalsely : Prop := fnExactTreeByUnitsRow.holds Try.pinned (OpenSpec.ofChange fnExactTreeByUnitsWrong)

/- THE SECOND FORM. 'bulk': how many values and letters a reading holds, each counted each time it is reached (what is shared counts as often as it is met; a slice's spare places count too). A statement '..UptoSaid' is the law's where the arguments, and the package variables that the reading takes, are together of bulk at most 1048576: NARROWER than '..Said'. Prove '..Said' where nothing that the law and all that it calls make is longer than what came in: it says more and counts as full. Else prove '..UptoSaid'. A law counts once. -/
mutual
def uptoBulk {H : Type} : DataW H → Nat
  | .lit (.string bytes) => bytes.length + 1
  | .lit _ => 1
  | .nil => 1
  | .ptr d => uptoBulk d + 1
  | .slice elems spare => uptoBulkAll elems + uptoBulkAll spare + 1
  | .agg parts => uptoBulkAll parts + 1
  | .iface _ d => uptoBulk d + 1
  | .map entries => uptoBulkEntries entries + 1
  | .held _ => 1
def uptoBulkAll {H : Type} : List (DataW H) → Nat
  | [] => 0
  | d :: r => uptoBulk d + uptoBulkAll r
def uptoBulkEntries {H : Type} : List (Lit × DataW H) → Nat
  | [] => 0
  | x :: r => uptoBulkEntry x + uptoBulkEntries r
def uptoBulkEntry {H : Type} : Lit × DataW H → Nat
  | (.string bytes, d) => bytes.length + uptoBulk d + 1
  | (_, d) => uptoBulk d + 1
 end
def uptoSmall : (H : Type) → List (DataW H) → Bool := fun _ ds => decide (uptoBulkAll ds ≤ 1048576)
def OpenSpec.upto (s : _root_.Go.ChangeSpec) : _root_.Go.OpenSpec := { _root_.Go.OpenSpec.ofChange s with cond := some uptoSmall }

/-- 'laws.FnExactWeakenPlane', WHERE WHAT IT READS IS OF BULK AT MOST 1048576: true; the input reads as it did. -/
def fnExactWeakenPlaneUptoRow : OpenClaim := { program := "ytmoncdcidlinfaa", sum := "e1c83f4ba65232e9b7f0126abdbb2f9d9eabcaddbf82f26cddb88c210f5ba440", func := "loop.example/g01080/laws.FnExactWeakenPlane", spec := "fnExactWeakenPlane", unfollowed := true, recurses := true, apart := false, narrowed := true }
def FnExactWeakenPlaneUptoSaid : Prop := fnExactWeakenPlaneUptoRow.holds Try.pinned (OpenSpec.upto fnExactWeakenPlaneSpec)

/-- 'laws.FnExactSpanSize', WHERE WHAT IT READS IS OF BULK AT MOST 1048576: true; the input reads as it did. -/
def fnExactSpanSizeUptoRow : OpenClaim := { program := "ytmoncdcidlinfaa", sum := "e1c83f4ba65232e9b7f0126abdbb2f9d9eabcaddbf82f26cddb88c210f5ba440", func := "loop.example/g01080/laws.FnExactSpanSize", spec := "fnExactSpanSize", unfollowed := true, recurses := true, apart := false, narrowed := true }
def FnExactSpanSizeUptoSaid : Prop := fnExactSpanSizeUptoRow.holds Try.pinned (OpenSpec.upto fnExactSpanSizeSpec)

/-- 'laws.FnExactPebblingFormula', WHERE WHAT IT READS IS OF BULK AT MOST 1048576: true; the input reads as it did. -/
def fnExactPebblingFormulaUptoRow : OpenClaim := { program := "ytmoncdcidlinfaa", sum := "e1c83f4ba65232e9b7f0126abdbb2f9d9eabcaddbf82f26cddb88c210f5ba440", func := "loop.example/g01080/laws.FnExactPebblingFormula", spec := "fnExactPebblingFormula", unfollowed := true, recurses := true, apart := false, narrowed := true }
def FnExactPebblingFormulaUptoSaid : Prop := fnExactPebblingFormulaUptoRow.holds Try.pinned (OpenSpec.upto fnExactPebblingFormulaSpec)

/-- 'laws.FnExactIsTree', WHERE WHAT IT READS IS OF BULK AT MOST 1048576: true; the input reads as it did. -/
def fnExactIsTreeUptoRow : OpenClaim := { program := "ytmoncdcidlinfaa", sum := "e1c83f4ba65232e9b7f0126abdbb2f9d9eabcaddbf82f26cddb88c210f5ba440", func := "loop.example/g01080/laws.FnExactIsTree", spec := "fnExactIsTree", unfollowed := true, recurses := true, apart := false, narrowed := true }
def FnExactIsTreeUptoSaid : Prop := fnExactIsTreeUptoRow.holds Try.pinned (OpenSpec.upto fnExactIsTreeSpec)

/-- 'laws.FnExactCountLeaves', WHERE WHAT IT READS IS OF BULK AT MOST 1048576: true; the input reads as it did. -/
def fnExactCountLeavesUptoRow : OpenClaim := { program := "ytmoncdcidlinfaa", sum := "e1c83f4ba65232e9b7f0126abdbb2f9d9eabcaddbf82f26cddb88c210f5ba440", func := "loop.example/g01080/laws.FnExactCountLeaves", spec := "fnExactCountLeaves", unfollowed := true, recurses := true, apart := false, narrowed := true }
def FnExactCountLeavesUptoSaid : Prop := fnExactCountLeavesUptoRow.holds Try.pinned (OpenSpec.upto fnExactCountLeavesSpec)

/-- 'laws.FnExactTreeHeight', WHERE WHAT IT READS IS OF BULK AT MOST 1048576: true; the input reads as it did. -/
def fnExactTreeHeightUptoRow : OpenClaim := { program := "ytmoncdcidlinfaa", sum := "e1c83f4ba65232e9b7f0126abdbb2f9d9eabcaddbf82f26cddb88c210f5ba440", func := "loop.example/g01080/laws.FnExactTreeHeight", spec := "fnExactTreeHeight", unfollowed := true, recurses := true, apart := false, narrowed := true }
def FnExactTreeHeightUptoSaid : Prop := fnExactTreeHeightUptoRow.holds Try.pinned (OpenSpec.upto fnExactTreeHeightSpec)

/-- 'laws.FnExactPathTo', WHERE WHAT IT READS IS OF BULK AT MOST 1048576: true; the input reads as it did. -/
def fnExactPathToUptoRow : OpenClaim := { program := "ytmoncdcidlinfaa", sum := "e1c83f4ba65232e9b7f0126abdbb2f9d9eabcaddbf82f26cddb88c210f5ba440", func := "loop.example/g01080/laws.FnExactPathTo", spec := "fnExactPathTo", unfollowed := true, recurses := true, apart := false, narrowed := true }
def FnExactPathToUptoSaid : Prop := fnExactPathToUptoRow.holds Try.pinned (OpenSpec.upto fnExactPathToSpec)

/-- 'laws.FnExactIsSearchTree', WHERE WHAT IT READS IS OF BULK AT MOST 1048576: true; the input reads as it did. -/
def fnExactIsSearchTreeUptoRow : OpenClaim := { program := "ytmoncdcidlinfaa", sum := "e1c83f4ba65232e9b7f0126abdbb2f9d9eabcaddbf82f26cddb88c210f5ba440", func := "loop.example/g01080/laws.FnExactIsSearchTree", spec := "fnExactIsSearchTree", unfollowed := true, recurses := true, apart := false, narrowed := true }
def FnExactIsSearchTreeUptoSaid : Prop := fnExactIsSearchTreeUptoRow.holds Try.pinned (OpenSpec.upto fnExactIsSearchTreeSpec)

/-- 'laws.FnExactFirstBadLeaf', WHERE WHAT IT READS IS OF BULK AT MOST 1048576: true; the input reads as it did. -/
def fnExactFirstBadLeafUptoRow : OpenClaim := { program := "ytmoncdcidlinfaa", sum := "e1c83f4ba65232e9b7f0126abdbb2f9d9eabcaddbf82f26cddb88c210f5ba440", func := "loop.example/g01080/laws.FnExactFirstBadLeaf", spec := "fnExactFirstBadLeaf", unfollowed := true, recurses := true, apart := false, narrowed := true }
def FnExactFirstBadLeafUptoSaid : Prop := fnExactFirstBadLeafUptoRow.holds Try.pinned (OpenSpec.upto fnExactFirstBadLeafSpec)

/-- 'laws.FnExactTreeByUnits', WHERE WHAT IT READS IS OF BULK AT MOST 1048576: true; the input reads as it did. -/
def fnExactTreeByUnitsUptoRow : OpenClaim := { program := "ytmoncdcidlinfaa", sum := "e1c83f4ba65232e9b7f0126abdbb2f9d9eabcaddbf82f26cddb88c210f5ba440", func := "loop.example/g01080/laws.FnExactTreeByUnits", spec := "fnExactTreeByUnits", unfollowed := true, recurses := true, apart := false, narrowed := true }
def FnExactTreeByUnitsUptoSaid : Prop := fnExactTreeByUnitsUptoRow.holds Try.pinned (OpenSpec.upto fnExactTreeByUnitsSpec)

end Rows
end Go.Proofs.Ytmoncdcidlinfaa
