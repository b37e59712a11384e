/-
  No cell of these rows narrows 'for every input' (looked for: loops, veiled, ifaces, maps, wideKeys, modest, calm, conditions, laid).
  DERIVED. THE GIVEN ROWS OF THIS SEAT. 11 by the template 'for every input the law returns true; each argument reads behind the call as it read before'; 0 by the template 'total and deterministic' (their statements: YtgpanniofcfmbaaTotals.lean).
  GIVEN WITH THE SEED: the statements are not yours to turn. If you find one false, say at which input.
  Laid BY PROGRAM, IN A SANDBOX (cutbox-rows.mjs): the forced cells as the released guide's own fill.sh prints them over the translation 4feeecdaa3e21181… (all of the seat's roots in one cut). By AI agents, Wed Nov 11 2026. No macro, syntax, notation, axiom, sorry.
-/
import Derived.Test.YtgpanniofcfmbaaChecked
import GoSem.Claim
import GoSem.ClaimJoined
import GoSem.ClaimMapViews
import Derived.JoinedTies
import Derived.KernelRfl
namespace Go.Proofs.Ytgpanniofcfmbaa
/- THE CELL 'sum', in the pinned program and in every row, IS THE sha256 OF THE DUMP (.gsa) THAT YtgpanniofcfmbaaProg.lean LOADS. Nothing in Lean hashes anything: it is a label: what it is worth is what the hold of that sum in a sandbox is worth. -/
noncomputable def Try.pinned : Pinned := { name := "ytgpanniofcfmbaa", sum := "4feeecdaa3e21181dd2b3dec90b085210a5c68a00150a475e07c5a44ee8af35a", checked := Try.checked }
namespace Rows
def none {H : Type} : Left H := { results := [], args := [] }

/-- 'laws.FnExactImageOf': WHATEVER THE INPUT: true; the input reads as it did. -/
def fnExactImageOfSpec : ChangeSpec := { name := "fnExactImageOf", fn := fun _ => fun
  | [d1, d2, d3, d4] => { results := [.lit (.bool true)], args := [d1, d2, d3, d4] }
  | _ => none }
def fnExactImageOfRow : OpenClaim := { program := "ytgpanniofcfmbaa", sum := "4feeecdaa3e21181dd2b3dec90b085210a5c68a00150a475e07c5a44ee8af35a", func := "loop.example/g01080/laws.FnExactImageOf", spec := "fnExactImageOf", unfollowed := true, recurses := true, apart := false }
def FnExactImageOfSaid : Prop := fnExactImageOfRow.holds Try.pinned (OpenSpec.ofChange fnExactImageOfSpec)

/-- ITS FALSE NEIGHBOUR: 'it returns false'. Refute it at one input. -/
def fnExactImageOfWrong : ChangeSpec := { name := "fnExactImageOf", fn := fun _ => fun
  | [d1, d2, d3, d4] => { results := [.lit (.bool false)], args := [d1, d2, d3, d4] }
  | _ => none }
def FnExactImageOfWrongFalsely : Prop := fnExactImageOfRow.holds Try.pinned (OpenSpec.ofChange fnExactImageOfWrong)

/-- 'laws.FnExactIsCertificate': WHATEVER THE INPUT: true; the input reads as it did. -/
def fnExactIsCertificateSpec : ChangeSpec := { name := "fnExactIsCertificate", fn := fun _ => fun
  | [d1, d2, d3] => { results := [.lit (.bool true)], args := [d1, d2, d3] }
  | _ => none }
def fnExactIsCertificateRow : OpenClaim := { program := "ytgpanniofcfmbaa", sum := "4feeecdaa3e21181dd2b3dec90b085210a5c68a00150a475e07c5a44ee8af35a", func := "loop.example/g01080/laws.FnExactIsCertificate", spec := "fnExactIsCertificate", apart := false }
def FnExactIsCertificateSaid : Prop := fnExactIsCertificateRow.holds Try.pinned (OpenSpec.ofChange fnExactIsCertificateSpec)

/-- ITS FALSE NEIGHBOUR: 'it returns false'. Refute it at one input. -/
def fnExactIsCertificateWrong : ChangeSpec := { name := "fnExactIsCertificate", fn := fun _ => fun
  | [d1, d2, d3] => { results := [.lit (.bool false)], args := [d1, d2, d3] }
  | _ => none }
def FnExactIsCertificateWrongFalsely : Prop := fnExactIsCertificateRow.holds Try.pinned (OpenSpec.ofChange fnExactIsCertificateWrong)

/-- 'laws.FnExactIsPcStep': WHATEVER THE INPUT: true; the input reads as it did. -/
def fnExactIsPcStepSpec : ChangeSpec := { name := "fnExactIsPcStep", fn := fun _ => fun
  | [d1, d2, d3, d4] => { results := [.lit (.bool true)], args := [d1, d2, d3, d4] }
  | _ => none }
def fnExactIsPcStepRow : OpenClaim := { program := "ytgpanniofcfmbaa", sum := "4feeecdaa3e21181dd2b3dec90b085210a5c68a00150a475e07c5a44ee8af35a", func := "loop.example/g01080/laws.FnExactIsPcStep", spec := "fnExactIsPcStep", apart := false }
def FnExactIsPcStepSaid : Prop := fnExactIsPcStepRow.holds Try.pinned (OpenSpec.ofChange fnExactIsPcStepSpec)

/-- ITS FALSE NEIGHBOUR: 'it returns false'. Refute it at one input. -/
def fnExactIsPcStepWrong : ChangeSpec := { name := "fnExactIsPcStep", fn := fun _ => fun
  | [d1, d2, d3, d4] => { results := [.lit (.bool false)], args := [d1, d2, d3, d4] }
  | _ => none }
def FnExactIsPcStepWrongFalsely : Prop := fnExactIsPcStepRow.holds Try.pinned (OpenSpec.ofChange fnExactIsPcStepWrong)

/-- 'laws.FnExactFirstWrongPcStep': WHATEVER THE INPUT: true; the input reads as it did. -/
def fnExactFirstWrongPcStepSpec : ChangeSpec := { name := "fnExactFirstWrongPcStep", fn := fun _ => fun
  | [d1, d2, d3] => { results := [.lit (.bool true)], args := [d1, d2, d3] }
  | _ => none }
def fnExactFirstWrongPcStepRow : OpenClaim := { program := "ytgpanniofcfmbaa", sum := "4feeecdaa3e21181dd2b3dec90b085210a5c68a00150a475e07c5a44ee8af35a", func := "loop.example/g01080/laws.FnExactFirstWrongPcStep", spec := "fnExactFirstWrongPcStep", apart := false }
def FnExactFirstWrongPcStepSaid : Prop := fnExactFirstWrongPcStepRow.holds Try.pinned (OpenSpec.ofChange fnExactFirstWrongPcStepSpec)

/-- ITS FALSE NEIGHBOUR: 'it returns false'. Refute it at one input. -/
def fnExactFirstWrongPcStepWrong : ChangeSpec := { name := "fnExactFirstWrongPcStep", fn := fun _ => fun
  | [d1, d2, d3] => { results := [.lit (.bool false)], args := [d1, d2, d3] }
  | _ => none }
def FnExactFirstWrongPcStepWrongFalsely : Prop := fnExactFirstWrongPcStepRow.holds Try.pinned (OpenSpec.ofChange fnExactFirstWrongPcStepWrong)

/-- 'laws.FnExactPcSize': WHATEVER THE INPUT: true; the input reads as it did. -/
def fnExactPcSizeSpec : ChangeSpec := { name := "fnExactPcSize", fn := fun _ => fun
  | [d1, d2, d3] => { results := [.lit (.bool true)], args := [d1, d2, d3] }
  | _ => none }
def fnExactPcSizeRow : OpenClaim := { program := "ytgpanniofcfmbaa", sum := "4feeecdaa3e21181dd2b3dec90b085210a5c68a00150a475e07c5a44ee8af35a", func := "loop.example/g01080/laws.FnExactPcSize", spec := "fnExactPcSize", apart := false }
def FnExactPcSizeSaid : Prop := fnExactPcSizeRow.holds Try.pinned (OpenSpec.ofChange fnExactPcSizeSpec)

/-- ITS FALSE NEIGHBOUR: 'it returns false'. Refute it at one input. -/
def fnExactPcSizeWrong : ChangeSpec := { name := "fnExactPcSize", fn := fun _ => fun
  | [d1, d2, d3] => { results := [.lit (.bool false)], args := [d1, d2, d3] }
  | _ => none }
def FnExactPcSizeWrongFalsely : Prop := fnExactPcSizeRow.holds Try.pinned (OpenSpec.ofChange fnExactPcSizeWrong)

/-- 'laws.FnExactIsPcRefutation': WHATEVER THE INPUT: true; the input reads as it did. -/
def fnExactIsPcRefutationSpec : ChangeSpec := { name := "fnExactIsPcRefutation", fn := fun _ => fun
  | [d1, d2, d3] => { results := [.lit (.bool true)], args := [d1, d2, d3] }
  | _ => none }
def fnExactIsPcRefutationRow : OpenClaim := { program := "ytgpanniofcfmbaa", sum := "4feeecdaa3e21181dd2b3dec90b085210a5c68a00150a475e07c5a44ee8af35a", func := "loop.example/g01080/laws.FnExactIsPcRefutation", spec := "fnExactIsPcRefutation", apart := false }
def FnExactIsPcRefutationSaid : Prop := fnExactIsPcRefutationRow.holds Try.pinned (OpenSpec.ofChange fnExactIsPcRefutationSpec)

/-- ITS FALSE NEIGHBOUR: 'it returns false'. Refute it at one input. -/
def fnExactIsPcRefutationWrong : ChangeSpec := { name := "fnExactIsPcRefutation", fn := fun _ => fun
  | [d1, d2, d3] => { results := [.lit (.bool false)], args := [d1, d2, d3] }
  | _ => none }
def FnExactIsPcRefutationWrongFalsely : Prop := fnExactIsPcRefutationRow.holds Try.pinned (OpenSpec.ofChange fnExactIsPcRefutationWrong)

/-- 'laws.FnExactGradedMonos': WHATEVER THE INPUT: true; the input reads as it did. -/
def fnExactGradedMonosSpec : ChangeSpec := { name := "fnExactGradedMonos", fn := fun _ => fun
  | [d1, d2] => { results := [.lit (.bool true)], args := [d1, d2] }
  | _ => none }
def fnExactGradedMonosRow : OpenClaim := { program := "ytgpanniofcfmbaa", sum := "4feeecdaa3e21181dd2b3dec90b085210a5c68a00150a475e07c5a44ee8af35a", func := "loop.example/g01080/laws.FnExactGradedMonos", spec := "fnExactGradedMonos", unfollowed := true, recurses := true, apart := false }
def FnExactGradedMonosSaid : Prop := fnExactGradedMonosRow.holds Try.pinned (OpenSpec.ofChange fnExactGradedMonosSpec)

/-- ITS FALSE NEIGHBOUR: 'it returns false'. Refute it at one input. -/
def fnExactGradedMonosWrong : ChangeSpec := { name := "fnExactGradedMonos", fn := fun _ => fun
  | [d1, d2] => { results := [.lit (.bool false)], args := [d1, d2] }
  | _ => none }
def FnExactGradedMonosWrongFalsely : Prop := fnExactGradedMonosRow.holds Try.pinned (OpenSpec.ofChange fnExactGradedMonosWrong)

/-- 'laws.FnExactAddLiteral': WHATEVER THE INPUT: true; the input reads as it did. -/
def fnExactAddLiteralSpec : ChangeSpec := { name := "fnExactAddLiteral", fn := fun _ => fun
  | [d1, d2, d3] => { results := [.lit (.bool true)], args := [d1, d2, d3] }
  | _ => none }
def fnExactAddLiteralRow : OpenClaim := { program := "ytgpanniofcfmbaa", sum := "4feeecdaa3e21181dd2b3dec90b085210a5c68a00150a475e07c5a44ee8af35a", func := "loop.example/g01080/laws.FnExactAddLiteral", spec := "fnExactAddLiteral", unfollowed := true, recurses := true, apart := false }
def FnExactAddLiteralSaid : Prop := fnExactAddLiteralRow.holds Try.pinned (OpenSpec.ofChange fnExactAddLiteralSpec)

/-- ITS FALSE NEIGHBOUR: 'it returns false'. Refute it at one input. -/
def fnExactAddLiteralWrong : ChangeSpec := { name := "fnExactAddLiteral", fn := fun _ => fun
  | [d1, d2, d3] => { results := [.lit (.bool false)], args := [d1, d2, d3] }
  | _ => none }
def FnExactAddLiteralWrongFalsely : Prop := fnExactAddLiteralRow.holds Try.pinned (OpenSpec.ofChange fnExactAddLiteralWrong)

/-- 'laws.FnExactClauseOf': WHATEVER THE INPUT: true; the input reads as it did. -/
def fnExactClauseOfSpec : ChangeSpec := { name := "fnExactClauseOf", fn := fun _ => fun
  | [d1, d2] => { results := [.lit (.bool true)], args := [d1, d2] }
  | _ => none }
def fnExactClauseOfRow : OpenClaim := { program := "ytgpanniofcfmbaa", sum := "4feeecdaa3e21181dd2b3dec90b085210a5c68a00150a475e07c5a44ee8af35a", func := "loop.example/g01080/laws.FnExactClauseOf", spec := "fnExactClauseOf", unfollowed := true, recurses := true, apart := false }
def FnExactClauseOfSaid : Prop := fnExactClauseOfRow.holds Try.pinned (OpenSpec.ofChange fnExactClauseOfSpec)

/-- ITS FALSE NEIGHBOUR: 'it returns false'. Refute it at one input. -/
def fnExactClauseOfWrong : ChangeSpec := { name := "fnExactClauseOf", fn := fun _ => fun
  | [d1, d2] => { results := [.lit (.bool false)], args := [d1, d2] }
  | _ => none }
def FnExactClauseOfWrongFalsely : Prop := fnExactClauseOfRow.holds Try.pinned (OpenSpec.ofChange fnExactClauseOfWrong)

/-- 'laws.FnExactSetLiteral': WHATEVER THE INPUT: true; the input reads as it did. -/
def fnExactSetLiteralSpec : ChangeSpec := { name := "fnExactSetLiteral", fn := fun _ => fun
  | [d1, d2, d3] => { results := [.lit (.bool true)], args := [d1, d2, d3] }
  | _ => none }
def fnExactSetLiteralRow : OpenClaim := { program := "ytgpanniofcfmbaa", sum := "4feeecdaa3e21181dd2b3dec90b085210a5c68a00150a475e07c5a44ee8af35a", func := "loop.example/g01080/laws.FnExactSetLiteral", spec := "fnExactSetLiteral", unfollowed := true, recurses := true, apart := false }
def FnExactSetLiteralSaid : Prop := fnExactSetLiteralRow.holds Try.pinned (OpenSpec.ofChange fnExactSetLiteralSpec)

/-- ITS FALSE NEIGHBOUR: 'it returns false'. Refute it at one input. -/
def fnExactSetLiteralWrong : ChangeSpec := { name := "fnExactSetLiteral", fn := fun _ => fun
  | [d1, d2, d3] => { results := [.lit (.bool false)], args := [d1, d2, d3] }
  | _ => none }
def FnExactSetLiteralWrongFalsely : Prop := fnExactSetLiteralRow.holds Try.pinned (OpenSpec.ofChange fnExactSetLiteralWrong)

/-- 'laws.FnExactMergeAssignments': WHATEVER THE INPUT: true; the input reads as it did. -/
def fnExactMergeAssignmentsSpec : ChangeSpec := { name := "fnExactMergeAssignments", fn := fun _ => fun
  | [d1, d2, d3] => { results := [.lit (.bool true)], args := [d1, d2, d3] }
  | _ => none }
def fnExactMergeAssignmentsRow : OpenClaim := { program := "ytgpanniofcfmbaa", sum := "4feeecdaa3e21181dd2b3dec90b085210a5c68a00150a475e07c5a44ee8af35a", func := "loop.example/g01080/laws.FnExactMergeAssignments", spec := "fnExactMergeAssignments", unfollowed := true, recurses := true, apart := false }
def FnExactMergeAssignmentsSaid : Prop := fnExactMergeAssignmentsRow.holds Try.pinned (OpenSpec.ofChange fnExactMergeAssignmentsSpec)

/-- ITS FALSE NEIGHBOUR: 'it returns false'. Refute it at one input. -/
def fnExactMergeAssignmentsWrong : ChangeSpec := { name := "fnExactMergeAssignments", fn := fun _ => fun
  | [d1, d2, d3] => { results := [.lit (.bool false)], args := [d1, d2, d3] }
  | _ => none }
def FnExactMergeAssignmentsWrongFalsely : Prop := fnExactMergeAssignmentsRow.holds Try.pinned (OpenSpec.ofChange fnExactMergeAssignmentsWrong)

/- THE SECOND FORM. 'bulk': how many values and letters a reading holds, each counted each time it is reached (what is shared counts as often as it is met; a slice's spare places count too). A statement '..UptoSaid' is the law's where the arguments, and the package variables that the reading takes, are together of bulk at most 1048576: NARROWER than '..Said'. Prove '..Said' where nothing that the law and all that it calls make is longer than what came in: it says more and counts as full. Else prove '..UptoSaid'. A law counts once. -/
mutual
def uptoBulk {H : Type} : DataW H → Nat
  | .lit (.string bytes) => bytes.length + 1
  | .lit _ => 1
  | .nil => 1
  | .ptr d => uptoBulk d + 1
  | .slice elems spare => uptoBulkAll elems + uptoBulkAll spare + 1
  | .agg parts => uptoBulkAll parts + 1
  | .iface _ d => uptoBulk d + 1
  | .map entries => uptoBulkEntries entries + 1
  | .held _ => 1
def uptoBulkAll {H : Type} : List (DataW H) → Nat
  | [] => 0
  | d :: r => uptoBulk d + uptoBulkAll r
def uptoBulkEntries {H : Type} : List (Lit × DataW H) → Nat
  | [] => 0
  | x :: r => uptoBulkEntry x + uptoBulkEntries r
def uptoBulkEntry {H : Type} : Lit × DataW H → Nat
  | (.string bytes, d) => bytes.length + uptoBulk d + 1
  | (_, d) => uptoBulk d + 1
 end
def uptoSmall : (H : Type) → List (DataW H) → Bool := fun _ ds => decide (uptoBulkAll ds ≤ 1048576)
def OpenSpec.upto (s : _root_.Go.ChangeSpec) : _root_.Go.OpenSpec := { _root_.Go.OpenSpec.ofChange s with cond := some uptoSmall }

/-- 'laws.FnExactImageOf', WHERE WHAT IT READS IS OF BULK AT MOST 1048576: true; the input reads as it did. -/
def fnExactImageOfUptoRow : OpenClaim := { program := "ytgpanniofcfmbaa", sum := "4feeecdaa3e21181dd2b3dec90b085210a5c68a00150a475e07c5a44ee8af35a", func := "loop.example/g01080/laws.FnExactImageOf", spec := "fnExactImageOf", unfollowed := true, recurses := true, apart := false, narrowed := true }
def FnExactImageOfUptoSaid : Prop := fnExactImageOfUptoRow.holds Try.pinned (OpenSpec.upto fnExactImageOfSpec)

/-- 'laws.FnExactIsCertificate', WHERE WHAT IT READS IS OF BULK AT MOST 1048576: true; the input reads as it did. -/
def fnExactIsCertificateUptoRow : OpenClaim := { program := "ytgpanniofcfmbaa", sum := "4feeecdaa3e21181dd2b3dec90b085210a5c68a00150a475e07c5a44ee8af35a", func := "loop.example/g01080/laws.FnExactIsCertificate", spec := "fnExactIsCertificate", apart := false, narrowed := true }
def FnExactIsCertificateUptoSaid : Prop := fnExactIsCertificateUptoRow.holds Try.pinned (OpenSpec.upto fnExactIsCertificateSpec)

/-- 'laws.FnExactIsPcStep', WHERE WHAT IT READS IS OF BULK AT MOST 1048576: true; the input reads as it did. -/
def fnExactIsPcStepUptoRow : OpenClaim := { program := "ytgpanniofcfmbaa", sum := "4feeecdaa3e21181dd2b3dec90b085210a5c68a00150a475e07c5a44ee8af35a", func := "loop.example/g01080/laws.FnExactIsPcStep", spec := "fnExactIsPcStep", apart := false, narrowed := true }
def FnExactIsPcStepUptoSaid : Prop := fnExactIsPcStepUptoRow.holds Try.pinned (OpenSpec.upto fnExactIsPcStepSpec)

/-- 'laws.FnExactFirstWrongPcStep', WHERE WHAT IT READS IS OF BULK AT MOST 1048576: true; the input reads as it did. -/
def fnExactFirstWrongPcStepUptoRow : OpenClaim := { program := "ytgpanniofcfmbaa", sum := "4feeecdaa3e21181dd2b3dec90b085210a5c68a00150a475e07c5a44ee8af35a", func := "loop.example/g01080/laws.FnExactFirstWrongPcStep", spec := "fnExactFirstWrongPcStep", apart := false, narrowed := true }
def FnExactFirstWrongPcStepUptoSaid : Prop := fnExactFirstWrongPcStepUptoRow.holds Try.pinned (OpenSpec.upto fnExactFirstWrongPcStepSpec)

/-- 'laws.FnExactPcSize', WHERE WHAT IT READS IS OF BULK AT MOST 1048576: true; the input reads as it did. -/
def fnExactPcSizeUptoRow : OpenClaim := { program := "ytgpanniofcfmbaa", sum := "4feeecdaa3e21181dd2b3dec90b085210a5c68a00150a475e07c5a44ee8af35a", func := "loop.example/g01080/laws.FnExactPcSize", spec := "fnExactPcSize", apart := false, narrowed := true }
def FnExactPcSizeUptoSaid : Prop := fnExactPcSizeUptoRow.holds Try.pinned (OpenSpec.upto fnExactPcSizeSpec)

/-- 'laws.FnExactIsPcRefutation', WHERE WHAT IT READS IS OF BULK AT MOST 1048576: true; the input reads as it did. -/
def fnExactIsPcRefutationUptoRow : OpenClaim := { program := "ytgpanniofcfmbaa", sum := "4feeecdaa3e21181dd2b3dec90b085210a5c68a00150a475e07c5a44ee8af35a", func := "loop.example/g01080/laws.FnExactIsPcRefutation", spec := "fnExactIsPcRefutation", apart := false, narrowed := true }
def FnExactIsPcRefutationUptoSaid : Prop := fnExactIsPcRefutationUptoRow.holds Try.pinned (OpenSpec.upto fnExactIsPcRefutationSpec)

/-- 'laws.FnExactGradedMonos', WHERE WHAT IT READS IS OF BULK AT MOST 1048576: true; the input reads as it did. -/
def fnExactGradedMonosUptoRow : OpenClaim := { program := "ytgpanniofcfmbaa", sum := "4feeecdaa3e21181dd2b3dec90b085210a5c68a00150a475e07c5a44ee8af35a", func := "loop.example/g01080/laws.FnExactGradedMonos", spec := "fnExactGradedMonos", unfollowed := true, recurses := true, apart := false, narrowed := true }
def FnExactGradedMonosUptoSaid : Prop := fnExactGradedMonosUptoRow.holds Try.pinned (OpenSpec.upto fnExactGradedMonosSpec)

/-- 'laws.FnExactAddLiteral', WHERE WHAT IT READS IS OF BULK AT MOST 1048576: true; the input reads as it did. -/
def fnExactAddLiteralUptoRow : OpenClaim := { program := "ytgpanniofcfmbaa", sum := "4feeecdaa3e21181dd2b3dec90b085210a5c68a00150a475e07c5a44ee8af35a", func := "loop.example/g01080/laws.FnExactAddLiteral", spec := "fnExactAddLiteral", unfollowed := true, recurses := true, apart := false, narrowed := true }
def FnExactAddLiteralUptoSaid : Prop := fnExactAddLiteralUptoRow.holds Try.pinned (OpenSpec.upto fnExactAddLiteralSpec)

/-- 'laws.FnExactClauseOf', WHERE WHAT IT READS IS OF BULK AT MOST 1048576: true; the input reads as it did. -/
def fnExactClauseOfUptoRow : OpenClaim := { program := "ytgpanniofcfmbaa", sum := "4feeecdaa3e21181dd2b3dec90b085210a5c68a00150a475e07c5a44ee8af35a", func := "loop.example/g01080/laws.FnExactClauseOf", spec := "fnExactClauseOf", unfollowed := true, recurses := true, apart := false, narrowed := true }
def FnExactClauseOfUptoSaid : Prop := fnExactClauseOfUptoRow.holds Try.pinned (OpenSpec.upto fnExactClauseOfSpec)

/-- 'laws.FnExactSetLiteral', WHERE WHAT IT READS IS OF BULK AT MOST 1048576: true; the input reads as it did. -/
def fnExactSetLiteralUptoRow : OpenClaim := { program := "ytgpanniofcfmbaa", sum := "4feeecdaa3e21181dd2b3dec90b085210a5c68a00150a475e07c5a44ee8af35a", func := "loop.example/g01080/laws.FnExactSetLiteral", spec := "fnExactSetLiteral", unfollowed := true, recurses := true, apart := false, narrowed := true }
def FnExactSetLiteralUptoSaid : Prop := fnExactSetLiteralUptoRow.holds Try.pinned (OpenSpec.upto fnExactSetLiteralSpec)

/-- 'laws.FnExactMergeAssignments', WHERE WHAT IT READS IS OF BULK AT MOST 1048576: true; the input reads as it did. -/
def fnExactMergeAssignmentsUptoRow : OpenClaim := { program := "ytgpanniofcfmbaa", sum := "4feeecdaa3e21181dd2b3dec90b085210a5c68a00150a475e07c5a44ee8af35a", func := "loop.example/g01080/laws.FnExactMergeAssignments", spec := "fnExactMergeAssignments", unfollowed := true, recurses := true, apart := false, narrowed := true }
def FnExactMergeAssignmentsUptoSaid : Prop := fnExactMergeAssignmentsUptoRow.holds Try.pinned (OpenSpec.upto fnExactMergeAssignmentsSpec)

end Rows
end Go.Proofs.Ytgpanniofcfmbaa
