/-
  No cell of these rows narrows 'for every input' (looked for: loops, veiled, ifaces, maps, wideKeys, modest, calm, conditions, laid).
  DERIVED. THE GIVEN ROWS OF THIS SEAT. 9 by the template 'for every input the law returns true; each argument reads behind the call as it read before'; 0 by the template 'total and deterministic' (their statements: YtgkfoiddncineaaTotals.lean).
  GIVEN WITH THE SEED: the statements are not yours to turn. If you find one false, say at which input.
  Laid BY PROGRAM, IN A SANDBOX (cutbox-rows.mjs): the forced cells as the released guide's own fill.sh prints them over the translation b702cc2188edb84b… (all of the seat's roots in one cut). By AI agents, Wed Nov 11 2026. No macro, syntax, notation, axiom, sorry.
-/
import Derived.Test.YtgkfoiddncineaaChecked
import GoSem.Claim
import GoSem.ClaimJoined
import GoSem.ClaimMapViews
import Derived.JoinedTies
import Derived.KernelRfl
namespace Go.Proofs.Ytgkfoiddncineaa
/- THE CELL 'sum', in the pinned program and in every row, IS THE sha256 OF THE DUMP (.gsa) THAT YtgkfoiddncineaaProg.lean LOADS. Nothing in Lean hashes anything: it is a label: what it is worth is what the hold of that sum in a sandbox is worth. -/
noncomputable def Try.pinned : Pinned := { name := "ytgkfoiddncineaa", sum := "b702cc2188edb84b3f696d86fdfbf2087d1997ca5df1e0974445f2e97fdb790a", checked := Try.checked }
namespace Rows
def none {H : Type} : Left H := { results := [], args := [] }

/-- 'laws.FnExactImageOf': WHATEVER THE INPUT: true; the input reads as it did. -/
def fnExactImageOfSpec : ChangeSpec := { name := "fnExactImageOf", fn := fun _ => fun
  | [d1, d2, d3, d4] => { results := [.lit (.bool true)], args := [d1, d2, d3, d4] }
  | _ => none }
def fnExactImageOfRow : OpenClaim := { program := "ytgkfoiddncineaa", sum := "b702cc2188edb84b3f696d86fdfbf2087d1997ca5df1e0974445f2e97fdb790a", func := "loop.example/g01080/laws.FnExactImageOf", spec := "fnExactImageOf", unfollowed := true, recurses := true, apart := false }
def FnExactImageOfSaid : Prop := fnExactImageOfRow.holds Try.pinned (OpenSpec.ofChange fnExactImageOfSpec)

/-- ITS FALSE NEIGHBOUR: 'it returns false'. Refute it at one input. -/
def fnExactImageOfWrong : ChangeSpec := { name := "fnExactImageOf", fn := fun _ => fun
  | [d1, d2, d3, d4] => { results := [.lit (.bool false)], args := [d1, d2, d3, d4] }
  | _ => none }
def FnExactImageOfWrongFalsely : Prop := fnExactImageOfRow.holds Try.pinned (OpenSpec.ofChange fnExactImageOfWrong)

/-- 'laws.FnExactIsCertificate': WHATEVER THE INPUT: true; the input reads as it did. -/
def fnExactIsCertificateSpec : ChangeSpec := { name := "fnExactIsCertificate", fn := fun _ => fun
  | [d1, d2, d3] => { results := [.lit (.bool true)], args := [d1, d2, d3] }
  | _ => none }
def fnExactIsCertificateRow : OpenClaim := { program := "ytgkfoiddncineaa", sum := "b702cc2188edb84b3f696d86fdfbf2087d1997ca5df1e0974445f2e97fdb790a", func := "loop.example/g01080/laws.FnExactIsCertificate", spec := "fnExactIsCertificate", apart := false }
def FnExactIsCertificateSaid : Prop := fnExactIsCertificateRow.holds Try.pinned (OpenSpec.ofChange fnExactIsCertificateSpec)

/-- ITS FALSE NEIGHBOUR: 'it returns false'. Refute it at one input. -/
def fnExactIsCertificateWrong : ChangeSpec := { name := "fnExactIsCertificate", fn := fun _ => fun
  | [d1, d2, d3] => { results := [.lit (.bool false)], args := [d1, d2, d3] }
  | _ => none }
def FnExactIsCertificateWrongFalsely : Prop := fnExactIsCertificateRow.holds Try.pinned (OpenSpec.ofChange fnExactIsCertificateWrong)

/-- 'laws.FnExactIsDual': WHATEVER THE INPUT: true; the input reads as it did. -/
def fnExactIsDualSpec : ChangeSpec := { name := "fnExactIsDual", fn := fun _ => fun
  | [d1, d2, d3, d4] => { results := [.lit (.bool true)], args := [d1, d2, d3, d4] }
  | _ => none }
def fnExactIsDualRow : OpenClaim := { program := "ytgkfoiddncineaa", sum := "b702cc2188edb84b3f696d86fdfbf2087d1997ca5df1e0974445f2e97fdb790a", func := "loop.example/g01080/laws.FnExactIsDual", spec := "fnExactIsDual", unfollowed := true, recurses := true, apart := false }
def FnExactIsDualSaid : Prop := fnExactIsDualRow.holds Try.pinned (OpenSpec.ofChange fnExactIsDualSpec)

/-- ITS FALSE NEIGHBOUR: 'it returns false'. Refute it at one input. -/
def fnExactIsDualWrong : ChangeSpec := { name := "fnExactIsDual", fn := fun _ => fun
  | [d1, d2, d3, d4] => { results := [.lit (.bool false)], args := [d1, d2, d3, d4] }
  | _ => none }
def FnExactIsDualWrongFalsely : Prop := fnExactIsDualRow.holds Try.pinned (OpenSpec.ofChange fnExactIsDualWrong)

/-- 'laws.FnExactCountProducts': WHATEVER THE INPUT: true; the input reads as it did. -/
def fnExactCountProductsSpec : ChangeSpec := { name := "fnExactCountProducts", fn := fun _ => fun
  | [d1, d2, d3] => { results := [.lit (.bool true)], args := [d1, d2, d3] }
  | _ => none }
def fnExactCountProductsRow : OpenClaim := { program := "ytgkfoiddncineaa", sum := "b702cc2188edb84b3f696d86fdfbf2087d1997ca5df1e0974445f2e97fdb790a", func := "loop.example/g01080/laws.FnExactCountProducts", spec := "fnExactCountProducts", unfollowed := true, recurses := true, apart := false }
def FnExactCountProductsSaid : Prop := fnExactCountProductsRow.holds Try.pinned (OpenSpec.ofChange fnExactCountProductsSpec)

/-- ITS FALSE NEIGHBOUR: 'it returns false'. Refute it at one input. -/
def fnExactCountProductsWrong : ChangeSpec := { name := "fnExactCountProducts", fn := fun _ => fun
  | [d1, d2, d3] => { results := [.lit (.bool false)], args := [d1, d2, d3] }
  | _ => none }
def FnExactCountProductsWrongFalsely : Prop := fnExactCountProductsRow.holds Try.pinned (OpenSpec.ofChange fnExactCountProductsWrong)

/-- 'laws.FnExactIsPcStep': WHATEVER THE INPUT: true; the input reads as it did. -/
def fnExactIsPcStepSpec : ChangeSpec := { name := "fnExactIsPcStep", fn := fun _ => fun
  | [d1, d2, d3, d4] => { results := [.lit (.bool true)], args := [d1, d2, d3, d4] }
  | _ => none }
def fnExactIsPcStepRow : OpenClaim := { program := "ytgkfoiddncineaa", sum := "b702cc2188edb84b3f696d86fdfbf2087d1997ca5df1e0974445f2e97fdb790a", func := "loop.example/g01080/laws.FnExactIsPcStep", spec := "fnExactIsPcStep", apart := false }
def FnExactIsPcStepSaid : Prop := fnExactIsPcStepRow.holds Try.pinned (OpenSpec.ofChange fnExactIsPcStepSpec)

/-- ITS FALSE NEIGHBOUR: 'it returns false'. Refute it at one input. -/
def fnExactIsPcStepWrong : ChangeSpec := { name := "fnExactIsPcStep", fn := fun _ => fun
  | [d1, d2, d3, d4] => { results := [.lit (.bool false)], args := [d1, d2, d3, d4] }
  | _ => none }
def FnExactIsPcStepWrongFalsely : Prop := fnExactIsPcStepRow.holds Try.pinned (OpenSpec.ofChange fnExactIsPcStepWrong)

/-- 'laws.FnExactFirstWrongPcStep': WHATEVER THE INPUT: true; the input reads as it did. -/
def fnExactFirstWrongPcStepSpec : ChangeSpec := { name := "fnExactFirstWrongPcStep", fn := fun _ => fun
  | [d1, d2, d3] => { results := [.lit (.bool true)], args := [d1, d2, d3] }
  | _ => none }
def fnExactFirstWrongPcStepRow : OpenClaim := { program := "ytgkfoiddncineaa", sum := "b702cc2188edb84b3f696d86fdfbf2087d1997ca5df1e0974445f2e97fdb790a", func := "loop.example/g01080/laws.FnExactFirstWrongPcStep", spec := "fnExactFirstWrongPcStep", apart := false }
def FnExactFirstWrongPcStepSaid : Prop := fnExactFirstWrongPcStepRow.holds Try.pinned (OpenSpec.ofChange fnExactFirstWrongPcStepSpec)

/-- ITS FALSE NEIGHBOUR: 'it returns false'. Refute it at one input. -/
def fnExactFirstWrongPcStepWrong : ChangeSpec := { name := "fnExactFirstWrongPcStep", fn := fun _ => fun
  | [d1, d2, d3] => { results := [.lit (.bool false)], args := [d1, d2, d3] }
  | _ => none }
def FnExactFirstWrongPcStepWrongFalsely : Prop := fnExactFirstWrongPcStepRow.holds Try.pinned (OpenSpec.ofChange fnExactFirstWrongPcStepWrong)

/-- 'laws.FnExactPcSize': WHATEVER THE INPUT: true; the input reads as it did. -/
def fnExactPcSizeSpec : ChangeSpec := { name := "fnExactPcSize", fn := fun _ => fun
  | [d1, d2, d3] => { results := [.lit (.bool true)], args := [d1, d2, d3] }
  | _ => none }
def fnExactPcSizeRow : OpenClaim := { program := "ytgkfoiddncineaa", sum := "b702cc2188edb84b3f696d86fdfbf2087d1997ca5df1e0974445f2e97fdb790a", func := "loop.example/g01080/laws.FnExactPcSize", spec := "fnExactPcSize", apart := false }
def FnExactPcSizeSaid : Prop := fnExactPcSizeRow.holds Try.pinned (OpenSpec.ofChange fnExactPcSizeSpec)

/-- ITS FALSE NEIGHBOUR: 'it returns false'. Refute it at one input. -/
def fnExactPcSizeWrong : ChangeSpec := { name := "fnExactPcSize", fn := fun _ => fun
  | [d1, d2, d3] => { results := [.lit (.bool false)], args := [d1, d2, d3] }
  | _ => none }
def FnExactPcSizeWrongFalsely : Prop := fnExactPcSizeRow.holds Try.pinned (OpenSpec.ofChange fnExactPcSizeWrong)

/-- 'laws.FnExactIsPcRefutation': WHATEVER THE INPUT: true; the input reads as it did. -/
def fnExactIsPcRefutationSpec : ChangeSpec := { name := "fnExactIsPcRefutation", fn := fun _ => fun
  | [d1, d2, d3] => { results := [.lit (.bool true)], args := [d1, d2, d3] }
  | _ => none }
def fnExactIsPcRefutationRow : OpenClaim := { program := "ytgkfoiddncineaa", sum := "b702cc2188edb84b3f696d86fdfbf2087d1997ca5df1e0974445f2e97fdb790a", func := "loop.example/g01080/laws.FnExactIsPcRefutation", spec := "fnExactIsPcRefutation", apart := false }
def FnExactIsPcRefutationSaid : Prop := fnExactIsPcRefutationRow.holds Try.pinned (OpenSpec.ofChange fnExactIsPcRefutationSpec)

/-- ITS FALSE NEIGHBOUR: 'it returns false'. Refute it at one input. -/
def fnExactIsPcRefutationWrong : ChangeSpec := { name := "fnExactIsPcRefutation", fn := fun _ => fun
  | [d1, d2, d3] => { results := [.lit (.bool false)], args := [d1, d2, d3] }
  | _ => none }
def FnExactIsPcRefutationWrongFalsely : Prop := fnExactIsPcRefutationRow.holds Try.pinned (OpenSpec.ofChange fnExactIsPcRefutationWrong)

/-- 'laws.FnExactWeakenPlane': WHATEVER THE INPUT: true; the input reads as it did. -/
def fnExactWeakenPlaneSpec : ChangeSpec := { name := "fnExactWeakenPlane", fn := fun _ => fun
  | [d1, d2, d3] => { results := [.lit (.bool true)], args := [d1, d2, d3] }
  | _ => none }
def fnExactWeakenPlaneRow : OpenClaim := { program := "ytgkfoiddncineaa", sum := "b702cc2188edb84b3f696d86fdfbf2087d1997ca5df1e0974445f2e97fdb790a", func := "loop.example/g01080/laws.FnExactWeakenPlane", spec := "fnExactWeakenPlane", unfollowed := true, recurses := true, apart := false }
def FnExactWeakenPlaneSaid : Prop := fnExactWeakenPlaneRow.holds Try.pinned (OpenSpec.ofChange fnExactWeakenPlaneSpec)

/-- ITS FALSE NEIGHBOUR: 'it returns false'. Refute it at one input. -/
def fnExactWeakenPlaneWrong : ChangeSpec := { name := "fnExactWeakenPlane", fn := fun _ => fun
  | [d1, d2, d3] => { results := [.lit (.bool false)], args := [d1, d2, d3] }
  | _ => none }
def FnExactWeakenPlaneWrongFalsely : Prop := fnExactWeakenPlaneRow.holds Try.pinned (OpenSpec.ofChange fnExactWeakenPlaneWrong)

/- THE SECOND FORM. 'bulk': how many values and letters a reading holds, each counted each time it is reached (what is shared counts as often as it is met; a slice's spare places count too). A statement '..UptoSaid' is the law's where the arguments, and the package variables that the reading takes, are together of bulk at most 1048576: NARROWER than '..Said'. Prove '..Said' where nothing that the law and all that it calls make is longer than what came in: it says more and counts as full. Else prove '..UptoSaid'. A law counts once. -/
mutual
def uptoBulk {H : Type} : DataW H → Nat
  | .lit (.string bytes) => bytes.length + 1
  | .lit _ => 1
  | .nil => 1
  | .ptr d => uptoBulk d + 1
  | .slice elems spare => uptoBulkAll elems + uptoBulkAll spare + 1
  | .agg parts => uptoBulkAll parts + 1
  | .iface _ d => uptoBulk d + 1
  | .map entries => uptoBulkEntries entries + 1
  | .held _ => 1
def uptoBulkAll {H : Type} : List (DataW H) → Nat
  | [] => 0
  | d :: r => uptoBulk d + uptoBulkAll r
def uptoBulkEntries {H : Type} : List (Lit × DataW H) → Nat
  | [] => 0
  | x :: r => uptoBulkEntry x + uptoBulkEntries r
def uptoBulkEntry {H : Type} : Lit × DataW H → Nat
  | (.string bytes, d) => bytes.length + uptoBulk d + 1
  | (_, d) => uptoBulk d + 1
 end
def uptoSmall : (H : Type) → List (DataW H) → Bool := fun _ ds => decide (uptoBulkAll ds ≤ 1048576)
def OpenSpec.upto (s : _root_.Go.ChangeSpec) : _root_.Go.OpenSpec := { _root_.Go.OpenSpec.ofChange s with cond := some uptoSmall }

/-- 'laws.FnExactImageOf', WHERE WHAT IT READS IS OF BULK AT MOST 1048576: true; the input reads as it did. -/
def fnExactImageOfUptoRow : OpenClaim := { program := "ytgkfoiddncineaa", sum := "b702cc2188edb84b3f696d86fdfbf2087d1997ca5df1e0974445f2e97fdb790a", func := "loop.example/g01080/laws.FnExactImageOf", spec := "fnExactImageOf", unfollowed := true, recurses := true, apart := false, narrowed := true }
def FnExactImageOfUptoSaid : Prop := fnExactImageOfUptoRow.holds Try.pinned (OpenSpec.upto fnExactImageOfSpec)

/-- 'laws.FnExactIsCertificate', WHERE WHAT IT READS IS OF BULK AT MOST 1048576: true; the input reads as it did. -/
def fnExactIsCertificateUptoRow : OpenClaim := { program := "ytgkfoiddncineaa", sum := "b702cc2188edb84b3f696d86fdfbf2087d1997ca5df1e0974445f2e97fdb790a", func := "loop.example/g01080/laws.FnExactIsCertificate", spec := "fnExactIsCertificate", apart := false, narrowed := true }
def FnExactIsCertificateUptoSaid : Prop := fnExactIsCertificateUptoRow.holds Try.pinned (OpenSpec.upto fnExactIsCertificateSpec)

/-- 'laws.FnExactIsDual', WHERE WHAT IT READS IS OF BULK AT MOST 1048576: true; the input reads as it did. -/
def fnExactIsDualUptoRow : OpenClaim := { program := "ytgkfoiddncineaa", sum := "b702cc2188edb84b3f696d86fdfbf2087d1997ca5df1e0974445f2e97fdb790a", func := "loop.example/g01080/laws.FnExactIsDual", spec := "fnExactIsDual", unfollowed := true, recurses := true, apart := false, narrowed := true }
def FnExactIsDualUptoSaid : Prop := fnExactIsDualUptoRow.holds Try.pinned (OpenSpec.upto fnExactIsDualSpec)

/-- 'laws.FnExactCountProducts', WHERE WHAT IT READS IS OF BULK AT MOST 1048576: true; the input reads as it did. -/
def fnExactCountProductsUptoRow : OpenClaim := { program := "ytgkfoiddncineaa", sum := "b702cc2188edb84b3f696d86fdfbf2087d1997ca5df1e0974445f2e97fdb790a", func := "loop.example/g01080/laws.FnExactCountProducts", spec := "fnExactCountProducts", unfollowed := true, recurses := true, apart := false, narrowed := true }
def FnExactCountProductsUptoSaid : Prop := fnExactCountProductsUptoRow.holds Try.pinned (OpenSpec.upto fnExactCountProductsSpec)

/-- 'laws.FnExactIsPcStep', WHERE WHAT IT READS IS OF BULK AT MOST 1048576: true; the input reads as it did. -/
def fnExactIsPcStepUptoRow : OpenClaim := { program := "ytgkfoiddncineaa", sum := "b702cc2188edb84b3f696d86fdfbf2087d1997ca5df1e0974445f2e97fdb790a", func := "loop.example/g01080/laws.FnExactIsPcStep", spec := "fnExactIsPcStep", apart := false, narrowed := true }
def FnExactIsPcStepUptoSaid : Prop := fnExactIsPcStepUptoRow.holds Try.pinned (OpenSpec.upto fnExactIsPcStepSpec)

/-- 'laws.FnExactFirstWrongPcStep', WHERE WHAT IT READS IS OF BULK AT MOST 1048576: true; the input reads as it did. -/
def fnExactFirstWrongPcStepUptoRow : OpenClaim := { program := "ytgkfoiddncineaa", sum := "b702cc2188edb84b3f696d86fdfbf2087d1997ca5df1e0974445f2e97fdb790a", func := "loop.example/g01080/laws.FnExactFirstWrongPcStep", spec := "fnExactFirstWrongPcStep", apart := false, narrowed := true }
def FnExactFirstWrongPcStepUptoSaid : Prop := fnExactFirstWrongPcStepUptoRow.holds Try.pinned (OpenSpec.upto fnExactFirstWrongPcStepSpec)

/-- 'laws.FnExactPcSize', WHERE WHAT IT READS IS OF BULK AT MOST 1048576: true; the input reads as it did. -/
def fnExactPcSizeUptoRow : OpenClaim := { program := "ytgkfoiddncineaa", sum := "b702cc2188edb84b3f696d86fdfbf2087d1997ca5df1e0974445f2e97fdb790a", func := "loop.example/g01080/laws.FnExactPcSize", spec := "fnExactPcSize", apart := false, narrowed := true }
def FnExactPcSizeUptoSaid : Prop := fnExactPcSizeUptoRow.holds Try.pinned (OpenSpec.upto fnExactPcSizeSpec)

/-- 'laws.FnExactIsPcRefutation', WHERE WHAT IT READS IS OF BULK AT MOST 1048576: true; the input reads as it did. -/
def fnExactIsPcRefutationUptoRow : OpenClaim := { program := "ytgkfoiddncineaa", sum := "b702cc2188edb84b3f696d86fdfbf2087d1997ca5df1e0974445f2e97fdb790a", func := "loop.example/g01080/laws.FnExactIsPcRefutation", spec := "fnExactIsPcRefutation", apart := false, narrowed := true }
def FnExactIsPcRefutationUptoSaid : Prop := fnExactIsPcRefutationUptoRow.holds Try.pinned (OpenSpec.upto fnExactIsPcRefutationSpec)

/-- 'laws.FnExactWeakenPlane', WHERE WHAT IT READS IS OF BULK AT MOST 1048576: true; the input reads as it did. -/
def fnExactWeakenPlaneUptoRow : OpenClaim := { program := "ytgkfoiddncineaa", sum := "b702cc2188edb84b3f696d86fdfbf2087d1997ca5df1e0974445f2e97fdb790a", func := "loop.example/g01080/laws.FnExactWeakenPlane", spec := "fnExactWeakenPlane", unfollowed := true, recurses := true, apart := false, narrowed := true }
def FnExactWeakenPlaneUptoSaid : Prop := fnExactWeakenPlaneUptoRow.holds Try.pinned (OpenSpec.upto fnExactWeakenPlaneSpec)

end Rows
end Go.Proofs.Ytgkfoiddncineaa
