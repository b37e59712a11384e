/-
  No cell of these rows narrows 'for every input' (looked for: loops, veiled, ifaces, maps, wideKeys, modest, calm, conditions, laid).
  DERIVED. THE GIVEN ROWS OF THIS SEAT. 4 by the template 'for every input the law returns true; each argument reads behind the call as it read before'; 0 by the template 'total and deterministic' (their statements: YtmbjhednpnokpaaTotals.lean).
  GIVEN WITH THE SEED: the statements are not yours to turn. If you find one false, say at which input.
  Laid BY PROGRAM, IN A SANDBOX (cutbox-rows.mjs): the forced cells as the released guide's own fill.sh prints them over the translation b696d71e9ca898e5… (all of the seat's roots in one cut). By AI agents, Wed Nov 11 2026. No macro, syntax, notation, axiom, sorry.
-/
import Derived.Test.YtmbjhednpnokpaaChecked
import GoSem.Claim
import GoSem.ClaimJoined
import GoSem.ClaimMapViews
import Derived.JoinedTies
import Derived.KernelRfl
namespace Go.Proofs.Ytmbjhednpnokpaa
/- THE CELL 'sum', in the pinned program and in every row, IS THE sha256 OF THE DUMP (.gsa) THAT YtmbjhednpnokpaaProg.lean LOADS. Nothing in Lean hashes anything: it is a label: what it is worth is what the hold of that sum in a sandbox is worth. -/
noncomputable def Try.pinned : Pinned := { name := "ytmbjhednpnokpaa", sum := "b696d71e9ca898e5517217a3de73560af400de77228af43dd60676b090c533c5", checked := Try.checked }
namespace Rows
def none {H : Type} : Left H := { results := [], args := [] }

/-- 'laws.FnExactAtMostCnf': WHATEVER THE INPUT: true; the input reads as it did. -/
def fnExactAtMostCnfSpec : ChangeSpec := { name := "fnExactAtMostCnf", fn := fun _ => fun
  | [d1, d2] => { results := [.lit (.bool true)], args := [d1, d2] }
  | _ => none }
def fnExactAtMostCnfRow : OpenClaim := { program := "ytmbjhednpnokpaa", sum := "b696d71e9ca898e5517217a3de73560af400de77228af43dd60676b090c533c5", func := "loop.example/g01080/laws.FnExactAtMostCnf", spec := "fnExactAtMostCnf", unfollowed := true, recurses := true, apart := false }
def FnExactAtMostCnfSaid : Prop := fnExactAtMostCnfRow.holds Try.pinned (OpenSpec.ofChange fnExactAtMostCnfSpec)

/-- ITS FALSE NEIGHBOUR: 'it returns false'. Refute it at one input. -/
def fnExactAtMostCnfWrong : ChangeSpec := { name := "fnExactAtMostCnf", fn := fun _ => fun
  | [d1, d2] => { results := [.lit (.bool false)], args := [d1, d2] }
  | _ => none }
def FnExactAtMostCnfWrongFalsely : Prop := fnExactAtMostCnfRow.holds Try.pinned (OpenSpec.ofChange fnExactAtMostCnfWrong)

/-- 'laws.FnExactAtLeastCnf': WHATEVER THE INPUT: true; the input reads as it did. -/
def fnExactAtLeastCnfSpec : ChangeSpec := { name := "fnExactAtLeastCnf", fn := fun _ => fun
  | [d1, d2] => { results := [.lit (.bool true)], args := [d1, d2] }
  | _ => none }
def fnExactAtLeastCnfRow : OpenClaim := { program := "ytmbjhednpnokpaa", sum := "b696d71e9ca898e5517217a3de73560af400de77228af43dd60676b090c533c5", func := "loop.example/g01080/laws.FnExactAtLeastCnf", spec := "fnExactAtLeastCnf", unfollowed := true, recurses := true, apart := false }
def FnExactAtLeastCnfSaid : Prop := fnExactAtLeastCnfRow.holds Try.pinned (OpenSpec.ofChange fnExactAtLeastCnfSpec)

/-- ITS FALSE NEIGHBOUR: 'it returns false'. Refute it at one input. -/
def fnExactAtLeastCnfWrong : ChangeSpec := { name := "fnExactAtLeastCnf", fn := fun _ => fun
  | [d1, d2] => { results := [.lit (.bool false)], args := [d1, d2] }
  | _ => none }
def FnExactAtLeastCnfWrongFalsely : Prop := fnExactAtLeastCnfRow.holds Try.pinned (OpenSpec.ofChange fnExactAtLeastCnfWrong)

/-- 'laws.FnExactTriangleCnf': WHATEVER THE INPUT: true; the input reads as it did. -/
def fnExactTriangleCnfSpec : ChangeSpec := { name := "fnExactTriangleCnf", fn := fun _ => fun
  | [d] => { results := [.lit (.bool true)], args := [d] }
  | _ => none }
def fnExactTriangleCnfRow : OpenClaim := { program := "ytmbjhednpnokpaa", sum := "b696d71e9ca898e5517217a3de73560af400de77228af43dd60676b090c533c5", func := "loop.example/g01080/laws.FnExactTriangleCnf", spec := "fnExactTriangleCnf", unfollowed := true, recurses := true, apart := false }
def FnExactTriangleCnfSaid : Prop := fnExactTriangleCnfRow.holds Try.pinned (OpenSpec.ofChange fnExactTriangleCnfSpec)

/-- ITS FALSE NEIGHBOUR: 'it returns false'. Refute it at one input. -/
def fnExactTriangleCnfWrong : ChangeSpec := { name := "fnExactTriangleCnf", fn := fun _ => fun
  | [d] => { results := [.lit (.bool false)], args := [d] }
  | _ => none }
def FnExactTriangleCnfWrongFalsely : Prop := fnExactTriangleCnfRow.holds Try.pinned (OpenSpec.ofChange fnExactTriangleCnfWrong)

/-- 'laws.FnExactSpanSize': WHATEVER THE INPUT: true; the input reads as it did. -/
def fnExactSpanSizeSpec : ChangeSpec := { name := "fnExactSpanSize", fn := fun _ => fun
  | [d1, d2, d3] => { results := [.lit (.bool true)], args := [d1, d2, d3] }
  | _ => none }
def fnExactSpanSizeRow : OpenClaim := { program := "ytmbjhednpnokpaa", sum := "b696d71e9ca898e5517217a3de73560af400de77228af43dd60676b090c533c5", func := "loop.example/g01080/laws.FnExactSpanSize", spec := "fnExactSpanSize", unfollowed := true, recurses := true, apart := false }
def FnExactSpanSizeSaid : Prop := fnExactSpanSizeRow.holds Try.pinned (OpenSpec.ofChange fnExactSpanSizeSpec)

/-- ITS FALSE NEIGHBOUR: 'it returns false'. Refute it at one input. -/
def fnExactSpanSizeWrong : ChangeSpec := { name := "fnExactSpanSize", fn := fun _ => fun
  | [d1, d2, d3] => { results := [.lit (.bool false)], args := [d1, d2, d3] }
  | _ => none }
def FnExactSpanSizeWrongFalsely : Prop := fnExactSpanSizeRow.holds Try.pinned (OpenSpec.ofChange fnExactSpanSizeWrong)

/- THE SECOND FORM. 'bulk': how many values and letters a reading holds, each counted each time it is reached (what is shared counts as often as it is met; a slice's spare places count too). A statement '..UptoSaid' is the law's where the arguments, and the package variables that the reading takes, are together of bulk at most 1048576: NARROWER than '..Said'. Prove '..Said' where nothing that the law and all that it calls make is longer than what came in: it says more and counts as full. Else prove '..UptoSaid'. A law counts once. -/
mutual
def uptoBulk {H : Type} : DataW H → Nat
  | .lit (.string bytes) => bytes.length + 1
  | .lit _ => 1
  | .nil => 1
  | .ptr d => uptoBulk d + 1
  | .slice elems spare => uptoBulkAll elems + uptoBulkAll spare + 1
  | .agg parts => uptoBulkAll parts + 1
  | .iface _ d => uptoBulk d + 1
  | .map entries => uptoBulkEntries entries + 1
  | .held _ => 1
def uptoBulkAll {H : Type} : List (DataW H) → Nat
  | [] => 0
  | d :: r => uptoBulk d + uptoBulkAll r
def uptoBulkEntries {H : Type} : List (Lit × DataW H) → Nat
  | [] => 0
  | x :: r => uptoBulkEntry x + uptoBulkEntries r
def uptoBulkEntry {H : Type} : Lit × DataW H → Nat
  | (.string bytes, d) => bytes.length + uptoBulk d + 1
  | (_, d) => uptoBulk d + 1
 end
def uptoSmall : (H : Type) → List (DataW H) → Bool := fun _ ds => decide (uptoBulkAll ds ≤ 1048576)
def OpenSpec.upto (s : _root_.Go.ChangeSpec) : _root_.Go.OpenSpec := { _root_.Go.OpenSpec.ofChange s with cond := some uptoSmall }

/-- 'laws.FnExactAtMostCnf', WHERE WHAT IT READS IS OF BULK AT MOST 1048576: true; the input reads as it did. -/
def fnExactAtMostCnfUptoRow : OpenClaim := { program := "ytmbjhednpnokpaa", sum := "b696d71e9ca898e5517217a3de73560af400de77228af43dd60676b090c533c5", func := "loop.example/g01080/laws.FnExactAtMostCnf", spec := "fnExactAtMostCnf", unfollowed := true, recurses := true, apart := false, narrowed := true }
def FnExactAtMostCnfUptoSaid : Prop := fnExactAtMostCnfUptoRow.holds Try.pinned (OpenSpec.upto fnExactAtMostCnfSpec)

/-- 'laws.FnExactAtLeastCnf', WHERE WHAT IT READS IS OF BULK AT MOST 1048576: true; the input reads as it did. -/
def fnExactAtLeastCnfUptoRow : OpenClaim := { program := "ytmbjhednpnokpaa", sum := "b696d71e9ca898e5517217a3de73560af400de77228af43dd60676b090c533c5", func := "loop.example/g01080/laws.FnExactAtLeastCnf", spec := "fnExactAtLeastCnf", unfollowed := true, recurses := true, apart := false, narrowed := true }
def FnExactAtLeastCnfUptoSaid : Prop := fnExactAtLeastCnfUptoRow.holds Try.pinned (OpenSpec.upto fnExactAtLeastCnfSpec)

/-- 'laws.FnExactTriangleCnf', WHERE WHAT IT READS IS OF BULK AT MOST 1048576: true; the input reads as it did. -/
def fnExactTriangleCnfUptoRow : OpenClaim := { program := "ytmbjhednpnokpaa", sum := "b696d71e9ca898e5517217a3de73560af400de77228af43dd60676b090c533c5", func := "loop.example/g01080/laws.FnExactTriangleCnf", spec := "fnExactTriangleCnf", unfollowed := true, recurses := true, apart := false, narrowed := true }
def FnExactTriangleCnfUptoSaid : Prop := fnExactTriangleCnfUptoRow.holds Try.pinned (OpenSpec.upto fnExactTriangleCnfSpec)

/-- 'laws.FnExactSpanSize', WHERE WHAT IT READS IS OF BULK AT MOST 1048576: true; the input reads as it did. -/
def fnExactSpanSizeUptoRow : OpenClaim := { program := "ytmbjhednpnokpaa", sum := "b696d71e9ca898e5517217a3de73560af400de77228af43dd60676b090c533c5", func := "loop.example/g01080/laws.FnExactSpanSize", spec := "fnExactSpanSize", unfollowed := true, recurses := true, apart := false, narrowed := true }
def FnExactSpanSizeUptoSaid : Prop := fnExactSpanSizeUptoRow.holds Try.pinned (OpenSpec.upto fnExactSpanSizeSpec)

end Rows
end Go.Proofs.Ytmbjhednpnokpaa
