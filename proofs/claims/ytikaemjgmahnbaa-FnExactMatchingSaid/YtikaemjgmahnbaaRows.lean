/-
  No cell of these rows narrows 'for every input' (looked for: loops, veiled, ifaces, maps, wideKeys, modest, calm, conditions, laid).
  DERIVED. THE GIVEN ROWS OF THIS SEAT. 12 by the template 'for every input the law returns true; each argument reads behind the call as it read before'; 0 by the template 'total and deterministic' (their statements: YtikaemjgmahnbaaTotals.lean).
  GIVEN WITH THE SEED: the statements are not yours to turn. If you find one false, say at which input.
  Laid BY PROGRAM, IN A SANDBOX (cutbox-rows.mjs): the forced cells as the released guide's own fill.sh prints them over the translation b2ed3e6e6d12eff8… (all of the seat's roots in one cut). By AI agents, Wed Nov 11 2026. No macro, syntax, notation, axiom, sorry.
-/
import Derived.Test.YtikaemjgmahnbaaChecked
import GoSem.Claim
import GoSem.ClaimJoined
import GoSem.ClaimMapViews
import Derived.JoinedTies
import Derived.KernelRfl
namespace Go.Proofs.Ytikaemjgmahnbaa
/- THE CELL 'sum', in the pinned program and in every row, IS THE sha256 OF THE DUMP (.gsa) THAT YtikaemjgmahnbaaProg.lean LOADS. Nothing in Lean hashes anything: it is a label: what it is worth is what the hold of that sum in a sandbox is worth. -/
noncomputable def Try.pinned : Pinned := { name := "ytikaemjgmahnbaa", sum := "b2ed3e6e6d12eff8b668b2418ab120958d7bd4d0d6ef0df3aac59a17883c2c6b", checked := Try.checked }
namespace Rows
def none {H : Type} : Left H := { results := [], args := [] }

/-- 'laws.FnExactPigeonCnf': WHATEVER THE INPUT: true; the input reads as it did. -/
def fnExactPigeonCnfSpec : ChangeSpec := { name := "fnExactPigeonCnf", fn := fun _ => fun
  | [d] => { results := [.lit (.bool true)], args := [d] }
  | _ => none }
def fnExactPigeonCnfRow : OpenClaim := { program := "ytikaemjgmahnbaa", sum := "b2ed3e6e6d12eff8b668b2418ab120958d7bd4d0d6ef0df3aac59a17883c2c6b", func := "loop.example/g01080/laws.FnExactPigeonCnf", spec := "fnExactPigeonCnf", unfollowed := true, recurses := true, apart := false }
def FnExactPigeonCnfSaid : Prop := fnExactPigeonCnfRow.holds Try.pinned (OpenSpec.ofChange fnExactPigeonCnfSpec)

/-- ITS FALSE NEIGHBOUR: 'it returns false'. Refute it at one input. -/
def fnExactPigeonCnfWrong : ChangeSpec := { name := "fnExactPigeonCnf", fn := fun _ => fun
  | [d] => { results := [.lit (.bool false)], args := [d] }
  | _ => none }
def FnExactPigeonCnfWrongFalsely : Prop := fnExactPigeonCnfRow.holds Try.pinned (OpenSpec.ofChange fnExactPigeonCnfWrong)

/-- 'laws.FnExactImplicationChain': WHATEVER THE INPUT: true; the input reads as it did. -/
def fnExactImplicationChainSpec : ChangeSpec := { name := "fnExactImplicationChain", fn := fun _ => fun
  | [d] => { results := [.lit (.bool true)], args := [d] }
  | _ => none }
def fnExactImplicationChainRow : OpenClaim := { program := "ytikaemjgmahnbaa", sum := "b2ed3e6e6d12eff8b668b2418ab120958d7bd4d0d6ef0df3aac59a17883c2c6b", func := "loop.example/g01080/laws.FnExactImplicationChain", spec := "fnExactImplicationChain", unfollowed := true, recurses := true, apart := false }
def FnExactImplicationChainSaid : Prop := fnExactImplicationChainRow.holds Try.pinned (OpenSpec.ofChange fnExactImplicationChainSpec)

/-- ITS FALSE NEIGHBOUR: 'it returns false'. Refute it at one input. -/
def fnExactImplicationChainWrong : ChangeSpec := { name := "fnExactImplicationChain", fn := fun _ => fun
  | [d] => { results := [.lit (.bool false)], args := [d] }
  | _ => none }
def FnExactImplicationChainWrongFalsely : Prop := fnExactImplicationChainRow.holds Try.pinned (OpenSpec.ofChange fnExactImplicationChainWrong)

/-- 'laws.FnExactCycleCnf': WHATEVER THE INPUT: true; the input reads as it did. -/
def fnExactCycleCnfSpec : ChangeSpec := { name := "fnExactCycleCnf", fn := fun _ => fun
  | [d] => { results := [.lit (.bool true)], args := [d] }
  | _ => none }
def fnExactCycleCnfRow : OpenClaim := { program := "ytikaemjgmahnbaa", sum := "b2ed3e6e6d12eff8b668b2418ab120958d7bd4d0d6ef0df3aac59a17883c2c6b", func := "loop.example/g01080/laws.FnExactCycleCnf", spec := "fnExactCycleCnf", unfollowed := true, recurses := true, apart := false }
def FnExactCycleCnfSaid : Prop := fnExactCycleCnfRow.holds Try.pinned (OpenSpec.ofChange fnExactCycleCnfSpec)

/-- ITS FALSE NEIGHBOUR: 'it returns false'. Refute it at one input. -/
def fnExactCycleCnfWrong : ChangeSpec := { name := "fnExactCycleCnf", fn := fun _ => fun
  | [d] => { results := [.lit (.bool false)], args := [d] }
  | _ => none }
def FnExactCycleCnfWrongFalsely : Prop := fnExactCycleCnfRow.holds Try.pinned (OpenSpec.ofChange fnExactCycleCnfWrong)

/-- 'laws.FnExactProgressionCnf': WHATEVER THE INPUT: true; the input reads as it did. -/
def fnExactProgressionCnfSpec : ChangeSpec := { name := "fnExactProgressionCnf", fn := fun _ => fun
  | [d] => { results := [.lit (.bool true)], args := [d] }
  | _ => none }
def fnExactProgressionCnfRow : OpenClaim := { program := "ytikaemjgmahnbaa", sum := "b2ed3e6e6d12eff8b668b2418ab120958d7bd4d0d6ef0df3aac59a17883c2c6b", func := "loop.example/g01080/laws.FnExactProgressionCnf", spec := "fnExactProgressionCnf", unfollowed := true, recurses := true, apart := false }
def FnExactProgressionCnfSaid : Prop := fnExactProgressionCnfRow.holds Try.pinned (OpenSpec.ofChange fnExactProgressionCnfSpec)

/-- ITS FALSE NEIGHBOUR: 'it returns false'. Refute it at one input. -/
def fnExactProgressionCnfWrong : ChangeSpec := { name := "fnExactProgressionCnf", fn := fun _ => fun
  | [d] => { results := [.lit (.bool false)], args := [d] }
  | _ => none }
def FnExactProgressionCnfWrongFalsely : Prop := fnExactProgressionCnfRow.holds Try.pinned (OpenSpec.ofChange fnExactProgressionCnfWrong)

/-- 'laws.FnExactPigeonhole': WHATEVER THE INPUT: true; the input reads as it did. -/
def fnExactPigeonholeSpec : ChangeSpec := { name := "fnExactPigeonhole", fn := fun _ => fun
  | [d1, d2] => { results := [.lit (.bool true)], args := [d1, d2] }
  | _ => none }
def fnExactPigeonholeRow : OpenClaim := { program := "ytikaemjgmahnbaa", sum := "b2ed3e6e6d12eff8b668b2418ab120958d7bd4d0d6ef0df3aac59a17883c2c6b", func := "loop.example/g01080/laws.FnExactPigeonhole", spec := "fnExactPigeonhole", unfollowed := true, recurses := true, apart := false }
def FnExactPigeonholeSaid : Prop := fnExactPigeonholeRow.holds Try.pinned (OpenSpec.ofChange fnExactPigeonholeSpec)

/-- ITS FALSE NEIGHBOUR: 'it returns false'. Refute it at one input. -/
def fnExactPigeonholeWrong : ChangeSpec := { name := "fnExactPigeonhole", fn := fun _ => fun
  | [d1, d2] => { results := [.lit (.bool false)], args := [d1, d2] }
  | _ => none }
def FnExactPigeonholeWrongFalsely : Prop := fnExactPigeonholeRow.holds Try.pinned (OpenSpec.ofChange fnExactPigeonholeWrong)

/-- 'laws.FnExactAtMostCnf': WHATEVER THE INPUT: true; the input reads as it did. -/
def fnExactAtMostCnfSpec : ChangeSpec := { name := "fnExactAtMostCnf", fn := fun _ => fun
  | [d1, d2] => { results := [.lit (.bool true)], args := [d1, d2] }
  | _ => none }
def fnExactAtMostCnfRow : OpenClaim := { program := "ytikaemjgmahnbaa", sum := "b2ed3e6e6d12eff8b668b2418ab120958d7bd4d0d6ef0df3aac59a17883c2c6b", func := "loop.example/g01080/laws.FnExactAtMostCnf", spec := "fnExactAtMostCnf", unfollowed := true, recurses := true, apart := false }
def FnExactAtMostCnfSaid : Prop := fnExactAtMostCnfRow.holds Try.pinned (OpenSpec.ofChange fnExactAtMostCnfSpec)

/-- ITS FALSE NEIGHBOUR: 'it returns false'. Refute it at one input. -/
def fnExactAtMostCnfWrong : ChangeSpec := { name := "fnExactAtMostCnf", fn := fun _ => fun
  | [d1, d2] => { results := [.lit (.bool false)], args := [d1, d2] }
  | _ => none }
def FnExactAtMostCnfWrongFalsely : Prop := fnExactAtMostCnfRow.holds Try.pinned (OpenSpec.ofChange fnExactAtMostCnfWrong)

/-- 'laws.FnExactAtLeastCnf': WHATEVER THE INPUT: true; the input reads as it did. -/
def fnExactAtLeastCnfSpec : ChangeSpec := { name := "fnExactAtLeastCnf", fn := fun _ => fun
  | [d1, d2] => { results := [.lit (.bool true)], args := [d1, d2] }
  | _ => none }
def fnExactAtLeastCnfRow : OpenClaim := { program := "ytikaemjgmahnbaa", sum := "b2ed3e6e6d12eff8b668b2418ab120958d7bd4d0d6ef0df3aac59a17883c2c6b", func := "loop.example/g01080/laws.FnExactAtLeastCnf", spec := "fnExactAtLeastCnf", unfollowed := true, recurses := true, apart := false }
def FnExactAtLeastCnfSaid : Prop := fnExactAtLeastCnfRow.holds Try.pinned (OpenSpec.ofChange fnExactAtLeastCnfSpec)

/-- ITS FALSE NEIGHBOUR: 'it returns false'. Refute it at one input. -/
def fnExactAtLeastCnfWrong : ChangeSpec := { name := "fnExactAtLeastCnf", fn := fun _ => fun
  | [d1, d2] => { results := [.lit (.bool false)], args := [d1, d2] }
  | _ => none }
def FnExactAtLeastCnfWrongFalsely : Prop := fnExactAtLeastCnfRow.holds Try.pinned (OpenSpec.ofChange fnExactAtLeastCnfWrong)

/-- 'laws.FnExactTriangleCnf': WHATEVER THE INPUT: true; the input reads as it did. -/
def fnExactTriangleCnfSpec : ChangeSpec := { name := "fnExactTriangleCnf", fn := fun _ => fun
  | [d] => { results := [.lit (.bool true)], args := [d] }
  | _ => none }
def fnExactTriangleCnfRow : OpenClaim := { program := "ytikaemjgmahnbaa", sum := "b2ed3e6e6d12eff8b668b2418ab120958d7bd4d0d6ef0df3aac59a17883c2c6b", func := "loop.example/g01080/laws.FnExactTriangleCnf", spec := "fnExactTriangleCnf", unfollowed := true, recurses := true, apart := false }
def FnExactTriangleCnfSaid : Prop := fnExactTriangleCnfRow.holds Try.pinned (OpenSpec.ofChange fnExactTriangleCnfSpec)

/-- ITS FALSE NEIGHBOUR: 'it returns false'. Refute it at one input. -/
def fnExactTriangleCnfWrong : ChangeSpec := { name := "fnExactTriangleCnf", fn := fun _ => fun
  | [d] => { results := [.lit (.bool false)], args := [d] }
  | _ => none }
def FnExactTriangleCnfWrongFalsely : Prop := fnExactTriangleCnfRow.holds Try.pinned (OpenSpec.ofChange fnExactTriangleCnfWrong)

/-- 'laws.FnExactOrdering': WHATEVER THE INPUT: true; the input reads as it did. -/
def fnExactOrderingSpec : ChangeSpec := { name := "fnExactOrdering", fn := fun _ => fun
  | [d] => { results := [.lit (.bool true)], args := [d] }
  | _ => none }
def fnExactOrderingRow : OpenClaim := { program := "ytikaemjgmahnbaa", sum := "b2ed3e6e6d12eff8b668b2418ab120958d7bd4d0d6ef0df3aac59a17883c2c6b", func := "loop.example/g01080/laws.FnExactOrdering", spec := "fnExactOrdering", unfollowed := true, recurses := true, apart := false }
def FnExactOrderingSaid : Prop := fnExactOrderingRow.holds Try.pinned (OpenSpec.ofChange fnExactOrderingSpec)

/-- ITS FALSE NEIGHBOUR: 'it returns false'. Refute it at one input. -/
def fnExactOrderingWrong : ChangeSpec := { name := "fnExactOrdering", fn := fun _ => fun
  | [d] => { results := [.lit (.bool false)], args := [d] }
  | _ => none }
def FnExactOrderingWrongFalsely : Prop := fnExactOrderingRow.holds Try.pinned (OpenSpec.ofChange fnExactOrderingWrong)

/-- 'laws.FnExactColoringCnf': WHATEVER THE INPUT: true; the input reads as it did. -/
def fnExactColoringCnfSpec : ChangeSpec := { name := "fnExactColoringCnf", fn := fun _ => fun
  | [d1, d2, d3] => { results := [.lit (.bool true)], args := [d1, d2, d3] }
  | _ => none }
def fnExactColoringCnfRow : OpenClaim := { program := "ytikaemjgmahnbaa", sum := "b2ed3e6e6d12eff8b668b2418ab120958d7bd4d0d6ef0df3aac59a17883c2c6b", func := "loop.example/g01080/laws.FnExactColoringCnf", spec := "fnExactColoringCnf", unfollowed := true, recurses := true, apart := false }
def FnExactColoringCnfSaid : Prop := fnExactColoringCnfRow.holds Try.pinned (OpenSpec.ofChange fnExactColoringCnfSpec)

/-- ITS FALSE NEIGHBOUR: 'it returns false'. Refute it at one input. -/
def fnExactColoringCnfWrong : ChangeSpec := { name := "fnExactColoringCnf", fn := fun _ => fun
  | [d1, d2, d3] => { results := [.lit (.bool false)], args := [d1, d2, d3] }
  | _ => none }
def FnExactColoringCnfWrongFalsely : Prop := fnExactColoringCnfRow.holds Try.pinned (OpenSpec.ofChange fnExactColoringCnfWrong)

/-- 'laws.FnExactMatching': WHATEVER THE INPUT: true; the input reads as it did. -/
def fnExactMatchingSpec : ChangeSpec := { name := "fnExactMatching", fn := fun _ => fun
  | [d] => { results := [.lit (.bool true)], args := [d] }
  | _ => none }
def fnExactMatchingRow : OpenClaim := { program := "ytikaemjgmahnbaa", sum := "b2ed3e6e6d12eff8b668b2418ab120958d7bd4d0d6ef0df3aac59a17883c2c6b", func := "loop.example/g01080/laws.FnExactMatching", spec := "fnExactMatching", unfollowed := true, recurses := true, apart := false }
def FnExactMatchingSaid : Prop := fnExactMatchingRow.holds Try.pinned (OpenSpec.ofChange fnExactMatchingSpec)

/-- ITS FALSE NEIGHBOUR: 'it returns false'. Refute it at one input. -/
def fnExactMatchingWrong : ChangeSpec := { name := "fnExactMatching", fn := fun _ => fun
  | [d] => { results := [.lit (.bool false)], args := [d] }
  | _ => none }
def FnExactMatchingWrongFalsely : Prop := fnExactMatchingRow.holds Try.pinned (OpenSpec.ofChange fnExactMatchingWrong)

/-- 'laws.FnExactRenameCnf': WHATEVER THE INPUT: true; the input reads as it did. -/
def fnExactRenameCnfSpec : ChangeSpec := { name := "fnExactRenameCnf", fn := fun _ => fun
  | [d1, d2] => { results := [.lit (.bool true)], args := [d1, d2] }
  | _ => none }
def fnExactRenameCnfRow : OpenClaim := { program := "ytikaemjgmahnbaa", sum := "b2ed3e6e6d12eff8b668b2418ab120958d7bd4d0d6ef0df3aac59a17883c2c6b", func := "loop.example/g01080/laws.FnExactRenameCnf", spec := "fnExactRenameCnf", unfollowed := true, recurses := true, apart := false }
def FnExactRenameCnfSaid : Prop := fnExactRenameCnfRow.holds Try.pinned (OpenSpec.ofChange fnExactRenameCnfSpec)

/-- ITS FALSE NEIGHBOUR: 'it returns false'. Refute it at one input. -/
def fnExactRenameCnfWrong : ChangeSpec := { name := "fnExactRenameCnf", fn := fun _ => fun
  | [d1, d2] => { results := [.lit (.bool false)], args := [d1, d2] }
  | _ => none }
def FnExactRenameCnfWrongFalsely : Prop := fnExactRenameCnfRow.holds Try.pinned (OpenSpec.ofChange fnExactRenameCnfWrong)

/- THE SECOND FORM. 'bulk': how many values and letters a reading holds, each counted each time it is reached (what is shared counts as often as it is met; a slice's spare places count too). A statement '..UptoSaid' is the law's where the arguments, and the package variables that the reading takes, are together of bulk at most 1048576: NARROWER than '..Said'. Prove '..Said' where nothing that the law and all that it calls make is longer than what came in: it says more and counts as full. Else prove '..UptoSaid'. A law counts once. -/
mutual
def uptoBulk {H : Type} : DataW H → Nat
  | .lit (.string bytes) => bytes.length + 1
  | .lit _ => 1
  | .nil => 1
  | .ptr d => uptoBulk d + 1
  | .slice elems spare => uptoBulkAll elems + uptoBulkAll spare + 1
  | .agg parts => uptoBulkAll parts + 1
  | .iface _ d => uptoBulk d + 1
  | .map entries => uptoBulkEntries entries + 1
  | .held _ => 1
def uptoBulkAll {H : Type} : List (DataW H) → Nat
  | [] => 0
  | d :: r => uptoBulk d + uptoBulkAll r
def uptoBulkEntries {H : Type} : List (Lit × DataW H) → Nat
  | [] => 0
  | x :: r => uptoBulkEntry x + uptoBulkEntries r
def uptoBulkEntry {H : Type} : Lit × DataW H → Nat
  | (.string bytes, d) => bytes.length + uptoBulk d + 1
  | (_, d) => uptoBulk d + 1
 end
def uptoSmall : (H : Type) → List (DataW H) → Bool := fun _ ds => decide (uptoBulkAll ds ≤ 1048576)
def OpenSpec.upto (s : _root_.Go.ChangeSpec) : _root_.Go.OpenSpec := { _root_.Go.OpenSpec.ofChange s with cond := some uptoSmall }

/-- 'laws.FnExactPigeonCnf', WHERE WHAT IT READS IS OF BULK AT MOST 1048576: true; the input reads as it did. -/
def fnExactPigeonCnfUptoRow : OpenClaim := { program := "ytikaemjgmahnbaa", sum := "b2ed3e6e6d12eff8b668b2418ab120958d7bd4d0d6ef0df3aac59a17883c2c6b", func := "loop.example/g01080/laws.FnExactPigeonCnf", spec := "fnExactPigeonCnf", unfollowed := true, recurses := true, apart := false, narrowed := true }
def FnExactPigeonCnfUptoSaid : Prop := fnExactPigeonCnfUptoRow.holds Try.pinned (OpenSpec.upto fnExactPigeonCnfSpec)

/-- 'laws.FnExactImplicationChain', WHERE WHAT IT READS IS OF BULK AT MOST 1048576: true; the input reads as it did. -/
def fnExactImplicationChainUptoRow : OpenClaim := { program := "ytikaemjgmahnbaa", sum := "b2ed3e6e6d12eff8b668b2418ab120958d7bd4d0d6ef0df3aac59a17883c2c6b", func := "loop.example/g01080/laws.FnExactImplicationChain", spec := "fnExactImplicationChain", unfollowed := true, recurses := true, apart := false, narrowed := true }
def FnExactImplicationChainUptoSaid : Prop := fnExactImplicationChainUptoRow.holds Try.pinned (OpenSpec.upto fnExactImplicationChainSpec)

/-- 'laws.FnExactCycleCnf', WHERE WHAT IT READS IS OF BULK AT MOST 1048576: true; the input reads as it did. -/
def fnExactCycleCnfUptoRow : OpenClaim := { program := "ytikaemjgmahnbaa", sum := "b2ed3e6e6d12eff8b668b2418ab120958d7bd4d0d6ef0df3aac59a17883c2c6b", func := "loop.example/g01080/laws.FnExactCycleCnf", spec := "fnExactCycleCnf", unfollowed := true, recurses := true, apart := false, narrowed := true }
def FnExactCycleCnfUptoSaid : Prop := fnExactCycleCnfUptoRow.holds Try.pinned (OpenSpec.upto fnExactCycleCnfSpec)

/-- 'laws.FnExactProgressionCnf', WHERE WHAT IT READS IS OF BULK AT MOST 1048576: true; the input reads as it did. -/
def fnExactProgressionCnfUptoRow : OpenClaim := { program := "ytikaemjgmahnbaa", sum := "b2ed3e6e6d12eff8b668b2418ab120958d7bd4d0d6ef0df3aac59a17883c2c6b", func := "loop.example/g01080/laws.FnExactProgressionCnf", spec := "fnExactProgressionCnf", unfollowed := true, recurses := true, apart := false, narrowed := true }
def FnExactProgressionCnfUptoSaid : Prop := fnExactProgressionCnfUptoRow.holds Try.pinned (OpenSpec.upto fnExactProgressionCnfSpec)

/-- 'laws.FnExactPigeonhole', WHERE WHAT IT READS IS OF BULK AT MOST 1048576: true; the input reads as it did. -/
def fnExactPigeonholeUptoRow : OpenClaim := { program := "ytikaemjgmahnbaa", sum := "b2ed3e6e6d12eff8b668b2418ab120958d7bd4d0d6ef0df3aac59a17883c2c6b", func := "loop.example/g01080/laws.FnExactPigeonhole", spec := "fnExactPigeonhole", unfollowed := true, recurses := true, apart := false, narrowed := true }
def FnExactPigeonholeUptoSaid : Prop := fnExactPigeonholeUptoRow.holds Try.pinned (OpenSpec.upto fnExactPigeonholeSpec)

/-- 'laws.FnExactAtMostCnf', WHERE WHAT IT READS IS OF BULK AT MOST 1048576: true; the input reads as it did. -/
def fnExactAtMostCnfUptoRow : OpenClaim := { program := "ytikaemjgmahnbaa", sum := "b2ed3e6e6d12eff8b668b2418ab120958d7bd4d0d6ef0df3aac59a17883c2c6b", func := "loop.example/g01080/laws.FnExactAtMostCnf", spec := "fnExactAtMostCnf", unfollowed := true, recurses := true, apart := false, narrowed := true }
def FnExactAtMostCnfUptoSaid : Prop := fnExactAtMostCnfUptoRow.holds Try.pinned (OpenSpec.upto fnExactAtMostCnfSpec)

/-- 'laws.FnExactAtLeastCnf', WHERE WHAT IT READS IS OF BULK AT MOST 1048576: true; the input reads as it did. -/
def fnExactAtLeastCnfUptoRow : OpenClaim := { program := "ytikaemjgmahnbaa", sum := "b2ed3e6e6d12eff8b668b2418ab120958d7bd4d0d6ef0df3aac59a17883c2c6b", func := "loop.example/g01080/laws.FnExactAtLeastCnf", spec := "fnExactAtLeastCnf", unfollowed := true, recurses := true, apart := false, narrowed := true }
def FnExactAtLeastCnfUptoSaid : Prop := fnExactAtLeastCnfUptoRow.holds Try.pinned (OpenSpec.upto fnExactAtLeastCnfSpec)

/-- 'laws.FnExactTriangleCnf', WHERE WHAT IT READS IS OF BULK AT MOST 1048576: true; the input reads as it did. -/
def fnExactTriangleCnfUptoRow : OpenClaim := { program := "ytikaemjgmahnbaa", sum := "b2ed3e6e6d12eff8b668b2418ab120958d7bd4d0d6ef0df3aac59a17883c2c6b", func := "loop.example/g01080/laws.FnExactTriangleCnf", spec := "fnExactTriangleCnf", unfollowed := true, recurses := true, apart := false, narrowed := true }
def FnExactTriangleCnfUptoSaid : Prop := fnExactTriangleCnfUptoRow.holds Try.pinned (OpenSpec.upto fnExactTriangleCnfSpec)

/-- 'laws.FnExactOrdering', WHERE WHAT IT READS IS OF BULK AT MOST 1048576: true; the input reads as it did. -/
def fnExactOrderingUptoRow : OpenClaim := { program := "ytikaemjgmahnbaa", sum := "b2ed3e6e6d12eff8b668b2418ab120958d7bd4d0d6ef0df3aac59a17883c2c6b", func := "loop.example/g01080/laws.FnExactOrdering", spec := "fnExactOrdering", unfollowed := true, recurses := true, apart := false, narrowed := true }
def FnExactOrderingUptoSaid : Prop := fnExactOrderingUptoRow.holds Try.pinned (OpenSpec.upto fnExactOrderingSpec)

/-- 'laws.FnExactColoringCnf', WHERE WHAT IT READS IS OF BULK AT MOST 1048576: true; the input reads as it did. -/
def fnExactColoringCnfUptoRow : OpenClaim := { program := "ytikaemjgmahnbaa", sum := "b2ed3e6e6d12eff8b668b2418ab120958d7bd4d0d6ef0df3aac59a17883c2c6b", func := "loop.example/g01080/laws.FnExactColoringCnf", spec := "fnExactColoringCnf", unfollowed := true, recurses := true, apart := false, narrowed := true }
def FnExactColoringCnfUptoSaid : Prop := fnExactColoringCnfUptoRow.holds Try.pinned (OpenSpec.upto fnExactColoringCnfSpec)

/-- 'laws.FnExactMatching', WHERE WHAT IT READS IS OF BULK AT MOST 1048576: true; the input reads as it did. -/
def fnExactMatchingUptoRow : OpenClaim := { program := "ytikaemjgmahnbaa", sum := "b2ed3e6e6d12eff8b668b2418ab120958d7bd4d0d6ef0df3aac59a17883c2c6b", func := "loop.example/g01080/laws.FnExactMatching", spec := "fnExactMatching", unfollowed := true, recurses := true, apart := false, narrowed := true }
def FnExactMatchingUptoSaid : Prop := fnExactMatchingUptoRow.holds Try.pinned (OpenSpec.upto fnExactMatchingSpec)

/-- 'laws.FnExactRenameCnf', WHERE WHAT IT READS IS OF BULK AT MOST 1048576: true; the input reads as it did. -/
def fnExactRenameCnfUptoRow : OpenClaim := { program := "ytikaemjgmahnbaa", sum := "b2ed3e6e6d12eff8b668b2418ab120958d7bd4d0d6ef0df3aac59a17883c2c6b", func := "loop.example/g01080/laws.FnExactRenameCnf", spec := "fnExactRenameCnf", unfollowed := true, recurses := true, apart := false, narrowed := true }
def FnExactRenameCnfUptoSaid : Prop := fnExactRenameCnfUptoRow.holds Try.pinned (OpenSpec.upto fnExactRenameCnfSpec)

end Rows
end Go.Proofs.Ytikaemjgmahnbaa
