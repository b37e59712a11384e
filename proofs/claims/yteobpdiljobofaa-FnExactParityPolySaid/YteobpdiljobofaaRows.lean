/-
  No cell of these rows narrows 'for every input' (looked for: loops, veiled, ifaces, maps, wideKeys, modest, calm, conditions, laid).
  DERIVED. THE GIVEN ROWS OF THIS SEAT. 12 by the template 'for every input the law returns true; each argument reads behind the call as it read before'; 0 by the template 'total and deterministic' (their statements: YteobpdiljobofaaTotals.lean).
  GIVEN WITH THE SEED: the statements are not yours to turn. If you find one false, say at which input.
  Laid BY PROGRAM, IN A SANDBOX (cutbox-rows.mjs): the forced cells as the released guide's own fill.sh prints them over the translation dee44aa51f7fe568… (all of the seat's roots in one cut). By AI agents, Wed Nov 11 2026. No macro, syntax, notation, axiom, sorry.
-/
import Derived.Test.YteobpdiljobofaaChecked
import GoSem.Claim
import GoSem.ClaimJoined
import GoSem.ClaimMapViews
import Derived.JoinedTies
import Derived.KernelRfl
namespace Go.Proofs.Yteobpdiljobofaa
/- THE CELL 'sum', in the pinned program and in every row, IS THE sha256 OF THE DUMP (.gsa) THAT YteobpdiljobofaaProg.lean LOADS. Nothing in Lean hashes anything: it is a label: what it is worth is what the hold of that sum in a sandbox is worth. -/
noncomputable def Try.pinned : Pinned := { name := "yteobpdiljobofaa", sum := "dee44aa51f7fe56860eef073b9e8d1bc08419b83b20e5de9fad005049553f4ef", checked := Try.checked }
namespace Rows
def none {H : Type} : Left H := { results := [], args := [] }

/-- 'laws.FnExactIsPoly': WHATEVER THE INPUT: true; the input reads as it did. -/
def fnExactIsPolySpec : ChangeSpec := { name := "fnExactIsPoly", fn := fun _ => fun
  | [d1, d2, d3] => { results := [.lit (.bool true)], args := [d1, d2, d3] }
  | _ => none }
def fnExactIsPolyRow : OpenClaim := { program := "yteobpdiljobofaa", sum := "dee44aa51f7fe56860eef073b9e8d1bc08419b83b20e5de9fad005049553f4ef", func := "loop.example/g01080/laws.FnExactIsPoly", spec := "fnExactIsPoly", apart := false }
def FnExactIsPolySaid : Prop := fnExactIsPolyRow.holds Try.pinned (OpenSpec.ofChange fnExactIsPolySpec)

/-- ITS FALSE NEIGHBOUR: 'it returns false'. Refute it at one input. -/
def fnExactIsPolyWrong : ChangeSpec := { name := "fnExactIsPoly", fn := fun _ => fun
  | [d1, d2, d3] => { results := [.lit (.bool false)], args := [d1, d2, d3] }
  | _ => none }
def FnExactIsPolyWrongFalsely : Prop := fnExactIsPolyRow.holds Try.pinned (OpenSpec.ofChange fnExactIsPolyWrong)

/-- 'laws.FnExactCoeffAt': WHATEVER THE INPUT: true; the input reads as it did. -/
def fnExactCoeffAtSpec : ChangeSpec := { name := "fnExactCoeffAt", fn := fun _ => fun
  | [d1, d2, d3, d4] => { results := [.lit (.bool true)], args := [d1, d2, d3, d4] }
  | _ => none }
def fnExactCoeffAtRow : OpenClaim := { program := "yteobpdiljobofaa", sum := "dee44aa51f7fe56860eef073b9e8d1bc08419b83b20e5de9fad005049553f4ef", func := "loop.example/g01080/laws.FnExactCoeffAt", spec := "fnExactCoeffAt", apart := false }
def FnExactCoeffAtSaid : Prop := fnExactCoeffAtRow.holds Try.pinned (OpenSpec.ofChange fnExactCoeffAtSpec)

/-- ITS FALSE NEIGHBOUR: 'it returns false'. Refute it at one input. -/
def fnExactCoeffAtWrong : ChangeSpec := { name := "fnExactCoeffAt", fn := fun _ => fun
  | [d1, d2, d3, d4] => { results := [.lit (.bool false)], args := [d1, d2, d3, d4] }
  | _ => none }
def FnExactCoeffAtWrongFalsely : Prop := fnExactCoeffAtRow.holds Try.pinned (OpenSpec.ofChange fnExactCoeffAtWrong)

/-- 'laws.FnExactPolyOf': WHATEVER THE INPUT: true; the input reads as it did. -/
def fnExactPolyOfSpec : ChangeSpec := { name := "fnExactPolyOf", fn := fun _ => fun
  | [d1, d2, d3] => { results := [.lit (.bool true)], args := [d1, d2, d3] }
  | _ => none }
def fnExactPolyOfRow : OpenClaim := { program := "yteobpdiljobofaa", sum := "dee44aa51f7fe56860eef073b9e8d1bc08419b83b20e5de9fad005049553f4ef", func := "loop.example/g01080/laws.FnExactPolyOf", spec := "fnExactPolyOf", unfollowed := true, recurses := true, apart := false }
def FnExactPolyOfSaid : Prop := fnExactPolyOfRow.holds Try.pinned (OpenSpec.ofChange fnExactPolyOfSpec)

/-- ITS FALSE NEIGHBOUR: 'it returns false'. Refute it at one input. -/
def fnExactPolyOfWrong : ChangeSpec := { name := "fnExactPolyOf", fn := fun _ => fun
  | [d1, d2, d3] => { results := [.lit (.bool false)], args := [d1, d2, d3] }
  | _ => none }
def FnExactPolyOfWrongFalsely : Prop := fnExactPolyOfRow.holds Try.pinned (OpenSpec.ofChange fnExactPolyOfWrong)

/-- 'laws.FnExactPolyWithValues': WHATEVER THE INPUT: true; the input reads as it did. -/
def fnExactPolyWithValuesSpec : ChangeSpec := { name := "fnExactPolyWithValues", fn := fun _ => fun
  | [d1, d2, d3] => { results := [.lit (.bool true)], args := [d1, d2, d3] }
  | _ => none }
def fnExactPolyWithValuesRow : OpenClaim := { program := "yteobpdiljobofaa", sum := "dee44aa51f7fe56860eef073b9e8d1bc08419b83b20e5de9fad005049553f4ef", func := "loop.example/g01080/laws.FnExactPolyWithValues", spec := "fnExactPolyWithValues", unfollowed := true, recurses := true, apart := false }
def FnExactPolyWithValuesSaid : Prop := fnExactPolyWithValuesRow.holds Try.pinned (OpenSpec.ofChange fnExactPolyWithValuesSpec)

/-- ITS FALSE NEIGHBOUR: 'it returns false'. Refute it at one input. -/
def fnExactPolyWithValuesWrong : ChangeSpec := { name := "fnExactPolyWithValues", fn := fun _ => fun
  | [d1, d2, d3] => { results := [.lit (.bool false)], args := [d1, d2, d3] }
  | _ => none }
def FnExactPolyWithValuesWrongFalsely : Prop := fnExactPolyWithValuesRow.holds Try.pinned (OpenSpec.ofChange fnExactPolyWithValuesWrong)

/-- 'laws.FnExactSetInPoly': WHATEVER THE INPUT: true; the input reads as it did. -/
def fnExactSetInPolySpec : ChangeSpec := { name := "fnExactSetInPoly", fn := fun _ => fun
  | [d1, d2, d3, d4] => { results := [.lit (.bool true)], args := [d1, d2, d3, d4] }
  | _ => none }
def fnExactSetInPolyRow : OpenClaim := { program := "yteobpdiljobofaa", sum := "dee44aa51f7fe56860eef073b9e8d1bc08419b83b20e5de9fad005049553f4ef", func := "loop.example/g01080/laws.FnExactSetInPoly", spec := "fnExactSetInPoly", apart := false }
def FnExactSetInPolySaid : Prop := fnExactSetInPolyRow.holds Try.pinned (OpenSpec.ofChange fnExactSetInPolySpec)

/-- ITS FALSE NEIGHBOUR: 'it returns false'. Refute it at one input. -/
def fnExactSetInPolyWrong : ChangeSpec := { name := "fnExactSetInPoly", fn := fun _ => fun
  | [d1, d2, d3, d4] => { results := [.lit (.bool false)], args := [d1, d2, d3, d4] }
  | _ => none }
def FnExactSetInPolyWrongFalsely : Prop := fnExactSetInPolyRow.holds Try.pinned (OpenSpec.ofChange fnExactSetInPolyWrong)

/-- 'laws.FnExactMulPolys': WHATEVER THE INPUT: true; the input reads as it did. -/
def fnExactMulPolysSpec : ChangeSpec := { name := "fnExactMulPolys", fn := fun _ => fun
  | [d1, d2, d3, d4] => { results := [.lit (.bool true)], args := [d1, d2, d3, d4] }
  | _ => none }
def fnExactMulPolysRow : OpenClaim := { program := "yteobpdiljobofaa", sum := "dee44aa51f7fe56860eef073b9e8d1bc08419b83b20e5de9fad005049553f4ef", func := "loop.example/g01080/laws.FnExactMulPolys", spec := "fnExactMulPolys", apart := false }
def FnExactMulPolysSaid : Prop := fnExactMulPolysRow.holds Try.pinned (OpenSpec.ofChange fnExactMulPolysSpec)

/-- ITS FALSE NEIGHBOUR: 'it returns false'. Refute it at one input. -/
def fnExactMulPolysWrong : ChangeSpec := { name := "fnExactMulPolys", fn := fun _ => fun
  | [d1, d2, d3, d4] => { results := [.lit (.bool false)], args := [d1, d2, d3, d4] }
  | _ => none }
def FnExactMulPolysWrongFalsely : Prop := fnExactMulPolysRow.holds Try.pinned (OpenSpec.ofChange fnExactMulPolysWrong)

/-- 'laws.FnExactScalePoly': WHATEVER THE INPUT: true; the input reads as it did. -/
def fnExactScalePolySpec : ChangeSpec := { name := "fnExactScalePoly", fn := fun _ => fun
  | [d1, d2, d3, d4] => { results := [.lit (.bool true)], args := [d1, d2, d3, d4] }
  | _ => none }
def fnExactScalePolyRow : OpenClaim := { program := "yteobpdiljobofaa", sum := "dee44aa51f7fe56860eef073b9e8d1bc08419b83b20e5de9fad005049553f4ef", func := "loop.example/g01080/laws.FnExactScalePoly", spec := "fnExactScalePoly", apart := false }
def FnExactScalePolySaid : Prop := fnExactScalePolyRow.holds Try.pinned (OpenSpec.ofChange fnExactScalePolySpec)

/-- ITS FALSE NEIGHBOUR: 'it returns false'. Refute it at one input. -/
def fnExactScalePolyWrong : ChangeSpec := { name := "fnExactScalePoly", fn := fun _ => fun
  | [d1, d2, d3, d4] => { results := [.lit (.bool false)], args := [d1, d2, d3, d4] }
  | _ => none }
def FnExactScalePolyWrongFalsely : Prop := fnExactScalePolyRow.holds Try.pinned (OpenSpec.ofChange fnExactScalePolyWrong)

/-- 'laws.FnExactAddPolys': WHATEVER THE INPUT: true; the input reads as it did. -/
def fnExactAddPolysSpec : ChangeSpec := { name := "fnExactAddPolys", fn := fun _ => fun
  | [d1, d2, d3, d4] => { results := [.lit (.bool true)], args := [d1, d2, d3, d4] }
  | _ => none }
def fnExactAddPolysRow : OpenClaim := { program := "yteobpdiljobofaa", sum := "dee44aa51f7fe56860eef073b9e8d1bc08419b83b20e5de9fad005049553f4ef", func := "loop.example/g01080/laws.FnExactAddPolys", spec := "fnExactAddPolys", apart := false }
def FnExactAddPolysSaid : Prop := fnExactAddPolysRow.holds Try.pinned (OpenSpec.ofChange fnExactAddPolysSpec)

/-- ITS FALSE NEIGHBOUR: 'it returns false'. Refute it at one input. -/
def fnExactAddPolysWrong : ChangeSpec := { name := "fnExactAddPolys", fn := fun _ => fun
  | [d1, d2, d3, d4] => { results := [.lit (.bool false)], args := [d1, d2, d3, d4] }
  | _ => none }
def FnExactAddPolysWrongFalsely : Prop := fnExactAddPolysRow.holds Try.pinned (OpenSpec.ofChange fnExactAddPolysWrong)

/-- 'laws.FnExactWidenPoly': WHATEVER THE INPUT: true; the input reads as it did. -/
def fnExactWidenPolySpec : ChangeSpec := { name := "fnExactWidenPoly", fn := fun _ => fun
  | [d1, d2, d3, d4] => { results := [.lit (.bool true)], args := [d1, d2, d3, d4] }
  | _ => none }
def fnExactWidenPolyRow : OpenClaim := { program := "yteobpdiljobofaa", sum := "dee44aa51f7fe56860eef073b9e8d1bc08419b83b20e5de9fad005049553f4ef", func := "loop.example/g01080/laws.FnExactWidenPoly", spec := "fnExactWidenPoly", apart := false }
def FnExactWidenPolySaid : Prop := fnExactWidenPolyRow.holds Try.pinned (OpenSpec.ofChange fnExactWidenPolySpec)

/-- ITS FALSE NEIGHBOUR: 'it returns false'. Refute it at one input. -/
def fnExactWidenPolyWrong : ChangeSpec := { name := "fnExactWidenPoly", fn := fun _ => fun
  | [d1, d2, d3, d4] => { results := [.lit (.bool false)], args := [d1, d2, d3, d4] }
  | _ => none }
def FnExactWidenPolyWrongFalsely : Prop := fnExactWidenPolyRow.holds Try.pinned (OpenSpec.ofChange fnExactWidenPolyWrong)

/-- 'laws.FnExactClausePoly': WHATEVER THE INPUT: true; the input reads as it did. -/
def fnExactClausePolySpec : ChangeSpec := { name := "fnExactClausePoly", fn := fun _ => fun
  | [d1, d2, d3] => { results := [.lit (.bool true)], args := [d1, d2, d3] }
  | _ => none }
def fnExactClausePolyRow : OpenClaim := { program := "yteobpdiljobofaa", sum := "dee44aa51f7fe56860eef073b9e8d1bc08419b83b20e5de9fad005049553f4ef", func := "loop.example/g01080/laws.FnExactClausePoly", spec := "fnExactClausePoly", apart := false }
def FnExactClausePolySaid : Prop := fnExactClausePolyRow.holds Try.pinned (OpenSpec.ofChange fnExactClausePolySpec)

/-- ITS FALSE NEIGHBOUR: 'it returns false'. Refute it at one input. -/
def fnExactClausePolyWrong : ChangeSpec := { name := "fnExactClausePoly", fn := fun _ => fun
  | [d1, d2, d3] => { results := [.lit (.bool false)], args := [d1, d2, d3] }
  | _ => none }
def FnExactClausePolyWrongFalsely : Prop := fnExactClausePolyRow.holds Try.pinned (OpenSpec.ofChange fnExactClausePolyWrong)

/-- 'laws.FnExactWeakenPlane': WHATEVER THE INPUT: true; the input reads as it did. -/
def fnExactWeakenPlaneSpec : ChangeSpec := { name := "fnExactWeakenPlane", fn := fun _ => fun
  | [d1, d2, d3] => { results := [.lit (.bool true)], args := [d1, d2, d3] }
  | _ => none }
def fnExactWeakenPlaneRow : OpenClaim := { program := "yteobpdiljobofaa", sum := "dee44aa51f7fe56860eef073b9e8d1bc08419b83b20e5de9fad005049553f4ef", func := "loop.example/g01080/laws.FnExactWeakenPlane", spec := "fnExactWeakenPlane", unfollowed := true, recurses := true, apart := false }
def FnExactWeakenPlaneSaid : Prop := fnExactWeakenPlaneRow.holds Try.pinned (OpenSpec.ofChange fnExactWeakenPlaneSpec)

/-- ITS FALSE NEIGHBOUR: 'it returns false'. Refute it at one input. -/
def fnExactWeakenPlaneWrong : ChangeSpec := { name := "fnExactWeakenPlane", fn := fun _ => fun
  | [d1, d2, d3] => { results := [.lit (.bool false)], args := [d1, d2, d3] }
  | _ => none }
def FnExactWeakenPlaneWrongFalsely : Prop := fnExactWeakenPlaneRow.holds Try.pinned (OpenSpec.ofChange fnExactWeakenPlaneWrong)

/-- 'laws.FnExactParityPoly': WHATEVER THE INPUT: true; the input reads as it did. -/
def fnExactParityPolySpec : ChangeSpec := { name := "fnExactParityPoly", fn := fun _ => fun
  | [d1, d2, d3, d4] => { results := [.lit (.bool true)], args := [d1, d2, d3, d4] }
  | _ => none }
def fnExactParityPolyRow : OpenClaim := { program := "yteobpdiljobofaa", sum := "dee44aa51f7fe56860eef073b9e8d1bc08419b83b20e5de9fad005049553f4ef", func := "loop.example/g01080/laws.FnExactParityPoly", spec := "fnExactParityPoly", unfollowed := true, recurses := true, apart := false }
def FnExactParityPolySaid : Prop := fnExactParityPolyRow.holds Try.pinned (OpenSpec.ofChange fnExactParityPolySpec)

/-- ITS FALSE NEIGHBOUR: 'it returns false'. Refute it at one input. -/
def fnExactParityPolyWrong : ChangeSpec := { name := "fnExactParityPoly", fn := fun _ => fun
  | [d1, d2, d3, d4] => { results := [.lit (.bool false)], args := [d1, d2, d3, d4] }
  | _ => none }
def FnExactParityPolyWrongFalsely : Prop := fnExactParityPolyRow.holds Try.pinned (OpenSpec.ofChange fnExactParityPolyWrong)

/- THE SECOND FORM. 'bulk': how many values and letters a reading holds, each counted each time it is reached (what is shared counts as often as it is met; a slice's spare places count too). A statement '..UptoSaid' is the law's where the arguments, and the package variables that the reading takes, are together of bulk at most 1048576: NARROWER than '..Said'. Prove '..Said' where nothing that the law and all that it calls make is longer than what came in: it says more and counts as full. Else prove '..UptoSaid'. A law counts once. -/
mutual
def uptoBulk {H : Type} : DataW H → Nat
  | .lit (.string bytes) => bytes.length + 1
  | .lit _ => 1
  | .nil => 1
  | .ptr d => uptoBulk d + 1
  | .slice elems spare => uptoBulkAll elems + uptoBulkAll spare + 1
  | .agg parts => uptoBulkAll parts + 1
  | .iface _ d => uptoBulk d + 1
  | .map entries => uptoBulkEntries entries + 1
  | .held _ => 1
def uptoBulkAll {H : Type} : List (DataW H) → Nat
  | [] => 0
  | d :: r => uptoBulk d + uptoBulkAll r
def uptoBulkEntries {H : Type} : List (Lit × DataW H) → Nat
  | [] => 0
  | x :: r => uptoBulkEntry x + uptoBulkEntries r
def uptoBulkEntry {H : Type} : Lit × DataW H → Nat
  | (.string bytes, d) => bytes.length + uptoBulk d + 1
  | (_, d) => uptoBulk d + 1
 end
def uptoSmall : (H : Type) → List (DataW H) → Bool := fun _ ds => decide (uptoBulkAll ds ≤ 1048576)
def OpenSpec.upto (s : _root_.Go.ChangeSpec) : _root_.Go.OpenSpec := { _root_.Go.OpenSpec.ofChange s with cond := some uptoSmall }

/-- 'laws.FnExactIsPoly', WHERE WHAT IT READS IS OF BULK AT MOST 1048576: true; the input reads as it did. -/
def fnExactIsPolyUptoRow : OpenClaim := { program := "yteobpdiljobofaa", sum := "dee44aa51f7fe56860eef073b9e8d1bc08419b83b20e5de9fad005049553f4ef", func := "loop.example/g01080/laws.FnExactIsPoly", spec := "fnExactIsPoly", apart := false, narrowed := true }
def FnExactIsPolyUptoSaid : Prop := fnExactIsPolyUptoRow.holds Try.pinned (OpenSpec.upto fnExactIsPolySpec)

/-- 'laws.FnExactCoeffAt', WHERE WHAT IT READS IS OF BULK AT MOST 1048576: true; the input reads as it did. -/
def fnExactCoeffAtUptoRow : OpenClaim := { program := "yteobpdiljobofaa", sum := "dee44aa51f7fe56860eef073b9e8d1bc08419b83b20e5de9fad005049553f4ef", func := "loop.example/g01080/laws.FnExactCoeffAt", spec := "fnExactCoeffAt", apart := false, narrowed := true }
def FnExactCoeffAtUptoSaid : Prop := fnExactCoeffAtUptoRow.holds Try.pinned (OpenSpec.upto fnExactCoeffAtSpec)

/-- 'laws.FnExactPolyOf', WHERE WHAT IT READS IS OF BULK AT MOST 1048576: true; the input reads as it did. -/
def fnExactPolyOfUptoRow : OpenClaim := { program := "yteobpdiljobofaa", sum := "dee44aa51f7fe56860eef073b9e8d1bc08419b83b20e5de9fad005049553f4ef", func := "loop.example/g01080/laws.FnExactPolyOf", spec := "fnExactPolyOf", unfollowed := true, recurses := true, apart := false, narrowed := true }
def FnExactPolyOfUptoSaid : Prop := fnExactPolyOfUptoRow.holds Try.pinned (OpenSpec.upto fnExactPolyOfSpec)

/-- 'laws.FnExactPolyWithValues', WHERE WHAT IT READS IS OF BULK AT MOST 1048576: true; the input reads as it did. -/
def fnExactPolyWithValuesUptoRow : OpenClaim := { program := "yteobpdiljobofaa", sum := "dee44aa51f7fe56860eef073b9e8d1bc08419b83b20e5de9fad005049553f4ef", func := "loop.example/g01080/laws.FnExactPolyWithValues", spec := "fnExactPolyWithValues", unfollowed := true, recurses := true, apart := false, narrowed := true }
def FnExactPolyWithValuesUptoSaid : Prop := fnExactPolyWithValuesUptoRow.holds Try.pinned (OpenSpec.upto fnExactPolyWithValuesSpec)

/-- 'laws.FnExactSetInPoly', WHERE WHAT IT READS IS OF BULK AT MOST 1048576: true; the input reads as it did. -/
def fnExactSetInPolyUptoRow : OpenClaim := { program := "yteobpdiljobofaa", sum := "dee44aa51f7fe56860eef073b9e8d1bc08419b83b20e5de9fad005049553f4ef", func := "loop.example/g01080/laws.FnExactSetInPoly", spec := "fnExactSetInPoly", apart := false, narrowed := true }
def FnExactSetInPolyUptoSaid : Prop := fnExactSetInPolyUptoRow.holds Try.pinned (OpenSpec.upto fnExactSetInPolySpec)

/-- 'laws.FnExactMulPolys', WHERE WHAT IT READS IS OF BULK AT MOST 1048576: true; the input reads as it did. -/
def fnExactMulPolysUptoRow : OpenClaim := { program := "yteobpdiljobofaa", sum := "dee44aa51f7fe56860eef073b9e8d1bc08419b83b20e5de9fad005049553f4ef", func := "loop.example/g01080/laws.FnExactMulPolys", spec := "fnExactMulPolys", apart := false, narrowed := true }
def FnExactMulPolysUptoSaid : Prop := fnExactMulPolysUptoRow.holds Try.pinned (OpenSpec.upto fnExactMulPolysSpec)

/-- 'laws.FnExactScalePoly', WHERE WHAT IT READS IS OF BULK AT MOST 1048576: true; the input reads as it did. -/
def fnExactScalePolyUptoRow : OpenClaim := { program := "yteobpdiljobofaa", sum := "dee44aa51f7fe56860eef073b9e8d1bc08419b83b20e5de9fad005049553f4ef", func := "loop.example/g01080/laws.FnExactScalePoly", spec := "fnExactScalePoly", apart := false, narrowed := true }
def FnExactScalePolyUptoSaid : Prop := fnExactScalePolyUptoRow.holds Try.pinned (OpenSpec.upto fnExactScalePolySpec)

/-- 'laws.FnExactAddPolys', WHERE WHAT IT READS IS OF BULK AT MOST 1048576: true; the input reads as it did. -/
def fnExactAddPolysUptoRow : OpenClaim := { program := "yteobpdiljobofaa", sum := "dee44aa51f7fe56860eef073b9e8d1bc08419b83b20e5de9fad005049553f4ef", func := "loop.example/g01080/laws.FnExactAddPolys", spec := "fnExactAddPolys", apart := false, narrowed := true }
def FnExactAddPolysUptoSaid : Prop := fnExactAddPolysUptoRow.holds Try.pinned (OpenSpec.upto fnExactAddPolysSpec)

/-- 'laws.FnExactWidenPoly', WHERE WHAT IT READS IS OF BULK AT MOST 1048576: true; the input reads as it did. -/
def fnExactWidenPolyUptoRow : OpenClaim := { program := "yteobpdiljobofaa", sum := "dee44aa51f7fe56860eef073b9e8d1bc08419b83b20e5de9fad005049553f4ef", func := "loop.example/g01080/laws.FnExactWidenPoly", spec := "fnExactWidenPoly", apart := false, narrowed := true }
def FnExactWidenPolyUptoSaid : Prop := fnExactWidenPolyUptoRow.holds Try.pinned (OpenSpec.upto fnExactWidenPolySpec)

/-- 'laws.FnExactClausePoly', WHERE WHAT IT READS IS OF BULK AT MOST 1048576: true; the input reads as it did. -/
def fnExactClausePolyUptoRow : OpenClaim := { program := "yteobpdiljobofaa", sum := "dee44aa51f7fe56860eef073b9e8d1bc08419b83b20e5de9fad005049553f4ef", func := "loop.example/g01080/laws.FnExactClausePoly", spec := "fnExactClausePoly", apart := false, narrowed := true }
def FnExactClausePolyUptoSaid : Prop := fnExactClausePolyUptoRow.holds Try.pinned (OpenSpec.upto fnExactClausePolySpec)

/-- 'laws.FnExactWeakenPlane', WHERE WHAT IT READS IS OF BULK AT MOST 1048576: true; the input reads as it did. -/
def fnExactWeakenPlaneUptoRow : OpenClaim := { program := "yteobpdiljobofaa", sum := "dee44aa51f7fe56860eef073b9e8d1bc08419b83b20e5de9fad005049553f4ef", func := "loop.example/g01080/laws.FnExactWeakenPlane", spec := "fnExactWeakenPlane", unfollowed := true, recurses := true, apart := false, narrowed := true }
def FnExactWeakenPlaneUptoSaid : Prop := fnExactWeakenPlaneUptoRow.holds Try.pinned (OpenSpec.upto fnExactWeakenPlaneSpec)

/-- 'laws.FnExactParityPoly', WHERE WHAT IT READS IS OF BULK AT MOST 1048576: true; the input reads as it did. -/
def fnExactParityPolyUptoRow : OpenClaim := { program := "yteobpdiljobofaa", sum := "dee44aa51f7fe56860eef073b9e8d1bc08419b83b20e5de9fad005049553f4ef", func := "loop.example/g01080/laws.FnExactParityPoly", spec := "fnExactParityPoly", unfollowed := true, recurses := true, apart := false, narrowed := true }
def FnExactParityPolyUptoSaid : Prop := fnExactParityPolyUptoRow.holds Try.pinned (OpenSpec.upto fnExactParityPolySpec)

end Rows
end Go.Proofs.Yteobpdiljobofaa
