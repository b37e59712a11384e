/- Lemmas, part 5. -/
import Derived.Test.YtgkfoiddncineaaB4
import Derived.Test.YtgkfoiddncineaaRows
set_option linter.unusedVariables false
set_option linter.unusedSimpArgs false
namespace Go.Av
open Go
theorem sls_flat (L : List (List Int)) : L.flatMap (fun c => [AV.sl (icells c) c.length]) = sls L := by
  induction L with
  | nil => rfl
  | cons c L ih => rw [List.flatMap_cons, ih]; rfl
theorem cnf_hyp {L : List (List Int)} (h : L.length ≤ maxLen ∧ ∀ y ∈ L, (y.length ≤ maxLen ∧ ∀ z ∈ y, (Lit.int .i64 z).wf = true ∧ ([AV.int .i64 z]).length = 1) ∧ ([AV.sl (y.flatMap fun z => [AV.int .i64 z]) y.length]).length = 1) :
    (∀ i, ((gl L i).length : Int) ≤ 9223372036854775807) ∧ (L.length : Int) ≤ 9223372036854775807 ∧ ∀ i j, -9223372036854775808 ≤ gd (gl L i) j ∧ gd (gl L i) j ≤ 9223372036854775807 := by
  refine ⟨fun i => ?_, len64 h.1, fun i => ?_⟩
  · rcases Nat.lt_or_ge i L.length with hi | hi
    · exact len64 (h.2 _ (gl_mem hi)).1.1
    · rw [gl_out hi]; simp
  · rcases Nat.lt_or_ge i L.length with hi | hi
    · exact gd_bd fun x hx => bd64 ((h.2 _ (gl_mem hi)).1.2 x hx).1
    · intro j; rw [gl_out hi]; simp [gd]
end Go.Av
namespace Go.Av
open Go
theorem tc_flat (xs : List (Int × Int)) : xs.flatMap (fun t => [AV.int .i64 t.1] ++ [AV.int .i64 t.2]) = tcells xs := by
  induction xs with
  | nil => rfl
  | cons x xs ih => rw [List.flatMap_cons, ih]; rfl
theorem stc_flat (S : List PcT) : (S.flatMap fun y => ([AV.int .i64 y.1] ++ ([AV.sl (y.2.1.flatMap fun z => ([AV.int .i64 z.1] ++ [AV.int .i64 z.2])) y.2.1.length] ++ ([AV.int .i64 y.2.2.1] ++ ([AV.int .i64 y.2.2.2.1] ++ ([AV.int .i64 y.2.2.2.2.1] ++ [AV.int .i64 y.2.2.2.2.2])))))) = stc S := by
  unfold stc
  congr 1
  funext y
  rw [tc_flat]
  rfl
theorem st_hyp {S : List PcT} (h : ∀ s ∈ S, s.2.1.length ≤ maxLen) (i : Nat) : ((gs S i).2.1.length : Int) ≤ 9223372036854775807 := by
  rcases Nat.lt_or_ge i S.length with hi | hi
  · exact len64 (h _ (gs_mem hi))
  · rw [gs_out hi]; simp
end Go.Av
namespace Go.Av
open Go Go.Proofs Go.Proofs.Ytgkfoiddncineaa
set_option maxRecDepth 100000
theorem arg3 : OpensV Try.prog 3 (fun x : Int => AV.int .i64 x) (fun x => (Lit.int .i64 x).wf = true) :=
  opensV_one (ok_scalar (by rw [Try.underlying3])) (opens_int Try.underlying3) (fun _ => rfl)
theorem arg24 : OpensV Try.prog 24 (fun x : (Int) × (List (List (Int))) => .agg (([AV.int .i64 x.1] ++ [AV.sl (x.2.flatMap fun y2 => [AV.sl (y2.flatMap fun y1 => [AV.int .i64 y1]) y2.length]) x.2.length]))) (fun x => (((Lit.int .i64 x.1).wf = true) ∧ ((x.2.length ≤ maxLen ∧ ∀ y2 ∈ x.2, (y2.length ≤ maxLen ∧ ∀ y1 ∈ y2, (Lit.int .i64 y1).wf = true ∧ ([AV.int .i64 y1]).length = 1) ∧ ([AV.sl (y2.flatMap fun y1 => [AV.int .i64 y1]) y2.length]).length = 1)))) :=
  opensV_agg (ok_agg (by rw [Try.underlying24])) (opens_struct Try.underlying24 (tot := (1 + 1)) (by kernel_rfl) (opensFs_cons rfl (by kernel_rfl) (opens_int Try.underlying3) (opensFs_one rfl (by kernel_rfl) (opens_slice (k := 1) Try.underlying22 (by kernel_rfl) (by decide) (opens_slice (k := 1) Try.underlying25 (by kernel_rfl) (by decide) (opens_int Try.underlying3) (fun _ => rfl)) (fun _ => rfl)))))
theorem arg52 : OpensV Try.prog 52 (fun x : List ((Int) × (List ((Int) × (Int))) × (Int) × (Int) × (Int) × (Int)) => AV.sl (x.flatMap fun y4 => ([AV.int .i64 y4.1] ++ ([AV.sl (y4.2.1.flatMap fun y3 => ([AV.int .i64 y3.1] ++ [AV.int .i64 y3.2])) y4.2.1.length] ++ ([AV.int .i64 y4.2.2.1] ++ ([AV.int .i64 y4.2.2.2.1] ++ ([AV.int .i64 y4.2.2.2.2.1] ++ [AV.int .i64 y4.2.2.2.2.2])))))) x.length) (fun x => (x.length ≤ maxLen ∧ ∀ y4 ∈ x, (((Lit.int .i64 y4.1).wf = true) ∧ (((y4.2.1.length ≤ maxLen ∧ ∀ y3 ∈ y4.2.1, (((Lit.int .i64 y3.1).wf = true) ∧ ((Lit.int .i64 y3.2).wf = true)) ∧ (([AV.int .i64 y3.1] ++ [AV.int .i64 y3.2])).length = 2)) ∧ (((Lit.int .i64 y4.2.2.1).wf = true) ∧ (((Lit.int .i64 y4.2.2.2.1).wf = true) ∧ (((Lit.int .i64 y4.2.2.2.2.1).wf = true) ∧ ((Lit.int .i64 y4.2.2.2.2.2).wf = true)))))) ∧ (([AV.int .i64 y4.1] ++ ([AV.sl (y4.2.1.flatMap fun y3 => ([AV.int .i64 y3.1] ++ [AV.int .i64 y3.2])) y4.2.1.length] ++ ([AV.int .i64 y4.2.2.1] ++ ([AV.int .i64 y4.2.2.2.1] ++ ([AV.int .i64 y4.2.2.2.2.1] ++ [AV.int .i64 y4.2.2.2.2.2])))))).length = 6)) :=
  opensV_one (ok_scalar (by rw [Try.underlying52])) (opens_slice (k := 6) Try.underlying52 (by kernel_rfl) (by decide) (opens_struct Try.underlying115 (tot := (1 + (1 + (1 + (1 + (1 + 1)))))) (by kernel_rfl) (opensFs_cons rfl (by kernel_rfl) (opens_int Try.underlying3) (opensFs_cons rfl (by kernel_rfl) (opens_slice (k := 2) Try.underlying26 (by kernel_rfl) (by decide) (opens_struct Try.underlying79 (tot := (1 + 1)) (by kernel_rfl) (opensFs_cons rfl (by kernel_rfl) (opens_int Try.underlying3) (opensFs_one rfl (by kernel_rfl) (opens_int Try.underlying3)))) (fun _ => rfl)) (opensFs_cons rfl (by kernel_rfl) (opens_int Try.underlying3) (opensFs_cons rfl (by kernel_rfl) (opens_int Try.underlying3) (opensFs_cons rfl (by kernel_rfl) (opens_int Try.underlying3) (opensFs_one rfl (by kernel_rfl) (opens_int Try.underlying3)))))))) (fun _ => rfl)) (fun _ => rfl)
theorem rowOwn : ownKnob Try.prog.godebug = none := by kernel_rfl
theorem rowLaid : laidOutB Try.prog = true := by kernel_rfl
end Go.Av
