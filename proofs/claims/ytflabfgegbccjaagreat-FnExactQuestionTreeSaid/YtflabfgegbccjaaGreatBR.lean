/- For every input the law FnExactQuestionTree returns true, and its arguments read as before. No conditions. -/
import Derived.Test.YtflabfgegbccjaaGreatB7
set_option linter.unusedVariables false
set_option linter.unusedSimpArgs false
namespace Go.Proofs.YtflabfgegbccjaaGreat.fnExactQuestionTree
open Go Go.Av Go.Proofs.YtflabfgegbccjaaGreat

set_option maxRecDepth 100000 in
theorem lifted (os : Os) (started : os.Started) (H : Type) (enc : TypeId × Value → H) :
    ReturnsInHanded {} Tryz.checked os 3 .any (Rows.fnExactQuestionTreeSpec.pre6 enc Tryz.prog Tryz.f3 Rows.fnExactQuestionTreeRow.domain false) (Rows.fnExactQuestionTreeSpec.post enc Tryz.prog Tryz.f3 false true false false) :=
  row_step (C := Tryz.checked) (fn := Tryz.f3) (tb := 4) rowOwn started (by kernel_rfl) Tryz.func3
    (ChangeSpec.witness6 (enc := enc) (C := Tryz.checked) false ⟨#[], #[.agg #[.int .i64 0, .slice none 0 0], .int .i64 0, .slice none 0 0], []⟩ 8 (by kernel_rfl) (by kernel_rfl) (by kernel_rfl) (by kernel_rfl))
    rowLaid (by kernel_rfl) rfl
    (fun ds hl => by
      match ds, hl with
      | [d1, d2, d3], _ => rfl)
    rfl Tryz.underlying4
    (openArgs_cons arg24 (openArgs_cons arg3 (openArgs_cons arg25 openArgs_nil)))
    (fun avs h => by
      obtain ⟨a0, _, rfl, h0, a1, _, rfl, h1, a2, _, rfl, h2, rfl⟩ := h
      simp only [icells_flat, sls_flat]
      exact ⟨by simp [pureL, pureV, ic_pureL, sls_pureL, List.cons_append, List.nil_append], lawQuestionTree_c a0.1 a0.2 a1 a2 (len64 h2.1) (bd64 h0.1) (cnf_hyp h0.2).1 (cnf_hyp h0.2).2.1 (cnf_hyp h0.2).2.2 (gd_bd fun x hx => bd64 (h2.2 x hx).1)⟩)

theorem said : Rows.FnExactQuestionTreeSaid :=
  OpenClaim.holds_of_wide 3 Tryz.f3 rfl rfl rfl rfl rfl rfl rfl ⟨rfl, rfl, rfl, rfl, rfl⟩ rfl rfl rfl rfl rfl (by kernel_rfl) Tryz.func3 (by kernel_rfl)
    (of_decide_eq_true (by kernel_rfl)) (by unfold Func.isWrapper; first | (rw [if_pos (by decide +kernel)]; kernel_rfl) | (rw [if_neg (by decide +kernel)]; exact ⟨rfl, rfl⟩))
    (fun os started H enc _ => lifted os started H enc)
end Go.Proofs.YtflabfgegbccjaaGreat.fnExactQuestionTree
