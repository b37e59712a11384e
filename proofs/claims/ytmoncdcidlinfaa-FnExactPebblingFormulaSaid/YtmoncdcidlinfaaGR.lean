/- For every input the law FnExactPebblingFormula returns true, and its arguments read as before. No conditions. -/
import Derived.Test.YtmoncdcidlinfaaG6
set_option linter.unusedVariables false
set_option linter.unusedSimpArgs false
namespace Go.Proofs.Ytmoncdcidlinfaa.fnExactPebblingFormula
open Go Go.Av Go.Proofs.Ytmoncdcidlinfaa

set_option maxRecDepth 100000 in
theorem lifted (os : Os) (started : os.Started) (H : Type) (enc : TypeId × Value → H) :
    ReturnsInHanded {} Try.checked os 5 .any (Rows.fnExactPebblingFormulaSpec.pre6 enc Try.prog Try.f5 Rows.fnExactPebblingFormulaRow.domain false) (Rows.fnExactPebblingFormulaSpec.post enc Try.prog Try.f5 false true false false) :=
  row_step (C := Try.checked) (fn := Try.f5) (tb := 4) rowOwn started (by kernel_rfl) Try.func5
    (ChangeSpec.witness6 (enc := enc) (C := Try.checked) false ⟨#[], #[.agg #[.slice none 0 0]], []⟩ 8 (by kernel_rfl) (by kernel_rfl) (by kernel_rfl) (by kernel_rfl))
    rowLaid (by kernel_rfl) rfl
    (fun ds hl => by
      match ds, hl with
      | [d1], _ => rfl)
    rfl Try.underlying4
    (openArgs_cons arg44 openArgs_nil)
    (fun avs h => by
      obtain ⟨a0, _, rfl, h0, rfl⟩ := h
      simp only [icells_flat, sls_flat]
      exact ⟨by simp [pureL, pureV, ic_pureL, sls_pureL, List.cons_append, List.nil_append], lawPebblingFormula_c a0 (cnf_hyp h0).2.1 (cnf_hyp h0).1⟩)

theorem said : Rows.FnExactPebblingFormulaSaid :=
  OpenClaim.holds_of_wide 5 Try.f5 rfl rfl rfl rfl rfl rfl rfl ⟨rfl, rfl, rfl, rfl, rfl⟩ rfl rfl rfl rfl rfl (by kernel_rfl) Try.func5 (by kernel_rfl)
    (of_decide_eq_true (by kernel_rfl)) (by unfold Func.isWrapper; first | (rw [if_pos (by decide +kernel)]; kernel_rfl) | (rw [if_neg (by decide +kernel)]; exact ⟨rfl, rfl⟩))
    (fun os started H enc _ => lifted os started H enc)
end Go.Proofs.Ytmoncdcidlinfaa.fnExactPebblingFormula
