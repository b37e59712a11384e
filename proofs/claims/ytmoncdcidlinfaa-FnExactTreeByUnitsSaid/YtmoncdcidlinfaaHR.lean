/- For every input the law FnExactTreeByUnits returns true, and its arguments read as before. No conditions. -/
import Derived.Test.YtmoncdcidlinfaaH7
set_option linter.unusedVariables false
set_option linter.unusedSimpArgs false
namespace Go.Proofs.Ytmoncdcidlinfaa.fnExactTreeByUnits
open Go Go.Av Go.Proofs.Ytmoncdcidlinfaa

set_option maxRecDepth 100000 in
theorem lifted (os : Os) (started : os.Started) (H : Type) (enc : TypeId × Value → H) :
    ReturnsInHanded {} Try.checked os 12 .any (Rows.fnExactTreeByUnitsSpec.pre6 enc Try.prog Try.f12 Rows.fnExactTreeByUnitsRow.domain false) (Rows.fnExactTreeByUnitsSpec.post enc Try.prog Try.f12 false true false false) :=
  row_step (C := Try.checked) (fn := Try.f12) (tb := 4) rowOwn started (by kernel_rfl) Try.func12
    (ChangeSpec.witness6 (enc := enc) (C := Try.checked) false ⟨#[], #[.agg #[.int .i64 0, .slice none 0 0]], []⟩ 8 (by kernel_rfl) (by kernel_rfl) (by kernel_rfl) (by kernel_rfl))
    rowLaid (by kernel_rfl) rfl
    (fun ds hl => by
      match ds, hl with
      | [d1], _ => rfl)
    rfl Try.underlying4
    (openArgs_cons arg35 openArgs_nil)
    (fun avs h => by
      obtain ⟨a0, _, rfl, h0, rfl⟩ := h
      simp only [icells_flat, sls_flat]
      exact ⟨by simp [pureL, pureV, ic_pureL, sls_pureL, List.cons_append, List.nil_append], lawTreeByUnits_c a0.1 a0.2 (bd64 h0.1) (cnf_hyp h0.2).1 (cnf_hyp h0.2).2.1 (cnf_hyp h0.2).2.2⟩)

theorem said : Rows.FnExactTreeByUnitsSaid :=
  OpenClaim.holds_of_wide 12 Try.f12 rfl rfl rfl rfl rfl rfl rfl ⟨rfl, rfl, rfl, rfl, rfl⟩ rfl rfl rfl rfl rfl (by kernel_rfl) Try.func12 (by kernel_rfl)
    (of_decide_eq_true (by kernel_rfl)) (by unfold Func.isWrapper; first | (rw [if_pos (by decide +kernel)]; kernel_rfl) | (rw [if_neg (by decide +kernel)]; exact ⟨rfl, rfl⟩))
    (fun os started H enc _ => lifted os started H enc)
end Go.Proofs.Ytmoncdcidlinfaa.fnExactTreeByUnits
