/- For every input the law FnExactSpanSize returns true, and its arguments read as before. No conditions. -/
import Derived.Test.YtmbjhednpnokpaaD6
set_option linter.unusedVariables false
set_option linter.unusedSimpArgs false
namespace Go.Proofs.Ytmbjhednpnokpaa.fnExactSpanSize
open Go Go.Av Go.Proofs.Ytmbjhednpnokpaa

set_option maxRecDepth 100000 in
theorem lifted (os : Os) (started : os.Started) (H : Type) (enc : TypeId × Value → H) :
    ReturnsInHanded {} Try.checked os 6 .any (Rows.fnExactSpanSizeSpec.pre6 enc Try.prog Try.f6 Rows.fnExactSpanSizeRow.domain false) (Rows.fnExactSpanSizeSpec.post enc Try.prog Try.f6 false true false false) :=
  row_step (C := Try.checked) (fn := Try.f6) (tb := 4) rowOwn started (by kernel_rfl) Try.func6
    (ChangeSpec.witness6 (enc := enc) (C := Try.checked) false ⟨#[], #[.int .i64 0, .agg #[.int .i64 0, .slice none 0 0], .int .i64 0], []⟩ 8 (by kernel_rfl) (by kernel_rfl) (by kernel_rfl) (by kernel_rfl))
    rowLaid (by kernel_rfl) rfl
    (fun ds hl => by
      match ds, hl with
      | [d1, d2, d3], _ => rfl)
    rfl Try.underlying4
    (openArgs_cons arg3 (openArgs_cons arg32 (openArgs_cons arg3 openArgs_nil)))
    (fun avs h => by
      obtain ⟨a0, _, rfl, h0, a1, _, rfl, h1, a2, _, rfl, h2, rfl⟩ := h
      simp only [icells_flat, sls_flat]
      exact ⟨by simp [pureL, pureV, ic_pureL, sls_pureL, List.cons_append, List.nil_append], lawSpanSize_c a0 a1.1 a1.2 a2 (bd64 h1.1) (cnf_hyp h1.2).1 (cnf_hyp h1.2).2.1 (cnf_hyp h1.2).2.2⟩)

theorem said : Rows.FnExactSpanSizeSaid :=
  OpenClaim.holds_of_wide 6 Try.f6 rfl rfl rfl rfl rfl rfl rfl ⟨rfl, rfl, rfl, rfl, rfl⟩ rfl rfl rfl rfl rfl (by kernel_rfl) Try.func6 (by kernel_rfl)
    (of_decide_eq_true (by kernel_rfl)) (by unfold Func.isWrapper; first | (rw [if_pos (by decide +kernel)]; kernel_rfl) | (rw [if_neg (by decide +kernel)]; exact ⟨rfl, rfl⟩))
    (fun os started H enc _ => lifted os started H enc)
end Go.Proofs.Ytmbjhednpnokpaa.fnExactSpanSize
