/- For every input the law FnExactFirstBadLeaf returns true, and its arguments read as before. No conditions. -/
import Derived.Test.YtmoncdcidlinfaaF7
set_option linter.unusedVariables false
set_option linter.unusedSimpArgs false
namespace Go.Proofs.Ytmoncdcidlinfaa.fnExactFirstBadLeaf
open Go Go.Av Go.Proofs.Ytmoncdcidlinfaa

set_option maxRecDepth 100000 in
theorem lifted (os : Os) (started : os.Started) (H : Type) (enc : TypeId × Value → H) :
    ReturnsInHanded {} Try.checked os 11 .any (Rows.fnExactFirstBadLeafSpec.pre6 enc Try.prog Try.f11 Rows.fnExactFirstBadLeafRow.domain false) (Rows.fnExactFirstBadLeafSpec.post enc Try.prog Try.f11 false true false false) :=
  row_step (C := Try.checked) (fn := Try.f11) (tb := 4) rowOwn started (by kernel_rfl) Try.func11
    (ChangeSpec.witness6 (enc := enc) (C := Try.checked) false ⟨#[], #[.agg #[.int .i64 0, .slice none 0 0], .slice none 0 0], []⟩ 8 (by kernel_rfl) (by kernel_rfl) (by kernel_rfl) (by kernel_rfl))
    rowLaid (by kernel_rfl) rfl
    (fun ds hl => by
      match ds, hl with
      | [d1, d2], _ => rfl)
    rfl Try.underlying4
    (openArgs_cons arg35 (openArgs_cons arg54 openArgs_nil))
    (fun avs h => by
      obtain ⟨a0, _, rfl, h0, a1, _, rfl, h1, rfl⟩ := h
      simp only [icells_flat, sls_flat, tncells_flat]
      exact ⟨by simp [pureL, pureV, ic_pureL, sls_pureL, tn_pureL, List.cons_append, List.nil_append], lawFirstBadLeaf_c a0.1 a0.2 a1 (bd64 h0.1) (cnf_hyp h0.2).1 (cnf_hyp h0.2).2.1 (cnf_hyp h0.2).2.2 (len64 h1.1)⟩)

theorem said : Rows.FnExactFirstBadLeafSaid :=
  OpenClaim.holds_of_wide 11 Try.f11 rfl rfl rfl rfl rfl rfl rfl ⟨rfl, rfl, rfl, rfl, rfl⟩ rfl rfl rfl rfl rfl (by kernel_rfl) Try.func11 (by kernel_rfl)
    (of_decide_eq_true (by kernel_rfl)) (by unfold Func.isWrapper; first | (rw [if_pos (by decide +kernel)]; kernel_rfl) | (rw [if_neg (by decide +kernel)]; exact ⟨rfl, rfl⟩))
    (fun os started H enc _ => lifted os started H enc)
end Go.Proofs.Ytmoncdcidlinfaa.fnExactFirstBadLeaf
