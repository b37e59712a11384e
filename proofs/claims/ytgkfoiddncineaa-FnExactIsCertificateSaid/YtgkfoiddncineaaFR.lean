/- For every input the law FnExactIsCertificate returns true, and its arguments read as before. No conditions. -/
import Derived.Test.YtgkfoiddncineaaF4
set_option linter.unusedVariables false
set_option linter.unusedSimpArgs false
namespace Go.Proofs.Ytgkfoiddncineaa.fnExactIsCertificate
open Go Go.Av Go.Proofs.Ytgkfoiddncineaa

set_option maxRecDepth 100000 in
theorem lifted (os : Os) (started : os.Started) (H : Type) (enc : TypeId × Value → H) :
    ReturnsInHanded {} Try.checked os 4 .any (Rows.fnExactIsCertificateSpec.pre6 enc Try.prog Try.f4 Rows.fnExactIsCertificateRow.domain false) (Rows.fnExactIsCertificateSpec.post enc Try.prog Try.f4 false true false false) :=
  row_step (C := Try.checked) (fn := Try.f4) (tb := 4) rowOwn started (by kernel_rfl) Try.func4
    (ChangeSpec.witness6 (enc := enc) (C := Try.checked) false ⟨#[], #[.int .i64 0, .agg #[.int .i64 0, .slice none 0 0], .slice none 0 0], []⟩ 8 (by kernel_rfl) (by kernel_rfl) (by kernel_rfl) (by kernel_rfl))
    rowLaid (by kernel_rfl) rfl
    (fun ds hl => by
      match ds, hl with
      | [d1, d2, d3], _ => rfl)
    rfl Try.underlying4
    (openArgs_cons arg3 (openArgs_cons arg24 (openArgs_cons arg40 openArgs_nil)))
    (fun avs h => by
      obtain ⟨a0, _, rfl, h0, a1, _, rfl, h1, a2, _, rfl, h2, rfl⟩ := h
      simp only [icells_flat, sls_flat, tc_flat, acl_flat]
      exact ⟨by simp [pureL, pureV, ic_pureL, sls_pureL, acl_pureL, List.cons_append, List.nil_append], lawIsCertificate_c a0 a1.1 a1.2 a2 (bd64 h1.1) (cnf_hyp h1.2).1 (cnf_hyp h1.2).2.1 (cnf_hyp h1.2).2.2 (nth_hyp fun s hs => (h2.2 s hs).1.1) (len64 h2.1)⟩)

theorem said : Rows.FnExactIsCertificateSaid :=
  OpenClaim.holds_of_wide 4 Try.f4 rfl rfl rfl rfl rfl rfl rfl ⟨rfl, rfl, rfl, rfl, rfl⟩ rfl rfl rfl rfl rfl (by kernel_rfl) Try.func4 (by kernel_rfl)
    (of_decide_eq_true (by kernel_rfl)) (by unfold Func.isWrapper; first | (rw [if_pos (by decide +kernel)]; kernel_rfl) | (rw [if_neg (by decide +kernel)]; exact ⟨rfl, rfl⟩))
    (fun os started H enc _ => lifted os started H enc)
end Go.Proofs.Ytgkfoiddncineaa.fnExactIsCertificate
