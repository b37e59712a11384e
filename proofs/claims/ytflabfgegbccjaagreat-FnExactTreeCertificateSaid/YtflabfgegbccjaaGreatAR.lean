/- For every input the law FnExactTreeCertificate returns true, and its arguments read as before. No conditions. -/
import Derived.Test.YtflabfgegbccjaaGreatA7
set_option linter.unusedVariables false
set_option linter.unusedSimpArgs false
namespace Go.Proofs.YtflabfgegbccjaaGreat.fnExactTreeCertificate
open Go Go.Av Go.Proofs.YtflabfgegbccjaaGreat

set_option maxRecDepth 100000 in
theorem lifted (os : Os) (started : os.Started) (H : Type) (enc : TypeId × Value → H) :
    ReturnsInHanded {} Tryz.checked os 4 .any (Rows.fnExactTreeCertificateSpec.pre6 enc Tryz.prog Tryz.f4 Rows.fnExactTreeCertificateRow.domain false) (Rows.fnExactTreeCertificateSpec.post enc Tryz.prog Tryz.f4 false true false false) :=
  row_step (C := Tryz.checked) (fn := Tryz.f4) (tb := 4) rowOwn started (by kernel_rfl) Tryz.func4
    (ChangeSpec.witness6 (enc := enc) (C := Tryz.checked) false ⟨#[], #[.int .i64 0, .agg #[.int .i64 0, .slice none 0 0], .slice none 0 0], []⟩ 8 (by kernel_rfl) (by kernel_rfl) (by kernel_rfl) (by kernel_rfl))
    rowLaid (by kernel_rfl) rfl
    (fun ds hl => by
      match ds, hl with
      | [d1, d2, d3], _ => rfl)
    rfl Tryz.underlying4
    (openArgs_cons arg3 (openArgs_cons arg24 (openArgs_cons arg39 openArgs_nil)))
    (fun avs h => by
      obtain ⟨a0, _, rfl, h0, a1, _, rfl, h1, a2, _, rfl, h2, rfl⟩ := h
      simp only [icells_flat, sls_flat, tncells_flat]
      exact ⟨by simp [pureL, pureV, ic_pureL, sls_pureL, tn_pureL, List.cons_append, List.nil_append], lawTreeCertificate_c a0 a1.1 a1.2 a2 (bd64 h1.1) (cnf_hyp h1.2).1 (cnf_hyp h1.2).2.1 (cnf_hyp h1.2).2.2 (len64 h2.1)⟩)

theorem said : Rows.FnExactTreeCertificateSaid :=
  OpenClaim.holds_of_wide 4 Tryz.f4 rfl rfl rfl rfl rfl rfl rfl ⟨rfl, rfl, rfl, rfl, rfl⟩ rfl rfl rfl rfl rfl (by kernel_rfl) Tryz.func4 (by kernel_rfl)
    (of_decide_eq_true (by kernel_rfl)) (by unfold Func.isWrapper; first | (rw [if_pos (by decide +kernel)]; kernel_rfl) | (rw [if_neg (by decide +kernel)]; exact ⟨rfl, rfl⟩))
    (fun os started H enc _ => lifted os started H enc)
end Go.Proofs.YtflabfgegbccjaaGreat.fnExactTreeCertificate
