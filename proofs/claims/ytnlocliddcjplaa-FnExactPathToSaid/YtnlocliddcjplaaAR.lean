/- For every input the law FnExactPathTo returns true, and its arguments read as before. No conditions. -/
import Derived.Test.YtnlocliddcjplaaA7
set_option linter.unusedVariables false
set_option linter.unusedSimpArgs false
namespace Go.Proofs.Ytnlocliddcjplaa.fnExactPathTo
open Go Go.Av Go.Proofs.Ytnlocliddcjplaa

set_option maxRecDepth 100000 in
theorem lifted (os : Os) (started : os.Started) (H : Type) (enc : TypeId × Value → H) :
    ReturnsInHanded {} Try.checked os 3 .any (Rows.fnExactPathToSpec.pre6 enc Try.prog Try.f3 Rows.fnExactPathToRow.domain false) (Rows.fnExactPathToSpec.post enc Try.prog Try.f3 false true false false) :=
  row_step (C := Try.checked) (fn := Try.f3) (tb := 4) rowOwn started (by kernel_rfl) Try.func3
    (ChangeSpec.witness6 (enc := enc) (C := Try.checked) false ⟨#[], #[.agg #[.int .i64 0, .slice none 0 0], .slice none 0 0, .int .i64 0], []⟩ 8 (by kernel_rfl) (by kernel_rfl) (by kernel_rfl) (by kernel_rfl))
    rowLaid (by kernel_rfl) rfl
    (fun ds hl => by
      match ds, hl with
      | [d1, d2, d3], _ => rfl)
    rfl Try.underlying4
    (openArgs_cons arg24 (openArgs_cons arg25 (openArgs_cons arg3 openArgs_nil)))
    (fun avs h => by
      obtain ⟨a0, _, rfl, h0, a1, _, rfl, h1, a2, _, rfl, h2, rfl⟩ := h
      simp only [icells_flat, sls_flat, tncells_flat]
      exact ⟨by simp [pureL, pureV, ic_pureL, sls_pureL, tn_pureL, List.cons_append, List.nil_append], lawPathTo_c a0.1 a0.2 a1 a2 (bd64 h0.1) (cnf_hyp h0.2).1 (cnf_hyp h0.2).2.1 (cnf_hyp h0.2).2.2 (len64 h1.1) (bd64 h2)⟩)

theorem said : Rows.FnExactPathToSaid :=
  OpenClaim.holds_of_wide 3 Try.f3 rfl rfl rfl rfl rfl rfl rfl ⟨rfl, rfl, rfl, rfl, rfl⟩ rfl rfl rfl rfl rfl (by kernel_rfl) Try.func3 (by kernel_rfl)
    (of_decide_eq_true (by kernel_rfl)) (by unfold Func.isWrapper; first | (rw [if_pos (by decide +kernel)]; kernel_rfl) | (rw [if_neg (by decide +kernel)]; exact ⟨rfl, rfl⟩))
    (fun os started H enc _ => lifted os started H enc)
end Go.Proofs.Ytnlocliddcjplaa.fnExactPathTo
