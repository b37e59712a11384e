/- For every input the law FnExactIsPoly returns true, and its arguments read as before. No conditions. -/
import Derived.Test.YteobpdiljobofaaPp
set_option linter.unusedVariables false
set_option linter.unusedSimpArgs false
namespace Go.Proofs.Yteobpdiljobofaa.fnExactIsPoly
open Go Go.Av Go.Proofs.Yteobpdiljobofaa

set_option maxRecDepth 100000 in
theorem lifted (os : Os) (started : os.Started) (H : Type) (enc : TypeId × Value → H) :
    ReturnsInHanded {} Try.checked os 3 .any (Rows.fnExactIsPolySpec.pre6 enc Try.prog Try.f3 Rows.fnExactIsPolyRow.domain false) (Rows.fnExactIsPolySpec.post enc Try.prog Try.f3 false true false false) :=
  row_step (C := Try.checked) (fn := Try.f3) (tb := 4) rowOwn started (by kernel_rfl) Try.func3
    (ChangeSpec.witness6 (enc := enc) (C := Try.checked) false ⟨#[], #[.int .i64 0, .int .i64 0, .slice none 0 0], []⟩ 8 (by kernel_rfl) (by kernel_rfl) (by kernel_rfl) (by kernel_rfl))
    rowLaid (by kernel_rfl) rfl
    (fun ds hl => by
      match ds, hl with
      | [d1, d2, d3], _ => rfl)
    rfl Try.underlying4
    (openArgs_cons arg_int (openArgs_cons arg_int (openArgs_cons arg_terms openArgs_nil)))
    (fun avs h => by
      obtain ⟨p, _, rfl, hp, vars, _, rfl, hv, xs, _, rfl, hx, rfl⟩ := h
      rw [tcells_flat]
      exact ⟨by simp [pureL, pureV, tcells_pure], lawIsPoly_c p vars xs (len64 hx.1)⟩)

theorem said : Rows.FnExactIsPolySaid :=
  OpenClaim.holds_of_wide 3 Try.f3 rfl rfl rfl rfl rfl rfl rfl ⟨rfl, rfl, rfl, rfl, rfl⟩ rfl rfl rfl rfl rfl (by kernel_rfl) Try.func3 (by kernel_rfl)
    (of_decide_eq_true (by kernel_rfl)) (by unfold Func.isWrapper; first | (rw [if_pos (by decide +kernel)]; kernel_rfl) | (rw [if_neg (by decide +kernel)]; exact ⟨rfl, rfl⟩))
    (fun os started H enc _ => lifted os started H enc)
end Go.Proofs.Yteobpdiljobofaa.fnExactIsPoly
