/- For every input the law FnExactOrdering returns true, and its arguments read as before. No conditions. -/
import Derived.Test.YtikaemjgmahnbaaOr6
set_option linter.unusedVariables false
set_option linter.unusedSimpArgs false
namespace Go.Proofs.Ytikaemjgmahnbaa.fnExactOrdering
open Go Go.Av Go.Proofs.Ytikaemjgmahnbaa

set_option maxRecDepth 100000 in
theorem lifted (os : Os) (started : os.Started) (H : Type) (enc : TypeId × Value → H) :
    ReturnsInHanded {} Try.checked os 11 .any (Rows.fnExactOrderingSpec.pre6 enc Try.prog Try.f11 Rows.fnExactOrderingRow.domain false) (Rows.fnExactOrderingSpec.post enc Try.prog Try.f11 false true false false) :=
  row_step (C := Try.checked) (fn := Try.f11) (tb := 4) rowOwn started (by kernel_rfl) Try.func11
    (ChangeSpec.witness6 (enc := enc) (C := Try.checked) false ⟨#[], #[.int .i64 0], []⟩ 8 (by kernel_rfl) (by kernel_rfl) (by kernel_rfl) (by kernel_rfl))
    rowLaid (by kernel_rfl) rfl
    (fun ds hl => by
      match ds, hl with
      | [d1], _ => rfl)
    rfl Try.underlying4
    (openArgs_cons arg3 openArgs_nil)
    (fun avs h => by
      obtain ⟨a0, _, rfl, h0, rfl⟩ := h
      exact ⟨by simp [pureL, pureV, ic_pureL], lawOrdering_c a0⟩)

theorem said : Rows.FnExactOrderingSaid :=
  OpenClaim.holds_of_wide 11 Try.f11 rfl rfl rfl rfl rfl rfl rfl ⟨rfl, rfl, rfl, rfl, rfl⟩ rfl rfl rfl rfl rfl (by kernel_rfl) Try.func11 (by kernel_rfl)
    (of_decide_eq_true (by kernel_rfl)) (by unfold Func.isWrapper; first | (rw [if_pos (by decide +kernel)]; kernel_rfl) | (rw [if_neg (by decide +kernel)]; exact ⟨rfl, rfl⟩))
    (fun os started H enc _ => lifted os started H enc)
end Go.Proofs.Ytikaemjgmahnbaa.fnExactOrdering
