/- For every input the law FnExactMatching returns true, and its arguments read as before. No conditions. -/
import Derived.Test.YtikaemjgmahnbaaJ6
set_option linter.unusedVariables false
set_option linter.unusedSimpArgs false
namespace Go.Proofs.Ytikaemjgmahnbaa.fnExactMatching
open Go Go.Av Go.Proofs.Ytikaemjgmahnbaa

set_option maxRecDepth 100000 in
theorem lifted (os : Os) (started : os.Started) (H : Type) (enc : TypeId × Value → H) :
    ReturnsInHanded {} Try.checked os 13 .any (Rows.fnExactMatchingSpec.pre6 enc Try.prog Try.f13 Rows.fnExactMatchingRow.domain false) (Rows.fnExactMatchingSpec.post enc Try.prog Try.f13 false true false false) :=
  row_step (C := Try.checked) (fn := Try.f13) (tb := 4) rowOwn started (by kernel_rfl) Try.func13
    (ChangeSpec.witness6 (enc := enc) (C := Try.checked) false ⟨#[], #[.int .i64 0], []⟩ 8 (by kernel_rfl) (by kernel_rfl) (by kernel_rfl) (by kernel_rfl))
    rowLaid (by kernel_rfl) rfl
    (fun ds hl => by
      match ds, hl with
      | [d1], _ => rfl)
    rfl Try.underlying4
    (openArgs_cons arg3 openArgs_nil)
    (fun avs h => by
      obtain ⟨a0, _, rfl, h0, rfl⟩ := h
      exact ⟨by simp [pureL, pureV, ic_pureL], lawMatching_c a0⟩)

theorem said : Rows.FnExactMatchingSaid :=
  OpenClaim.holds_of_wide 13 Try.f13 rfl rfl rfl rfl rfl rfl rfl ⟨rfl, rfl, rfl, rfl, rfl⟩ rfl rfl rfl rfl rfl (by kernel_rfl) Try.func13 (by kernel_rfl)
    (of_decide_eq_true (by kernel_rfl)) (by unfold Func.isWrapper; first | (rw [if_pos (by decide +kernel)]; kernel_rfl) | (rw [if_neg (by decide +kernel)]; exact ⟨rfl, rfl⟩))
    (fun os started H enc _ => lifted os started H enc)
end Go.Proofs.Ytikaemjgmahnbaa.fnExactMatching
