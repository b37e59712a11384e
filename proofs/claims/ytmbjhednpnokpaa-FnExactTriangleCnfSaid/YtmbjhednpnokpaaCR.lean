/- For every input the law FnExactTriangleCnf returns true, and its arguments read as before. No conditions. -/
import Derived.Test.YtmbjhednpnokpaaC6
set_option linter.unusedVariables false
set_option linter.unusedSimpArgs false
namespace Go.Proofs.Ytmbjhednpnokpaa.fnExactTriangleCnf
open Go Go.Av Go.Proofs.Ytmbjhednpnokpaa

set_option maxRecDepth 100000 in
theorem lifted (os : Os) (started : os.Started) (H : Type) (enc : TypeId × Value → H) :
    ReturnsInHanded {} Try.checked os 5 .any (Rows.fnExactTriangleCnfSpec.pre6 enc Try.prog Try.f5 Rows.fnExactTriangleCnfRow.domain false) (Rows.fnExactTriangleCnfSpec.post enc Try.prog Try.f5 false true false false) :=
  row_step (C := Try.checked) (fn := Try.f5) (tb := 4) rowOwn started (by kernel_rfl) Try.func5
    (ChangeSpec.witness6 (enc := enc) (C := Try.checked) false ⟨#[], #[.int .i64 0], []⟩ 8 (by kernel_rfl) (by kernel_rfl) (by kernel_rfl) (by kernel_rfl))
    rowLaid (by kernel_rfl) rfl
    (fun ds hl => by
      match ds, hl with
      | [d1], _ => rfl)
    rfl Try.underlying4
    (openArgs_cons arg3 openArgs_nil)
    (fun avs h => by
      obtain ⟨a0, _, rfl, h0, rfl⟩ := h
      exact ⟨by simp [pureL, pureV, ic_pureL], lawTriangleCnf_c a0⟩)

theorem said : Rows.FnExactTriangleCnfSaid :=
  OpenClaim.holds_of_wide 5 Try.f5 rfl rfl rfl rfl rfl rfl rfl ⟨rfl, rfl, rfl, rfl, rfl⟩ rfl rfl rfl rfl rfl (by kernel_rfl) Try.func5 (by kernel_rfl)
    (of_decide_eq_true (by kernel_rfl)) (by unfold Func.isWrapper; first | (rw [if_pos (by decide +kernel)]; kernel_rfl) | (rw [if_neg (by decide +kernel)]; exact ⟨rfl, rfl⟩))
    (fun os started H enc _ => lifted os started H enc)
end Go.Proofs.Ytmbjhednpnokpaa.fnExactTriangleCnf
