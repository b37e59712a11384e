/- For every input the law FnExactAtLeastCnf returns true, and its arguments read as before. No conditions. -/
import Derived.Test.YtmbjhednpnokpaaB6
set_option linter.unusedVariables false
set_option linter.unusedSimpArgs false
namespace Go.Proofs.Ytmbjhednpnokpaa.fnExactAtLeastCnf
open Go Go.Av Go.Proofs.Ytmbjhednpnokpaa

set_option maxRecDepth 100000 in
theorem lifted (os : Os) (started : os.Started) (H : Type) (enc : TypeId × Value → H) :
    ReturnsInHanded {} Try.checked os 4 .any (Rows.fnExactAtLeastCnfSpec.pre6 enc Try.prog Try.f4 Rows.fnExactAtLeastCnfRow.domain false) (Rows.fnExactAtLeastCnfSpec.post enc Try.prog Try.f4 false true false false) :=
  row_step (C := Try.checked) (fn := Try.f4) (tb := 4) rowOwn started (by kernel_rfl) Try.func4
    (ChangeSpec.witness6 (enc := enc) (C := Try.checked) false ⟨#[], #[.int .i64 0, .int .i64 0], []⟩ 8 (by kernel_rfl) (by kernel_rfl) (by kernel_rfl) (by kernel_rfl))
    rowLaid (by kernel_rfl) rfl
    (fun ds hl => by
      match ds, hl with
      | [d1, d2], _ => rfl)
    rfl Try.underlying4
    (openArgs_cons arg3 (openArgs_cons arg3 openArgs_nil))
    (fun avs h => by
      obtain ⟨a0, _, rfl, h0, a1, _, rfl, h1, rfl⟩ := h
      exact ⟨by simp [pureL, pureV, ic_pureL], lawAtLeastCnf_c a0 a1⟩)

theorem said : Rows.FnExactAtLeastCnfSaid :=
  OpenClaim.holds_of_wide 4 Try.f4 rfl rfl rfl rfl rfl rfl rfl ⟨rfl, rfl, rfl, rfl, rfl⟩ rfl rfl rfl rfl rfl (by kernel_rfl) Try.func4 (by kernel_rfl)
    (of_decide_eq_true (by kernel_rfl)) (by unfold Func.isWrapper; first | (rw [if_pos (by decide +kernel)]; kernel_rfl) | (rw [if_neg (by decide +kernel)]; exact ⟨rfl, rfl⟩))
    (fun os started H enc _ => lifted os started H enc)
end Go.Proofs.Ytmbjhednpnokpaa.fnExactAtLeastCnf
