/- For every input the law FnExactParityPoly returns true, and its arguments read as before. No conditions. -/
import Derived.Test.YteobpdiljobofaaPx
import Derived.Test.YteobpdiljobofaaPp
set_option linter.unusedVariables false
set_option linter.unusedSimpArgs false
namespace Go.Proofs.Yteobpdiljobofaa.fnExactParityPoly
open Go Go.Av Go.Proofs.Yteobpdiljobofaa

set_option maxRecDepth 100000 in
theorem lifted (os : Os) (started : os.Started) (H : Type) (enc : TypeId × Value → H) :
    ReturnsInHanded {} Try.checked os 14 .any (Rows.fnExactParityPolySpec.pre6 enc Try.prog Try.f14 Rows.fnExactParityPolyRow.domain false) (Rows.fnExactParityPolySpec.post enc Try.prog Try.f14 false true false false) :=
  row_step (C := Try.checked) (fn := Try.f14) (tb := 4) rowOwn started (by kernel_rfl) Try.func14
    (ChangeSpec.witness6 (enc := enc) (C := Try.checked) false ⟨#[], #[.int .i64 0, .int .i64 0, .slice none 0 0, .bool false], []⟩ 8 (by kernel_rfl) (by kernel_rfl) (by kernel_rfl) (by kernel_rfl))
    rowLaid (by kernel_rfl) rfl
    (fun ds hl => by
      match ds, hl with
      | [d1, d2, d3, d4], _ => rfl)
    rfl Try.underlying4
    (openArgs_cons arg_int (openArgs_cons arg_int (openArgs_cons arg_ints (openArgs_cons arg_bool openArgs_nil))))
    (fun avs h => by
      obtain ⟨a0, _, rfl, h0, a1, _, rfl, h1, a2, _, rfl, h2, a3, _, rfl, h3, rfl⟩ := h
      simp only [icells_flat]
      exact ⟨by simp [pureL, pureV, tcells_pure, ic_pureL], lawParityPoly_c a0 a1 a2 a3 (len64 h2.1) (gd_bd fun x hx => bd64 (h2.2 x hx).1)⟩)

theorem said : Rows.FnExactParityPolySaid :=
  OpenClaim.holds_of_wide 14 Try.f14 rfl rfl rfl rfl rfl rfl rfl ⟨rfl, rfl, rfl, rfl, rfl⟩ rfl rfl rfl rfl rfl (by kernel_rfl) Try.func14 (by kernel_rfl)
    (of_decide_eq_true (by kernel_rfl)) (by unfold Func.isWrapper; first | (rw [if_pos (by decide +kernel)]; kernel_rfl) | (rw [if_neg (by decide +kernel)]; exact ⟨rfl, rfl⟩))
    (fun os started H enc _ => lifted os started H enc)
end Go.Proofs.Yteobpdiljobofaa.fnExactParityPoly
