/- For every input the law FnExactLearnByOrder returns true, and its arguments read as before. No conditions. -/
import Derived.Test.YtknoopcjhjhggaaGreatB7
set_option linter.unusedVariables false
set_option linter.unusedSimpArgs false
namespace Go.Proofs.YtknoopcjhjhggaaGreat.fnExactLearnByOrder
open Go Go.Av Go.Proofs.YtknoopcjhjhggaaGreat

set_option maxRecDepth 100000 in
theorem lifted (os : Os) (started : os.Started) (H : Type) (enc : TypeId × Value → H) :
    ReturnsInHanded {} Tryz.checked os 4 .any (Rows.fnExactLearnByOrderSpec.pre6 enc Tryz.prog Tryz.f4 Rows.fnExactLearnByOrderRow.domain false) (Rows.fnExactLearnByOrderSpec.post enc Tryz.prog Tryz.f4 false true false false) :=
  row_step (C := Tryz.checked) (fn := Tryz.f4) (tb := 4) rowOwn started (by kernel_rfl) Tryz.func4
    (ChangeSpec.witness6 (enc := enc) (C := Tryz.checked) false ⟨#[], #[.agg #[.int .i64 0, .slice none 0 0], .slice none 0 0], []⟩ 8 (by kernel_rfl) (by kernel_rfl) (by kernel_rfl) (by kernel_rfl))
    rowLaid (by kernel_rfl) rfl
    (fun ds hl => by
      match ds, hl with
      | [d1, d2], _ => rfl)
    rfl Tryz.underlying4
    (openArgs_cons arg24 (openArgs_cons arg25 openArgs_nil))
    (fun avs h => by
      obtain ⟨a0, _, rfl, h0, a1, _, rfl, h1, rfl⟩ := h
      simp only [icells_flat, sls_flat]
      exact ⟨by simp [pureL, pureV, ic_pureL, sls_pureL, List.cons_append, List.nil_append], lawLearnByOrder_c a0.1 a0.2 a1 (len64 h1.1) (bd64 h0.1) (cnf_hyp h0.2).1 (cnf_hyp h0.2).2.1 (cnf_hyp h0.2).2.2 (gd_bd fun x hx => bd64 (h1.2 x hx).1)⟩)

theorem said : Rows.FnExactLearnByOrderSaid :=
  OpenClaim.holds_of_wide 4 Tryz.f4 rfl rfl rfl rfl rfl rfl rfl ⟨rfl, rfl, rfl, rfl, rfl⟩ rfl rfl rfl rfl rfl (by kernel_rfl) Tryz.func4 (by kernel_rfl)
    (of_decide_eq_true (by kernel_rfl)) (by unfold Func.isWrapper; first | (rw [if_pos (by decide +kernel)]; kernel_rfl) | (rw [if_neg (by decide +kernel)]; exact ⟨rfl, rfl⟩))
    (fun os started H enc _ => lifted os started H enc)
end Go.Proofs.YtknoopcjhjhggaaGreat.fnExactLearnByOrder
