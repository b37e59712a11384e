/- Lemmas, part 4. -/
import Derived.Test.YtgpanniofcfmbaaLe3
import Derived.Test.YtgpanniofcfmbaaRows
set_option linter.unusedVariables false
set_option linter.unusedSimpArgs false
namespace Go.Av
open Go Go.Proofs Go.Sort
set_option maxRecDepth 10000
theorem iss5 : (Try.prog.underlying 5).isSome = true := by kernel_rfl
theorem un9 : Try.prog.underlying 9 = some .string := by kernel_rfl
theorem uni5 : Try.prog.underlying 5 = some (.int .u8) := by kernel_rfl

theorem len64_c (n : Nat) (h : n < 18446744073709551616) : ACall Try.prog 169 [.int .u64 ((n : Nat) : Int)] [] (.int .i64 ((bitsLen n : Nat) : Int)) [] := by
  have hx1 : lx 32 n < 4294967296 := (by unfold lx; split <;> omega)
  have hx2 : lx 16 (lx 32 n) < 65536 := (by have h9 := hx1; generalize lx 32 n = m at h9 ⊢; unfold lx; split <;> omega)
  have hx3 : lx 8 (lx 16 (lx 32 n)) < 256 := (by have h9 := hx2; generalize lx 16 (lx 32 n) = m at h9 ⊢; unfold lx; split <;> omega)
  have hl3 : bitsLen (lx 8 (lx 16 (lx 32 n))) ≤ 8 := (bitsLen_le_iff _ _).2 hx3
  have hlen : bitsLen n = ll 32 n + ll 16 (lx 32 n) + ll 8 (lx 16 (lx 32 n)) + bitsLen (lx 8 (lx 16 (lx 32 n))) := (by have e1 := lx_len 32 n; have e2 := lx_len 16 (lx 32 n); have e3 := lx_len 8 (lx 16 (lx 32 n)); omega)
  have hb1 : ll 32 n ≤ 32 := (by unfold ll; split <;> omega)
  have hb2 : ll 16 (lx 32 n) ≤ 16 := (by unfold ll; split <;> omega)
  have hb3 : ll 8 (lx 16 (lx 32 n)) ≤ 8 := (by unfold ll; split <;> omega)
  refine ACall.intro Try.func169 rfl (N := 25) rfl (by decide) (by simp) ?_
  refine a_seq ?_
  refine a_region ?_
  refine r_val (v := .int _ _) (v_assign (.inl rfl) (noOwn_flat rfl)) rfl rfl (by decide) ?_
  refine r_nil ?_
  refine a_seq ?_
  refine a_seq ?_
  refine a_region ?_
  refine r_val (v := .int _ _) (v_move (.inl rfl) (noOwn_flat rfl)) rfl rfl (by decide) ?_
  refine r_val (v := .bool _) (v_geq (.inl rfl) (.inl rfl)) rfl rfl (by decide) ?_
  refine r_nil ?_
  refine a_cond rfl (fun ht4 => ?_) (fun ht4 => ?_)
  ·
    skip
    refine a_seq ?_
    refine a_region ?_
    refine r_val (v := .int _ _) (v_move (.inl rfl) (noOwn_flat rfl)) rfl rfl (by decide) ?_
    refine r_val (v := .int .u64 ((n / 4294967296 : Nat) : Int)) ((v_shru (.inl rfl) (.inl rfl) (fun _ => by omega)).cast (int_eq (by simp))) rfl rfl (by decide) ?_
    refine r_val (v := .int _ _) (v_assign (.inl rfl) (noOwn_flat rfl)) rfl rfl (by decide) ?_
    refine r_nil ?_
    refine a_region ?_
    refine r_val (v := .int _ _) (v_assign (.inl rfl) (noOwn_flat rfl)) rfl rfl (by decide) ?_
    refine r_nil ?_
    refine a_seq ?_
    refine a_seq ?_
    refine a_pre (ent_eq (t := 0) (v' := .int .u64 ((lx 32 n : Nat) : Int)) (Weak.of_eq (int_eq (congrArg Nat.cast (by first | exact (if_pos (show 2 ^ 32 ≤ n by simp at ht4; omega)).symm | exact (if_neg (show ¬ 2 ^ 32 ≤ n by simp at ht4; omega)).symm))))) ?_
    refine a_pre (ent_eq (t := 2) (v' := .int .i64 ((ll 32 n : Nat) : Int)) (Weak.of_eq (int_eq (by first | (rw [show ll 32 (n) = 32 from if_pos (show 2 ^ 32 ≤ n by simp at ht4; omega)]; rfl) | (rw [show ll 32 (n) = 0 from if_neg (show ¬ 2 ^ 32 ≤ n by simp at ht4; omega)]; rfl))))) ?_
    refine a_region ?_
    refine r_val (v := .int _ _) (v_move (.inl rfl) (noOwn_flat rfl)) rfl rfl (by decide) ?_
    refine r_val (v := .bool _) (v_geq (.inl rfl) (.inl rfl)) rfl rfl (by decide) ?_
    refine r_nil ?_
    refine a_cond rfl (fun ht8 => ?_) (fun ht8 => ?_)
    ·
      skip
      refine a_seq ?_
      refine a_region ?_
      refine r_val (v := .int _ _) (v_move (.inl rfl) (noOwn_flat rfl)) rfl rfl (by decide) ?_
      refine r_val (v := .int .u64 ((lx 32 n / 65536 : Nat) : Int)) ((v_shru (.inl rfl) (.inl rfl) (fun _ => by omega)).cast (int_eq (by simp))) rfl rfl (by decide) ?_
      refine r_val (v := .int _ _) (v_assign (.inl rfl) (noOwn_flat rfl)) rfl rfl (by decide) ?_
      refine r_nil ?_
      refine a_region ?_
      refine r_val (v := .int _ _) (v_move (.inl rfl) (noOwn_flat rfl)) rfl rfl (by decide) ?_
      refine r_val (v := .int _ _) (v_add (.inl rfl) (.inl rfl) (fun _ => by omega)) rfl rfl (by decide) ?_
      refine r_val (v := .int _ _) (v_assign (.inl rfl) (noOwn_flat rfl)) rfl rfl (by decide) ?_
      refine r_nil ?_
      refine a_seq ?_
      refine a_seq ?_
      refine a_pre (ent_eq (t := 0) (v' := .int .u64 ((lx 16 (lx 32 n) : Nat) : Int)) (Weak.of_eq (int_eq (congrArg Nat.cast (by first | exact (if_pos (show 2 ^ 16 ≤ lx 32 n by simp at ht8; omega)).symm | exact (if_neg (show ¬ 2 ^ 16 ≤ lx 32 n by simp at ht8; omega)).symm))))) ?_
      refine a_pre (ent_eq (t := 2) (v' := .int .i64 ((ll 32 n + ll 16 (lx 32 n) : Nat) : Int)) (Weak.of_eq (int_eq (by first | (rw [show ll 16 (lx 32 n) = 16 from if_pos (show 2 ^ 16 ≤ lx 32 n by simp at ht8; omega)]; rfl) | (rw [show ll 16 (lx 32 n) = 0 from if_neg (show ¬ 2 ^ 16 ≤ lx 32 n by simp at ht8; omega)]; rfl))))) ?_
      refine a_region ?_
      refine r_val (v := .int _ _) (v_move (.inl rfl) (noOwn_flat rfl)) rfl rfl (by decide) ?_
      refine r_val (v := .bool _) (v_geq (.inl rfl) (.inl rfl)) rfl rfl (by decide) ?_
      refine r_nil ?_
      refine a_cond rfl (fun ht14 => ?_) (fun ht14 => ?_)
      ·
        skip
        refine a_seq ?_
        refine a_region ?_
        refine r_val (v := .int _ _) (v_move (.inl rfl) (noOwn_flat rfl)) rfl rfl (by decide) ?_
        refine r_val (v := .int .u64 ((lx 16 (lx 32 n) / 256 : Nat) : Int)) ((v_shru (.inl rfl) (.inl rfl) (fun _ => by omega)).cast (int_eq (by simp))) rfl rfl (by decide) ?_
        refine r_val (v := .int _ _) (v_assign (.inl rfl) (noOwn_flat rfl)) rfl rfl (by decide) ?_
        refine r_nil ?_
        refine a_region ?_
        refine r_val (v := .int _ _) (v_move (.inl rfl) (noOwn_flat rfl)) rfl rfl (by decide) ?_
        refine r_val (v := .int _ _) (v_add (.inl rfl) (.inl rfl) (fun _ => by omega)) rfl rfl (by decide) ?_
        refine r_val (v := .int _ _) (v_assign (.inl rfl) (noOwn_flat rfl)) rfl rfl (by decide) ?_
        refine r_nil ?_
        refine a_seq ?_
        refine a_pre (ent_eq (t := 0) (v' := .int .u64 ((lx 8 (lx 16 (lx 32 n)) : Nat) : Int)) (Weak.of_eq (int_eq (congrArg Nat.cast (by first | exact (if_pos (show 2 ^ 8 ≤ lx 16 (lx 32 n) by simp at ht14; omega)).symm | exact (if_neg (show ¬ 2 ^ 8 ≤ lx 16 (lx 32 n) by simp at ht14; omega)).symm))))) ?_
        refine a_pre (ent_eq (t := 2) (v' := .int .i64 ((ll 32 n + ll 16 (lx 32 n) + ll 8 (lx 16 (lx 32 n)) : Nat) : Int)) (Weak.of_eq (int_eq (by first | (rw [show ll 8 (lx 16 (lx 32 n)) = 8 from if_pos (show 2 ^ 8 ≤ lx 16 (lx 32 n) by simp at ht14; omega)]; rfl) | (rw [show ll 8 (lx 16 (lx 32 n)) = 0 from if_neg (show ¬ 2 ^ 8 ≤ lx 16 (lx 32 n) by simp at ht14; omega)]; rfl))))) ?_
        refine a_region ?_
        refine r_val (v := .int _ _) (v_move (.inl rfl) (noOwn_flat rfl)) rfl rfl (by decide) ?_
        refine r_val (v := .int _ _) (v_move (.inl rfl) (noOwn_flat rfl)) rfl rfl (by decide) ?_
        refine r_val (v := .int .u8 ((lx 8 (lx 16 (lx 32 n)) : Nat) : Int)) (v_conv iss159 uni5 (.inl rfl) (fun _ => IntWalk.u8_in _ (by omega))) rfl rfl (by decide) ?_
        refine r_val (v := .int .u8 ((bitsLen (lx 8 (lx 16 (lx 32 n))) : Nat) : Int)) ((v_index_str un9 (.inl rfl) (.inl rfl) (fun _ => ⟨by omega, Int.lt_of_lt_of_le (Int.ofNat_lt.2 hx3) (by decide +kernel)⟩)).cast (int_eq (congrArg Nat.cast (by revert hx3; generalize lx 8 (lx 16 (lx 32 n)) = m; revert m; decide +kernel)))) rfl rfl (by decide) ?_
        refine r_val (v := .int _ _) (v_conv iss5 uni3 (.inl rfl) (fun _ => by first | rfl | exact IntWalk.i64_in _ (by omega))) rfl rfl (by decide) ?_
        refine r_val (v := .int _ _) (v_add (.inl rfl) (.inl rfl) (fun _ => by omega)) rfl rfl (by decide) ?_
        refine r_val (v := .int _ _) (v_assign (.inl rfl) (noOwn_flat rfl)) rfl rfl (by decide) ?_
        refine r_nil ?_
        refine a_ret ?_
        refine ret1 Try.results169 (by decide) (by decide) (Weak.of_eq (int_eq ?_)) rfl Leaves.nil
        rw [hlen]; simp
      ·
        skip
        refine a_skip ?_
        refine a_seq ?_
        refine a_pre (ent_eq (t := 0) (v' := .int .u64 ((lx 8 (lx 16 (lx 32 n)) : Nat) : Int)) (Weak.of_eq (int_eq (congrArg Nat.cast (by first | exact (if_pos (show 2 ^ 8 ≤ lx 16 (lx 32 n) by simp at ht14; omega)).symm | exact (if_neg (show ¬ 2 ^ 8 ≤ lx 16 (lx 32 n) by simp at ht14; omega)).symm))))) ?_
        refine a_pre (ent_eq (t := 2) (v' := .int .i64 ((ll 32 n + ll 16 (lx 32 n) + ll 8 (lx 16 (lx 32 n)) : Nat) : Int)) (Weak.of_eq (int_eq (by first | (rw [show ll 8 (lx 16 (lx 32 n)) = 8 from if_pos (show 2 ^ 8 ≤ lx 16 (lx 32 n) by simp at ht14; omega)]; rfl) | (rw [show ll 8 (lx 16 (lx 32 n)) = 0 from if_neg (show ¬ 2 ^ 8 ≤ lx 16 (lx 32 n) by simp at ht14; omega)]; rfl))))) ?_
        refine a_region ?_
        refine r_val (v := .int _ _) (v_move (.inl rfl) (noOwn_flat rfl)) rfl rfl (by decide) ?_
        refine r_val (v := .int _ _) (v_move (.inl rfl) (noOwn_flat rfl)) rfl rfl (by decide) ?_
        refine r_val (v := .int .u8 ((lx 8 (lx 16 (lx 32 n)) : Nat) : Int)) (v_conv iss159 uni5 (.inl rfl) (fun _ => IntWalk.u8_in _ (by omega))) rfl rfl (by decide) ?_
        refine r_val (v := .int .u8 ((bitsLen (lx 8 (lx 16 (lx 32 n))) : Nat) : Int)) ((v_index_str un9 (.inl rfl) (.inl rfl) (fun _ => ⟨by omega, Int.lt_of_lt_of_le (Int.ofNat_lt.2 hx3) (by decide +kernel)⟩)).cast (int_eq (congrArg Nat.cast (by revert hx3; generalize lx 8 (lx 16 (lx 32 n)) = m; revert m; decide +kernel)))) rfl rfl (by decide) ?_
        refine r_val (v := .int _ _) (v_conv iss5 uni3 (.inl rfl) (fun _ => by first | rfl | exact IntWalk.i64_in _ (by omega))) rfl rfl (by decide) ?_
        refine r_val (v := .int _ _) (v_add (.inl rfl) (.inl rfl) (fun _ => by omega)) rfl rfl (by decide) ?_
        refine r_val (v := .int _ _) (v_assign (.inl rfl) (noOwn_flat rfl)) rfl rfl (by decide) ?_
        refine r_nil ?_
        refine a_ret ?_
        refine ret1 Try.results169 (by decide) (by decide) (Weak.of_eq (int_eq ?_)) rfl Leaves.nil
        rw [hlen]; simp
    ·
      skip
      refine a_skip ?_
      refine a_seq ?_
      refine a_seq ?_
      refine a_pre (ent_eq (t := 0) (v' := .int .u64 ((lx 16 (lx 32 n) : Nat) : Int)) (Weak.of_eq (int_eq (congrArg Nat.cast (by first | exact (if_pos (show 2 ^ 16 ≤ lx 32 n by simp at ht8; omega)).symm | exact (if_neg (show ¬ 2 ^ 16 ≤ lx 32 n by simp at ht8; omega)).symm))))) ?_
      refine a_pre (ent_eq (t := 2) (v' := .int .i64 ((ll 32 n + ll 16 (lx 32 n) : Nat) : Int)) (Weak.of_eq (int_eq (by first | (rw [show ll 16 (lx 32 n) = 16 from if_pos (show 2 ^ 16 ≤ lx 32 n by simp at ht8; omega)]; rfl) | (rw [show ll 16 (lx 32 n) = 0 from if_neg (show ¬ 2 ^ 16 ≤ lx 32 n by simp at ht8; omega)]; rfl))))) ?_
      refine a_region ?_
      refine r_val (v := .int _ _) (v_move (.inl rfl) (noOwn_flat rfl)) rfl rfl (by decide) ?_
      refine r_val (v := .bool _) (v_geq (.inl rfl) (.inl rfl)) rfl rfl (by decide) ?_
      refine r_nil ?_
      refine a_cond rfl (fun ht14 => ?_) (fun ht14 => ?_)
      ·
        skip
        refine a_seq ?_
        refine a_region ?_
        refine r_val (v := .int _ _) (v_move (.inl rfl) (noOwn_flat rfl)) rfl rfl (by decide) ?_
        refine r_val (v := .int .u64 ((lx 16 (lx 32 n) / 256 : Nat) : Int)) ((v_shru (.inl rfl) (.inl rfl) (fun _ => by omega)).cast (int_eq (by simp))) rfl rfl (by decide) ?_
        refine r_val (v := .int _ _) (v_assign (.inl rfl) (noOwn_flat rfl)) rfl rfl (by decide) ?_
        refine r_nil ?_
        refine a_region ?_
        refine r_val (v := .int _ _) (v_move (.inl rfl) (noOwn_flat rfl)) rfl rfl (by decide) ?_
        refine r_val (v := .int _ _) (v_add (.inl rfl) (.inl rfl) (fun _ => by omega)) rfl rfl (by decide) ?_
        refine r_val (v := .int _ _) (v_assign (.inl rfl) (noOwn_flat rfl)) rfl rfl (by decide) ?_
        refine r_nil ?_
        refine a_seq ?_
        refine a_pre (ent_eq (t := 0) (v' := .int .u64 ((lx 8 (lx 16 (lx 32 n)) : Nat) : Int)) (Weak.of_eq (int_eq (congrArg Nat.cast (by first | exact (if_pos (show 2 ^ 8 ≤ lx 16 (lx 32 n) by simp at ht14; omega)).symm | exact (if_neg (show ¬ 2 ^ 8 ≤ lx 16 (lx 32 n) by simp at ht14; omega)).symm))))) ?_
        refine a_pre (ent_eq (t := 2) (v' := .int .i64 ((ll 32 n + ll 16 (lx 32 n) + ll 8 (lx 16 (lx 32 n)) : Nat) : Int)) (Weak.of_eq (int_eq (by first | (rw [show ll 8 (lx 16 (lx 32 n)) = 8 from if_pos (show 2 ^ 8 ≤ lx 16 (lx 32 n) by simp at ht14; omega)]; rfl) | (rw [show ll 8 (lx 16 (lx 32 n)) = 0 from if_neg (show ¬ 2 ^ 8 ≤ lx 16 (lx 32 n) by simp at ht14; omega)]; rfl))))) ?_
        refine a_region ?_
        refine r_val (v := .int _ _) (v_move (.inl rfl) (noOwn_flat rfl)) rfl rfl (by decide) ?_
        refine r_val (v := .int _ _) (v_move (.inl rfl) (noOwn_flat rfl)) rfl rfl (by decide) ?_
        refine r_val (v := .int .u8 ((lx 8 (lx 16 (lx 32 n)) : Nat) : Int)) (v_conv iss159 uni5 (.inl rfl) (fun _ => IntWalk.u8_in _ (by omega))) rfl rfl (by decide) ?_
        refine r_val (v := .int .u8 ((bitsLen (lx 8 (lx 16 (lx 32 n))) : Nat) : Int)) ((v_index_str un9 (.inl rfl) (.inl rfl) (fun _ => ⟨by omega, Int.lt_of_lt_of_le (Int.ofNat_lt.2 hx3) (by decide +kernel)⟩)).cast (int_eq (congrArg Nat.cast (by revert hx3; generalize lx 8 (lx 16 (lx 32 n)) = m; revert m; decide +kernel)))) rfl rfl (by decide) ?_
        refine r_val (v := .int _ _) (v_conv iss5 uni3 (.inl rfl) (fun _ => by first | rfl | exact IntWalk.i64_in _ (by omega))) rfl rfl (by decide) ?_
        refine r_val (v := .int _ _) (v_add (.inl rfl) (.inl rfl) (fun _ => by omega)) rfl rfl (by decide) ?_
        refine r_val (v := .int _ _) (v_assign (.inl rfl) (noOwn_flat rfl)) rfl rfl (by decide) ?_
        refine r_nil ?_
        refine a_ret ?_
        refine ret1 Try.results169 (by decide) (by decide) (Weak.of_eq (int_eq ?_)) rfl Leaves.nil
        rw [hlen]; simp
      ·
        skip
        refine a_skip ?_
        refine a_seq ?_
        refine a_pre (ent_eq (t := 0) (v' := .int .u64 ((lx 8 (lx 16 (lx 32 n)) : Nat) : Int)) (Weak.of_eq (int_eq (congrArg Nat.cast (by first | exact (if_pos (show 2 ^ 8 ≤ lx 16 (lx 32 n) by simp at ht14; omega)).symm | exact (if_neg (show ¬ 2 ^ 8 ≤ lx 16 (lx 32 n) by simp at ht14; omega)).symm))))) ?_
        refine a_pre (ent_eq (t := 2) (v' := .int .i64 ((ll 32 n + ll 16 (lx 32 n) + ll 8 (lx 16 (lx 32 n)) : Nat) : Int)) (Weak.of_eq (int_eq (by first | (rw [show ll 8 (lx 16 (lx 32 n)) = 8 from if_pos (show 2 ^ 8 ≤ lx 16 (lx 32 n) by simp at ht14; omega)]; rfl) | (rw [show ll 8 (lx 16 (lx 32 n)) = 0 from if_neg (show ¬ 2 ^ 8 ≤ lx 16 (lx 32 n) by simp at ht14; omega)]; rfl))))) ?_
        refine a_region ?_
        refine r_val (v := .int _ _) (v_move (.inl rfl) (noOwn_flat rfl)) rfl rfl (by decide) ?_
        refine r_val (v := .int _ _) (v_move (.inl rfl) (noOwn_flat rfl)) rfl rfl (by decide) ?_
        refine r_val (v := .int .u8 ((lx 8 (lx 16 (lx 32 n)) : Nat) : Int)) (v_conv iss159 uni5 (.inl rfl) (fun _ => IntWalk.u8_in _ (by omega))) rfl rfl (by decide) ?_
        refine r_val (v := .int .u8 ((bitsLen (lx 8 (lx 16 (lx 32 n))) : Nat) : Int)) ((v_index_str un9 (.inl rfl) (.inl rfl) (fun _ => ⟨by omega, Int.lt_of_lt_of_le (Int.ofNat_lt.2 hx3) (by decide +kernel)⟩)).cast (int_eq (congrArg Nat.cast (by revert hx3; generalize lx 8 (lx 16 (lx 32 n)) = m; revert m; decide +kernel)))) rfl rfl (by decide) ?_
        refine r_val (v := .int _ _) (v_conv iss5 uni3 (.inl rfl) (fun _ => by first | rfl | exact IntWalk.i64_in _ (by omega))) rfl rfl (by decide) ?_
        refine r_val (v := .int _ _) (v_add (.inl rfl) (.inl rfl) (fun _ => by omega)) rfl rfl (by decide) ?_
        refine r_val (v := .int _ _) (v_assign (.inl rfl) (noOwn_flat rfl)) rfl rfl (by decide) ?_
        refine r_nil ?_
        refine a_ret ?_
        refine ret1 Try.results169 (by decide) (by decide) (Weak.of_eq (int_eq ?_)) rfl Leaves.nil
        rw [hlen]; simp
  ·
    skip
    refine a_skip ?_
    refine a_seq ?_
    refine a_seq ?_
    refine a_pre (ent_eq (t := 0) (v' := .int .u64 ((lx 32 n : Nat) : Int)) (Weak.of_eq (int_eq (congrArg Nat.cast (by first | exact (if_pos (show 2 ^ 32 ≤ n by simp at ht4; omega)).symm | exact (if_neg (show ¬ 2 ^ 32 ≤ n by simp at ht4; omega)).symm))))) ?_
    refine a_pre (ent_eq (t := 2) (v' := .int .i64 ((ll 32 n : Nat) : Int)) (Weak.of_eq (int_eq (by first | (rw [show ll 32 (n) = 32 from if_pos (show 2 ^ 32 ≤ n by simp at ht4; omega)]; rfl) | (rw [show ll 32 (n) = 0 from if_neg (show ¬ 2 ^ 32 ≤ n by simp at ht4; omega)]; rfl))))) ?_
    refine a_region ?_
    refine r_val (v := .int _ _) (v_move (.inl rfl) (noOwn_flat rfl)) rfl rfl (by decide) ?_
    refine r_val (v := .bool _) (v_geq (.inl rfl) (.inl rfl)) rfl rfl (by decide) ?_
    refine r_nil ?_
    refine a_cond rfl (fun ht8 => ?_) (fun ht8 => ?_)
    ·
      skip
      refine a_seq ?_
      refine a_region ?_
      refine r_val (v := .int _ _) (v_move (.inl rfl) (noOwn_flat rfl)) rfl rfl (by decide) ?_
      refine r_val (v := .int .u64 ((lx 32 n / 65536 : Nat) : Int)) ((v_shru (.inl rfl) (.inl rfl) (fun _ => by omega)).cast (int_eq (by simp))) rfl rfl (by decide) ?_
      refine r_val (v := .int _ _) (v_assign (.inl rfl) (noOwn_flat rfl)) rfl rfl (by decide) ?_
      refine r_nil ?_
      refine a_region ?_
      refine r_val (v := .int _ _) (v_move (.inl rfl) (noOwn_flat rfl)) rfl rfl (by decide) ?_
      refine r_val (v := .int _ _) (v_add (.inl rfl) (.inl rfl) (fun _ => by omega)) rfl rfl (by decide) ?_
      refine r_val (v := .int _ _) (v_assign (.inl rfl) (noOwn_flat rfl)) rfl rfl (by decide) ?_
      refine r_nil ?_
      refine a_seq ?_
      refine a_seq ?_
      refine a_pre (ent_eq (t := 0) (v' := .int .u64 ((lx 16 (lx 32 n) : Nat) : Int)) (Weak.of_eq (int_eq (congrArg Nat.cast (by first | exact (if_pos (show 2 ^ 16 ≤ lx 32 n by simp at ht8; omega)).symm | exact (if_neg (show ¬ 2 ^ 16 ≤ lx 32 n by simp at ht8; omega)).symm))))) ?_
      refine a_pre (ent_eq (t := 2) (v' := .int .i64 ((ll 32 n + ll 16 (lx 32 n) : Nat) : Int)) (Weak.of_eq (int_eq (by first | (rw [show ll 16 (lx 32 n) = 16 from if_pos (show 2 ^ 16 ≤ lx 32 n by simp at ht8; omega)]; rfl) | (rw [show ll 16 (lx 32 n) = 0 from if_neg (show ¬ 2 ^ 16 ≤ lx 32 n by simp at ht8; omega)]; rfl))))) ?_
      refine a_region ?_
      refine r_val (v := .int _ _) (v_move (.inl rfl) (noOwn_flat rfl)) rfl rfl (by decide) ?_
      refine r_val (v := .bool _) (v_geq (.inl rfl) (.inl rfl)) rfl rfl (by decide) ?_
      refine r_nil ?_
      refine a_cond rfl (fun ht14 => ?_) (fun ht14 => ?_)
      ·
        skip
        refine a_seq ?_
        refine a_region ?_
        refine r_val (v := .int _ _) (v_move (.inl rfl) (noOwn_flat rfl)) rfl rfl (by decide) ?_
        refine r_val (v := .int .u64 ((lx 16 (lx 32 n) / 256 : Nat) : Int)) ((v_shru (.inl rfl) (.inl rfl) (fun _ => by omega)).cast (int_eq (by simp))) rfl rfl (by decide) ?_
        refine r_val (v := .int _ _) (v_assign (.inl rfl) (noOwn_flat rfl)) rfl rfl (by decide) ?_
        refine r_nil ?_
        refine a_region ?_
        refine r_val (v := .int _ _) (v_move (.inl rfl) (noOwn_flat rfl)) rfl rfl (by decide) ?_
        refine r_val (v := .int _ _) (v_add (.inl rfl) (.inl rfl) (fun _ => by omega)) rfl rfl (by decide) ?_
        refine r_val (v := .int _ _) (v_assign (.inl rfl) (noOwn_flat rfl)) rfl rfl (by decide) ?_
        refine r_nil ?_
        refine a_seq ?_
        refine a_pre (ent_eq (t := 0) (v' := .int .u64 ((lx 8 (lx 16 (lx 32 n)) : Nat) : Int)) (Weak.of_eq (int_eq (congrArg Nat.cast (by first | exact (if_pos (show 2 ^ 8 ≤ lx 16 (lx 32 n) by simp at ht14; omega)).symm | exact (if_neg (show ¬ 2 ^ 8 ≤ lx 16 (lx 32 n) by simp at ht14; omega)).symm))))) ?_
        refine a_pre (ent_eq (t := 2) (v' := .int .i64 ((ll 32 n + ll 16 (lx 32 n) + ll 8 (lx 16 (lx 32 n)) : Nat) : Int)) (Weak.of_eq (int_eq (by first | (rw [show ll 8 (lx 16 (lx 32 n)) = 8 from if_pos (show 2 ^ 8 ≤ lx 16 (lx 32 n) by simp at ht14; omega)]; rfl) | (rw [show ll 8 (lx 16 (lx 32 n)) = 0 from if_neg (show ¬ 2 ^ 8 ≤ lx 16 (lx 32 n) by simp at ht14; omega)]; rfl))))) ?_
        refine a_region ?_
        refine r_val (v := .int _ _) (v_move (.inl rfl) (noOwn_flat rfl)) rfl rfl (by decide) ?_
        refine r_val (v := .int _ _) (v_move (.inl rfl) (noOwn_flat rfl)) rfl rfl (by decide) ?_
        refine r_val (v := .int .u8 ((lx 8 (lx 16 (lx 32 n)) : Nat) : Int)) (v_conv iss159 uni5 (.inl rfl) (fun _ => IntWalk.u8_in _ (by omega))) rfl rfl (by decide) ?_
        refine r_val (v := .int .u8 ((bitsLen (lx 8 (lx 16 (lx 32 n))) : Nat) : Int)) ((v_index_str un9 (.inl rfl) (.inl rfl) (fun _ => ⟨by omega, Int.lt_of_lt_of_le (Int.ofNat_lt.2 hx3) (by decide +kernel)⟩)).cast (int_eq (congrArg Nat.cast (by revert hx3; generalize lx 8 (lx 16 (lx 32 n)) = m; revert m; decide +kernel)))) rfl rfl (by decide) ?_
        refine r_val (v := .int _ _) (v_conv iss5 uni3 (.inl rfl) (fun _ => by first | rfl | exact IntWalk.i64_in _ (by omega))) rfl rfl (by decide) ?_
        refine r_val (v := .int _ _) (v_add (.inl rfl) (.inl rfl) (fun _ => by omega)) rfl rfl (by decide) ?_
        refine r_val (v := .int _ _) (v_assign (.inl rfl) (noOwn_flat rfl)) rfl rfl (by decide) ?_
        refine r_nil ?_
        refine a_ret ?_
        refine ret1 Try.results169 (by decide) (by decide) (Weak.of_eq (int_eq ?_)) rfl Leaves.nil
        rw [hlen]; simp
      ·
        skip
        refine a_skip ?_
        refine a_seq ?_
        refine a_pre (ent_eq (t := 0) (v' := .int .u64 ((lx 8 (lx 16 (lx 32 n)) : Nat) : Int)) (Weak.of_eq (int_eq (congrArg Nat.cast (by first | exact (if_pos (show 2 ^ 8 ≤ lx 16 (lx 32 n) by simp at ht14; omega)).symm | exact (if_neg (show ¬ 2 ^ 8 ≤ lx 16 (lx 32 n) by simp at ht14; omega)).symm))))) ?_
        refine a_pre (ent_eq (t := 2) (v' := .int .i64 ((ll 32 n + ll 16 (lx 32 n) + ll 8 (lx 16 (lx 32 n)) : Nat) : Int)) (Weak.of_eq (int_eq (by first | (rw [show ll 8 (lx 16 (lx 32 n)) = 8 from if_pos (show 2 ^ 8 ≤ lx 16 (lx 32 n) by simp at ht14; omega)]; rfl) | (rw [show ll 8 (lx 16 (lx 32 n)) = 0 from if_neg (show ¬ 2 ^ 8 ≤ lx 16 (lx 32 n) by simp at ht14; omega)]; rfl))))) ?_
        refine a_region ?_
        refine r_val (v := .int _ _) (v_move (.inl rfl) (noOwn_flat rfl)) rfl rfl (by decide) ?_
        refine r_val (v := .int _ _) (v_move (.inl rfl) (noOwn_flat rfl)) rfl rfl (by decide) ?_
        refine r_val (v := .int .u8 ((lx 8 (lx 16 (lx 32 n)) : Nat) : Int)) (v_conv iss159 uni5 (.inl rfl) (fun _ => IntWalk.u8_in _ (by omega))) rfl rfl (by decide) ?_
        refine r_val (v := .int .u8 ((bitsLen (lx 8 (lx 16 (lx 32 n))) : Nat) : Int)) ((v_index_str un9 (.inl rfl) (.inl rfl) (fun _ => ⟨by omega, Int.lt_of_lt_of_le (Int.ofNat_lt.2 hx3) (by decide +kernel)⟩)).cast (int_eq (congrArg Nat.cast (by revert hx3; generalize lx 8 (lx 16 (lx 32 n)) = m; revert m; decide +kernel)))) rfl rfl (by decide) ?_
        refine r_val (v := .int _ _) (v_conv iss5 uni3 (.inl rfl) (fun _ => by first | rfl | exact IntWalk.i64_in _ (by omega))) rfl rfl (by decide) ?_
        refine r_val (v := .int _ _) (v_add (.inl rfl) (.inl rfl) (fun _ => by omega)) rfl rfl (by decide) ?_
        refine r_val (v := .int _ _) (v_assign (.inl rfl) (noOwn_flat rfl)) rfl rfl (by decide) ?_
        refine r_nil ?_
        refine a_ret ?_
        refine ret1 Try.results169 (by decide) (by decide) (Weak.of_eq (int_eq ?_)) rfl Leaves.nil
        rw [hlen]; simp
    ·
      skip
      refine a_skip ?_
      refine a_seq ?_
      refine a_seq ?_
      refine a_pre (ent_eq (t := 0) (v' := .int .u64 ((lx 16 (lx 32 n) : Nat) : Int)) (Weak.of_eq (int_eq (congrArg Nat.cast (by first | exact (if_pos (show 2 ^ 16 ≤ lx 32 n by simp at ht8; omega)).symm | exact (if_neg (show ¬ 2 ^ 16 ≤ lx 32 n by simp at ht8; omega)).symm))))) ?_
      refine a_pre (ent_eq (t := 2) (v' := .int .i64 ((ll 32 n + ll 16 (lx 32 n) : Nat) : Int)) (Weak.of_eq (int_eq (by first | (rw [show ll 16 (lx 32 n) = 16 from if_pos (show 2 ^ 16 ≤ lx 32 n by simp at ht8; omega)]; rfl) | (rw [show ll 16 (lx 32 n) = 0 from if_neg (show ¬ 2 ^ 16 ≤ lx 32 n by simp at ht8; omega)]; rfl))))) ?_
      refine a_region ?_
      refine r_val (v := .int _ _) (v_move (.inl rfl) (noOwn_flat rfl)) rfl rfl (by decide) ?_
      refine r_val (v := .bool _) (v_geq (.inl rfl) (.inl rfl)) rfl rfl (by decide) ?_
      refine r_nil ?_
      refine a_cond rfl (fun ht14 => ?_) (fun ht14 => ?_)
      ·
        skip
        refine a_seq ?_
        refine a_region ?_
        refine r_val (v := .int _ _) (v_move (.inl rfl) (noOwn_flat rfl)) rfl rfl (by decide) ?_
        refine r_val (v := .int .u64 ((lx 16 (lx 32 n) / 256 : Nat) : Int)) ((v_shru (.inl rfl) (.inl rfl) (fun _ => by omega)).cast (int_eq (by simp))) rfl rfl (by decide) ?_
        refine r_val (v := .int _ _) (v_assign (.inl rfl) (noOwn_flat rfl)) rfl rfl (by decide) ?_
        refine r_nil ?_
        refine a_region ?_
        refine r_val (v := .int _ _) (v_move (.inl rfl) (noOwn_flat rfl)) rfl rfl (by decide) ?_
        refine r_val (v := .int _ _) (v_add (.inl rfl) (.inl rfl) (fun _ => by omega)) rfl rfl (by decide) ?_
        refine r_val (v := .int _ _) (v_assign (.inl rfl) (noOwn_flat rfl)) rfl rfl (by decide) ?_
        refine r_nil ?_
        refine a_seq ?_
        refine a_pre (ent_eq (t := 0) (v' := .int .u64 ((lx 8 (lx 16 (lx 32 n)) : Nat) : Int)) (Weak.of_eq (int_eq (congrArg Nat.cast (by first | exact (if_pos (show 2 ^ 8 ≤ lx 16 (lx 32 n) by simp at ht14; omega)).symm | exact (if_neg (show ¬ 2 ^ 8 ≤ lx 16 (lx 32 n) by simp at ht14; omega)).symm))))) ?_
        refine a_pre (ent_eq (t := 2) (v' := .int .i64 ((ll 32 n + ll 16 (lx 32 n) + ll 8 (lx 16 (lx 32 n)) : Nat) : Int)) (Weak.of_eq (int_eq (by first | (rw [show ll 8 (lx 16 (lx 32 n)) = 8 from if_pos (show 2 ^ 8 ≤ lx 16 (lx 32 n) by simp at ht14; omega)]; rfl) | (rw [show ll 8 (lx 16 (lx 32 n)) = 0 from if_neg (show ¬ 2 ^ 8 ≤ lx 16 (lx 32 n) by simp at ht14; omega)]; rfl))))) ?_
        refine a_region ?_
        refine r_val (v := .int _ _) (v_move (.inl rfl) (noOwn_flat rfl)) rfl rfl (by decide) ?_
        refine r_val (v := .int _ _) (v_move (.inl rfl) (noOwn_flat rfl)) rfl rfl (by decide) ?_
        refine r_val (v := .int .u8 ((lx 8 (lx 16 (lx 32 n)) : Nat) : Int)) (v_conv iss159 uni5 (.inl rfl) (fun _ => IntWalk.u8_in _ (by omega))) rfl rfl (by decide) ?_
        refine r_val (v := .int .u8 ((bitsLen (lx 8 (lx 16 (lx 32 n))) : Nat) : Int)) ((v_index_str un9 (.inl rfl) (.inl rfl) (fun _ => ⟨by omega, Int.lt_of_lt_of_le (Int.ofNat_lt.2 hx3) (by decide +kernel)⟩)).cast (int_eq (congrArg Nat.cast (by revert hx3; generalize lx 8 (lx 16 (lx 32 n)) = m; revert m; decide +kernel)))) rfl rfl (by decide) ?_
        refine r_val (v := .int _ _) (v_conv iss5 uni3 (.inl rfl) (fun _ => by first | rfl | exact IntWalk.i64_in _ (by omega))) rfl rfl (by decide) ?_
        refine r_val (v := .int _ _) (v_add (.inl rfl) (.inl rfl) (fun _ => by omega)) rfl rfl (by decide) ?_
        refine r_val (v := .int _ _) (v_assign (.inl rfl) (noOwn_flat rfl)) rfl rfl (by decide) ?_
        refine r_nil ?_
        refine a_ret ?_
        refine ret1 Try.results169 (by decide) (by decide) (Weak.of_eq (int_eq ?_)) rfl Leaves.nil
        rw [hlen]; simp
      ·
        skip
        refine a_skip ?_
        refine a_seq ?_
        refine a_pre (ent_eq (t := 0) (v' := .int .u64 ((lx 8 (lx 16 (lx 32 n)) : Nat) : Int)) (Weak.of_eq (int_eq (congrArg Nat.cast (by first | exact (if_pos (show 2 ^ 8 ≤ lx 16 (lx 32 n) by simp at ht14; omega)).symm | exact (if_neg (show ¬ 2 ^ 8 ≤ lx 16 (lx 32 n) by simp at ht14; omega)).symm))))) ?_
        refine a_pre (ent_eq (t := 2) (v' := .int .i64 ((ll 32 n + ll 16 (lx 32 n) + ll 8 (lx 16 (lx 32 n)) : Nat) : Int)) (Weak.of_eq (int_eq (by first | (rw [show ll 8 (lx 16 (lx 32 n)) = 8 from if_pos (show 2 ^ 8 ≤ lx 16 (lx 32 n) by simp at ht14; omega)]; rfl) | (rw [show ll 8 (lx 16 (lx 32 n)) = 0 from if_neg (show ¬ 2 ^ 8 ≤ lx 16 (lx 32 n) by simp at ht14; omega)]; rfl))))) ?_
        refine a_region ?_
        refine r_val (v := .int _ _) (v_move (.inl rfl) (noOwn_flat rfl)) rfl rfl (by decide) ?_
        refine r_val (v := .int _ _) (v_move (.inl rfl) (noOwn_flat rfl)) rfl rfl (by decide) ?_
        refine r_val (v := .int .u8 ((lx 8 (lx 16 (lx 32 n)) : Nat) : Int)) (v_conv iss159 uni5 (.inl rfl) (fun _ => IntWalk.u8_in _ (by omega))) rfl rfl (by decide) ?_
        refine r_val (v := .int .u8 ((bitsLen (lx 8 (lx 16 (lx 32 n))) : Nat) : Int)) ((v_index_str un9 (.inl rfl) (.inl rfl) (fun _ => ⟨by omega, Int.lt_of_lt_of_le (Int.ofNat_lt.2 hx3) (by decide +kernel)⟩)).cast (int_eq (congrArg Nat.cast (by revert hx3; generalize lx 8 (lx 16 (lx 32 n)) = m; revert m; decide +kernel)))) rfl rfl (by decide) ?_
        refine r_val (v := .int _ _) (v_conv iss5 uni3 (.inl rfl) (fun _ => by first | rfl | exact IntWalk.i64_in _ (by omega))) rfl rfl (by decide) ?_
        refine r_val (v := .int _ _) (v_add (.inl rfl) (.inl rfl) (fun _ => by omega)) rfl rfl (by decide) ?_
        refine r_val (v := .int _ _) (v_assign (.inl rfl) (noOwn_flat rfl)) rfl rfl (by decide) ?_
        refine r_nil ?_
        refine a_ret ?_
        refine ret1 Try.results169 (by decide) (by decide) (Weak.of_eq (int_eq ?_)) rfl Leaves.nil
        rw [hlen]; simp
end Go.Av
namespace Go.Av
open Go Go.Proofs Go.Sort
set_option maxRecDepth 10000
theorem hb152 : hasBody Try.prog 152 = true := by kernel_rfl
theorem hb169 : hasBody Try.prog 169 = true := by kernel_rfl

theorem len_c (n : Nat) (h : n < 18446744073709551616) : ACall Try.prog 152 [.int .u64 ((n : Nat) : Int)] [] (.int .i64 ((bitsLen n : Nat) : Int)) [] := by
  refine ACall.intro Try.func152 rfl (N := 8) rfl (by decide) (by simp) ?_
  refine a_seq ?_
  refine a_region ?_
  refine r_val (v := .int _ _) (v_assign (.inl rfl) (noOwn_flat rfl)) rfl rfl (by decide) ?_
  refine r_nil ?_
  refine a_seq ?_
  refine a_condF ?_
  refine a_skip ?_
  refine a_seq ?_
  refine a_region ?_
  refine r_val (v := .int _ _) (v_move (.inl rfl) (noOwn_flat rfl)) rfl rfl (by decide) ?_
  refine r_new (v := .int _ _) (q_call (vs := [.int _ _]) (args := [.int .u64 ((_ : Nat) : Int)]) hb169 ⟨.inl rfl, trivial⟩ rfl (fun hA => len64_c _ h) rfl rfl) rfl rfl (by decide) ?_
  refine r_val (v := .int _ _) (v_assign (.inl rfl) (noOwn_flat rfl)) rfl rfl (by decide) ?_
  refine r_nil ?_
  refine a_ret ?_
  refine ret1 Try.results152 (by decide) (by decide) (Weak.of_eq (int_eq ?_)) rfl Leaves.nil
  rfl

theorem nextPow_c (n : Nat) (h : n ≤ 1152921504606846976) : ACall Try.prog 172 [.int .i64 ((n : Nat) : Int)] [] (.int .u64 ((2 ^ bitsLen n : Nat) : Int)) [] := by
  have hb : bitsLen n ≤ 61 := (bitsLen_le_iff _ _).2 (by omega)
  have hp : 2 ^ bitsLen n ≤ 2 ^ 61 := Nat.pow_le_pow_right (by decide) hb
  refine ACall.intro Try.func172 rfl (N := 7) rfl (by decide) (by simp) ?_
  refine a_seq ?_
  refine a_region ?_
  refine r_val (v := .int _ _) (v_assign (.inl rfl) (noOwn_flat rfl)) rfl rfl (by decide) ?_
  refine r_nil ?_
  refine a_seq ?_
  refine a_region ?_
  refine r_val (v := .int _ _) (v_move (.inl rfl) (noOwn_flat rfl)) rfl rfl (by decide) ?_
  refine r_val (v := .int _ _) (v_conv iss3 uni152 (.inl rfl) (fun _ => IntWalk.u64_in _ (by omega))) rfl rfl (by decide) ?_
  refine r_new (v := .int _ _) (q_call (vs := [.int _ _]) (args := [.int .u64 ((_ : Nat) : Int)]) hb152 ⟨.inl rfl, trivial⟩ rfl (fun hA => len_c _ (by omega)) rfl rfl) rfl rfl (by decide) ?_
  refine r_val (v := .int .u64 ((2 ^ bitsLen n : Nat) : Int)) ((v_shlu (m := 1) (.inl rfl) (.inl rfl) (fun _ => by omega)).cast (int_eq (congrArg Nat.cast (by rw [Nat.one_mul, Int.toNat_natCast]; exact Nat.mod_eq_of_lt (by omega))))) rfl rfl (by decide) ?_
  refine r_val (v := .int _ _) (v_assign (.inl rfl) (noOwn_flat rfl)) rfl rfl (by decide) ?_
  refine r_nil ?_
  refine a_ret ?_
  refine ret1 Try.results172 (by decide) (by decide) (Weak.of_eq (int_eq ?_)) rfl Leaves.nil
  rfl
end Go.Av
namespace Go.Av
open Go Go.Proofs Go.Sort
set_option maxRecDepth 10000
theorem hb172 : hasBody Try.prog 172 = true := by kernel_rfl
theorem hb173 : hasBody Try.prog 173 = true := by kernel_rfl
theorem iss152 : (Try.prog.underlying 152).isSome = true := by kernel_rfl
theorem uni167 : Try.prog.underlying 167 = some (.int .u64) := by kernel_rfl
theorem zc167 : zeroCells Try.prog 167 = some [.int .u64 0] := by kernel_rfl

theorem breakPatterns_c (f : Nat) (d : Array Int) (n a b : Nat) (hd : d.size = n) (hab : a < b ∧ b ≤ n) (hn : n ≤ 1152921504606846976) : ACall Try.prog 162 [.rsl (INH, []) 1 0 n none, .int .i64 ((a : Nat) : Int), .int .i64 ((b : Nat) : Int), .fn f [] []] [.osl 1 (acells d) n none] (.tup []) [.osl 1 (acells (breakPatterns d a b)) n none] := by
  have hbl : bitsLen (b - a) ≤ 61 := (bitsLen_le_iff _ _).2 (by omega)
  have hpw : 2 ^ bitsLen (b - a) ≤ 2 ^ 61 := Nat.pow_le_pow_right (by decide) hbl
  have hp0 : 0 < 2 ^ bitsLen (b - a) := Nat.two_pow_pos _
  refine ACall.intro Try.func162 rfl (N := 67) rfl (by decide) (by simp) ?_
  refine a_seq ?_
  refine a_region ?_
  refine r_val (v := .int _ _) (v_move (.inl rfl) (noOwn_flat rfl)) rfl rfl (by decide) ?_
  refine r_val (v := .int _ _) (v_move (.inl rfl) (noOwn_flat rfl)) rfl rfl (by decide) ?_
  refine r_val (v := .int .i64 ((b - a : Nat) : Int)) ((v_sub (.inl rfl) (.inl rfl) (fun _ => by omega)).cast (int_eq (by omega))) rfl rfl (by decide) ?_
  refine r_val (v := .int _ _) (v_assign (.inl rfl) (noOwn_flat rfl)) rfl rfl (by decide) ?_
  refine r_nil ?_
  refine a_seq ?_
  refine a_region ?_
  refine r_val (v := .int _ _) (v_move (.inl rfl) (noOwn_flat rfl)) rfl rfl (by decide) ?_
  refine r_val (v := .bool _) (v_geq (.inl rfl) (.inl rfl)) rfl rfl (by decide) ?_
  refine r_nil ?_
  refine a_cond rfl (fun ht17 => ?_) (fun ht17 => ?_)
  ·
    skip
    refine a_seq ?_
    have h8 : b - a ≥ 8 := (by simp at ht17; omega)
    refine a_region ?_
    refine r_val (v := .int _ _) (v_move (.inl rfl) (noOwn_flat rfl)) rfl rfl (by decide) ?_
    refine r_val (v := .int _ _) (v_conv iss3 uni167 (.inl rfl) (fun _ => IntWalk.u64_in _ (by omega))) rfl rfl (by decide) ?_
    refine r_new (v := .op [.int _ _]) (q_alloc zc167) rfl rfl (by decide) ?_
    refine r_step rfl (o_store (v := .int _ _) (y' := .op [.int _ _]) rfl rfl ta167 (.inl rfl) (.inl rfl) rfl rfl rfl rfl rfl rfl (Nat.le_of_ble_eq_true rfl) (by decide) rfl rfl) ?_
    refine r_nil ?_
    refine a_seq ?_
    refine a_region ?_
    refine r_val (v := .int _ _) (v_move (.inl rfl) (noOwn_flat rfl)) rfl rfl (by decide) ?_
    refine r_new (v := .int _ _) (q_call (vs := [.int _ _]) (args := [.int .i64 ((_ : Nat) : Int)]) hb172 ⟨.inl rfl, trivial⟩ rfl (fun hA => nextPow_c (b - a) (by omega)) rfl rfl) rfl rfl (by decide) ?_
    refine r_val (v := .int _ _) (v_assign (.inl rfl) (noOwn_flat rfl)) rfl rfl (by decide) ?_
    refine r_nil ?_
    refine a_seq ?_
    refine a_region ?_
    refine r_val (v := .int _ _) (v_move (.inl rfl) (noOwn_flat rfl)) rfl rfl (by decide) ?_
    refine r_val (v := .int _ _) (v_move (.inl rfl) (noOwn_flat rfl)) rfl rfl (by decide) ?_
    refine r_val (v := .int .i64 (((b - a) / 4 : Nat) : Int)) ((v_quo (.inl rfl) (.inl rfl) (fun _ => by omega)).cast (int_eq (by omega))) rfl rfl (by decide) ?_
    refine r_val (v := .int .i64 (((b - a) / 4 * 2 : Nat) : Int)) ((v_mul (.inl rfl) (.inl rfl) (fun _ => by omega)).cast (int_eq (by omega))) rfl rfl (by decide) ?_
    refine r_val (v := .int .i64 ((a + (b - a) / 4 * 2 : Nat) : Int)) ((v_add (.inl rfl) (.inl rfl) (fun _ => by omega)).cast (int_eq (by omega))) rfl rfl (by decide) ?_
    refine r_val (v := .int .i64 ((a + (b - a) / 4 * 2 - 1 : Nat) : Int)) ((v_sub (.inl rfl) (.inl rfl) (fun _ => by omega)).cast (int_eq (by omega))) rfl rfl (by decide) ?_
    refine r_val (v := .int _ _) (v_assign (.inl rfl) (noOwn_flat rfl)) rfl rfl (by decide) ?_
    refine r_nil ?_
    refine a_block ?_
    refine a_loop (X := (Nat × Nat × Array Int)) (fun x => look [(0, .rsl (INH, []) 1 0 n none), (1, .int .i64 ((a : Nat) : Int)), (8, .int .i64 ((b - a : Nat) : Int)), (9, .op [.int .u64 ((x.2.1 : Nat) : Int)]), (10, .int .u64 ((2 ^ bitsLen (b - a) : Nat) : Int)), (11, .int .i64 (((a + (b - a) / 4 * 2 - 1 + x.1) : Nat) : Int)), (INH, .osl 1 (acells x.2.2) n none)]) (fun x => x.1 ≤ 3 ∧ x.2.1 < 18446744073709551616 ∧ x.2.2.size = n ∧ bpN a (b - a) (3 - x.1) (a + (b - a) / 4 * 2 - 1 + x.1) x.2.1 x.2.2 = breakPatterns d a b) (fun x => 3 - x.1) (0, b - a, d) (ent_look ⟨Weak.of_eq rfl, Weak.of_eq rfl, Weak.of_eq rfl, Weak.of_eq rfl, Weak.of_eq rfl, Weak.of_eq (int_eq (by dsimp only; omega)), Weak.of_eq rfl, trivial⟩) ⟨by dsimp only; omega, by dsimp only; omega, hd, (bp_eq h8 (by omega)).symm⟩ (fun x hG => ?_)
    obtain ⟨g1, g2, g3, g4⟩ := hG
    refine a_seq ?_
    refine a_seq ?_
    refine a_region ?_
    refine r_val (v := .int _ _) (v_move (.inl rfl) (noOwn_flat rfl)) rfl rfl (by decide) ?_
    refine r_val (v := .int _ _) (v_move (.inl rfl) (noOwn_flat rfl)) rfl rfl (by decide) ?_
    refine r_val (v := .int _ _) (v_move (.inl rfl) (noOwn_flat rfl)) rfl rfl (by decide) ?_
    refine r_val (v := .int .i64 (((b - a) / 4 : Nat) : Int)) ((v_quo (.inl rfl) (.inl rfl) (fun _ => by omega)).cast (int_eq (by omega))) rfl rfl (by decide) ?_
    refine r_val (v := .int .i64 (((b - a) / 4 * 2 : Nat) : Int)) ((v_mul (.inl rfl) (.inl rfl) (fun _ => by omega)).cast (int_eq (by omega))) rfl rfl (by decide) ?_
    refine r_val (v := .int .i64 ((a + (b - a) / 4 * 2 : Nat) : Int)) ((v_add (.inl rfl) (.inl rfl) (fun _ => by omega)).cast (int_eq (by omega))) rfl rfl (by decide) ?_
    refine r_val (v := .int .i64 ((a + (b - a) / 4 * 2 + 1 : Nat) : Int)) ((v_add (.inl rfl) (.inl rfl) (fun _ => by omega)).cast (int_eq (by omega))) rfl rfl (by decide) ?_
    refine r_val (v := .bool _) (v_leq (.inl rfl) (.inl rfl)) rfl rfl (by decide) ?_
    refine r_nil ?_
    refine a_cond rfl (fun ht35 => ?_) (fun ht35 => ?_)
    ·
      skip
      refine a_skip ?_
      refine a_seq ?_
      refine a_block ?_
      refine a_seq ?_
      have hx3 : x.1 < 3 := (by simp at ht35; omega)
      have hmk : xorNextN x.2.1 &&& (2 ^ bitsLen (b - a) - 1) ≤ 2 ^ bitsLen (b - a) - 1 := Nat.and_le_right
      have hnx := xorNextN_lt _ g2
      have hbo := bpO_lt (L := b - a) (r := x.2.1) (by omega)
      refine a_region ?_
      refine r_step rfl (o_callIOp (q := (9, [])) (vs := [.rp _ _]) (args := [.rp (INH, []) _]) (cs0 := [.int _ _]) (cs1 := [.int _ _]) (res := .int _ _) rfl hb173 rfl (by decide) ⟨.inl rfl, trivial⟩ rfl rfl (next_c x.2.1 g2) rfl rfl rfl rfl rfl (Nat.le_of_ble_eq_true rfl) (by decide) rfl) ?_
      refine r_val (v := .int _ _) (v_move (.inl rfl) (noOwn_flat rfl)) rfl rfl (by decide) ?_
      refine r_val (v := .int .u64 ((2 ^ bitsLen (b - a) - 1 : Nat) : Int)) ((v_subu (.inl rfl) (.inl rfl) (fun _ => by omega)).cast (int_eq (by omega))) rfl rfl (by decide) ?_
      refine r_val (v := .int _ _) (v_andn (.inl rfl) (.inl rfl) (fun _ => by omega)) rfl rfl (by decide) ?_
      refine r_val (v := .int _ _) (v_conv iss152 uni3 (.inl rfl) (fun _ => IntWalk.i64_in _ (by omega))) rfl rfl (by decide) ?_
      refine r_val (v := .int _ _) (v_assign (.inl rfl) (noOwn_flat rfl)) rfl rfl (by decide) ?_
      refine r_nil ?_
      refine a_seq ?_
      refine a_seq ?_
      refine a_region ?_
      refine r_val (v := .int _ _) (v_move (.inl rfl) (noOwn_flat rfl)) rfl rfl (by decide) ?_
      refine r_val (v := .int _ _) (v_move (.inl rfl) (noOwn_flat rfl)) rfl rfl (by decide) ?_
      refine r_val (v := .bool _) (v_geq (.inl rfl) (.inl rfl)) rfl rfl (by decide) ?_
      refine r_nil ?_
      refine a_cond rfl (fun ht45 => ?_) (fun ht45 => ?_)
      ·
        skip
        refine a_region ?_
        refine r_val (v := .int _ _) (v_move (.inl rfl) (noOwn_flat rfl)) rfl rfl (by decide) ?_
        refine r_val (v := .int _ _) (v_move (.inl rfl) (noOwn_flat rfl)) rfl rfl (by decide) ?_
        refine r_val (v := .int _ _) (v_sub (.inl rfl) (.inl rfl) (fun _ => by omega)) rfl rfl (by decide) ?_
        refine r_val (v := .int _ _) (v_assign (.inl rfl) (noOwn_flat rfl)) rfl rfl (by decide) ?_
        refine r_nil ?_
        refine a_pre (ent_eq (t := 12) (v' := .int .i64 ((bpO (b - a) x.2.1 : Nat) : Int)) (Weak.of_eq (int_eq (by first | (have h45 := of_decide_eq_true ht45; rw [show bpO (b - a) x.2.1 = (xorNextN x.2.1 &&& (2 ^ bitsLen (b - a) - 1)) - (b - a) from if_pos (by omega)]; omega) | (have h45 := of_decide_eq_false ht45; rw [show bpO (b - a) x.2.1 = (xorNextN x.2.1 &&& (2 ^ bitsLen (b - a) - 1)) from if_neg (by omega)]))))) ?_
        have hp1 : (a + (b - a) / 4 * 2 - 1 + x.1) * 1 + 1 ≤ (acells x.2.2).length := (by rw [acells_length]; omega)
        have hp2 : (a + bpO (b - a) x.2.1) * 1 + 1 ≤ ((acells x.2.2).set ((a + (b - a) / 4 * 2 - 1 + x.1) * 1) (.int .i64 x.2.2[(a + bpO (b - a) x.2.1)]!)).length := (by rw [List.length_set, acells_length]; omega)
        have hset : ((acells x.2.2).set ((a + (b - a) / 4 * 2 - 1 + x.1) * 1) (.int .i64 x.2.2[(a + bpO (b - a) x.2.1)]!)).set ((a + bpO (b - a) x.2.1) * 1) (.int .i64 x.2.2[(a + (b - a) / 4 * 2 - 1 + x.1)]!) = acells (swp x.2.2 (a + (b - a) / 4 * 2 - 1 + x.1) (a + bpO (b - a) x.2.1)) := (by rw [Nat.mul_one, Nat.mul_one]; exact acells_swp _ _ _)
        refine a_region_w [(49, true), (50, true), (51, true), (52, true), (53, true), (54, true), (55, true), (56, true), (57, true), (58, true), (59, true), (60, true), (61, true), (62, true), (63, true), (64, true), (65, true), (INH, false), (66, true), (INH, false)] mixed (by kernel_rfl) ?_
        refine w_val (v := .rsl _ _ _ _ _) (v_move (.inl rfl) (noOwn_flat rfl)) rfl rfl (by decide) rfl (by kernel_rfl) ?_
        refine w_val (v := .int _ _) (v_move (.inl rfl) (noOwn_flat rfl)) rfl rfl (by decide) rfl (by kernel_rfl) ?_
        refine w_val (v := .rsl _ _ _ _ _) (v_move (.inl rfl) (noOwn_flat rfl)) rfl rfl (by decide) rfl (by kernel_rfl) ?_
        refine w_val (v := .int _ _) (v_move (.inl rfl) (noOwn_flat rfl)) rfl rfl (by decide) rfl (by kernel_rfl) ?_
        refine w_val (v := .int _ _) (v_move (.inl rfl) (noOwn_flat rfl)) rfl rfl (by decide) rfl (by kernel_rfl) ?_
        refine w_val (v := .int .i64 (((a + bpO (b - a) x.2.1) : Nat) : Int)) ((v_add (.inl rfl) (.inl rfl) (fun _ => by omega)).cast (int_eq (by omega))) rfl rfl (by decide) rfl (by kernel_rfl) ?_
        refine w_val (v := .rsl _ _ _ _ _) (v_move (.inl rfl) (noOwn_flat rfl)) rfl rfl (by decide) rfl (by kernel_rfl) ?_
        refine w_val (v := .int _ _) (v_move (.inl rfl) (noOwn_flat rfl)) rfl rfl (by decide) rfl (by kernel_rfl) ?_
        refine w_val (v := .int _ _) (v_move (.inl rfl) (noOwn_flat rfl)) rfl rfl (by decide) rfl (by kernel_rfl) ?_
        refine w_val (v := .int .i64 (((a + bpO (b - a) x.2.1) : Nat) : Int)) ((v_add (.inl rfl) (.inl rfl) (fun _ => by omega)).cast (int_eq (by omega))) rfl rfl (by decide) rfl (by kernel_rfl) ?_
        refine w_val (v := .rp _ _) (v_indexAddr_rsl0 es25 (.inl rfl) (.inl rfl) (fun _ => by omega)) rfl rfl (by decide) rfl (by kernel_rfl) ?_
        refine w_val (v := .int .i64 x.2.2[(a + bpO (b - a) x.2.1)]!) (v_load_rp1 ta3 (.inl rfl) rfl (fun _ => by rw [Nat.mul_one]; exact acells_get (by omega)) rfl) rfl rfl (by decide) rfl (by kernel_rfl) ?_
        refine w_val (v := .rsl _ _ _ _ _) (v_move (.inl rfl) (noOwn_flat rfl)) rfl rfl (by decide) rfl (by kernel_rfl) ?_
        refine w_val (v := .int _ _) (v_move (.inl rfl) (noOwn_flat rfl)) rfl rfl (by decide) rfl (by kernel_rfl) ?_
        refine w_val (v := .rp _ _) (v_indexAddr_rsl0 es25 (.inl rfl) (.inl rfl) (fun _ => by omega)) rfl rfl (by decide) rfl (by kernel_rfl) ?_
        refine w_val (v := .int .i64 x.2.2[(a + (b - a) / 4 * 2 - 1 + x.1)]!) (v_load_rp1 ta3 (.inl rfl) rfl (fun _ => by rw [Nat.mul_one]; exact acells_get (by omega)) rfl) rfl rfl (by decide) rfl (by kernel_rfl) ?_
        refine w_val (v := .rp _ _) (v_indexAddr_rsl0 es25 (.inl rfl) (.inl rfl) (fun _ => by omega)) rfl rfl (by decide) rfl (by kernel_rfl) ?_
        refine w_store (v := .int _ _) (y' := .osl _ _ _ _) rfl rfl rfl ta3 (.inl rfl) (.inl rfl) rfl rfl rfl rfl rfl rfl hp1 (by decide) rfl rfl rfl (by kernel_rfl) ?_
        refine w_val (v := .rp _ _) (v_indexAddr_rsl0 es25 (.inl rfl) (.inl rfl) (fun _ => by omega)) rfl rfl (by decide) rfl (by kernel_rfl) ?_
        refine w_store (v := .int _ _) (y' := .osl _ _ _ _) rfl rfl rfl ta3 (.inl rfl) (.inl rfl) rfl rfl rfl rfl rfl rfl hp2 (by decide) rfl (congrArg (fun c => AV.osl 1 c n none) hset) rfl (by kernel_rfl) ?_
        refine w_nil ?_
        refine a_pre (ent_look (L := [(0, .rsl _ _ _ _ _), (1, .int _ _), (8, .int _ _), (9, .op [.int _ _]), (10, .int _ _), (11, .int _ _), (INH, .osl _ _ _ _)]) ⟨Weak.rfl, Weak.rfl, Weak.rfl, Weak.rfl, Weak.rfl, Weak.rfl, Weak.rfl, trivial⟩) ?_
        refine a_region ?_
        refine r_val (v := .int _ _) (v_move (.inl rfl) (noOwn_flat rfl)) rfl rfl (by decide) ?_
        refine r_val (v := .int _ _) (v_add (.inl rfl) (.inl rfl) (fun _ => by omega)) rfl rfl (by decide) ?_
        refine r_val (v := .int _ _) (v_assign (.inl rfl) (noOwn_flat rfl)) rfl rfl (by decide) ?_
        refine r_nil ?_
        refine ⟨(x.1 + 1, xorNextN x.2.1, swp x.2.2 (a + (b - a) / 4 * 2 - 1 + x.1) (a + bpO (b - a) x.2.1)), ent_look ⟨Weak.of_eq rfl, Weak.of_eq rfl, Weak.of_eq rfl, Weak.of_eq rfl, Weak.of_eq rfl, Weak.of_eq (int_eq (by dsimp only; omega)), Weak.of_eq rfl, trivial⟩, ⟨by dsimp only; omega, xorNextN_lt _ g2, by rw [swp_size]; exact g3, by rw [← g4, show 3 - x.1 = (3 - (x.1 + 1)) + 1 by omega]; rfl⟩, by dsimp only; omega⟩
      ·
        skip
        refine a_skip ?_
        refine a_pre (ent_eq (t := 12) (v' := .int .i64 ((bpO (b - a) x.2.1 : Nat) : Int)) (Weak.of_eq (int_eq (by first | (have h45 := of_decide_eq_true ht45; rw [show bpO (b - a) x.2.1 = (xorNextN x.2.1 &&& (2 ^ bitsLen (b - a) - 1)) - (b - a) from if_pos (by omega)]; omega) | (have h45 := of_decide_eq_false ht45; rw [show bpO (b - a) x.2.1 = (xorNextN x.2.1 &&& (2 ^ bitsLen (b - a) - 1)) from if_neg (by omega)]))))) ?_
        have hp1 : (a + (b - a) / 4 * 2 - 1 + x.1) * 1 + 1 ≤ (acells x.2.2).length := (by rw [acells_length]; omega)
        have hp2 : (a + bpO (b - a) x.2.1) * 1 + 1 ≤ ((acells x.2.2).set ((a + (b - a) / 4 * 2 - 1 + x.1) * 1) (.int .i64 x.2.2[(a + bpO (b - a) x.2.1)]!)).length := (by rw [List.length_set, acells_length]; omega)
        have hset : ((acells x.2.2).set ((a + (b - a) / 4 * 2 - 1 + x.1) * 1) (.int .i64 x.2.2[(a + bpO (b - a) x.2.1)]!)).set ((a + bpO (b - a) x.2.1) * 1) (.int .i64 x.2.2[(a + (b - a) / 4 * 2 - 1 + x.1)]!) = acells (swp x.2.2 (a + (b - a) / 4 * 2 - 1 + x.1) (a + bpO (b - a) x.2.1)) := (by rw [Nat.mul_one, Nat.mul_one]; exact acells_swp _ _ _)
        refine a_region_w [(49, true), (50, true), (51, true), (52, true), (53, true), (54, true), (55, true), (56, true), (57, true), (58, true), (59, true), (60, true), (61, true), (62, true), (63, true), (64, true), (65, true), (INH, false), (66, true), (INH, false)] mixed (by kernel_rfl) ?_
        refine w_val (v := .rsl _ _ _ _ _) (v_move (.inl rfl) (noOwn_flat rfl)) rfl rfl (by decide) rfl (by kernel_rfl) ?_
        refine w_val (v := .int _ _) (v_move (.inl rfl) (noOwn_flat rfl)) rfl rfl (by decide) rfl (by kernel_rfl) ?_
        refine w_val (v := .rsl _ _ _ _ _) (v_move (.inl rfl) (noOwn_flat rfl)) rfl rfl (by decide) rfl (by kernel_rfl) ?_
        refine w_val (v := .int _ _) (v_move (.inl rfl) (noOwn_flat rfl)) rfl rfl (by decide) rfl (by kernel_rfl) ?_
        refine w_val (v := .int _ _) (v_move (.inl rfl) (noOwn_flat rfl)) rfl rfl (by decide) rfl (by kernel_rfl) ?_
        refine w_val (v := .int .i64 (((a + bpO (b - a) x.2.1) : Nat) : Int)) ((v_add (.inl rfl) (.inl rfl) (fun _ => by omega)).cast (int_eq (by omega))) rfl rfl (by decide) rfl (by kernel_rfl) ?_
        refine w_val (v := .rsl _ _ _ _ _) (v_move (.inl rfl) (noOwn_flat rfl)) rfl rfl (by decide) rfl (by kernel_rfl) ?_
        refine w_val (v := .int _ _) (v_move (.inl rfl) (noOwn_flat rfl)) rfl rfl (by decide) rfl (by kernel_rfl) ?_
        refine w_val (v := .int _ _) (v_move (.inl rfl) (noOwn_flat rfl)) rfl rfl (by decide) rfl (by kernel_rfl) ?_
        refine w_val (v := .int .i64 (((a + bpO (b - a) x.2.1) : Nat) : Int)) ((v_add (.inl rfl) (.inl rfl) (fun _ => by omega)).cast (int_eq (by omega))) rfl rfl (by decide) rfl (by kernel_rfl) ?_
        refine w_val (v := .rp _ _) (v_indexAddr_rsl0 es25 (.inl rfl) (.inl rfl) (fun _ => by omega)) rfl rfl (by decide) rfl (by kernel_rfl) ?_
        refine w_val (v := .int .i64 x.2.2[(a + bpO (b - a) x.2.1)]!) (v_load_rp1 ta3 (.inl rfl) rfl (fun _ => by rw [Nat.mul_one]; exact acells_get (by omega)) rfl) rfl rfl (by decide) rfl (by kernel_rfl) ?_
        refine w_val (v := .rsl _ _ _ _ _) (v_move (.inl rfl) (noOwn_flat rfl)) rfl rfl (by decide) rfl (by kernel_rfl) ?_
        refine w_val (v := .int _ _) (v_move (.inl rfl) (noOwn_flat rfl)) rfl rfl (by decide) rfl (by kernel_rfl) ?_
        refine w_val (v := .rp _ _) (v_indexAddr_rsl0 es25 (.inl rfl) (.inl rfl) (fun _ => by omega)) rfl rfl (by decide) rfl (by kernel_rfl) ?_
        refine w_val (v := .int .i64 x.2.2[(a + (b - a) / 4 * 2 - 1 + x.1)]!) (v_load_rp1 ta3 (.inl rfl) rfl (fun _ => by rw [Nat.mul_one]; exact acells_get (by omega)) rfl) rfl rfl (by decide) rfl (by kernel_rfl) ?_
        refine w_val (v := .rp _ _) (v_indexAddr_rsl0 es25 (.inl rfl) (.inl rfl) (fun _ => by omega)) rfl rfl (by decide) rfl (by kernel_rfl) ?_
        refine w_store (v := .int _ _) (y' := .osl _ _ _ _) rfl rfl rfl ta3 (.inl rfl) (.inl rfl) rfl rfl rfl rfl rfl rfl hp1 (by decide) rfl rfl rfl (by kernel_rfl) ?_
        refine w_val (v := .rp _ _) (v_indexAddr_rsl0 es25 (.inl rfl) (.inl rfl) (fun _ => by omega)) rfl rfl (by decide) rfl (by kernel_rfl) ?_
        refine w_store (v := .int _ _) (y' := .osl _ _ _ _) rfl rfl rfl ta3 (.inl rfl) (.inl rfl) rfl rfl rfl rfl rfl rfl hp2 (by decide) rfl (congrArg (fun c => AV.osl 1 c n none) hset) rfl (by kernel_rfl) ?_
        refine w_nil ?_
        refine a_pre (ent_look (L := [(0, .rsl _ _ _ _ _), (1, .int _ _), (8, .int _ _), (9, .op [.int _ _]), (10, .int _ _), (11, .int _ _), (INH, .osl _ _ _ _)]) ⟨Weak.rfl, Weak.rfl, Weak.rfl, Weak.rfl, Weak.rfl, Weak.rfl, Weak.rfl, trivial⟩) ?_
        refine a_region ?_
        refine r_val (v := .int _ _) (v_move (.inl rfl) (noOwn_flat rfl)) rfl rfl (by decide) ?_
        refine r_val (v := .int _ _) (v_add (.inl rfl) (.inl rfl) (fun _ => by omega)) rfl rfl (by decide) ?_
        refine r_val (v := .int _ _) (v_assign (.inl rfl) (noOwn_flat rfl)) rfl rfl (by decide) ?_
        refine r_nil ?_
        refine ⟨(x.1 + 1, xorNextN x.2.1, swp x.2.2 (a + (b - a) / 4 * 2 - 1 + x.1) (a + bpO (b - a) x.2.1)), ent_look ⟨Weak.of_eq rfl, Weak.of_eq rfl, Weak.of_eq rfl, Weak.of_eq rfl, Weak.of_eq rfl, Weak.of_eq (int_eq (by dsimp only; omega)), Weak.of_eq rfl, trivial⟩, ⟨by dsimp only; omega, xorNextN_lt _ g2, by rw [swp_size]; exact g3, by rw [← g4, show 3 - x.1 = (3 - (x.1 + 1)) + 1 by omega]; rfl⟩, by dsimp only; omega⟩
    ·
      skip
      refine a_exit ?_
      refine ret0_look Try.results162 (by decide) ?_ rfl
      exact Weak.of_eq (osl_eq (by rw [← g4, show 3 - x.1 = 0 by simp at ht35; omega]; rfl))
  ·
    skip
    refine a_skip ?_
    refine ret0_look Try.results162 (by decide) ?_ rfl
    exact Weak.of_eq (osl_eq (by unfold breakPatterns; simp only []; rw [if_neg (by simp at ht17; omega)]))
end Go.Av
namespace Go.Av
open Go Go.Proofs Go.Sort
set_option maxRecDepth 10000
theorem hb151 : hasBody Try.prog 151 = true := by kernel_rfl
theorem hb160 : hasBody Try.prog 160 = true := by kernel_rfl
theorem hb161 : hasBody Try.prog 161 = true := by kernel_rfl
theorem hb162 : hasBody Try.prog 162 = true := by kernel_rfl
theorem hb163 : hasBody Try.prog 163 = true := by kernel_rfl
theorem hb164 : hasBody Try.prog 164 = true := by kernel_rfl
theorem hb165 : hasBody Try.prog 165 = true := by kernel_rfl
theorem hb166 : hasBody Try.prog 166 = true := by kernel_rfl
theorem hb167 : hasBody Try.prog 167 = true := by kernel_rfl

theorem pdq_step (f : Nat) (hb : hasBody Try.prog f = true) (cf : Int → Int → Int) (hc : ∀ x y, ACall Try.prog f [.int .i64 x, .int .i64 y] [] (.int .i64 (cf x y)) []) (hS : SWO (ltc cf)) (n N : Nat) (hn : n ≤ 1152921504606846976) (ih : ∀ (d' : Array Int) (a' b' l' : Nat), d'.size = n → a' ≤ b' → b' ≤ n → b' - a' < N → l' ≤ 100 → Below (ltc cf) a' b' d' → ACall Try.prog 151 [.rsl (INH, []) 1 0 n none, .int .i64 ((a' : Nat) : Int), .int .i64 ((b' : Nat) : Int), .int .i64 ((l' : Nat) : Int), .fn f [] []] [.osl 1 (acells d') n none] (.tup []) [.osl 1 (acells (pdq (ltc cf) d' a' b' l' true true)) n none]) (d : Array Int) (a b limit : Nat) (hd : d.size = n) (hab : a ≤ b ∧ b ≤ n ∧ b - a ≤ N ∧ limit ≤ 100) (hB : Below (ltc cf) a b d)  : ACall Try.prog 151 [.rsl (INH, []) 1 0 n none, .int .i64 ((a : Nat) : Int), .int .i64 ((b : Nat) : Int), .int .i64 ((limit : Nat) : Int), .fn f [] []] [.osl 1 (acells d) n none] (.tup []) [.osl 1 (acells (pdq (ltc cf) d a b limit true true)) n none] := by
  refine ACall.intro Try.func151 rfl (N := 148) rfl (by decide) (by simp) ?_
  refine a_seq ?_
  refine a_region ?_
  refine r_val (v := .bool _) (v_assign (.inl rfl) (noOwn_flat rfl)) rfl rfl (by decide) ?_
  refine r_nil ?_
  refine a_seq ?_
  refine a_region ?_
  refine r_val (v := .bool _) (v_assign (.inl rfl) (noOwn_flat rfl)) rfl rfl (by decide) ?_
  refine r_nil ?_
  refine a_block ?_
  refine a_loop (X := PS) (fun x => look [(0, .rsl (INH, []) 1 0 n none), (1, .int .i64 ((x.a : Nat) : Int)), (2, .int .i64 ((x.b : Nat) : Int)), (3, .int .i64 ((x.lim : Nat) : Int)), (4, .fn f [] []), (10, .bool x.wb), (11, .bool x.wp), (INH, .osl 1 (acells x.d) n none)]) (fun x => PInv (ltc cf) n N (pdq (ltc cf) d a b limit true true) x) (fun x => x.b - x.a) ⟨a, b, limit, true, true, d⟩ (ent_look ⟨Weak.of_eq rfl, Weak.of_eq rfl, Weak.of_eq rfl, Weak.of_eq rfl, Weak.of_eq rfl, Weak.of_eq rfl, Weak.of_eq rfl, Weak.of_eq rfl, trivial⟩) ⟨hab.1, hab.2.1, hab.2.2.1, hab.2.2.2, hd, hB, rfl⟩ (fun x hG => ?_)
  have hP := hG
  obtain ⟨g1, g2, g3, g4, g5, g6, g7⟩ := hG
  refine a_block ?_
  refine a_seq ?_
  refine a_region ?_
  refine r_val (v := .int _ _) (v_move (.inl rfl) (noOwn_flat rfl)) rfl rfl (by decide) ?_
  refine r_val (v := .int _ _) (v_move (.inl rfl) (noOwn_flat rfl)) rfl rfl (by decide) ?_
  refine r_val (v := .int .i64 ((x.b - x.a : Nat) : Int)) ((v_sub (.inl rfl) (.inl rfl) (fun _ => by omega)).cast (int_eq (by omega))) rfl rfl (by decide) ?_
  refine r_val (v := .int _ _) (v_assign (.inl rfl) (noOwn_flat rfl)) rfl rfl (by decide) ?_
  refine r_nil ?_
  refine a_seq ?_
  refine a_seq ?_
  refine a_region ?_
  refine r_val (v := .int _ _) (v_move (.inl rfl) (noOwn_flat rfl)) rfl rfl (by decide) ?_
  refine r_val (v := .bool _) (v_leq (.inl rfl) (.inl rfl)) rfl rfl (by decide) ?_
  refine r_nil ?_
  refine a_cond rfl (fun ht25 => ?_) (fun ht25 => ?_)
  ·
    skip
    refine a_seq ?_
    have h12 : x.b - x.a ≤ 12 := (by simp at ht25; omega)
    refine a_region ?_
    refine r_val (v := .rsl _ _ _ _ _) (v_move (.inl rfl) (noOwn_flat rfl)) rfl rfl (by decide) ?_
    refine r_val (v := .int _ _) (v_move (.inl rfl) (noOwn_flat rfl)) rfl rfl (by decide) ?_
    refine r_val (v := .int _ _) (v_move (.inl rfl) (noOwn_flat rfl)) rfl rfl (by decide) ?_
    refine r_val (v := .fn _ _ _) (v_mv rfl) rfl rfl (by decide) ?_
    refine r_step rfl (o_callIO (q := (INH, [])) (vs := [.rsl _ _ _ _ _, .int _ _, .int _ _, .fn _ _ _]) (args := [.rsl (INH, []) _ _ _ _, .int .i64 _, .int .i64 _, .fn _ _ _]) (x0 := .osl _ _ _ _) (x1 := .osl _ _ _ _) (res := .tup []) rfl hb160 rfl (by decide) ⟨.inl rfl, .inl rfl, .inl rfl, .inl rfl, trivial⟩ rfl rfl (insertion_c f hb cf hc x.d n x.a x.b g5 (by omega) (by omega)) rfl rfl rfl (ac_noSh _) (ac_noRef _) (Nat.le_of_ble_eq_true rfl) (by decide) rfl) ?_
    refine r_nil ?_
    refine a_ret ?_
    refine ret0_look Try.results151 (by decide) ?_ rfl
    exact Weak.of_eq (osl_eq (by rw [← g7, pdq_small h12]))
  ·
    skip
    refine a_skip ?_
    refine a_seq ?_
    refine a_seq ?_
    refine a_region ?_
    refine r_val (v := .int _ _) (v_move (.inl rfl) (noOwn_flat rfl)) rfl rfl (by decide) ?_
    refine r_val (v := .bool _) (v_eql (.inl rfl) (.inl rfl)) rfl rfl (by decide) ?_
    refine r_nil ?_
    refine a_cond rfl (fun ht32 => ?_) (fun ht32 => ?_)
    ·
      skip
      refine a_seq ?_
      have h12 : ¬ x.b - x.a ≤ 12 := (by simp at ht25; omega)
      have h0 : x.lim = 0 := (by simp at ht32; omega)
      refine a_region ?_
      refine r_val (v := .rsl _ _ _ _ _) (v_move (.inl rfl) (noOwn_flat rfl)) rfl rfl (by decide) ?_
      refine r_val (v := .int _ _) (v_move (.inl rfl) (noOwn_flat rfl)) rfl rfl (by decide) ?_
      refine r_val (v := .int _ _) (v_move (.inl rfl) (noOwn_flat rfl)) rfl rfl (by decide) ?_
      refine r_val (v := .fn _ _ _) (v_mv rfl) rfl rfl (by decide) ?_
      refine r_step rfl (o_callIOk (q := (INH, [])) (vs := [.rsl _ _ _ _ _, .int _ _, .int _ _, .fn _ _ _]) (args := [.rsl (INH, []) _ _ _ _, .int .i64 _, .int .i64 _, .fn _ _ _]) (x0 := .osl _ _ _ _) (x1 := .osl _ _ _ _) (res := .tup []) rfl hb161 rfl (by decide) ⟨.inl rfl, .inl rfl, .inl rfl, .inl rfl, trivial⟩ rfl rfl (heapSort_c f hb cf hc x.d n x.a x.b g5 (by omega) hn) (by simp [stays]; omega) rfl rfl rfl (ac_noSh _) (ac_noRef _) (Nat.le_of_ble_eq_true rfl) (by decide) rfl) ?_
      refine r_nil ?_
      refine a_ret ?_
      refine ret0_look Try.results151 (by decide) ?_ rfl
      exact Weak.of_eq (osl_eq (by rw [← g7, pdq_heap h12 h0]))
    ·
      skip
      refine a_skip ?_
      refine a_join (X := Unit) (fun _u => look [(0, .rsl (INH, []) 1 0 n none), (1, .int .i64 ((x.a : Nat) : Int)), (2, .int .i64 ((x.b : Nat) : Int)), (3, .int .i64 (((x.rd (ltc cf)).lim : Nat) : Int)), (4, .fn f [] []), (10, .bool x.wb), (11, .bool x.wp), (12, .int .i64 ((x.b - x.a : Nat) : Int)), (INH, .osl 1 (acells (x.rd (ltc cf)).d1) n none)]) (fun _u => True) ?_ (fun _u hJ => ?_)
      ·
        skip
        refine a_seq ?_
        have h12 : ¬ x.b - x.a ≤ 12 := (by simp at ht25; omega)
        have h0 : ¬ x.lim = 0 := (by simp at ht32; omega)
        have hf := hP.facts hS h12
        refine a_region ?_
        refine r_val (v := .bool _) (v_move (.inl rfl) (noOwn_flat rfl)) rfl rfl (by decide) ?_
        refine r_val (v := .bool _) (v_not (.inl rfl)) rfl rfl (by decide) ?_
        refine r_nil ?_
        refine a_cond rfl (fun ht39 => ?_) (fun ht39 => ?_)
        ·
          skip
          refine a_seq ?_
          refine a_region ?_
          refine r_val (v := .rsl _ _ _ _ _) (v_move (.inl rfl) (noOwn_flat rfl)) rfl rfl (by decide) ?_
          refine r_val (v := .int _ _) (v_move (.inl rfl) (noOwn_flat rfl)) rfl rfl (by decide) ?_
          refine r_val (v := .int _ _) (v_move (.inl rfl) (noOwn_flat rfl)) rfl rfl (by decide) ?_
          refine r_val (v := .fn _ _ _) (v_mv rfl) rfl rfl (by decide) ?_
          refine r_step rfl (o_callIOk (q := (INH, [])) (vs := [.rsl _ _ _ _ _, .int _ _, .int _ _, .fn _ _ _]) (args := [.rsl (INH, []) _ _ _ _, .int .i64 _, .int .i64 _, .fn _ _ _]) (x0 := .osl _ _ _ _) (x1 := .osl _ _ _ _) (res := .tup []) rfl hb162 rfl (by decide) ⟨.inl rfl, .inl rfl, .inl rfl, .inl rfl, trivial⟩ rfl rfl (breakPatterns_c f x.d n x.a x.b g5 (by omega) hn) (by simp [stays]; omega) rfl rfl rfl (ac_noSh _) (ac_noRef _) (Nat.le_of_ble_eq_true rfl) (by decide) rfl) ?_
          refine r_nil ?_
          refine a_region ?_
          refine r_val (v := .int _ _) (v_move (.inl rfl) (noOwn_flat rfl)) rfl rfl (by decide) ?_
          refine r_val (v := .int _ _) (v_sub (.inl rfl) (.inl rfl) (fun _ => by omega)) rfl rfl (by decide) ?_
          refine r_val (v := .int _ _) (v_assign (.inl rfl) (noOwn_flat rfl)) rfl rfl (by decide) ?_
          refine r_nil ?_
          have hw : x.wb = false := (by simpa using ht39)
          have hl := (rdF (lt := (ltc cf)) hw)
          exact ⟨(), ent_look ⟨Weak.of_eq rfl, Weak.of_eq rfl, Weak.of_eq rfl, Weak.of_eq (int_eq (by have := hl.1; omega)), Weak.of_eq rfl, Weak.of_eq rfl, Weak.of_eq rfl, Weak.of_eq rfl, Weak.of_eq (osl_eq (by rw [hl.2])), trivial⟩, trivial⟩
        ·
          skip
          refine a_skip ?_
          have hw : x.wb = true := (by simpa using ht39)
          have hl := (rdT (lt := (ltc cf)) hw)
          exact ⟨(), ent_look ⟨Weak.of_eq rfl, Weak.of_eq rfl, Weak.of_eq rfl, Weak.of_eq (int_eq (by have := hl.1; omega)), Weak.of_eq rfl, Weak.of_eq rfl, Weak.of_eq rfl, Weak.of_eq rfl, Weak.of_eq (osl_eq (by rw [hl.2])), trivial⟩, trivial⟩
      ·
        skip
        have h12 : ¬ x.b - x.a ≤ 12 := (by simp at ht25; omega)
        have h0 : ¬ x.lim = 0 := (by simp at ht32; omega)
        have hf := hP.facts hS h12
        refine a_seq ?_
        refine a_region ?_
        refine r_val (v := .rsl _ _ _ _ _) (v_move (.inl rfl) (noOwn_flat rfl)) rfl rfl (by decide) ?_
        refine r_val (v := .int _ _) (v_move (.inl rfl) (noOwn_flat rfl)) rfl rfl (by decide) ?_
        refine r_val (v := .int _ _) (v_move (.inl rfl) (noOwn_flat rfl)) rfl rfl (by decide) ?_
        refine r_val (v := .fn _ _ _) (v_mv rfl) rfl rfl (by decide) ?_
        refine r_new (v := .tup [.int _ _, .int _ _]) (q_call (vs := [.rsl _ _ _ _ _, .int _ _, .int _ _, .fn _ _ _]) (args := [.sl _ _, .int .i64 _, .int .i64 _, .fn _ _ _]) hb163 ⟨.inl rfl, .inl rfl, .inl rfl, .inl rfl, trivial⟩ (l4_eq (sl_sh (ac_pure _)) rfl rfl rfl) (fun hA => choosePivot_c f hb cf hc _ n x.a x.b hf.1 (by omega) hn) rfl rfl) rfl rfl (by decide) ?_
        refine r_val (v := .tup [.int _ _, .int _ _]) (v_mv rfl) rfl rfl (by decide) ?_
        refine r_val (v := .int .i64 (((x.rd (ltc cf)).c.1 : Nat) : Int)) ((v_extract rfl rfl).cast (int_eq rfl)) rfl rfl (by decide) ?_
        refine r_val (v := .int .i64 ((hintN (x.rd (ltc cf)).c.2 : Nat) : Int)) ((v_extract rfl rfl).cast (int_eq rfl)) rfl rfl (by decide) ?_
        refine r_val (v := .int _ _) (v_assign (.inl rfl) (noOwn_flat rfl)) rfl rfl (by decide) ?_
        refine r_val (v := .int _ _) (v_assign (.inl rfl) (noOwn_flat rfl)) rfl rfl (by decide) ?_
        refine r_nil ?_
        refine a_join (X := Unit) (fun _u => look [(0, .rsl (INH, []) 1 0 n none), (1, .int .i64 ((x.a : Nat) : Int)), (2, .int .i64 ((x.b : Nat) : Int)), (3, .int .i64 (((x.rd (ltc cf)).lim : Nat) : Int)), (4, .fn f [] []), (10, .bool x.wb), (11, .bool x.wp), (12, .int .i64 ((x.b - x.a : Nat) : Int)), (13, .int .i64 (((x.rd (ltc cf)).pivot : Nat) : Int)), (14, .int .i64 ((hintN (x.rd (ltc cf)).hint : Nat) : Int)), (INH, .osl 1 (acells (x.rd (ltc cf)).d2) n none)]) (fun _u => True) ?_ (fun _u hJ => ?_)
        ·
          skip
          refine a_seq ?_
          refine a_region ?_
          refine r_val (v := .int _ _) (v_move (.inl rfl) (noOwn_flat rfl)) rfl rfl (by decide) ?_
          refine r_val (v := .bool _) (v_eql (.inl rfl) (.inl rfl)) rfl rfl (by decide) ?_
          refine r_nil ?_
          refine a_cond rfl (fun ht56 => ?_) (fun ht56 => ?_)
          ·
            skip
            refine a_seq ?_
            refine a_region ?_
            refine r_val (v := .rsl _ _ _ _ _) (v_move (.inl rfl) (noOwn_flat rfl)) rfl rfl (by decide) ?_
            refine r_val (v := .int _ _) (v_move (.inl rfl) (noOwn_flat rfl)) rfl rfl (by decide) ?_
            refine r_val (v := .int _ _) (v_move (.inl rfl) (noOwn_flat rfl)) rfl rfl (by decide) ?_
            refine r_val (v := .fn _ _ _) (v_mv rfl) rfl rfl (by decide) ?_
            refine r_step rfl (o_callIOk (q := (INH, [])) (vs := [.rsl _ _ _ _ _, .int _ _, .int _ _, .fn _ _ _]) (args := [.rsl (INH, []) _ _ _ _, .int .i64 _, .int .i64 _, .fn _ _ _]) (x0 := .osl _ _ _ _) (x1 := .osl _ _ _ _) (res := .tup []) rfl hb164 rfl (by decide) ⟨.inl rfl, .inl rfl, .inl rfl, .inl rfl, trivial⟩ rfl rfl (reverse_c f _ n x.a x.b hf.1 (by omega) hn) (by simp [stays]; omega) rfl rfl rfl (ac_noSh _) (ac_noRef _) (Nat.le_of_ble_eq_true rfl) (by decide) rfl) ?_
            refine r_nil ?_
            refine a_seq ?_
            refine a_region ?_
            refine r_val (v := .int _ _) (v_move (.inl rfl) (noOwn_flat rfl)) rfl rfl (by decide) ?_
            refine r_val (v := .int _ _) (v_sub (.inl rfl) (.inl rfl) (fun _ => by omega)) rfl rfl (by decide) ?_
            refine r_val (v := .int _ _) (v_move (.inl rfl) (noOwn_flat rfl)) rfl rfl (by decide) ?_
            refine r_val (v := .int _ _) (v_move (.inl rfl) (noOwn_flat rfl)) rfl rfl (by decide) ?_
            refine r_val (v := .int _ _) (v_sub (.inl rfl) (.inl rfl) (fun _ => by omega)) rfl rfl (by decide) ?_
            refine r_val (v := .int _ _) (v_sub (.inl rfl) (.inl rfl) (fun _ => by omega)) rfl rfl (by decide) ?_
            refine r_val (v := .int _ _) (v_assign (.inl rfl) (noOwn_flat rfl)) rfl rfl (by decide) ?_
            refine r_nil ?_
            refine a_pre (ent_look (L := [(0, .rsl _ _ _ _ _), (1, .int _ _), (2, .int _ _), (3, .int _ _), (4, .fn _ _ _), (10, .bool _), (11, .bool _), (12, .int _ _), (13, .int _ _), (14, .int _ _), (INH, .osl _ _ _ _)]) ⟨Weak.rfl, Weak.rfl, Weak.rfl, Weak.rfl, Weak.rfl, Weak.rfl, Weak.rfl, Weak.rfl, Weak.rfl, Weak.rfl, Weak.rfl, trivial⟩) ?_
            refine a_region ?_
            refine r_val (v := .int _ _) (v_assign (.inl rfl) (noOwn_flat rfl)) rfl rfl (by decide) ?_
            refine r_nil ?_
            have hd2 := rd_dec (lt := (ltc cf)) (hintN_two.1 (of_decide_eq_true ht56) : (x.rd (ltc cf)).c.2 = .decreasing)
            exact ⟨(), ent_look ⟨Weak.of_eq rfl, Weak.of_eq rfl, Weak.of_eq rfl, Weak.of_eq rfl, Weak.of_eq rfl, Weak.of_eq rfl, Weak.of_eq rfl, Weak.of_eq rfl, Weak.of_eq (int_eq (by have h1 := hd2.2.1; have h2 := hf.2.1; dsimp only [PS.rd] at *; omega)), Weak.of_eq (int_eq (by rw [hd2.2.2]; rfl)), Weak.of_eq (osl_eq (by rw [hd2.1])), trivial⟩, trivial⟩
          ·
            skip
            refine a_skip ?_
            have hd2 := rd_not (lt := (ltc cf)) (fun h => of_decide_eq_false ht56 (hintN_two.2 h) : (x.rd (ltc cf)).c.2 ≠ .decreasing)
            exact ⟨(), ent_look ⟨Weak.of_eq rfl, Weak.of_eq rfl, Weak.of_eq rfl, Weak.of_eq rfl, Weak.of_eq rfl, Weak.of_eq rfl, Weak.of_eq rfl, Weak.of_eq rfl, Weak.of_eq (int_eq (by rw [hd2.2.1])), Weak.of_eq (int_eq (by rw [hd2.2.2])), Weak.of_eq (osl_eq (by rw [hd2.1])), trivial⟩, trivial⟩
        ·
          skip
          refine a_join (X := Unit) (fun _u => look [(0, .rsl (INH, []) 1 0 n none), (1, .int .i64 ((x.a : Nat) : Int)), (2, .int .i64 ((x.b : Nat) : Int)), (3, .int .i64 (((x.rd (ltc cf)).lim : Nat) : Int)), (4, .fn f [] []), (10, .bool x.wb), (11, .bool x.wp), (12, .int .i64 ((x.b - x.a : Nat) : Int)), (13, .int .i64 (((x.rd (ltc cf)).pivot : Nat) : Int)), (INH, .osl 1 (acells (x.rd (ltc cf)).pi.1) n none)]) (fun _u => (x.rd (ltc cf)).pi.2 = false) ?_ (fun _u hJ => ?_)
          ·
            skip
            refine a_seq ?_
            refine a_region ?_
            refine r_val (v := .bool _) (v_move (.inl rfl) (noOwn_flat rfl)) rfl rfl (by decide) ?_
            refine r_val (v := .bool _) (v_move (.inl rfl) (noOwn_flat rfl)) rfl rfl (by decide) ?_
            refine r_gval (v := .bool _) (v_move (.inl rfl) (noOwn_flat rfl)) rfl rfl rfl (by decide) (.inl ⟨_, rfl, rfl⟩) rfl (by decide) ?_
            refine r_val (v := .bool _) (v_pick (.inl rfl) (.inr ⟨_, rfl, fun h h2 => by simp_all⟩) (.inl rfl)) rfl rfl (by decide) ?_
            refine r_val (v := .bool _) (v_move (.inl rfl) (noOwn_flat rfl)) rfl rfl (by decide) ?_
            refine r_gval (v := .int _ _) (v_move (.inl rfl) (noOwn_flat rfl)) rfl rfl rfl (by decide) (.inl ⟨_, rfl, rfl⟩) rfl (by decide) ?_
            refine r_gval (v := .bool _) (v_eql (.inr ⟨_, rfl, fun h => h⟩) (.inl rfl)) rfl rfl rfl (by decide) (.inl ⟨_, rfl, rfl⟩) rfl (by decide) ?_
            refine r_val (v := .bool _) (v_pick (.inl rfl) (.inr ⟨_, rfl, fun h h2 => by simp_all⟩) (.inl rfl)) rfl rfl (by decide) ?_
            refine r_nil ?_
            refine a_cond rfl (fun ht75 => ?_) (fun ht75 => ?_)
            ·
              skip
              refine a_seq ?_
              have hpi := rd_pi_yes (lt := (ltc cf)) (d := x.d) (a := x.a) (b := x.b) (limit := x.lim) (wb := x.wb) (wp := x.wp) (pi_cond ht75)
              refine a_region ?_
              refine r_val (v := .rsl _ _ _ _ _) (v_move (.inl rfl) (noOwn_flat rfl)) rfl rfl (by decide) ?_
              refine r_val (v := .int _ _) (v_move (.inl rfl) (noOwn_flat rfl)) rfl rfl (by decide) ?_
              refine r_val (v := .int _ _) (v_move (.inl rfl) (noOwn_flat rfl)) rfl rfl (by decide) ?_
              refine r_val (v := .fn _ _ _) (v_mv rfl) rfl rfl (by decide) ?_
              refine r_step rfl (o_callIOk (q := (INH, [])) (vs := [.rsl _ _ _ _ _, .int _ _, .int _ _, .fn _ _ _]) (args := [.rsl (INH, []) _ _ _ _, .int .i64 _, .int .i64 _, .fn _ _ _]) (x0 := .osl _ _ _ _) (x1 := .osl _ _ _ _) (res := .bool _) rfl hb165 rfl (by decide) ⟨.inl rfl, .inl rfl, .inl rfl, .inl rfl, trivial⟩ rfl rfl (partialIns_c f hb cf hc _ n x.a x.b hf.2.2.1 (by omega) hn) (by simp [stays]; omega) rfl rfl rfl (ac_noSh _) (ac_noRef _) (Nat.le_of_ble_eq_true rfl) (by decide) rfl) ?_
              refine r_nil ?_
              refine a_cond rfl (fun ht80 => ?_) (fun ht80 => ?_)
              ·
                skip
                refine a_ret ?_
                refine ret0_look Try.results151 (by decide) ?_ rfl
                exact Weak.of_eq (osl_eq (by rw [← g7, pdq_done h12 h0 (by rw [hpi]; exact ht80), hpi]))
              ·
                skip
                refine a_skip ?_
                exact ⟨(), ent_look ⟨Weak.of_eq rfl, Weak.of_eq rfl, Weak.of_eq rfl, Weak.of_eq rfl, Weak.of_eq rfl, Weak.of_eq rfl, Weak.of_eq rfl, Weak.of_eq rfl, Weak.of_eq rfl, Weak.of_eq (osl_eq (by rw [hpi])), trivial⟩, (by rw [hpi]; exact ht80)⟩
            ·
              skip
              refine a_skip ?_
              have hpi := rd_pi_no (lt := (ltc cf)) (d := x.d) (a := x.a) (b := x.b) (limit := x.lim) (wb := x.wb) (wp := x.wp) (pi_cond ht75)
              exact ⟨(), ent_look ⟨Weak.of_eq rfl, Weak.of_eq rfl, Weak.of_eq rfl, Weak.of_eq rfl, Weak.of_eq rfl, Weak.of_eq rfl, Weak.of_eq rfl, Weak.of_eq rfl, Weak.of_eq rfl, Weak.of_eq (osl_eq (by rw [hpi])), trivial⟩, (by rw [hpi])⟩
          ·
            skip
            have hpf := hJ
            refine a_seq ?_
            refine a_seq ?_
            refine a_region_any mixed (by kernel_rfl) ?_
            refine y_val (v := .int _ _) (v_move (.inl rfl) (noOwn_flat rfl)) rfl rfl (by decide) (by kernel_rfl) ?_
            refine y_val (v := .bool _) (v_gtr (.inl rfl) (.inl rfl)) rfl rfl (by decide) (by kernel_rfl) ?_
            refine y_val (v := .bool _) (v_move (.inl rfl) (noOwn_flat rfl)) rfl rfl (by decide) (by kernel_rfl) ?_
            refine y_guard (v := .fn _ _ _) (v_move (.inl rfl) (noOwn_flat rfl)).quiet rfl rfl rfl (by decide) (.inl ⟨_, rfl, rfl⟩) rfl (by decide) (by kernel_rfl) ?_
            refine y_guard (v := .rsl _ _ _ _ _) (v_move (.inl rfl) (noOwn_flat rfl)).quiet rfl rfl rfl (by decide) (.inl ⟨_, rfl, rfl⟩) rfl (by decide) (by kernel_rfl) ?_
            refine y_guard (v := .int _ _) (v_move (.inl rfl) (noOwn_flat rfl)).quiet rfl rfl rfl (by decide) (.inl ⟨_, rfl, rfl⟩) rfl (by decide) (by kernel_rfl) ?_
            refine y_guard (v := .int _ _) (v_sub (.inr ⟨_, rfl, fun h => h⟩) (.inl rfl) (fun _ => by omega)).quiet rfl rfl rfl (by decide) (.inl ⟨_, rfl, rfl⟩) rfl (by decide) (by kernel_rfl) ?_
            refine y_guard (v := .rp _ _) (v_indexAddr_rsl0 es25 (.inr ⟨_, rfl, fun h => h⟩) (.inr ⟨_, rfl, fun h => h⟩) (fun hA => by simp at hA; omega)).quiet rfl rfl rfl (by decide) (.inl ⟨_, rfl, rfl⟩) rfl (by decide) (by kernel_rfl) ?_
            refine y_guard (v := .int .i64 (x.rd (ltc cf)).pi.1[x.a - 1]!) (v_load_rp1 ta3 (.inr ⟨_, rfl, fun h => h⟩) rfl (fun hA => by simp at hA; rw [show ((x.a : Int) - 1).toNat = x.a - 1 by omega, Nat.mul_one]; exact acells_get (by omega)) rfl).quiet rfl rfl rfl (by decide) (.inl ⟨_, rfl, rfl⟩) rfl (by decide) (by kernel_rfl) ?_
            refine y_guard (v := .rsl _ _ _ _ _) (v_move (.inl rfl) (noOwn_flat rfl)).quiet rfl rfl rfl (by decide) (.inl ⟨_, rfl, rfl⟩) rfl (by decide) (by kernel_rfl) ?_
            refine y_guard (v := .int _ _) (v_move (.inl rfl) (noOwn_flat rfl)).quiet rfl rfl rfl (by decide) (.inl ⟨_, rfl, rfl⟩) rfl (by decide) (by kernel_rfl) ?_
            refine y_guard (v := .rp _ _) (v_indexAddr_rsl0 es25 (.inr ⟨_, rfl, fun h => h⟩) (.inr ⟨_, rfl, fun h => h⟩) (fun hA => by simp at hA; omega)).quiet rfl rfl rfl (by decide) (.inl ⟨_, rfl, rfl⟩) rfl (by decide) (by kernel_rfl) ?_
            refine y_guard (v := .int .i64 (x.rd (ltc cf)).pi.1[(x.rd (ltc cf)).pivot]!) (v_load_rp1 ta3 (.inr ⟨_, rfl, fun h => h⟩) rfl (fun hA => by simp at hA; rw [Nat.mul_one]; exact acells_get (by omega)) rfl).quiet rfl rfl rfl (by decide) (.inl ⟨_, rfl, rfl⟩) rfl (by decide) (by kernel_rfl) ?_
            refine y_guard (v := .int _ _) (q_clo (vs := [.int _ _, .int _ _]) (args := [.int .i64 _, .int .i64 _]) hb (.inr ⟨_, rfl, fun h => h⟩) ⟨.inr ⟨_, rfl, fun h => h⟩, .inr ⟨_, rfl, fun h => h⟩, trivial⟩ rfl (fun hA => hc _ _) rfl rfl) rfl rfl rfl (by decide) (.inl ⟨_, rfl, rfl⟩) rfl (by decide) (by kernel_rfl) ?_
            refine y_guard (v := .bool _) (v_lss (.inr ⟨_, rfl, fun h => h⟩) (.inl rfl)).quiet rfl rfl rfl (by decide) (.inl ⟨_, rfl, rfl⟩) rfl (by decide) (by kernel_rfl) ?_
            refine y_guard (v := .bool _) (v_not (.inr ⟨_, rfl, fun h => h⟩)).quiet rfl rfl rfl (by decide) (.inl ⟨_, rfl, rfl⟩) rfl (by decide) (by kernel_rfl) ?_
            refine y_val (v := .bool _) (v_pick (.inl rfl) (.inr ⟨_, rfl, fun h h2 => by simp_all⟩) (.inl rfl)) rfl rfl (by decide) (by kernel_rfl) ?_
            refine y_nil ?_
            refine a_cond rfl (fun ht97 => ?_) (fun ht97 => ?_)
            ·
              skip
              refine a_seq ?_
              have hts : x.test (ltc cf) = true := test_cond ht97
              have hnx := hP.eq hS h12 h0 hpf hts
              refine a_region ?_
              refine r_val (v := .rsl _ _ _ _ _) (v_move (.inl rfl) (noOwn_flat rfl)) rfl rfl (by decide) ?_
              refine r_val (v := .int _ _) (v_move (.inl rfl) (noOwn_flat rfl)) rfl rfl (by decide) ?_
              refine r_val (v := .int _ _) (v_move (.inl rfl) (noOwn_flat rfl)) rfl rfl (by decide) ?_
              refine r_val (v := .int _ _) (v_move (.inl rfl) (noOwn_flat rfl)) rfl rfl (by decide) ?_
              refine r_val (v := .fn _ _ _) (v_mv rfl) rfl rfl (by decide) ?_
              refine r_step rfl (o_callIOk (q := (INH, [])) (vs := [.rsl _ _ _ _ _, .int _ _, .int _ _, .int _ _, .fn _ _ _]) (args := [.rsl (INH, []) _ _ _ _, .int .i64 _, .int .i64 _, .int .i64 _, .fn _ _ _]) (x0 := .osl _ _ _ _) (x1 := .osl _ _ _ _) (res := .int _ _) rfl hb166 rfl (by decide) ⟨.inl rfl, .inl rfl, .inl rfl, .inl rfl, .inl rfl, trivial⟩ rfl rfl (partEq_c f hb cf hc _ n x.a x.b _ hf.2.2.2.2.1 (by have := hf.2.2.2.1; omega) hn) (by simp [stays]; omega) rfl rfl rfl (ac_noSh _) (ac_noRef _) (Nat.le_of_ble_eq_true rfl) (by decide) rfl) ?_
              refine r_val (v := .int _ _) (v_assign (.inl rfl) (noOwn_flat rfl)) rfl rfl (by decide) ?_
              refine r_nil ?_
              refine a_seq ?_
              refine a_pre (ent_look (L := [(0, .rsl _ _ _ _ _), (1, .int _ _), (2, .int _ _), (3, .int _ _), (4, .fn _ _ _), (10, .bool _), (11, .bool _), (12, .int _ _), (13, .int _ _), (15, .int _ _), (INH, .osl _ _ _ _)]) ⟨Weak.rfl, Weak.rfl, Weak.rfl, Weak.rfl, Weak.rfl, Weak.rfl, Weak.rfl, Weak.rfl, Weak.rfl, Weak.rfl, Weak.rfl, trivial⟩) ?_
              refine a_region ?_
              refine r_val (v := .int _ _) (v_move (.inl rfl) (noOwn_flat rfl)) rfl rfl (by decide) ?_
              refine r_val (v := .int _ _) (v_assign (.inl rfl) (noOwn_flat rfl)) rfl rfl (by decide) ?_
              refine r_nil ?_
              refine a_exit ?_
              refine ⟨(x.eq (ltc cf)), ent_look ⟨Weak.of_eq rfl, Weak.of_eq rfl, Weak.of_eq rfl, Weak.of_eq rfl, Weak.of_eq rfl, Weak.of_eq rfl, Weak.of_eq rfl, Weak.of_eq rfl, trivial⟩, hnx.1, (by have h1 := hnx.2; have h2 := hnx.1.1; have h3 : (x.eq (ltc cf)).b = x.b := rfl; omega)⟩
            ·
              skip
              refine a_skip ?_
              refine a_seq ?_
              have hts : x.test (ltc cf) = false := test_cond ht97
              have hpt := hP.part hS h12
              refine a_region ?_
              refine r_val (v := .rsl _ _ _ _ _) (v_move (.inl rfl) (noOwn_flat rfl)) rfl rfl (by decide) ?_
              refine r_val (v := .int _ _) (v_move (.inl rfl) (noOwn_flat rfl)) rfl rfl (by decide) ?_
              refine r_val (v := .int _ _) (v_move (.inl rfl) (noOwn_flat rfl)) rfl rfl (by decide) ?_
              refine r_val (v := .int _ _) (v_move (.inl rfl) (noOwn_flat rfl)) rfl rfl (by decide) ?_
              refine r_val (v := .fn _ _ _) (v_mv rfl) rfl rfl (by decide) ?_
              refine r_step rfl (o_callIOk (q := (INH, [])) (vs := [.rsl _ _ _ _ _, .int _ _, .int _ _, .int _ _, .fn _ _ _]) (args := [.rsl (INH, []) _ _ _ _, .int .i64 _, .int .i64 _, .int .i64 _, .fn _ _ _]) (x0 := .osl _ _ _ _) (x1 := .osl _ _ _ _) (res := .tup [.int _ _, .bool _]) rfl hb167 rfl (by decide) ⟨.inl rfl, .inl rfl, .inl rfl, .inl rfl, .inl rfl, trivial⟩ rfl rfl (partition_c f hb cf hc _ n x.a x.b _ hf.2.2.2.2.1 (by have := hf.2.2.2.1; omega) hn) (by simp [stays]; omega) rfl rfl rfl (ac_noSh _) (ac_noRef _) (Nat.le_of_ble_eq_true rfl) (by decide) rfl) ?_
              refine r_val (v := .tup [.int _ _, .bool _]) (v_mv rfl) rfl rfl (by decide) ?_
              refine r_val (v := .int .i64 (((x.pt (ltc cf)).1 : Nat) : Int)) ((v_extract rfl rfl).cast (int_eq rfl)) rfl rfl (by decide) ?_
              refine r_val (v := .bool (x.pt (ltc cf)).2.1) ((v_extract rfl rfl).cast (bool_eq rfl)) rfl rfl (by decide) ?_
              refine r_val (v := .int _ _) (v_assign (.inl rfl) (noOwn_flat rfl)) rfl rfl (by decide) ?_
              refine r_val (v := .bool _) (v_assign (.inl rfl) (noOwn_flat rfl)) rfl rfl (by decide) ?_
              refine r_nil ?_
              refine a_seq ?_
              refine a_pre (ent_look (L := [(0, .rsl _ _ _ _ _), (1, .int _ _), (2, .int _ _), (3, .int _ _), (4, .fn _ _ _), (10, .bool _), (11, .bool _), (12, .int _ _), (16, .int _ _), (17, .bool _), (INH, .osl _ _ _ _)]) ⟨Weak.rfl, Weak.rfl, Weak.rfl, Weak.rfl, Weak.rfl, Weak.rfl, Weak.rfl, Weak.rfl, Weak.rfl, Weak.rfl, Weak.rfl, trivial⟩) ?_
              refine a_region ?_
              refine r_val (v := .bool _) (v_move (.inl rfl) (noOwn_flat rfl)) rfl rfl (by decide) ?_
              refine r_val (v := .bool _) (v_assign (.inl rfl) (noOwn_flat rfl)) rfl rfl (by decide) ?_
              refine r_nil ?_
              refine a_seq ?_
              refine a_region ?_
              refine r_val (v := .int _ _) (v_move (.inl rfl) (noOwn_flat rfl)) rfl rfl (by decide) ?_
              refine r_val (v := .int _ _) (v_move (.inl rfl) (noOwn_flat rfl)) rfl rfl (by decide) ?_
              refine r_val (v := .int .i64 (((x.pt (ltc cf)).1 - x.a : Nat) : Int)) ((v_sub (.inl rfl) (.inl rfl) (fun _ => by omega)).cast (int_eq (by omega))) rfl rfl (by decide) ?_
              refine r_val (v := .int _ _) (v_move (.inl rfl) (noOwn_flat rfl)) rfl rfl (by decide) ?_
              refine r_val (v := .int _ _) (v_move (.inl rfl) (noOwn_flat rfl)) rfl rfl (by decide) ?_
              refine r_val (v := .int .i64 ((x.b - (x.pt (ltc cf)).1 : Nat) : Int)) ((v_sub (.inl rfl) (.inl rfl) (fun _ => by omega)).cast (int_eq (by omega))) rfl rfl (by decide) ?_
              refine r_val (v := .int _ _) (v_assign (.inl rfl) (noOwn_flat rfl)) rfl rfl (by decide) ?_
              refine r_val (v := .int _ _) (v_assign (.inl rfl) (noOwn_flat rfl)) rfl rfl (by decide) ?_
              refine r_nil ?_
              refine a_seq ?_
              refine a_region ?_
              refine r_val (v := .int _ _) (v_move (.inl rfl) (noOwn_flat rfl)) rfl rfl (by decide) ?_
              refine r_val (v := .int .i64 (((x.b - x.a) / 8 : Nat) : Int)) ((v_quo (.inl rfl) (.inl rfl) (fun _ => by omega)).cast (int_eq (by omega))) rfl rfl (by decide) ?_
              refine r_val (v := .int _ _) (v_assign (.inl rfl) (noOwn_flat rfl)) rfl rfl (by decide) ?_
              refine r_nil ?_
              refine a_seq ?_
              refine a_region ?_
              refine r_val (v := .int _ _) (v_move (.inl rfl) (noOwn_flat rfl)) rfl rfl (by decide) ?_
              refine r_val (v := .int _ _) (v_move (.inl rfl) (noOwn_flat rfl)) rfl rfl (by decide) ?_
              refine r_val (v := .bool _) (v_lss (.inl rfl) (.inl rfl)) rfl rfl (by decide) ?_
              refine r_nil ?_
              refine a_cond rfl (fun ht125 => ?_) (fun ht125 => ?_)
              ·
                skip
                refine a_seq ?_
                have hll : (x.pt (ltc cf)).1 - x.a < x.b - (x.pt (ltc cf)).1 := (by simp at ht125; omega)
                have hnx := hP.left hS h12 h0 hpf hts hll
                refine a_region ?_
                refine r_val (v := .int _ _) (v_move (.inl rfl) (noOwn_flat rfl)) rfl rfl (by decide) ?_
                refine r_val (v := .int _ _) (v_move (.inl rfl) (noOwn_flat rfl)) rfl rfl (by decide) ?_
                refine r_val (v := .bool _) (v_geq (.inl rfl) (.inl rfl)) rfl rfl (by decide) ?_
                refine r_val (v := .bool _) (v_assign (.inl rfl) (noOwn_flat rfl)) rfl rfl (by decide) ?_
                refine r_nil ?_
                refine a_seq ?_
                refine a_pre (ent_look (L := [(0, .rsl _ _ _ _ _), (1, .int _ _), (2, .int _ _), (3, .int _ _), (4, .fn _ _ _), (10, .bool _), (11, .bool _), (16, .int _ _), (19, .int _ _), (20, .int _ _), (INH, .osl _ _ _ _)]) ⟨Weak.rfl, Weak.rfl, Weak.rfl, Weak.rfl, Weak.rfl, Weak.rfl, Weak.rfl, Weak.rfl, Weak.rfl, Weak.rfl, Weak.rfl, trivial⟩) ?_
                refine a_region ?_
                refine r_val (v := .rsl _ _ _ _ _) (v_move (.inl rfl) (noOwn_flat rfl)) rfl rfl (by decide) ?_
                refine r_val (v := .int _ _) (v_move (.inl rfl) (noOwn_flat rfl)) rfl rfl (by decide) ?_
                refine r_val (v := .int _ _) (v_move (.inl rfl) (noOwn_flat rfl)) rfl rfl (by decide) ?_
                refine r_val (v := .int _ _) (v_move (.inl rfl) (noOwn_flat rfl)) rfl rfl (by decide) ?_
                refine r_val (v := .fn _ _ _) (v_mv rfl) rfl rfl (by decide) ?_
                refine r_step rfl (o_callIOk (q := (INH, [])) (vs := [.rsl _ _ _ _ _, .int _ _, .int _ _, .int _ _, .fn _ _ _]) (args := [.rsl (INH, []) _ _ _ _, .int .i64 _, .int .i64 _, .int .i64 _, .fn _ _ _]) (x0 := .osl _ _ _ _) (x1 := .osl _ _ _ _) (res := .tup []) rfl hb151 rfl (by decide) ⟨.inl rfl, .inl rfl, .inl rfl, .inl rfl, .inl rfl, trivial⟩ rfl rfl (ih _ _ _ _ hpt.2.2.1 hpt.1 (by omega) (by omega) hf.2.2.2.2.2.2 hpt.2.2.2.1) (by simp [stays]; omega) rfl rfl rfl (ac_noSh _) (ac_noRef _) (Nat.le_of_ble_eq_true rfl) (by decide) rfl) ?_
                refine r_nil ?_
                refine a_region ?_
                refine r_val (v := .int _ _) (v_move (.inl rfl) (noOwn_flat rfl)) rfl rfl (by decide) ?_
                refine r_val (v := .int .i64 (((x.pt (ltc cf)).1 + 1 : Nat) : Int)) ((v_add (.inl rfl) (.inl rfl) (fun _ => by omega)).cast (int_eq (by omega))) rfl rfl (by decide) ?_
                refine r_val (v := .int _ _) (v_assign (.inl rfl) (noOwn_flat rfl)) rfl rfl (by decide) ?_
                refine r_nil ?_
                refine ⟨(x.left (ltc cf)), ent_look ⟨Weak.of_eq rfl, Weak.of_eq rfl, Weak.of_eq rfl, Weak.of_eq rfl, Weak.of_eq rfl, Weak.of_eq (bool_eq (decide_eq_decide.2 (by simp only [ge_iff_le]; omega))), Weak.of_eq rfl, Weak.of_eq rfl, trivial⟩, hnx.1, hnx.2⟩
              ·
                skip
                refine a_seq ?_
                have hll : ¬ (x.pt (ltc cf)).1 - x.a < x.b - (x.pt (ltc cf)).1 := (by simp at ht125; omega)
                have hnx := hP.right hS h12 h0 hpf hts hll
                refine a_region ?_
                refine r_val (v := .int _ _) (v_move (.inl rfl) (noOwn_flat rfl)) rfl rfl (by decide) ?_
                refine r_val (v := .int _ _) (v_move (.inl rfl) (noOwn_flat rfl)) rfl rfl (by decide) ?_
                refine r_val (v := .bool _) (v_geq (.inl rfl) (.inl rfl)) rfl rfl (by decide) ?_
                refine r_val (v := .bool _) (v_assign (.inl rfl) (noOwn_flat rfl)) rfl rfl (by decide) ?_
                refine r_nil ?_
                refine a_seq ?_
                refine a_pre (ent_look (L := [(0, .rsl _ _ _ _ _), (1, .int _ _), (2, .int _ _), (3, .int _ _), (4, .fn _ _ _), (10, .bool _), (11, .bool _), (16, .int _ _), (INH, .osl _ _ _ _)]) ⟨Weak.rfl, Weak.rfl, Weak.rfl, Weak.rfl, Weak.rfl, Weak.rfl, Weak.rfl, Weak.rfl, Weak.rfl, trivial⟩) ?_
                refine a_region ?_
                refine r_val (v := .rsl _ _ _ _ _) (v_move (.inl rfl) (noOwn_flat rfl)) rfl rfl (by decide) ?_
                refine r_val (v := .int _ _) (v_move (.inl rfl) (noOwn_flat rfl)) rfl rfl (by decide) ?_
                refine r_val (v := .int .i64 (((x.pt (ltc cf)).1 + 1 : Nat) : Int)) ((v_add (.inl rfl) (.inl rfl) (fun _ => by omega)).cast (int_eq (by omega))) rfl rfl (by decide) ?_
                refine r_val (v := .int _ _) (v_move (.inl rfl) (noOwn_flat rfl)) rfl rfl (by decide) ?_
                refine r_val (v := .int _ _) (v_move (.inl rfl) (noOwn_flat rfl)) rfl rfl (by decide) ?_
                refine r_val (v := .fn _ _ _) (v_mv rfl) rfl rfl (by decide) ?_
                refine r_step rfl (o_callIOk (q := (INH, [])) (vs := [.rsl _ _ _ _ _, .int _ _, .int _ _, .int _ _, .fn _ _ _]) (args := [.rsl (INH, []) _ _ _ _, .int .i64 _, .int .i64 _, .int .i64 _, .fn _ _ _]) (x0 := .osl _ _ _ _) (x1 := .osl _ _ _ _) (res := .tup []) rfl hb151 rfl (by decide) ⟨.inl rfl, .inl rfl, .inl rfl, .inl rfl, .inl rfl, trivial⟩ rfl rfl (ih _ _ _ _ hpt.2.2.1 (by omega) (by omega) (by omega) hf.2.2.2.2.2.2 hpt.2.2.2.2) (by simp [stays]; omega) rfl rfl rfl (ac_noSh _) (ac_noRef _) (Nat.le_of_ble_eq_true rfl) (by decide) rfl) ?_
                refine r_nil ?_
                refine a_region ?_
                refine r_val (v := .int _ _) (v_move (.inl rfl) (noOwn_flat rfl)) rfl rfl (by decide) ?_
                refine r_val (v := .int _ _) (v_assign (.inl rfl) (noOwn_flat rfl)) rfl rfl (by decide) ?_
                refine r_nil ?_
                refine ⟨(x.right (ltc cf)), ent_look ⟨Weak.of_eq rfl, Weak.of_eq rfl, Weak.of_eq rfl, Weak.of_eq rfl, Weak.of_eq rfl, Weak.of_eq (bool_eq (decide_eq_decide.2 (by simp only [ge_iff_le]; omega))), Weak.of_eq rfl, Weak.of_eq rfl, trivial⟩, hnx.1, hnx.2⟩

theorem pdq_c (f : Nat) (hb : hasBody Try.prog f = true) (cf : Int → Int → Int) (hc : ∀ x y, ACall Try.prog f [.int .i64 x, .int .i64 y] [] (.int .i64 (cf x y)) []) (hS : SWO (ltc cf)) (n : Nat) (hn : n ≤ 1152921504606846976) (d : Array Int) (a b limit : Nat) (hd : d.size = n) (hab : a ≤ b ∧ b ≤ n ∧ limit ≤ 100) (hB : Below (ltc cf) a b d) :
    ACall Try.prog 151 [.rsl (INH, []) 1 0 n none, .int .i64 ((a : Nat) : Int), .int .i64 ((b : Nat) : Int), .int .i64 ((limit : Nat) : Int), .fn f [] []] [.osl 1 (acells d) n none] (.tup []) [.osl 1 (acells (pdq (ltc cf) d a b limit true true)) n none] := by
  have key : ∀ (N : Nat) (d : Array Int) (a b limit : Nat), d.size = n → a ≤ b → b ≤ n → b - a < N → limit ≤ 100 → Below (ltc cf) a b d → ACall Try.prog 151 [.rsl (INH, []) 1 0 n none, .int .i64 ((a : Nat) : Int), .int .i64 ((b : Nat) : Int), .int .i64 ((limit : Nat) : Int), .fn f [] []] [.osl 1 (acells d) n none] (.tup []) [.osl 1 (acells (pdq (ltc cf) d a b limit true true)) n none] := by
    intro N
    induction N with
    | zero => intro d a b limit _ _ _ h; omega
    | succ N ih => intro d a b limit h1 h2 h3 h4 h5 h6; exact pdq_step f hb cf hc hS n N hn ih d a b limit h1 ⟨h2, h3, by omega, h5⟩ h6
  exact key (b - a + 1) d a b limit hd hab.1 hab.2.1 (by omega) hab.2.2 hB
end Go.Av
namespace Go.Av
open Go Go.Proofs Go.Sort
set_option maxRecDepth 10000


theorem sortFunc_c (f : Nat) (hb : hasBody Try.prog f = true) (cf : Int → Int → Int) (hc : ∀ x y, ACall Try.prog f [.int .i64 x, .int .i64 y] [] (.int .i64 (cf x y)) []) (hS : SWO (ltc cf)) (d : Array Int) (n : Nat) (hd : d.size = n) (hn : n ≤ 1152921504606846976) : ACall Try.prog 131 [.rsl (INH, []) 1 0 n none, .fn f [] []] [.osl 1 (acells d) n none] (.tup []) [.osl 1 (acells (Go.Sort.sort (ltc cf) d)) n none] := by
  have hbl : bitsLen n ≤ 61 := (bitsLen_le_iff _ _).2 (by omega)
  refine ACall.intro Try.func131 rfl (N := 14) rfl (by decide) (by simp) ?_
  refine a_seq ?_
  refine a_region ?_
  refine r_val (v := .rsl _ _ _ _ _) (v_move (.inl rfl) (noOwn_flat rfl)) rfl rfl (by decide) ?_
  refine r_val (v := .int _ _) (v_len_rsl sl25 (.inl rfl)) rfl rfl (by decide) ?_
  refine r_val (v := .int _ _) (v_assign (.inl rfl) (noOwn_flat rfl)) rfl rfl (by decide) ?_
  refine r_nil ?_
  refine a_region ?_
  refine r_val (v := .rsl _ _ _ _ _) (v_move (.inl rfl) (noOwn_flat rfl)) rfl rfl (by decide) ?_
  refine r_val (v := .int _ _) (v_move (.inl rfl) (noOwn_flat rfl)) rfl rfl (by decide) ?_
  refine r_val (v := .int _ _) (v_move (.inl rfl) (noOwn_flat rfl)) rfl rfl (by decide) ?_
  refine r_val (v := .int .u64 ((n : Nat) : Int)) ((v_conv iss3 uni152 (.inl rfl) (fun _ => IntWalk.u64_in _ (by omega))).cast (int_eq rfl)) rfl rfl (by decide) ?_
  refine r_new (v := .int _ _) (q_call (vs := [.int _ _]) (args := [.int .u64 ((_ : Nat) : Int)]) hb152 ⟨.inl rfl, trivial⟩ rfl (fun hA => len_c n (by omega)) rfl rfl) rfl rfl (by decide) ?_
  refine r_val (v := .fn _ _ _) (v_mv rfl) rfl rfl (by decide) ?_
  refine r_step rfl (o_callIO (q := (INH, [])) (vs := [.rsl _ _ _ _ _, .int _ _, .int _ _, .int _ _, .fn _ _ _]) (args := [.rsl (INH, []) _ _ _ _, .int .i64 _, .int .i64 _, .int .i64 _, .fn _ _ _]) (x0 := .osl _ _ _ _) (x1 := .osl _ _ _ _) (res := .tup []) rfl hb151 rfl (by decide) ⟨.inl rfl, .inl rfl, .inl rfl, .inl rfl, .inl rfl, trivial⟩ rfl rfl (pdq_c f hb cf hc hS n hn d 0 n (bitsLen n) hd ⟨Nat.zero_le _, Nat.le_refl _, Nat.le_trans hbl (by decide)⟩ (Or.inl rfl)) rfl rfl rfl (ac_noSh _) (ac_noRef _) (Nat.le_of_ble_eq_true rfl) (by decide) rfl) ?_
  refine r_nil ?_
  refine ret0_look Try.results131 (by decide) ?_ rfl
  exact Weak.of_eq (osl_eq (by unfold Go.Sort.sort; rw [hd]))
end Go.Av
namespace Go.Av
open Go Go.Proofs Go.Sort
set_option maxRecDepth 10000
theorem hb153 : hasBody Try.prog 153 = true := by kernel_rfl
theorem hb154 : hasBody Try.prog 154 = true := by kernel_rfl
theorem hb170 : hasBody Try.prog 170 = true := by kernel_rfl

theorem isNaN_c (x : Int) : ACall Try.prog 170 [.int .i64 x] [] (.bool false) [] := by
  refine ACall.intro Try.func170 rfl (N := 6) rfl (by decide) (by simp) ?_
  refine a_seq ?_
  refine a_region ?_
  refine r_val (v := .bool _) (v_assign (.inl rfl) (noOwn_flat rfl)) rfl rfl (by decide) ?_
  refine r_nil ?_
  refine a_seq ?_
  refine a_region ?_
  refine r_val (v := .int _ _) (v_move (.inl rfl) (noOwn_flat rfl)) rfl rfl (by decide) ?_
  refine r_val (v := .int _ _) (v_move (.inl rfl) (noOwn_flat rfl)) rfl rfl (by decide) ?_
  refine r_val (v := .bool _) (v_neq (.inl rfl) (.inl rfl)) rfl rfl (by decide) ?_
  refine r_val (v := .bool _) (v_assign (.inl rfl) (noOwn_flat rfl)) rfl rfl (by decide) ?_
  refine r_nil ?_
  refine a_ret ?_
  refine ret1 Try.results170 (by decide) (by decide) (Weak.of_eq (bool_eq ?_)) rfl Leaves.nil
  simp

theorem cmp_c (x y : Int) : ACall Try.prog 154 [.int .i64 x, .int .i64 y] [] (.int .i64 (cmpI x y)) [] := by
  refine ACall.intro Try.func154 rfl (N := 20) rfl (by decide) (by simp) ?_
  refine a_seq ?_
  refine a_region ?_
  refine r_val (v := .int _ _) (v_assign (.inl rfl) (noOwn_flat rfl)) rfl rfl (by decide) ?_
  refine r_nil ?_
  refine a_seq ?_
  refine a_region ?_
  refine r_val (v := .int _ _) (v_move (.inl rfl) (noOwn_flat rfl)) rfl rfl (by decide) ?_
  refine r_new (v := .bool _) (q_call (vs := [.int _ _]) (args := [.int .i64 _]) hb170 ⟨.inl rfl, trivial⟩ rfl (fun hA => isNaN_c _) rfl rfl) rfl rfl (by decide) ?_
  refine r_val (v := .bool _) (v_assign (.inl rfl) (noOwn_flat rfl)) rfl rfl (by decide) ?_
  refine r_nil ?_
  refine a_seq ?_
  refine a_region ?_
  refine r_val (v := .int _ _) (v_move (.inl rfl) (noOwn_flat rfl)) rfl rfl (by decide) ?_
  refine r_new (v := .bool _) (q_call (vs := [.int _ _]) (args := [.int .i64 _]) hb170 ⟨.inl rfl, trivial⟩ rfl (fun hA => isNaN_c _) rfl rfl) rfl rfl (by decide) ?_
  refine r_val (v := .bool _) (v_assign (.inl rfl) (noOwn_flat rfl)) rfl rfl (by decide) ?_
  refine r_nil ?_
  refine a_seq ?_
  refine a_seq ?_
  refine a_region ?_
  refine r_val (v := .bool _) (v_move (.inl rfl) (noOwn_flat rfl)) rfl rfl (by decide) ?_
  refine r_nil ?_
  refine a_cond rfl (fun ht11 => ?_) (fun ht11 => ?_)
  ·
    skip
    refine a_seq ?_
    refine a_seq ?_
    refine a_region ?_
    refine r_val (v := .bool _) (v_move (.inl rfl) (noOwn_flat rfl)) rfl rfl (by decide) ?_
    refine r_nil ?_
    refine a_cond rfl (fun ht12 => ?_) (fun ht12 => ?_)
    ·
      skip
      refine a_seq ?_
      refine a_region ?_
      refine r_val (v := .int _ _) (v_assign (.inl rfl) (noOwn_flat rfl)) rfl rfl (by decide) ?_
      refine r_nil ?_
      refine a_ret ?_
      refine ret1 Try.results154 (by decide) (by decide) (Weak.of_eq (int_eq ?_)) rfl Leaves.nil
      exact absurd ht11 (by simp)
    ·
      skip
      refine a_skip ?_
      refine a_seq ?_
      refine a_region ?_
      refine r_val (v := .int _ _) (v_assign (.inl rfl) (noOwn_flat rfl)) rfl rfl (by decide) ?_
      refine r_nil ?_
      refine a_ret ?_
      refine ret1 Try.results154 (by decide) (by decide) (Weak.of_eq (int_eq ?_)) rfl Leaves.nil
      exact absurd ht11 (by simp)
  ·
    skip
    refine a_skip ?_
    refine a_seq ?_
    refine a_seq ?_
    refine a_region ?_
    refine r_val (v := .bool _) (v_move (.inl rfl) (noOwn_flat rfl)) rfl rfl (by decide) ?_
    refine r_nil ?_
    refine a_cond rfl (fun ht13 => ?_) (fun ht13 => ?_)
    ·
      skip
      refine a_seq ?_
      refine a_region ?_
      refine r_val (v := .int _ _) (v_assign (.inl rfl) (noOwn_flat rfl)) rfl rfl (by decide) ?_
      refine r_nil ?_
      refine a_ret ?_
      refine ret1 Try.results154 (by decide) (by decide) (Weak.of_eq (int_eq ?_)) rfl Leaves.nil
      exact absurd ht13 (by simp)
    ·
      skip
      refine a_skip ?_
      refine a_seq ?_
      refine a_seq ?_
      refine a_region ?_
      refine r_val (v := .int _ _) (v_move (.inl rfl) (noOwn_flat rfl)) rfl rfl (by decide) ?_
      refine r_val (v := .int _ _) (v_move (.inl rfl) (noOwn_flat rfl)) rfl rfl (by decide) ?_
      refine r_val (v := .bool _) (v_lss (.inl rfl) (.inl rfl)) rfl rfl (by decide) ?_
      refine r_nil ?_
      refine a_cond rfl (fun ht16 => ?_) (fun ht16 => ?_)
      ·
        skip
        refine a_seq ?_
        refine a_region ?_
        refine r_val (v := .int _ _) (v_assign (.inl rfl) (noOwn_flat rfl)) rfl rfl (by decide) ?_
        refine r_nil ?_
        refine a_ret ?_
        refine ret1 Try.results154 (by decide) (by decide) (Weak.of_eq (int_eq ?_)) rfl Leaves.nil
        unfold cmpI; rw [if_pos (by simpa using ht16)]
      ·
        skip
        refine a_skip ?_
        refine a_seq ?_
        refine a_seq ?_
        refine a_region ?_
        refine r_val (v := .int _ _) (v_move (.inl rfl) (noOwn_flat rfl)) rfl rfl (by decide) ?_
        refine r_val (v := .int _ _) (v_move (.inl rfl) (noOwn_flat rfl)) rfl rfl (by decide) ?_
        refine r_val (v := .bool _) (v_gtr (.inl rfl) (.inl rfl)) rfl rfl (by decide) ?_
        refine r_nil ?_
        refine a_cond rfl (fun ht19 => ?_) (fun ht19 => ?_)
        ·
          skip
          refine a_seq ?_
          refine a_region ?_
          refine r_val (v := .int _ _) (v_assign (.inl rfl) (noOwn_flat rfl)) rfl rfl (by decide) ?_
          refine r_nil ?_
          refine a_ret ?_
          refine ret1 Try.results154 (by decide) (by decide) (Weak.of_eq (int_eq ?_)) rfl Leaves.nil
          unfold cmpI; rw [if_neg (by simpa using ht16), if_pos (by simpa using ht19)]
        ·
          skip
          refine a_skip ?_
          refine a_seq ?_
          refine a_region ?_
          refine r_val (v := .int _ _) (v_assign (.inl rfl) (noOwn_flat rfl)) rfl rfl (by decide) ?_
          refine r_nil ?_
          refine a_ret ?_
          refine ret1 Try.results154 (by decide) (by decide) (Weak.of_eq (int_eq ?_)) rfl Leaves.nil
          unfold cmpI; rw [if_neg (by simpa using ht16), if_neg (by simpa using ht19)]

theorem or_c (l : List Int) (hl : (l.length : Int) ≤ 9223372036854775807) : ACall Try.prog 153 [.sl (icells l) l.length] [] (.int .i64 (orL l)) [] := by
  refine ACall.intro Try.func153 rfl (N := 18) rfl (by decide) (by simp) ?_
  refine a_seq ?_
  refine a_region ?_
  refine r_val (v := .int _ _) (v_assign (.inl rfl) (noOwn_flat rfl)) rfl rfl (by decide) ?_
  refine r_nil ?_
  refine a_seq ?_
  refine a_region ?_
  refine r_val (v := .int _ _) (v_assign (.inl rfl) (noOwn_flat rfl)) rfl rfl (by decide) ?_
  refine r_nil ?_
  refine a_seq ?_
  refine a_seq ?_
  refine a_region ?_
  refine r_val (v := .sl _ _) (v_move (.inl rfl) (noOwn_flat rfl)) rfl rfl (by decide) ?_
  refine r_val (v := .int _ _) (v_len_sl sl25 (.inl rfl)) rfl rfl (by decide) ?_
  refine r_val (v := .int _ _) (v_move (.inl rfl) (noOwn_flat rfl)) rfl rfl (by decide) ?_
  refine r_nil ?_
  refine a_block ?_
  refine a_loop (X := Nat) (fun i => look [(3, .int .i64 0), (6, .sl (icells l) l.length), (7, .int .i64 (l.length : Int)), (8, .int .i64 (i : Int))]) (fun i => i ≤ l.length ∧ orL (l.drop i) = orL l) (fun i => l.length - i) 0 (ent_look ⟨Weak.of_eq rfl, Weak.of_eq rfl, Weak.of_eq rfl, Weak.of_eq rfl, trivial⟩) ⟨Nat.zero_le _, rfl⟩ (fun i hG => ?_)
  obtain ⟨h1, h2⟩ := hG
  refine a_seq ?_
  refine a_region ?_
  refine r_val (v := .bool _) (v_lss (.inl rfl) (.inl rfl)) rfl rfl (by decide) ?_
  refine r_nil ?_
  refine a_seq ?_
  refine a_cond rfl (fun ht9 => ?_) (fun ht9 => ?_)
  ·
    skip
    refine a_skip ?_
    refine a_seq ?_
    refine a_block ?_
    refine a_seq ?_
    have hi : i < l.length := (by simp at ht9; omega)
    refine a_region ?_
    refine r_val (v := .pp _ _) (v_indexAddr_sl es25 (.inl rfl) (.inl rfl) (fun _ => ⟨by omega, by omega, icells_ne hi⟩)) rfl rfl (by decide) ?_
    refine r_val (v := .int .i64 (gd l i)) (v_load_pp ta3 (.inl rfl) (fun _ => by rw [Nat.mul_one]; exact icells_get (gd_get hi)) rfl) rfl rfl (by decide) ?_
    refine r_val (v := .int _ _) (v_assign (.inl rfl) (noOwn_flat rfl)) rfl rfl (by decide) ?_
    refine r_nil ?_
    refine a_seq ?_
    refine a_region ?_
    refine r_val (v := .int _ _) (v_move (.inl rfl) (noOwn_flat rfl)) rfl rfl (by decide) ?_
    refine r_val (v := .int _ _) (v_move (.inl rfl) (noOwn_flat rfl)) rfl rfl (by decide) ?_
    refine r_val (v := .bool _) (v_neq (.inl rfl) (.inl rfl)) rfl rfl (by decide) ?_
    refine r_nil ?_
    refine a_cond rfl (fun ht14 => ?_) (fun ht14 => ?_)
    ·
      skip
      refine a_seq ?_
      refine a_region ?_
      refine r_val (v := .int _ _) (v_move (.inl rfl) (noOwn_flat rfl)) rfl rfl (by decide) ?_
      refine r_val (v := .int _ _) (v_assign (.inl rfl) (noOwn_flat rfl)) rfl rfl (by decide) ?_
      refine r_nil ?_
      refine a_ret ?_
      refine ret1 Try.results153 (by decide) (by decide) (Weak.of_eq (int_eq ?_)) rfl Leaves.nil
      rw [← h2, orL_drop hi, if_pos (by simpa using ht14)]
    ·
      skip
      refine a_skip ?_
      refine a_region ?_
      refine r_val (v := .int _ _) (v_add (.inl rfl) (.inl rfl) (fun _ => by omega)) rfl rfl (by decide) ?_
      refine r_val (v := .int _ _) (v_move (.inl rfl) (noOwn_flat rfl)) rfl rfl (by decide) ?_
      refine r_nil ?_
      refine ⟨i + 1, ent_look ⟨Weak.of_eq rfl, Weak.of_eq rfl, Weak.of_eq rfl, Weak.of_eq (int_eq (by omega)), trivial⟩, ⟨by omega, by rw [← h2, orL_drop hi, if_neg (by simpa using ht14)]⟩, by omega⟩
  ·
    skip
    refine a_exit ?_
    refine a_seq ?_
    refine a_region ?_
    refine r_val (v := .int _ _) (v_move (.inl rfl) (noOwn_flat rfl)) rfl rfl (by decide) ?_
    refine r_val (v := .int _ _) (v_assign (.inl rfl) (noOwn_flat rfl)) rfl rfl (by decide) ?_
    refine r_nil ?_
    refine a_ret ?_
    refine ret1 Try.results153 (by decide) (by decide) (Weak.of_eq (int_eq ?_)) rfl Leaves.nil
    rw [← h2, show l.drop i = [] from List.drop_eq_nil_of_le (by simp at ht9; omega)]; rfl

end Go.Av
namespace Go.Av
open Go Go.Proofs Go.Sort
set_option maxRecDepth 10000


end Go.Av
namespace Go.Av
open Go Go.Proofs Go.Sort
set_option maxRecDepth 10000
theorem hb131 : hasBody Try.prog 131 = true := by kernel_rfl
end Go.Av
namespace Go.Av
open Go

section mixing
end mixing

abbrev EffsX := List (List (Nat × Bool))
end Go.Av
namespace Go.Av
open Go
section
variable {P : Program} {N : Nat} {A : Bool} {σ : Sig} {ty : TypeId} {x : Operand}
theorem v_convA {s d : Nat} {k k' : IntKind} {n : Int} (hs : (P.underlying s).isSome = true) (hd : P.underlying d = some (.int k')) (hx : RdTo N A σ x (.int k n)) :
    VSem P N A (.convert s d x) ty σ (slots x) (.int k' (k'.wrap n)) :=
  ⟨noOwn_scalar rfl, fun hA σ' hD gv e ac w β F hi p o' ho hty => by
    have ex := hx.rep hA hD hi p
    simp only [Rep] at ex
    refine ⟨.int k' (k'.wrap n), ?_, by simp [Rep]⟩
    obtain ⟨u, hu⟩ := Option.isSome_iff_exists.1 hs
    simp [execOp, ho, convert, run_underlying hu, run_underlying hd, ex, Conv.intToInt]⟩
end
end Go.Av
namespace Go.Av
open Go
section
variable {P : Program} {N : Nat} {A : Bool} {σ : Sig} {ty : TypeId} {x y : Operand} {xt yt : TypeId}
theorem v_andw {m n : Int} (hx : RdTo N A σ x (.int .u64 m)) (hy : RdTo N A σ y (.int .u64 n))
    (hb : A = true → (0 ≤ m ∧ m < 18446744073709551616) ∧ 0 ≤ n ∧ n < 18446744073709551616) :
    VSem P N A (.binOp .and xt x y yt) ty σ (slots x ++ slots y) (.int .u64 ((m.toNat &&& n.toNat : Nat) : Int)) :=
  v_bin hx hy rfl rep_int fun hA w => by
    obtain ⟨h1, h2⟩ := hb hA
    have hle : m.toNat &&& n.toNat ≤ m.toNat := Nat.and_le_left
    have e : IntKind.u64.wrap ((m.toNat &&& n.toNat : Nat) : Int) = ((m.toNat &&& n.toNat : Nat) : Int) := IntWalk.u64_in _ (by omega)
    have em : (BitVec.ofInt 64 m).toNat = m.toNat := by
      have := bv_nat64 (m := m.toNat) (by omega); rwa [Int.toNat_of_nonneg h1.1] at this
    have en : (BitVec.ofInt 64 n).toNat = n.toNat := by
      have := bv_nat64 (m := n.toNat) (by omega); rwa [Int.toNat_of_nonneg h2.1] at this
    have e1 : (BitVec.ofInt IntKind.u64.bits m &&& BitVec.ofInt IntKind.u64.bits n).toNat = m.toNat &&& n.toNat := by
      show (BitVec.ofInt 64 m &&& BitVec.ofInt 64 n).toNat = _
      rw [BitVec.toNat_and, em, en]
    simp only [binOp, Op.intBits, e1, e]
    simp
end
end Go.Av
namespace Go.Av
open Go Go.Proofs Go.Sort
set_option maxRecDepth 10000
theorem hb130 : hasBody Try.prog 130 = true := by kernel_rfl
theorem hb132 : hasBody Try.prog 132 = true := by kernel_rfl

theorem ones64A_c (n : Nat) (h : n < 18446744073709551616) : ACall Try.prog 159 [.int .u64 ((n : Nat) : Int)] [] (.int .i64 ((oc n : Nat) : Int)) [] := by
  have c1 : n / 2 &&& 6148914691236517205 ≤ 6148914691236517205 := Nat.and_le_right
  have c2 : n &&& 6148914691236517205 ≤ 6148914691236517205 := Nat.and_le_right
  have b1 : (oc1 n) = (n / 2 &&& 6148914691236517205) + (n &&& 6148914691236517205) := rfl
  have c3 : (oc1 n) / 4 &&& 3689348814741910323 ≤ 3689348814741910323 := Nat.and_le_right
  have c4 : (oc1 n) &&& 3689348814741910323 ≤ 3689348814741910323 := Nat.and_le_right
  have b2 : (oc2 (oc1 n)) = ((oc1 n) / 4 &&& 3689348814741910323) + ((oc1 n) &&& 3689348814741910323) := rfl
  have c5 : (oc3 (oc2 (oc1 n))) ≤ 1085102592571150095 := Nat.and_le_right
  have b4 : (oc4 (oc3 (oc2 (oc1 n)))) = (oc3 (oc2 (oc1 n))) + (oc3 (oc2 (oc1 n))) / 256 := rfl
  have b5 : (oc5 (oc4 (oc3 (oc2 (oc1 n))))) = (oc4 (oc3 (oc2 (oc1 n)))) + (oc4 (oc3 (oc2 (oc1 n)))) / 65536 := rfl
  have b6 : (oc6 (oc5 (oc4 (oc3 (oc2 (oc1 n)))))) = (oc5 (oc4 (oc3 (oc2 (oc1 n))))) + (oc5 (oc4 (oc3 (oc2 (oc1 n))))) / 4294967296 := rfl
  refine ACall.intro Try.func159 rfl (N := 35) rfl (by decide) (by simp) ?_
  refine a_seq ?_
  refine a_region ?_
  refine r_val (v := .int _ _) (v_assign (.inl rfl) (noOwn_flat rfl)) rfl rfl (by decide) ?_
  refine r_nil ?_
  refine a_seq ?_
  refine a_region ?_
  refine r_val (v := .int _ _) (v_move (.inl rfl) (noOwn_flat rfl)) rfl rfl (by decide) ?_
  refine r_val (v := .int .u64 ((n / 2 : Nat) : Int)) ((v_shru (.inl rfl) (.inl rfl) (fun _ => by omega)).cast (int_eq (by simp))) rfl rfl (by decide) ?_
  refine r_val (v := .int .u64 ((n / 2 &&& 6148914691236517205 : Nat) : Int)) ((v_andw (.inl rfl) (.inl rfl) (fun _ => by omega)).cast (int_eq rfl)) rfl rfl (by decide) ?_
  refine r_val (v := .int _ _) (v_move (.inl rfl) (noOwn_flat rfl)) rfl rfl (by decide) ?_
  refine r_val (v := .int .u64 ((n &&& 6148914691236517205 : Nat) : Int)) ((v_andw (.inl rfl) (.inl rfl) (fun _ => by omega)).cast (int_eq rfl)) rfl rfl (by decide) ?_
  refine r_val (v := .int .u64 (((oc1 n) : Nat) : Int)) ((v_addu (.inl rfl) (.inl rfl) (fun _ => by omega)).cast (int_eq rfl)) rfl rfl (by decide) ?_
  refine r_val (v := .int _ _) (v_assign (.inl rfl) (noOwn_flat rfl)) rfl rfl (by decide) ?_
  refine r_nil ?_
  refine a_seq ?_
  refine a_region ?_
  refine r_val (v := .int _ _) (v_move (.inl rfl) (noOwn_flat rfl)) rfl rfl (by decide) ?_
  refine r_val (v := .int .u64 (((oc1 n) / 4 : Nat) : Int)) ((v_shru (.inl rfl) (.inl rfl) (fun _ => by omega)).cast (int_eq (by simp))) rfl rfl (by decide) ?_
  refine r_val (v := .int .u64 (((oc1 n) / 4 &&& 3689348814741910323 : Nat) : Int)) ((v_andw (.inl rfl) (.inl rfl) (fun _ => by omega)).cast (int_eq rfl)) rfl rfl (by decide) ?_
  refine r_val (v := .int _ _) (v_move (.inl rfl) (noOwn_flat rfl)) rfl rfl (by decide) ?_
  refine r_val (v := .int .u64 (((oc1 n) &&& 3689348814741910323 : Nat) : Int)) ((v_andw (.inl rfl) (.inl rfl) (fun _ => by omega)).cast (int_eq rfl)) rfl rfl (by decide) ?_
  refine r_val (v := .int .u64 (((oc2 (oc1 n)) : Nat) : Int)) ((v_addu (.inl rfl) (.inl rfl) (fun _ => by omega)).cast (int_eq rfl)) rfl rfl (by decide) ?_
  refine r_val (v := .int _ _) (v_assign (.inl rfl) (noOwn_flat rfl)) rfl rfl (by decide) ?_
  refine r_nil ?_
  refine a_seq ?_
  refine a_region ?_
  refine r_val (v := .int _ _) (v_move (.inl rfl) (noOwn_flat rfl)) rfl rfl (by decide) ?_
  refine r_val (v := .int .u64 (((oc2 (oc1 n)) / 16 : Nat) : Int)) ((v_shru (.inl rfl) (.inl rfl) (fun _ => by omega)).cast (int_eq (by simp))) rfl rfl (by decide) ?_
  refine r_val (v := .int _ _) (v_move (.inl rfl) (noOwn_flat rfl)) rfl rfl (by decide) ?_
  refine r_val (v := .int .u64 (((oc2 (oc1 n)) / 16 + (oc2 (oc1 n)) : Nat) : Int)) ((v_addu (.inl rfl) (.inl rfl) (fun _ => by omega)).cast (int_eq rfl)) rfl rfl (by decide) ?_
  refine r_val (v := .int .u64 (((oc3 (oc2 (oc1 n))) : Nat) : Int)) ((v_andw (.inl rfl) (.inl rfl) (fun _ => by omega)).cast (int_eq rfl)) rfl rfl (by decide) ?_
  refine r_val (v := .int _ _) (v_assign (.inl rfl) (noOwn_flat rfl)) rfl rfl (by decide) ?_
  refine r_nil ?_
  refine a_seq ?_
  refine a_region ?_
  refine r_val (v := .int _ _) (v_move (.inl rfl) (noOwn_flat rfl)) rfl rfl (by decide) ?_
  refine r_val (v := .int _ _) (v_move (.inl rfl) (noOwn_flat rfl)) rfl rfl (by decide) ?_
  refine r_val (v := .int .u64 (((oc3 (oc2 (oc1 n))) / 256 : Nat) : Int)) ((v_shru (.inl rfl) (.inl rfl) (fun _ => by omega)).cast (int_eq (by simp))) rfl rfl (by decide) ?_
  refine r_val (v := .int .u64 (((oc4 (oc3 (oc2 (oc1 n)))) : Nat) : Int)) ((v_addu (.inl rfl) (.inl rfl) (fun _ => by omega)).cast (int_eq rfl)) rfl rfl (by decide) ?_
  refine r_val (v := .int _ _) (v_assign (.inl rfl) (noOwn_flat rfl)) rfl rfl (by decide) ?_
  refine r_nil ?_
  refine a_seq ?_
  refine a_region ?_
  refine r_val (v := .int _ _) (v_move (.inl rfl) (noOwn_flat rfl)) rfl rfl (by decide) ?_
  refine r_val (v := .int _ _) (v_move (.inl rfl) (noOwn_flat rfl)) rfl rfl (by decide) ?_
  refine r_val (v := .int .u64 (((oc4 (oc3 (oc2 (oc1 n)))) / 65536 : Nat) : Int)) ((v_shru (.inl rfl) (.inl rfl) (fun _ => by omega)).cast (int_eq (by simp))) rfl rfl (by decide) ?_
  refine r_val (v := .int .u64 (((oc5 (oc4 (oc3 (oc2 (oc1 n))))) : Nat) : Int)) ((v_addu (.inl rfl) (.inl rfl) (fun _ => by omega)).cast (int_eq rfl)) rfl rfl (by decide) ?_
  refine r_val (v := .int _ _) (v_assign (.inl rfl) (noOwn_flat rfl)) rfl rfl (by decide) ?_
  refine r_nil ?_
  refine a_seq ?_
  refine a_pre (ent_look (L := [(0, .int _ _), (2, .int _ _)]) ⟨Weak.rfl, Weak.rfl, trivial⟩) ?_
  refine a_region ?_
  refine r_val (v := .int _ _) (v_move (.inl rfl) (noOwn_flat rfl)) rfl rfl (by decide) ?_
  refine r_val (v := .int _ _) (v_move (.inl rfl) (noOwn_flat rfl)) rfl rfl (by decide) ?_
  refine r_val (v := .int .u64 (((oc5 (oc4 (oc3 (oc2 (oc1 n))))) / 4294967296 : Nat) : Int)) ((v_shru (.inl rfl) (.inl rfl) (fun _ => by omega)).cast (int_eq (by simp))) rfl rfl (by decide) ?_
  refine r_val (v := .int .u64 (((oc6 (oc5 (oc4 (oc3 (oc2 (oc1 n)))))) : Nat) : Int)) ((v_addu (.inl rfl) (.inl rfl) (fun _ => by omega)).cast (int_eq rfl)) rfl rfl (by decide) ?_
  refine r_val (v := .int _ _) (v_assign (.inl rfl) (noOwn_flat rfl)) rfl rfl (by decide) ?_
  refine r_nil ?_
  refine a_seq ?_
  refine a_region ?_
  refine r_val (v := .int _ _) (v_move (.inl rfl) (noOwn_flat rfl)) rfl rfl (by decide) ?_
  refine r_val (v := .int _ _) (v_conv iss159 uni3 (.inl rfl) (fun _ => by first | rfl | exact IntWalk.i64_in _ (by omega))) rfl rfl (by decide) ?_
  refine r_val (v := .int _ _) (v_and (.inl rfl) (.inl rfl) (fun _ => by omega)) rfl rfl (by decide) ?_
  refine r_val (v := .int _ _) (v_assign (.inl rfl) (noOwn_flat rfl)) rfl rfl (by decide) ?_
  refine r_nil ?_
  refine a_ret ?_
  refine ret1 Try.results159 (by decide) (by decide) (Weak.of_eq (int_eq ?_)) rfl Leaves.nil
  rfl

theorem onesA_c (n : Nat) (h : n < 18446744073709551616) : ACall Try.prog 150 [.int .u64 ((n : Nat) : Int)] [] (.int .i64 ((oc n : Nat) : Int)) [] := by
  refine ACall.intro Try.func150 rfl (N := 8) rfl (by decide) (by simp) ?_
  refine a_seq ?_
  refine a_region ?_
  refine r_val (v := .int _ _) (v_assign (.inl rfl) (noOwn_flat rfl)) rfl rfl (by decide) ?_
  refine r_nil ?_
  refine a_seq ?_
  refine a_condF ?_
  refine a_skip ?_
  refine a_seq ?_
  refine a_region ?_
  refine r_val (v := .int _ _) (v_move (.inl rfl) (noOwn_flat rfl)) rfl rfl (by decide) ?_
  refine r_new (v := .int _ _) (q_call (vs := [.int _ _]) (args := [.int .u64 ((_ : Nat) : Int)]) hb159 ⟨.inl rfl, trivial⟩ rfl (fun hA => ones64A_c _ h) rfl rfl) rfl rfl (by decide) ?_
  refine r_val (v := .int _ _) (v_assign (.inl rfl) (noOwn_flat rfl)) rfl rfl (by decide) ?_
  refine r_nil ?_
  refine a_ret ?_
  refine ret1 Try.results150 (by decide) (by decide) (Weak.of_eq (int_eq ?_)) rfl Leaves.nil
  rfl

theorem degreeA_c (x : Int) : ACall Try.prog 130 [.int .i64 x] [] (.int .i64 ((ocZ x : Nat) : Int)) [] := by
  refine ACall.intro Try.func130 rfl (N := 6) rfl (by decide) (by simp) ?_
  refine a_seq ?_
  refine a_region ?_
  refine r_val (v := .int _ _) (v_assign (.inl rfl) (noOwn_flat rfl)) rfl rfl (by decide) ?_
  refine r_nil ?_
  refine a_seq ?_
  refine a_region ?_
  refine r_val (v := .int _ _) (v_move (.inl rfl) (noOwn_flat rfl)) rfl rfl (by decide) ?_
  refine r_val (v := .int .u64 ((u64N x : Nat) : Int)) ((v_convA iss3 uni152 (.inl rfl)).cast (int_eq (u64N_cast x))) rfl rfl (by decide) ?_
  refine r_new (v := .int _ _) (q_call (vs := [.int _ _]) (args := [.int .u64 ((_ : Nat) : Int)]) hb150 ⟨.inl rfl, trivial⟩ rfl (fun hA => onesA_c _ (u64N_lt x)) rfl rfl) rfl rfl (by decide) ?_
  refine r_val (v := .int _ _) (v_assign (.inl rfl) (noOwn_flat rfl)) rfl rfl (by decide) ?_
  refine r_nil ?_
  refine a_ret ?_
  refine ret1 Try.results130 (by decide) (by decide) (Weak.of_eq (int_eq ?_)) rfl Leaves.nil
  rfl

theorem cmpMono_c (x y : Int) : ACall Try.prog 132 [.int .i64 x, .int .i64 y] [] (.int .i64 (cfMono x y)) [] := by
  refine ACall.intro Try.func132 rfl (N := 15) rfl (by decide) (by simp) ?_
  refine a_seq ?_
  refine a_region ?_
  refine r_val (v := .int _ _) (v_assign (.inl rfl) (noOwn_flat rfl)) rfl rfl (by decide) ?_
  refine r_nil ?_
  refine a_seq ?_
  refine a_region ?_
  refine r_val (v := .int _ _) (v_move (.inl rfl) (noOwn_flat rfl)) rfl rfl (by decide) ?_
  refine r_new (v := .int _ _) (q_call (vs := [.int _ _]) (args := [.int .i64 _]) hb130 ⟨.inl rfl, trivial⟩ rfl (fun hA => degreeA_c _) rfl rfl) rfl rfl (by decide) ?_
  refine r_val (v := .int _ _) (v_move (.inl rfl) (noOwn_flat rfl)) rfl rfl (by decide) ?_
  refine r_new (v := .int _ _) (q_call (vs := [.int _ _]) (args := [.int .i64 _]) hb130 ⟨.inl rfl, trivial⟩ rfl (fun hA => degreeA_c _) rfl rfl) rfl rfl (by decide) ?_
  refine r_new (v := .int _ _) (q_call (vs := [.int _ _, .int _ _]) (args := [.int .i64 _, .int .i64 _]) hb154 ⟨.inl rfl, .inl rfl, trivial⟩ rfl (fun hA => cmp_c _ _) rfl rfl) rfl rfl (by decide) ?_
  refine r_val (v := .int _ _) (v_move (.inl rfl) (noOwn_flat rfl)) rfl rfl (by decide) ?_
  refine r_val (v := .int _ _) (v_move (.inl rfl) (noOwn_flat rfl)) rfl rfl (by decide) ?_
  refine r_new (v := .int _ _) (q_call (vs := [.int _ _, .int _ _]) (args := [.int .i64 _, .int .i64 _]) hb154 ⟨.inl rfl, .inl rfl, trivial⟩ rfl (fun hA => cmp_c _ _) rfl rfl) rfl rfl (by decide) ?_
  refine r_new (v := .osl 1 (icells [cmpI (ocZ x : Int) (ocZ y : Int), cmpI x y]) 2 (some 2)) (q_sliceLit (n := 2) (parts := [(0, .tmp 9), (1, .tmp 12)]) lt25 rfl rfl rfl rfl) rfl rfl (by decide) ?_
  refine r_new (v := .int _ _) (q_call (vs := [.rsl _ _ _ _ _]) (args := [.sl _ _]) hb153 ⟨.inl rfl, trivial⟩ (l1_eq (sl_sh (ic_pure _))) (fun hA => or_c [cmpI (ocZ x : Int) (ocZ y : Int), cmpI x y] (by simp)) rfl rfl) rfl rfl (by decide) ?_
  refine r_val (v := .int _ _) (v_assign (.inl rfl) (noOwn_flat rfl)) rfl rfl (by decide) ?_
  refine r_nil ?_
  refine a_ret ?_
  refine ret1 Try.results132 (by decide) (by decide) (Weak.of_eq (int_eq ?_)) rfl Leaves.nil
  rw [cfMono_eq]

theorem graded_c (v d : Nat) (hv : v ≤ 6) (hd : d ≤ 6) : ACall Try.prog 87 [.int .i64 ((v : Nat) : Int), .int .i64 ((d : Nat) : Int)] [] (.osl 1 (icells (gradS v d)) (gradS v d).length none) [] := by
  have hp6 := pow_le64 hv
  refine ACall.intro Try.func87 rfl (N := 24) rfl (by decide) (by simp) ?_
  refine a_seq ?_
  refine a_region ?_
  refine r_val (v := .nils) (v_assign (.inl rfl) (noOwn_flat rfl)) rfl rfl (by decide) ?_
  refine r_nil ?_
  refine a_seq ?_
  refine a_region ?_
  refine r_val (v := .nils) (v_assign (.inl rfl) (noOwn_flat rfl)) rfl rfl (by decide) ?_
  refine r_nil ?_
  refine a_seq ?_
  refine a_seq ?_
  refine a_region ?_
  refine r_val (v := .int _ _) (v_move (.inl rfl) (noOwn_flat rfl)) rfl rfl (by decide) ?_
  refine r_val (v := .int .i64 ((2 ^ v : Nat) : Int)) ((v_shl (.inl rfl) (.inl rfl) (fun _ => by have := pow6 (v := (v : Int)) (by omega); omega)).cast (int_eq (by rw [Int.toNat_natCast]; simp))) rfl rfl (by decide) ?_
  refine r_val (v := .int _ _) (v_move (.inl rfl) (noOwn_flat rfl)) rfl rfl (by decide) ?_
  refine r_nil ?_
  refine a_block ?_
  refine a_pre (ent_nil (t := 5) (sz := 1) (cap := none) (.inl rfl) (fun _ h => by cases h)) ?_
  refine a_loop (X := Nat) (fun i => look [(1, .int .i64 ((d : Nat) : Int)), (5, .osl 1 (icells (((List.range i).filter fun m => decide (cntN m ≤ d)).map (fun m : Nat => (m : Int)))) (((List.range i).filter fun m => decide (cntN m ≤ d)).map (fun m : Nat => (m : Int))).length none), (8, .int .i64 ((2 ^ v : Nat) : Int)), (9, .int .i64 ((i : Nat) : Int))]) (fun i => i ≤ 2 ^ v) (fun i => 2 ^ v - i) 0 (ent_look ⟨Weak.of_eq rfl, Weak.osl rfl rfl, Weak.of_eq rfl, Weak.of_eq rfl, trivial⟩) (Nat.zero_le _) (fun i hG => ?_)
  refine a_seq ?_
  refine a_region ?_
  refine r_val (v := .bool _) (v_lss (.inl rfl) (.inl rfl)) rfl rfl (by decide) ?_
  refine r_nil ?_
  refine a_seq ?_
  refine a_cond rfl (fun ht10 => ?_) (fun ht10 => ?_)
  ·
    skip
    refine a_skip ?_
    refine a_seq ?_
    refine a_block ?_
    refine a_seq ?_
    have hi : i < 2 ^ v := (by have := of_decide_eq_true ht10; omega)
    have hoc := ocZ_of (m := i) (by omega)
    refine a_region ?_
    refine r_val (v := .int _ _) (v_move (.inl rfl) (noOwn_flat rfl)) rfl rfl (by decide) ?_
    refine r_val (v := .int _ _) (v_assign (.inl rfl) (noOwn_flat rfl)) rfl rfl (by decide) ?_
    refine r_nil ?_
    refine a_seq ?_
    refine a_region ?_
    refine r_val (v := .int _ _) (v_move (.inl rfl) (noOwn_flat rfl)) rfl rfl (by decide) ?_
    refine r_new (v := .int _ _) (q_call (vs := [.int _ _]) (args := [.int .i64 _]) hb130 ⟨.inl rfl, trivial⟩ rfl (fun hA => degreeA_c _) rfl rfl) rfl rfl (by decide) ?_
    refine r_val (v := .int _ _) (v_move (.inl rfl) (noOwn_flat rfl)) rfl rfl (by decide) ?_
    refine r_val (v := .bool _) (v_leq (.inl rfl) (.inl rfl)) rfl rfl (by decide) ?_
    refine r_nil ?_
    refine a_cond rfl (fun ht15 => ?_) (fun ht15 => ?_)
    ·
      skip
      have hdg : decide (cntN i ≤ d) = true := (by simp at ht15; rw [decide_eq_true_iff]; omega)
      refine a_region ?_
      refine r_val (v := .rsl _ _ _ _ _) (v_move (.inl rfl) (noOwn_flat rfl)) rfl rfl (by decide) ?_
      refine r_val (v := .int _ _) (v_move (.inl rfl) (noOwn_flat rfl)) rfl rfl (by decide) ?_
      refine r_new (v := .osl 1 (icells [(i : Int)]) 1 (some 1)) (q_sliceLit (n := 1) (parts := [(0, .tmp 17)]) lt25 rfl rfl rfl rfl) rfl rfl (by decide) ?_
      refine r_pre (ent_reloc_sl (t := 16) rfl rfl) ?_
      refine r_step rfl (o_append rfl ap25 rfl (by decide) (by decide) rfl (src_lit (.inl rfl) rfl rfl (ic_pureL _)) (ic_cell _) (by rw [icells_length]; omega) (by have := List.length_filter_le (fun m => decide (cntN m ≤ d)) (List.range i); simp at this; simp; omega)) ?_
      refine r_val (v := .rsl _ _ _ _ _) (v_assign (.inl rfl) (noOwn_flat rfl)) rfl rfl (by decide) ?_
      refine r_pre (ent_reloc_sl (t := 5) rfl rfl) ?_
      refine r_nil ?_
      first | (have hdg : decide (cntN i ≤ d) = true := (by simp at ht15; rw [decide_eq_true_iff]; omega)) | (have hdg : decide (cntN i ≤ d) = false := (by simp at ht15; rw [decide_eq_false_iff_not]; omega))
      refine a_region ?_
      refine r_val (v := .int _ _) (v_add (.inl rfl) (.inl rfl) (fun _ => by omega)) rfl rfl (by decide) ?_
      refine r_val (v := .int _ _) (v_move (.inl rfl) (noOwn_flat rfl)) rfl rfl (by decide) ?_
      refine r_nil ?_
      refine ⟨i + 1, ent_look ⟨Weak.of_eq rfl, Weak.osl (by rw [filt_yes hdg]; simp [icells]) (by rw [filt_yes hdg]; simp), Weak.of_eq rfl, Weak.of_eq (int_eq (by omega)), trivial⟩, by omega, by omega⟩
    ·
      skip
      refine a_skip ?_
      first | (have hdg : decide (cntN i ≤ d) = true := (by simp at ht15; rw [decide_eq_true_iff]; omega)) | (have hdg : decide (cntN i ≤ d) = false := (by simp at ht15; rw [decide_eq_false_iff_not]; omega))
      refine a_region ?_
      refine r_val (v := .int _ _) (v_add (.inl rfl) (.inl rfl) (fun _ => by omega)) rfl rfl (by decide) ?_
      refine r_val (v := .int _ _) (v_move (.inl rfl) (noOwn_flat rfl)) rfl rfl (by decide) ?_
      refine r_nil ?_
      refine ⟨i + 1, ent_look ⟨Weak.of_eq rfl, Weak.osl (by rw [filt_no hdg]) (by rw [filt_no hdg]), Weak.of_eq rfl, Weak.of_eq (int_eq (by omega)), trivial⟩, by omega, by omega⟩
  ·
    skip
    refine a_exit ?_
    refine a_seq ?_
    refine a_pre (ent_eq (t := 5) (v' := .osl 1 (icells (gradL v d)) (gradL v d).length none) (Weak.osl (by have := of_decide_eq_false ht10; rw [show i = 2 ^ v by omega]; rfl) (by have := of_decide_eq_false ht10; rw [show i = 2 ^ v by omega]; rfl))) ?_
    have hln : (gradL v d).length ≤ 64 := (by have := List.length_filter_le (fun m => decide (cntN m ≤ d)) (List.range (2 ^ v)); unfold gradL; simp at this ⊢; omega)
    refine a_region ?_
    refine r_val (v := .rsl _ _ _ _ _) (v_move (.inl rfl) (noOwn_flat rfl)) rfl rfl (by decide) ?_
    refine r_step rfl (o_callIO (q := (5, [])) (vs := [.rsl _ _ _ _ _, .fn _ _ _]) (args := [.rsl (INH, []) _ _ _ _, .fn _ _ _]) (x0 := .osl _ _ _ _) (x1 := .osl _ _ _ _) (res := .tup []) rfl hb131 rfl (by decide) ⟨.inl rfl, .inl rfl, trivial⟩ rfl rfl (sortFunc_c 132 hb132 cfMono cmpMono_c cfMono_swo (gradL v d).toArray (gradL v d).length (by simp) (by omega)) rfl rfl rfl (ac_noSh _) (ac_noRef _) (Nat.le_of_ble_eq_true rfl) (by decide) rfl) ?_
    refine r_nil ?_
    refine a_seq ?_
    refine a_pre (ent_eq (t := 5) (v' := .osl 1 (icells (gradS v d)) (gradS v d).length none) (Weak.osl (by unfold acells; rw [grad_eq hv]) (by rw [← grad_eq hv]; simp [sort_sz cfMono_swo]))) ?_
    refine a_region ?_
    refine r_val (v := .rsl _ _ _ _ _) (v_move (.inl rfl) (noOwn_flat rfl)) rfl rfl (by decide) ?_
    refine r_val (v := .rsl _ _ _ _ _) (v_assign (.inl rfl) (noOwn_flat rfl)) rfl rfl (by decide) ?_
    refine r_pre (ent_reloc_sl (t := 4) rfl rfl) ?_
    refine r_nil ?_
    refine a_ret ?_
    refine ret1 Try.results87 (by decide) (by decide) (Weak.osl ?_ ?_) rfl Leaves.nil
    · rfl
    · rfl
end Go.Av
namespace Go.Av
open Go Go.Proofs Go.Sort
set_option maxRecDepth 10000
theorem hb22 : hasBody Try.prog 22 = true := by kernel_rfl
theorem hb42 : hasBody Try.prog 42 = true := by kernel_rfl
theorem hb43 : hasBody Try.prog 43 = true := by kernel_rfl
theorem un4 : Try.prog.underlying 4 = some .bool := by kernel_rfl

end Go.Av
namespace Go.Av
open Go Go.Proofs Go.Sort
set_option maxRecDepth 10000
theorem hb129 : hasBody Try.prog 129 = true := by kernel_rfl
theorem hb40 : hasBody Try.prog 40 = true := by kernel_rfl
theorem hb41 : hasBody Try.prog 41 = true := by kernel_rfl
theorem hb86 : hasBody Try.prog 86 = true := by kernel_rfl
theorem hb87 : hasBody Try.prog 87 = true := by kernel_rfl

theorem cnt_c (n : Nat) (h : n < 64) : ACall Try.prog 129 [.int .i64 ((n : Nat) : Int)] [] (.int .i64 ((cntN n : Nat) : Int)) [] := by
  refine ACall.intro Try.func129 rfl (N := 13) rfl (by decide) (by simp) ?_
  refine a_seq ?_
  refine a_region ?_
  refine r_val (v := .int _ _) (v_assign (.inl rfl) (noOwn_flat rfl)) rfl rfl (by decide) ?_
  refine r_nil ?_
  refine a_seq ?_
  refine a_region ?_
  refine r_val (v := .int _ _) (v_assign (.inl rfl) (noOwn_flat rfl)) rfl rfl (by decide) ?_
  refine r_nil ?_
  refine a_seq ?_
  refine a_block ?_
  refine a_loop (X := (Nat × Nat × Nat)) (fun x => look [(0, .int .i64 ((x.2.1 : Nat) : Int)), (3, .int .i64 ((x.2.2 : Nat) : Int))]) (fun x => x.2.1 < 2 ^ x.1 ∧ x.1 ≤ 7 ∧ x.2.2 + cntB x.1 x.2.1 = cntN n ∧ x.2.2 + x.1 ≤ 7 ∧ x.2.1 ≤ 63) (fun x => x.2.1) (7, n, 0) (ent_look ⟨Weak.of_eq rfl, Weak.of_eq rfl, trivial⟩) ⟨by dsimp only; omega, Nat.le_refl _, by dsimp only; rw [Nat.zero_add]; rfl, by dsimp only; omega, by dsimp only; omega⟩ (fun x hG => ?_)
  obtain ⟨g1, g2, g3, g4, g5⟩ := hG
  refine a_seq ?_
  refine a_seq ?_
  refine a_region ?_
  refine r_val (v := .int _ _) (v_move (.inl rfl) (noOwn_flat rfl)) rfl rfl (by decide) ?_
  refine r_val (v := .bool _) (v_gtr (.inl rfl) (.inl rfl)) rfl rfl (by decide) ?_
  refine r_nil ?_
  refine a_cond rfl (fun ht5 => ?_) (fun ht5 => ?_)
  ·
    skip
    refine a_skip ?_
    refine a_seq ?_
    refine a_block ?_
    have hx0 : 0 < x.2.1 := (by simp at ht5; omega)
    have hst := cntB_step hx0 g1
    refine a_region ?_
    refine r_val (v := .int _ _) (v_move (.inl rfl) (noOwn_flat rfl)) rfl rfl (by decide) ?_
    refine r_val (v := .int _ _) (v_move (.inl rfl) (noOwn_flat rfl)) rfl rfl (by decide) ?_
    refine r_val (v := .int _ _) (v_rem (.inl rfl) (.inl rfl) (fun _ => by omega)) rfl rfl (by decide) ?_
    refine r_val (v := .int _ _) (v_add (.inl rfl) (.inl rfl) (fun _ => by omega)) rfl rfl (by decide) ?_
    refine r_val (v := .int _ _) (v_assign (.inl rfl) (noOwn_flat rfl)) rfl rfl (by decide) ?_
    refine r_nil ?_
    refine a_region ?_
    refine r_val (v := .int _ _) (v_move (.inl rfl) (noOwn_flat rfl)) rfl rfl (by decide) ?_
    refine r_val (v := .int _ _) (v_quo (.inl rfl) (.inl rfl) (fun _ => by omega)) rfl rfl (by decide) ?_
    refine r_val (v := .int _ _) (v_assign (.inl rfl) (noOwn_flat rfl)) rfl rfl (by decide) ?_
    refine r_nil ?_
    refine ⟨(x.1 - 1, x.2.1 / 2, x.2.2 + x.2.1 % 2), ent_look ⟨Weak.of_eq (int_eq (by dsimp only; omega)), Weak.of_eq (int_eq (by dsimp only; omega)), trivial⟩, ⟨hst.2.1, by dsimp only; omega, by dsimp only; rw [← g3, hst.2.2]; omega, by dsimp only; omega, by dsimp only; omega⟩, by dsimp only; omega⟩
  ·
    skip
    refine a_exit ?_
    refine a_seq ?_
    have hx0 : x.2.1 = 0 := (by simp at ht5; omega)
    refine a_region ?_
    refine r_val (v := .int _ _) (v_move (.inl rfl) (noOwn_flat rfl)) rfl rfl (by decide) ?_
    refine r_val (v := .int _ _) (v_assign (.inl rfl) (noOwn_flat rfl)) rfl rfl (by decide) ?_
    refine r_nil ?_
    refine a_ret ?_
    refine ret1 Try.results129 (by decide) (by decide) (Weak.of_eq (int_eq ?_)) rfl Leaves.nil
    rw [← g3, hx0, cntB_zero]; rfl

theorem l18Graded_c (v d : Nat) (hv : v ≤ 6) (hd : d ≤ 6) : ACall Try.prog 86 [.int .i64 ((v : Nat) : Int), .int .i64 ((d : Nat) : Int)] [] (.osl 1 (icells (gradS v d)) (gradS v d).length none) [] := by
  have hp6 := pow_le64 hv
  refine ACall.intro Try.func86 rfl (N := 29) rfl (by decide) (by simp) ?_
  refine a_seq ?_
  refine a_region ?_
  refine r_val (v := .nils) (v_assign (.inl rfl) (noOwn_flat rfl)) rfl rfl (by decide) ?_
  refine r_nil ?_
  refine a_seq ?_
  refine a_region ?_
  refine r_new (v := .osl _ _ _ _) (q_sliceLit (n := 0) (parts := []) lt25 rfl rfl rfl rfl) rfl rfl (by decide) ?_
  refine r_val (v := .rsl _ _ _ _ _) (v_assign (.inl rfl) (noOwn_flat rfl)) rfl rfl (by decide) ?_
  refine r_pre (ent_reloc_sl (t := 5) rfl rfl) ?_
  refine r_nil ?_
  refine a_seq ?_
  refine a_seq ?_
  refine a_region ?_
  refine r_val (v := .int _ _) (v_assign (.inl rfl) (noOwn_flat rfl)) rfl rfl (by decide) ?_
  refine r_nil ?_
  refine a_block ?_
  refine a_loop (X := Nat) (fun k => look [(0, .int .i64 ((v : Nat) : Int)), (1, .int .i64 ((d : Nat) : Int)), (5, .osl 1 (icells (firstK v k)) (firstK v k).length none), (6, .int .i64 ((k : Nat) : Int))]) (fun k => k ≤ d + 1) (fun k => d + 1 - k) 0 (ent_look ⟨Weak.of_eq rfl, Weak.of_eq rfl, Weak.osl rfl rfl, Weak.of_eq rfl, trivial⟩) (Nat.zero_le _) (fun k hG => ?_)
  have hfk := firstK_len hv k
  refine a_seq ?_
  refine a_seq ?_
  refine a_region ?_
  refine r_val (v := .int _ _) (v_move (.inl rfl) (noOwn_flat rfl)) rfl rfl (by decide) ?_
  refine r_val (v := .int _ _) (v_move (.inl rfl) (noOwn_flat rfl)) rfl rfl (by decide) ?_
  refine r_val (v := .bool _) (v_leq (.inl rfl) (.inl rfl)) rfl rfl (by decide) ?_
  refine r_nil ?_
  refine a_cond rfl (fun ht11 => ?_) (fun ht11 => ?_)
  ·
    skip
    refine a_skip ?_
    refine a_seq ?_
    refine a_block ?_
    refine a_seq ?_
    refine a_region ?_
    refine r_val (v := .int _ _) (v_assign (.inl rfl) (noOwn_flat rfl)) rfl rfl (by decide) ?_
    refine r_nil ?_
    refine a_block ?_
    refine a_loop (X := Nat) (fun m => look [(0, .int .i64 ((v : Nat) : Int)), (1, .int .i64 ((d : Nat) : Int)), (5, .osl 1 (icells (firstK v k ++ partK k m)) (firstK v k ++ partK k m).length none), (6, .int .i64 ((k : Nat) : Int)), (7, .int .i64 ((m : Nat) : Int))]) (fun m => m ≤ 2 ^ v) (fun m => 2 ^ v - m) 0 (ent_look ⟨Weak.of_eq rfl, Weak.of_eq rfl, Weak.osl (by simp [partK]) (by simp [partK]), Weak.of_eq rfl, Weak.of_eq rfl, trivial⟩) (Nat.zero_le _) (fun m hG => ?_)
    have hpk := partK_len k m
    refine a_seq ?_
    refine a_seq ?_
    refine a_region ?_
    refine r_val (v := .int _ _) (v_move (.inl rfl) (noOwn_flat rfl)) rfl rfl (by decide) ?_
    refine r_val (v := .int _ _) (v_move (.inl rfl) (noOwn_flat rfl)) rfl rfl (by decide) ?_
    refine r_val (v := .int .i64 ((2 ^ v : Nat) : Int)) ((v_shl (.inl rfl) (.inl rfl) (fun _ => by have := pow6 (v := (v : Int)) (by omega); omega)).cast (int_eq (by rw [Int.toNat_natCast]; simp))) rfl rfl (by decide) ?_
    refine r_val (v := .bool _) (v_lss (.inl rfl) (.inl rfl)) rfl rfl (by decide) ?_
    refine r_nil ?_
    refine a_cond rfl (fun ht17 => ?_) (fun ht17 => ?_)
    ·
      skip
      refine a_skip ?_
      refine a_seq ?_
      refine a_block ?_
      refine a_seq ?_
      have hm : m < 2 ^ v := (by have := of_decide_eq_true ht17; omega)
      have hkd : k ≤ d := (by simp at ht11; omega)
      refine a_region ?_
      refine r_val (v := .int _ _) (v_move (.inl rfl) (noOwn_flat rfl)) rfl rfl (by decide) ?_
      refine r_new (v := .int _ _) (q_call (vs := [.int _ _]) (args := [.int .i64 _]) hb129 ⟨.inl rfl, trivial⟩ rfl (fun hA => cnt_c m (by omega)) rfl rfl) rfl rfl (by decide) ?_
      refine r_val (v := .int _ _) (v_move (.inl rfl) (noOwn_flat rfl)) rfl rfl (by decide) ?_
      refine r_val (v := .bool _) (v_eql (.inl rfl) (.inl rfl)) rfl rfl (by decide) ?_
      refine r_nil ?_
      refine a_cond rfl (fun ht23 => ?_) (fun ht23 => ?_)
      ·
        skip
        have hck : cntN m = k := (by simp at ht23; omega)
        refine a_region ?_
        refine r_val (v := .rsl _ _ _ _ _) (v_move (.inl rfl) (noOwn_flat rfl)) rfl rfl (by decide) ?_
        refine r_val (v := .int _ _) (v_move (.inl rfl) (noOwn_flat rfl)) rfl rfl (by decide) ?_
        refine r_new (v := .osl 1 (icells [(m : Int)]) 1 (some 1)) (q_sliceLit (n := 1) (parts := [(0, .tmp 25)]) lt25 rfl rfl rfl rfl) rfl rfl (by decide) ?_
        refine r_pre (ent_reloc_sl (t := 24) rfl rfl) ?_
        refine r_step rfl (o_append rfl ap25 rfl (by decide) (by decide) rfl (src_lit (.inl rfl) rfl rfl (ic_pureL _)) (ic_cell _) (by rw [icells_length]; omega) (by rw [List.length_append]; omega)) ?_
        refine r_val (v := .rsl _ _ _ _ _) (v_assign (.inl rfl) (noOwn_flat rfl)) rfl rfl (by decide) ?_
        refine r_pre (ent_reloc_sl (t := 5) rfl rfl) ?_
        refine r_nil ?_
        first | (have hck : cntN m = k := (by simp at ht23; omega)) | (have hck : ¬ cntN m = k := (by simp at ht23; omega))
        refine a_region ?_
        refine r_val (v := .int _ _) (v_move (.inl rfl) (noOwn_flat rfl)) rfl rfl (by decide) ?_
        refine r_val (v := .int _ _) (v_add (.inl rfl) (.inl rfl) (fun _ => by omega)) rfl rfl (by decide) ?_
        refine r_val (v := .int _ _) (v_assign (.inl rfl) (noOwn_flat rfl)) rfl rfl (by decide) ?_
        refine r_nil ?_
        refine ⟨m + 1, ent_look ⟨Weak.of_eq rfl, Weak.of_eq rfl, Weak.osl (by rw [partK_yes hck]; simp [icells]) (by rw [partK_yes hck]; simp; omega), Weak.of_eq rfl, Weak.of_eq (int_eq (by omega)), trivial⟩, by omega, by omega⟩
      ·
        skip
        refine a_skip ?_
        first | (have hck : cntN m = k := (by simp at ht23; omega)) | (have hck : ¬ cntN m = k := (by simp at ht23; omega))
        refine a_region ?_
        refine r_val (v := .int _ _) (v_move (.inl rfl) (noOwn_flat rfl)) rfl rfl (by decide) ?_
        refine r_val (v := .int _ _) (v_add (.inl rfl) (.inl rfl) (fun _ => by omega)) rfl rfl (by decide) ?_
        refine r_val (v := .int _ _) (v_assign (.inl rfl) (noOwn_flat rfl)) rfl rfl (by decide) ?_
        refine r_nil ?_
        refine ⟨m + 1, ent_look ⟨Weak.of_eq rfl, Weak.of_eq rfl, Weak.osl (by rw [partK_no hck]) (by rw [partK_no hck]), Weak.of_eq rfl, Weak.of_eq (int_eq (by omega)), trivial⟩, by omega, by omega⟩
    ·
      skip
      refine a_exit ?_
      refine a_region ?_
      refine r_val (v := .int _ _) (v_move (.inl rfl) (noOwn_flat rfl)) rfl rfl (by decide) ?_
      refine r_val (v := .int _ _) (v_add (.inl rfl) (.inl rfl) (fun _ => by omega)) rfl rfl (by decide) ?_
      refine r_val (v := .int _ _) (v_assign (.inl rfl) (noOwn_flat rfl)) rfl rfl (by decide) ?_
      refine r_nil ?_
      have hme : m = 2 ^ v := (by have := of_decide_eq_false ht17; omega)
      refine ⟨k + 1, ent_look ⟨Weak.of_eq rfl, Weak.of_eq rfl, Weak.osl (by rw [firstK_succ, hme]) (by rw [firstK_succ, hme]), Weak.of_eq (int_eq (by omega)), trivial⟩, by simp at ht11; omega, by simp at ht11; omega⟩
  ·
    skip
    refine a_exit ?_
    refine a_seq ?_
    refine a_region ?_
    refine r_val (v := .rsl _ _ _ _ _) (v_move (.inl rfl) (noOwn_flat rfl)) rfl rfl (by decide) ?_
    refine r_val (v := .rsl _ _ _ _ _) (v_assign (.inl rfl) (noOwn_flat rfl)) rfl rfl (by decide) ?_
    refine r_pre (ent_reloc_sl (t := 4) rfl rfl) ?_
    refine r_nil ?_
    refine a_ret ?_
    refine ret1 Try.results86 (by decide) (by decide) (Weak.osl ?_ ?_) rfl Leaves.nil
    · simp at ht11; rw [show k = d + 1 by omega]; rfl
    · simp at ht11; rw [show k = d + 1 by omega]; rfl

theorem sGraded_c (v d : Int) : ACall Try.prog 40 [.int .i64 v, .int .i64 d] [] (.tup [.osl 1 (icells ((gradR v d).getD [])) ((gradR v d).getD []).length none, .bool (gradR v d).isSome]) [] := by
  refine ACall.intro Try.func40 rfl (N := 18) rfl (by decide) (by simp) ?_
  refine a_seq ?_
  refine a_region ?_
  refine r_val (v := .nils) (v_assign (.inl rfl) (noOwn_flat rfl)) rfl rfl (by decide) ?_
  refine r_val (v := .bool _) (v_assign (.inl rfl) (noOwn_flat rfl)) rfl rfl (by decide) ?_
  refine r_nil ?_
  refine a_seq ?_
  refine a_seq ?_
  refine a_region ?_
  refine r_val (v := .int _ _) (v_move (.inl rfl) (noOwn_flat rfl)) rfl rfl (by decide) ?_
  refine r_new (v := .bool _) (q_call (vs := [.int _ _, .int _ _, .int _ _]) (args := [.int .i64 _, .int .i64 _, .int .i64 _]) hb74 ⟨.inl rfl, .inl rfl, .inl rfl, trivial⟩ rfl (fun hA => l1In_c _ _ _) rfl rfl) rfl rfl (by decide) ?_
  refine r_val (v := .bool _) (v_not (.inl rfl)) rfl rfl (by decide) ?_
  refine r_val (v := .bool _) (v_move (.inl rfl) (noOwn_flat rfl)) rfl rfl (by decide) ?_
  refine r_gval (v := .int _ _) (v_move (.inl rfl) (noOwn_flat rfl)) rfl rfl rfl (by decide) (.inl ⟨_, rfl, rfl⟩) rfl (by decide) ?_
  refine r_guard (v := .bool _) (q_call (vs := [.int _ _, .int _ _, .int _ _]) (args := [.int .i64 _, .int .i64 _, .int .i64 _]) hb74 ⟨.inr ⟨_, rfl, fun h => h⟩, .inl rfl, .inl rfl, trivial⟩ rfl (fun hA => l1In_c _ _ _) rfl rfl) rfl rfl rfl (by decide) (.inl ⟨_, rfl, rfl⟩) rfl (by decide) ?_
  refine r_gval (v := .bool _) (v_not (.inr ⟨_, rfl, fun h => h⟩)) rfl rfl rfl (by decide) (.inl ⟨_, rfl, rfl⟩) rfl (by decide) ?_
  refine r_val (v := .bool _) (v_pick (.inl rfl) (.inl rfl) (.inr ⟨_, rfl, fun h h2 => by simp_all⟩)) rfl rfl (by decide) ?_
  refine r_nil ?_
  refine a_cond rfl (fun ht13 => ?_) (fun ht13 => ?_)
  ·
    skip
    refine a_seq ?_
    refine a_region ?_
    refine r_new (v := .osl _ _ _ _) (q_sliceLit (n := 0) (parts := []) lt25 rfl rfl rfl rfl) rfl rfl (by decide) ?_
    refine r_val (v := .rsl _ _ _ _ _) (v_assign (.inl rfl) (noOwn_flat rfl)) rfl rfl (by decide) ?_
    refine r_pre (ent_reloc_sl (t := 4) rfl rfl) ?_
    refine r_val (v := .bool _) (v_assign (.inl rfl) (noOwn_flat rfl)) rfl rfl (by decide) ?_
    refine r_nil ?_
    refine a_ret ?_
    refine retL (rs := [.tmp 4, .tmp 5]) [(4, .osl _ _ _ none), (5, _)] ⟨Weak.osl rfl rfl, Weak.rfl, trivial⟩ rfl Try.results40 (by decide) ⟨by decide, by decide, rfl⟩ (by decide) (by decide) (l2_eq (osl_eq2 ?_ ?_) (bool_eq ?_)) (by simp [refsL, refs])
    all_goals (have hno : gradR v d = none := (by unfold gradR; rw [if_neg]; cases h1 : inR v 0 6 <;> cases h2 : inR d 0 6 <;> simp_all); simp [hno, icells, rep])
  ·
    skip
    refine a_skip ?_
    refine a_seq ?_
    have hok : inR v 0 6 = true ∧ inR d 0 6 = true := (by cases h1 : inR v 0 6 <;> cases h2 : inR d 0 6 <;> simp_all)
    have hv := inR_spec.1 hok.1
    have hd := inR_spec.1 hok.2
    refine a_region ?_
    refine r_val (v := .int .i64 ((v.toNat : Nat) : Int)) ((v_move (.inl rfl) (noOwn_flat rfl)).cast (int_eq (by omega))) rfl rfl (by decide) ?_
    refine r_val (v := .int .i64 ((d.toNat : Nat) : Int)) ((v_move (.inl rfl) (noOwn_flat rfl)).cast (int_eq (by omega))) rfl rfl (by decide) ?_
    refine r_new (v := .osl _ _ _ _) (q_call (vs := [.int _ _, .int _ _]) (args := [.int .i64 _, .int .i64 _]) hb86 ⟨.inl rfl, .inl rfl, trivial⟩ rfl (fun hA => l18Graded_c v.toNat d.toNat (by omega) (by omega)) (ic_noSh _) (ic_noRef _)) rfl rfl (by decide) ?_
    refine r_val (v := .rsl _ _ _ _ _) (v_assign (.inl rfl) (noOwn_flat rfl)) rfl rfl (by decide) ?_
    refine r_pre (ent_reloc_sl (t := 4) rfl rfl) ?_
    refine r_val (v := .bool _) (v_assign (.inl rfl) (noOwn_flat rfl)) rfl rfl (by decide) ?_
    refine r_nil ?_
    refine a_ret ?_
    refine retL (rs := [.tmp 4, .tmp 5]) [(4, .osl _ _ _ none), (5, _)] ⟨Weak.osl rfl rfl, Weak.rfl, trivial⟩ rfl Try.results40 (by decide) ⟨by decide, by decide, rfl⟩ (by decide) (by decide) (l2_eq (osl_eq2 ?_ ?_) (bool_eq ?_)) (by simp [refsL, refs])
    all_goals (unfold gradR; rw [hok.1, hok.2]; rfl)

theorem iGraded_c (v d : Int) : ACall Try.prog 41 [.int .i64 v, .int .i64 d] [] (.tup [.osl 1 (icells ((gradR v d).getD [])) ((gradR v d).getD []).length none, .bool (gradR v d).isSome]) [] := by
  refine ACall.intro Try.func41 rfl (N := 17) rfl (by decide) (by simp) ?_
  refine a_seq ?_
  refine a_region ?_
  refine r_val (v := .nils) (v_assign (.inl rfl) (noOwn_flat rfl)) rfl rfl (by decide) ?_
  refine r_val (v := .bool _) (v_assign (.inl rfl) (noOwn_flat rfl)) rfl rfl (by decide) ?_
  refine r_nil ?_
  refine a_seq ?_
  refine a_seq ?_
  refine a_region ?_
  refine r_val (v := .int _ _) (v_move (.inl rfl) (noOwn_flat rfl)) rfl rfl (by decide) ?_
  refine r_new (v := .bool _) (q_call (vs := [.int _ _, .int _ _, .int _ _]) (args := [.int .i64 _, .int .i64 _, .int .i64 _]) hb77 ⟨.inl rfl, .inl rfl, .inl rfl, trivial⟩ rfl (fun hA => within_c _ _ _) rfl rfl) rfl rfl (by decide) ?_
  refine r_val (v := .bool _) (v_not (.inl rfl)) rfl rfl (by decide) ?_
  refine r_val (v := .bool _) (v_move (.inl rfl) (noOwn_flat rfl)) rfl rfl (by decide) ?_
  refine r_gval (v := .int _ _) (v_move (.inl rfl) (noOwn_flat rfl)) rfl rfl rfl (by decide) (.inl ⟨_, rfl, rfl⟩) rfl (by decide) ?_
  refine r_guard (v := .bool _) (q_call (vs := [.int _ _, .int _ _, .int _ _]) (args := [.int .i64 _, .int .i64 _, .int .i64 _]) hb77 ⟨.inr ⟨_, rfl, fun h => h⟩, .inl rfl, .inl rfl, trivial⟩ rfl (fun hA => within_c _ _ _) rfl rfl) rfl rfl rfl (by decide) (.inl ⟨_, rfl, rfl⟩) rfl (by decide) ?_
  refine r_gval (v := .bool _) (v_not (.inr ⟨_, rfl, fun h => h⟩)) rfl rfl rfl (by decide) (.inl ⟨_, rfl, rfl⟩) rfl (by decide) ?_
  refine r_val (v := .bool _) (v_pick (.inl rfl) (.inl rfl) (.inr ⟨_, rfl, fun h h2 => by simp_all⟩)) rfl rfl (by decide) ?_
  refine r_nil ?_
  refine a_cond rfl (fun ht13 => ?_) (fun ht13 => ?_)
  ·
    skip
    refine a_seq ?_
    refine a_region ?_
    refine r_val (v := .nils) (v_assign (.inl rfl) (noOwn_flat rfl)) rfl rfl (by decide) ?_
    refine r_val (v := .bool _) (v_assign (.inl rfl) (noOwn_flat rfl)) rfl rfl (by decide) ?_
    refine r_nil ?_
    refine a_pre (ent_nil (t := 4) (sz := 1) (cap := none) (.inl rfl) (fun _ h => by cases h)) ?_
    refine a_ret ?_
    refine retL (rs := [.tmp 4, .tmp 5]) [(4, .osl _ _ _ none), (5, _)] ⟨Weak.osl rfl rfl, Weak.rfl, trivial⟩ rfl Try.results41 (by decide) ⟨by decide, by decide, rfl⟩ (by decide) (by decide) (l2_eq (osl_eq2 ?_ ?_) (bool_eq ?_)) (by simp [refsL, refs])
    all_goals (have hno : gradR v d = none := (by unfold gradR; rw [if_neg]; cases h1 : inR v 0 6 <;> cases h2 : inR d 0 6 <;> simp_all); simp [hno, icells, rep])
  ·
    skip
    refine a_skip ?_
    refine a_seq ?_
    have hok : inR v 0 6 = true ∧ inR d 0 6 = true := (by cases h1 : inR v 0 6 <;> cases h2 : inR d 0 6 <;> simp_all)
    have hv := inR_spec.1 hok.1
    have hd := inR_spec.1 hok.2
    refine a_region ?_
    refine r_val (v := .int .i64 ((v.toNat : Nat) : Int)) ((v_move (.inl rfl) (noOwn_flat rfl)).cast (int_eq (by omega))) rfl rfl (by decide) ?_
    refine r_val (v := .int .i64 ((d.toNat : Nat) : Int)) ((v_move (.inl rfl) (noOwn_flat rfl)).cast (int_eq (by omega))) rfl rfl (by decide) ?_
    refine r_new (v := .osl _ _ _ _) (q_call (vs := [.int _ _, .int _ _]) (args := [.int .i64 _, .int .i64 _]) hb87 ⟨.inl rfl, .inl rfl, trivial⟩ rfl (fun hA => graded_c v.toNat d.toNat (by omega) (by omega)) (ic_noSh _) (ic_noRef _)) rfl rfl (by decide) ?_
    refine r_val (v := .rsl _ _ _ _ _) (v_assign (.inl rfl) (noOwn_flat rfl)) rfl rfl (by decide) ?_
    refine r_pre (ent_reloc_sl (t := 4) rfl rfl) ?_
    refine r_val (v := .bool _) (v_assign (.inl rfl) (noOwn_flat rfl)) rfl rfl (by decide) ?_
    refine r_nil ?_
    refine a_ret ?_
    refine retL (rs := [.tmp 4, .tmp 5]) [(4, .osl _ _ _ none), (5, _)] ⟨Weak.osl rfl rfl, Weak.rfl, trivial⟩ rfl Try.results41 (by decide) ⟨by decide, by decide, rfl⟩ (by decide) (by decide) (l2_eq (osl_eq2 ?_ ?_) (bool_eq ?_)) (by simp [refsL, refs])
    all_goals (unfold gradR; rw [hok.1, hok.2]; rfl)

theorem lawGradedMonos_c (v d : Int) : ACall Try.prog 9 [.int .i64 v, .int .i64 d] [] (.bool true) [] := by
  have hr := gradR_len v d
  refine ACall.intro Try.func9 rfl (N := 68) rfl (by decide) (by simp) ?_
  refine a_seq ?_
  refine a_region ?_
  refine r_val (v := .bool _) (v_assign (.inl rfl) (noOwn_flat rfl)) rfl rfl (by decide) ?_
  refine r_nil ?_
  refine a_seq ?_
  refine a_region ?_
  refine r_val (v := .int _ _) (v_move (.inl rfl) (noOwn_flat rfl)) rfl rfl (by decide) ?_
  refine r_val (v := .int _ _) (v_move (.inl rfl) (noOwn_flat rfl)) rfl rfl (by decide) ?_
  refine r_new (v := .tup [.osl _ _ _ _, .bool _]) (q_call (vs := [.int _ _, .int _ _]) (args := [.int .i64 _, .int .i64 _]) hb40 ⟨.inl rfl, .inl rfl, trivial⟩ rfl (fun hA => sGraded_c _ _) (by simp [noSh, noShL, ic_noSh]) (by simp [noRef, noRefL, ic_noRef])) rfl rfl (by decide) ?_
  refine r_val (v := .tup [.rsl _ _ _ _ _, .bool _]) (v_mv rfl) rfl rfl (by decide) ?_
  refine r_val (v := .rsl _ _ _ _ _) (v_extract rfl rfl) rfl rfl (by decide) ?_
  refine r_val (v := .bool _) (v_extract rfl rfl) rfl rfl (by decide) ?_
  refine r_val (v := .rsl _ _ _ _ _) (v_assign (.inl rfl) (noOwn_flat rfl)) rfl rfl (by decide) ?_
  refine r_pre (ent_reloc_sl (t := 5) rfl rfl) ?_
  refine r_val (v := .bool _) (v_assign (.inl rfl) (noOwn_flat rfl)) rfl rfl (by decide) ?_
  refine r_nil ?_
  refine a_seq ?_
  refine a_region ?_
  refine r_val (v := .int _ _) (v_move (.inl rfl) (noOwn_flat rfl)) rfl rfl (by decide) ?_
  refine r_val (v := .int _ _) (v_move (.inl rfl) (noOwn_flat rfl)) rfl rfl (by decide) ?_
  refine r_new (v := .tup [.osl _ _ _ _, .bool _]) (q_call (vs := [.int _ _, .int _ _]) (args := [.int .i64 _, .int .i64 _]) hb41 ⟨.inl rfl, .inl rfl, trivial⟩ rfl (fun hA => iGraded_c _ _) (by simp [noSh, noShL, ic_noSh]) (by simp [noRef, noRefL, ic_noRef])) rfl rfl (by decide) ?_
  refine r_val (v := .tup [.rsl _ _ _ _ _, .bool _]) (v_mv rfl) rfl rfl (by decide) ?_
  refine r_val (v := .rsl _ _ _ _ _) (v_extract rfl rfl) rfl rfl (by decide) ?_
  refine r_val (v := .bool _) (v_extract rfl rfl) rfl rfl (by decide) ?_
  refine r_val (v := .rsl _ _ _ _ _) (v_assign (.inl rfl) (noOwn_flat rfl)) rfl rfl (by decide) ?_
  refine r_pre (ent_reloc_sl (t := 7) rfl rfl) ?_
  refine r_val (v := .bool _) (v_assign (.inl rfl) (noOwn_flat rfl)) rfl rfl (by decide) ?_
  refine r_nil ?_
  refine a_seq ?_
  refine a_seq ?_
  refine a_region ?_
  refine r_val (v := .rsl _ _ _ _ _) (v_move (.inl rfl) (noOwn_flat rfl)) rfl rfl (by decide) ?_
  refine r_val (v := .rsl _ _ _ _ _) (v_move (.inl rfl) (noOwn_flat rfl)) rfl rfl (by decide) ?_
  refine r_new (v := .bool _) (q_call (vs := [.rsl _ _ _ _ _, .rsl _ _ _ _ _]) (args := [.sl _ _, .sl _ _]) hb22 ⟨.inl rfl, .inl rfl, trivial⟩ (l2_eq (sl_sh (ic_pure _)) (sl_sh (ic_pure _))) (fun hA => eqIntS_c _ _ (by omega)) rfl rfl) rfl rfl (by decide) ?_
  refine r_val (v := .bool _) (v_not (.inl rfl)) rfl rfl (by decide) ?_
  refine r_val (v := .bool _) (v_move (.inl rfl) (noOwn_flat rfl)) rfl rfl (by decide) ?_
  refine r_gval (v := .bool _) (v_move (.inl rfl) (noOwn_flat rfl)) rfl rfl rfl (by decide) (.inl ⟨_, rfl, rfl⟩) rfl (by decide) ?_
  refine r_gval (v := .bool _) (v_move (.inl rfl) (noOwn_flat rfl)) rfl rfl rfl (by decide) (.inl ⟨_, rfl, rfl⟩) rfl (by decide) ?_
  refine r_gval (v := .bool _) (v_bne un4 (.inr ⟨_, rfl, fun h => h⟩) (.inr ⟨_, rfl, fun h => h⟩)) rfl rfl rfl (by decide) (.inl ⟨_, rfl, rfl⟩) rfl (by decide) ?_
  refine r_val (v := .bool _) (v_pick (.inl rfl) (.inl rfl) (.inr ⟨_, rfl, fun h h2 => by simp_all⟩)) rfl rfl (by decide) ?_
  refine r_nil ?_
  refine a_cond rfl (fun ht33 => ?_) (fun ht33 => ?_)
  ·
    skip
    refine a_seq ?_
    refine a_region ?_
    refine r_val (v := .bool _) (v_assign (.inl rfl) (noOwn_flat rfl)) rfl rfl (by decide) ?_
    refine r_nil ?_
    refine a_ret ?_
    refine ret1 Try.results9 (by decide) (by decide) (Weak.of_eq (bool_eq ?_)) rfl Leaves.nil
    first | rfl | (exfalso; simp at ht33; done) | (exfalso; simp at ht33; omega)
  ·
    skip
    refine a_skip ?_
    refine a_seq ?_
    refine a_region ?_
    refine r_val (v := .int _ _) (v_assign (.inl rfl) (noOwn_flat rfl)) rfl rfl (by decide) ?_
    refine r_nil ?_
    refine a_seq ?_
    refine a_region ?_
    refine r_val (v := .rsl _ _ _ _ _) (v_move (.inl rfl) (noOwn_flat rfl)) rfl rfl (by decide) ?_
    refine r_val (v := .int _ _) (v_move (.inl rfl) (noOwn_flat rfl)) rfl rfl (by decide) ?_
    refine r_step rfl (o_callIO (q := (7, [])) (vs := [.rsl _ _ _ _ _, .int _ _]) (args := [.rsl (INH, []) _ _ _ _, .int .i64 _]) (x0 := .osl _ _ _ _) (x1 := .osl _ _ _ _) (res := .int _ _) rfl hb42 rfl (by decide) ⟨.inl rfl, .inl rfl, trivial⟩ rfl rfl (markIntS_c _ _ (by omega)) rfl rfl rfl (ic_noSh _) (ic_noRef _) (Nat.le_of_ble_eq_true rfl) (by decide) rfl) ?_
    refine r_val (v := .int _ _) (v_assign (.inl rfl) (noOwn_flat rfl)) rfl rfl (by decide) ?_
    refine r_nil ?_
    refine a_seq ?_
    refine a_pre (ent_look (L := [(0, .int _ _), (1, .int _ _), (4, .bool _), (5, .osl _ _ _ _), (6, .bool _), (7, .osl _ _ _ _), (9, .int _ _)]) ⟨Weak.rfl, Weak.rfl, Weak.rfl, Weak.rfl, Weak.rfl, Weak.rfl, Weak.rfl, trivial⟩) ?_
    refine a_region ?_
    refine r_val (v := .int _ _) (v_assign (.inl rfl) (noOwn_flat rfl)) rfl rfl (by decide) ?_
    refine r_nil ?_
    refine a_seq ?_
    refine a_region ?_
    refine r_val (v := .rsl _ _ _ _ _) (v_move (.inl rfl) (noOwn_flat rfl)) rfl rfl (by decide) ?_
    refine r_val (v := .int _ _) (v_move (.inl rfl) (noOwn_flat rfl)) rfl rfl (by decide) ?_
    refine r_new (v := .int _ _) (q_call (vs := [.rsl _ _ _ _ _, .int _ _]) (args := [.sl _ _, .int .i64 _]) hb43 ⟨.inl rfl, .inl rfl, trivial⟩ (l2_eq (sl_sh (ic_pure _)) rfl) (fun hA => heldIntS_c _ _ (by omega)) rfl rfl) rfl rfl (by decide) ?_
    refine r_val (v := .int _ _) (v_assign (.inl rfl) (noOwn_flat rfl)) rfl rfl (by decide) ?_
    refine r_nil ?_
    refine a_seq ?_
    refine a_seq ?_
    refine a_region ?_
    refine r_val (v := .int _ _) (v_move (.inl rfl) (noOwn_flat rfl)) rfl rfl (by decide) ?_
    refine r_val (v := .bool _) (v_lss (.inl rfl) (.inl rfl)) rfl rfl (by decide) ?_
    refine r_nil ?_
    refine a_cond rfl (fun ht41 => ?_) (fun ht41 => ?_)
    ·
      skip
      refine a_seq ?_
      refine a_region ?_
      refine r_val (v := .bool _) (v_assign (.inl rfl) (noOwn_flat rfl)) rfl rfl (by decide) ?_
      refine r_nil ?_
      refine a_ret ?_
      refine ret1 Try.results9 (by decide) (by decide) (Weak.of_eq (bool_eq ?_)) rfl Leaves.nil
      first | rfl | (exfalso; simp at ht41; done) | (exfalso; simp at ht41; omega)
    ·
      skip
      refine a_skip ?_
      refine a_seq ?_
      refine a_seq ?_
      refine a_region ?_
      refine r_val (v := .int _ _) (v_move (.inl rfl) (noOwn_flat rfl)) rfl rfl (by decide) ?_
      refine r_val (v := .int _ _) (v_move (.inl rfl) (noOwn_flat rfl)) rfl rfl (by decide) ?_
      refine r_val (v := .bool _) (v_neq (.inl rfl) (.inl rfl)) rfl rfl (by decide) ?_
      refine r_nil ?_
      refine a_cond rfl (fun ht44 => ?_) (fun ht44 => ?_)
      ·
        skip
        refine a_seq ?_
        refine a_region ?_
        refine r_val (v := .bool _) (v_assign (.inl rfl) (noOwn_flat rfl)) rfl rfl (by decide) ?_
        refine r_nil ?_
        refine a_ret ?_
        refine ret1 Try.results9 (by decide) (by decide) (Weak.of_eq (bool_eq ?_)) rfl Leaves.nil
        first | rfl | (exfalso; simp at ht44; done) | (exfalso; simp at ht44; omega)
      ·
        skip
        refine a_skip ?_
        refine a_seq ?_
        refine a_region ?_
        refine r_val (v := .int _ _) (v_move (.inl rfl) (noOwn_flat rfl)) rfl rfl (by decide) ?_
        refine r_val (v := .int _ _) (v_move (.inl rfl) (noOwn_flat rfl)) rfl rfl (by decide) ?_
        refine r_new (v := .tup [.osl _ _ _ _, .bool _]) (q_call (vs := [.int _ _, .int _ _]) (args := [.int .i64 _, .int .i64 _]) hb41 ⟨.inl rfl, .inl rfl, trivial⟩ rfl (fun hA => iGraded_c _ _) (by simp [noSh, noShL, ic_noSh]) (by simp [noRef, noRefL, ic_noRef])) rfl rfl (by decide) ?_
        refine r_val (v := .tup [.rsl _ _ _ _ _, .bool _]) (v_mv rfl) rfl rfl (by decide) ?_
        refine r_val (v := .rsl _ _ _ _ _) (v_extract rfl rfl) rfl rfl (by decide) ?_
        refine r_val (v := .bool _) (v_extract rfl rfl) rfl rfl (by decide) ?_
        refine r_val (v := .rsl _ _ _ _ _) (v_assign (.inl rfl) (noOwn_flat rfl)) rfl rfl (by decide) ?_
        refine r_pre (ent_reloc_sl (t := 11) rfl rfl) ?_
        refine r_val (v := .bool _) (v_assign (.inl rfl) (noOwn_flat rfl)) rfl rfl (by decide) ?_
        refine r_nil ?_
        refine a_seq ?_
        refine a_seq ?_
        refine a_region ?_
        refine r_val (v := .rsl _ _ _ _ _) (v_move (.inl rfl) (noOwn_flat rfl)) rfl rfl (by decide) ?_
        refine r_val (v := .rsl _ _ _ _ _) (v_move (.inl rfl) (noOwn_flat rfl)) rfl rfl (by decide) ?_
        refine r_new (v := .bool _) (q_call (vs := [.rsl _ _ _ _ _, .rsl _ _ _ _ _]) (args := [.sl _ _, .sl _ _]) hb22 ⟨.inl rfl, .inl rfl, trivial⟩ (l2_eq (sl_sh (ic_pure _)) (sl_sh (ic_pure _))) (fun hA => eqIntS_c _ _ (by omega)) rfl rfl) rfl rfl (by decide) ?_
        refine r_val (v := .bool _) (v_not (.inl rfl)) rfl rfl (by decide) ?_
        refine r_val (v := .bool _) (v_move (.inl rfl) (noOwn_flat rfl)) rfl rfl (by decide) ?_
        refine r_gval (v := .bool _) (v_move (.inl rfl) (noOwn_flat rfl)) rfl rfl rfl (by decide) (.inl ⟨_, rfl, rfl⟩) rfl (by decide) ?_
        refine r_gval (v := .bool _) (v_move (.inl rfl) (noOwn_flat rfl)) rfl rfl rfl (by decide) (.inl ⟨_, rfl, rfl⟩) rfl (by decide) ?_
        refine r_gval (v := .bool _) (v_bne un4 (.inr ⟨_, rfl, fun h => h⟩) (.inr ⟨_, rfl, fun h => h⟩)) rfl rfl rfl (by decide) (.inl ⟨_, rfl, rfl⟩) rfl (by decide) ?_
        refine r_val (v := .bool _) (v_pick (.inl rfl) (.inl rfl) (.inr ⟨_, rfl, fun h h2 => by simp_all⟩)) rfl rfl (by decide) ?_
        refine r_nil ?_
        refine a_cond rfl (fun ht59 => ?_) (fun ht59 => ?_)
        ·
          skip
          refine a_seq ?_
          refine a_pre (ent_look (L := [(4, .bool _), (7, .osl _ _ _ _), (9, .int _ _), (10, .int _ _)]) ⟨Weak.rfl, Weak.rfl, Weak.rfl, Weak.rfl, trivial⟩) ?_
          refine a_region ?_
          refine r_val (v := .bool _) (v_assign (.inl rfl) (noOwn_flat rfl)) rfl rfl (by decide) ?_
          refine r_nil ?_
          refine a_ret ?_
          refine ret1 Try.results9 (by decide) (by decide) (Weak.of_eq (bool_eq ?_)) rfl Leaves.nil
          first | rfl | (exfalso; simp at ht59; done) | (exfalso; simp at ht59; omega)
        ·
          skip
          refine a_skip ?_
          refine a_seq ?_
          refine a_pre (ent_look (L := [(4, .bool _), (7, .osl _ _ _ _), (9, .int _ _), (10, .int _ _)]) ⟨Weak.rfl, Weak.rfl, Weak.rfl, Weak.rfl, trivial⟩) ?_
          refine a_region ?_
          refine r_val (v := .int _ _) (v_assign (.inl rfl) (noOwn_flat rfl)) rfl rfl (by decide) ?_
          refine r_nil ?_
          refine a_seq ?_
          refine a_region ?_
          refine r_val (v := .rsl _ _ _ _ _) (v_move (.inl rfl) (noOwn_flat rfl)) rfl rfl (by decide) ?_
          refine r_val (v := .int _ _) (v_move (.inl rfl) (noOwn_flat rfl)) rfl rfl (by decide) ?_
          refine r_new (v := .int _ _) (q_call (vs := [.rsl _ _ _ _ _, .int _ _]) (args := [.sl _ _, .int .i64 _]) hb43 ⟨.inl rfl, .inl rfl, trivial⟩ (l2_eq (sl_sh (ic_pure _)) rfl) (fun hA => heldIntS_c _ _ (by omega)) rfl rfl) rfl rfl (by decide) ?_
          refine r_val (v := .int _ _) (v_assign (.inl rfl) (noOwn_flat rfl)) rfl rfl (by decide) ?_
          refine r_nil ?_
          refine a_seq ?_
          refine a_seq ?_
          refine a_region ?_
          refine r_val (v := .int _ _) (v_move (.inl rfl) (noOwn_flat rfl)) rfl rfl (by decide) ?_
          refine r_val (v := .bool _) (v_lss (.inl rfl) (.inl rfl)) rfl rfl (by decide) ?_
          refine r_nil ?_
          refine a_cond rfl (fun ht64 => ?_) (fun ht64 => ?_)
          ·
            skip
            refine a_seq ?_
            refine a_region ?_
            refine r_val (v := .bool _) (v_assign (.inl rfl) (noOwn_flat rfl)) rfl rfl (by decide) ?_
            refine r_nil ?_
            refine a_ret ?_
            refine ret1 Try.results9 (by decide) (by decide) (Weak.of_eq (bool_eq ?_)) rfl Leaves.nil
            first | rfl | (exfalso; simp at ht64; done) | (exfalso; simp at ht64; omega)
          ·
            skip
            refine a_skip ?_
            refine a_seq ?_
            refine a_seq ?_
            refine a_region ?_
            refine r_val (v := .int _ _) (v_move (.inl rfl) (noOwn_flat rfl)) rfl rfl (by decide) ?_
            refine r_val (v := .int _ _) (v_move (.inl rfl) (noOwn_flat rfl)) rfl rfl (by decide) ?_
            refine r_val (v := .bool _) (v_neq (.inl rfl) (.inl rfl)) rfl rfl (by decide) ?_
            refine r_nil ?_
            refine a_cond rfl (fun ht67 => ?_) (fun ht67 => ?_)
            ·
              skip
              refine a_seq ?_
              refine a_region ?_
              refine r_val (v := .bool _) (v_assign (.inl rfl) (noOwn_flat rfl)) rfl rfl (by decide) ?_
              refine r_nil ?_
              refine a_ret ?_
              refine ret1 Try.results9 (by decide) (by decide) (Weak.of_eq (bool_eq ?_)) rfl Leaves.nil
              first | rfl | (exfalso; simp at ht67; done) | (exfalso; simp at ht67; omega)
            ·
              skip
              refine a_skip ?_
              refine a_seq ?_
              refine a_region ?_
              refine r_val (v := .bool _) (v_assign (.inl rfl) (noOwn_flat rfl)) rfl rfl (by decide) ?_
              refine r_nil ?_
              refine a_ret ?_
              refine ret1 Try.results9 (by decide) (by decide) (Weak.of_eq (bool_eq ?_)) rfl Leaves.nil
              first | rfl | (exfalso; simp at ht67; done) | (exfalso; simp at ht67; omega)
end Go.Av
namespace Go.Av
open Go Go.Proofs Go.Proofs.Ytgpanniofcfmbaa
set_option maxRecDepth 100000
theorem arg3 : OpensV Try.prog 3 (fun x : Int => AV.int .i64 x) (fun x => (Lit.int .i64 x).wf = true) :=
  opensV_one (ok_scalar (by rw [Try.underlying3])) (opens_int Try.underlying3) (fun _ => rfl)
theorem rowOwn : ownKnob Try.prog.godebug = none := by kernel_rfl
theorem rowLaid : laidOutB Try.prog = true := by kernel_rfl
end Go.Av
