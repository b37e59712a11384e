/- Lemmas, part 4. -/
import Derived.Test.YtmoncdcidlinfaaA3
import Derived.Test.YtmoncdcidlinfaaRows
set_option linter.unusedVariables false
set_option linter.unusedSimpArgs false
namespace Go.Av
open Go Go.Proofs Go.Sort
set_option maxRecDepth 10000
theorem hb13 : hasBody Try.prog 13 = true := by kernel_rfl
theorem hb15 : hasBody Try.prog 15 = true := by kernel_rfl
theorem hb16 : hasBody Try.prog 16 = true := by kernel_rfl
theorem hb19 : hasBody Try.prog 19 = true := by kernel_rfl
theorem hb20 : hasBody Try.prog 20 = true := by kernel_rfl
theorem un4 : Try.prog.underlying 4 = some .bool := by kernel_rfl

theorem lawWeakenPlane_c (vars : Int) (c d : List Int) (hl : (c.length : Int) ≤ 9223372036854775807) (hl2 : (d.length : Int) ≤ 9223372036854775807) (hv0 : -9223372036854775808 ≤ vars ∧ vars ≤ 9223372036854775807) (hbc : ∀ j, -9223372036854775808 ≤ gd c j ∧ gd c j ≤ 9223372036854775807) (hbd : ∀ j, -9223372036854775808 ≤ gd d j ∧ gd d j ≤ 9223372036854775807) : ACall Try.prog 3 [.int .i64 vars, .sl (icells c) c.length, .sl (icells d) d.length] [] (.bool true) [] := by
  have hrl := wkR_bd vars c d
  refine ACall.intro Try.func3 rfl (N := 119) rfl (by decide) (by simp) ?_
  refine a_seq ?_
  refine a_region ?_
  refine r_val (v := .bool _) (v_assign (.inl rfl) (noOwn_flat rfl)) rfl rfl (by decide) ?_
  refine r_nil ?_
  refine a_seq ?_
  refine a_seq ?_
  refine a_region ?_
  refine r_val (v := .sl _ _) (v_move (.inl rfl) (noOwn_flat rfl)) rfl rfl (by decide) ?_
  refine r_val (v := .int _ _) (v_len_sl sl22 (.inl rfl)) rfl rfl (by decide) ?_
  refine r_val (v := .bool _) (v_gtr (.inl rfl) (.inl rfl)) rfl rfl (by decide) ?_
  refine r_nil ?_
  refine a_cond rfl (fun ht20 => ?_) (fun ht20 => ?_)
  ·
    skip
    refine a_seq ?_
    refine a_region ?_
    refine r_val (v := .bool _) (v_assign (.inl rfl) (noOwn_flat rfl)) rfl rfl (by decide) ?_
    refine r_nil ?_
    refine a_ret ?_
    refine ret1 Try.results3 (by decide) (by decide) (Weak.of_eq (bool_eq ?_)) rfl Leaves.nil
    first | rfl | (exfalso; simp at ht20; done) | (exfalso; simp at ht20; omega)
  ·
    skip
    refine a_skip ?_
    refine a_seq ?_
    refine a_seq ?_
    have hle : (c.length : Int) ≤ 1048576 := (by simpa using ht20)
    refine a_region ?_
    refine r_val (v := .sl _ _) (v_move (.inl rfl) (noOwn_flat rfl)) rfl rfl (by decide) ?_
    refine r_val (v := .int _ _) (v_len_sl sl22 (.inl rfl)) rfl rfl (by decide) ?_
    refine r_val (v := .bool _) (v_gtr (.inl rfl) (.inl rfl)) rfl rfl (by decide) ?_
    refine r_nil ?_
    refine a_cond rfl (fun ht23 => ?_) (fun ht23 => ?_)
    ·
      skip
      refine a_seq ?_
      refine a_region ?_
      refine r_val (v := .bool _) (v_assign (.inl rfl) (noOwn_flat rfl)) rfl rfl (by decide) ?_
      refine r_nil ?_
      refine a_ret ?_
      refine ret1 Try.results3 (by decide) (by decide) (Weak.of_eq (bool_eq ?_)) rfl Leaves.nil
      first | rfl | (exfalso; simp at ht23; done) | (exfalso; simp at ht23; omega)
    ·
      skip
      refine a_skip ?_
      refine a_seq ?_
      have hle2 : (d.length : Int) ≤ 1048576 := (by simpa using ht23)
      refine a_region ?_
      refine r_val (v := .int _ _) (v_move (.inl rfl) (noOwn_flat rfl)) rfl rfl (by decide) ?_
      refine r_val (v := .sl _ _) (v_move (.inl rfl) (noOwn_flat rfl)) rfl rfl (by decide) ?_
      refine r_new (v := .osl _ _ _ _) (q_call (vs := [.sl _ _]) (args := [.sl _ _]) hb14 ⟨.inl rfl, trivial⟩ rfl (fun hA => toIntS_c _ (by omega)) (ic_noSh _) (ic_noRef _)) rfl rfl (by decide) ?_
      refine r_val (v := .sl _ _) (v_move (.inl rfl) (noOwn_flat rfl)) rfl rfl (by decide) ?_
      refine r_new (v := .osl _ _ _ _) (q_call (vs := [.sl _ _]) (args := [.sl _ _]) hb14 ⟨.inl rfl, trivial⟩ rfl (fun hA => toIntS_c _ (by omega)) (ic_noSh _) (ic_noRef _)) rfl rfl (by decide) ?_
      refine r_new (v := .tup [.agg [.osl _ _ _ _, .int _ _], .bool _]) (q_call (vs := [.int _ _, .rsl _ _ _ _ _, .rsl _ _ _ _ _]) (args := [.int .i64 _, .sl _ _, .sl _ _]) hb13 ⟨.inl rfl, .inl rfl, .inl rfl, trivial⟩ (l3_eq rfl (sl_sh (ic_pure _)) (sl_sh (ic_pure _))) (fun hA => sWk_c vars c d hv0 (by omega) (by omega) hbc hbd) (by simp [noSh, noShL, ic_noSh]) (by simp [noRef, noRefL, ic_noRef])) rfl rfl (by decide) ?_
      refine r_val (v := .tup [.agg [.rsl _ _ _ _ _, .int _ _], .bool _]) (v_mv rfl) rfl rfl (by decide) ?_
      refine r_val (v := .agg [.rsl _ _ _ _ _, .int _ _]) (v_extract rfl rfl) rfl rfl (by decide) ?_
      refine r_val (v := .bool _) (v_extract rfl rfl) rfl rfl (by decide) ?_
      refine r_new (v := .op [.nils, .int _ _]) (q_alloc zc24) rfl rfl (by decide) ?_
      refine r_pre (ent_reloc_at_sl (t := 31) (r := [0]) rfl (by decide) rfl rfl) ?_
      refine r_step rfl (o_store_own (v := .agg [.osl _ _ _ _, .int _ _]) (y' := .op [.osl _ _ _ _, .int _ _]) rfl rfl ta24 (.inl rfl) (by decide) rfl (by decide) rfl (by simp [cellsOf, noRefL, noRef, ic_noRef]) rfl rfl rfl rfl rfl (Nat.le_of_ble_eq_true rfl) rfl rfl) ?_
      refine r_val (v := .bool _) (v_assign (.inl rfl) (noOwn_flat rfl)) rfl rfl (by decide) ?_
      refine r_nil ?_
      refine a_seq ?_
      refine a_pre (ent_look (L := [(0, .int _ _), (1, .sl _ _), (2, .sl _ _), (6, .bool _), (7, .op [.osl _ _ _ _, .int _ _]), (8, .bool _)]) ⟨Weak.rfl, Weak.rfl, Weak.rfl, Weak.rfl, Weak.rfl, Weak.rfl, trivial⟩) ?_
      refine a_region ?_
      refine r_val (v := .sl _ _) (v_move (.inl rfl) (noOwn_flat rfl)) rfl rfl (by decide) ?_
      refine r_new (v := .osl _ _ _ _) (q_call (vs := [.sl _ _]) (args := [.sl _ _]) hb14 ⟨.inl rfl, trivial⟩ rfl (fun hA => toIntS_c _ (by omega)) (ic_noSh _) (ic_noRef _)) rfl rfl (by decide) ?_
      refine r_val (v := .rsl _ _ _ _ _) (v_assign (.inl rfl) (noOwn_flat rfl)) rfl rfl (by decide) ?_
      refine r_pre (ent_reloc_sl (t := 9) rfl rfl) ?_
      refine r_nil ?_
      refine a_seq ?_
      refine a_region ?_
      refine r_val (v := .sl _ _) (v_move (.inl rfl) (noOwn_flat rfl)) rfl rfl (by decide) ?_
      refine r_new (v := .osl _ _ _ _) (q_call (vs := [.sl _ _]) (args := [.sl _ _]) hb14 ⟨.inl rfl, trivial⟩ rfl (fun hA => toIntS_c _ (by omega)) (ic_noSh _) (ic_noRef _)) rfl rfl (by decide) ?_
      refine r_val (v := .rsl _ _ _ _ _) (v_assign (.inl rfl) (noOwn_flat rfl)) rfl rfl (by decide) ?_
      refine r_pre (ent_reloc_sl (t := 10) rfl rfl) ?_
      refine r_nil ?_
      refine a_seq ?_
      refine a_region ?_
      refine r_val (v := .int _ _) (v_move (.inl rfl) (noOwn_flat rfl)) rfl rfl (by decide) ?_
      refine r_val (v := .rsl _ _ _ _ _) (v_move (.inl rfl) (noOwn_flat rfl)) rfl rfl (by decide) ?_
      refine r_val (v := .rsl _ _ _ _ _) (v_move (.inl rfl) (noOwn_flat rfl)) rfl rfl (by decide) ?_
      refine r_new (v := .tup [.agg [.osl _ _ _ _, .int _ _], .bool _]) (q_call (vs := [.int _ _, .rsl _ _ _ _ _, .rsl _ _ _ _ _]) (args := [.int .i64 _, .sl _ _, .sl _ _]) hb15 ⟨.inl rfl, .inl rfl, .inl rfl, trivial⟩ (l3_eq rfl (sl_sh (ic_pure _)) (sl_sh (ic_pure _))) (fun hA => iWk_c vars c d hv0 (by omega) (by omega) hbc hbd) (by simp [noSh, noShL, ic_noSh]) (by simp [noRef, noRefL, ic_noRef])) rfl rfl (by decide) ?_
      refine r_val (v := .tup [.agg [.rsl _ _ _ _ _, .int _ _], .bool _]) (v_mv rfl) rfl rfl (by decide) ?_
      refine r_val (v := .agg [.rsl _ _ _ _ _, .int _ _]) (v_extract rfl rfl) rfl rfl (by decide) ?_
      refine r_val (v := .bool _) (v_extract rfl rfl) rfl rfl (by decide) ?_
      refine r_new (v := .op [.nils, .int _ _]) (q_alloc zc24) rfl rfl (by decide) ?_
      refine r_pre (ent_reloc_at_sl (t := 42) (r := [0]) rfl (by decide) rfl rfl) ?_
      refine r_step rfl (o_store_own (v := .agg [.osl _ _ _ _, .int _ _]) (y' := .op [.osl _ _ _ _, .int _ _]) rfl rfl ta24 (.inl rfl) (by decide) rfl (by decide) rfl (by simp [cellsOf, noRefL, noRef, ic_noRef]) rfl rfl rfl rfl rfl (Nat.le_of_ble_eq_true rfl) rfl rfl) ?_
      refine r_val (v := .bool _) (v_assign (.inl rfl) (noOwn_flat rfl)) rfl rfl (by decide) ?_
      refine r_nil ?_
      refine a_seq ?_
      refine a_seq ?_
      refine a_pre (ent_look (L := [(0, .int _ _), (1, .sl _ _), (2, .sl _ _), (6, .bool _), (7, .op [.osl _ _ _ _, .int _ _]), (8, .bool _), (9, .osl _ _ _ _), (10, .osl _ _ _ _), (11, .op [.osl _ _ _ _, .int _ _]), (12, .bool _)]) ⟨Weak.rfl, Weak.rfl, Weak.rfl, Weak.rfl, Weak.rfl, Weak.rfl, Weak.rfl, Weak.rfl, Weak.rfl, Weak.rfl, trivial⟩) ?_
      refine a_region ?_
      refine r_val (v := .agg [.rsl _ _ _ _ _, .int _ _]) (v_load_rpa (xs := [.osl _ _ _ _, .int _ _]) ta24 (.inl rfl) rfl rfl (fun _ => take_get rfl)) rfl rfl (by decide) ?_
      refine r_val (v := .agg [.rsl _ _ _ _ _, .int _ _]) (v_load_rpa (xs := [.osl _ _ _ _, .int _ _]) ta24 (.inl rfl) rfl rfl (fun _ => take_get rfl)) rfl rfl (by decide) ?_
      refine r_new (v := .bool _) (q_call (vs := [.agg [.rsl _ _ _ _ _, .int _ _], .agg [.rsl _ _ _ _ _, .int _ _]]) (args := [.agg [.sl _ _, .int .i64 _], .agg [.sl _ _, .int .i64 _]]) hb16 ⟨.inl rfl, .inl rfl, trivial⟩ (l2_eq (agg_eq (l2_eq (sl_sh (ic_pure _)) rfl)) (agg_eq (l2_eq (sl_sh (ic_pure _)) rfl))) (fun hA => eqIneq_c _ _ _ _ (by omega)) rfl rfl) rfl rfl (by decide) ?_
      refine r_val (v := .bool _) (v_not (.inl rfl)) rfl rfl (by decide) ?_
      refine r_val (v := .bool _) (v_move (.inl rfl) (noOwn_flat rfl)) rfl rfl (by decide) ?_
      refine r_gval (v := .bool _) (v_move (.inl rfl) (noOwn_flat rfl)) rfl rfl rfl (by decide) (.inl ⟨_, rfl, rfl⟩) rfl (by decide) ?_
      refine r_gval (v := .bool _) (v_move (.inl rfl) (noOwn_flat rfl)) rfl rfl rfl (by decide) (.inl ⟨_, rfl, rfl⟩) rfl (by decide) ?_
      refine r_gval (v := .bool _) (v_bne un4 (.inr ⟨_, rfl, fun h => h⟩) (.inr ⟨_, rfl, fun h => h⟩)) rfl rfl rfl (by decide) (.inl ⟨_, rfl, rfl⟩) rfl (by decide) ?_
      refine r_val (v := .bool _) (v_pick (.inl rfl) (.inl rfl) (.inr ⟨_, rfl, fun h h2 => by simp_all⟩)) rfl rfl (by decide) ?_
      refine r_nil ?_
      refine a_cond rfl (fun ht52 => ?_) (fun ht52 => ?_)
      ·
        skip
        refine a_seq ?_
        refine a_pre (ent_look (L := [(0, .int _ _), (1, .sl _ _), (2, .sl _ _), (6, .bool _), (7, .op [.osl _ _ _ _, .int _ _]), (8, .bool _), (9, .osl _ _ _ _), (10, .osl _ _ _ _), (11, .op [.osl _ _ _ _, .int _ _]), (12, .bool _)]) ⟨Weak.rfl, Weak.rfl, Weak.rfl, Weak.rfl, Weak.rfl, Weak.rfl, Weak.rfl, Weak.rfl, Weak.rfl, Weak.rfl, trivial⟩) ?_
        refine a_region ?_
        refine r_val (v := .bool _) (v_assign (.inl rfl) (noOwn_flat rfl)) rfl rfl (by decide) ?_
        refine r_nil ?_
        refine a_ret ?_
        refine ret1 Try.results3 (by decide) (by decide) (Weak.of_eq (bool_eq ?_)) rfl Leaves.nil
        first | rfl | (exfalso; simp at ht52; done) | (exfalso; simp at ht52; omega)
      ·
        skip
        refine a_skip ?_
        refine a_seq ?_
        refine a_seq ?_
        refine a_pre (ent_look (L := [(0, .int _ _), (1, .sl _ _), (2, .sl _ _), (6, .bool _), (7, .op [.osl _ _ _ _, .int _ _]), (8, .bool _), (9, .osl _ _ _ _), (10, .osl _ _ _ _), (11, .op [.osl _ _ _ _, .int _ _]), (12, .bool _)]) ⟨Weak.rfl, Weak.rfl, Weak.rfl, Weak.rfl, Weak.rfl, Weak.rfl, Weak.rfl, Weak.rfl, Weak.rfl, Weak.rfl, trivial⟩) ?_
        refine a_region ?_
        refine r_val (v := .rsl _ _ _ _ _) (v_move (.inl rfl) (noOwn_flat rfl)) rfl rfl (by decide) ?_
        refine r_val (v := .sl _ _) (v_move (.inl rfl) (noOwn_flat rfl)) rfl rfl (by decide) ?_
        refine r_new (v := .osl _ _ _ _) (q_call (vs := [.sl _ _]) (args := [.sl _ _]) hb14 ⟨.inl rfl, trivial⟩ rfl (fun hA => toIntS_c _ (by omega)) (ic_noSh _) (ic_noRef _)) rfl rfl (by decide) ?_
        refine r_new (v := .bool _) (q_call (vs := [.rsl _ _ _ _ _, .rsl _ _ _ _ _]) (args := [.sl _ _, .sl _ _]) hb17 ⟨.inl rfl, .inl rfl, trivial⟩ (l2_eq (sl_sh (ic_pure _)) (sl_sh (ic_pure _))) (fun hA => eqIntS_c _ _ (by omega)) rfl rfl) rfl rfl (by decide) ?_
        refine r_val (v := .bool _) (v_not (.inl rfl)) rfl rfl (by decide) ?_
        refine r_nil ?_
        refine a_cond rfl (fun ht57 => ?_) (fun ht57 => ?_)
        ·
          skip
          refine a_seq ?_
          refine a_pre (ent_look (L := [(0, .int _ _), (1, .sl _ _), (2, .sl _ _), (6, .bool _), (7, .op [.osl _ _ _ _, .int _ _]), (8, .bool _), (9, .osl _ _ _ _), (10, .osl _ _ _ _), (11, .op [.osl _ _ _ _, .int _ _]), (12, .bool _)]) ⟨Weak.rfl, Weak.rfl, Weak.rfl, Weak.rfl, Weak.rfl, Weak.rfl, Weak.rfl, Weak.rfl, Weak.rfl, Weak.rfl, trivial⟩) ?_
          refine a_region ?_
          refine r_val (v := .bool _) (v_assign (.inl rfl) (noOwn_flat rfl)) rfl rfl (by decide) ?_
          refine r_nil ?_
          refine a_ret ?_
          refine ret1 Try.results3 (by decide) (by decide) (Weak.of_eq (bool_eq ?_)) rfl Leaves.nil
          first | rfl | (exfalso; simp at ht57; done) | (exfalso; simp at ht57; omega)
        ·
          skip
          refine a_skip ?_
          refine a_seq ?_
          refine a_seq ?_
          refine a_pre (ent_look (L := [(0, .int _ _), (1, .sl _ _), (2, .sl _ _), (6, .bool _), (7, .op [.osl _ _ _ _, .int _ _]), (8, .bool _), (9, .osl _ _ _ _), (10, .osl _ _ _ _), (11, .op [.osl _ _ _ _, .int _ _]), (12, .bool _)]) ⟨Weak.rfl, Weak.rfl, Weak.rfl, Weak.rfl, Weak.rfl, Weak.rfl, Weak.rfl, Weak.rfl, Weak.rfl, Weak.rfl, trivial⟩) ?_
          refine a_region ?_
          refine r_val (v := .rsl _ _ _ _ _) (v_move (.inl rfl) (noOwn_flat rfl)) rfl rfl (by decide) ?_
          refine r_val (v := .sl _ _) (v_move (.inl rfl) (noOwn_flat rfl)) rfl rfl (by decide) ?_
          refine r_new (v := .osl _ _ _ _) (q_call (vs := [.sl _ _]) (args := [.sl _ _]) hb14 ⟨.inl rfl, trivial⟩ rfl (fun hA => toIntS_c _ (by omega)) (ic_noSh _) (ic_noRef _)) rfl rfl (by decide) ?_
          refine r_new (v := .bool _) (q_call (vs := [.rsl _ _ _ _ _, .rsl _ _ _ _ _]) (args := [.sl _ _, .sl _ _]) hb17 ⟨.inl rfl, .inl rfl, trivial⟩ (l2_eq (sl_sh (ic_pure _)) (sl_sh (ic_pure _))) (fun hA => eqIntS_c _ _ (by omega)) rfl rfl) rfl rfl (by decide) ?_
          refine r_val (v := .bool _) (v_not (.inl rfl)) rfl rfl (by decide) ?_
          refine r_nil ?_
          refine a_cond rfl (fun ht62 => ?_) (fun ht62 => ?_)
          ·
            skip
            refine a_seq ?_
            refine a_pre (ent_look (L := [(0, .int _ _), (1, .sl _ _), (2, .sl _ _), (6, .bool _), (7, .op [.osl _ _ _ _, .int _ _]), (8, .bool _), (9, .osl _ _ _ _), (10, .osl _ _ _ _), (11, .op [.osl _ _ _ _, .int _ _]), (12, .bool _)]) ⟨Weak.rfl, Weak.rfl, Weak.rfl, Weak.rfl, Weak.rfl, Weak.rfl, Weak.rfl, Weak.rfl, Weak.rfl, Weak.rfl, trivial⟩) ?_
            refine a_region ?_
            refine r_val (v := .bool _) (v_assign (.inl rfl) (noOwn_flat rfl)) rfl rfl (by decide) ?_
            refine r_nil ?_
            refine a_ret ?_
            refine ret1 Try.results3 (by decide) (by decide) (Weak.of_eq (bool_eq ?_)) rfl Leaves.nil
            first | rfl | (exfalso; simp at ht62; done) | (exfalso; simp at ht62; omega)
          ·
            skip
            refine a_skip ?_
            refine a_seq ?_
            refine a_pre (ent_look (L := [(0, .int _ _), (1, .sl _ _), (2, .sl _ _), (6, .bool _), (7, .op [.osl _ _ _ _, .int _ _]), (8, .bool _), (9, .osl _ _ _ _), (10, .osl _ _ _ _), (11, .op [.osl _ _ _ _, .int _ _]), (12, .bool _)]) ⟨Weak.rfl, Weak.rfl, Weak.rfl, Weak.rfl, Weak.rfl, Weak.rfl, Weak.rfl, Weak.rfl, Weak.rfl, Weak.rfl, trivial⟩) ?_
            refine a_region ?_
            refine r_val (v := .int _ _) (v_assign (.inl rfl) (noOwn_flat rfl)) rfl rfl (by decide) ?_
            refine r_nil ?_
            refine a_seq ?_
            refine a_region ?_
            refine r_val (v := .rsl _ _ _ _ _) (v_move (.inl rfl) (noOwn_flat rfl)) rfl rfl (by decide) ?_
            refine r_val (v := .int _ _) (v_move (.inl rfl) (noOwn_flat rfl)) rfl rfl (by decide) ?_
            refine r_step rfl (o_callIO (q := (9, [])) (vs := [.rsl _ _ _ _ _, .int _ _]) (args := [.rsl (INH, []) _ _ _ _, .int .i64 _]) (x0 := .osl _ _ _ _) (x1 := .osl _ _ _ _) (res := .int _ _) rfl hb18 rfl (by decide) ⟨.inl rfl, .inl rfl, trivial⟩ rfl rfl (markIntS_c _ _ (by omega)) rfl rfl rfl (ic_noSh _) (ic_noRef _) (Nat.le_of_ble_eq_true rfl) (by decide) rfl) ?_
            refine r_val (v := .int _ _) (v_assign (.inl rfl) (noOwn_flat rfl)) rfl rfl (by decide) ?_
            refine r_nil ?_
            refine a_seq ?_
            refine a_pre (ent_look (L := [(0, .int _ _), (1, .sl _ _), (2, .sl _ _), (6, .bool _), (7, .op [.osl _ _ _ _, .int _ _]), (8, .bool _), (10, .osl _ _ _ _), (11, .op [.osl _ _ _ _, .int _ _]), (12, .bool _), (13, .int _ _)]) ⟨Weak.rfl, Weak.rfl, Weak.rfl, Weak.rfl, Weak.rfl, Weak.rfl, Weak.rfl, Weak.rfl, Weak.rfl, Weak.rfl, trivial⟩) ?_
            refine a_region ?_
            refine r_val (v := .rsl _ _ _ _ _) (v_move (.inl rfl) (noOwn_flat rfl)) rfl rfl (by decide) ?_
            refine r_val (v := .int _ _) (v_move (.inl rfl) (noOwn_flat rfl)) rfl rfl (by decide) ?_
            refine r_step rfl (o_callIO (q := (10, [])) (vs := [.rsl _ _ _ _ _, .int _ _]) (args := [.rsl (INH, []) _ _ _ _, .int .i64 _]) (x0 := .osl _ _ _ _) (x1 := .osl _ _ _ _) (res := .int _ _) rfl hb18 rfl (by decide) ⟨.inl rfl, .inl rfl, trivial⟩ rfl rfl (markIntS_c _ _ (by omega)) rfl rfl rfl (ic_noSh _) (ic_noRef _) (Nat.le_of_ble_eq_true rfl) (by decide) rfl) ?_
            refine r_val (v := .int _ _) (v_assign (.inl rfl) (noOwn_flat rfl)) rfl rfl (by decide) ?_
            refine r_nil ?_
            refine a_seq ?_
            refine a_seq ?_
            refine a_pre (ent_look (L := [(0, .int _ _), (1, .sl _ _), (2, .sl _ _), (6, .bool _), (7, .op [.osl _ _ _ _, .int _ _]), (8, .bool _), (11, .op [.osl _ _ _ _, .int _ _]), (12, .bool _), (13, .int _ _)]) ⟨Weak.rfl, Weak.rfl, Weak.rfl, Weak.rfl, Weak.rfl, Weak.rfl, Weak.rfl, Weak.rfl, Weak.rfl, trivial⟩) ?_
            refine a_region ?_
            refine r_val (v := .int _ _) (v_move (.inl rfl) (noOwn_flat rfl)) rfl rfl (by decide) ?_
            refine r_val (v := .bool _) (v_lss (.inl rfl) (.inl rfl)) rfl rfl (by decide) ?_
            refine r_val (v := .bool _) (v_move (.inl rfl) (noOwn_flat rfl)) rfl rfl (by decide) ?_
            refine r_act rfl rfl (by decide) (.inl ⟨_, rfl, (by simp; omega)⟩) (VSem.step (v := .agg [.rsl _ _ _ _ _, .int _ _]) (v_load_rpa (xs := [.osl _ _ _ _, .int _ _]) ta24 (.inl rfl) rfl rfl (fun _ => take_get rfl)) rfl (by decide)) ?_
            refine r_act rfl rfl (by decide) (.inl ⟨_, rfl, (by simp; omega)⟩) (VSem.step (v := .agg [.rsl _ _ _ _ _, .int _ _]) (v_load_rpa (xs := [.osl _ _ _ _, .int _ _]) ta24 (.inl rfl) rfl rfl (fun _ => take_get rfl)) rfl (by decide)) ?_
            refine r_act rfl rfl (by decide) (.inl ⟨_, rfl, (by simp; omega)⟩) (QSem.step (v := .bool _) (q_call (vs := [.agg [.rsl _ _ _ _ _, .int _ _], .agg [.rsl _ _ _ _ _, .int _ _]]) (args := [.agg [.sl _ _, .int .i64 _], .agg [.sl _ _, .int .i64 _]]) hb16 ⟨.inl rfl, .inl rfl, trivial⟩ (l2_eq (agg_eq (l2_eq (sl_sh (ic_pure _)) rfl)) (agg_eq (l2_eq (sl_sh (ic_pure _)) rfl))) (fun hA => eqIneq_c _ _ _ _ (by omega)) rfl rfl) rfl (by decide)) ?_
            refine r_act rfl rfl (by decide) (.inl ⟨_, rfl, (by simp; omega)⟩) (VSem.step (v := .bool _) (v_not (.inl rfl)) rfl (by decide)) ?_
            refine r_val (v := .bool _) (v_pick (.inl rfl) (.inl rfl) (.inl rfl)) rfl rfl (by decide) ?_
            refine r_val (v := .bool _) (v_move (.inl rfl) (noOwn_flat rfl)) rfl rfl (by decide) ?_
            refine r_gval (v := .bool _) (v_move (.inl rfl) (noOwn_flat rfl)) rfl rfl rfl (by decide) (.inl ⟨_, rfl, rfl⟩) rfl (by decide) ?_
            refine r_gval (v := .bool _) (v_move (.inl rfl) (noOwn_flat rfl)) rfl rfl rfl (by decide) (.inl ⟨_, rfl, rfl⟩) rfl (by decide) ?_
            refine r_gval (v := .bool _) (v_bne un4 (.inr ⟨_, rfl, fun h => h⟩) (.inr ⟨_, rfl, fun h => h⟩)) rfl rfl rfl (by decide) (.inl ⟨_, rfl, rfl⟩) rfl (by decide) ?_
            refine r_val (v := .bool _) (v_pick (.inl rfl) (.inl rfl) (.inr ⟨_, rfl, fun h h2 => by simp_all⟩)) rfl rfl (by decide) ?_
            refine r_nil ?_
            refine a_cond rfl (fun ht81 => ?_) (fun ht81 => ?_)
            ·
              skip
              refine a_seq ?_
              refine a_pre (ent_look (L := [(0, .int _ _), (1, .sl _ _), (2, .sl _ _), (6, .bool _), (7, .op [.osl _ _ _ _, .int _ _]), (8, .bool _), (11, .op [.osl _ _ _ _, .int _ _])]) ⟨Weak.rfl, Weak.rfl, Weak.rfl, Weak.rfl, Weak.rfl, Weak.rfl, Weak.rfl, trivial⟩) ?_
              refine a_region ?_
              refine r_val (v := .bool _) (v_assign (.inl rfl) (noOwn_flat rfl)) rfl rfl (by decide) ?_
              refine r_nil ?_
              refine a_ret ?_
              refine ret1 Try.results3 (by decide) (by decide) (Weak.of_eq (bool_eq ?_)) rfl Leaves.nil
              first | rfl | (exfalso; simp at ht81; done) | (exfalso; simp at ht81; omega)
            ·
              skip
              refine a_skip ?_
              refine a_seq ?_
              refine a_pre (ent_look (L := [(0, .int _ _), (1, .sl _ _), (2, .sl _ _), (6, .bool _), (7, .op [.osl _ _ _ _, .int _ _]), (8, .bool _), (11, .op [.osl _ _ _ _, .int _ _])]) ⟨Weak.rfl, Weak.rfl, Weak.rfl, Weak.rfl, Weak.rfl, Weak.rfl, Weak.rfl, trivial⟩) ?_
              refine a_region ?_
              refine r_val (v := .int _ _) (v_assign (.inl rfl) (noOwn_flat rfl)) rfl rfl (by decide) ?_
              refine r_nil ?_
              refine a_seq ?_
              refine a_region ?_
              refine r_val (v := .agg [.rsl _ _ _ _ _, .int _ _]) (v_load_rpa (xs := [.osl _ _ _ _, .int _ _]) ta24 (.inl rfl) rfl rfl (fun _ => take_get rfl)) rfl rfl (by decide) ?_
              refine r_val (v := .int _ _) (v_move (.inl rfl) (noOwn_flat rfl)) rfl rfl (by decide) ?_
              refine r_step rfl (o_callIO (q := (11, [0])) (vs := [.agg [.rsl _ _ _ _ _, .int _ _], .int _ _]) (args := [.agg [.rsl (INH, []) _ _ _ _, .int .i64 _], .int .i64 _]) (x0 := .osl _ _ _ _) (x1 := .osl _ _ _ _) (res := .int _ _) rfl hb19 rfl (by decide) ⟨.inl rfl, .inl rfl, trivial⟩ rfl rfl (markIneq_c _ _ _ (by omega)) rfl rfl rfl (ic_noSh _) (ic_noRef _) (Nat.le_of_ble_eq_true rfl) (by decide) rfl) ?_
              refine r_val (v := .int _ _) (v_assign (.inl rfl) (noOwn_flat rfl)) rfl rfl (by decide) ?_
              refine r_nil ?_
              refine a_seq ?_
              refine a_region ?_
              refine r_val (v := .int _ _) (v_assign (.inl rfl) (noOwn_flat rfl)) rfl rfl (by decide) ?_
              refine r_nil ?_
              refine a_seq ?_
              refine a_region ?_
              refine r_val (v := .agg [.rsl _ _ _ _ _, .int _ _]) (v_load_rpa (xs := [.osl _ _ _ _, .int _ _]) ta24 (.inl rfl) rfl rfl (fun _ => take_get rfl)) rfl rfl (by decide) ?_
              refine r_val (v := .int _ _) (v_move (.inl rfl) (noOwn_flat rfl)) rfl rfl (by decide) ?_
              refine r_new (v := .int _ _) (q_call (vs := [.agg [.rsl _ _ _ _ _, .int _ _], .int _ _]) (args := [.agg [.sl _ _, .int .i64 _], .int .i64 _]) hb20 ⟨.inl rfl, .inl rfl, trivial⟩ (l2_eq (agg_eq (l2_eq (sl_sh (ic_pure _)) rfl)) rfl) (fun hA => heldIneq_c _ _ _ (by omega)) rfl rfl) rfl rfl (by decide) ?_
              refine r_val (v := .int _ _) (v_assign (.inl rfl) (noOwn_flat rfl)) rfl rfl (by decide) ?_
              refine r_nil ?_
              refine a_seq ?_
              refine a_seq ?_
              refine a_pre (ent_look (L := [(0, .int _ _), (1, .sl _ _), (2, .sl _ _), (6, .bool _), (7, .op [.osl _ _ _ _, .int _ _]), (8, .bool _), (11, .op [.osl _ _ _ _, .int _ _]), (14, .int _ _), (15, .int _ _)]) ⟨Weak.rfl, Weak.rfl, Weak.rfl, Weak.rfl, Weak.rfl, Weak.rfl, Weak.rfl, Weak.rfl, Weak.rfl, trivial⟩) ?_
              refine a_region ?_
              refine r_val (v := .int _ _) (v_move (.inl rfl) (noOwn_flat rfl)) rfl rfl (by decide) ?_
              refine r_val (v := .bool _) (v_lss (.inl rfl) (.inl rfl)) rfl rfl (by decide) ?_
              refine r_nil ?_
              refine a_cond rfl (fun ht89 => ?_) (fun ht89 => ?_)
              ·
                skip
                refine a_seq ?_
                refine a_region ?_
                refine r_val (v := .bool _) (v_assign (.inl rfl) (noOwn_flat rfl)) rfl rfl (by decide) ?_
                refine r_nil ?_
                refine a_ret ?_
                refine ret1 Try.results3 (by decide) (by decide) (Weak.of_eq (bool_eq ?_)) rfl Leaves.nil
                first | rfl | (exfalso; simp at ht89; done) | (exfalso; simp at ht89; omega)
              ·
                skip
                refine a_skip ?_
                refine a_seq ?_
                refine a_seq ?_
                refine a_region ?_
                refine r_val (v := .int _ _) (v_move (.inl rfl) (noOwn_flat rfl)) rfl rfl (by decide) ?_
                refine r_val (v := .int _ _) (v_move (.inl rfl) (noOwn_flat rfl)) rfl rfl (by decide) ?_
                refine r_val (v := .bool _) (v_neq (.inl rfl) (.inl rfl)) rfl rfl (by decide) ?_
                refine r_nil ?_
                refine a_cond rfl (fun ht92 => ?_) (fun ht92 => ?_)
                ·
                  skip
                  refine a_seq ?_
                  refine a_pre (ent_look (L := [(0, .int _ _), (1, .sl _ _), (2, .sl _ _), (6, .bool _), (7, .op [.osl _ _ _ _, .int _ _]), (8, .bool _), (11, .op [.osl _ _ _ _, .int _ _]), (14, .int _ _), (15, .int _ _)]) ⟨Weak.rfl, Weak.rfl, Weak.rfl, Weak.rfl, Weak.rfl, Weak.rfl, Weak.rfl, Weak.rfl, Weak.rfl, trivial⟩) ?_
                  refine a_region ?_
                  refine r_val (v := .bool _) (v_assign (.inl rfl) (noOwn_flat rfl)) rfl rfl (by decide) ?_
                  refine r_nil ?_
                  refine a_ret ?_
                  refine ret1 Try.results3 (by decide) (by decide) (Weak.of_eq (bool_eq ?_)) rfl Leaves.nil
                  first | rfl | (exfalso; simp at ht92; done) | (exfalso; simp at ht92; omega)
                ·
                  skip
                  refine a_skip ?_
                  refine a_seq ?_
                  refine a_pre (ent_look (L := [(0, .int _ _), (1, .sl _ _), (2, .sl _ _), (6, .bool _), (7, .op [.osl _ _ _ _, .int _ _]), (8, .bool _), (11, .op [.osl _ _ _ _, .int _ _]), (14, .int _ _), (15, .int _ _)]) ⟨Weak.rfl, Weak.rfl, Weak.rfl, Weak.rfl, Weak.rfl, Weak.rfl, Weak.rfl, Weak.rfl, Weak.rfl, trivial⟩) ?_
                  refine a_region ?_
                  refine r_val (v := .int _ _) (v_move (.inl rfl) (noOwn_flat rfl)) rfl rfl (by decide) ?_
                  refine r_val (v := .sl _ _) (v_move (.inl rfl) (noOwn_flat rfl)) rfl rfl (by decide) ?_
                  refine r_new (v := .osl _ _ _ _) (q_call (vs := [.sl _ _]) (args := [.sl _ _]) hb14 ⟨.inl rfl, trivial⟩ rfl (fun hA => toIntS_c _ (by omega)) (ic_noSh _) (ic_noRef _)) rfl rfl (by decide) ?_
                  refine r_val (v := .sl _ _) (v_move (.inl rfl) (noOwn_flat rfl)) rfl rfl (by decide) ?_
                  refine r_new (v := .osl _ _ _ _) (q_call (vs := [.sl _ _]) (args := [.sl _ _]) hb14 ⟨.inl rfl, trivial⟩ rfl (fun hA => toIntS_c _ (by omega)) (ic_noSh _) (ic_noRef _)) rfl rfl (by decide) ?_
                  refine r_new (v := .tup [.agg [.osl _ _ _ _, .int _ _], .bool _]) (q_call (vs := [.int _ _, .rsl _ _ _ _ _, .rsl _ _ _ _ _]) (args := [.int .i64 _, .sl _ _, .sl _ _]) hb15 ⟨.inl rfl, .inl rfl, .inl rfl, trivial⟩ (l3_eq rfl (sl_sh (ic_pure _)) (sl_sh (ic_pure _))) (fun hA => iWk_c vars c d hv0 (by omega) (by omega) hbc hbd) (by simp [noSh, noShL, ic_noSh]) (by simp [noRef, noRefL, ic_noRef])) rfl rfl (by decide) ?_
                  refine r_val (v := .tup [.agg [.rsl _ _ _ _ _, .int _ _], .bool _]) (v_mv rfl) rfl rfl (by decide) ?_
                  refine r_val (v := .agg [.rsl _ _ _ _ _, .int _ _]) (v_extract rfl rfl) rfl rfl (by decide) ?_
                  refine r_val (v := .bool _) (v_extract rfl rfl) rfl rfl (by decide) ?_
                  refine r_new (v := .op [.nils, .int _ _]) (q_alloc zc24) rfl rfl (by decide) ?_
                  refine r_pre (ent_reloc_at_sl (t := 100) (r := [0]) rfl (by decide) rfl rfl) ?_
                  refine r_step rfl (o_store_own (v := .agg [.osl _ _ _ _, .int _ _]) (y' := .op [.osl _ _ _ _, .int _ _]) rfl rfl ta24 (.inl rfl) (by decide) rfl (by decide) rfl (by simp [cellsOf, noRefL, noRef, ic_noRef]) rfl rfl rfl rfl rfl (Nat.le_of_ble_eq_true rfl) rfl rfl) ?_
                  refine r_val (v := .bool _) (v_assign (.inl rfl) (noOwn_flat rfl)) rfl rfl (by decide) ?_
                  refine r_nil ?_
                  refine a_seq ?_
                  refine a_seq ?_
                  refine a_pre (ent_look (L := [(6, .bool _), (7, .op [.osl _ _ _ _, .int _ _]), (8, .bool _), (11, .op [.osl _ _ _ _, .int _ _]), (14, .int _ _), (15, .int _ _), (16, .op [.osl _ _ _ _, .int _ _]), (17, .bool _)]) ⟨Weak.rfl, Weak.rfl, Weak.rfl, Weak.rfl, Weak.rfl, Weak.rfl, Weak.rfl, Weak.rfl, trivial⟩) ?_
                  refine a_region ?_
                  refine r_val (v := .agg [.rsl _ _ _ _ _, .int _ _]) (v_load_rpa (xs := [.osl _ _ _ _, .int _ _]) ta24 (.inl rfl) rfl rfl (fun _ => take_get rfl)) rfl rfl (by decide) ?_
                  refine r_val (v := .agg [.rsl _ _ _ _ _, .int _ _]) (v_load_rpa (xs := [.osl _ _ _ _, .int _ _]) ta24 (.inl rfl) rfl rfl (fun _ => take_get rfl)) rfl rfl (by decide) ?_
                  refine r_new (v := .bool _) (q_call (vs := [.agg [.rsl _ _ _ _ _, .int _ _], .agg [.rsl _ _ _ _ _, .int _ _]]) (args := [.agg [.sl _ _, .int .i64 _], .agg [.sl _ _, .int .i64 _]]) hb16 ⟨.inl rfl, .inl rfl, trivial⟩ (l2_eq (agg_eq (l2_eq (sl_sh (ic_pure _)) rfl)) (agg_eq (l2_eq (sl_sh (ic_pure _)) rfl))) (fun hA => eqIneq_c _ _ _ _ (by omega)) rfl rfl) rfl rfl (by decide) ?_
                  refine r_val (v := .bool _) (v_not (.inl rfl)) rfl rfl (by decide) ?_
                  refine r_val (v := .bool _) (v_move (.inl rfl) (noOwn_flat rfl)) rfl rfl (by decide) ?_
                  refine r_gval (v := .bool _) (v_move (.inl rfl) (noOwn_flat rfl)) rfl rfl rfl (by decide) (.inl ⟨_, rfl, rfl⟩) rfl (by decide) ?_
                  refine r_gval (v := .bool _) (v_move (.inl rfl) (noOwn_flat rfl)) rfl rfl rfl (by decide) (.inl ⟨_, rfl, rfl⟩) rfl (by decide) ?_
                  refine r_gval (v := .bool _) (v_bne un4 (.inr ⟨_, rfl, fun h => h⟩) (.inr ⟨_, rfl, fun h => h⟩)) rfl rfl rfl (by decide) (.inl ⟨_, rfl, rfl⟩) rfl (by decide) ?_
                  refine r_val (v := .bool _) (v_pick (.inl rfl) (.inl rfl) (.inr ⟨_, rfl, fun h h2 => by simp_all⟩)) rfl rfl (by decide) ?_
                  refine r_nil ?_
                  refine a_cond rfl (fun ht110 => ?_) (fun ht110 => ?_)
                  ·
                    skip
                    refine a_seq ?_
                    refine a_pre (ent_look (L := [(6, .bool _), (11, .op [.osl _ _ _ _, .int _ _]), (14, .int _ _), (15, .int _ _)]) ⟨Weak.rfl, Weak.rfl, Weak.rfl, Weak.rfl, trivial⟩) ?_
                    refine a_region ?_
                    refine r_val (v := .bool _) (v_assign (.inl rfl) (noOwn_flat rfl)) rfl rfl (by decide) ?_
                    refine r_nil ?_
                    refine a_ret ?_
                    refine ret1 Try.results3 (by decide) (by decide) (Weak.of_eq (bool_eq ?_)) rfl Leaves.nil
                    first | rfl | (exfalso; simp at ht110; done) | (exfalso; simp at ht110; omega)
                  ·
                    skip
                    refine a_skip ?_
                    refine a_seq ?_
                    refine a_pre (ent_look (L := [(6, .bool _), (11, .op [.osl _ _ _ _, .int _ _]), (14, .int _ _), (15, .int _ _)]) ⟨Weak.rfl, Weak.rfl, Weak.rfl, Weak.rfl, trivial⟩) ?_
                    refine a_region ?_
                    refine r_val (v := .int _ _) (v_assign (.inl rfl) (noOwn_flat rfl)) rfl rfl (by decide) ?_
                    refine r_nil ?_
                    refine a_seq ?_
                    refine a_region ?_
                    refine r_val (v := .agg [.rsl _ _ _ _ _, .int _ _]) (v_load_rpa (xs := [.osl _ _ _ _, .int _ _]) ta24 (.inl rfl) rfl rfl (fun _ => take_get rfl)) rfl rfl (by decide) ?_
                    refine r_val (v := .int _ _) (v_move (.inl rfl) (noOwn_flat rfl)) rfl rfl (by decide) ?_
                    refine r_new (v := .int _ _) (q_call (vs := [.agg [.rsl _ _ _ _ _, .int _ _], .int _ _]) (args := [.agg [.sl _ _, .int .i64 _], .int .i64 _]) hb20 ⟨.inl rfl, .inl rfl, trivial⟩ (l2_eq (agg_eq (l2_eq (sl_sh (ic_pure _)) rfl)) rfl) (fun hA => heldIneq_c _ _ _ (by omega)) rfl rfl) rfl rfl (by decide) ?_
                    refine r_val (v := .int _ _) (v_assign (.inl rfl) (noOwn_flat rfl)) rfl rfl (by decide) ?_
                    refine r_nil ?_
                    refine a_seq ?_
                    refine a_seq ?_
                    refine a_region ?_
                    refine r_val (v := .int _ _) (v_move (.inl rfl) (noOwn_flat rfl)) rfl rfl (by decide) ?_
                    refine r_val (v := .bool _) (v_lss (.inl rfl) (.inl rfl)) rfl rfl (by decide) ?_
                    refine r_nil ?_
                    refine a_cond rfl (fun ht115 => ?_) (fun ht115 => ?_)
                    ·
                      skip
                      refine a_seq ?_
                      refine a_region ?_
                      refine r_val (v := .bool _) (v_assign (.inl rfl) (noOwn_flat rfl)) rfl rfl (by decide) ?_
                      refine r_nil ?_
                      refine a_ret ?_
                      refine ret1 Try.results3 (by decide) (by decide) (Weak.of_eq (bool_eq ?_)) rfl Leaves.nil
                      first | rfl | (exfalso; simp at ht115; done) | (exfalso; simp at ht115; omega)
                    ·
                      skip
                      refine a_skip ?_
                      refine a_seq ?_
                      refine a_seq ?_
                      refine a_region ?_
                      refine r_val (v := .int _ _) (v_move (.inl rfl) (noOwn_flat rfl)) rfl rfl (by decide) ?_
                      refine r_val (v := .int _ _) (v_move (.inl rfl) (noOwn_flat rfl)) rfl rfl (by decide) ?_
                      refine r_val (v := .bool _) (v_neq (.inl rfl) (.inl rfl)) rfl rfl (by decide) ?_
                      refine r_nil ?_
                      refine a_cond rfl (fun ht118 => ?_) (fun ht118 => ?_)
                      ·
                        skip
                        refine a_seq ?_
                        refine a_pre (ent_look (L := [(6, .bool _)]) ⟨Weak.rfl, trivial⟩) ?_
                        refine a_region ?_
                        refine r_val (v := .bool _) (v_assign (.inl rfl) (noOwn_flat rfl)) rfl rfl (by decide) ?_
                        refine r_nil ?_
                        refine a_ret ?_
                        refine ret1 Try.results3 (by decide) (by decide) (Weak.of_eq (bool_eq ?_)) rfl Leaves.nil
                        first | rfl | (exfalso; simp at ht118; done) | (exfalso; simp at ht118; omega)
                      ·
                        skip
                        refine a_skip ?_
                        refine a_seq ?_
                        refine a_pre (ent_look (L := [(6, .bool _)]) ⟨Weak.rfl, trivial⟩) ?_
                        refine a_region ?_
                        refine r_val (v := .bool _) (v_assign (.inl rfl) (noOwn_flat rfl)) rfl rfl (by decide) ?_
                        refine r_nil ?_
                        refine a_ret ?_
                        refine ret1 Try.results3 (by decide) (by decide) (Weak.of_eq (bool_eq ?_)) rfl Leaves.nil
                        first | rfl | (exfalso; simp at ht118; done) | (exfalso; simp at ht118; omega)
end Go.Av
namespace Go.Av
open Go
theorem bd64 {n : Int} (h : (Lit.int .i64 n).wf = true) : -9223372036854775808 ≤ n ∧ n ≤ 9223372036854775807 := bounds_i64 h
theorem len64 {n : Nat} (h : n ≤ maxLen) : (n : Int) ≤ 9223372036854775807 := by unfold maxLen at h; omega
theorem icells_flat (xs : List Int) : xs.flatMap (fun n => [AV.int .i64 n]) = icells xs := by
  induction xs with
  | nil => rfl
  | cons x xs ih => rw [List.flatMap_cons, ih]; rfl
end Go.Av
namespace Go.Av
open Go Go.Proofs Go.Proofs.Ytmoncdcidlinfaa
set_option maxRecDepth 100000
theorem arg3 : OpensV Try.prog 3 (fun x : Int => AV.int .i64 x) (fun x => (Lit.int .i64 x).wf = true) :=
  opensV_one (ok_scalar (by rw [Try.underlying3])) (opens_int Try.underlying3) (fun _ => rfl)
theorem arg22 : OpensV Try.prog 22 (fun x : List (Int) => AV.sl (x.flatMap fun y1 => [AV.int .i64 y1]) x.length) (fun x => (x.length ≤ maxLen ∧ ∀ y1 ∈ x, (Lit.int .i64 y1).wf = true ∧ ([AV.int .i64 y1]).length = 1)) :=
  opensV_one (ok_scalar (by rw [Try.underlying22])) (opens_slice (k := 1) Try.underlying22 (by kernel_rfl) (by decide) (opens_int Try.underlying3) (fun _ => rfl)) (fun _ => rfl)
theorem rowOwn : ownKnob Try.prog.godebug = none := by kernel_rfl
theorem rowLaid : laidOutB Try.prog = true := by kernel_rfl
end Go.Av
