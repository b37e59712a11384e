/- Lemmas, part 7. -/
import Derived.Test.YtabbccbamdliiaaGreatA6
import Derived.Test.YtabbccbamdliiaaGreatRows
set_option linter.unusedVariables false
set_option linter.unusedSimpArgs false
namespace Go.Av
open Go Go.Proofs Go.Sort
set_option maxRecDepth 10000
theorem hb10 : hasBody Tryz.prog 10 = true := by kernel_rfl
theorem hb11 : hasBody Tryz.prog 11 = true := by kernel_rfl
theorem hb13 : hasBody Tryz.prog 13 = true := by kernel_rfl
theorem hb15 : hasBody Tryz.prog 15 = true := by kernel_rfl
theorem hb16 : hasBody Tryz.prog 16 = true := by kernel_rfl
theorem hb4 : hasBody Tryz.prog 4 = true := by kernel_rfl
theorem hb6 : hasBody Tryz.prog 6 = true := by kernel_rfl
theorem hb7 : hasBody Tryz.prog 7 = true := by kernel_rfl
theorem hb9 : hasBody Tryz.prog 9 = true := by kernel_rfl
theorem ta24 : tyAgg Tryz.prog 24 = some (true, 2) := by kernel_rfl
theorem un4 : Tryz.prog.underlying 4 = some .bool := by kernel_rfl

theorem lawTrailOf_c (vars : Int) (L : List (List Int)) (M : List (List Int)) (k : Int) (hv : -9223372036854775808 ≤ vars ∧ vars ≤ 9223372036854775807) (hlen : ∀ i, ((gl L i).length : Int) ≤ 9223372036854775807) (hL : (L.length : Int) ≤ 9223372036854775807) (hbb : ∀ i j, -9223372036854775808 ≤ gd (gl L i) j ∧ gd (gl L i) j ≤ 9223372036854775807) (hlenM : ∀ i, ((gl M i).length : Int) ≤ 9223372036854775807) (hLM : (M.length : Int) ≤ 9223372036854775807) (hbM : ∀ i j, -9223372036854775808 ≤ gd (gl M i) j ∧ gd (gl M i) j ≤ 9223372036854775807) (hvk : -9223372036854775808 ≤ k ∧ k ≤ 9223372036854775807) : ACall Tryz.prog 3 [.agg [.int .i64 vars, .sl (sls L) L.length], .sl (sls M) M.length, .int .i64 k] [] (.bool true) [] := by
  have hr := tlS_len vars L M k
  refine ACall.intro Tryz.func3 rfl (N := 145) rfl (by decide) (by simp) ?_
  refine a_seq ?_
  refine a_region ?_
  refine r_new (v := .op [.int _ _, .sl _ _]) (q_box (.inl rfl) rfl rfl) rfl rfl (by decide) ?_
  refine r_val (v := .bool _) (v_assign (.inl rfl) (noOwn_flat rfl)) rfl rfl (by decide) ?_
  refine r_nil ?_
  refine a_seq ?_
  refine a_region ?_
  refine r_val (v := .int _ _) (v_assign (.inl rfl) (noOwn_flat rfl)) rfl rfl (by decide) ?_
  refine r_nil ?_
  refine a_seq ?_
  refine a_region ?_
  refine r_val (v := .agg [.int _ _, .sl _ _]) (v_load_rpa1 ta24 (.inl rfl) rfl rfl (fun _ => rfl) rfl) rfl rfl (by decide) ?_
  refine r_val (v := .int _ _) (v_move (.inl rfl) (noOwn_flat rfl)) rfl rfl (by decide) ?_
  refine r_new (v := .int _ _) (q_call (vs := [.agg [.int _ _, .sl _ _], .int _ _]) (args := [.agg [.int .i64 _, .sl _ _], .int .i64 _]) hb4 ⟨.inl rfl, .inl rfl, trivial⟩ rfl (fun hA => szCnf_c _ _ _ (by omega) hlen hL) rfl rfl) rfl rfl (by decide) ?_
  refine r_val (v := .int _ _) (v_assign (.inl rfl) (noOwn_flat rfl)) rfl rfl (by decide) ?_
  refine r_nil ?_
  refine a_seq ?_
  refine a_seq ?_
  refine a_region ?_
  refine r_val (v := .int _ _) (v_move (.inl rfl) (noOwn_flat rfl)) rfl rfl (by decide) ?_
  refine r_val (v := .bool _) (v_lss (.inl rfl) (.inl rfl)) rfl rfl (by decide) ?_
  refine r_nil ?_
  refine a_cond rfl (fun ht26 => ?_) (fun ht26 => ?_)
  ·
    skip
    refine a_seq ?_
    refine a_region ?_
    refine r_val (v := .bool _) (v_assign (.inl rfl) (noOwn_flat rfl)) rfl rfl (by decide) ?_
    refine r_nil ?_
    refine a_ret ?_
    refine ret1 Tryz.results3 (by decide) (by decide) (Weak.of_eq (bool_eq ?_)) rfl Leaves.nil
    first | rfl | (exfalso; simp at ht26; done) | (exfalso; simp at ht26; omega)
  ·
    skip
    refine a_skip ?_
    refine a_seq ?_
    have hsz : L.length + tot L L.length ≤ 1048576 := (by have h9 := of_decide_eq_false ht26; unfold szR at h9; split at h9 <;> omega)
    have hk : CnfOk vars L := ⟨hv, by omega, by omega, hbb⟩
    have hll := fun i => len_tot (L := L) (i := i)
    have hsr : szR 1048576 ((L.length + tot L L.length : Nat) : Int) = 1048576 - ((L.length + tot L L.length : Nat) : Int) := (by unfold szR; rw [if_neg (by omega)])
    refine a_region ?_
    refine r_val (v := .sl _ _) (v_move (.inl rfl) (noOwn_flat rfl)) rfl rfl (by decide) ?_
    refine r_val (v := .int _ _) (v_move (.inl rfl) (noOwn_flat rfl)) rfl rfl (by decide) ?_
    refine r_new (v := .int _ _) (q_call (vs := [.sl _ _, .int _ _]) (args := [.sl _ _, .int .i64 _]) hb5 ⟨.inl rfl, .inl rfl, trivial⟩ rfl (fun hA => szIntSS_c _ _ (by omega) hlenM hLM) rfl rfl) rfl rfl (by decide) ?_
    refine r_val (v := .int _ _) (v_assign (.inl rfl) (noOwn_flat rfl)) rfl rfl (by decide) ?_
    refine r_nil ?_
    refine a_seq ?_
    refine a_seq ?_
    refine a_region ?_
    refine r_val (v := .int _ _) (v_move (.inl rfl) (noOwn_flat rfl)) rfl rfl (by decide) ?_
    refine r_val (v := .bool _) (v_lss (.inl rfl) (.inl rfl)) rfl rfl (by decide) ?_
    refine r_nil ?_
    refine a_cond rfl (fun ht31 => ?_) (fun ht31 => ?_)
    ·
      skip
      refine a_seq ?_
      refine a_pre (ent_look (L := [(1, .sl _ _), (2, .int _ _), (3, .op [.int _ _, .sl _ _]), (6, .bool _)]) ⟨Weak.rfl, Weak.rfl, Weak.rfl, Weak.rfl, trivial⟩) ?_
      refine a_region ?_
      refine r_val (v := .bool _) (v_assign (.inl rfl) (noOwn_flat rfl)) rfl rfl (by decide) ?_
      refine r_nil ?_
      refine a_ret ?_
      refine ret1 Tryz.results3 (by decide) (by decide) (Weak.of_eq (bool_eq ?_)) rfl Leaves.nil
      first | rfl | (exfalso; simp at ht31; done) | (exfalso; simp at ht31; omega)
    ·
      skip
      refine a_skip ?_
      refine a_seq ?_
      refine a_pre (ent_look (L := [(1, .sl _ _), (2, .int _ _), (3, .op [.int _ _, .sl _ _]), (6, .bool _)]) ⟨Weak.rfl, Weak.rfl, Weak.rfl, Weak.rfl, trivial⟩) ?_
      have hszM : M.length + tot M M.length ≤ 1048576 := (by have h9 := of_decide_eq_false ht31; rw [hsr] at h9; unfold szR at h9; split at h9 <;> omega)
      have hm : CnfOk vars M := ⟨hv, by omega, by omega, hbM⟩
      have hllM := fun i => len_tot (L := M) (i := i)
      refine a_region ?_
      refine r_val (v := .agg [.int _ _, .sl _ _]) (v_load_rpa1 ta24 (.inl rfl) rfl rfl (fun _ => rfl) rfl) rfl rfl (by decide) ?_
      refine r_new (v := .agg [.int _ _, .osl _ _ _ _]) (q_call (vs := [.agg [.int _ _, .sl _ _]]) (args := [.agg [.int .i64 _, .sl _ _]]) hb7 ⟨.inl rfl, trivial⟩ rfl (fun hA => toCnf_c _ _ (by omega) (by omega)) (by simp [noSh, noShL, osls_noSh]) (by simp [noRef, noRefL, osls_noRef])) rfl rfl (by decide) ?_
      refine r_val (v := .sl _ _) (v_move (.inl rfl) (noOwn_flat rfl)) rfl rfl (by decide) ?_
      refine r_new (v := .osl _ _ _ _) (q_call (vs := [.sl _ _]) (args := [.sl _ _]) hb8 ⟨.inl rfl, trivial⟩ rfl (fun hA => toIntSS_c _ (by omega) (by omega)) (osls_noSh _) (osls_noRef _)) rfl rfl (by decide) ?_
      refine r_val (v := .int _ _) (v_move (.inl rfl) (noOwn_flat rfl)) rfl rfl (by decide) ?_
      refine r_new (v := .tup [.osl _ _ _ _, .int _ _, .bool _]) (q_call (vs := [.agg [.int _ _, .rsl _ _ _ _ _], .rsl _ _ _ _ _, .int _ _]) (args := [.agg [.int .i64 _, .sl _ _], .sl _ _, .int .i64 _]) hb6 ⟨.inl rfl, .inl rfl, .inl rfl, trivial⟩ (l3_eq (agg_eq (l2_eq rfl sl_osls)) sl_osls rfl) (fun hA => sTrl_c _ _ _ hk hm _ hvk) (by simp [noSh, noShL, tc_noSh]) (by simp [noRef, noRefL, tc_noRef])) rfl rfl (by decide) ?_
      refine r_val (v := .tup [.rsl _ _ _ _ _, .int _ _, .bool _]) (v_mv rfl) rfl rfl (by decide) ?_
      refine r_val (v := .rsl _ _ _ _ _) (v_extract rfl rfl) rfl rfl (by decide) ?_
      refine r_val (v := .int _ _) (v_extract rfl rfl) rfl rfl (by decide) ?_
      refine r_val (v := .bool _) (v_extract rfl rfl) rfl rfl (by decide) ?_
      refine r_val (v := .rsl _ _ _ _ _) (v_assign (.inl rfl) (noOwn_flat rfl)) rfl rfl (by decide) ?_
      refine r_pre (ent_reloc_sl (t := 8) rfl rfl) ?_
      refine r_val (v := .int _ _) (v_assign (.inl rfl) (noOwn_flat rfl)) rfl rfl (by decide) ?_
      refine r_val (v := .bool _) (v_assign (.inl rfl) (noOwn_flat rfl)) rfl rfl (by decide) ?_
      refine r_nil ?_
      refine a_seq ?_
      refine a_pre (ent_look (L := [(1, .sl _ _), (2, .int _ _), (3, .op [.int _ _, .sl _ _]), (6, .bool _), (8, .osl _ _ _ _), (9, .int _ _), (10, .bool _)]) ⟨Weak.rfl, Weak.rfl, Weak.rfl, Weak.rfl, Weak.rfl, Weak.rfl, Weak.rfl, trivial⟩) ?_
      refine a_region ?_
      refine r_val (v := .agg [.int _ _, .sl _ _]) (v_load_rpa1 ta24 (.inl rfl) rfl rfl (fun _ => rfl) rfl) rfl rfl (by decide) ?_
      refine r_new (v := .agg [.int _ _, .osl _ _ _ _]) (q_call (vs := [.agg [.int _ _, .sl _ _]]) (args := [.agg [.int .i64 _, .sl _ _]]) hb7 ⟨.inl rfl, trivial⟩ rfl (fun hA => toCnf_c _ _ (by omega) (by omega)) (by simp [noSh, noShL, osls_noSh]) (by simp [noRef, noRefL, osls_noRef])) rfl rfl (by decide) ?_
      refine r_new (v := .op [.int _ _, .nils]) (q_alloc zc30) rfl rfl (by decide) ?_
      refine r_step rfl (o_store_own (v := .agg [.int _ _, .osl _ _ _ _]) (y' := .op [.int _ _, .osl _ _ _ _]) rfl rfl ta30 (.inl rfl) (by decide) rfl (by decide) rfl (by simp [cellsOf, noRefL, noRef, osls_noRef]) rfl rfl rfl rfl rfl (Nat.le_of_ble_eq_true rfl) rfl rfl) ?_
      refine r_nil ?_
      refine a_seq ?_
      refine a_region ?_
      refine r_val (v := .sl _ _) (v_move (.inl rfl) (noOwn_flat rfl)) rfl rfl (by decide) ?_
      refine r_new (v := .osl _ _ _ _) (q_call (vs := [.sl _ _]) (args := [.sl _ _]) hb8 ⟨.inl rfl, trivial⟩ rfl (fun hA => toIntSS_c _ (by omega) (by omega)) (osls_noSh _) (osls_noRef _)) rfl rfl (by decide) ?_
      refine r_val (v := .rsl _ _ _ _ _) (v_assign (.inl rfl) (noOwn_flat rfl)) rfl rfl (by decide) ?_
      refine r_pre (ent_reloc_sl (t := 12) rfl rfl) ?_
      refine r_nil ?_
      refine a_seq ?_
      refine a_pre (ent_look (L := [(1, .sl _ _), (2, .int _ _), (3, .op [.int _ _, .sl _ _]), (6, .bool _), (8, .osl _ _ _ _), (9, .int _ _), (10, .bool _), (11, .op [.int _ _, .osl _ _ _ _]), (12, .osl _ _ _ _)]) ⟨Weak.rfl, Weak.rfl, Weak.rfl, Weak.rfl, Weak.rfl, Weak.rfl, Weak.rfl, Weak.rfl, Weak.rfl, trivial⟩) ?_
      refine a_region ?_
      refine r_val (v := .agg [.int _ _, .rsl _ _ _ _ _]) (v_load_rpa (xs := [.int _ _, .osl _ _ _ _]) ta30 (.inl rfl) rfl rfl (fun _ => take_get rfl)) rfl rfl (by decide) ?_
      refine r_val (v := .rsl _ _ _ _ _) (v_move (.inl rfl) (noOwn_flat rfl)) rfl rfl (by decide) ?_
      refine r_val (v := .int _ _) (v_move (.inl rfl) (noOwn_flat rfl)) rfl rfl (by decide) ?_
      refine r_new (v := .tup [.osl _ _ _ _, .int _ _, .bool _]) (q_call (vs := [.agg [.int _ _, .rsl _ _ _ _ _], .rsl _ _ _ _ _, .int _ _]) (args := [.agg [.int .i64 _, .sl _ _], .sl _ _, .int .i64 _]) hb9 ⟨.inl rfl, .inl rfl, .inl rfl, trivial⟩ (l3_eq (agg_eq (l2_eq rfl sl_osls)) sl_osls rfl) (fun hA => iTrl_c _ _ _ hk hm _ hvk) (by simp [noSh, noShL, tc_noSh]) (by simp [noRef, noRefL, tc_noRef])) rfl rfl (by decide) ?_
      refine r_val (v := .tup [.rsl _ _ _ _ _, .int _ _, .bool _]) (v_mv rfl) rfl rfl (by decide) ?_
      refine r_val (v := .rsl _ _ _ _ _) (v_extract rfl rfl) rfl rfl (by decide) ?_
      refine r_val (v := .int _ _) (v_extract rfl rfl) rfl rfl (by decide) ?_
      refine r_val (v := .bool _) (v_extract rfl rfl) rfl rfl (by decide) ?_
      refine r_val (v := .rsl _ _ _ _ _) (v_assign (.inl rfl) (noOwn_flat rfl)) rfl rfl (by decide) ?_
      refine r_pre (ent_reloc_sl (t := 13) rfl rfl) ?_
      refine r_val (v := .int _ _) (v_assign (.inl rfl) (noOwn_flat rfl)) rfl rfl (by decide) ?_
      refine r_val (v := .bool _) (v_assign (.inl rfl) (noOwn_flat rfl)) rfl rfl (by decide) ?_
      refine r_nil ?_
      refine a_seq ?_
      refine a_seq ?_
      refine a_pre (ent_look (L := [(1, .sl _ _), (2, .int _ _), (3, .op [.int _ _, .sl _ _]), (6, .bool _), (8, .osl _ _ _ _), (9, .int _ _), (10, .bool _), (11, .op [.int _ _, .osl _ _ _ _]), (12, .osl _ _ _ _), (13, .osl _ _ _ _), (14, .int _ _), (15, .bool _)]) ⟨Weak.rfl, Weak.rfl, Weak.rfl, Weak.rfl, Weak.rfl, Weak.rfl, Weak.rfl, Weak.rfl, Weak.rfl, Weak.rfl, Weak.rfl, Weak.rfl, trivial⟩) ?_
      refine a_region ?_
      refine r_val (v := .rsl _ _ _ _ _) (v_move (.inl rfl) (noOwn_flat rfl)) rfl rfl (by decide) ?_
      refine r_val (v := .rsl _ _ _ _ _) (v_move (.inl rfl) (noOwn_flat rfl)) rfl rfl (by decide) ?_
      refine r_new (v := .bool _) (q_call (vs := [.rsl _ _ _ _ _, .rsl _ _ _ _ _]) (args := [.sl _ _, .sl _ _]) hb10 ⟨.inl rfl, .inl rfl, trivial⟩ (l2_eq (sl_sh (tc_pure _)) (sl_sh (tc_pure _))) (fun hA => eqIntA2S_c _ _ (by omega)) rfl rfl) rfl rfl (by decide) ?_
      refine r_val (v := .bool _) (v_not (.inl rfl)) rfl rfl (by decide) ?_
      refine r_val (v := .bool _) (v_move (.inl rfl) (noOwn_flat rfl)) rfl rfl (by decide) ?_
      refine r_gval (v := .int _ _) (v_move (.inl rfl) (noOwn_flat rfl)) rfl rfl rfl (by decide) (.inl ⟨_, rfl, rfl⟩) rfl (by decide) ?_
      refine r_gval (v := .int _ _) (v_move (.inl rfl) (noOwn_flat rfl)) rfl rfl rfl (by decide) (.inl ⟨_, rfl, rfl⟩) rfl (by decide) ?_
      refine r_gval (v := .bool _) (v_neq (.inr ⟨_, rfl, fun h => h⟩) (.inr ⟨_, rfl, fun h => h⟩)) rfl rfl rfl (by decide) (.inl ⟨_, rfl, rfl⟩) rfl (by decide) ?_
      refine r_val (v := .bool _) (v_pick (.inl rfl) (.inl rfl) (.inr ⟨_, rfl, fun h h2 => by simp_all⟩)) rfl rfl (by decide) ?_
      refine r_val (v := .bool _) (v_move (.inl rfl) (noOwn_flat rfl)) rfl rfl (by decide) ?_
      refine r_gval (v := .bool _) (v_move (.inl rfl) (noOwn_flat rfl)) rfl rfl rfl (by decide) (.inl ⟨_, rfl, rfl⟩) rfl (by decide) ?_
      refine r_gval (v := .bool _) (v_move (.inl rfl) (noOwn_flat rfl)) rfl rfl rfl (by decide) (.inl ⟨_, rfl, rfl⟩) rfl (by decide) ?_
      refine r_gval (v := .bool _) (v_bne un4 (.inr ⟨_, rfl, fun h => h⟩) (.inr ⟨_, rfl, fun h => h⟩)) rfl rfl rfl (by decide) (.inl ⟨_, rfl, rfl⟩) rfl (by decide) ?_
      refine r_val (v := .bool _) (v_pick (.inl rfl) (.inl rfl) (.inr ⟨_, rfl, fun h h2 => by simp_all⟩)) rfl rfl (by decide) ?_
      refine r_nil ?_
      refine a_cond rfl (fun ht67 => ?_) (fun ht67 => ?_)
      ·
        skip
        refine a_seq ?_
        refine a_pre (ent_look (L := [(1, .sl _ _), (2, .int _ _), (3, .op [.int _ _, .sl _ _]), (6, .bool _), (8, .osl _ _ _ _), (9, .int _ _), (10, .bool _), (11, .op [.int _ _, .osl _ _ _ _]), (12, .osl _ _ _ _), (13, .osl _ _ _ _), (14, .int _ _), (15, .bool _)]) ⟨Weak.rfl, Weak.rfl, Weak.rfl, Weak.rfl, Weak.rfl, Weak.rfl, Weak.rfl, Weak.rfl, Weak.rfl, Weak.rfl, Weak.rfl, Weak.rfl, trivial⟩) ?_
        refine a_region ?_
        refine r_val (v := .bool _) (v_assign (.inl rfl) (noOwn_flat rfl)) rfl rfl (by decide) ?_
        refine r_nil ?_
        refine a_ret ?_
        refine ret1 Tryz.results3 (by decide) (by decide) (Weak.of_eq (bool_eq ?_)) rfl Leaves.nil
        first | rfl | (exfalso; simp at ht67; done) | (exfalso; simp at ht67; omega)
      ·
        skip
        refine a_skip ?_
        refine a_seq ?_
        refine a_seq ?_
        refine a_pre (ent_look (L := [(1, .sl _ _), (2, .int _ _), (3, .op [.int _ _, .sl _ _]), (6, .bool _), (8, .osl _ _ _ _), (9, .int _ _), (10, .bool _), (11, .op [.int _ _, .osl _ _ _ _]), (12, .osl _ _ _ _), (13, .osl _ _ _ _), (14, .int _ _), (15, .bool _)]) ⟨Weak.rfl, Weak.rfl, Weak.rfl, Weak.rfl, Weak.rfl, Weak.rfl, Weak.rfl, Weak.rfl, Weak.rfl, Weak.rfl, Weak.rfl, Weak.rfl, trivial⟩) ?_
        refine a_region_any mixed (by kernel_rfl) ?_
        refine y_val (v := .agg [.int _ _, .rsl _ _ _ _ _]) (v_load_rpa (xs := [.int _ _, .osl _ _ _ _]) ta30 (.inl rfl) rfl rfl (fun _ => take_get rfl)) rfl rfl (by decide) (by kernel_rfl) ?_
        refine y_val (v := .agg [.int _ _, .sl _ _]) (v_load_rpa1 ta24 (.inl rfl) rfl rfl (fun _ => rfl) rfl) rfl rfl (by decide) (by kernel_rfl) ?_
        refine y_new (v := .agg [.int _ _, .osl _ _ _ _]) (q_call (vs := [.agg [.int _ _, .sl _ _]]) (args := [.agg [.int .i64 _, .sl _ _]]) hb7 ⟨.inl rfl, trivial⟩ rfl (fun hA => toCnf_c _ _ (by omega) (by omega)) (by simp [noSh, noShL, osls_noSh]) (by simp [noRef, noRefL, osls_noRef])) rfl rfl (by decide) (by kernel_rfl) ?_
        refine y_new (v := .bool _) (q_call (vs := [.agg [.int _ _, .rsl _ _ _ _ _], .agg [.int _ _, .rsl _ _ _ _ _]]) (args := [.agg [.int .i64 _, .sl _ _], .agg [.int .i64 _, .sl _ _]]) hb11 ⟨.inl rfl, .inl rfl, trivial⟩ (l2_eq (agg_eq (l2_eq rfl sl_osls)) (agg_eq (l2_eq rfl sl_osls))) (fun hA => eqCnf_c _ _ _ _ (by omega) (by omega) (fun i => by first | (have := hrl i; omega) | (have := hll i; omega))) rfl rfl) rfl rfl (by decide) (by kernel_rfl) ?_
        refine y_val (v := .bool _) (v_not (.inl rfl)) rfl rfl (by decide) (by kernel_rfl) ?_
        refine y_nil ?_
        refine a_cond rfl (fun ht72 => ?_) (fun ht72 => ?_)
        ·
          skip
          refine a_seq ?_
          refine a_pre (ent_look (L := [(1, .sl _ _), (2, .int _ _), (3, .op [.int _ _, .sl _ _]), (6, .bool _), (8, .osl _ _ _ _), (9, .int _ _), (10, .bool _), (11, .op [.int _ _, .osl _ _ _ _]), (12, .osl _ _ _ _), (13, .osl _ _ _ _), (14, .int _ _), (15, .bool _)]) ⟨Weak.rfl, Weak.rfl, Weak.rfl, Weak.rfl, Weak.rfl, Weak.rfl, Weak.rfl, Weak.rfl, Weak.rfl, Weak.rfl, Weak.rfl, Weak.rfl, trivial⟩) ?_
          refine a_region ?_
          refine r_val (v := .bool _) (v_assign (.inl rfl) (noOwn_flat rfl)) rfl rfl (by decide) ?_
          refine r_nil ?_
          refine a_ret ?_
          refine ret1 Tryz.results3 (by decide) (by decide) (Weak.of_eq (bool_eq ?_)) rfl Leaves.nil
          first | rfl | (exfalso; simp at ht72; done) | (exfalso; simp at ht72; omega)
        ·
          skip
          refine a_skip ?_
          refine a_seq ?_
          refine a_seq ?_
          refine a_pre (ent_look (L := [(1, .sl _ _), (2, .int _ _), (3, .op [.int _ _, .sl _ _]), (6, .bool _), (8, .osl _ _ _ _), (9, .int _ _), (10, .bool _), (11, .op [.int _ _, .osl _ _ _ _]), (12, .osl _ _ _ _), (13, .osl _ _ _ _), (14, .int _ _), (15, .bool _)]) ⟨Weak.rfl, Weak.rfl, Weak.rfl, Weak.rfl, Weak.rfl, Weak.rfl, Weak.rfl, Weak.rfl, Weak.rfl, Weak.rfl, Weak.rfl, Weak.rfl, trivial⟩) ?_
          refine a_region ?_
          refine r_val (v := .rsl _ _ _ _ _) (v_move (.inl rfl) (noOwn_flat rfl)) rfl rfl (by decide) ?_
          refine r_val (v := .sl _ _) (v_move (.inl rfl) (noOwn_flat rfl)) rfl rfl (by decide) ?_
          refine r_new (v := .osl _ _ _ _) (q_call (vs := [.sl _ _]) (args := [.sl _ _]) hb8 ⟨.inl rfl, trivial⟩ rfl (fun hA => toIntSS_c _ (by omega) (by omega)) (osls_noSh _) (osls_noRef _)) rfl rfl (by decide) ?_
          refine r_new (v := .bool _) (q_call (vs := [.rsl _ _ _ _ _, .rsl _ _ _ _ _]) (args := [.sl _ _, .sl _ _]) hb12 ⟨.inl rfl, .inl rfl, trivial⟩ (l2_eq sl_osls sl_osls) (fun hA => eqIntSS_c _ _ (by omega) (by omega) (fun i => by first | (have := hllM i; omega) | (have := hrlM i; omega))) rfl rfl) rfl rfl (by decide) ?_
          refine r_val (v := .bool _) (v_not (.inl rfl)) rfl rfl (by decide) ?_
          refine r_nil ?_
          refine a_cond rfl (fun ht77 => ?_) (fun ht77 => ?_)
          ·
            skip
            refine a_seq ?_
            refine a_pre (ent_look (L := [(1, .sl _ _), (2, .int _ _), (3, .op [.int _ _, .sl _ _]), (6, .bool _), (8, .osl _ _ _ _), (9, .int _ _), (10, .bool _), (11, .op [.int _ _, .osl _ _ _ _]), (12, .osl _ _ _ _), (13, .osl _ _ _ _), (14, .int _ _), (15, .bool _)]) ⟨Weak.rfl, Weak.rfl, Weak.rfl, Weak.rfl, Weak.rfl, Weak.rfl, Weak.rfl, Weak.rfl, Weak.rfl, Weak.rfl, Weak.rfl, Weak.rfl, trivial⟩) ?_
            refine a_region ?_
            refine r_val (v := .bool _) (v_assign (.inl rfl) (noOwn_flat rfl)) rfl rfl (by decide) ?_
            refine r_nil ?_
            refine a_ret ?_
            refine ret1 Tryz.results3 (by decide) (by decide) (Weak.of_eq (bool_eq ?_)) rfl Leaves.nil
            first | rfl | (exfalso; simp at ht77; done) | (exfalso; simp at ht77; omega)
          ·
            skip
            refine a_skip ?_
            refine a_seq ?_
            refine a_pre (ent_look (L := [(1, .sl _ _), (2, .int _ _), (3, .op [.int _ _, .sl _ _]), (6, .bool _), (8, .osl _ _ _ _), (9, .int _ _), (10, .bool _), (11, .op [.int _ _, .osl _ _ _ _]), (12, .osl _ _ _ _), (13, .osl _ _ _ _), (14, .int _ _), (15, .bool _)]) ⟨Weak.rfl, Weak.rfl, Weak.rfl, Weak.rfl, Weak.rfl, Weak.rfl, Weak.rfl, Weak.rfl, Weak.rfl, Weak.rfl, Weak.rfl, Weak.rfl, trivial⟩) ?_
            refine a_region ?_
            refine r_val (v := .int _ _) (v_assign (.inl rfl) (noOwn_flat rfl)) rfl rfl (by decide) ?_
            refine r_nil ?_
            refine a_seq ?_
            refine a_region ?_
            refine r_val (v := .agg [.int _ _, .rsl _ _ _ _ _]) (v_load_rpa (xs := [.int _ _, .osl _ _ _ _]) ta30 (.inl rfl) rfl rfl (fun _ => take_get rfl)) rfl rfl (by decide) ?_
            refine r_val (v := .int _ _) (v_move (.inl rfl) (noOwn_flat rfl)) rfl rfl (by decide) ?_
            refine r_step rfl (o_callIO (q := (11, [1])) (vs := [.agg [.int _ _, .rsl _ _ _ _ _], .int _ _]) (args := [.agg [.int .i64 _, .rsl (INH, []) _ _ _ _], .int .i64 _]) (x0 := .osl _ _ _ _) (x1 := .osl _ _ _ _) (res := .int _ _) rfl hb13 rfl (by decide) ⟨.inl rfl, .inl rfl, trivial⟩ rfl rfl (markCnf_c _ _ _ (by omega) (by omega) (by omega)) rfl rfl rfl (osls_noSh _) (osls_noRef _) (Nat.le_of_ble_eq_true rfl) (by decide) rfl) ?_
            refine r_val (v := .int _ _) (v_assign (.inl rfl) (noOwn_flat rfl)) rfl rfl (by decide) ?_
            refine r_nil ?_
            refine a_seq ?_
            refine a_pre (ent_look (L := [(1, .sl _ _), (2, .int _ _), (3, .op [.int _ _, .sl _ _]), (6, .bool _), (8, .osl _ _ _ _), (9, .int _ _), (10, .bool _), (12, .osl _ _ _ _), (13, .osl _ _ _ _), (14, .int _ _), (15, .bool _), (16, .int _ _)]) ⟨Weak.rfl, Weak.rfl, Weak.rfl, Weak.rfl, Weak.rfl, Weak.rfl, Weak.rfl, Weak.rfl, Weak.rfl, Weak.rfl, Weak.rfl, Weak.rfl, trivial⟩) ?_
            refine a_region ?_
            refine r_val (v := .rsl _ _ _ _ _) (v_move (.inl rfl) (noOwn_flat rfl)) rfl rfl (by decide) ?_
            refine r_val (v := .int _ _) (v_move (.inl rfl) (noOwn_flat rfl)) rfl rfl (by decide) ?_
            refine r_step rfl (o_callIO (q := (12, [])) (vs := [.rsl _ _ _ _ _, .int _ _]) (args := [.rsl (INH, []) _ _ _ _, .int .i64 _]) (x0 := .osl _ _ _ _) (x1 := .osl _ _ _ _) (res := .int _ _) rfl hb14 rfl (by decide) ⟨.inl rfl, .inl rfl, trivial⟩ rfl rfl (markIntSS_c M _ (by omega) (by omega) (by omega)) rfl rfl rfl (osls_noSh _) (osls_noRef _) (Nat.le_of_ble_eq_true rfl) (by decide) rfl) ?_
            refine r_val (v := .int _ _) (v_assign (.inl rfl) (noOwn_flat rfl)) rfl rfl (by decide) ?_
            refine r_nil ?_
            refine a_seq ?_
            refine a_seq ?_
            refine a_pre (ent_look (L := [(1, .sl _ _), (2, .int _ _), (3, .op [.int _ _, .sl _ _]), (6, .bool _), (8, .osl _ _ _ _), (9, .int _ _), (10, .bool _), (13, .osl _ _ _ _), (14, .int _ _), (15, .bool _), (16, .int _ _)]) ⟨Weak.rfl, Weak.rfl, Weak.rfl, Weak.rfl, Weak.rfl, Weak.rfl, Weak.rfl, Weak.rfl, Weak.rfl, Weak.rfl, Weak.rfl, trivial⟩) ?_
            refine a_region ?_
            refine r_val (v := .int _ _) (v_move (.inl rfl) (noOwn_flat rfl)) rfl rfl (by decide) ?_
            refine r_val (v := .bool _) (v_lss (.inl rfl) (.inl rfl)) rfl rfl (by decide) ?_
            refine r_val (v := .bool _) (v_move (.inl rfl) (noOwn_flat rfl)) rfl rfl (by decide) ?_
            refine r_gval (v := .rsl _ _ _ _ _) (v_move (.inl rfl) (noOwn_flat rfl)) rfl rfl rfl (by decide) (.inl ⟨_, rfl, rfl⟩) rfl (by decide) ?_
            refine r_gval (v := .rsl _ _ _ _ _) (v_move (.inl rfl) (noOwn_flat rfl)) rfl rfl rfl (by decide) (.inl ⟨_, rfl, rfl⟩) rfl (by decide) ?_
            refine r_guard (v := .bool _) (q_call (vs := [.rsl _ _ _ _ _, .rsl _ _ _ _ _]) (args := [.sl _ _, .sl _ _]) hb10 ⟨.inr ⟨_, rfl, fun h => h⟩, .inr ⟨_, rfl, fun h => h⟩, trivial⟩ (l2_eq (sl_sh (tc_pure _)) (sl_sh (tc_pure _))) (fun hA => eqIntA2S_c _ _ (by omega)) rfl rfl) rfl rfl rfl (by decide) (.inl ⟨_, rfl, rfl⟩) rfl (by decide) ?_
            refine r_gval (v := .bool _) (v_not (.inr ⟨_, rfl, fun h => h⟩)) rfl rfl rfl (by decide) (.inl ⟨_, rfl, rfl⟩) rfl (by decide) ?_
            refine r_val (v := .bool _) (v_pick (.inl rfl) (.inl rfl) (.inr ⟨_, rfl, fun h h2 => by simp_all⟩)) rfl rfl (by decide) ?_
            refine r_val (v := .bool _) (v_move (.inl rfl) (noOwn_flat rfl)) rfl rfl (by decide) ?_
            refine r_gval (v := .int _ _) (v_move (.inl rfl) (noOwn_flat rfl)) rfl rfl rfl (by decide) (.inl ⟨_, rfl, rfl⟩) rfl (by decide) ?_
            refine r_gval (v := .int _ _) (v_move (.inl rfl) (noOwn_flat rfl)) rfl rfl rfl (by decide) (.inl ⟨_, rfl, rfl⟩) rfl (by decide) ?_
            refine r_gval (v := .bool _) (v_neq (.inr ⟨_, rfl, fun h => h⟩) (.inr ⟨_, rfl, fun h => h⟩)) rfl rfl rfl (by decide) (.inl ⟨_, rfl, rfl⟩) rfl (by decide) ?_
            refine r_val (v := .bool _) (v_pick (.inl rfl) (.inl rfl) (.inr ⟨_, rfl, fun h h2 => by simp_all⟩)) rfl rfl (by decide) ?_
            refine r_val (v := .bool _) (v_move (.inl rfl) (noOwn_flat rfl)) rfl rfl (by decide) ?_
            refine r_gval (v := .bool _) (v_move (.inl rfl) (noOwn_flat rfl)) rfl rfl rfl (by decide) (.inl ⟨_, rfl, rfl⟩) rfl (by decide) ?_
            refine r_gval (v := .bool _) (v_move (.inl rfl) (noOwn_flat rfl)) rfl rfl rfl (by decide) (.inl ⟨_, rfl, rfl⟩) rfl (by decide) ?_
            refine r_gval (v := .bool _) (v_bne un4 (.inr ⟨_, rfl, fun h => h⟩) (.inr ⟨_, rfl, fun h => h⟩)) rfl rfl rfl (by decide) (.inl ⟨_, rfl, rfl⟩) rfl (by decide) ?_
            refine r_val (v := .bool _) (v_pick (.inl rfl) (.inl rfl) (.inr ⟨_, rfl, fun h h2 => by simp_all⟩)) rfl rfl (by decide) ?_
            refine r_nil ?_
            refine a_cond rfl (fun ht101 => ?_) (fun ht101 => ?_)
            ·
              skip
              refine a_seq ?_
              refine a_pre (ent_look (L := [(1, .sl _ _), (2, .int _ _), (3, .op [.int _ _, .sl _ _]), (6, .bool _), (8, .osl _ _ _ _), (9, .int _ _), (10, .bool _), (13, .osl _ _ _ _)]) ⟨Weak.rfl, Weak.rfl, Weak.rfl, Weak.rfl, Weak.rfl, Weak.rfl, Weak.rfl, Weak.rfl, trivial⟩) ?_
              refine a_region ?_
              refine r_val (v := .bool _) (v_assign (.inl rfl) (noOwn_flat rfl)) rfl rfl (by decide) ?_
              refine r_nil ?_
              refine a_ret ?_
              refine ret1 Tryz.results3 (by decide) (by decide) (Weak.of_eq (bool_eq ?_)) rfl Leaves.nil
              first | rfl | (exfalso; simp at ht101; done) | (exfalso; simp at ht101; omega)
            ·
              skip
              refine a_skip ?_
              refine a_seq ?_
              refine a_pre (ent_look (L := [(1, .sl _ _), (2, .int _ _), (3, .op [.int _ _, .sl _ _]), (6, .bool _), (8, .osl _ _ _ _), (9, .int _ _), (10, .bool _), (13, .osl _ _ _ _)]) ⟨Weak.rfl, Weak.rfl, Weak.rfl, Weak.rfl, Weak.rfl, Weak.rfl, Weak.rfl, Weak.rfl, trivial⟩) ?_
              refine a_region ?_
              refine r_val (v := .int _ _) (v_assign (.inl rfl) (noOwn_flat rfl)) rfl rfl (by decide) ?_
              refine r_nil ?_
              refine a_seq ?_
              refine a_region ?_
              refine r_val (v := .rsl _ _ _ _ _) (v_move (.inl rfl) (noOwn_flat rfl)) rfl rfl (by decide) ?_
              refine r_val (v := .int _ _) (v_move (.inl rfl) (noOwn_flat rfl)) rfl rfl (by decide) ?_
              refine r_step rfl (o_callIO (q := (13, [])) (vs := [.rsl _ _ _ _ _, .int _ _]) (args := [.rsl (INH, []) _ _ _ _, .int .i64 _]) (x0 := .osl _ _ _ _) (x1 := .osl _ _ _ _) (res := .int _ _) rfl hb15 rfl (by decide) ⟨.inl rfl, .inl rfl, trivial⟩ rfl rfl (markA2_c _ _ (by omega)) rfl rfl rfl (ic_noSh _) (ic_noRef _) (Nat.le_of_ble_eq_true rfl) (by decide) rfl) ?_
              refine r_val (v := .int _ _) (v_assign (.inl rfl) (noOwn_flat rfl)) rfl rfl (by decide) ?_
              refine r_nil ?_
              refine a_seq ?_
              refine a_region ?_
              refine r_val (v := .int _ _) (v_assign (.inl rfl) (noOwn_flat rfl)) rfl rfl (by decide) ?_
              refine r_nil ?_
              refine a_seq ?_
              refine a_pre (ent_look (L := [(1, .sl _ _), (2, .int _ _), (3, .op [.int _ _, .sl _ _]), (6, .bool _), (8, .osl _ _ _ _), (9, .int _ _), (10, .bool _), (13, .osl _ _ _ _), (17, .int _ _), (18, .int _ _)]) ⟨Weak.rfl, Weak.rfl, Weak.rfl, Weak.rfl, Weak.rfl, Weak.rfl, Weak.rfl, Weak.rfl, Weak.rfl, Weak.rfl, trivial⟩) ?_
              refine a_region ?_
              refine r_val (v := .rsl _ _ _ _ _) (v_move (.inl rfl) (noOwn_flat rfl)) rfl rfl (by decide) ?_
              refine r_val (v := .int _ _) (v_move (.inl rfl) (noOwn_flat rfl)) rfl rfl (by decide) ?_
              refine r_new (v := .int _ _) (q_call (vs := [.rsl _ _ _ _ _, .int _ _]) (args := [.sl _ _, .int .i64 _]) hb16 ⟨.inl rfl, .inl rfl, trivial⟩ (l2_eq (sl_sh (ic_pure _)) rfl) (fun hA => heldA2_c _ _ (by omega)) rfl rfl) rfl rfl (by decide) ?_
              refine r_val (v := .int _ _) (v_assign (.inl rfl) (noOwn_flat rfl)) rfl rfl (by decide) ?_
              refine r_nil ?_
              refine a_seq ?_
              refine a_seq ?_
              refine a_pre (ent_look (L := [(1, .sl _ _), (2, .int _ _), (3, .op [.int _ _, .sl _ _]), (6, .bool _), (8, .osl _ _ _ _), (9, .int _ _), (10, .bool _), (13, .osl _ _ _ _), (17, .int _ _), (18, .int _ _)]) ⟨Weak.rfl, Weak.rfl, Weak.rfl, Weak.rfl, Weak.rfl, Weak.rfl, Weak.rfl, Weak.rfl, Weak.rfl, Weak.rfl, trivial⟩) ?_
              refine a_region ?_
              refine r_val (v := .int _ _) (v_move (.inl rfl) (noOwn_flat rfl)) rfl rfl (by decide) ?_
              refine r_val (v := .bool _) (v_lss (.inl rfl) (.inl rfl)) rfl rfl (by decide) ?_
              refine r_nil ?_
              refine a_cond rfl (fun ht109 => ?_) (fun ht109 => ?_)
              ·
                skip
                refine a_seq ?_
                refine a_region ?_
                refine r_val (v := .bool _) (v_assign (.inl rfl) (noOwn_flat rfl)) rfl rfl (by decide) ?_
                refine r_nil ?_
                refine a_ret ?_
                refine ret1 Tryz.results3 (by decide) (by decide) (Weak.of_eq (bool_eq ?_)) rfl Leaves.nil
                first | rfl | (exfalso; simp at ht109; done) | (exfalso; simp at ht109; omega)
              ·
                skip
                refine a_skip ?_
                refine a_seq ?_
                refine a_seq ?_
                refine a_region ?_
                refine r_val (v := .int _ _) (v_move (.inl rfl) (noOwn_flat rfl)) rfl rfl (by decide) ?_
                refine r_val (v := .int _ _) (v_move (.inl rfl) (noOwn_flat rfl)) rfl rfl (by decide) ?_
                refine r_val (v := .bool _) (v_neq (.inl rfl) (.inl rfl)) rfl rfl (by decide) ?_
                refine r_nil ?_
                refine a_cond rfl (fun ht112 => ?_) (fun ht112 => ?_)
                ·
                  skip
                  refine a_seq ?_
                  refine a_pre (ent_look (L := [(1, .sl _ _), (2, .int _ _), (3, .op [.int _ _, .sl _ _]), (6, .bool _), (8, .osl _ _ _ _), (9, .int _ _), (10, .bool _), (13, .osl _ _ _ _), (17, .int _ _), (18, .int _ _)]) ⟨Weak.rfl, Weak.rfl, Weak.rfl, Weak.rfl, Weak.rfl, Weak.rfl, Weak.rfl, Weak.rfl, Weak.rfl, Weak.rfl, trivial⟩) ?_
                  refine a_region ?_
                  refine r_val (v := .bool _) (v_assign (.inl rfl) (noOwn_flat rfl)) rfl rfl (by decide) ?_
                  refine r_nil ?_
                  refine a_ret ?_
                  refine ret1 Tryz.results3 (by decide) (by decide) (Weak.of_eq (bool_eq ?_)) rfl Leaves.nil
                  first | rfl | (exfalso; simp at ht112; done) | (exfalso; simp at ht112; omega)
                ·
                  skip
                  refine a_skip ?_
                  refine a_seq ?_
                  refine a_pre (ent_look (L := [(1, .sl _ _), (2, .int _ _), (3, .op [.int _ _, .sl _ _]), (6, .bool _), (8, .osl _ _ _ _), (9, .int _ _), (10, .bool _), (13, .osl _ _ _ _), (17, .int _ _), (18, .int _ _)]) ⟨Weak.rfl, Weak.rfl, Weak.rfl, Weak.rfl, Weak.rfl, Weak.rfl, Weak.rfl, Weak.rfl, Weak.rfl, Weak.rfl, trivial⟩) ?_
                  refine a_region ?_
                  refine r_val (v := .agg [.int _ _, .sl _ _]) (v_load_rpa1 ta24 (.inl rfl) rfl rfl (fun _ => rfl) rfl) rfl rfl (by decide) ?_
                  refine r_new (v := .agg [.int _ _, .osl _ _ _ _]) (q_call (vs := [.agg [.int _ _, .sl _ _]]) (args := [.agg [.int .i64 _, .sl _ _]]) hb7 ⟨.inl rfl, trivial⟩ rfl (fun hA => toCnf_c _ _ (by omega) (by omega)) (by simp [noSh, noShL, osls_noSh]) (by simp [noRef, noRefL, osls_noRef])) rfl rfl (by decide) ?_
                  refine r_val (v := .sl _ _) (v_move (.inl rfl) (noOwn_flat rfl)) rfl rfl (by decide) ?_
                  refine r_new (v := .osl _ _ _ _) (q_call (vs := [.sl _ _]) (args := [.sl _ _]) hb8 ⟨.inl rfl, trivial⟩ rfl (fun hA => toIntSS_c _ (by omega) (by omega)) (osls_noSh _) (osls_noRef _)) rfl rfl (by decide) ?_
                  refine r_val (v := .int _ _) (v_move (.inl rfl) (noOwn_flat rfl)) rfl rfl (by decide) ?_
                  refine r_new (v := .tup [.osl _ _ _ _, .int _ _, .bool _]) (q_call (vs := [.agg [.int _ _, .rsl _ _ _ _ _], .rsl _ _ _ _ _, .int _ _]) (args := [.agg [.int .i64 _, .sl _ _], .sl _ _, .int .i64 _]) hb9 ⟨.inl rfl, .inl rfl, .inl rfl, trivial⟩ (l3_eq (agg_eq (l2_eq rfl sl_osls)) sl_osls rfl) (fun hA => iTrl_c _ _ _ hk hm _ hvk) (by simp [noSh, noShL, tc_noSh]) (by simp [noRef, noRefL, tc_noRef])) rfl rfl (by decide) ?_
                  refine r_val (v := .tup [.rsl _ _ _ _ _, .int _ _, .bool _]) (v_mv rfl) rfl rfl (by decide) ?_
                  refine r_val (v := .rsl _ _ _ _ _) (v_extract rfl rfl) rfl rfl (by decide) ?_
                  refine r_val (v := .int _ _) (v_extract rfl rfl) rfl rfl (by decide) ?_
                  refine r_val (v := .bool _) (v_extract rfl rfl) rfl rfl (by decide) ?_
                  refine r_val (v := .rsl _ _ _ _ _) (v_assign (.inl rfl) (noOwn_flat rfl)) rfl rfl (by decide) ?_
                  refine r_pre (ent_reloc_sl (t := 19) rfl rfl) ?_
                  refine r_val (v := .int _ _) (v_assign (.inl rfl) (noOwn_flat rfl)) rfl rfl (by decide) ?_
                  refine r_val (v := .bool _) (v_assign (.inl rfl) (noOwn_flat rfl)) rfl rfl (by decide) ?_
                  refine r_nil ?_
                  refine a_seq ?_
                  refine a_seq ?_
                  refine a_pre (ent_look (L := [(6, .bool _), (8, .osl _ _ _ _), (9, .int _ _), (10, .bool _), (13, .osl _ _ _ _), (17, .int _ _), (18, .int _ _), (19, .osl _ _ _ _), (20, .int _ _), (21, .bool _)]) ⟨Weak.rfl, Weak.rfl, Weak.rfl, Weak.rfl, Weak.rfl, Weak.rfl, Weak.rfl, Weak.rfl, Weak.rfl, Weak.rfl, trivial⟩) ?_
                  refine a_region ?_
                  refine r_val (v := .rsl _ _ _ _ _) (v_move (.inl rfl) (noOwn_flat rfl)) rfl rfl (by decide) ?_
                  refine r_val (v := .rsl _ _ _ _ _) (v_move (.inl rfl) (noOwn_flat rfl)) rfl rfl (by decide) ?_
                  refine r_new (v := .bool _) (q_call (vs := [.rsl _ _ _ _ _, .rsl _ _ _ _ _]) (args := [.sl _ _, .sl _ _]) hb10 ⟨.inl rfl, .inl rfl, trivial⟩ (l2_eq (sl_sh (tc_pure _)) (sl_sh (tc_pure _))) (fun hA => eqIntA2S_c _ _ (by omega)) rfl rfl) rfl rfl (by decide) ?_
                  refine r_val (v := .bool _) (v_not (.inl rfl)) rfl rfl (by decide) ?_
                  refine r_val (v := .bool _) (v_move (.inl rfl) (noOwn_flat rfl)) rfl rfl (by decide) ?_
                  refine r_gval (v := .int _ _) (v_move (.inl rfl) (noOwn_flat rfl)) rfl rfl rfl (by decide) (.inl ⟨_, rfl, rfl⟩) rfl (by decide) ?_
                  refine r_gval (v := .int _ _) (v_move (.inl rfl) (noOwn_flat rfl)) rfl rfl rfl (by decide) (.inl ⟨_, rfl, rfl⟩) rfl (by decide) ?_
                  refine r_gval (v := .bool _) (v_neq (.inr ⟨_, rfl, fun h => h⟩) (.inr ⟨_, rfl, fun h => h⟩)) rfl rfl rfl (by decide) (.inl ⟨_, rfl, rfl⟩) rfl (by decide) ?_
                  refine r_val (v := .bool _) (v_pick (.inl rfl) (.inl rfl) (.inr ⟨_, rfl, fun h h2 => by simp_all⟩)) rfl rfl (by decide) ?_
                  refine r_val (v := .bool _) (v_move (.inl rfl) (noOwn_flat rfl)) rfl rfl (by decide) ?_
                  refine r_gval (v := .bool _) (v_move (.inl rfl) (noOwn_flat rfl)) rfl rfl rfl (by decide) (.inl ⟨_, rfl, rfl⟩) rfl (by decide) ?_
                  refine r_gval (v := .bool _) (v_move (.inl rfl) (noOwn_flat rfl)) rfl rfl rfl (by decide) (.inl ⟨_, rfl, rfl⟩) rfl (by decide) ?_
                  refine r_gval (v := .bool _) (v_bne un4 (.inr ⟨_, rfl, fun h => h⟩) (.inr ⟨_, rfl, fun h => h⟩)) rfl rfl rfl (by decide) (.inl ⟨_, rfl, rfl⟩) rfl (by decide) ?_
                  refine r_val (v := .bool _) (v_pick (.inl rfl) (.inl rfl) (.inr ⟨_, rfl, fun h h2 => by simp_all⟩)) rfl rfl (by decide) ?_
                  refine r_nil ?_
                  refine a_cond rfl (fun ht136 => ?_) (fun ht136 => ?_)
                  ·
                    skip
                    refine a_seq ?_
                    refine a_pre (ent_look (L := [(6, .bool _), (13, .osl _ _ _ _), (17, .int _ _), (18, .int _ _)]) ⟨Weak.rfl, Weak.rfl, Weak.rfl, Weak.rfl, trivial⟩) ?_
                    refine a_region ?_
                    refine r_val (v := .bool _) (v_assign (.inl rfl) (noOwn_flat rfl)) rfl rfl (by decide) ?_
                    refine r_nil ?_
                    refine a_ret ?_
                    refine ret1 Tryz.results3 (by decide) (by decide) (Weak.of_eq (bool_eq ?_)) rfl Leaves.nil
                    first | rfl | (exfalso; simp at ht136; done) | (exfalso; simp at ht136; omega)
                  ·
                    skip
                    refine a_skip ?_
                    refine a_seq ?_
                    refine a_pre (ent_look (L := [(6, .bool _), (13, .osl _ _ _ _), (17, .int _ _), (18, .int _ _)]) ⟨Weak.rfl, Weak.rfl, Weak.rfl, Weak.rfl, trivial⟩) ?_
                    refine a_region ?_
                    refine r_val (v := .int _ _) (v_assign (.inl rfl) (noOwn_flat rfl)) rfl rfl (by decide) ?_
                    refine r_nil ?_
                    refine a_seq ?_
                    refine a_region ?_
                    refine r_val (v := .rsl _ _ _ _ _) (v_move (.inl rfl) (noOwn_flat rfl)) rfl rfl (by decide) ?_
                    refine r_val (v := .int _ _) (v_move (.inl rfl) (noOwn_flat rfl)) rfl rfl (by decide) ?_
                    refine r_new (v := .int _ _) (q_call (vs := [.rsl _ _ _ _ _, .int _ _]) (args := [.sl _ _, .int .i64 _]) hb16 ⟨.inl rfl, .inl rfl, trivial⟩ (l2_eq (sl_sh (ic_pure _)) rfl) (fun hA => heldA2_c _ _ (by omega)) rfl rfl) rfl rfl (by decide) ?_
                    refine r_val (v := .int _ _) (v_assign (.inl rfl) (noOwn_flat rfl)) rfl rfl (by decide) ?_
                    refine r_nil ?_
                    refine a_seq ?_
                    refine a_seq ?_
                    refine a_region ?_
                    refine r_val (v := .int _ _) (v_move (.inl rfl) (noOwn_flat rfl)) rfl rfl (by decide) ?_
                    refine r_val (v := .bool _) (v_lss (.inl rfl) (.inl rfl)) rfl rfl (by decide) ?_
                    refine r_nil ?_
                    refine a_cond rfl (fun ht141 => ?_) (fun ht141 => ?_)
                    ·
                      skip
                      refine a_seq ?_
                      refine a_region ?_
                      refine r_val (v := .bool _) (v_assign (.inl rfl) (noOwn_flat rfl)) rfl rfl (by decide) ?_
                      refine r_nil ?_
                      refine a_ret ?_
                      refine ret1 Tryz.results3 (by decide) (by decide) (Weak.of_eq (bool_eq ?_)) rfl Leaves.nil
                      first | rfl | (exfalso; simp at ht141; done) | (exfalso; simp at ht141; omega)
                    ·
                      skip
                      refine a_skip ?_
                      refine a_seq ?_
                      refine a_seq ?_
                      refine a_region ?_
                      refine r_val (v := .int _ _) (v_move (.inl rfl) (noOwn_flat rfl)) rfl rfl (by decide) ?_
                      refine r_val (v := .int _ _) (v_move (.inl rfl) (noOwn_flat rfl)) rfl rfl (by decide) ?_
                      refine r_val (v := .bool _) (v_neq (.inl rfl) (.inl rfl)) rfl rfl (by decide) ?_
                      refine r_nil ?_
                      refine a_cond rfl (fun ht144 => ?_) (fun ht144 => ?_)
                      ·
                        skip
                        refine a_seq ?_
                        refine a_pre (ent_look (L := [(6, .bool _)]) ⟨Weak.rfl, trivial⟩) ?_
                        refine a_region ?_
                        refine r_val (v := .bool _) (v_assign (.inl rfl) (noOwn_flat rfl)) rfl rfl (by decide) ?_
                        refine r_nil ?_
                        refine a_ret ?_
                        refine ret1 Tryz.results3 (by decide) (by decide) (Weak.of_eq (bool_eq ?_)) rfl Leaves.nil
                        first | rfl | (exfalso; simp at ht144; done) | (exfalso; simp at ht144; omega)
                      ·
                        skip
                        refine a_skip ?_
                        refine a_seq ?_
                        refine a_pre (ent_look (L := [(6, .bool _)]) ⟨Weak.rfl, trivial⟩) ?_
                        refine a_region ?_
                        refine r_val (v := .bool _) (v_assign (.inl rfl) (noOwn_flat rfl)) rfl rfl (by decide) ?_
                        refine r_nil ?_
                        refine a_ret ?_
                        refine ret1 Tryz.results3 (by decide) (by decide) (Weak.of_eq (bool_eq ?_)) rfl Leaves.nil
                        first | rfl | (exfalso; simp at ht144; done) | (exfalso; simp at ht144; omega)
end Go.Av
namespace Go.Av
open Go
theorem bd64 {n : Int} (h : (Lit.int .i64 n).wf = true) : -9223372036854775808 ≤ n ∧ n ≤ 9223372036854775807 := bounds_i64 h
theorem len64 {n : Nat} (h : n ≤ maxLen) : (n : Int) ≤ 9223372036854775807 := by unfold maxLen at h; omega
theorem icells_flat (xs : List Int) : xs.flatMap (fun n => [AV.int .i64 n]) = icells xs := by
  induction xs with
  | nil => rfl
  | cons x xs ih => rw [List.flatMap_cons, ih]; rfl
end Go.Av
namespace Go.Av
open Go
theorem sls_flat (L : List (List Int)) : L.flatMap (fun c => [AV.sl (icells c) c.length]) = sls L := by
  induction L with
  | nil => rfl
  | cons c L ih => rw [List.flatMap_cons, ih]; rfl
theorem cnf_hyp {L : List (List Int)} (h : L.length ≤ maxLen ∧ ∀ y ∈ L, (y.length ≤ maxLen ∧ ∀ z ∈ y, (Lit.int .i64 z).wf = true ∧ ([AV.int .i64 z]).length = 1) ∧ ([AV.sl (y.flatMap fun z => [AV.int .i64 z]) y.length]).length = 1) :
    (∀ i, ((gl L i).length : Int) ≤ 9223372036854775807) ∧ (L.length : Int) ≤ 9223372036854775807 ∧ ∀ i j, -9223372036854775808 ≤ gd (gl L i) j ∧ gd (gl L i) j ≤ 9223372036854775807 := by
  refine ⟨fun i => ?_, len64 h.1, fun i => ?_⟩
  · rcases Nat.lt_or_ge i L.length with hi | hi
    · exact len64 (h.2 _ (gl_mem hi)).1.1
    · rw [gl_out hi]; simp
  · rcases Nat.lt_or_ge i L.length with hi | hi
    · exact gd_bd fun x hx => bd64 ((h.2 _ (gl_mem hi)).1.2 x hx).1
    · intro j; rw [gl_out hi]; simp [gd]
end Go.Av
namespace Go.Av
open Go Go.Proofs Go.Proofs.YtabbccbamdliiaaGreat
set_option maxRecDepth 100000
theorem arg3 : OpensV Tryz.prog 3 (fun x : Int => AV.int .i64 x) (fun x => (Lit.int .i64 x).wf = true) :=
  opensV_one (ok_scalar (by rw [Tryz.underlying3])) (opens_int Tryz.underlying3) (fun _ => rfl)
theorem arg22 : OpensV Tryz.prog 22 (fun x : List (List (Int)) => AV.sl (x.flatMap fun y4 => [AV.sl (y4.flatMap fun y3 => [AV.int .i64 y3]) y4.length]) x.length) (fun x => (x.length ≤ maxLen ∧ ∀ y4 ∈ x, (y4.length ≤ maxLen ∧ ∀ y3 ∈ y4, (Lit.int .i64 y3).wf = true ∧ ([AV.int .i64 y3]).length = 1) ∧ ([AV.sl (y4.flatMap fun y3 => [AV.int .i64 y3]) y4.length]).length = 1)) :=
  opensV_one (ok_scalar (by rw [Tryz.underlying22])) (opens_slice (k := 1) Tryz.underlying22 (by kernel_rfl) (by decide) (opens_slice (k := 1) Tryz.underlying40 (by kernel_rfl) (by decide) (opens_int Tryz.underlying3) (fun _ => rfl)) (fun _ => rfl)) (fun _ => rfl)
theorem arg24 : OpensV Tryz.prog 24 (fun x : (Int) × (List (List (Int))) => .agg (([AV.int .i64 x.1] ++ [AV.sl (x.2.flatMap fun y2 => [AV.sl (y2.flatMap fun y1 => [AV.int .i64 y1]) y2.length]) x.2.length]))) (fun x => (((Lit.int .i64 x.1).wf = true) ∧ ((x.2.length ≤ maxLen ∧ ∀ y2 ∈ x.2, (y2.length ≤ maxLen ∧ ∀ y1 ∈ y2, (Lit.int .i64 y1).wf = true ∧ ([AV.int .i64 y1]).length = 1) ∧ ([AV.sl (y2.flatMap fun y1 => [AV.int .i64 y1]) y2.length]).length = 1)))) :=
  opensV_agg (ok_agg (by rw [Tryz.underlying24])) (opens_struct Tryz.underlying24 (tot := (1 + 1)) (by kernel_rfl) (opensFs_cons rfl (by kernel_rfl) (opens_int Tryz.underlying3) (opensFs_one rfl (by kernel_rfl) (opens_slice (k := 1) Tryz.underlying22 (by kernel_rfl) (by decide) (opens_slice (k := 1) Tryz.underlying40 (by kernel_rfl) (by decide) (opens_int Tryz.underlying3) (fun _ => rfl)) (fun _ => rfl)))))
theorem rowOwn : ownKnob Tryz.prog.godebug = none := by kernel_rfl
theorem rowLaid : laidOutB Tryz.prog = true := by kernel_rfl
end Go.Av
