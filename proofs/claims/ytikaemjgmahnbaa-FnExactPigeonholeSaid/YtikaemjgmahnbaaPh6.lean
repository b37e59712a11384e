/- Lemmas, part 6. -/
import Derived.Test.YtikaemjgmahnbaaPh5
import Derived.Test.YtikaemjgmahnbaaRows
set_option linter.unusedVariables false
set_option linter.unusedSimpArgs false
namespace Go.Av
open Go Go.Proofs Go.Sort
set_option maxRecDepth 10000
theorem hb26 : hasBody Try.prog 26 = true := by kernel_rfl
theorem hb27 : hasBody Try.prog 27 = true := by kernel_rfl
theorem hb64 : hasBody Try.prog 64 = true := by kernel_rfl

theorem iPig_c (n m : Int) : ACall Try.prog 27 [.int .i64 n, .int .i64 m] [] (.tup [.agg [.int .i64 (resV ((inR n 0 12 && inR m 0 12) && cnfB (n * m) (accJ (pgF n.toNat m.toNat))) (n * m)), .osl 1 (osls (resL ((inR n 0 12 && inR m 0 12) && cnfB (n * m) (accJ (pgF n.toNat m.toNat))) (accJ (pgF n.toNat m.toNat)))) (resL ((inR n 0 12 && inR m 0 12) && cnfB (n * m) (accJ (pgF n.toNat m.toNat))) (accJ (pgF n.toNat m.toNat))).length none], .bool ((inR n 0 12 && inR m 0 12) && cnfB (n * m) (accJ (pgF n.toNat m.toNat)))]) [] := by
  refine ACall.intro Try.func27 rfl (N := 84) rfl (by decide) (by simp) ?_
  refine a_seq ?_
  refine a_region ?_
  refine r_new (v := .op [.int _ _, .nils]) (q_alloc zc24) rfl rfl (by decide) ?_
  refine r_val (v := .bool _) (v_assign (.inl rfl) (noOwn_flat rfl)) rfl rfl (by decide) ?_
  refine r_nil ?_
  refine a_seq ?_
  refine a_seq ?_
  refine a_region ?_
  refine r_val (v := .int _ _) (v_move (.inl rfl) (noOwn_flat rfl)) rfl rfl (by decide) ?_
  refine r_new (v := .bool _) (q_call (vs := [.int _ _, .int _ _, .int _ _]) (args := [.int .i64 _, .int .i64 _, .int .i64 _]) hb61 ⟨.inl rfl, .inl rfl, .inl rfl, trivial⟩ rfl (fun hA => within_c _ _ _) rfl rfl) rfl rfl (by decide) ?_
  refine r_val (v := .bool _) (v_not (.inl rfl)) rfl rfl (by decide) ?_
  refine r_val (v := .bool _) (v_move (.inl rfl) (noOwn_flat rfl)) rfl rfl (by decide) ?_
  refine r_gval (v := .int _ _) (v_move (.inl rfl) (noOwn_flat rfl)) rfl rfl rfl (by decide) (.inl ⟨_, rfl, rfl⟩) rfl (by decide) ?_
  refine r_guard (v := .bool _) (q_call (vs := [.int _ _, .int _ _, .int _ _]) (args := [.int .i64 _, .int .i64 _, .int .i64 _]) hb61 ⟨.inr ⟨_, rfl, fun h => h⟩, .inl rfl, .inl rfl, trivial⟩ rfl (fun hA => within_c _ _ _) rfl rfl) rfl rfl rfl (by decide) (.inl ⟨_, rfl, rfl⟩) rfl (by decide) ?_
  refine r_gval (v := .bool _) (v_not (.inr ⟨_, rfl, fun h => h⟩)) rfl rfl rfl (by decide) (.inl ⟨_, rfl, rfl⟩) rfl (by decide) ?_
  refine r_val (v := .bool _) (v_pick (.inl rfl) (.inl rfl) (.inr ⟨_, rfl, fun h h2 => by simp_all⟩)) rfl rfl (by decide) ?_
  refine r_nil ?_
  refine a_cond rfl (fun ht20 => ?_) (fun ht20 => ?_)
  ·
    skip
    refine a_seq ?_
    refine a_region ?_
    refine r_val (v := .agg [.int _ _, .nils]) (v_build sp24 rfl rfl) rfl rfl (by decide) ?_
    refine r_step rfl (o_store (v := .agg [.int _ _, .nils]) (y' := .op [.int _ _, .nils]) rfl rfl ta24 (.inl rfl) (.inl rfl) rfl rfl rfl rfl rfl rfl (Nat.le_of_ble_eq_true rfl) (by decide) rfl rfl) ?_
    refine r_val (v := .bool _) (v_assign (.inl rfl) (noOwn_flat rfl)) rfl rfl (by decide) ?_
    refine r_nil ?_
    refine a_pre (ent_nil_at (t := 4) (r := [1]) (sz := 1) rfl (.inl rfl) rfl rfl) ?_
    refine a_ret ?_
    refine retL (rs := [.cell 4 24, .tmp 5]) [(4, _), (5, _)] ⟨Weak.rfl, Weak.rfl, trivial⟩ rfl Try.results27 (by decide) ⟨by decide, _, cell_agg rfl ta24, by decide, rfl⟩ (by decide) (by decide) (l2_eq (agg_eq (l2_eq (int_eq ?_) (osl_eq2 ?_ ?_))) (bool_eq ?_)) (by simp [refsL, refs])
    all_goals (have hf : ((inR n 0 12 && inR m 0 12) && cnfB (n * m) (accJ (pgF n.toNat m.toNat))) = false := (by cases h1 : inR n 0 12 <;> cases h2 : inR m 0 12 <;> simp_all); simp [resV, resL, hf, osls])
  ·
    skip
    refine a_skip ?_
    refine a_seq ?_
    have hin : (inR n 0 12 && inR m 0 12) = true := (by cases h1 : inR n 0 12 <;> cases h2 : inR m 0 12 <;> simp_all)
    have hn := inR_spec.1 (by simp at hin; exact hin.1 : inR n 0 12 = true)
    have hm := inR_spec.1 (by simp at hin; exact hin.2 : inR m 0 12 = true)
    obtain ⟨p, rfl⟩ := Int.eq_ofNat_of_zero_le hn.1
    obtain ⟨h, rfl⟩ := Int.eq_ofNat_of_zero_le hm.1
    have hph : p * h ≤ 12 * 12 := Nat.mul_le_mul (by omega) (by omega)
    refine a_region ?_
    refine r_val (v := .int _ _) (v_move (.inl rfl) (noOwn_flat rfl)) rfl rfl (by decide) ?_
    refine r_val (v := .int _ _) (v_move (.inl rfl) (noOwn_flat rfl)) rfl rfl (by decide) ?_
    refine r_val (v := .int _ _) (v_mul (.inl rfl) (.inl rfl) (fun _ => by omega)) rfl rfl (by decide) ?_
    refine r_val (v := .agg [.int _ _, .nils]) (v_build sp55 rfl rfl) rfl rfl (by decide) ?_
    refine r_new (v := .op [.int _ _, .nils]) (q_box (.inl rfl) rfl rfl) rfl rfl (by decide) ?_
    refine r_val (v := .rp _ _) (v_assign (.inl rfl) (noOwn_flat rfl)) rfl rfl (by decide) ?_
    refine r_pre (ent_reloc_op (t := 6) rfl rfl) ?_
    refine r_nil ?_
    refine a_seq ?_
    refine a_seq ?_
    refine a_pre (ent_nil_at (t := 6) (r := [1]) (sz := 1) rfl (.inl rfl) rfl rfl) ?_
    refine a_region ?_
    refine r_val (v := .int _ _) (v_move (.inl rfl) (noOwn_flat rfl)) rfl rfl (by decide) ?_
    refine r_val (v := .int _ _) (v_move (.inl rfl) (noOwn_flat rfl)) rfl rfl (by decide) ?_
    refine r_nil ?_
    refine a_block ?_
    refine a_loop (X := Nat) (fun k => look [(0, .int .i64 ((p : Nat) : Int)), (1, .int .i64 ((h : Nat) : Int)), (4, .op [.int .i64 0, .nils]), (6, .op [.int .i64 (((p : Nat) : Int) * ((h : Nat) : Int)), .osl 1 (osls (accM (pgR h k))) (accM (pgR h k)).length none]), (27, .int .i64 ((p : Nat) : Int)), (28, .int .i64 ((k : Nat) : Int))]) (fun k => k ≤ p) (fun k => p - k) 0 (ent_look ⟨Weak.of_eq rfl, Weak.of_eq rfl, Weak.of_eq rfl, Weak.of_eq rfl, Weak.of_eq rfl, Weak.of_eq rfl, trivial⟩) (Nat.zero_le _) (fun k hG => ?_)
    refine a_seq ?_
    refine a_region ?_
    refine r_val (v := .bool _) (v_lss (.inl rfl) (.inl rfl)) rfl rfl (by decide) ?_
    refine r_nil ?_
    refine a_seq ?_
    refine a_cond rfl (fun ht29 => ?_) (fun ht29 => ?_)
    ·
      skip
      refine a_skip ?_
      refine a_seq ?_
      refine a_block ?_
      refine a_seq ?_
      have hk : k < p := (by simp at ht29; omega)
      refine a_region ?_
      refine r_val (v := .int _ _) (v_move (.inl rfl) (noOwn_flat rfl)) rfl rfl (by decide) ?_
      refine r_val (v := .int _ _) (v_assign (.inl rfl) (noOwn_flat rfl)) rfl rfl (by decide) ?_
      refine r_nil ?_
      refine a_seq ?_
      refine a_region ?_
      refine r_val (v := .nils) (v_assign (.inl rfl) (noOwn_flat rfl)) rfl rfl (by decide) ?_
      refine r_nil ?_
      refine a_seq ?_
      refine a_seq ?_
      refine a_region ?_
      refine r_val (v := .int _ _) (v_assign (.inl rfl) (noOwn_flat rfl)) rfl rfl (by decide) ?_
      refine r_nil ?_
      refine a_block ?_
      refine a_pre (ent_nil (t := 8) (sz := 1) (cap := none) (.inl rfl) (fun _ h => by cases h)) ?_
      refine a_loop (X := Nat) (fun j => look [(0, .int .i64 ((p : Nat) : Int)), (1, .int .i64 ((h : Nat) : Int)), (4, .op [.int .i64 0, .nils]), (6, .op [.int .i64 (((p : Nat) : Int) * ((h : Nat) : Int)), .osl 1 (osls (accM (pgR h k))) (accM (pgR h k)).length none]), (27, .int .i64 ((p : Nat) : Int)), (28, .int .i64 ((k : Nat) : Int)), (7, .int .i64 ((k : Nat) : Int)), (8, .osl 1 (icells (pgK h k j)) (pgK h k j).length none), (9, .int .i64 ((j + 1 : Nat) : Int))]) (fun j => j ≤ h) (fun j => h - j) 0 (ent_look ⟨Weak.of_eq rfl, Weak.of_eq rfl, Weak.of_eq rfl, Weak.of_eq rfl, Weak.of_eq rfl, Weak.of_eq rfl, Weak.of_eq rfl, Weak.of_eq rfl, Weak.of_eq rfl, trivial⟩) (Nat.zero_le _) (fun j hG => ?_)
      refine a_seq ?_
      refine a_seq ?_
      refine a_region ?_
      refine r_val (v := .int _ _) (v_move (.inl rfl) (noOwn_flat rfl)) rfl rfl (by decide) ?_
      refine r_val (v := .int _ _) (v_move (.inl rfl) (noOwn_flat rfl)) rfl rfl (by decide) ?_
      refine r_val (v := .bool _) (v_leq (.inl rfl) (.inl rfl)) rfl rfl (by decide) ?_
      refine r_nil ?_
      refine a_cond rfl (fun ht33 => ?_) (fun ht33 => ?_)
      ·
        skip
        refine a_skip ?_
        refine a_seq ?_
        refine a_block ?_
        have hj2 : j < h := (by simp at ht33; omega)
        have hkl := pgK_len h k j
        have hq0 : k * h ≤ 12 * 12 := Nat.mul_le_mul (by omega) (by omega)
        refine a_region ?_
        refine r_val (v := .rsl _ _ _ _ _) (v_move (.inl rfl) (noOwn_flat rfl)) rfl rfl (by decide) ?_
        refine r_val (v := .int _ _) (v_move (.inl rfl) (noOwn_flat rfl)) rfl rfl (by decide) ?_
        refine r_val (v := .int _ _) (v_move (.inl rfl) (noOwn_flat rfl)) rfl rfl (by decide) ?_
        refine r_val (v := .int .i64 ((k * h : Nat) : Int)) ((v_mul (.inl rfl) (.inl rfl) (fun _ => by omega)).cast (int_eq (by simp))) rfl rfl (by decide) ?_
        refine r_val (v := .int _ _) (v_move (.inl rfl) (noOwn_flat rfl)) rfl rfl (by decide) ?_
        refine r_val (v := .int .i64 ((k * h + j + 1 : Nat) : Int)) ((v_add (.inl rfl) (.inl rfl) (fun _ => by omega)).cast (int_eq (by omega))) rfl rfl (by decide) ?_
        refine r_new (v := .osl _ _ _ _) (q_sliceLit (n := 1) (parts := [(0, .tmp 41)]) lt39 rfl rfl rfl rfl) rfl rfl (by decide) ?_
        refine r_pre (ent_reloc_sl (t := 36) rfl rfl) ?_
        refine r_step rfl (o_append rfl ap39 rfl (by decide) (by decide) rfl (src_lit (.inl rfl) rfl rfl rfl) rfl (by simp [icells_length]) (by rw [pgK_len]; omega)) ?_
        refine r_val (v := .rsl _ _ _ _ _) (v_assign (.inl rfl) (noOwn_flat rfl)) rfl rfl (by decide) ?_
        refine r_pre (ent_reloc_sl (t := 8) rfl rfl) ?_
        refine r_nil ?_
        refine a_region ?_
        refine r_val (v := .int _ _) (v_move (.inl rfl) (noOwn_flat rfl)) rfl rfl (by decide) ?_
        refine r_val (v := .int _ _) (v_add (.inl rfl) (.inl rfl) (fun _ => by omega)) rfl rfl (by decide) ?_
        refine r_val (v := .int _ _) (v_assign (.inl rfl) (noOwn_flat rfl)) rfl rfl (by decide) ?_
        refine r_nil ?_
        refine ⟨j + 1, ent_look ⟨Weak.of_eq rfl, Weak.of_eq rfl, Weak.of_eq rfl, Weak.of_eq rfl, Weak.of_eq rfl, Weak.of_eq rfl, Weak.of_eq rfl, Weak.osl (by rw [pgK_succ, icells_append]; rfl) (by rw [pgK_succ, List.length_append]; rfl), Weak.of_eq (int_eq (by omega)), trivial⟩, (by omega), by omega⟩
      ·
        skip
        refine a_exit ?_
        have hj : j = h := (by simp at ht33; omega)
        refine a_region ?_
        refine r_val (v := .rp _ _) (v_move (.inl rfl) (noOwn_flat rfl)) rfl rfl (by decide) ?_
        refine r_val (v := .rsl _ _ _ _ _) (v_move (.inl rfl) (noOwn_flat rfl)) rfl rfl (by decide) ?_
        refine r_step rfl (o_callIOp (q := (6, [])) (vs := [.rp _ _, .rsl _ _ _ _ _]) (args := [.rp (INH, []) _, .sl _ _]) (cs0 := [.int _ _, .osl _ _ _ _]) (cs1 := [.int _ _, .osl _ _ _ _]) (res := .tup []) rfl hb62 rfl (by decide) ⟨.inl rfl, .inl rfl, trivial⟩ rfl (l2_eq rfl (sl_sh (ic_pure _))) (add_c (((p : Nat) : Int) * ((h : Nat) : Int)) (pgR h k) (pgK h k j) (by rw [pgR_len]; omega) (by rw [pgK_len]; omega)) rfl rfl rfl (by simp [noSh, noShL, osls_noSh]) (by simp [noRef, noRefL, osls_noRef]) (Nat.le_of_ble_eq_true rfl) (by decide) rfl) ?_
        refine r_nil ?_
        refine a_region ?_
        refine r_val (v := .int _ _) (v_add (.inl rfl) (.inl rfl) (fun _ => by omega)) rfl rfl (by decide) ?_
        refine r_val (v := .int _ _) (v_move (.inl rfl) (noOwn_flat rfl)) rfl rfl (by decide) ?_
        refine r_nil ?_
        refine ⟨k + 1, ent_look ⟨Weak.of_eq rfl, Weak.of_eq rfl, Weak.of_eq rfl, Weak.of_eq (by rw [pgR_succ hj]; rfl), Weak.of_eq rfl, Weak.of_eq (int_eq (by omega)), trivial⟩, (by omega), by omega⟩
    ·
      skip
      refine a_exit ?_
      refine a_seq ?_
      refine a_seq ?_
      have hkp : p = k := (by simp at ht29; omega)
      refine a_region ?_
      refine r_val (v := .int _ _) (v_assign (.inl rfl) (noOwn_flat rfl)) rfl rfl (by decide) ?_
      refine r_nil ?_
      refine a_block ?_
      refine a_loop (X := Nat) (fun j => look [(0, .int .i64 ((p : Nat) : Int)), (1, .int .i64 ((h : Nat) : Int)), (4, .op [.int .i64 0, .nils]), (6, .op [.int .i64 (((p : Nat) : Int) * ((h : Nat) : Int)), .osl 1 (osls (accM (pgR h p ++ pgC p h j))) (accM (pgR h p ++ pgC p h j)).length none]), (10, .int .i64 ((j + 1 : Nat) : Int))]) (fun j => j ≤ h) (fun j => h - j) 0 (ent_look ⟨Weak.of_eq rfl, Weak.of_eq rfl, Weak.of_eq rfl, Weak.of_eq (by rw [show pgC p h 0 = [] from rfl, List.append_nil, hkp]; rfl), Weak.of_eq rfl, trivial⟩) (Nat.zero_le _) (fun j hG => ?_)
      refine a_seq ?_
      refine a_seq ?_
      refine a_region ?_
      refine r_val (v := .int _ _) (v_move (.inl rfl) (noOwn_flat rfl)) rfl rfl (by decide) ?_
      refine r_val (v := .int _ _) (v_move (.inl rfl) (noOwn_flat rfl)) rfl rfl (by decide) ?_
      refine r_val (v := .bool _) (v_leq (.inl rfl) (.inl rfl)) rfl rfl (by decide) ?_
      refine r_nil ?_
      refine a_cond rfl (fun ht50 => ?_) (fun ht50 => ?_)
      ·
        skip
        refine a_skip ?_
        refine a_seq ?_
        refine a_block ?_
        refine a_seq ?_
        have hj2 : j < h := (by simp at ht50; omega)
        refine a_region ?_
        refine r_val (v := .int _ _) (v_move (.inl rfl) (noOwn_flat rfl)) rfl rfl (by decide) ?_
        refine r_val (v := .int _ _) (v_move (.inl rfl) (noOwn_flat rfl)) rfl rfl (by decide) ?_
        refine r_nil ?_
        refine a_block ?_
        refine a_loop (X := Nat) (fun a => look [(0, .int .i64 ((p : Nat) : Int)), (1, .int .i64 ((h : Nat) : Int)), (4, .op [.int .i64 0, .nils]), (6, .op [.int .i64 (((p : Nat) : Int) * ((h : Nat) : Int)), .osl 1 (osls (accM ((pgR h p ++ pgC p h j) ++ pgH p h j a))) (accM ((pgR h p ++ pgC p h j) ++ pgH p h j a)).length none]), (10, .int .i64 ((j + 1 : Nat) : Int)), (53, .int .i64 ((p : Nat) : Int)), (54, .int .i64 ((a : Nat) : Int))]) (fun a => a ≤ p) (fun a => p - a) 0 (ent_look ⟨Weak.of_eq rfl, Weak.of_eq rfl, Weak.of_eq rfl, Weak.of_eq (by rw [show pgH p h j 0 = [] from rfl, List.append_nil]; rfl), Weak.of_eq rfl, Weak.of_eq rfl, Weak.of_eq rfl, trivial⟩) (Nat.zero_le _) (fun a hG => ?_)
        refine a_seq ?_
        refine a_region ?_
        refine r_val (v := .bool _) (v_lss (.inl rfl) (.inl rfl)) rfl rfl (by decide) ?_
        refine r_nil ?_
        refine a_seq ?_
        refine a_cond rfl (fun ht55 => ?_) (fun ht55 => ?_)
        ·
          skip
          refine a_skip ?_
          refine a_seq ?_
          refine a_block ?_
          refine a_seq ?_
          have ha : a < p := (by simp at ht55; omega)
          refine a_region ?_
          refine r_val (v := .int _ _) (v_move (.inl rfl) (noOwn_flat rfl)) rfl rfl (by decide) ?_
          refine r_val (v := .int _ _) (v_assign (.inl rfl) (noOwn_flat rfl)) rfl rfl (by decide) ?_
          refine r_nil ?_
          refine a_seq ?_
          refine a_region ?_
          refine r_val (v := .int _ _) (v_move (.inl rfl) (noOwn_flat rfl)) rfl rfl (by decide) ?_
          refine r_val (v := .int _ _) (v_add (.inl rfl) (.inl rfl) (fun _ => by omega)) rfl rfl (by decide) ?_
          refine r_val (v := .int _ _) (v_assign (.inl rfl) (noOwn_flat rfl)) rfl rfl (by decide) ?_
          refine r_nil ?_
          refine a_block ?_
          refine a_loop (X := Nat) (fun b => look [(0, .int .i64 ((p : Nat) : Int)), (1, .int .i64 ((h : Nat) : Int)), (4, .op [.int .i64 0, .nils]), (6, .op [.int .i64 (((p : Nat) : Int) * ((h : Nat) : Int)), .osl 1 (osls (accM (((pgR h p ++ pgC p h j) ++ pgH p h j a) ++ pgA h j a b))) (accM (((pgR h p ++ pgC p h j) ++ pgH p h j a) ++ pgA h j a b)).length none]), (10, .int .i64 ((j + 1 : Nat) : Int)), (53, .int .i64 ((p : Nat) : Int)), (54, .int .i64 ((a : Nat) : Int)), (11, .int .i64 ((a : Nat) : Int)), (12, .int .i64 ((a + 1 + b : Nat) : Int))]) (fun b => a + 1 + b ≤ p) (fun b => p - b) 0 (ent_look ⟨Weak.of_eq rfl, Weak.of_eq rfl, Weak.of_eq rfl, Weak.of_eq (by rw [show pgA h j a 0 = [] from rfl, List.append_nil]; rfl), Weak.of_eq rfl, Weak.of_eq rfl, Weak.of_eq rfl, Weak.of_eq rfl, Weak.of_eq rfl, trivial⟩) (by omega) (fun b hG => ?_)
          refine a_seq ?_
          refine a_seq ?_
          refine a_region ?_
          refine r_val (v := .int _ _) (v_move (.inl rfl) (noOwn_flat rfl)) rfl rfl (by decide) ?_
          refine r_val (v := .int _ _) (v_move (.inl rfl) (noOwn_flat rfl)) rfl rfl (by decide) ?_
          refine r_val (v := .bool _) (v_lss (.inl rfl) (.inl rfl)) rfl rfl (by decide) ?_
          refine r_nil ?_
          refine a_cond rfl (fun ht61 => ?_) (fun ht61 => ?_)
          ·
            skip
            refine a_skip ?_
            refine a_seq ?_
            refine a_block ?_
            have hb : a + 1 + b < p := (by simp at ht61; omega)
            have hl1 := pgR_len h p
            have hl2 := pgC_len p h j
            have hl3 := pgH_len p h j a
            have hl4 := pgA_len h j a b
            have hb1 : p * p ≤ 12 * 12 := Nat.mul_le_mul (by omega) (by omega)
            have hb2 : (p * p) * j ≤ 144 * 12 := Nat.mul_le_mul (by omega) (by omega)
            have hb3 : p * a ≤ 12 * 12 := Nat.mul_le_mul (by omega) (by omega)
            have hq0 : a * h ≤ 12 * 12 := Nat.mul_le_mul (by omega) (by omega)
            have hq1 : (a + 1 + b) * h ≤ 12 * 12 := Nat.mul_le_mul (by omega) (by omega)
            refine a_region ?_
            refine r_val (v := .rp _ _) (v_move (.inl rfl) (noOwn_flat rfl)) rfl rfl (by decide) ?_
            refine r_val (v := .int _ _) (v_move (.inl rfl) (noOwn_flat rfl)) rfl rfl (by decide) ?_
            refine r_val (v := .int _ _) (v_move (.inl rfl) (noOwn_flat rfl)) rfl rfl (by decide) ?_
            refine r_val (v := .int .i64 ((a * h : Nat) : Int)) ((v_mul (.inl rfl) (.inl rfl) (fun _ => by omega)).cast (int_eq (by simp))) rfl rfl (by decide) ?_
            refine r_val (v := .int _ _) (v_move (.inl rfl) (noOwn_flat rfl)) rfl rfl (by decide) ?_
            refine r_val (v := .int .i64 ((a * h + j + 1 : Nat) : Int)) ((v_add (.inl rfl) (.inl rfl) (fun _ => by omega)).cast (int_eq (by omega))) rfl rfl (by decide) ?_
            refine r_val (v := .int _ _) (v_neg (.inl rfl) (fun _ => by omega)) rfl rfl (by decide) ?_
            refine r_val (v := .int _ _) (v_move (.inl rfl) (noOwn_flat rfl)) rfl rfl (by decide) ?_
            refine r_val (v := .int _ _) (v_move (.inl rfl) (noOwn_flat rfl)) rfl rfl (by decide) ?_
            refine r_val (v := .int .i64 (((a + 1 + b) * h : Nat) : Int)) ((v_mul (.inl rfl) (.inl rfl) (fun _ => by omega)).cast (int_eq (by simp))) rfl rfl (by decide) ?_
            refine r_val (v := .int _ _) (v_move (.inl rfl) (noOwn_flat rfl)) rfl rfl (by decide) ?_
            refine r_val (v := .int .i64 (((a + 1 + b) * h + j + 1 : Nat) : Int)) ((v_add (.inl rfl) (.inl rfl) (fun _ => by omega)).cast (int_eq (by omega))) rfl rfl (by decide) ?_
            refine r_val (v := .int _ _) (v_neg (.inl rfl) (fun _ => by omega)) rfl rfl (by decide) ?_
            refine r_new (v := .osl 1 (icells (pgX h j a (a + 1 + b))) 2 (some 2)) (q_sliceLit (n := 2) (parts := [(0, .tmp 70), (1, .tmp 76)]) lt39 rfl rfl rfl rfl) rfl rfl (by decide) ?_
            refine r_step rfl (o_callIOp (q := (6, [])) (vs := [.rp _ _, .rsl _ _ _ _ _]) (args := [.rp (INH, []) _, .sl _ _]) (cs0 := [.int _ _, .osl _ _ _ _]) (cs1 := [.int _ _, .osl _ _ _ _]) (res := .tup []) rfl hb62 rfl (by decide) ⟨.inl rfl, .inl rfl, trivial⟩ rfl (l2_eq rfl (sl_sh (ic_pure _))) (add_c (((p : Nat) : Int) * ((h : Nat) : Int)) (((pgR h p ++ pgC p h j) ++ pgH p h j a) ++ pgA h j a b) (pgX h j a (a + 1 + b)) (by simp; omega) (by simp [pgX])) rfl rfl rfl (by simp [noSh, noShL, osls_noSh]) (by simp [noRef, noRefL, osls_noRef]) (Nat.le_of_ble_eq_true rfl) (by decide) rfl) ?_
            refine r_nil ?_
            refine a_region ?_
            refine r_val (v := .int _ _) (v_move (.inl rfl) (noOwn_flat rfl)) rfl rfl (by decide) ?_
            refine r_val (v := .int _ _) (v_add (.inl rfl) (.inl rfl) (fun _ => by omega)) rfl rfl (by decide) ?_
            refine r_val (v := .int _ _) (v_assign (.inl rfl) (noOwn_flat rfl)) rfl rfl (by decide) ?_
            refine r_nil ?_
            refine ⟨b + 1, ent_look ⟨Weak.of_eq rfl, Weak.of_eq rfl, Weak.of_eq rfl, Weak.of_eq (by rw [pgA_succ, ← List.append_assoc]; rfl), Weak.of_eq rfl, Weak.of_eq rfl, Weak.of_eq rfl, Weak.of_eq rfl, Weak.of_eq (int_eq (by omega)), trivial⟩, (by omega), by omega⟩
          ·
            skip
            refine a_exit ?_
            have hbp : b = p - (a + 1) := (by simp at ht61; omega)
            refine a_region ?_
            refine r_val (v := .int _ _) (v_add (.inl rfl) (.inl rfl) (fun _ => by omega)) rfl rfl (by decide) ?_
            refine r_val (v := .int _ _) (v_move (.inl rfl) (noOwn_flat rfl)) rfl rfl (by decide) ?_
            refine r_nil ?_
            refine ⟨a + 1, ent_look ⟨Weak.of_eq rfl, Weak.of_eq rfl, Weak.of_eq rfl, Weak.of_eq (by rw [pgH_succ hbp, ← List.append_assoc]; rfl), Weak.of_eq rfl, Weak.of_eq rfl, Weak.of_eq (int_eq (by omega)), trivial⟩, (by omega), by omega⟩
        ·
          skip
          refine a_exit ?_
          have hap : a = p := (by simp at ht55; omega)
          refine a_region ?_
          refine r_val (v := .int _ _) (v_move (.inl rfl) (noOwn_flat rfl)) rfl rfl (by decide) ?_
          refine r_val (v := .int _ _) (v_add (.inl rfl) (.inl rfl) (fun _ => by omega)) rfl rfl (by decide) ?_
          refine r_val (v := .int _ _) (v_assign (.inl rfl) (noOwn_flat rfl)) rfl rfl (by decide) ?_
          refine r_nil ?_
          refine ⟨j + 1, ent_look ⟨Weak.of_eq rfl, Weak.of_eq rfl, Weak.of_eq rfl, Weak.of_eq (by rw [pgC_succ hap, ← List.append_assoc]; rfl), Weak.of_eq (int_eq (by omega)), trivial⟩, (by omega), by omega⟩
      ·
        skip
        refine a_exit ?_
        refine a_seq ?_
        have hjh : j = h := (by simp at ht50; omega)
        have hgd : goodB 144 (pgF ((p : Nat) : Int).toNat ((h : Nat) : Int).toNat) = true := (by rw [Int.toNat_natCast, Int.toNat_natCast]; exact pg_good p (by omega) h (by omega))
        have hcF : (pgR h p ++ pgC p h j) = (pgF ((p : Nat) : Int).toNat ((h : Nat) : Int).toNat) := (by rw [Int.toNat_natCast, Int.toNat_natCast, pgF_eq rfl hjh])
        have hrm := res_M (vars := (((p : Nat) : Int) * ((h : Nat) : Int))) (F := (pgF ((p : Nat) : Int).toNat ((h : Nat) : Int).toNat)) hin hgd
        refine a_region ?_
        refine r_val (v := .rp _ _) (v_move (.inl rfl) (noOwn_flat rfl)) rfl rfl (by decide) ?_
        refine r_step rfl (o_callIO (q := (6, [])) (vs := [.rp _ _]) (args := [.rp (INH, []) _]) (x0 := .op [.int _ _, .osl _ _ _ _]) (x1 := .undef) (res := .tup [.agg [.int _ _, .osl _ _ _ _], .bool _]) rfl hb63 rfl (by decide) ⟨.inl rfl, trivial⟩ rfl rfl (cnf_c (((p : Nat) : Int) * ((h : Nat) : Int)) (accM (pgR h p ++ pgC p h j)) (by rw [hcF]; exact goodB_okM (by omega) hgd)) rfl (by simp [noSh, noShL, osls_noSh]) (by simp [noRef, noRefL, osls_noRef]) rfl rfl (Nat.le_of_ble_eq_true rfl) (by decide) rfl) ?_
        refine r_val (v := .agg [.int _ _, .rsl _ _ _ _ _]) (v_extract rfl rfl) rfl rfl (by decide) ?_
        refine r_val (v := .bool _) (v_extract rfl rfl) rfl rfl (by decide) ?_
        refine r_pre (ent_reloc_at_sl (t := 82) (r := [1]) rfl (by decide) rfl rfl) ?_
        refine r_step rfl (o_store_own (v := .agg [.int _ _, .osl _ _ _ _]) (y' := .op [.int _ _, .osl _ _ _ _]) rfl rfl ta24 (.inl rfl) (by decide) rfl (by decide) rfl (by simp [cellsOf, noRefL, noRef, osls_noRef]) rfl rfl rfl rfl rfl (Nat.le_of_ble_eq_true rfl) rfl rfl) ?_
        refine r_val (v := .bool _) (v_assign (.inl rfl) (noOwn_flat rfl)) rfl rfl (by decide) ?_
        refine r_nil ?_
        refine a_ret ?_
        refine retL (rs := [.cell 4 24, .tmp 5]) [(4, _), (5, _)] ⟨Weak.rfl, Weak.rfl, trivial⟩ rfl Try.results27 (by decide) ⟨by decide, _, cell_agg rfl ta24, by decide, rfl⟩ (by decide) (by decide) (l2_eq (agg_eq (l2_eq (int_eq ?_) (osl_eq2 ?_ ?_))) (bool_eq ?_)) (by simp [refsL, refs])
        all_goals (rw [hcF])
        all_goals (first | rw [hrm.2] | rw [hrm.1])

theorem l4Pigeons_c (p h : Nat) (hp : p ≤ 12) (hh : h ≤ 12) : ACall Try.prog 64 [.int .i64 ((p : Nat) : Int), .int .i64 ((h : Nat) : Int)] [] (.agg [.int .i64 (((p : Nat) : Int) * ((h : Nat) : Int)), .osl 1 (osls (accS (pgF p h))) (accS (pgF p h)).length none]) [] := by
  have hph : p * h ≤ 12 * 12 := Nat.mul_le_mul (by omega) (by omega)
  refine ACall.intro Try.func64 rfl (N := 74) rfl (by decide) (by simp) ?_
  refine a_seq ?_
  refine a_region ?_
  refine r_new (v := .op [.int _ _, .nils]) (q_alloc zc24) rfl rfl (by decide) ?_
  refine r_nil ?_
  refine a_seq ?_
  refine a_region ?_
  refine r_val (v := .int _ _) (v_move (.inl rfl) (noOwn_flat rfl)) rfl rfl (by decide) ?_
  refine r_val (v := .int _ _) (v_move (.inl rfl) (noOwn_flat rfl)) rfl rfl (by decide) ?_
  refine r_val (v := .int _ _) (v_mul (.inl rfl) (.inl rfl) (fun _ => by omega)) rfl rfl (by decide) ?_
  refine r_new (v := .agg [.int _ _, .osl _ _ _ _]) (q_call (vs := [.int _ _]) (args := [.int .i64 _]) hb59 ⟨.inl rfl, trivial⟩ rfl (fun hA => l4New_c _) (by simp [noSh, noShL, osls_noSh]) (by simp [noRef, noRefL, osls_noRef])) rfl rfl (by decide) ?_
  refine r_new (v := .op [.int _ _, .nils]) (q_alloc zc24) rfl rfl (by decide) ?_
  refine r_step rfl (o_store_own (v := .agg [.int _ _, .osl _ _ _ _]) (y' := .op [.int _ _, .osl _ _ _ _]) rfl rfl ta24 (.inl rfl) (by decide) rfl (by decide) rfl (by simp [cellsOf, noRefL, noRef, osls_noRef]) rfl rfl rfl rfl rfl (Nat.le_of_ble_eq_true rfl) rfl rfl) ?_
  refine r_nil ?_
  refine a_seq ?_
  refine a_seq ?_
  refine a_region ?_
  refine r_val (v := .int _ _) (v_assign (.inl rfl) (noOwn_flat rfl)) rfl rfl (by decide) ?_
  refine r_nil ?_
  refine a_block ?_
  refine a_loop (X := Nat) (fun k => look [(0, .int .i64 ((p : Nat) : Int)), (1, .int .i64 ((h : Nat) : Int)), (4, .op [.int .i64 0, .nils]), (5, .op [.int .i64 (((p : Nat) : Int) * ((h : Nat) : Int)), .osl 1 (osls (accS (pgR h k))) (accS (pgR h k)).length none]), (6, .int .i64 ((k + 1 : Nat) : Int))]) (fun k => k ≤ p) (fun k => p - k) 0 (ent_look ⟨Weak.of_eq rfl, Weak.of_eq rfl, Weak.of_eq rfl, Weak.of_eq rfl, Weak.of_eq rfl, trivial⟩) (Nat.zero_le _) (fun k hG => ?_)
  refine a_seq ?_
  refine a_seq ?_
  refine a_region ?_
  refine r_val (v := .int _ _) (v_move (.inl rfl) (noOwn_flat rfl)) rfl rfl (by decide) ?_
  refine r_val (v := .int _ _) (v_move (.inl rfl) (noOwn_flat rfl)) rfl rfl (by decide) ?_
  refine r_val (v := .bool _) (v_leq (.inl rfl) (.inl rfl)) rfl rfl (by decide) ?_
  refine r_nil ?_
  refine a_cond rfl (fun ht18 => ?_) (fun ht18 => ?_)
  ·
    skip
    refine a_skip ?_
    refine a_seq ?_
    refine a_block ?_
    refine a_seq ?_
    have hk : k < p := (by simp at ht18; omega)
    refine a_region ?_
    refine r_new (v := .osl _ _ _ _) (q_sliceLit (n := 0) (parts := []) lt39 rfl rfl rfl rfl) rfl rfl (by decide) ?_
    refine r_val (v := .rsl _ _ _ _ _) (v_assign (.inl rfl) (noOwn_flat rfl)) rfl rfl (by decide) ?_
    refine r_pre (ent_reloc_sl (t := 7) rfl rfl) ?_
    refine r_nil ?_
    refine a_seq ?_
    refine a_seq ?_
    refine a_region ?_
    refine r_val (v := .int _ _) (v_assign (.inl rfl) (noOwn_flat rfl)) rfl rfl (by decide) ?_
    refine r_nil ?_
    refine a_block ?_
    refine a_loop (X := Nat) (fun j => look [(0, .int .i64 ((p : Nat) : Int)), (1, .int .i64 ((h : Nat) : Int)), (4, .op [.int .i64 0, .nils]), (5, .op [.int .i64 (((p : Nat) : Int) * ((h : Nat) : Int)), .osl 1 (osls (accS (pgR h k))) (accS (pgR h k)).length none]), (6, .int .i64 ((k + 1 : Nat) : Int)), (7, .osl 1 (icells (pgK h k j)) (pgK h k j).length none), (8, .int .i64 ((j + 1 : Nat) : Int))]) (fun j => j ≤ h) (fun j => h - j) 0 (ent_look ⟨Weak.of_eq rfl, Weak.of_eq rfl, Weak.of_eq rfl, Weak.of_eq rfl, Weak.of_eq rfl, Weak.osl rfl rfl, Weak.of_eq rfl, trivial⟩) (Nat.zero_le _) (fun j hG => ?_)
    refine a_seq ?_
    refine a_seq ?_
    refine a_region ?_
    refine r_val (v := .int _ _) (v_move (.inl rfl) (noOwn_flat rfl)) rfl rfl (by decide) ?_
    refine r_val (v := .int _ _) (v_move (.inl rfl) (noOwn_flat rfl)) rfl rfl (by decide) ?_
    refine r_val (v := .bool _) (v_leq (.inl rfl) (.inl rfl)) rfl rfl (by decide) ?_
    refine r_nil ?_
    refine a_cond rfl (fun ht24 => ?_) (fun ht24 => ?_)
    ·
      skip
      refine a_skip ?_
      refine a_seq ?_
      refine a_block ?_
      have hj2 : j < h := (by simp at ht24; omega)
      have hkl := pgK_len h k j
      have hq0 : k * h ≤ 12 * 12 := Nat.mul_le_mul (by omega) (by omega)
      refine a_region ?_
      refine r_val (v := .rsl _ _ _ _ _) (v_move (.inl rfl) (noOwn_flat rfl)) rfl rfl (by decide) ?_
      refine r_val (v := .int _ _) (v_move (.inl rfl) (noOwn_flat rfl)) rfl rfl (by decide) ?_
      refine r_val (v := .int .i64 ((k : Nat) : Int)) ((v_sub (.inl rfl) (.inl rfl) (fun _ => by omega)).cast (int_eq (by omega))) rfl rfl (by decide) ?_
      refine r_val (v := .int _ _) (v_move (.inl rfl) (noOwn_flat rfl)) rfl rfl (by decide) ?_
      refine r_val (v := .int .i64 ((k * h : Nat) : Int)) ((v_mul (.inl rfl) (.inl rfl) (fun _ => by omega)).cast (int_eq (by simp))) rfl rfl (by decide) ?_
      refine r_val (v := .int _ _) (v_move (.inl rfl) (noOwn_flat rfl)) rfl rfl (by decide) ?_
      refine r_val (v := .int .i64 ((k * h + j + 1 : Nat) : Int)) ((v_add (.inl rfl) (.inl rfl) (fun _ => by omega)).cast (int_eq (by omega))) rfl rfl (by decide) ?_
      refine r_new (v := .osl _ _ _ _) (q_sliceLit (n := 1) (parts := [(0, .tmp 33)]) lt39 rfl rfl rfl rfl) rfl rfl (by decide) ?_
      refine r_pre (ent_reloc_sl (t := 27) rfl rfl) ?_
      refine r_step rfl (o_append rfl ap39 rfl (by decide) (by decide) rfl (src_lit (.inl rfl) rfl rfl rfl) rfl (by simp [icells_length]) (by rw [pgK_len]; omega)) ?_
      refine r_val (v := .rsl _ _ _ _ _) (v_assign (.inl rfl) (noOwn_flat rfl)) rfl rfl (by decide) ?_
      refine r_pre (ent_reloc_sl (t := 7) rfl rfl) ?_
      refine r_nil ?_
      refine a_region ?_
      refine r_val (v := .int _ _) (v_move (.inl rfl) (noOwn_flat rfl)) rfl rfl (by decide) ?_
      refine r_val (v := .int _ _) (v_add (.inl rfl) (.inl rfl) (fun _ => by omega)) rfl rfl (by decide) ?_
      refine r_val (v := .int _ _) (v_assign (.inl rfl) (noOwn_flat rfl)) rfl rfl (by decide) ?_
      refine r_nil ?_
      refine ⟨j + 1, ent_look ⟨Weak.of_eq rfl, Weak.of_eq rfl, Weak.of_eq rfl, Weak.of_eq rfl, Weak.of_eq rfl, Weak.osl (by rw [pgK_succ, icells_append]; rfl) (by rw [pgK_succ, List.length_append]; rfl), Weak.of_eq (int_eq (by omega)), trivial⟩, (by omega), by omega⟩
    ·
      skip
      refine a_exit ?_
      have hj : j = h := (by simp at ht24; omega)
      refine a_region ?_
      refine r_val (v := .agg [.int _ _, .rsl _ _ _ _ _]) (v_load_rpa (xs := [.int _ _, .osl _ _ _ _]) ta24 (.inl rfl) rfl rfl (fun _ => take_get rfl)) rfl rfl (by decide) ?_
      refine r_val (v := .rsl _ _ _ _ _) (v_move (.inl rfl) (noOwn_flat rfl)) rfl rfl (by decide) ?_
      refine r_step rfl (o_callIO (q := (5, [1])) (vs := [.agg [.int _ _, .rsl _ _ _ _ _], .rsl _ _ _ _ _]) (args := [.agg [.int .i64 _, .rsl (INH, []) _ _ _ _], .sl _ _]) (x0 := .osl _ _ _ _) (x1 := .undef) (res := .agg [.int _ _, .osl _ _ _ _]) rfl hb58 rfl (by decide) ⟨.inl rfl, .inl rfl, trivial⟩ rfl (l2_eq rfl (sl_sh (ic_pure _))) (l4Add_c (((p : Nat) : Int) * ((h : Nat) : Int)) (pgR h k) (pgK h k j) (by rw [pgK_len]; omega) (pgK_small (by omega) (by omega) (by omega))) rfl (by simp [noSh, noShL, osls_noSh]) (by simp [noRef, noRefL, osls_noRef]) rfl rfl (Nat.le_of_ble_eq_true rfl) (by decide) rfl) ?_
      refine r_step rfl (o_store_own (v := .agg [.int _ _, .osl _ _ _ _]) (y' := .op [.int _ _, .osl _ _ _ _]) rfl rfl ta24 (.inl rfl) (by decide) rfl (by decide) rfl (by simp [cellsOf, noRefL, noRef, osls_noRef]) rfl rfl rfl rfl rfl (Nat.le_of_ble_eq_true rfl) rfl rfl) ?_
      refine r_nil ?_
      refine a_region ?_
      refine r_val (v := .int _ _) (v_move (.inl rfl) (noOwn_flat rfl)) rfl rfl (by decide) ?_
      refine r_val (v := .int _ _) (v_add (.inl rfl) (.inl rfl) (fun _ => by omega)) rfl rfl (by decide) ?_
      refine r_val (v := .int _ _) (v_assign (.inl rfl) (noOwn_flat rfl)) rfl rfl (by decide) ?_
      refine r_nil ?_
      refine ⟨k + 1, ent_look ⟨Weak.of_eq rfl, Weak.of_eq rfl, Weak.of_eq rfl, Weak.of_eq (by rw [pgR_succ hj]; rfl), Weak.of_eq (int_eq (by omega)), trivial⟩, (by omega), by omega⟩
  ·
    skip
    refine a_exit ?_
    refine a_seq ?_
    refine a_seq ?_
    have hkp : p = k := (by simp at ht18; omega)
    refine a_region ?_
    refine r_val (v := .int _ _) (v_assign (.inl rfl) (noOwn_flat rfl)) rfl rfl (by decide) ?_
    refine r_nil ?_
    refine a_block ?_
    refine a_loop (X := Nat) (fun j => look [(0, .int .i64 ((p : Nat) : Int)), (1, .int .i64 ((h : Nat) : Int)), (4, .op [.int .i64 0, .nils]), (5, .op [.int .i64 (((p : Nat) : Int) * ((h : Nat) : Int)), .osl 1 (osls (accS (pgR h p ++ pgC p h j))) (accS (pgR h p ++ pgC p h j)).length none]), (9, .int .i64 ((j + 1 : Nat) : Int))]) (fun j => j ≤ h) (fun j => h - j) 0 (ent_look ⟨Weak.of_eq rfl, Weak.of_eq rfl, Weak.of_eq rfl, Weak.of_eq (by rw [show pgC p h 0 = [] from rfl, List.append_nil, hkp]; rfl), Weak.of_eq rfl, trivial⟩) (Nat.zero_le _) (fun j hG => ?_)
    refine a_seq ?_
    refine a_seq ?_
    refine a_region ?_
    refine r_val (v := .int _ _) (v_move (.inl rfl) (noOwn_flat rfl)) rfl rfl (by decide) ?_
    refine r_val (v := .int _ _) (v_move (.inl rfl) (noOwn_flat rfl)) rfl rfl (by decide) ?_
    refine r_val (v := .bool _) (v_leq (.inl rfl) (.inl rfl)) rfl rfl (by decide) ?_
    refine r_nil ?_
    refine a_cond rfl (fun ht41 => ?_) (fun ht41 => ?_)
    ·
      skip
      refine a_skip ?_
      refine a_seq ?_
      refine a_block ?_
      refine a_seq ?_
      have hj2 : j < h := (by simp at ht41; omega)
      refine a_region ?_
      refine r_val (v := .int _ _) (v_assign (.inl rfl) (noOwn_flat rfl)) rfl rfl (by decide) ?_
      refine r_nil ?_
      refine a_block ?_
      refine a_loop (X := Nat) (fun a => look [(0, .int .i64 ((p : Nat) : Int)), (1, .int .i64 ((h : Nat) : Int)), (4, .op [.int .i64 0, .nils]), (5, .op [.int .i64 (((p : Nat) : Int) * ((h : Nat) : Int)), .osl 1 (osls (accS ((pgR h p ++ pgC p h j) ++ pgH p h j a))) (accS ((pgR h p ++ pgC p h j) ++ pgH p h j a)).length none]), (9, .int .i64 ((j + 1 : Nat) : Int)), (10, .int .i64 ((a + 1 : Nat) : Int))]) (fun a => a ≤ p) (fun a => p - a) 0 (ent_look ⟨Weak.of_eq rfl, Weak.of_eq rfl, Weak.of_eq rfl, Weak.of_eq (by rw [show pgH p h j 0 = [] from rfl, List.append_nil]; rfl), Weak.of_eq rfl, Weak.of_eq rfl, trivial⟩) (Nat.zero_le _) (fun a hG => ?_)
      refine a_seq ?_
      refine a_seq ?_
      refine a_region ?_
      refine r_val (v := .int _ _) (v_move (.inl rfl) (noOwn_flat rfl)) rfl rfl (by decide) ?_
      refine r_val (v := .int _ _) (v_move (.inl rfl) (noOwn_flat rfl)) rfl rfl (by decide) ?_
      refine r_val (v := .bool _) (v_leq (.inl rfl) (.inl rfl)) rfl rfl (by decide) ?_
      refine r_nil ?_
      refine a_cond rfl (fun ht46 => ?_) (fun ht46 => ?_)
      ·
        skip
        refine a_skip ?_
        refine a_seq ?_
        refine a_block ?_
        refine a_seq ?_
        have ha : a < p := (by simp at ht46; omega)
        refine a_region ?_
        refine r_val (v := .int _ _) (v_move (.inl rfl) (noOwn_flat rfl)) rfl rfl (by decide) ?_
        refine r_val (v := .int _ _) (v_add (.inl rfl) (.inl rfl) (fun _ => by omega)) rfl rfl (by decide) ?_
        refine r_val (v := .int _ _) (v_assign (.inl rfl) (noOwn_flat rfl)) rfl rfl (by decide) ?_
        refine r_nil ?_
        refine a_block ?_
        refine a_loop (X := Nat) (fun b => look [(0, .int .i64 ((p : Nat) : Int)), (1, .int .i64 ((h : Nat) : Int)), (4, .op [.int .i64 0, .nils]), (5, .op [.int .i64 (((p : Nat) : Int) * ((h : Nat) : Int)), .osl 1 (osls (accS (((pgR h p ++ pgC p h j) ++ pgH p h j a) ++ pgA h j a b))) (accS (((pgR h p ++ pgC p h j) ++ pgH p h j a) ++ pgA h j a b)).length none]), (9, .int .i64 ((j + 1 : Nat) : Int)), (10, .int .i64 ((a + 1 : Nat) : Int)), (11, .int .i64 ((a + 1 + b + 1 : Nat) : Int))]) (fun b => a + 1 + b ≤ p) (fun b => p - b) 0 (ent_look ⟨Weak.of_eq rfl, Weak.of_eq rfl, Weak.of_eq rfl, Weak.of_eq (by rw [show pgA h j a 0 = [] from rfl, List.append_nil]; rfl), Weak.of_eq rfl, Weak.of_eq rfl, Weak.of_eq rfl, trivial⟩) (by omega) (fun b hG => ?_)
        refine a_seq ?_
        refine a_seq ?_
        refine a_region ?_
        refine r_val (v := .int _ _) (v_move (.inl rfl) (noOwn_flat rfl)) rfl rfl (by decide) ?_
        refine r_val (v := .int _ _) (v_move (.inl rfl) (noOwn_flat rfl)) rfl rfl (by decide) ?_
        refine r_val (v := .bool _) (v_leq (.inl rfl) (.inl rfl)) rfl rfl (by decide) ?_
        refine r_nil ?_
        refine a_cond rfl (fun ht53 => ?_) (fun ht53 => ?_)
        ·
          skip
          refine a_skip ?_
          refine a_seq ?_
          refine a_block ?_
          have hb : a + 1 + b < p := (by simp at ht53; omega)
          have hl1 := pgR_len h p
          have hl2 := pgC_len p h j
          have hl3 := pgH_len p h j a
          have hl4 := pgA_len h j a b
          have hb1 : p * p ≤ 12 * 12 := Nat.mul_le_mul (by omega) (by omega)
          have hb2 : (p * p) * j ≤ 144 * 12 := Nat.mul_le_mul (by omega) (by omega)
          have hb3 : p * a ≤ 12 * 12 := Nat.mul_le_mul (by omega) (by omega)
          have hq0 : a * h ≤ 12 * 12 := Nat.mul_le_mul (by omega) (by omega)
          have hq1 : (a + 1 + b) * h ≤ 12 * 12 := Nat.mul_le_mul (by omega) (by omega)
          refine a_region ?_
          refine r_val (v := .agg [.int _ _, .rsl _ _ _ _ _]) (v_load_rpa (xs := [.int _ _, .osl _ _ _ _]) ta24 (.inl rfl) rfl rfl (fun _ => take_get rfl)) rfl rfl (by decide) ?_
          refine r_val (v := .int _ _) (v_move (.inl rfl) (noOwn_flat rfl)) rfl rfl (by decide) ?_
          refine r_val (v := .int .i64 ((a : Nat) : Int)) ((v_sub (.inl rfl) (.inl rfl) (fun _ => by omega)).cast (int_eq (by omega))) rfl rfl (by decide) ?_
          refine r_val (v := .int _ _) (v_neg (.inl rfl) (fun _ => by omega)) rfl rfl (by decide) ?_
          refine r_val (v := .int _ _) (v_move (.inl rfl) (noOwn_flat rfl)) rfl rfl (by decide) ?_
          refine r_val (v := .int .i64 (-((a * h : Nat) : Int))) ((v_mul (.inl rfl) (.inl rfl) (fun _ => by rw [Int.neg_mul]; omega)).cast (int_eq (by rw [Int.neg_mul]; simp))) rfl rfl (by decide) ?_
          refine r_val (v := .int _ _) (v_move (.inl rfl) (noOwn_flat rfl)) rfl rfl (by decide) ?_
          refine r_val (v := .int .i64 (-((a * h + j + 1 : Nat) : Int))) ((v_sub (.inl rfl) (.inl rfl) (fun _ => by omega)).cast (int_eq (by omega))) rfl rfl (by decide) ?_
          refine r_val (v := .int _ _) (v_move (.inl rfl) (noOwn_flat rfl)) rfl rfl (by decide) ?_
          refine r_val (v := .int .i64 ((a + 1 + b : Nat) : Int)) ((v_sub (.inl rfl) (.inl rfl) (fun _ => by omega)).cast (int_eq (by omega))) rfl rfl (by decide) ?_
          refine r_val (v := .int _ _) (v_neg (.inl rfl) (fun _ => by omega)) rfl rfl (by decide) ?_
          refine r_val (v := .int _ _) (v_move (.inl rfl) (noOwn_flat rfl)) rfl rfl (by decide) ?_
          refine r_val (v := .int .i64 (-(((a + 1 + b) * h : Nat) : Int))) ((v_mul (.inl rfl) (.inl rfl) (fun _ => by rw [Int.neg_mul]; omega)).cast (int_eq (by rw [Int.neg_mul]; simp))) rfl rfl (by decide) ?_
          refine r_val (v := .int _ _) (v_move (.inl rfl) (noOwn_flat rfl)) rfl rfl (by decide) ?_
          refine r_val (v := .int .i64 (-(((a + 1 + b) * h + j + 1 : Nat) : Int))) ((v_sub (.inl rfl) (.inl rfl) (fun _ => by omega)).cast (int_eq (by omega))) rfl rfl (by decide) ?_
          refine r_new (v := .osl 1 (icells (pgX h j a (a + 1 + b))) 2 (some 2)) (q_sliceLit (n := 2) (parts := [(0, .tmp 63), (1, .tmp 70)]) lt39 rfl rfl rfl rfl) rfl rfl (by decide) ?_
          refine r_step rfl (o_callIO (q := (5, [1])) (vs := [.agg [.int _ _, .rsl _ _ _ _ _], .rsl _ _ _ _ _]) (args := [.agg [.int .i64 _, .rsl (INH, []) _ _ _ _], .sl _ _]) (x0 := .osl _ _ _ _) (x1 := .undef) (res := .agg [.int _ _, .osl _ _ _ _]) rfl hb58 rfl (by decide) ⟨.inl rfl, .inl rfl, trivial⟩ rfl (l2_eq rfl (sl_sh (ic_pure _))) (l4Add_c (((p : Nat) : Int) * ((h : Nat) : Int)) (((pgR h p ++ pgC p h j) ++ pgH p h j a) ++ pgA h j a b) (pgX h j a (a + 1 + b)) (by simp [pgX]) (SmI.of (by intro x hx; simp only [pgX, List.mem_cons, List.not_mem_nil, or_false] at hx; omega))) rfl (by simp [noSh, noShL, osls_noSh]) (by simp [noRef, noRefL, osls_noRef]) rfl rfl (Nat.le_of_ble_eq_true rfl) (by decide) rfl) ?_
          refine r_step rfl (o_store_own (v := .agg [.int _ _, .osl _ _ _ _]) (y' := .op [.int _ _, .osl _ _ _ _]) rfl rfl ta24 (.inl rfl) (by decide) rfl (by decide) rfl (by simp [cellsOf, noRefL, noRef, osls_noRef]) rfl rfl rfl rfl rfl (Nat.le_of_ble_eq_true rfl) rfl rfl) ?_
          refine r_nil ?_
          refine a_region ?_
          refine r_val (v := .int _ _) (v_move (.inl rfl) (noOwn_flat rfl)) rfl rfl (by decide) ?_
          refine r_val (v := .int _ _) (v_add (.inl rfl) (.inl rfl) (fun _ => by omega)) rfl rfl (by decide) ?_
          refine r_val (v := .int _ _) (v_assign (.inl rfl) (noOwn_flat rfl)) rfl rfl (by decide) ?_
          refine r_nil ?_
          refine ⟨b + 1, ent_look ⟨Weak.of_eq rfl, Weak.of_eq rfl, Weak.of_eq rfl, Weak.of_eq (by rw [pgA_succ, ← List.append_assoc]; rfl), Weak.of_eq rfl, Weak.of_eq rfl, Weak.of_eq (int_eq (by omega)), trivial⟩, (by omega), by omega⟩
        ·
          skip
          refine a_exit ?_
          have hbp : b = p - (a + 1) := (by simp at ht53; omega)
          refine a_region ?_
          refine r_val (v := .int _ _) (v_move (.inl rfl) (noOwn_flat rfl)) rfl rfl (by decide) ?_
          refine r_val (v := .int _ _) (v_add (.inl rfl) (.inl rfl) (fun _ => by omega)) rfl rfl (by decide) ?_
          refine r_val (v := .int _ _) (v_assign (.inl rfl) (noOwn_flat rfl)) rfl rfl (by decide) ?_
          refine r_nil ?_
          refine ⟨a + 1, ent_look ⟨Weak.of_eq rfl, Weak.of_eq rfl, Weak.of_eq rfl, Weak.of_eq (by rw [pgH_succ hbp, ← List.append_assoc]; rfl), Weak.of_eq rfl, Weak.of_eq (int_eq (by omega)), trivial⟩, (by omega), by omega⟩
      ·
        skip
        refine a_exit ?_
        have hap : a = p := (by simp at ht46; omega)
        refine a_region ?_
        refine r_val (v := .int _ _) (v_move (.inl rfl) (noOwn_flat rfl)) rfl rfl (by decide) ?_
        refine r_val (v := .int _ _) (v_add (.inl rfl) (.inl rfl) (fun _ => by omega)) rfl rfl (by decide) ?_
        refine r_val (v := .int _ _) (v_assign (.inl rfl) (noOwn_flat rfl)) rfl rfl (by decide) ?_
        refine r_nil ?_
        refine ⟨j + 1, ent_look ⟨Weak.of_eq rfl, Weak.of_eq rfl, Weak.of_eq rfl, Weak.of_eq (by rw [pgC_succ hap, ← List.append_assoc]; rfl), Weak.of_eq (int_eq (by omega)), trivial⟩, (by omega), by omega⟩
    ·
      skip
      refine a_exit ?_
      refine a_seq ?_
      have hjh : j = h := (by simp at ht41; omega)
      have hF := pgF_eq (p := p) (h := h) rfl hjh
      refine a_region ?_
      refine r_val (v := .agg [.int _ _, .rsl _ _ _ _ _]) (v_load_rpa (xs := [.int _ _, .osl _ _ _ _]) ta24 (.inl rfl) rfl rfl (fun _ => take_get rfl)) rfl rfl (by decide) ?_
      refine r_pre (ent_reloc_at_sl (t := 73) (r := [1]) rfl (by decide) rfl rfl) ?_
      refine r_step rfl (o_store_own (v := .agg [.int _ _, .osl _ _ _ _]) (y' := .op [.int _ _, .osl _ _ _ _]) rfl rfl ta24 (.inl rfl) (by decide) rfl (by decide) rfl (by simp [cellsOf, noRefL, noRef, osls_noRef]) rfl rfl rfl rfl rfl (Nat.le_of_ble_eq_true rfl) rfl rfl) ?_
      refine r_nil ?_
      refine a_ret ?_
      refine retC1 (r := .cell 4 24) Try.results64 ⟨by decide, _, cell_agg rfl ta24, rfl⟩ (by decide) (Weak.of_eq (agg_eq (l2_eq (int_eq ?_) (osl_eq2 ?_ ?_)))) rfl Leaves.nil
      all_goals (first | rfl | rw [hF])

theorem sPig_c (n m : Int) : ACall Try.prog 26 [.int .i64 n, .int .i64 m] [] (.tup [.agg [.int .i64 (resV ((inR n 0 12 && inR m 0 12) && cnfB (n * m) (accJ (pgF n.toNat m.toNat))) (n * m)), .osl 1 (osls (resL ((inR n 0 12 && inR m 0 12) && cnfB (n * m) (accJ (pgF n.toNat m.toNat))) (accJ (pgF n.toNat m.toNat)))) (resL ((inR n 0 12 && inR m 0 12) && cnfB (n * m) (accJ (pgF n.toNat m.toNat))) (accJ (pgF n.toNat m.toNat))).length none], .bool ((inR n 0 12 && inR m 0 12) && cnfB (n * m) (accJ (pgF n.toNat m.toNat)))]) [] := by
  refine ACall.intro Try.func26 rfl (N := 27) rfl (by decide) (by simp) ?_
  refine a_seq ?_
  refine a_region ?_
  refine r_new (v := .op [.int _ _, .nils]) (q_alloc zc24) rfl rfl (by decide) ?_
  refine r_val (v := .bool _) (v_assign (.inl rfl) (noOwn_flat rfl)) rfl rfl (by decide) ?_
  refine r_nil ?_
  refine a_seq ?_
  refine a_seq ?_
  refine a_region ?_
  refine r_val (v := .int _ _) (v_move (.inl rfl) (noOwn_flat rfl)) rfl rfl (by decide) ?_
  refine r_new (v := .bool _) (q_call (vs := [.int _ _, .int _ _, .int _ _]) (args := [.int .i64 _, .int .i64 _, .int .i64 _]) hb57 ⟨.inl rfl, .inl rfl, .inl rfl, trivial⟩ rfl (fun hA => l1In_c _ _ _) rfl rfl) rfl rfl (by decide) ?_
  refine r_val (v := .bool _) (v_not (.inl rfl)) rfl rfl (by decide) ?_
  refine r_val (v := .bool _) (v_move (.inl rfl) (noOwn_flat rfl)) rfl rfl (by decide) ?_
  refine r_gval (v := .int _ _) (v_move (.inl rfl) (noOwn_flat rfl)) rfl rfl rfl (by decide) (.inl ⟨_, rfl, rfl⟩) rfl (by decide) ?_
  refine r_guard (v := .bool _) (q_call (vs := [.int _ _, .int _ _, .int _ _]) (args := [.int .i64 _, .int .i64 _, .int .i64 _]) hb57 ⟨.inr ⟨_, rfl, fun h => h⟩, .inl rfl, .inl rfl, trivial⟩ rfl (fun hA => l1In_c _ _ _) rfl rfl) rfl rfl rfl (by decide) (.inl ⟨_, rfl, rfl⟩) rfl (by decide) ?_
  refine r_gval (v := .bool _) (v_not (.inr ⟨_, rfl, fun h => h⟩)) rfl rfl rfl (by decide) (.inl ⟨_, rfl, rfl⟩) rfl (by decide) ?_
  refine r_val (v := .bool _) (v_pick (.inl rfl) (.inl rfl) (.inr ⟨_, rfl, fun h h2 => by simp_all⟩)) rfl rfl (by decide) ?_
  refine r_val (v := .bool _) (v_move (.inl rfl) (noOwn_flat rfl)) rfl rfl (by decide) ?_
  refine r_gval (v := .int _ _) (v_move (.inl rfl) (noOwn_flat rfl)) rfl rfl rfl (by decide) (.inl ⟨_, rfl, rfl⟩) rfl (by decide) ?_
  refine r_gval (v := .int _ _) (v_move (.inl rfl) (noOwn_flat rfl)) rfl rfl rfl (by decide) (.inl ⟨_, rfl, rfl⟩) rfl (by decide) ?_
  refine r_gval (v := .int _ _) (v_mul (.inr ⟨_, rfl, fun h => h⟩) (.inr ⟨_, rfl, fun h => h⟩) (fun _ => by have h1 := inR_spec.1 (by simp_all : inR n 0 12 = true); have h2 := inR_spec.1 (by simp_all : inR m 0 12 = true); obtain ⟨p, rfl⟩ := Int.eq_ofNat_of_zero_le h1.1; obtain ⟨h, rfl⟩ := Int.eq_ofNat_of_zero_le h2.1; have : p * h ≤ 12 * 12 := Nat.mul_le_mul (by omega) (by omega); omega)) rfl rfl rfl (by decide) (.inl ⟨_, rfl, rfl⟩) rfl (by decide) ?_
  refine r_gval (v := .bool _) (v_gtr (.inr ⟨_, rfl, fun h => h⟩) (.inl rfl)) rfl rfl rfl (by decide) (.inl ⟨_, rfl, rfl⟩) rfl (by decide) ?_
  refine r_val (v := .bool _) (v_pick (.inl rfl) (.inl rfl) (.inr ⟨_, rfl, fun h h2 => by simp_all⟩)) rfl rfl (by decide) ?_
  refine r_nil ?_
  refine a_cond rfl (fun ht19 => ?_) (fun ht19 => ?_)
  ·
    skip
    refine a_seq ?_
    refine a_region ?_
    refine r_val (v := .agg [.int _ _, .nils]) (v_build sp24 rfl rfl) rfl rfl (by decide) ?_
    refine r_step rfl (o_store (v := .agg [.int _ _, .nils]) (y' := .op [.int _ _, .nils]) rfl rfl ta24 (.inl rfl) (.inl rfl) rfl rfl rfl rfl rfl rfl (Nat.le_of_ble_eq_true rfl) (by decide) rfl rfl) ?_
    refine r_val (v := .bool _) (v_assign (.inl rfl) (noOwn_flat rfl)) rfl rfl (by decide) ?_
    refine r_nil ?_
    refine a_pre (ent_nil_at (t := 4) (r := [1]) (sz := 1) rfl (.inl rfl) rfl rfl) ?_
    refine a_ret ?_
    refine retL (rs := [.cell 4 24, .tmp 5]) [(4, _), (5, _)] ⟨Weak.rfl, Weak.rfl, trivial⟩ rfl Try.results26 (by decide) ⟨by decide, _, cell_agg rfl ta24, by decide, rfl⟩ (by decide) (by decide) (l2_eq (agg_eq (l2_eq (int_eq ?_) (osl_eq2 ?_ ?_))) (bool_eq ?_)) (by simp [refsL, refs])
    all_goals (have hf : ((inR n 0 12 && inR m 0 12) && cnfB (n * m) (accJ (pgF n.toNat m.toNat))) = false := (by have hbig : 12 < n * m → ∀ L, cnfB (n * m) L = false := (fun hlt L => by unfold cnfB; rw [show inR (n * m) 0 12 = false by simp [inR]; omega]; simp); rcases Int.lt_or_le 12 (n * m) with h3 | h3; all_goals (first | (rw [hbig h3]; simp; done) | (cases h1 : inR n 0 12 <;> cases h2 : inR m 0 12 <;> simp_all <;> omega))); simp [resV, resL, hf, osls])
  ·
    skip
    refine a_skip ?_
    refine a_seq ?_
    have hin : (inR n 0 12 && inR m 0 12) = true := (by cases h1 : inR n 0 12 <;> cases h2 : inR m 0 12 <;> simp_all)
    have hn := inR_spec.1 (by simp at hin; exact hin.1 : inR n 0 12 = true)
    have hm := inR_spec.1 (by simp at hin; exact hin.2 : inR m 0 12 = true)
    obtain ⟨p, rfl⟩ := Int.eq_ofNat_of_zero_le hn.1
    obtain ⟨h, rfl⟩ := Int.eq_ofNat_of_zero_le hm.1
    have hph : p * h ≤ 12 * 12 := Nat.mul_le_mul (by omega) (by omega)
    have hgd : goodB 144 (pgF p h) = true := pg_good p (by omega) h (by omega)
    have hrm := res_S (vars := (((p : Nat) : Int) * ((h : Nat) : Int))) (F := pgF p h) hin
    refine a_region ?_
    refine r_val (v := .int _ _) (v_move (.inl rfl) (noOwn_flat rfl)) rfl rfl (by decide) ?_
    refine r_val (v := .int _ _) (v_move (.inl rfl) (noOwn_flat rfl)) rfl rfl (by decide) ?_
    refine r_new (v := .agg [.int _ _, .osl _ _ _ _]) (q_call (vs := [.int _ _, .int _ _]) (args := [.int .i64 _, .int .i64 _]) hb64 ⟨.inl rfl, .inl rfl, trivial⟩ rfl (fun hA => l4Pigeons_c p h (by omega) (by omega)) (by simp [noSh, noShL, osls_noSh]) (by simp [noRef, noRefL, osls_noRef])) rfl rfl (by decide) ?_
    refine r_step rfl (o_callIO (q := (23, [1])) (vs := [.agg [.int _ _, .rsl _ _ _ _ _]]) (args := [.agg [.int .i64 _, .rsl (INH, []) _ _ _ _]]) (x0 := .osl _ _ _ _) (x1 := .undef) (res := .tup [.agg [.int _ _, .osl _ _ _ _], .bool _]) rfl hb60 rfl (by decide) ⟨.inl rfl, trivial⟩ rfl rfl (l4Give_c (((p : Nat) : Int) * ((h : Nat) : Int)) (accS (pgF p h)) (goodB_okS (by omega) hgd)) rfl (by simp [noSh, noShL, osls_noSh]) (by simp [noRef, noRefL, osls_noRef]) rfl rfl (Nat.le_of_ble_eq_true rfl) (by decide) rfl) ?_
    refine r_val (v := .agg [.int _ _, .rsl _ _ _ _ _]) (v_extract rfl rfl) rfl rfl (by decide) ?_
    refine r_val (v := .bool _) (v_extract rfl rfl) rfl rfl (by decide) ?_
    refine r_pre (ent_reloc_at_sl (t := 25) (r := [1]) rfl (by decide) rfl rfl) ?_
    refine r_step rfl (o_store_own (v := .agg [.int _ _, .osl _ _ _ _]) (y' := .op [.int _ _, .osl _ _ _ _]) rfl rfl ta24 (.inl rfl) (by decide) rfl (by decide) rfl (by simp [cellsOf, noRefL, noRef, osls_noRef]) rfl rfl rfl rfl rfl (Nat.le_of_ble_eq_true rfl) rfl rfl) ?_
    refine r_val (v := .bool _) (v_assign (.inl rfl) (noOwn_flat rfl)) rfl rfl (by decide) ?_
    refine r_nil ?_
    refine a_ret ?_
    refine retL (rs := [.cell 4 24, .tmp 5]) [(4, _), (5, _)] ⟨Weak.rfl, Weak.rfl, trivial⟩ rfl Try.results26 (by decide) ⟨by decide, _, cell_agg rfl ta24, by decide, rfl⟩ (by decide) (by decide) (l2_eq (agg_eq (l2_eq (int_eq ?_) (osl_eq2 ?_ ?_))) (bool_eq ?_)) (by simp [refsL, refs])
    all_goals (rw [Int.toNat_natCast, Int.toNat_natCast])
    all_goals (first | rw [hrm.2] | rw [hrm.1])

theorem lawPigeonhole_c (n m : Int) : ACall Try.prog 7 [.int .i64 n, .int .i64 m] [] (.bool true) [] := by
  have hr := cnfB_res (vars := (n * m)) (c := (inR n 0 12 && inR m 0 12)) (L := accJ (pgF n.toNat m.toNat))
  have hrl := fun i => len_tot (L := resL ((inR n 0 12 && inR m 0 12) && cnfB (n * m) (accJ (pgF n.toNat m.toNat))) (accJ (pgF n.toNat m.toNat))) (i := i)
  refine ACall.intro Try.func7 rfl (N := 68) rfl (by decide) (by simp) ?_
  refine a_seq ?_
  refine a_region ?_
  refine r_val (v := .bool _) (v_assign (.inl rfl) (noOwn_flat rfl)) rfl rfl (by decide) ?_
  refine r_nil ?_
  refine a_seq ?_
  refine a_region ?_
  refine r_val (v := .int _ _) (v_move (.inl rfl) (noOwn_flat rfl)) rfl rfl (by decide) ?_
  refine r_val (v := .int _ _) (v_move (.inl rfl) (noOwn_flat rfl)) rfl rfl (by decide) ?_
  refine r_new (v := .tup [.agg [.int _ _, .osl _ _ _ _], .bool _]) (q_call (vs := [.int _ _, .int _ _]) (args := [.int .i64 _, .int .i64 _]) hb26 ⟨.inl rfl, .inl rfl, trivial⟩ rfl (fun hA => sPig_c _ _) (by simp [noSh, noShL, osls_noSh]) (by simp [noRef, noRefL, osls_noRef])) rfl rfl (by decide) ?_
  refine r_val (v := .tup [.agg [.int _ _, .rsl _ _ _ _ _], .bool _]) (v_mv rfl) rfl rfl (by decide) ?_
  refine r_val (v := .agg [.int _ _, .rsl _ _ _ _ _]) (v_extract rfl rfl) rfl rfl (by decide) ?_
  refine r_val (v := .bool _) (v_extract rfl rfl) rfl rfl (by decide) ?_
  refine r_new (v := .op [.int _ _, .nils]) (q_alloc zc24) rfl rfl (by decide) ?_
  refine r_pre (ent_reloc_at_sl (t := 17) (r := [1]) rfl (by decide) rfl rfl) ?_
  refine r_step rfl (o_store_own (v := .agg [.int _ _, .osl _ _ _ _]) (y' := .op [.int _ _, .osl _ _ _ _]) rfl rfl ta24 (.inl rfl) (by decide) rfl (by decide) rfl (by simp [cellsOf, noRefL, noRef, osls_noRef]) rfl rfl rfl rfl rfl (Nat.le_of_ble_eq_true rfl) rfl rfl) ?_
  refine r_val (v := .bool _) (v_assign (.inl rfl) (noOwn_flat rfl)) rfl rfl (by decide) ?_
  refine r_nil ?_
  refine a_seq ?_
  refine a_region ?_
  refine r_val (v := .int _ _) (v_move (.inl rfl) (noOwn_flat rfl)) rfl rfl (by decide) ?_
  refine r_val (v := .int _ _) (v_move (.inl rfl) (noOwn_flat rfl)) rfl rfl (by decide) ?_
  refine r_new (v := .tup [.agg [.int _ _, .osl _ _ _ _], .bool _]) (q_call (vs := [.int _ _, .int _ _]) (args := [.int .i64 _, .int .i64 _]) hb27 ⟨.inl rfl, .inl rfl, trivial⟩ rfl (fun hA => iPig_c _ _) (by simp [noSh, noShL, osls_noSh]) (by simp [noRef, noRefL, osls_noRef])) rfl rfl (by decide) ?_
  refine r_val (v := .tup [.agg [.int _ _, .rsl _ _ _ _ _], .bool _]) (v_mv rfl) rfl rfl (by decide) ?_
  refine r_val (v := .agg [.int _ _, .rsl _ _ _ _ _]) (v_extract rfl rfl) rfl rfl (by decide) ?_
  refine r_val (v := .bool _) (v_extract rfl rfl) rfl rfl (by decide) ?_
  refine r_new (v := .op [.int _ _, .nils]) (q_alloc zc24) rfl rfl (by decide) ?_
  refine r_pre (ent_reloc_at_sl (t := 23) (r := [1]) rfl (by decide) rfl rfl) ?_
  refine r_step rfl (o_store_own (v := .agg [.int _ _, .osl _ _ _ _]) (y' := .op [.int _ _, .osl _ _ _ _]) rfl rfl ta24 (.inl rfl) (by decide) rfl (by decide) rfl (by simp [cellsOf, noRefL, noRef, osls_noRef]) rfl rfl rfl rfl rfl (Nat.le_of_ble_eq_true rfl) rfl rfl) ?_
  refine r_val (v := .bool _) (v_assign (.inl rfl) (noOwn_flat rfl)) rfl rfl (by decide) ?_
  refine r_nil ?_
  refine a_seq ?_
  refine a_seq ?_
  refine a_region ?_
  refine r_val (v := .agg [.int _ _, .rsl _ _ _ _ _]) (v_load_rpa (xs := [.int _ _, .osl _ _ _ _]) ta24 (.inl rfl) rfl rfl (fun _ => take_get rfl)) rfl rfl (by decide) ?_
  refine r_val (v := .agg [.int _ _, .rsl _ _ _ _ _]) (v_load_rpa (xs := [.int _ _, .osl _ _ _ _]) ta24 (.inl rfl) rfl rfl (fun _ => take_get rfl)) rfl rfl (by decide) ?_
  refine r_new (v := .bool _) (q_call (vs := [.agg [.int _ _, .rsl _ _ _ _ _], .agg [.int _ _, .rsl _ _ _ _ _]]) (args := [.agg [.int .i64 _, .sl _ _], .agg [.int .i64 _, .sl _ _]]) hb17 ⟨.inl rfl, .inl rfl, trivial⟩ (l2_eq (agg_eq (l2_eq rfl sl_osls)) (agg_eq (l2_eq rfl sl_osls))) (fun hA => eqCnf_c _ _ _ _ (by omega) (by omega) (fun i => by have := hrl i; omega)) rfl rfl) rfl rfl (by decide) ?_
  refine r_val (v := .bool _) (v_not (.inl rfl)) rfl rfl (by decide) ?_
  refine r_val (v := .bool _) (v_move (.inl rfl) (noOwn_flat rfl)) rfl rfl (by decide) ?_
  refine r_gval (v := .bool _) (v_move (.inl rfl) (noOwn_flat rfl)) rfl rfl rfl (by decide) (.inl ⟨_, rfl, rfl⟩) rfl (by decide) ?_
  refine r_gval (v := .bool _) (v_move (.inl rfl) (noOwn_flat rfl)) rfl rfl rfl (by decide) (.inl ⟨_, rfl, rfl⟩) rfl (by decide) ?_
  refine r_gval (v := .bool _) (v_bne un4 (.inr ⟨_, rfl, fun h => h⟩) (.inr ⟨_, rfl, fun h => h⟩)) rfl rfl rfl (by decide) (.inl ⟨_, rfl, rfl⟩) rfl (by decide) ?_
  refine r_val (v := .bool _) (v_pick (.inl rfl) (.inl rfl) (.inr ⟨_, rfl, fun h h2 => by simp_all⟩)) rfl rfl (by decide) ?_
  refine r_nil ?_
  refine a_cond rfl (fun ht33 => ?_) (fun ht33 => ?_)
  ·
    skip
    refine a_seq ?_
    refine a_region ?_
    refine r_val (v := .bool _) (v_assign (.inl rfl) (noOwn_flat rfl)) rfl rfl (by decide) ?_
    refine r_nil ?_
    refine a_ret ?_
    refine ret1 Try.results7 (by decide) (by decide) (Weak.of_eq (bool_eq ?_)) rfl Leaves.nil
    first | rfl | (exfalso; simp at ht33; done) | (exfalso; simp at ht33; omega)
  ·
    skip
    refine a_skip ?_
    refine a_seq ?_
    refine a_region ?_
    refine r_val (v := .int _ _) (v_assign (.inl rfl) (noOwn_flat rfl)) rfl rfl (by decide) ?_
    refine r_nil ?_
    refine a_seq ?_
    refine a_region ?_
    refine r_val (v := .agg [.int _ _, .rsl _ _ _ _ _]) (v_load_rpa (xs := [.int _ _, .osl _ _ _ _]) ta24 (.inl rfl) rfl rfl (fun _ => take_get rfl)) rfl rfl (by decide) ?_
    refine r_val (v := .int _ _) (v_move (.inl rfl) (noOwn_flat rfl)) rfl rfl (by decide) ?_
    refine r_step rfl (o_callIO (q := (7, [1])) (vs := [.agg [.int _ _, .rsl _ _ _ _ _], .int _ _]) (args := [.agg [.int .i64 _, .rsl (INH, []) _ _ _ _], .int .i64 _]) (x0 := .osl _ _ _ _) (x1 := .osl _ _ _ _) (res := .int _ _) rfl hb18 rfl (by decide) ⟨.inl rfl, .inl rfl, trivial⟩ rfl rfl (markCnf_c _ _ _ (by omega) (by omega) (by omega)) rfl rfl rfl (osls_noSh _) (osls_noRef _) (Nat.le_of_ble_eq_true rfl) (by decide) rfl) ?_
    refine r_val (v := .int _ _) (v_assign (.inl rfl) (noOwn_flat rfl)) rfl rfl (by decide) ?_
    refine r_nil ?_
    refine a_seq ?_
    refine a_pre (ent_look (L := [(0, .int _ _), (1, .int _ _), (4, .bool _), (5, .op [.int _ _, .osl _ _ _ _]), (6, .bool _), (7, .op [.int _ _, .osl _ _ _ _]), (9, .int _ _)]) ⟨Weak.rfl, Weak.rfl, Weak.rfl, Weak.rfl, Weak.rfl, Weak.rfl, Weak.rfl, trivial⟩) ?_
    refine a_region ?_
    refine r_val (v := .int _ _) (v_assign (.inl rfl) (noOwn_flat rfl)) rfl rfl (by decide) ?_
    refine r_nil ?_
    refine a_seq ?_
    refine a_region ?_
    refine r_val (v := .agg [.int _ _, .rsl _ _ _ _ _]) (v_load_rpa (xs := [.int _ _, .osl _ _ _ _]) ta24 (.inl rfl) rfl rfl (fun _ => take_get rfl)) rfl rfl (by decide) ?_
    refine r_val (v := .int _ _) (v_move (.inl rfl) (noOwn_flat rfl)) rfl rfl (by decide) ?_
    refine r_new (v := .int _ _) (q_call (vs := [.agg [.int _ _, .rsl _ _ _ _ _], .int _ _]) (args := [.agg [.int .i64 _, .sl _ _], .int .i64 _]) hb19 ⟨.inl rfl, .inl rfl, trivial⟩ (l2_eq (agg_eq (l2_eq rfl sl_osls)) rfl) (fun hA => heldCnf_c _ _ _ (by omega) (by omega) (by omega)) rfl rfl) rfl rfl (by decide) ?_
    refine r_val (v := .int _ _) (v_assign (.inl rfl) (noOwn_flat rfl)) rfl rfl (by decide) ?_
    refine r_nil ?_
    refine a_seq ?_
    refine a_seq ?_
    refine a_region ?_
    refine r_val (v := .int _ _) (v_move (.inl rfl) (noOwn_flat rfl)) rfl rfl (by decide) ?_
    refine r_val (v := .bool _) (v_lss (.inl rfl) (.inl rfl)) rfl rfl (by decide) ?_
    refine r_nil ?_
    refine a_cond rfl (fun ht41 => ?_) (fun ht41 => ?_)
    ·
      skip
      refine a_seq ?_
      refine a_region ?_
      refine r_val (v := .bool _) (v_assign (.inl rfl) (noOwn_flat rfl)) rfl rfl (by decide) ?_
      refine r_nil ?_
      refine a_ret ?_
      refine ret1 Try.results7 (by decide) (by decide) (Weak.of_eq (bool_eq ?_)) rfl Leaves.nil
      first | rfl | (exfalso; simp at ht41; done) | (exfalso; simp at ht41; omega)
    ·
      skip
      refine a_skip ?_
      refine a_seq ?_
      refine a_seq ?_
      refine a_region ?_
      refine r_val (v := .int _ _) (v_move (.inl rfl) (noOwn_flat rfl)) rfl rfl (by decide) ?_
      refine r_val (v := .int _ _) (v_move (.inl rfl) (noOwn_flat rfl)) rfl rfl (by decide) ?_
      refine r_val (v := .bool _) (v_neq (.inl rfl) (.inl rfl)) rfl rfl (by decide) ?_
      refine r_nil ?_
      refine a_cond rfl (fun ht44 => ?_) (fun ht44 => ?_)
      ·
        skip
        refine a_seq ?_
        refine a_region ?_
        refine r_val (v := .bool _) (v_assign (.inl rfl) (noOwn_flat rfl)) rfl rfl (by decide) ?_
        refine r_nil ?_
        refine a_ret ?_
        refine ret1 Try.results7 (by decide) (by decide) (Weak.of_eq (bool_eq ?_)) rfl Leaves.nil
        first | rfl | (exfalso; simp at ht44; done) | (exfalso; simp at ht44; omega)
      ·
        skip
        refine a_skip ?_
        refine a_seq ?_
        refine a_region ?_
        refine r_val (v := .int _ _) (v_move (.inl rfl) (noOwn_flat rfl)) rfl rfl (by decide) ?_
        refine r_val (v := .int _ _) (v_move (.inl rfl) (noOwn_flat rfl)) rfl rfl (by decide) ?_
        refine r_new (v := .tup [.agg [.int _ _, .osl _ _ _ _], .bool _]) (q_call (vs := [.int _ _, .int _ _]) (args := [.int .i64 _, .int .i64 _]) hb27 ⟨.inl rfl, .inl rfl, trivial⟩ rfl (fun hA => iPig_c _ _) (by simp [noSh, noShL, osls_noSh]) (by simp [noRef, noRefL, osls_noRef])) rfl rfl (by decide) ?_
        refine r_val (v := .tup [.agg [.int _ _, .rsl _ _ _ _ _], .bool _]) (v_mv rfl) rfl rfl (by decide) ?_
        refine r_val (v := .agg [.int _ _, .rsl _ _ _ _ _]) (v_extract rfl rfl) rfl rfl (by decide) ?_
        refine r_val (v := .bool _) (v_extract rfl rfl) rfl rfl (by decide) ?_
        refine r_new (v := .op [.int _ _, .nils]) (q_alloc zc24) rfl rfl (by decide) ?_
        refine r_pre (ent_reloc_at_sl (t := 49) (r := [1]) rfl (by decide) rfl rfl) ?_
        refine r_step rfl (o_store_own (v := .agg [.int _ _, .osl _ _ _ _]) (y' := .op [.int _ _, .osl _ _ _ _]) rfl rfl ta24 (.inl rfl) (by decide) rfl (by decide) rfl (by simp [cellsOf, noRefL, noRef, osls_noRef]) rfl rfl rfl rfl rfl (Nat.le_of_ble_eq_true rfl) rfl rfl) ?_
        refine r_val (v := .bool _) (v_assign (.inl rfl) (noOwn_flat rfl)) rfl rfl (by decide) ?_
        refine r_nil ?_
        refine a_seq ?_
        refine a_seq ?_
        refine a_region ?_
        refine r_val (v := .agg [.int _ _, .rsl _ _ _ _ _]) (v_load_rpa (xs := [.int _ _, .osl _ _ _ _]) ta24 (.inl rfl) rfl rfl (fun _ => take_get rfl)) rfl rfl (by decide) ?_
        refine r_val (v := .agg [.int _ _, .rsl _ _ _ _ _]) (v_load_rpa (xs := [.int _ _, .osl _ _ _ _]) ta24 (.inl rfl) rfl rfl (fun _ => take_get rfl)) rfl rfl (by decide) ?_
        refine r_new (v := .bool _) (q_call (vs := [.agg [.int _ _, .rsl _ _ _ _ _], .agg [.int _ _, .rsl _ _ _ _ _]]) (args := [.agg [.int .i64 _, .sl _ _], .agg [.int .i64 _, .sl _ _]]) hb17 ⟨.inl rfl, .inl rfl, trivial⟩ (l2_eq (agg_eq (l2_eq rfl sl_osls)) (agg_eq (l2_eq rfl sl_osls))) (fun hA => eqCnf_c _ _ _ _ (by omega) (by omega) (fun i => by have := hrl i; omega)) rfl rfl) rfl rfl (by decide) ?_
        refine r_val (v := .bool _) (v_not (.inl rfl)) rfl rfl (by decide) ?_
        refine r_val (v := .bool _) (v_move (.inl rfl) (noOwn_flat rfl)) rfl rfl (by decide) ?_
        refine r_gval (v := .bool _) (v_move (.inl rfl) (noOwn_flat rfl)) rfl rfl rfl (by decide) (.inl ⟨_, rfl, rfl⟩) rfl (by decide) ?_
        refine r_gval (v := .bool _) (v_move (.inl rfl) (noOwn_flat rfl)) rfl rfl rfl (by decide) (.inl ⟨_, rfl, rfl⟩) rfl (by decide) ?_
        refine r_gval (v := .bool _) (v_bne un4 (.inr ⟨_, rfl, fun h => h⟩) (.inr ⟨_, rfl, fun h => h⟩)) rfl rfl rfl (by decide) (.inl ⟨_, rfl, rfl⟩) rfl (by decide) ?_
        refine r_val (v := .bool _) (v_pick (.inl rfl) (.inl rfl) (.inr ⟨_, rfl, fun h h2 => by simp_all⟩)) rfl rfl (by decide) ?_
        refine r_nil ?_
        refine a_cond rfl (fun ht59 => ?_) (fun ht59 => ?_)
        ·
          skip
          refine a_seq ?_
          refine a_pre (ent_look (L := [(4, .bool _), (7, .op [.int _ _, .osl _ _ _ _]), (9, .int _ _), (10, .int _ _)]) ⟨Weak.rfl, Weak.rfl, Weak.rfl, Weak.rfl, trivial⟩) ?_
          refine a_region ?_
          refine r_val (v := .bool _) (v_assign (.inl rfl) (noOwn_flat rfl)) rfl rfl (by decide) ?_
          refine r_nil ?_
          refine a_ret ?_
          refine ret1 Try.results7 (by decide) (by decide) (Weak.of_eq (bool_eq ?_)) rfl Leaves.nil
          first | rfl | (exfalso; simp at ht59; done) | (exfalso; simp at ht59; omega)
        ·
          skip
          refine a_skip ?_
          refine a_seq ?_
          refine a_pre (ent_look (L := [(4, .bool _), (7, .op [.int _ _, .osl _ _ _ _]), (9, .int _ _), (10, .int _ _)]) ⟨Weak.rfl, Weak.rfl, Weak.rfl, Weak.rfl, trivial⟩) ?_
          refine a_region ?_
          refine r_val (v := .int _ _) (v_assign (.inl rfl) (noOwn_flat rfl)) rfl rfl (by decide) ?_
          refine r_nil ?_
          refine a_seq ?_
          refine a_region ?_
          refine r_val (v := .agg [.int _ _, .rsl _ _ _ _ _]) (v_load_rpa (xs := [.int _ _, .osl _ _ _ _]) ta24 (.inl rfl) rfl rfl (fun _ => take_get rfl)) rfl rfl (by decide) ?_
          refine r_val (v := .int _ _) (v_move (.inl rfl) (noOwn_flat rfl)) rfl rfl (by decide) ?_
          refine r_new (v := .int _ _) (q_call (vs := [.agg [.int _ _, .rsl _ _ _ _ _], .int _ _]) (args := [.agg [.int .i64 _, .sl _ _], .int .i64 _]) hb19 ⟨.inl rfl, .inl rfl, trivial⟩ (l2_eq (agg_eq (l2_eq rfl sl_osls)) rfl) (fun hA => heldCnf_c _ _ _ (by omega) (by omega) (by omega)) rfl rfl) rfl rfl (by decide) ?_
          refine r_val (v := .int _ _) (v_assign (.inl rfl) (noOwn_flat rfl)) rfl rfl (by decide) ?_
          refine r_nil ?_
          refine a_seq ?_
          refine a_seq ?_
          refine a_region ?_
          refine r_val (v := .int _ _) (v_move (.inl rfl) (noOwn_flat rfl)) rfl rfl (by decide) ?_
          refine r_val (v := .bool _) (v_lss (.inl rfl) (.inl rfl)) rfl rfl (by decide) ?_
          refine r_nil ?_
          refine a_cond rfl (fun ht64 => ?_) (fun ht64 => ?_)
          ·
            skip
            refine a_seq ?_
            refine a_region ?_
            refine r_val (v := .bool _) (v_assign (.inl rfl) (noOwn_flat rfl)) rfl rfl (by decide) ?_
            refine r_nil ?_
            refine a_ret ?_
            refine ret1 Try.results7 (by decide) (by decide) (Weak.of_eq (bool_eq ?_)) rfl Leaves.nil
            first | rfl | (exfalso; simp at ht64; done) | (exfalso; simp at ht64; omega)
          ·
            skip
            refine a_skip ?_
            refine a_seq ?_
            refine a_seq ?_
            refine a_region ?_
            refine r_val (v := .int _ _) (v_move (.inl rfl) (noOwn_flat rfl)) rfl rfl (by decide) ?_
            refine r_val (v := .int _ _) (v_move (.inl rfl) (noOwn_flat rfl)) rfl rfl (by decide) ?_
            refine r_val (v := .bool _) (v_neq (.inl rfl) (.inl rfl)) rfl rfl (by decide) ?_
            refine r_nil ?_
            refine a_cond rfl (fun ht67 => ?_) (fun ht67 => ?_)
            ·
              skip
              refine a_seq ?_
              refine a_region ?_
              refine r_val (v := .bool _) (v_assign (.inl rfl) (noOwn_flat rfl)) rfl rfl (by decide) ?_
              refine r_nil ?_
              refine a_ret ?_
              refine ret1 Try.results7 (by decide) (by decide) (Weak.of_eq (bool_eq ?_)) rfl Leaves.nil
              first | rfl | (exfalso; simp at ht67; done) | (exfalso; simp at ht67; omega)
            ·
              skip
              refine a_skip ?_
              refine a_seq ?_
              refine a_region ?_
              refine r_val (v := .bool _) (v_assign (.inl rfl) (noOwn_flat rfl)) rfl rfl (by decide) ?_
              refine r_nil ?_
              refine a_ret ?_
              refine ret1 Try.results7 (by decide) (by decide) (Weak.of_eq (bool_eq ?_)) rfl Leaves.nil
              first | rfl | (exfalso; simp at ht67; done) | (exfalso; simp at ht67; omega)
end Go.Av
namespace Go.Av
open Go Go.Proofs Go.Proofs.Ytikaemjgmahnbaa
set_option maxRecDepth 100000
theorem arg3 : OpensV Try.prog 3 (fun x : Int => AV.int .i64 x) (fun x => (Lit.int .i64 x).wf = true) :=
  opensV_one (ok_scalar (by rw [Try.underlying3])) (opens_int Try.underlying3) (fun _ => rfl)
theorem rowOwn : ownKnob Try.prog.godebug = none := by kernel_rfl
theorem rowLaid : laidOutB Try.prog = true := by kernel_rfl
end Go.Av
