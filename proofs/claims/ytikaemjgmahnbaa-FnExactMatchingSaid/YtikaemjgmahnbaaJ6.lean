/- Lemmas, part 6. -/
import Derived.Test.YtikaemjgmahnbaaJ5
import Derived.Test.YtikaemjgmahnbaaRows
set_option linter.unusedVariables false
set_option linter.unusedSimpArgs false
namespace Go.Av
open Go Go.Proofs Go.Sort
set_option maxRecDepth 10000
theorem hb77 : hasBody Try.prog 77 = true := by kernel_rfl

theorem iMat_c (n : Int) : ACall Try.prog 43 [.int .i64 n] [] (.tup [.agg [.int .i64 (resV (inR n 1 5 && cnfB (n * (n - 1) / 2) (accJ (mF n.toNat))) (n * (n - 1) / 2)), .osl 1 (osls (resL (inR n 1 5 && cnfB (n * (n - 1) / 2) (accJ (mF n.toNat))) (accJ (mF n.toNat)))) (resL (inR n 1 5 && cnfB (n * (n - 1) / 2) (accJ (mF n.toNat))) (accJ (mF n.toNat))).length none], .bool (inR n 1 5 && cnfB (n * (n - 1) / 2) (accJ (mF n.toNat)))]) [] := by
  refine ACall.intro Try.func43 rfl (N := 67) rfl (by decide) (by simp) ?_
  refine a_seq ?_
  refine a_region ?_
  refine r_new (v := .op [.int _ _, .nils]) (q_alloc zc24) rfl rfl (by decide) ?_
  refine r_val (v := .bool _) (v_assign (.inl rfl) (noOwn_flat rfl)) rfl rfl (by decide) ?_
  refine r_nil ?_
  refine a_seq ?_
  refine a_seq ?_
  refine a_region ?_
  refine r_val (v := .int _ _) (v_move (.inl rfl) (noOwn_flat rfl)) rfl rfl (by decide) ?_
  refine r_new (v := .bool _) (q_call (vs := [.int _ _, .int _ _, .int _ _]) (args := [.int .i64 _, .int .i64 _, .int .i64 _]) hb61 ⟨.inl rfl, .inl rfl, .inl rfl, trivial⟩ rfl (fun hA => within_c _ _ _) rfl rfl) rfl rfl (by decide) ?_
  refine r_val (v := .bool _) (v_not (.inl rfl)) rfl rfl (by decide) ?_
  refine r_nil ?_
  refine a_cond rfl (fun ht14 => ?_) (fun ht14 => ?_)
  ·
    skip
    refine a_seq ?_
    refine a_region ?_
    refine r_val (v := .agg [.int _ _, .nils]) (v_build sp24 rfl rfl) rfl rfl (by decide) ?_
    refine r_step rfl (o_store (v := .agg [.int _ _, .nils]) (y' := .op [.int _ _, .nils]) rfl rfl ta24 (.inl rfl) (.inl rfl) rfl rfl rfl rfl rfl rfl (Nat.le_of_ble_eq_true rfl) (by decide) rfl rfl) ?_
    refine r_val (v := .bool _) (v_assign (.inl rfl) (noOwn_flat rfl)) rfl rfl (by decide) ?_
    refine r_nil ?_
    refine a_pre (ent_nil_at (t := 2) (r := [1]) (sz := 1) rfl (.inl rfl) rfl rfl) ?_
    refine a_ret ?_
    refine retL (rs := [.cell 2 24, .tmp 3]) [(2, _), (3, _)] ⟨Weak.rfl, Weak.rfl, trivial⟩ rfl Try.results43 (by decide) ⟨by decide, _, cell_agg rfl ta24, by decide, rfl⟩ (by decide) (by decide) (l2_eq (agg_eq (l2_eq (int_eq ?_) (osl_eq2 ?_ ?_))) (bool_eq ?_)) (by simp [refsL, refs])
    all_goals (have hf : (inR n 1 5 && cnfB (n * (n - 1) / 2) (accJ (mF n.toNat))) = false := (by simp_all); simp [resV, resL, hf, osls])
  ·
    skip
    refine a_skip ?_
    refine a_seq ?_
    have hin : inR n 1 5 = true := (by simpa using ht14)
    have hn := inR_spec.1 hin
    obtain ⟨m, rfl⟩ := Int.eq_ofNat_of_zero_le (by omega : 0 ≤ n)
    have hvb : 0 ≤ ((m : Nat) : Int) * (((m : Nat) : Int) - 1) ∧ ((m : Nat) : Int) * (((m : Nat) : Int) - 1) ≤ 20 := (by rcases (by omega : m = 1 ∨ m = 2 ∨ m = 3 ∨ m = 4 ∨ m = 5) with rfl | rfl | rfl | rfl | rfl <;> decide)
    refine a_region ?_
    refine r_val (v := .int _ _) (v_move (.inl rfl) (noOwn_flat rfl)) rfl rfl (by decide) ?_
    refine r_new (v := .int _ _) (q_call (vs := [.int _ _]) (args := [.int .i64 _]) hb70 ⟨.inl rfl, trivial⟩ rfl (fun hA => pairsOf_c _ (by omega)) rfl rfl) rfl rfl (by decide) ?_
    refine r_val (v := .agg [.int _ _, .nils]) (v_build sp55 rfl rfl) rfl rfl (by decide) ?_
    refine r_new (v := .op [.int _ _, .nils]) (q_box (.inl rfl) rfl rfl) rfl rfl (by decide) ?_
    refine r_val (v := .rp _ _) (v_assign (.inl rfl) (noOwn_flat rfl)) rfl rfl (by decide) ?_
    refine r_pre (ent_reloc_op (t := 4) rfl rfl) ?_
    refine r_nil ?_
    refine a_seq ?_
    refine a_seq ?_
    refine a_pre (ent_nil_at (t := 4) (r := [1]) (sz := 1) rfl (.inl rfl) rfl rfl) ?_
    refine a_region ?_
    refine r_val (v := .int _ _) (v_assign (.inl rfl) (noOwn_flat rfl)) rfl rfl (by decide) ?_
    refine r_nil ?_
    refine a_block ?_
    refine a_loop (X := Nat) (fun i => look [(0, .int .i64 ((m : Nat) : Int)), (2, .op [.int .i64 0, .nils]), (4, .op [.int .i64 (((m : Nat) : Int) * (((m : Nat) : Int) - 1) / 2), .osl 1 (osls (accM (mRs m i))) (accM (mRs m i)).length none]), (5, .int .i64 ((i + 1 : Nat) : Int))]) (fun i => i ≤ m) (fun i => m - i) 0 (ent_look ⟨Weak.of_eq rfl, Weak.of_eq rfl, Weak.of_eq rfl, Weak.of_eq rfl, trivial⟩) (Nat.zero_le _) (fun i hG => ?_)
    refine a_seq ?_
    refine a_seq ?_
    refine a_region ?_
    refine r_val (v := .int _ _) (v_move (.inl rfl) (noOwn_flat rfl)) rfl rfl (by decide) ?_
    refine r_val (v := .int _ _) (v_move (.inl rfl) (noOwn_flat rfl)) rfl rfl (by decide) ?_
    refine r_val (v := .bool _) (v_leq (.inl rfl) (.inl rfl)) rfl rfl (by decide) ?_
    refine r_nil ?_
    refine a_cond rfl (fun ht22 => ?_) (fun ht22 => ?_)
    ·
      skip
      refine a_skip ?_
      refine a_seq ?_
      refine a_block ?_
      have hi : i < m := (by simp at ht22; omega)
      refine a_region ?_
      refine r_val (v := .rp _ _) (v_move (.inl rfl) (noOwn_flat rfl)) rfl rfl (by decide) ?_
      refine r_val (v := .int _ _) (v_move (.inl rfl) (noOwn_flat rfl)) rfl rfl (by decide) ?_
      refine r_val (v := .int _ _) (v_move (.inl rfl) (noOwn_flat rfl)) rfl rfl (by decide) ?_
      refine r_new (v := .osl _ _ _ _) (q_call (vs := [.int _ _, .int _ _]) (args := [.int .i64 _, .int .i64 _]) hb77 ⟨.inl rfl, .inl rfl, trivial⟩ rfl (fun hA => pairsWith_c m (i + 1) (by omega) (by omega) (by omega)) (ic_noSh _) (ic_noRef _)) rfl rfl (by decide) ?_
      refine r_step rfl (o_callIOp (q := (4, [])) (vs := [.rp _ _, .rsl _ _ _ _ _]) (args := [.rp (INH, []) _, .sl _ _]) (cs0 := [.int _ _, .osl _ _ _ _]) (cs1 := [.int _ _, .osl _ _ _ _]) (res := .tup []) rfl hb62 rfl (by decide) ⟨.inl rfl, .inl rfl, trivial⟩ rfl (l2_eq rfl (sl_sh (ic_pure _))) (add_c (((m : Nat) : Int) * (((m : Nat) : Int) - 1) / 2) (mRs m i) (mP m (i + 1) m) (by rw [mRs_len]; omega) (by have := mP_len m (i + 1) m; omega)) rfl rfl rfl (by simp [noSh, noShL, osls_noSh]) (by simp [noRef, noRefL, osls_noRef]) (Nat.le_of_ble_eq_true rfl) (by decide) rfl) ?_
      refine r_nil ?_
      refine a_region ?_
      refine r_val (v := .int _ _) (v_move (.inl rfl) (noOwn_flat rfl)) rfl rfl (by decide) ?_
      refine r_val (v := .int _ _) (v_add (.inl rfl) (.inl rfl) (fun _ => by omega)) rfl rfl (by decide) ?_
      refine r_val (v := .int _ _) (v_assign (.inl rfl) (noOwn_flat rfl)) rfl rfl (by decide) ?_
      refine r_nil ?_
      refine ⟨i + 1, ent_look ⟨Weak.of_eq rfl, Weak.of_eq rfl, Weak.of_eq (by rw [mRs_succ]; rfl), Weak.of_eq (int_eq (by omega)), trivial⟩, (by omega), by omega⟩
    ·
      skip
      refine a_exit ?_
      refine a_seq ?_
      refine a_seq ?_
      have him : m = i := (by simp at ht22; omega)
      refine a_region ?_
      refine r_val (v := .int _ _) (v_assign (.inl rfl) (noOwn_flat rfl)) rfl rfl (by decide) ?_
      refine r_nil ?_
      refine a_block ?_
      refine a_loop (X := Nat) (fun v => look [(0, .int .i64 ((m : Nat) : Int)), (2, .op [.int .i64 0, .nils]), (4, .op [.int .i64 (((m : Nat) : Int) * (((m : Nat) : Int) - 1) / 2), .osl 1 (osls (accM (mRs m m ++ mC m v))) (accM (mRs m m ++ mC m v)).length none]), (6, .int .i64 ((v + 1 : Nat) : Int))]) (fun v => v ≤ m) (fun v => m - v) 0 (ent_look ⟨Weak.of_eq rfl, Weak.of_eq rfl, Weak.of_eq (by rw [show mC m 0 = [] from rfl, List.append_nil, him]; rfl), Weak.of_eq rfl, trivial⟩) (Nat.zero_le _) (fun v hG => ?_)
      refine a_seq ?_
      refine a_seq ?_
      refine a_region ?_
      refine r_val (v := .int _ _) (v_move (.inl rfl) (noOwn_flat rfl)) rfl rfl (by decide) ?_
      refine r_val (v := .int _ _) (v_move (.inl rfl) (noOwn_flat rfl)) rfl rfl (by decide) ?_
      refine r_val (v := .bool _) (v_leq (.inl rfl) (.inl rfl)) rfl rfl (by decide) ?_
      refine r_nil ?_
      refine a_cond rfl (fun ht32 => ?_) (fun ht32 => ?_)
      ·
        skip
        refine a_skip ?_
        refine a_seq ?_
        refine a_block ?_
        refine a_seq ?_
        have hv : v < m := (by simp at ht32; omega)
        refine a_region ?_
        refine r_val (v := .int _ _) (v_move (.inl rfl) (noOwn_flat rfl)) rfl rfl (by decide) ?_
        refine r_val (v := .int _ _) (v_move (.inl rfl) (noOwn_flat rfl)) rfl rfl (by decide) ?_
        refine r_new (v := .osl _ _ _ _) (q_call (vs := [.int _ _, .int _ _]) (args := [.int .i64 _, .int .i64 _]) hb77 ⟨.inl rfl, .inl rfl, trivial⟩ rfl (fun hA => pairsWith_c m (v + 1) (by omega) (by omega) (by omega)) (ic_noSh _) (ic_noRef _)) rfl rfl (by decide) ?_
        refine r_val (v := .rsl _ _ _ _ _) (v_assign (.inl rfl) (noOwn_flat rfl)) rfl rfl (by decide) ?_
        refine r_pre (ent_reloc_sl (t := 7) rfl rfl) ?_
        refine r_nil ?_
        refine a_seq ?_
        refine a_region ?_
        refine r_val (v := .rsl _ _ _ _ _) (v_move (.inl rfl) (noOwn_flat rfl)) rfl rfl (by decide) ?_
        refine r_val (v := .int _ _) (v_len_rsl sl39 (.inl rfl)) rfl rfl (by decide) ?_
        refine r_val (v := .int _ _) (v_move (.inl rfl) (noOwn_flat rfl)) rfl rfl (by decide) ?_
        refine r_nil ?_
        refine a_block ?_
        refine a_loop (X := Nat) (fun a => look [(0, .int .i64 ((m : Nat) : Int)), (2, .op [.int .i64 0, .nils]), (4, .op [.int .i64 (((m : Nat) : Int) * (((m : Nat) : Int) - 1) / 2), .osl 1 (osls (accM ((mRs m m ++ mC m v) ++ mB (mP m (v + 1) m) a))) (accM ((mRs m m ++ mC m v) ++ mB (mP m (v + 1) m) a)).length none]), (6, .int .i64 ((v + 1 : Nat) : Int)), (7, .osl 1 (icells (mP m (v + 1) m)) (mP m (v + 1) m).length none), (38, .rsl (7, []) 1 0 (mP m (v + 1) m).length none), (39, .int .i64 (((mP m (v + 1) m).length : Nat) : Int)), (40, .int .i64 ((a : Nat) : Int))]) (fun a => a ≤ (mP m (v + 1) m).length) (fun a => (mP m (v + 1) m).length - a) 0 (ent_look ⟨Weak.of_eq rfl, Weak.of_eq rfl, Weak.of_eq (by rw [show mB (mP m (v + 1) m) 0 = [] from rfl, List.append_nil]; rfl), Weak.of_eq rfl, Weak.of_eq rfl, Weak.of_eq rfl, Weak.of_eq rfl, Weak.of_eq rfl, trivial⟩) (Nat.zero_le _) (fun a hG => ?_)
        refine a_seq ?_
        refine a_region ?_
        refine r_val (v := .bool _) (v_lss (.inl rfl) (.inl rfl)) rfl rfl (by decide) ?_
        refine r_nil ?_
        refine a_seq ?_
        refine a_cond rfl (fun ht41 => ?_) (fun ht41 => ?_)
        ·
          skip
          refine a_skip ?_
          refine a_seq ?_
          refine a_block ?_
          refine a_seq ?_
          have ha : a < (mP m (v + 1) m).length := (by simp at ht41; omega)
          have hga := mP_gd m (by omega) (v + 1) (by omega) a (by have := mP_len m (v + 1) m; omega)
          refine a_region ?_
          refine r_val (v := .int _ _) (v_move (.inl rfl) (noOwn_flat rfl)) rfl rfl (by decide) ?_
          refine r_val (v := .rp _ _) (v_indexAddr_rsl0 es39 (.inl rfl) (.inl rfl) (fun _ => by omega)) rfl rfl (by decide) ?_
          refine r_val (v := .int .i64 (gd (mP m (v + 1) m) a)) (v_load_rp1 ta3 (.inl rfl) rfl (fun _ => by rw [Nat.mul_one]; exact icells_get (gd_get (show a < (mP m (v + 1) m).length by omega))) rfl) rfl rfl (by decide) ?_
          refine r_val (v := .int _ _) (v_assign (.inl rfl) (noOwn_flat rfl)) rfl rfl (by decide) ?_
          refine r_val (v := .int _ _) (v_assign (.inl rfl) (noOwn_flat rfl)) rfl rfl (by decide) ?_
          refine r_nil ?_
          refine a_seq ?_
          rcases (by omega : a + 1 < (mP m (v + 1) m).length ∨ (mP m (v + 1) m).length = a + 1) with hsp | hsp
          ·
            skip
            have hrl0 := mP_len m (v + 1) m
            refine a_region ?_
            refine r_val (v := .rsl _ _ _ _ _) (v_move (.inl rfl) (noOwn_flat rfl)) rfl rfl (by decide) ?_
            refine r_val (v := .int _ _) (v_move (.inl rfl) (noOwn_flat rfl)) rfl rfl (by decide) ?_
            refine r_val (v := .int _ _) (v_add (.inl rfl) (.inl rfl) (fun _ => by omega)) rfl rfl (by decide) ?_
            refine r_val (v := .rsl _ _ _ _ _) (v_slice_rsl (l := (a + 1)) (h := (mP m (v + 1) m).length) es39 (.inl rfl) (.inr ⟨_, _, rfl, .inl rfl⟩) (.inl ⟨rfl, rfl⟩) (fun _ => ⟨by omega, by omega, by omega⟩)) rfl rfl (by decide) ?_
            refine r_val (v := .int _ _) (v_len_rsl sl39 (.inl rfl)) rfl rfl (by decide) ?_
            refine r_val (v := .int _ _) (v_move (.inl rfl) (noOwn_flat rfl)) rfl rfl (by decide) ?_
            refine r_nil ?_
            refine a_block ?_
            refine a_loop (X := Nat) (fun b => look [(0, .int .i64 ((m : Nat) : Int)), (2, .op [.int .i64 0, .nils]), (4, .op [.int .i64 (((m : Nat) : Int) * (((m : Nat) : Int) - 1) / 2), .osl 1 (osls (accM (((mRs m m ++ mC m v) ++ mB (mP m (v + 1) m) a) ++ mA (mP m (v + 1) m) a b))) (accM (((mRs m m ++ mC m v) ++ mB (mP m (v + 1) m) a) ++ mA (mP m (v + 1) m) a b)).length none]), (6, .int .i64 ((v + 1 : Nat) : Int)), (7, .osl 1 (icells (mP m (v + 1) m)) (mP m (v + 1) m).length none), (38, .rsl (7, []) 1 0 (mP m (v + 1) m).length none), (39, .int .i64 (((mP m (v + 1) m).length : Nat) : Int)), (40, .int .i64 ((a : Nat) : Int)), (8, .int .i64 ((a : Nat) : Int)), (9, .int .i64 (gd (mP m (v + 1) m) a)), (48, .rsl (7, []) 1 (a + 1) ((mP m (v + 1) m).length - (a + 1)) none), (49, .int .i64 ((((mP m (v + 1) m).length - (a + 1)) : Nat) : Int)), (50, .int .i64 ((b : Nat) : Int))]) (fun b => a + 1 + b ≤ (mP m (v + 1) m).length) (fun b => (mP m (v + 1) m).length - b) 0 (ent_look ⟨Weak.of_eq rfl, Weak.of_eq rfl, Weak.of_eq (by rw [show mA (mP m (v + 1) m) a 0 = [] from rfl, List.append_nil]; rfl), Weak.of_eq rfl, Weak.of_eq rfl, Weak.of_eq rfl, Weak.of_eq rfl, Weak.of_eq rfl, Weak.of_eq rfl, Weak.of_eq rfl, Weak.of_eq (by show AV.rsl (7, []) 1 (0 + (a + 1) * 1) _ (Option.map _ none) = _; rw [Nat.zero_add, Nat.mul_one]; rfl), Weak.of_eq rfl, Weak.of_eq rfl, trivial⟩) (by omega) (fun b hG => ?_)
            refine a_seq ?_
            refine a_region ?_
            refine r_val (v := .bool _) (v_lss (.inl rfl) (.inl rfl)) rfl rfl (by decide) ?_
            refine r_nil ?_
            refine a_seq ?_
            refine a_cond rfl (fun ht51 => ?_) (fun ht51 => ?_)
            ·
              skip
              refine a_skip ?_
              refine a_seq ?_
              refine a_block ?_
              refine a_seq ?_
              have hb : a + 1 + b < (mP m (v + 1) m).length := (by simp at ht51; omega)
              refine a_region ?_
              refine r_val (v := .rp _ _) (v_indexAddr_rsl es39 (.inl rfl) (.inl rfl) (fun _ => by omega)) rfl rfl (by decide) ?_
              refine r_val (v := .int .i64 (gd (mP m (v + 1) m) (a + 1 + b))) (v_load_rp1 ta3 (.inl rfl) rfl (fun _ => by rw [Nat.mul_one]; exact icells_get (gd_get (show a + 1 + b < (mP m (v + 1) m).length by omega))) rfl) rfl rfl (by decide) ?_
              refine r_val (v := .int _ _) (v_assign (.inl rfl) (noOwn_flat rfl)) rfl rfl (by decide) ?_
              refine r_nil ?_
              have hgb := mP_gd m (by omega) (v + 1) (by omega) (a + 1 + b) (by have := mP_len m (v + 1) m; omega)
              have hl1 := mRs_len m m
              have hl2 := mC_len m v
              have hl3 := mB_len (mP m (v + 1) m) a
              have hl4 := mA_len (mP m (v + 1) m) a b
              have hrl := mP_len m (v + 1) m
              have hb1 : m * m * v ≤ 5 * 5 * 5 := Nat.mul_le_mul (Nat.mul_le_mul (by omega) (by omega)) (by omega)
              have hb2 : (mP m (v + 1) m).length * a ≤ 5 * 5 := Nat.mul_le_mul (by omega) (by omega)
              refine a_region ?_
              refine r_val (v := .rp _ _) (v_move (.inl rfl) (noOwn_flat rfl)) rfl rfl (by decide) ?_
              refine r_val (v := .int _ _) (v_move (.inl rfl) (noOwn_flat rfl)) rfl rfl (by decide) ?_
              refine r_val (v := .int _ _) (v_neg (.inl rfl) (fun _ => by omega)) rfl rfl (by decide) ?_
              refine r_val (v := .int _ _) (v_move (.inl rfl) (noOwn_flat rfl)) rfl rfl (by decide) ?_
              refine r_val (v := .int _ _) (v_neg (.inl rfl) (fun _ => by omega)) rfl rfl (by decide) ?_
              refine r_new (v := .osl 1 (icells (mX (mP m (v + 1) m) a (a + 1 + b))) 2 (some 2)) (q_sliceLit (n := 2) (parts := [(0, .tmp 56), (1, .tmp 58)]) lt39 rfl rfl rfl rfl) rfl rfl (by decide) ?_
              refine r_step rfl (o_callIOp (q := (4, [])) (vs := [.rp _ _, .rsl _ _ _ _ _]) (args := [.rp (INH, []) _, .sl _ _]) (cs0 := [.int _ _, .osl _ _ _ _]) (cs1 := [.int _ _, .osl _ _ _ _]) (res := .tup []) rfl hb62 rfl (by decide) ⟨.inl rfl, .inl rfl, trivial⟩ rfl (l2_eq rfl (sl_sh (ic_pure _))) (add_c (((m : Nat) : Int) * (((m : Nat) : Int) - 1) / 2) (((mRs m m ++ mC m v) ++ mB (mP m (v + 1) m) a) ++ mA (mP m (v + 1) m) a b) (mX (mP m (v + 1) m) a (a + 1 + b)) (by simp; omega) (by simp [mX])) rfl rfl rfl (by simp [noSh, noShL, osls_noSh]) (by simp [noRef, noRefL, osls_noRef]) (Nat.le_of_ble_eq_true rfl) (by decide) rfl) ?_
              refine r_nil ?_
              refine a_pre (ent_look (L := [(0, .int _ _), (2, .op [.int _ _, .nils]), (4, .op [.int _ _, .osl _ _ _ _]), (6, .int _ _), (7, .osl _ _ _ _), (8, .int _ _), (9, .int _ _), (38, .rsl _ _ _ _ _), (39, .int _ _), (40, .int _ _), (48, .rsl _ _ _ _ _), (49, .int _ _), (50, .int _ _)]) ⟨Weak.rfl, Weak.rfl, Weak.rfl, Weak.rfl, Weak.rfl, Weak.rfl, Weak.rfl, Weak.rfl, Weak.rfl, Weak.rfl, Weak.rfl, Weak.rfl, Weak.rfl, trivial⟩) ?_
              refine a_region ?_
              refine r_val (v := .int _ _) (v_add (.inl rfl) (.inl rfl) (fun _ => by omega)) rfl rfl (by decide) ?_
              refine r_val (v := .int _ _) (v_move (.inl rfl) (noOwn_flat rfl)) rfl rfl (by decide) ?_
              refine r_nil ?_
              refine ⟨b + 1, ent_look ⟨Weak.of_eq rfl, Weak.of_eq rfl, Weak.of_eq (by rw [mA_succ, ← List.append_assoc]; rfl), Weak.of_eq rfl, Weak.of_eq rfl, Weak.of_eq rfl, Weak.of_eq rfl, Weak.of_eq rfl, Weak.of_eq rfl, Weak.of_eq rfl, Weak.of_eq rfl, Weak.of_eq rfl, Weak.of_eq (int_eq (by omega)), trivial⟩, (by omega), by omega⟩
            ·
              skip
              refine a_exit ?_
              have hbr : b = (mP m (v + 1) m).length - (a + 1) := (by simp at ht51; omega)
              refine a_region ?_
              refine r_val (v := .int _ _) (v_add (.inl rfl) (.inl rfl) (fun _ => by omega)) rfl rfl (by decide) ?_
              refine r_val (v := .int _ _) (v_move (.inl rfl) (noOwn_flat rfl)) rfl rfl (by decide) ?_
              refine r_nil ?_
              refine ⟨a + 1, ent_look ⟨Weak.of_eq rfl, Weak.of_eq rfl, Weak.of_eq (by rw [mB_succ hbr, ← List.append_assoc]; rfl), Weak.of_eq rfl, Weak.of_eq rfl, Weak.of_eq rfl, Weak.of_eq rfl, Weak.of_eq (int_eq (by omega)), trivial⟩, (by omega), by omega⟩
          ·
            skip
            have hrl0 := mP_len m (v + 1) m
            refine a_region ?_
            refine r_val (v := .rsl _ _ _ _ _) (v_move (.inl rfl) (noOwn_flat rfl)) rfl rfl (by decide) ?_
            refine r_val (v := .int _ _) (v_move (.inl rfl) (noOwn_flat rfl)) rfl rfl (by decide) ?_
            refine r_val (v := .int _ _) (v_add (.inl rfl) (.inl rfl) (fun _ => by omega)) rfl rfl (by decide) ?_
            refine r_val (v := .sl _ _) (v_slice_end (l := (a + 1)) (h := (mP m (v + 1) m).length) es39 (.inl rfl) (.inr ⟨_, _, rfl, .inl rfl⟩) (.inl ⟨rfl, rfl⟩) (fun _ => ⟨by omega, by omega⟩)) rfl rfl (by decide) ?_
            refine r_val (v := .int _ _) (v_len_sl sl39 (.inl rfl)) rfl rfl (by decide) ?_
            refine r_val (v := .int _ _) (v_move (.inl rfl) (noOwn_flat rfl)) rfl rfl (by decide) ?_
            refine r_nil ?_
            refine a_block ?_
            refine a_loop (X := Nat) (fun b => look [(0, .int .i64 ((m : Nat) : Int)), (2, .op [.int .i64 0, .nils]), (4, .op [.int .i64 (((m : Nat) : Int) * (((m : Nat) : Int) - 1) / 2), .osl 1 (osls (accM (((mRs m m ++ mC m v) ++ mB (mP m (v + 1) m) a) ++ mA (mP m (v + 1) m) a b))) (accM (((mRs m m ++ mC m v) ++ mB (mP m (v + 1) m) a) ++ mA (mP m (v + 1) m) a b)).length none]), (6, .int .i64 ((v + 1 : Nat) : Int)), (7, .osl 1 (icells (mP m (v + 1) m)) (mP m (v + 1) m).length none), (38, .rsl (7, []) 1 0 (mP m (v + 1) m).length none), (39, .int .i64 (((mP m (v + 1) m).length : Nat) : Int)), (40, .int .i64 ((a : Nat) : Int)), (8, .int .i64 ((a : Nat) : Int)), (9, .int .i64 (gd (mP m (v + 1) m) a)), (50, .int .i64 ((b : Nat) : Int)), (48, .sl [] 0), (49, .int .i64 0)]) (fun b => b = 0) (fun b => 0) 0 (ent_look ⟨Weak.of_eq rfl, Weak.of_eq rfl, Weak.of_eq (by rw [show mA (mP m (v + 1) m) a 0 = [] from rfl, List.append_nil]; rfl), Weak.of_eq rfl, Weak.of_eq rfl, Weak.of_eq rfl, Weak.of_eq rfl, Weak.of_eq rfl, Weak.of_eq rfl, Weak.of_eq rfl, Weak.of_eq rfl, Weak.of_eq rfl, Weak.of_eq rfl, trivial⟩) rfl (fun b hG => ?_)
            refine a_seq ?_
            refine a_region ?_
            refine r_val (v := .bool _) (v_lss (.inl rfl) (.inl rfl)) rfl rfl (by decide) ?_
            refine r_nil ?_
            refine a_seq ?_
            refine a_cond rfl (fun ht51 => ?_) (fun ht51 => ?_)
            ·
              skip
              refine a_skip ?_
              refine a_seq ?_
              refine a_block ?_
              refine a_seq ?_
              exfalso
              subst hG; simp at ht51
            ·
              skip
              refine a_exit ?_
              have hbr : b = (mP m (v + 1) m).length - (a + 1) := (by omega)
              refine a_region ?_
              refine r_val (v := .int _ _) (v_add (.inl rfl) (.inl rfl) (fun _ => by omega)) rfl rfl (by decide) ?_
              refine r_val (v := .int _ _) (v_move (.inl rfl) (noOwn_flat rfl)) rfl rfl (by decide) ?_
              refine r_nil ?_
              refine ⟨a + 1, ent_look ⟨Weak.of_eq rfl, Weak.of_eq rfl, Weak.of_eq (by rw [mB_succ hbr, ← List.append_assoc]; rfl), Weak.of_eq rfl, Weak.of_eq rfl, Weak.of_eq rfl, Weak.of_eq rfl, Weak.of_eq (int_eq (by omega)), trivial⟩, (by omega), by omega⟩
        ·
          skip
          refine a_exit ?_
          have har : a = (mP m (v + 1) m).length := (by simp at ht41; omega)
          refine a_region ?_
          refine r_val (v := .int _ _) (v_move (.inl rfl) (noOwn_flat rfl)) rfl rfl (by decide) ?_
          refine r_val (v := .int _ _) (v_add (.inl rfl) (.inl rfl) (fun _ => by omega)) rfl rfl (by decide) ?_
          refine r_val (v := .int _ _) (v_assign (.inl rfl) (noOwn_flat rfl)) rfl rfl (by decide) ?_
          refine r_nil ?_
          refine ⟨v + 1, ent_look ⟨Weak.of_eq rfl, Weak.of_eq rfl, Weak.of_eq (by rw [mC_succ har, ← List.append_assoc]; rfl), Weak.of_eq (int_eq (by omega)), trivial⟩, (by omega), by omega⟩
      ·
        skip
        refine a_exit ?_
        refine a_seq ?_
        have hvm : v = m := (by simp at ht32; omega)
        have hgd : goodB 144 (mF ((m : Nat) : Int).toNat) = true := (by rw [Int.toNat_natCast]; exact m_good m (by omega))
        have hcF : (mRs m m ++ mC m v) = (mF ((m : Nat) : Int).toNat) := (by rw [Int.toNat_natCast, mF_eq rfl hvm])
        have hrm := res_M (vars := (((m : Nat) : Int) * (((m : Nat) : Int) - 1) / 2)) (F := (mF ((m : Nat) : Int).toNat)) hin hgd
        refine a_region ?_
        refine r_val (v := .rp _ _) (v_move (.inl rfl) (noOwn_flat rfl)) rfl rfl (by decide) ?_
        refine r_step rfl (o_callIO (q := (4, [])) (vs := [.rp _ _]) (args := [.rp (INH, []) _]) (x0 := .op [.int _ _, .osl _ _ _ _]) (x1 := .undef) (res := .tup [.agg [.int _ _, .osl _ _ _ _], .bool _]) rfl hb63 rfl (by decide) ⟨.inl rfl, trivial⟩ rfl rfl (cnf_c (((m : Nat) : Int) * (((m : Nat) : Int) - 1) / 2) (accM (mRs m m ++ mC m v)) (by rw [hcF]; exact goodB_okM (by omega) hgd)) rfl (by simp [noSh, noShL, osls_noSh]) (by simp [noRef, noRefL, osls_noRef]) rfl rfl (Nat.le_of_ble_eq_true rfl) (by decide) rfl) ?_
        refine r_val (v := .agg [.int _ _, .rsl _ _ _ _ _]) (v_extract rfl rfl) rfl rfl (by decide) ?_
        refine r_val (v := .bool _) (v_extract rfl rfl) rfl rfl (by decide) ?_
        refine r_pre (ent_reloc_at_sl (t := 65) (r := [1]) rfl (by decide) rfl rfl) ?_
        refine r_step rfl (o_store_own (v := .agg [.int _ _, .osl _ _ _ _]) (y' := .op [.int _ _, .osl _ _ _ _]) rfl rfl ta24 (.inl rfl) (by decide) rfl (by decide) rfl (by simp [cellsOf, noRefL, noRef, osls_noRef]) rfl rfl rfl rfl rfl (Nat.le_of_ble_eq_true rfl) rfl rfl) ?_
        refine r_val (v := .bool _) (v_assign (.inl rfl) (noOwn_flat rfl)) rfl rfl (by decide) ?_
        refine r_nil ?_
        refine a_ret ?_
        refine retL (rs := [.cell 2 24, .tmp 3]) [(2, _), (3, _)] ⟨Weak.rfl, Weak.rfl, trivial⟩ rfl Try.results43 (by decide) ⟨by decide, _, cell_agg rfl ta24, by decide, rfl⟩ (by decide) (by decide) (l2_eq (agg_eq (l2_eq (int_eq ?_) (osl_eq2 ?_ ?_))) (bool_eq ?_)) (by simp [refsL, refs])
        all_goals (rw [hcF])
        all_goals (first | rw [hrm.2] | rw [hrm.1])
end Go.Av
namespace Go.Av
open Go Go.Proofs Go.Sort
set_option maxRecDepth 10000


end Go.Av
namespace Go.Av
open Go Go.Proofs Go.Sort
set_option maxRecDepth 10000


end Go.Av
namespace Go.Av
open Go Go.Proofs Go.Sort
set_option maxRecDepth 10000


end Go.Av
namespace Go.Av
open Go
theorem sls_cell (L : List (List Int)) : cellL (sls L) = true := by
  unfold sls cellL; simp [cellV]
theorem sls_append (L M : List (List Int)) : sls (L ++ M) = sls L ++ sls M := by simp [sls]
end Go.Av
namespace Go.Av
open Go
section
variable {P : Program} {N : Nat} {A : Bool} {σ τ : Sig} {ty : TypeId}
variable {e : Ctx} {val : Nat → Value} {w : World} {β : Place → Option (Nat × Nat)} {F : Nat → Prop} {x : AV} {d : Nat}

/-- A slot's owned memory is frozen, where it is new. -/
theorem Inv.freeze (h : Inv e (upd τ d x) val w β F) (hf : ∀ r y b s, node x r = some y → y.isOwn = true → β (d, r) = some (b, s) → e.w0.heap.size ≤ b) :
    Inv e (upd τ d (sh x)) val w β (fun b => F b ∨ ∃ r y s, node x r = some y ∧ y.isOwn = true ∧ β (d, r) = some (b, s)) := by
  have own : ∀ q, OwnAt (upd τ d (sh x)) q → q.1 ≠ d ∧ OwnAt (upd τ d x) q := fun q hq => by
    by_cases hi : q.1 = d
    · obtain ⟨y, hy, ho⟩ := hq
      rw [hi, upd_same] at hy
      rw [pure_own (pure_sh x) hy] at ho; cases ho
    · exact ⟨hi, (own_upd_other hi).2 ((own_upd_other hi).1 hq)⟩
  have hx := h.rep d
  rw [upd_same] at hx
  have ownx : ∀ r y, node x r = some y → y.isOwn = true → OwnAt (upd τ d x) (d, r) := fun r y hy ho => ⟨y, by rw [upd_same]; exact hy, ho⟩
  refine ⟨fun i => ?_, fun q q' b s s' hq hq' => h.disj q q' b s s' (own q hq).2 (own q' hq').2, fun q b s hq hb => ⟨?_, (h.sep q b s (own q hq).2 hb).2⟩, fun b hb => ?_, h.kept, h.grow, h.tame⟩
  · by_cases hi : i = d
    · subst hi
      rw [upd_same]
      exact hx.sh x (fun b hb => .inl hb) (fun r y b s hy ho hb => .inr ⟨r, y, s, hy, ho, by simpa using hb⟩)
    · have := h.rep i
      rw [upd_other _ _ hi] at this ⊢
      exact this.tr _ (fun b hb => ⟨.inl hb, rfl⟩) (fun _ _ _ _ => ⟨rfl, fun _ _ _ => rfl⟩) (fun _ _ => rfl)
  · rintro (hF | ⟨r, y, s', hy, ho, hb'⟩)
    · exact (h.sep q b s (own q hq).2 hb).1 hF
    · have := h.disj q (d, r) b s s' (own q hq).2 (ownx r y hy ho) hb hb'
      exact (own q hq).1 (by rw [this])
  · rcases hb with hb | ⟨r, y, s, hy, ho, hb⟩
    · exact h.fr b hb
    · refine ⟨h.own_lt (ownx r y hy ho) hb, fun hlt => ?_⟩
      have := hf r y b s hy ho hb
      omega

/-- A slice literal, frozen. -/
theorem q_sliceLitZ {t n sz : Nat} {zs cs : List AV} {parts : List (Nat × Operand)} (h : litTy P t = some (sz, zs)) (hsm : Nat.ble (n * sz) 16777216 = true)
    (hf : fillA (fun i => some (i * sz, sz)) (rep n zs) (parts.map fun x => (x.1, rd N σ x.2)) = some cs) (hl : Nat.beq cs.length (n * sz) = true) (hp : pureL cs = true) :
    QSem P N A (sliceLit t n parts) ty σ (slotsL (parts.map (·.2))) (.sl (shL cs) n) := by
  intro hA σ' hD gv e a w β F hi d o ho hty K Q hK
  obtain ⟨el, arr0, harr, hrun⟩ := run_lit h (Nat.le_of_ble_eq_true hsm)
  obtain ⟨cells, he, hc1, hc2, hc3⟩ := fill_spec (β := β) (F := F) (w := w) (parts.map fun x => (x.1, rd N σ x.2)) (parts.map fun x => (x.1, a.eval x.2)) _ arr0 cs (harr β F w) (by simp)
      (fun j i v hj => by
        rw [List.getElem?_map] at hj
        cases hp : parts[j]? with
        | none => rw [hp] at hj; cases hj
        | some x =>
          rw [hp] at hj
          simp only [Option.map_some, Option.some.injEq, Prod.mk.injEq] at hj
          obtain ⟨rfl, rfl⟩ := hj
          refine ⟨noOwn_rd _, a.eval x.2, (0, []), by rw [List.getElem?_map, hp]; rfl, ?_⟩
          have := rd_rep hi x.2 (0, [])
          rwa [rd_agree (fun i hi' => hD i (List.mem_flatMap.2 ⟨x.2, List.mem_map.2 ⟨x, List.mem_of_getElem? hp, rfl⟩, hi'⟩))] at this) hf
  have hr := hrun (parts.map fun x => (x.1, a.eval x.2)).toArray cells w (by simpa using he)
  obtain ⟨β', h'⟩ := hi.new_osl (us := cells.toList) (by simpa using hc1) hc3 hp el d (arr := cells) (sz := sz) (n := n) (capv := n) (cap := some n) (fun j x hx => hx) (by rw [hc1]; exact Nat.eq_of_beq_eq_true hl) (Nat.le_refl _) (fun c hc => by cases hc; rfl)
  have hfz := h'.freeze (fun r y b s hy hyo hb => by
    cases r with
    | nil =>
      have hrep := h'.rep d
      rw [upd_same, upd_same] at hrep
      simp only [Rep] at hrep
      rcases hrep with ⟨h1, _⟩ | ⟨_, b', _, _, _, h1, h2, _⟩
      · rw [h1] at hb; cases hb
      · rw [h1] at hb; cases hb
        simp only [Value.slice.injEq, Option.some.injEq, Addr.mk.injEq] at h2
        have := hi.grow
        omega
    | cons j r =>
      simp only [node, kids] at hy
      cases hc : cs[j]? with
      | none => rw [hc] at hy; cases hy
      | some c =>
        rw [hc] at hy
        rw [pure_own (pureL_mem hp (List.mem_of_getElem? hc)) hy] at hyo; cases hyo)
  refine wp_value (v := .slice (some ⟨w.heap.size, 0, none⟩) n n) (w' := w.alloc (.cells cells el)) ?_ (hK _ _ ⟨β', _, hfz⟩)
  simp only [execOp, ho, sliceLit, List.map_toArray, hr, Sem.run_bind, Sem.run_pure, Result.andThen_ok]

/-- A call whose arguments are only lent; its result is new and frozen from now on. -/
theorem call_coreZ {f : FuncId} {args : List AV} {res : AV} (hc : ACall P f args [] res []) (hp : pureL args = true) (hn : noSh res = true) (hr : noRef res = true) (h : Inv e σ val w β F) {vs : List Value}
    (hl : vs.length = args.length) (ha : RepL (fun _ => none) (lent σ β F) w args (0, []) 0 vs) (d : Nat) :
    Calls P f vs.toArray w fun en w' => ∃ v β' F', en = .returned v ∧ Inv e (upd (fun i => purgeV d (σ i)) d (sh res)) (upd val d v) w' β' F' := by
  have hinv : Inv ⟨w, fun _ => False, lent σ β F⟩ (argSig args []) (fun i => vs.getD i undef) w (fun _ => none) (lent σ β F) := by
    refine ⟨fun i => ?_, fun q q' b s s' hq => (noOwn_argSig hp q hq).elim, fun q b s hq => (noOwn_argSig hp q hq).elim, fun b hb => ⟨?_, fun _ => hb⟩, fun _ _ _ => rfl, Nat.le_refl _, Tame.refl _⟩
    · unfold argSig
      split
      · cases hx : args[i]? with
        | none => simp [Rep]
        | some c =>
          obtain ⟨u, hu, hru⟩ := RepL_iff.1 ha i c hx
          rw [List.getD_eq_getElem?_getD, hu]
          exact hru.pure_any (pureL_mem hp (List.mem_of_getElem? hx))
      · simp [Rep]
    · rcases hb with hb | ⟨q, s, hq, hb⟩
      · exact (h.fr b hb).1
      · exact h.own_lt hq hb
  refine (hc _ vs _ w _ _ hl (fun _ _ => rfl) hinv).mono fun en w' ⟨v, β', F', he, hi⟩ => ⟨v, ?_⟩
  have hkept : ∀ b, b < w.heap.size → w'.heap[b]? = w.heap[b]? := fun b hb => hi.kept b hb (fun h => h)
  have hI := h.more hkept hi.grow (h.tame.trans hi.tame hkept)
  have h0 : argSig [res] [] 0 = res := by simp [argSig, INH]
  have hge : ∀ r y b s, node res r = some y → y.isOwn = true → β' (0, r) = some (b, s) → w.heap.size ≤ b := fun r y b s hy ho hb => by
    have hs := hi.sep (0, r) b s ⟨y, by rw [h0]; exact hy, ho⟩ hb
    rcases hs.2 with h | h; exact h; exact h.elim
  have hdet : Det e σ w' β F res v (fun r => β' (0, r)) := by
    refine ⟨?_, refs_of_noRef res hr, ?_, ?_⟩
    · have := hi.rep 0
      rw [h0, upd_same] at this
      exact (this.noSh (G := F) res hn).tr _ (fun b hb => ⟨hb, rfl⟩) (fun r y _ _ => ⟨by simp, fun _ _ _ => rfl⟩) (fun q hq => by rw [refs_of_noRef res hr] at hq; cases hq)
    · intro r r' y y' b s s' hy ho hy' ho' hb hb'
      have := hi.disj (0, r) (0, r') b s s' ⟨y, by rw [h0]; exact hy, ho⟩ ⟨y', by rw [h0]; exact hy', ho'⟩ hb hb'
      simpa using this
    · intro r y b s hy ho hb
      have hge := hge r y b s hy ho hb
      exact ⟨fun hF => by have := (h.fr b hF).1; omega, .inl (Nat.le_trans h.grow hge), fun q s' hq hb' => by have := h.own_lt hq hb'; omega⟩
  exact ⟨_, _, he, (hI.attach d hdet).freeze (fun r y b s hy ho hb => Nat.le_trans h.grow (hge r y b s hy ho (by simpa using hb)))⟩
theorem q_callZ {f : FuncId} {xs : List Operand} {tys : Array TypeId} {vs args : List AV} {res : AV} (hf : hasBody P f = true) (hx : RdL N A σ xs vs) (hs : snapL σ vs = args) (hc : A = true → ACall P f args [] res [])
    (hn : noSh res = true) (hr : noRef res = true) : QSem P N A (fnCall f xs tys) ty σ (slotsL xs ++ refRoots vs) (sh res) := by
  intro hA σ' hD gv e a w β F hi d o ho hty K Q hK
  have hp : pureL args = true := by rw [← hs]; exact pure_snapL σ _
  obtain ⟨hrep, hlen, hno⟩ := RdL.rep hA hi (0, []) (j := 0) hx (agree_l hD)
  have hsn := hi.snapL (β0 := fun _ => none) _ (p' := (0, [])) hrep (fun i c hc => hno c (List.mem_of_getElem? hc))
  have e2 : snapL σ' vs = args := by rw [← hs]; exact snapL_congr _ fun q hq => hD q.1 (List.mem_append_right _ (refRoots_mem hq))
  rw [e2] at hsn
  have hl : (xs.map a.eval).length = args.length := by rw [← e2, snapL_eq, hlen]; simp
  refine upon_enter' (f := f) (args := (xs.map a.eval).toArray) ?_ ((call_coreZ (hc hA) hp hn hr hi hl hsn d).mono fun en w' ⟨v, β', F', he, hi'⟩ => ⟨v, he, hK _ _ ⟨β', F', hi'⟩⟩)
  simp [execOp, ho, fnCall, resolve, Deferred.ofValue, Act.eval, invoke, run_callFunc_body hf]
end
end Go.Av
namespace Go.Av
open Go
theorem sl_shZ {cs : List AV} {n m : Nat} {c : Option Nat} (h : pureL cs = true ∧ noNilL cs = true) : sh (.osl m cs n c) = .sl cs n := by simp only [sh, shL_id cs h.1 h.2]
end Go.Av
namespace Go.Av
open Go Go.Proofs Go.Sort
set_option maxRecDepth 10000
theorem hb76 : hasBody Try.prog 76 = true := by kernel_rfl

theorem sMat_c (n : Int) : ACall Try.prog 42 [.int .i64 n] [] (.tup [.agg [.int .i64 (resV (inR n 1 5 && cnfB (n * (n - 1) / 2) (accJ (mF n.toNat))) (n * (n - 1) / 2)), .osl 1 (osls (resL (inR n 1 5 && cnfB (n * (n - 1) / 2) (accJ (mF n.toNat))) (accJ (mF n.toNat)))) (resL (inR n 1 5 && cnfB (n * (n - 1) / 2) (accJ (mF n.toNat))) (accJ (mF n.toNat))).length none], .bool (inR n 1 5 && cnfB (n * (n - 1) / 2) (accJ (mF n.toNat)))]) [] := by
  refine ACall.intro Try.func42 rfl (N := 98) rfl (by decide) (by simp) ?_
  refine a_seq ?_
  refine a_region ?_
  refine r_new (v := .op [.int _ _, .nils]) (q_alloc zc24) rfl rfl (by decide) ?_
  refine r_val (v := .bool _) (v_assign (.inl rfl) (noOwn_flat rfl)) rfl rfl (by decide) ?_
  refine r_nil ?_
  refine a_seq ?_
  refine a_seq ?_
  refine a_region ?_
  refine r_val (v := .int _ _) (v_move (.inl rfl) (noOwn_flat rfl)) rfl rfl (by decide) ?_
  refine r_new (v := .bool _) (q_call (vs := [.int _ _, .int _ _, .int _ _]) (args := [.int .i64 _, .int .i64 _, .int .i64 _]) hb57 ⟨.inl rfl, .inl rfl, .inl rfl, trivial⟩ rfl (fun hA => l1In_c _ _ _) rfl rfl) rfl rfl (by decide) ?_
  refine r_val (v := .bool _) (v_not (.inl rfl)) rfl rfl (by decide) ?_
  refine r_nil ?_
  refine a_cond rfl (fun ht14 => ?_) (fun ht14 => ?_)
  ·
    skip
    refine a_seq ?_
    refine a_region ?_
    refine r_val (v := .agg [.int _ _, .nils]) (v_build sp24 rfl rfl) rfl rfl (by decide) ?_
    refine r_step rfl (o_store (v := .agg [.int _ _, .nils]) (y' := .op [.int _ _, .nils]) rfl rfl ta24 (.inl rfl) (.inl rfl) rfl rfl rfl rfl rfl rfl (Nat.le_of_ble_eq_true rfl) (by decide) rfl rfl) ?_
    refine r_val (v := .bool _) (v_assign (.inl rfl) (noOwn_flat rfl)) rfl rfl (by decide) ?_
    refine r_nil ?_
    refine a_pre (ent_nil_at (t := 2) (r := [1]) (sz := 1) rfl (.inl rfl) rfl rfl) ?_
    refine a_ret ?_
    refine retL (rs := [.cell 2 24, .tmp 3]) [(2, _), (3, _)] ⟨Weak.rfl, Weak.rfl, trivial⟩ rfl Try.results42 (by decide) ⟨by decide, _, cell_agg rfl ta24, by decide, rfl⟩ (by decide) (by decide) (l2_eq (agg_eq (l2_eq (int_eq ?_) (osl_eq2 ?_ ?_))) (bool_eq ?_)) (by simp [refsL, refs])
    all_goals (have hf : (inR n 1 5 && cnfB (n * (n - 1) / 2) (accJ (mF n.toNat))) = false := (by simp_all); simp [resV, resL, hf, osls])
  ·
    skip
    refine a_skip ?_
    refine a_seq ?_
    have hin : inR n 1 5 = true := (by simpa using ht14)
    have hn := inR_spec.1 hin
    obtain ⟨m, rfl⟩ := Int.eq_ofNat_of_zero_le (by omega : 0 ≤ n)
    have hvb : 0 ≤ ((m : Nat) : Int) * (((m : Nat) : Int) - 1) ∧ ((m : Nat) : Int) * (((m : Nat) : Int) - 1) ≤ 20 := (by rcases (by omega : m = 1 ∨ m = 2 ∨ m = 3 ∨ m = 4 ∨ m = 5) with rfl | rfl | rfl | rfl | rfl <;> decide)
    refine a_region ?_
    refine r_val (v := .int _ _) (v_move (.inl rfl) (noOwn_flat rfl)) rfl rfl (by decide) ?_
    refine r_val (v := .int _ _) (v_move (.inl rfl) (noOwn_flat rfl)) rfl rfl (by decide) ?_
    refine r_val (v := .int _ _) (v_sub (.inl rfl) (.inl rfl) (fun _ => by omega)) rfl rfl (by decide) ?_
    refine r_val (v := .int _ _) (v_mul (.inl rfl) (.inl rfl) (fun _ => by omega)) rfl rfl (by decide) ?_
    refine r_val (v := .int _ _) (v_quo (.inl rfl) (.inl rfl) (fun _ => by omega)) rfl rfl (by decide) ?_
    refine r_new (v := .agg [.int _ _, .osl _ _ _ _]) (q_call (vs := [.int _ _]) (args := [.int .i64 _]) hb59 ⟨.inl rfl, trivial⟩ rfl (fun hA => l4New_c _) (by simp [noSh, noShL, osls_noSh]) (by simp [noRef, noRefL, osls_noRef])) rfl rfl (by decide) ?_
    refine r_new (v := .op [.int _ _, .nils]) (q_alloc zc24) rfl rfl (by decide) ?_
    refine r_step rfl (o_store_own (v := .agg [.int _ _, .osl _ _ _ _]) (y' := .op [.int _ _, .osl _ _ _ _]) rfl rfl ta24 (.inl rfl) (by decide) rfl (by decide) rfl (by simp [cellsOf, noRefL, noRef, osls_noRef]) rfl rfl rfl rfl rfl (Nat.le_of_ble_eq_true rfl) rfl rfl) ?_
    refine r_nil ?_
    refine a_seq ?_
    refine a_region ?_
    refine r_new (v := .osl _ _ _ _) (q_sliceLit (n := 0) (parts := []) lt22 rfl rfl rfl rfl) rfl rfl (by decide) ?_
    refine r_val (v := .rsl _ _ _ _ _) (v_assign (.inl rfl) (noOwn_flat rfl)) rfl rfl (by decide) ?_
    refine r_pre (ent_reloc_sl (t := 5) rfl rfl) ?_
    refine r_nil ?_
    refine a_seq ?_
    refine a_seq ?_
    refine a_region ?_
    refine r_val (v := .int _ _) (v_assign (.inl rfl) (noOwn_flat rfl)) rfl rfl (by decide) ?_
    refine r_nil ?_
    refine a_block ?_
    refine a_loop (X := Nat) (fun i => look [(0, .int .i64 ((m : Nat) : Int)), (2, .op [.int .i64 0, .nils]), (4, .op [.int .i64 (((m : Nat) : Int) * (((m : Nat) : Int) - 1) / 2), .osl 1 (osls (accS (mRs m i))) (accS (mRs m i)).length none]), (5, .osl 1 (sls (mRs m i)) (mRs m i).length none), (6, .int .i64 ((i + 1 : Nat) : Int))]) (fun i => i ≤ m) (fun i => m - i) 0 (ent_look ⟨Weak.of_eq rfl, Weak.of_eq rfl, Weak.of_eq rfl, Weak.osl rfl rfl, Weak.of_eq rfl, trivial⟩) (Nat.zero_le _) (fun i hG => ?_)
    refine a_seq ?_
    refine a_seq ?_
    refine a_region ?_
    refine r_val (v := .int _ _) (v_move (.inl rfl) (noOwn_flat rfl)) rfl rfl (by decide) ?_
    refine r_val (v := .int _ _) (v_move (.inl rfl) (noOwn_flat rfl)) rfl rfl (by decide) ?_
    refine r_val (v := .bool _) (v_leq (.inl rfl) (.inl rfl)) rfl rfl (by decide) ?_
    refine r_nil ?_
    refine a_cond rfl (fun ht25 => ?_) (fun ht25 => ?_)
    ·
      skip
      refine a_skip ?_
      refine a_seq ?_
      refine a_block ?_
      refine a_seq ?_
      have hi : i < m := (by simp at ht25; omega)
      refine a_region ?_
      refine r_new (v := .sl (icells []) 0) ((q_sliceLitZ (cs := (icells [])) (n := 0) (parts := []) lt39 rfl rfl rfl rfl).cast (by first | rfl | rw [shL_id _ (ic_pure _).1 (ic_pure _).2])) rfl rfl (by decide) ?_
      refine r_val (v := .sl _ _) (v_assign (.inl rfl) (noOwn_flat rfl)) rfl rfl (by decide) ?_
      refine r_nil ?_
      refine a_seq ?_
      refine a_seq ?_
      refine a_region ?_
      refine r_val (v := .int _ _) (v_assign (.inl rfl) (noOwn_flat rfl)) rfl rfl (by decide) ?_
      refine r_nil ?_
      refine a_block ?_
      refine a_loop (X := Nat) (fun k => look [(0, .int .i64 ((m : Nat) : Int)), (2, .op [.int .i64 0, .nils]), (4, .op [.int .i64 (((m : Nat) : Int) * (((m : Nat) : Int) - 1) / 2), .osl 1 (osls (accS (mRs m i))) (accS (mRs m i)).length none]), (5, .osl 1 (sls (mRs m i)) (mRs m i).length none), (6, .int .i64 ((i + 1 : Nat) : Int)), (7, .sl (icells (mP m (i + 1) k)) (mP m (i + 1) k).length), (8, .int .i64 ((k + 1 : Nat) : Int))]) (fun k => k ≤ m) (fun k => m - k) 0 (ent_look ⟨Weak.of_eq rfl, Weak.of_eq rfl, Weak.of_eq rfl, Weak.of_eq rfl, Weak.of_eq rfl, Weak.of_eq rfl, Weak.of_eq rfl, trivial⟩) (Nat.zero_le _) (fun k hG => ?_)
      refine a_seq ?_
      refine a_seq ?_
      refine a_region ?_
      refine r_val (v := .int _ _) (v_move (.inl rfl) (noOwn_flat rfl)) rfl rfl (by decide) ?_
      refine r_val (v := .int _ _) (v_move (.inl rfl) (noOwn_flat rfl)) rfl rfl (by decide) ?_
      refine r_val (v := .bool _) (v_leq (.inl rfl) (.inl rfl)) rfl rfl (by decide) ?_
      refine r_nil ?_
      refine a_cond rfl (fun ht31 => ?_) (fun ht31 => ?_)
      ·
        skip
        refine a_skip ?_
        refine a_seq ?_
        refine a_block ?_
        refine a_seq ?_
        have hk : k < m := (by simp at ht31; omega)
        have hpl := mP_len m (i + 1) k
        refine a_region ?_
        refine r_val (v := .int _ _) (v_move (.inl rfl) (noOwn_flat rfl)) rfl rfl (by decide) ?_
        refine r_val (v := .int _ _) (v_move (.inl rfl) (noOwn_flat rfl)) rfl rfl (by decide) ?_
        refine r_val (v := .bool _) (v_neq (.inl rfl) (.inl rfl)) rfl rfl (by decide) ?_
        refine r_nil ?_
        refine a_cond rfl (fun ht36 => ?_) (fun ht36 => ?_)
        ·
          skip
          refine a_region ?_
          refine r_val (v := .sl _ _) (v_move (.inl rfl) (noOwn_flat rfl)) rfl rfl (by decide) ?_
          refine r_val (v := .int _ _) (v_move (.inl rfl) (noOwn_flat rfl)) rfl rfl (by decide) ?_
          refine r_val (v := .int _ _) (v_move (.inl rfl) (noOwn_flat rfl)) rfl rfl (by decide) ?_
          refine r_val (v := .int _ _) (v_move (.inl rfl) (noOwn_flat rfl)) rfl rfl (by decide) ?_
          refine r_new (v := .int _ _) (q_call (vs := [.int _ _, .int _ _, .int _ _]) (args := [.int .i64 _, .int .i64 _, .int .i64 _]) hb69 ⟨.inl rfl, .inl rfl, .inl rfl, trivial⟩ rfl (fun hA => l4Pair_c m (i + 1) (k + 1) (by omega) (by omega) (by omega) (by omega) (by omega)) rfl rfl) rfl rfl (by decide) ?_
          refine r_new (v := .sl _ _) (QSem.cast (q_callZ (vs := [.sl _ _, .int _ _]) (args := [.sl _ _, .int .i64 _]) hb76 ⟨.inl rfl, .inl rfl, trivial⟩ rfl (fun hA => l1Put_c (mP m (i + 1) k) _ (by omega) (fun j hj => by have h9 := ((mP_new m (by omega) (i + 1) (by omega) k (by omega)).resolve_left (by omega)).resolve_left (by omega); exact (h9.resolve_left (by omega)).resolve_left (by simp at ht36; omega) j hj)) (ic_noSh _) (ic_noRef _)) (sl_shZ (ic_pure _))) rfl rfl (by decide) ?_
          refine r_val (v := .sl _ _) (v_assign (.inl rfl) (noOwn_flat rfl)) rfl rfl (by decide) ?_
          refine r_nil ?_
          refine a_pre (ent_look (L := [(0, .int _ _), (2, .op [.int _ _, .nils]), (4, .op [.int _ _, .osl _ _ _ _]), (5, .osl _ _ _ _), (6, .int _ _), (7, .sl _ _), (8, .int _ _)]) ⟨Weak.rfl, Weak.rfl, Weak.rfl, Weak.rfl, Weak.rfl, Weak.rfl, Weak.rfl, trivial⟩) ?_
          refine a_region ?_
          refine r_val (v := .int _ _) (v_move (.inl rfl) (noOwn_flat rfl)) rfl rfl (by decide) ?_
          refine r_val (v := .int _ _) (v_add (.inl rfl) (.inl rfl) (fun _ => by omega)) rfl rfl (by decide) ?_
          refine r_val (v := .int _ _) (v_assign (.inl rfl) (noOwn_flat rfl)) rfl rfl (by decide) ?_
          refine r_nil ?_
          refine ⟨k + 1, ent_look ⟨Weak.of_eq rfl, Weak.of_eq rfl, Weak.of_eq rfl, Weak.of_eq rfl, Weak.of_eq rfl, Weak.of_eq (sl_eq2 (by rw [mP_ne (by simp at ht36; omega)]) (by rw [mP_ne (by simp at ht36; omega)]; simp)), Weak.of_eq (int_eq (by omega)), trivial⟩, (by omega), by omega⟩
        ·
          skip
          refine a_skip ?_
          refine a_region ?_
          refine r_val (v := .int _ _) (v_move (.inl rfl) (noOwn_flat rfl)) rfl rfl (by decide) ?_
          refine r_val (v := .int _ _) (v_add (.inl rfl) (.inl rfl) (fun _ => by omega)) rfl rfl (by decide) ?_
          refine r_val (v := .int _ _) (v_assign (.inl rfl) (noOwn_flat rfl)) rfl rfl (by decide) ?_
          refine r_nil ?_
          refine ⟨k + 1, ent_look ⟨Weak.of_eq rfl, Weak.of_eq rfl, Weak.of_eq rfl, Weak.of_eq rfl, Weak.of_eq rfl, Weak.of_eq (sl_eq2 (by rw [mP_eq (by simp at ht36; omega)]) (by rw [mP_eq (by simp at ht36; omega)])), Weak.of_eq (int_eq (by omega)), trivial⟩, (by omega), by omega⟩
      ·
        skip
        refine a_exit ?_
        refine a_seq ?_
        have hkm : k = m := (by simp at ht31; omega)
        have hpl := mP_len m (i + 1) k
        have hml := mRs_len m i
        refine a_region ?_
        refine r_val (v := .rsl _ _ _ _ _) (v_move (.inl rfl) (noOwn_flat rfl)) rfl rfl (by decide) ?_
        refine r_val (v := .sl _ _) (v_move (.inl rfl) (noOwn_flat rfl)) rfl rfl (by decide) ?_
        refine r_new (v := .osl 1 (sls [(mP m (i + 1) k)]) 1 (some 1)) (q_sliceLit (n := 1) (parts := [(0, .tmp 44)]) lt22 rfl rfl rfl rfl) rfl rfl (by decide) ?_
        refine r_pre (ent_reloc_sl (t := 43) rfl rfl) ?_
        refine r_step rfl (o_append rfl ap22 rfl (by decide) (by decide) rfl (src_lit (.inl rfl) rfl rfl (sls_pureL _)) (sls_cell _) (by rw [sls_length]; omega) (by omega)) ?_
        refine r_val (v := .rsl _ _ _ _ _) (v_assign (.inl rfl) (noOwn_flat rfl)) rfl rfl (by decide) ?_
        refine r_pre (ent_reloc_sl (t := 5) rfl rfl) ?_
        refine r_nil ?_
        refine a_region ?_
        refine r_val (v := .agg [.int _ _, .rsl _ _ _ _ _]) (v_load_rpa (xs := [.int _ _, .osl _ _ _ _]) ta24 (.inl rfl) rfl rfl (fun _ => take_get rfl)) rfl rfl (by decide) ?_
        refine r_val (v := .sl _ _) (v_move (.inl rfl) (noOwn_flat rfl)) rfl rfl (by decide) ?_
        refine r_step rfl (o_callIO (q := (4, [1])) (vs := [.agg [.int _ _, .rsl _ _ _ _ _], .sl _ _]) (args := [.agg [.int .i64 _, .rsl (INH, []) _ _ _ _], .sl _ _]) (x0 := .osl _ _ _ _) (x1 := .undef) (res := .agg [.int _ _, .osl _ _ _ _]) rfl hb58 rfl (by decide) ⟨.inl rfl, .inl rfl, trivial⟩ rfl (l2_eq rfl rfl) (l4Add_c (((m : Nat) : Int) * (((m : Nat) : Int) - 1) / 2) (mRs m i) (mP m (i + 1) k) (by have := mP_len m (i + 1) k; omega) (SmI.of (by intro x hx; obtain ⟨j, hj, rfl⟩ := mem_gd hx; have h9 := mP_len m (i + 1) m; rw [hkm] at hj ⊢; have h8 := mP_gd m (by omega) (i + 1) (by omega) j (by omega); omega))) rfl (by simp [noSh, noShL, osls_noSh]) (by simp [noRef, noRefL, osls_noRef]) rfl rfl (Nat.le_of_ble_eq_true rfl) (by decide) rfl) ?_
        refine r_step rfl (o_store_own (v := .agg [.int _ _, .osl _ _ _ _]) (y' := .op [.int _ _, .osl _ _ _ _]) rfl rfl ta24 (.inl rfl) (by decide) rfl (by decide) rfl (by simp [cellsOf, noRefL, noRef, osls_noRef]) rfl rfl rfl rfl rfl (Nat.le_of_ble_eq_true rfl) rfl rfl) ?_
        refine r_nil ?_
        refine a_region ?_
        refine r_val (v := .int _ _) (v_move (.inl rfl) (noOwn_flat rfl)) rfl rfl (by decide) ?_
        refine r_val (v := .int _ _) (v_add (.inl rfl) (.inl rfl) (fun _ => by omega)) rfl rfl (by decide) ?_
        refine r_val (v := .int _ _) (v_assign (.inl rfl) (noOwn_flat rfl)) rfl rfl (by decide) ?_
        refine r_nil ?_
        refine ⟨i + 1, ent_look ⟨Weak.of_eq rfl, Weak.of_eq rfl, Weak.of_eq (by rw [mRs_succ, ← hkm] <;> rfl), Weak.osl (by rw [mRs_succ, sls_append, ← hkm] <;> rfl) (by rw [mRs_succ]; simp), Weak.of_eq (int_eq (by omega)), trivial⟩, (by omega), by omega⟩
    ·
      skip
      refine a_exit ?_
      refine a_seq ?_
      refine a_seq ?_
      have him : m = i := (by simp at ht25; omega)
      refine a_region ?_
      refine r_val (v := .int _ _) (v_assign (.inl rfl) (noOwn_flat rfl)) rfl rfl (by decide) ?_
      refine r_nil ?_
      refine a_block ?_
      refine a_loop (X := Nat) (fun v => look [(0, .int .i64 ((m : Nat) : Int)), (2, .op [.int .i64 0, .nils]), (4, .op [.int .i64 (((m : Nat) : Int) * (((m : Nat) : Int) - 1) / 2), .osl 1 (osls (accS (mRs m m ++ mC m v))) (accS (mRs m m ++ mC m v)).length none]), (5, .osl 1 (sls (mRs m m)) (mRs m m).length none), (9, .int .i64 ((v : Nat) : Int))]) (fun v => v ≤ m) (fun v => m - v) 0 (ent_look ⟨Weak.of_eq rfl, Weak.of_eq rfl, Weak.of_eq (by rw [show mC m 0 = [] from rfl, List.append_nil, him]; rfl), Weak.of_eq (by rw [him]; rfl), Weak.of_eq rfl, trivial⟩) (Nat.zero_le _) (fun v hG => ?_)
      refine a_seq ?_
      refine a_seq ?_
      refine a_region ?_
      refine r_val (v := .int _ _) (v_move (.inl rfl) (noOwn_flat rfl)) rfl rfl (by decide) ?_
      refine r_val (v := .int _ _) (v_move (.inl rfl) (noOwn_flat rfl)) rfl rfl (by decide) ?_
      refine r_val (v := .bool _) (v_lss (.inl rfl) (.inl rfl)) rfl rfl (by decide) ?_
      refine r_nil ?_
      refine a_cond rfl (fun ht52 => ?_) (fun ht52 => ?_)
      ·
        skip
        refine a_skip ?_
        refine a_seq ?_
        refine a_block ?_
        refine a_seq ?_
        have hv : v < m := (by simp at ht52; omega)
        have hgm : gl (mRs m m) v = (mP m (v + 1) m) := (by unfold gl mRs; rw [List.getElem?_map, List.getElem?_range hv]; rfl)
        have hrl0 := mP_len m (v + 1) m
        refine a_region ?_
        refine r_val (v := .int _ _) (v_assign (.inl rfl) (noOwn_flat rfl)) rfl rfl (by decide) ?_
        refine r_nil ?_
        refine a_block ?_
        refine a_loop (X := Nat) (fun a => look [(0, .int .i64 ((m : Nat) : Int)), (2, .op [.int .i64 0, .nils]), (4, .op [.int .i64 (((m : Nat) : Int) * (((m : Nat) : Int) - 1) / 2), .osl 1 (osls (accS ((mRs m m ++ mC m v) ++ mB (mP m (v + 1) m) a))) (accS ((mRs m m ++ mC m v) ++ mB (mP m (v + 1) m) a)).length none]), (5, .osl 1 (sls (mRs m m)) (mRs m m).length none), (9, .int .i64 ((v : Nat) : Int)), (10, .int .i64 ((a : Nat) : Int))]) (fun a => a ≤ (mP m (v + 1) m).length) (fun a => (mP m (v + 1) m).length - a) 0 (ent_look ⟨Weak.of_eq rfl, Weak.of_eq rfl, Weak.of_eq (by rw [show mB (mP m (v + 1) m) 0 = [] from rfl, List.append_nil]; rfl), Weak.of_eq rfl, Weak.of_eq rfl, Weak.of_eq rfl, trivial⟩) (Nat.zero_le _) (fun a hG => ?_)
        refine a_seq ?_
        refine a_seq ?_
        refine a_region ?_
        refine r_val (v := .int _ _) (v_move (.inl rfl) (noOwn_flat rfl)) rfl rfl (by decide) ?_
        refine r_val (v := .rsl _ _ _ _ _) (v_move (.inl rfl) (noOwn_flat rfl)) rfl rfl (by decide) ?_
        refine r_val (v := .int _ _) (v_move (.inl rfl) (noOwn_flat rfl)) rfl rfl (by decide) ?_
        refine r_val (v := .rp _ _) (v_indexAddr_rsl0 es22 (.inl rfl) (.inl rfl) (fun _ => by have := mRs_len m m; omega)) rfl rfl (by decide) ?_
        refine r_val (v := .sl (icells (mP m (v + 1) m)) (mP m (v + 1) m).length) (v_load_rp1 ta39 (.inl rfl) rfl (fun _ => by rw [Int.toNat_natCast, Nat.mul_one]; have h9 := sls_get (L := mRs m m) (i := v) (by rw [mRs_len]; omega); rw [hgm] at h9; exact h9) rfl) rfl rfl (by decide) ?_
        refine r_val (v := .int _ _) (v_len_sl sl39 (.inl rfl)) rfl rfl (by decide) ?_
        refine r_val (v := .bool _) (v_lss (.inl rfl) (.inl rfl)) rfl rfl (by decide) ?_
        refine r_nil ?_
        refine a_cond rfl (fun ht61 => ?_) (fun ht61 => ?_)
        ·
          skip
          refine a_skip ?_
          refine a_seq ?_
          refine a_block ?_
          refine a_seq ?_
          have ha : a < (mP m (v + 1) m).length := (by simp at ht61; omega)
          have hga := mP_gd m (by omega) (v + 1) (by omega) a (by have := mP_len m (v + 1) m; omega)
          refine a_region ?_
          refine r_val (v := .int _ _) (v_move (.inl rfl) (noOwn_flat rfl)) rfl rfl (by decide) ?_
          refine r_val (v := .int _ _) (v_add (.inl rfl) (.inl rfl) (fun _ => by omega)) rfl rfl (by decide) ?_
          refine r_val (v := .int _ _) (v_assign (.inl rfl) (noOwn_flat rfl)) rfl rfl (by decide) ?_
          refine r_nil ?_
          refine a_block ?_
          refine a_loop (X := Nat) (fun b => look [(0, .int .i64 ((m : Nat) : Int)), (2, .op [.int .i64 0, .nils]), (4, .op [.int .i64 (((m : Nat) : Int) * (((m : Nat) : Int) - 1) / 2), .osl 1 (osls (accS (((mRs m m ++ mC m v) ++ mB (mP m (v + 1) m) a) ++ mA (mP m (v + 1) m) a b))) (accS (((mRs m m ++ mC m v) ++ mB (mP m (v + 1) m) a) ++ mA (mP m (v + 1) m) a b)).length none]), (5, .osl 1 (sls (mRs m m)) (mRs m m).length none), (9, .int .i64 ((v : Nat) : Int)), (10, .int .i64 ((a : Nat) : Int)), (11, .int .i64 ((a + 1 + b : Nat) : Int))]) (fun b => a + 1 + b ≤ (mP m (v + 1) m).length) (fun b => (mP m (v + 1) m).length - b) 0 (ent_look ⟨Weak.of_eq rfl, Weak.of_eq rfl, Weak.of_eq (by rw [show mA (mP m (v + 1) m) a 0 = [] from rfl, List.append_nil]; rfl), Weak.of_eq rfl, Weak.of_eq rfl, Weak.of_eq rfl, Weak.of_eq rfl, trivial⟩) (by omega) (fun b hG => ?_)
          refine a_seq ?_
          refine a_seq ?_
          refine a_region ?_
          refine r_val (v := .int _ _) (v_move (.inl rfl) (noOwn_flat rfl)) rfl rfl (by decide) ?_
          refine r_val (v := .rsl _ _ _ _ _) (v_move (.inl rfl) (noOwn_flat rfl)) rfl rfl (by decide) ?_
          refine r_val (v := .int _ _) (v_move (.inl rfl) (noOwn_flat rfl)) rfl rfl (by decide) ?_
          refine r_val (v := .rp _ _) (v_indexAddr_rsl0 es22 (.inl rfl) (.inl rfl) (fun _ => by have := mRs_len m m; omega)) rfl rfl (by decide) ?_
          refine r_val (v := .sl (icells (mP m (v + 1) m)) (mP m (v + 1) m).length) (v_load_rp1 ta39 (.inl rfl) rfl (fun _ => by rw [Int.toNat_natCast, Nat.mul_one]; have h9 := sls_get (L := mRs m m) (i := v) (by rw [mRs_len]; omega); rw [hgm] at h9; exact h9) rfl) rfl rfl (by decide) ?_
          refine r_val (v := .int _ _) (v_len_sl sl39 (.inl rfl)) rfl rfl (by decide) ?_
          refine r_val (v := .bool _) (v_lss (.inl rfl) (.inl rfl)) rfl rfl (by decide) ?_
          refine r_nil ?_
          refine a_cond rfl (fun ht72 => ?_) (fun ht72 => ?_)
          ·
            skip
            refine a_skip ?_
            refine a_seq ?_
            refine a_block ?_
            have hb : a + 1 + b < (mP m (v + 1) m).length := (by simp at ht72; omega)
            have hgb := mP_gd m (by omega) (v + 1) (by omega) (a + 1 + b) (by have := mP_len m (v + 1) m; omega)
            have hl1 := mRs_len m m
            have hl2 := mC_len m v
            have hl3 := mB_len (mP m (v + 1) m) a
            have hl4 := mA_len (mP m (v + 1) m) a b
            have hrl := mP_len m (v + 1) m
            have hb1 : m * m * v ≤ 5 * 5 * 5 := Nat.mul_le_mul (Nat.mul_le_mul (by omega) (by omega)) (by omega)
            have hb2 : (mP m (v + 1) m).length * a ≤ 5 * 5 := Nat.mul_le_mul (by omega) (by omega)
            refine a_region_tail (n := 18) mixed (by kernel_rfl) ?_
            refine t_val (v := .agg [.int _ _, .rsl _ _ _ _ _]) (v_load_rpa (xs := [.int _ _, .osl _ _ _ _]) ta24 (.inl rfl) rfl rfl (fun _ => take_get rfl)) rfl rfl (by decide) (by kernel_rfl) ?_
            refine t_val (v := .rsl _ _ _ _ _) (v_move (.inl rfl) (noOwn_flat rfl)) rfl rfl (by decide) (by kernel_rfl) ?_
            refine t_val (v := .int _ _) (v_move (.inl rfl) (noOwn_flat rfl)) rfl rfl (by decide) (by kernel_rfl) ?_
            refine t_val (v := .rp _ _) (v_indexAddr_rsl0 es22 (.inl rfl) (.inl rfl) (fun _ => by have := mRs_len m m; omega)) rfl rfl (by decide) (by kernel_rfl) ?_
            refine t_val (v := .sl (icells (mP m (v + 1) m)) (mP m (v + 1) m).length) (v_load_rp1 ta39 (.inl rfl) rfl (fun _ => by rw [Int.toNat_natCast, Nat.mul_one]; have h9 := sls_get (L := mRs m m) (i := v) (by rw [mRs_len]; omega); rw [hgm] at h9; exact h9) rfl) rfl rfl (by decide) (by kernel_rfl) ?_
            refine t_val (v := .int _ _) (v_move (.inl rfl) (noOwn_flat rfl)) rfl rfl (by decide) (by kernel_rfl) ?_
            refine t_val (v := .pp _ _) (v_indexAddr_sl es39 (.inl rfl) (.inl rfl) (fun _ => ⟨by omega, by omega, icells_ne ha⟩)) rfl rfl (by decide) (by kernel_rfl) ?_
            refine t_val (v := .int .i64 (gd (mP m (v + 1) m) a)) (v_load_pp ta3 (.inl rfl) (fun _ => by rw [Int.toNat_natCast, Nat.mul_one]; exact icells_get (gd_get ha)) rfl) rfl rfl (by decide) (by kernel_rfl) ?_
            refine t_val (v := .int _ _) (v_neg (.inl rfl) (fun _ => by omega)) rfl rfl (by decide) (by kernel_rfl) ?_
            refine t_val (v := .rsl _ _ _ _ _) (v_move (.inl rfl) (noOwn_flat rfl)) rfl rfl (by decide) (by kernel_rfl) ?_
            refine t_val (v := .int _ _) (v_move (.inl rfl) (noOwn_flat rfl)) rfl rfl (by decide) (by kernel_rfl) ?_
            refine t_val (v := .rp _ _) (v_indexAddr_rsl0 es22 (.inl rfl) (.inl rfl) (fun _ => by have := mRs_len m m; omega)) rfl rfl (by decide) (by kernel_rfl) ?_
            refine t_val (v := .sl (icells (mP m (v + 1) m)) (mP m (v + 1) m).length) (v_load_rp1 ta39 (.inl rfl) rfl (fun _ => by rw [Int.toNat_natCast, Nat.mul_one]; have h9 := sls_get (L := mRs m m) (i := v) (by rw [mRs_len]; omega); rw [hgm] at h9; exact h9) rfl) rfl rfl (by decide) (by kernel_rfl) ?_
            refine t_val (v := .int _ _) (v_move (.inl rfl) (noOwn_flat rfl)) rfl rfl (by decide) (by kernel_rfl) ?_
            refine t_val (v := .pp _ _) (v_indexAddr_sl es39 (.inl rfl) (.inl rfl) (fun _ => ⟨by omega, by omega, icells_ne hb⟩)) rfl rfl (by decide) (by kernel_rfl) ?_
            refine t_val (v := .int .i64 (gd (mP m (v + 1) m) (a + 1 + b))) (v_load_pp ta3 (.inl rfl) (fun _ => by rw [Int.toNat_natCast, Nat.mul_one]; exact icells_get (gd_get hb)) rfl) rfl rfl (by decide) (by kernel_rfl) ?_
            refine t_val (v := .int _ _) (v_neg (.inl rfl) (fun _ => by omega)) rfl rfl (by decide) (by kernel_rfl) ?_
            refine t_new (v := .osl 1 (icells (mX (mP m (v + 1) m) a (a + 1 + b))) 2 (some 2)) (q_sliceLit (n := 2) (parts := [(0, .tmp 83), (1, .tmp 91)]) lt39 rfl rfl rfl rfl) rfl rfl (by decide) (by kernel_rfl) ?_
            refine t_nil ?_
            refine r_step rfl (o_callIO (q := (4, [1])) (vs := [.agg [.int _ _, .rsl _ _ _ _ _], .rsl _ _ _ _ _]) (args := [.agg [.int .i64 _, .rsl (INH, []) _ _ _ _], .sl _ _]) (x0 := .osl _ _ _ _) (x1 := .undef) (res := .agg [.int _ _, .osl _ _ _ _]) rfl hb58 rfl (by decide) ⟨.inl rfl, .inl rfl, trivial⟩ rfl (l2_eq rfl (sl_sh (ic_pure _))) (l4Add_c (((m : Nat) : Int) * (((m : Nat) : Int) - 1) / 2) (((mRs m m ++ mC m v) ++ mB (mP m (v + 1) m) a) ++ mA (mP m (v + 1) m) a b) (mX (mP m (v + 1) m) a (a + 1 + b)) (by simp [mX]) (SmI.of (by simp [mX]; omega))) rfl (by simp [noSh, noShL, osls_noSh]) (by simp [noRef, noRefL, osls_noRef]) rfl rfl (Nat.le_of_ble_eq_true rfl) (by decide) rfl) ?_
            refine r_step rfl (o_store_own (v := .agg [.int _ _, .osl _ _ _ _]) (y' := .op [.int _ _, .osl _ _ _ _]) rfl rfl ta24 (.inl rfl) (by decide) rfl (by decide) rfl (by simp [cellsOf, noRefL, noRef, osls_noRef]) rfl rfl rfl rfl rfl (Nat.le_of_ble_eq_true rfl) rfl rfl) ?_
            refine r_nil ?_
            refine a_pre (ent_look (L := [(0, .int _ _), (2, .op [.int _ _, .nils]), (4, .op [.int _ _, .osl _ _ _ _]), (5, .osl _ _ _ _), (9, .int _ _), (10, .int _ _), (11, .int _ _)]) ⟨Weak.rfl, Weak.rfl, Weak.rfl, Weak.rfl, Weak.rfl, Weak.rfl, Weak.rfl, trivial⟩) ?_
            refine a_region ?_
            refine r_val (v := .int _ _) (v_move (.inl rfl) (noOwn_flat rfl)) rfl rfl (by decide) ?_
            refine r_val (v := .int _ _) (v_add (.inl rfl) (.inl rfl) (fun _ => by omega)) rfl rfl (by decide) ?_
            refine r_val (v := .int _ _) (v_assign (.inl rfl) (noOwn_flat rfl)) rfl rfl (by decide) ?_
            refine r_nil ?_
            refine ⟨b + 1, ent_look ⟨Weak.of_eq rfl, Weak.of_eq rfl, Weak.of_eq (by rw [mA_succ, ← List.append_assoc]; rfl), Weak.of_eq rfl, Weak.of_eq rfl, Weak.of_eq rfl, Weak.of_eq (int_eq (by omega)), trivial⟩, (by omega), by omega⟩
          ·
            skip
            refine a_exit ?_
            have hbr : b = (mP m (v + 1) m).length - (a + 1) := (by simp at ht72; omega)
            refine a_region ?_
            refine r_val (v := .int _ _) (v_move (.inl rfl) (noOwn_flat rfl)) rfl rfl (by decide) ?_
            refine r_val (v := .int _ _) (v_add (.inl rfl) (.inl rfl) (fun _ => by omega)) rfl rfl (by decide) ?_
            refine r_val (v := .int _ _) (v_assign (.inl rfl) (noOwn_flat rfl)) rfl rfl (by decide) ?_
            refine r_nil ?_
            refine ⟨a + 1, ent_look ⟨Weak.of_eq rfl, Weak.of_eq rfl, Weak.of_eq (by rw [mB_succ hbr, ← List.append_assoc]; rfl), Weak.of_eq rfl, Weak.of_eq rfl, Weak.of_eq (int_eq (by omega)), trivial⟩, (by omega), by omega⟩
        ·
          skip
          refine a_exit ?_
          have har : a = (mP m (v + 1) m).length := (by simp at ht61; omega)
          refine a_region ?_
          refine r_val (v := .int _ _) (v_move (.inl rfl) (noOwn_flat rfl)) rfl rfl (by decide) ?_
          refine r_val (v := .int _ _) (v_add (.inl rfl) (.inl rfl) (fun _ => by omega)) rfl rfl (by decide) ?_
          refine r_val (v := .int _ _) (v_assign (.inl rfl) (noOwn_flat rfl)) rfl rfl (by decide) ?_
          refine r_nil ?_
          refine ⟨v + 1, ent_look ⟨Weak.of_eq rfl, Weak.of_eq rfl, Weak.of_eq (by rw [mC_succ har, ← List.append_assoc]; rfl), Weak.of_eq rfl, Weak.of_eq (int_eq (by omega)), trivial⟩, (by omega), by omega⟩
      ·
        skip
        refine a_exit ?_
        refine a_seq ?_
        have hvm : v = m := (by simp at ht52; omega)
        have hgd : goodB 144 (mF ((m : Nat) : Int).toNat) = true := (by rw [Int.toNat_natCast]; exact m_good m (by omega))
        have hcF : (mRs m m ++ mC m v) = (mF ((m : Nat) : Int).toNat) := (by rw [Int.toNat_natCast, mF_eq rfl hvm])
        have hrm := res_S (vars := (((m : Nat) : Int) * (((m : Nat) : Int) - 1) / 2)) (F := (mF ((m : Nat) : Int).toNat)) hin
        refine a_region ?_
        refine r_val (v := .agg [.int _ _, .rsl _ _ _ _ _]) (v_load_rpa (xs := [.int _ _, .osl _ _ _ _]) ta24 (.inl rfl) rfl rfl (fun _ => take_get rfl)) rfl rfl (by decide) ?_
        refine r_step rfl (o_callIO (q := (4, [1])) (vs := [.agg [.int _ _, .rsl _ _ _ _ _]]) (args := [.agg [.int .i64 _, .rsl (INH, []) _ _ _ _]]) (x0 := .osl _ _ _ _) (x1 := .undef) (res := .tup [.agg [.int _ _, .osl _ _ _ _], .bool _]) rfl hb60 rfl (by decide) ⟨.inl rfl, trivial⟩ rfl rfl (l4Give_c (((m : Nat) : Int) * (((m : Nat) : Int) - 1) / 2) (accS (mRs m m ++ mC m v)) (by rw [hcF]; exact goodB_okS (by omega) hgd)) rfl (by simp [noSh, noShL, osls_noSh]) (by simp [noRef, noRefL, osls_noRef]) rfl rfl (Nat.le_of_ble_eq_true rfl) (by decide) rfl) ?_
        refine r_val (v := .agg [.int _ _, .rsl _ _ _ _ _]) (v_extract rfl rfl) rfl rfl (by decide) ?_
        refine r_val (v := .bool _) (v_extract rfl rfl) rfl rfl (by decide) ?_
        refine r_pre (ent_reloc_at_sl (t := 96) (r := [1]) rfl (by decide) rfl rfl) ?_
        refine r_step rfl (o_store_own (v := .agg [.int _ _, .osl _ _ _ _]) (y' := .op [.int _ _, .osl _ _ _ _]) rfl rfl ta24 (.inl rfl) (by decide) rfl (by decide) rfl (by simp [cellsOf, noRefL, noRef, osls_noRef]) rfl rfl rfl rfl rfl (Nat.le_of_ble_eq_true rfl) rfl rfl) ?_
        refine r_val (v := .bool _) (v_assign (.inl rfl) (noOwn_flat rfl)) rfl rfl (by decide) ?_
        refine r_nil ?_
        refine a_ret ?_
        refine retL (rs := [.cell 2 24, .tmp 3]) [(2, _), (3, _)] ⟨Weak.rfl, Weak.rfl, trivial⟩ rfl Try.results42 (by decide) ⟨by decide, _, cell_agg rfl ta24, by decide, rfl⟩ (by decide) (by decide) (l2_eq (agg_eq (l2_eq (int_eq ?_) (osl_eq2 ?_ ?_))) (bool_eq ?_)) (by simp [refsL, refs])
        all_goals (rw [hcF])
        all_goals (first | rw [hrm.2] | rw [hrm.1])
end Go.Av
namespace Go.Av
open Go Go.Proofs Go.Sort
set_option maxRecDepth 10000
theorem hb42 : hasBody Try.prog 42 = true := by kernel_rfl
theorem hb43 : hasBody Try.prog 43 = true := by kernel_rfl

theorem lawMatching_c (n : Int) : ACall Try.prog 13 [.int .i64 n] [] (.bool true) [] := by
  have hr := cnfB_res (vars := (n * (n - 1) / 2)) (c := inR n 1 5) (L := accJ (mF n.toNat))
  have hrl := fun i => len_tot (L := resL (inR n 1 5 && cnfB (n * (n - 1) / 2) (accJ (mF n.toNat))) (accJ (mF n.toNat))) (i := i)
  refine ACall.intro Try.func13 rfl (N := 63) rfl (by decide) (by simp) ?_
  refine a_seq ?_
  refine a_region ?_
  refine r_val (v := .bool _) (v_assign (.inl rfl) (noOwn_flat rfl)) rfl rfl (by decide) ?_
  refine r_nil ?_
  refine a_seq ?_
  refine a_region ?_
  refine r_val (v := .int _ _) (v_move (.inl rfl) (noOwn_flat rfl)) rfl rfl (by decide) ?_
  refine r_new (v := .tup [.agg [.int _ _, .osl _ _ _ _], .bool _]) (q_call (vs := [.int _ _]) (args := [.int .i64 _]) hb42 ⟨.inl rfl, trivial⟩ rfl (fun hA => sMat_c _) (by simp [noSh, noShL, osls_noSh]) (by simp [noRef, noRefL, osls_noRef])) rfl rfl (by decide) ?_
  refine r_val (v := .tup [.agg [.int _ _, .rsl _ _ _ _ _], .bool _]) (v_mv rfl) rfl rfl (by decide) ?_
  refine r_val (v := .agg [.int _ _, .rsl _ _ _ _ _]) (v_extract rfl rfl) rfl rfl (by decide) ?_
  refine r_val (v := .bool _) (v_extract rfl rfl) rfl rfl (by decide) ?_
  refine r_new (v := .op [.int _ _, .nils]) (q_alloc zc24) rfl rfl (by decide) ?_
  refine r_pre (ent_reloc_at_sl (t := 14) (r := [1]) rfl (by decide) rfl rfl) ?_
  refine r_step rfl (o_store_own (v := .agg [.int _ _, .osl _ _ _ _]) (y' := .op [.int _ _, .osl _ _ _ _]) rfl rfl ta24 (.inl rfl) (by decide) rfl (by decide) rfl (by simp [cellsOf, noRefL, noRef, osls_noRef]) rfl rfl rfl rfl rfl (Nat.le_of_ble_eq_true rfl) rfl rfl) ?_
  refine r_val (v := .bool _) (v_assign (.inl rfl) (noOwn_flat rfl)) rfl rfl (by decide) ?_
  refine r_nil ?_
  refine a_seq ?_
  refine a_region ?_
  refine r_val (v := .int _ _) (v_move (.inl rfl) (noOwn_flat rfl)) rfl rfl (by decide) ?_
  refine r_new (v := .tup [.agg [.int _ _, .osl _ _ _ _], .bool _]) (q_call (vs := [.int _ _]) (args := [.int .i64 _]) hb43 ⟨.inl rfl, trivial⟩ rfl (fun hA => iMat_c _) (by simp [noSh, noShL, osls_noSh]) (by simp [noRef, noRefL, osls_noRef])) rfl rfl (by decide) ?_
  refine r_val (v := .tup [.agg [.int _ _, .rsl _ _ _ _ _], .bool _]) (v_mv rfl) rfl rfl (by decide) ?_
  refine r_val (v := .agg [.int _ _, .rsl _ _ _ _ _]) (v_extract rfl rfl) rfl rfl (by decide) ?_
  refine r_val (v := .bool _) (v_extract rfl rfl) rfl rfl (by decide) ?_
  refine r_new (v := .op [.int _ _, .nils]) (q_alloc zc24) rfl rfl (by decide) ?_
  refine r_pre (ent_reloc_at_sl (t := 19) (r := [1]) rfl (by decide) rfl rfl) ?_
  refine r_step rfl (o_store_own (v := .agg [.int _ _, .osl _ _ _ _]) (y' := .op [.int _ _, .osl _ _ _ _]) rfl rfl ta24 (.inl rfl) (by decide) rfl (by decide) rfl (by simp [cellsOf, noRefL, noRef, osls_noRef]) rfl rfl rfl rfl rfl (Nat.le_of_ble_eq_true rfl) rfl rfl) ?_
  refine r_val (v := .bool _) (v_assign (.inl rfl) (noOwn_flat rfl)) rfl rfl (by decide) ?_
  refine r_nil ?_
  refine a_seq ?_
  refine a_seq ?_
  refine a_region ?_
  refine r_val (v := .agg [.int _ _, .rsl _ _ _ _ _]) (v_load_rpa (xs := [.int _ _, .osl _ _ _ _]) ta24 (.inl rfl) rfl rfl (fun _ => take_get rfl)) rfl rfl (by decide) ?_
  refine r_val (v := .agg [.int _ _, .rsl _ _ _ _ _]) (v_load_rpa (xs := [.int _ _, .osl _ _ _ _]) ta24 (.inl rfl) rfl rfl (fun _ => take_get rfl)) rfl rfl (by decide) ?_
  refine r_new (v := .bool _) (q_call (vs := [.agg [.int _ _, .rsl _ _ _ _ _], .agg [.int _ _, .rsl _ _ _ _ _]]) (args := [.agg [.int .i64 _, .sl _ _], .agg [.int .i64 _, .sl _ _]]) hb17 ⟨.inl rfl, .inl rfl, trivial⟩ (l2_eq (agg_eq (l2_eq rfl sl_osls)) (agg_eq (l2_eq rfl sl_osls))) (fun hA => eqCnf_c _ _ _ _ (by omega) (by omega) (fun i => by have := hrl i; omega)) rfl rfl) rfl rfl (by decide) ?_
  refine r_val (v := .bool _) (v_not (.inl rfl)) rfl rfl (by decide) ?_
  refine r_val (v := .bool _) (v_move (.inl rfl) (noOwn_flat rfl)) rfl rfl (by decide) ?_
  refine r_gval (v := .bool _) (v_move (.inl rfl) (noOwn_flat rfl)) rfl rfl rfl (by decide) (.inl ⟨_, rfl, rfl⟩) rfl (by decide) ?_
  refine r_gval (v := .bool _) (v_move (.inl rfl) (noOwn_flat rfl)) rfl rfl rfl (by decide) (.inl ⟨_, rfl, rfl⟩) rfl (by decide) ?_
  refine r_gval (v := .bool _) (v_bne un4 (.inr ⟨_, rfl, fun h => h⟩) (.inr ⟨_, rfl, fun h => h⟩)) rfl rfl rfl (by decide) (.inl ⟨_, rfl, rfl⟩) rfl (by decide) ?_
  refine r_val (v := .bool _) (v_pick (.inl rfl) (.inl rfl) (.inr ⟨_, rfl, fun h h2 => by simp_all⟩)) rfl rfl (by decide) ?_
  refine r_nil ?_
  refine a_cond rfl (fun ht29 => ?_) (fun ht29 => ?_)
  ·
    skip
    refine a_seq ?_
    refine a_region ?_
    refine r_val (v := .bool _) (v_assign (.inl rfl) (noOwn_flat rfl)) rfl rfl (by decide) ?_
    refine r_nil ?_
    refine a_ret ?_
    refine ret1 Try.results13 (by decide) (by decide) (Weak.of_eq (bool_eq ?_)) rfl Leaves.nil
    first | rfl | (exfalso; simp at ht29; done) | (exfalso; simp at ht29; omega)
  ·
    skip
    refine a_skip ?_
    refine a_seq ?_
    refine a_region ?_
    refine r_val (v := .int _ _) (v_assign (.inl rfl) (noOwn_flat rfl)) rfl rfl (by decide) ?_
    refine r_nil ?_
    refine a_seq ?_
    refine a_region ?_
    refine r_val (v := .agg [.int _ _, .rsl _ _ _ _ _]) (v_load_rpa (xs := [.int _ _, .osl _ _ _ _]) ta24 (.inl rfl) rfl rfl (fun _ => take_get rfl)) rfl rfl (by decide) ?_
    refine r_val (v := .int _ _) (v_move (.inl rfl) (noOwn_flat rfl)) rfl rfl (by decide) ?_
    refine r_step rfl (o_callIO (q := (5, [1])) (vs := [.agg [.int _ _, .rsl _ _ _ _ _], .int _ _]) (args := [.agg [.int .i64 _, .rsl (INH, []) _ _ _ _], .int .i64 _]) (x0 := .osl _ _ _ _) (x1 := .osl _ _ _ _) (res := .int _ _) rfl hb18 rfl (by decide) ⟨.inl rfl, .inl rfl, trivial⟩ rfl rfl (markCnf_c _ _ _ (by omega) (by omega) (by omega)) rfl rfl rfl (osls_noSh _) (osls_noRef _) (Nat.le_of_ble_eq_true rfl) (by decide) rfl) ?_
    refine r_val (v := .int _ _) (v_assign (.inl rfl) (noOwn_flat rfl)) rfl rfl (by decide) ?_
    refine r_nil ?_
    refine a_seq ?_
    refine a_pre (ent_look (L := [(0, .int _ _), (2, .bool _), (3, .op [.int _ _, .osl _ _ _ _]), (4, .bool _), (5, .op [.int _ _, .osl _ _ _ _]), (7, .int _ _)]) ⟨Weak.rfl, Weak.rfl, Weak.rfl, Weak.rfl, Weak.rfl, Weak.rfl, trivial⟩) ?_
    refine a_region ?_
    refine r_val (v := .int _ _) (v_assign (.inl rfl) (noOwn_flat rfl)) rfl rfl (by decide) ?_
    refine r_nil ?_
    refine a_seq ?_
    refine a_region ?_
    refine r_val (v := .agg [.int _ _, .rsl _ _ _ _ _]) (v_load_rpa (xs := [.int _ _, .osl _ _ _ _]) ta24 (.inl rfl) rfl rfl (fun _ => take_get rfl)) rfl rfl (by decide) ?_
    refine r_val (v := .int _ _) (v_move (.inl rfl) (noOwn_flat rfl)) rfl rfl (by decide) ?_
    refine r_new (v := .int _ _) (q_call (vs := [.agg [.int _ _, .rsl _ _ _ _ _], .int _ _]) (args := [.agg [.int .i64 _, .sl _ _], .int .i64 _]) hb19 ⟨.inl rfl, .inl rfl, trivial⟩ (l2_eq (agg_eq (l2_eq rfl sl_osls)) rfl) (fun hA => heldCnf_c _ _ _ (by omega) (by omega) (by omega)) rfl rfl) rfl rfl (by decide) ?_
    refine r_val (v := .int _ _) (v_assign (.inl rfl) (noOwn_flat rfl)) rfl rfl (by decide) ?_
    refine r_nil ?_
    refine a_seq ?_
    refine a_seq ?_
    refine a_region ?_
    refine r_val (v := .int _ _) (v_move (.inl rfl) (noOwn_flat rfl)) rfl rfl (by decide) ?_
    refine r_val (v := .bool _) (v_lss (.inl rfl) (.inl rfl)) rfl rfl (by decide) ?_
    refine r_nil ?_
    refine a_cond rfl (fun ht37 => ?_) (fun ht37 => ?_)
    ·
      skip
      refine a_seq ?_
      refine a_region ?_
      refine r_val (v := .bool _) (v_assign (.inl rfl) (noOwn_flat rfl)) rfl rfl (by decide) ?_
      refine r_nil ?_
      refine a_ret ?_
      refine ret1 Try.results13 (by decide) (by decide) (Weak.of_eq (bool_eq ?_)) rfl Leaves.nil
      first | rfl | (exfalso; simp at ht37; done) | (exfalso; simp at ht37; omega)
    ·
      skip
      refine a_skip ?_
      refine a_seq ?_
      refine a_seq ?_
      refine a_region ?_
      refine r_val (v := .int _ _) (v_move (.inl rfl) (noOwn_flat rfl)) rfl rfl (by decide) ?_
      refine r_val (v := .int _ _) (v_move (.inl rfl) (noOwn_flat rfl)) rfl rfl (by decide) ?_
      refine r_val (v := .bool _) (v_neq (.inl rfl) (.inl rfl)) rfl rfl (by decide) ?_
      refine r_nil ?_
      refine a_cond rfl (fun ht40 => ?_) (fun ht40 => ?_)
      ·
        skip
        refine a_seq ?_
        refine a_region ?_
        refine r_val (v := .bool _) (v_assign (.inl rfl) (noOwn_flat rfl)) rfl rfl (by decide) ?_
        refine r_nil ?_
        refine a_ret ?_
        refine ret1 Try.results13 (by decide) (by decide) (Weak.of_eq (bool_eq ?_)) rfl Leaves.nil
        first | rfl | (exfalso; simp at ht40; done) | (exfalso; simp at ht40; omega)
      ·
        skip
        refine a_skip ?_
        refine a_seq ?_
        refine a_region ?_
        refine r_val (v := .int _ _) (v_move (.inl rfl) (noOwn_flat rfl)) rfl rfl (by decide) ?_
        refine r_new (v := .tup [.agg [.int _ _, .osl _ _ _ _], .bool _]) (q_call (vs := [.int _ _]) (args := [.int .i64 _]) hb43 ⟨.inl rfl, trivial⟩ rfl (fun hA => iMat_c _) (by simp [noSh, noShL, osls_noSh]) (by simp [noRef, noRefL, osls_noRef])) rfl rfl (by decide) ?_
        refine r_val (v := .tup [.agg [.int _ _, .rsl _ _ _ _ _], .bool _]) (v_mv rfl) rfl rfl (by decide) ?_
        refine r_val (v := .agg [.int _ _, .rsl _ _ _ _ _]) (v_extract rfl rfl) rfl rfl (by decide) ?_
        refine r_val (v := .bool _) (v_extract rfl rfl) rfl rfl (by decide) ?_
        refine r_new (v := .op [.int _ _, .nils]) (q_alloc zc24) rfl rfl (by decide) ?_
        refine r_pre (ent_reloc_at_sl (t := 44) (r := [1]) rfl (by decide) rfl rfl) ?_
        refine r_step rfl (o_store_own (v := .agg [.int _ _, .osl _ _ _ _]) (y' := .op [.int _ _, .osl _ _ _ _]) rfl rfl ta24 (.inl rfl) (by decide) rfl (by decide) rfl (by simp [cellsOf, noRefL, noRef, osls_noRef]) rfl rfl rfl rfl rfl (Nat.le_of_ble_eq_true rfl) rfl rfl) ?_
        refine r_val (v := .bool _) (v_assign (.inl rfl) (noOwn_flat rfl)) rfl rfl (by decide) ?_
        refine r_nil ?_
        refine a_seq ?_
        refine a_seq ?_
        refine a_region ?_
        refine r_val (v := .agg [.int _ _, .rsl _ _ _ _ _]) (v_load_rpa (xs := [.int _ _, .osl _ _ _ _]) ta24 (.inl rfl) rfl rfl (fun _ => take_get rfl)) rfl rfl (by decide) ?_
        refine r_val (v := .agg [.int _ _, .rsl _ _ _ _ _]) (v_load_rpa (xs := [.int _ _, .osl _ _ _ _]) ta24 (.inl rfl) rfl rfl (fun _ => take_get rfl)) rfl rfl (by decide) ?_
        refine r_new (v := .bool _) (q_call (vs := [.agg [.int _ _, .rsl _ _ _ _ _], .agg [.int _ _, .rsl _ _ _ _ _]]) (args := [.agg [.int .i64 _, .sl _ _], .agg [.int .i64 _, .sl _ _]]) hb17 ⟨.inl rfl, .inl rfl, trivial⟩ (l2_eq (agg_eq (l2_eq rfl sl_osls)) (agg_eq (l2_eq rfl sl_osls))) (fun hA => eqCnf_c _ _ _ _ (by omega) (by omega) (fun i => by have := hrl i; omega)) rfl rfl) rfl rfl (by decide) ?_
        refine r_val (v := .bool _) (v_not (.inl rfl)) rfl rfl (by decide) ?_
        refine r_val (v := .bool _) (v_move (.inl rfl) (noOwn_flat rfl)) rfl rfl (by decide) ?_
        refine r_gval (v := .bool _) (v_move (.inl rfl) (noOwn_flat rfl)) rfl rfl rfl (by decide) (.inl ⟨_, rfl, rfl⟩) rfl (by decide) ?_
        refine r_gval (v := .bool _) (v_move (.inl rfl) (noOwn_flat rfl)) rfl rfl rfl (by decide) (.inl ⟨_, rfl, rfl⟩) rfl (by decide) ?_
        refine r_gval (v := .bool _) (v_bne un4 (.inr ⟨_, rfl, fun h => h⟩) (.inr ⟨_, rfl, fun h => h⟩)) rfl rfl rfl (by decide) (.inl ⟨_, rfl, rfl⟩) rfl (by decide) ?_
        refine r_val (v := .bool _) (v_pick (.inl rfl) (.inl rfl) (.inr ⟨_, rfl, fun h h2 => by simp_all⟩)) rfl rfl (by decide) ?_
        refine r_nil ?_
        refine a_cond rfl (fun ht54 => ?_) (fun ht54 => ?_)
        ·
          skip
          refine a_seq ?_
          refine a_pre (ent_look (L := [(2, .bool _), (5, .op [.int _ _, .osl _ _ _ _]), (7, .int _ _), (8, .int _ _)]) ⟨Weak.rfl, Weak.rfl, Weak.rfl, Weak.rfl, trivial⟩) ?_
          refine a_region ?_
          refine r_val (v := .bool _) (v_assign (.inl rfl) (noOwn_flat rfl)) rfl rfl (by decide) ?_
          refine r_nil ?_
          refine a_ret ?_
          refine ret1 Try.results13 (by decide) (by decide) (Weak.of_eq (bool_eq ?_)) rfl Leaves.nil
          first | rfl | (exfalso; simp at ht54; done) | (exfalso; simp at ht54; omega)
        ·
          skip
          refine a_skip ?_
          refine a_seq ?_
          refine a_pre (ent_look (L := [(2, .bool _), (5, .op [.int _ _, .osl _ _ _ _]), (7, .int _ _), (8, .int _ _)]) ⟨Weak.rfl, Weak.rfl, Weak.rfl, Weak.rfl, trivial⟩) ?_
          refine a_region ?_
          refine r_val (v := .int _ _) (v_assign (.inl rfl) (noOwn_flat rfl)) rfl rfl (by decide) ?_
          refine r_nil ?_
          refine a_seq ?_
          refine a_region ?_
          refine r_val (v := .agg [.int _ _, .rsl _ _ _ _ _]) (v_load_rpa (xs := [.int _ _, .osl _ _ _ _]) ta24 (.inl rfl) rfl rfl (fun _ => take_get rfl)) rfl rfl (by decide) ?_
          refine r_val (v := .int _ _) (v_move (.inl rfl) (noOwn_flat rfl)) rfl rfl (by decide) ?_
          refine r_new (v := .int _ _) (q_call (vs := [.agg [.int _ _, .rsl _ _ _ _ _], .int _ _]) (args := [.agg [.int .i64 _, .sl _ _], .int .i64 _]) hb19 ⟨.inl rfl, .inl rfl, trivial⟩ (l2_eq (agg_eq (l2_eq rfl sl_osls)) rfl) (fun hA => heldCnf_c _ _ _ (by omega) (by omega) (by omega)) rfl rfl) rfl rfl (by decide) ?_
          refine r_val (v := .int _ _) (v_assign (.inl rfl) (noOwn_flat rfl)) rfl rfl (by decide) ?_
          refine r_nil ?_
          refine a_seq ?_
          refine a_seq ?_
          refine a_region ?_
          refine r_val (v := .int _ _) (v_move (.inl rfl) (noOwn_flat rfl)) rfl rfl (by decide) ?_
          refine r_val (v := .bool _) (v_lss (.inl rfl) (.inl rfl)) rfl rfl (by decide) ?_
          refine r_nil ?_
          refine a_cond rfl (fun ht59 => ?_) (fun ht59 => ?_)
          ·
            skip
            refine a_seq ?_
            refine a_region ?_
            refine r_val (v := .bool _) (v_assign (.inl rfl) (noOwn_flat rfl)) rfl rfl (by decide) ?_
            refine r_nil ?_
            refine a_ret ?_
            refine ret1 Try.results13 (by decide) (by decide) (Weak.of_eq (bool_eq ?_)) rfl Leaves.nil
            first | rfl | (exfalso; simp at ht59; done) | (exfalso; simp at ht59; omega)
          ·
            skip
            refine a_skip ?_
            refine a_seq ?_
            refine a_seq ?_
            refine a_region ?_
            refine r_val (v := .int _ _) (v_move (.inl rfl) (noOwn_flat rfl)) rfl rfl (by decide) ?_
            refine r_val (v := .int _ _) (v_move (.inl rfl) (noOwn_flat rfl)) rfl rfl (by decide) ?_
            refine r_val (v := .bool _) (v_neq (.inl rfl) (.inl rfl)) rfl rfl (by decide) ?_
            refine r_nil ?_
            refine a_cond rfl (fun ht62 => ?_) (fun ht62 => ?_)
            ·
              skip
              refine a_seq ?_
              refine a_region ?_
              refine r_val (v := .bool _) (v_assign (.inl rfl) (noOwn_flat rfl)) rfl rfl (by decide) ?_
              refine r_nil ?_
              refine a_ret ?_
              refine ret1 Try.results13 (by decide) (by decide) (Weak.of_eq (bool_eq ?_)) rfl Leaves.nil
              first | rfl | (exfalso; simp at ht62; done) | (exfalso; simp at ht62; omega)
            ·
              skip
              refine a_skip ?_
              refine a_seq ?_
              refine a_region ?_
              refine r_val (v := .bool _) (v_assign (.inl rfl) (noOwn_flat rfl)) rfl rfl (by decide) ?_
              refine r_nil ?_
              refine a_ret ?_
              refine ret1 Try.results13 (by decide) (by decide) (Weak.of_eq (bool_eq ?_)) rfl Leaves.nil
              first | rfl | (exfalso; simp at ht62; done) | (exfalso; simp at ht62; omega)
end Go.Av
namespace Go.Av
open Go Go.Proofs Go.Proofs.Ytikaemjgmahnbaa
set_option maxRecDepth 100000
theorem arg3 : OpensV Try.prog 3 (fun x : Int => AV.int .i64 x) (fun x => (Lit.int .i64 x).wf = true) :=
  opensV_one (ok_scalar (by rw [Try.underlying3])) (opens_int Try.underlying3) (fun _ => rfl)
theorem rowOwn : ownKnob Try.prog.godebug = none := by kernel_rfl
theorem rowLaid : laidOutB Try.prog = true := by kernel_rfl
end Go.Av
