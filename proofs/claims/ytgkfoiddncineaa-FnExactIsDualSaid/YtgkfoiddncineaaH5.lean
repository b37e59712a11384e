/- Lemmas, part 5. -/
import Derived.Test.YtgkfoiddncineaaH4
import Derived.Sort.LotD5
set_option linter.unusedVariables false
set_option linter.unusedSimpArgs false
namespace Go.Av
open Go Go.Proofs Go.Sort
set_option maxRecDepth 10000
theorem hb179 : hasBody Try.prog 179 = true := by kernel_rfl

theorem choosePivot_c (f : Nat) (hb : hasBody Try.prog f = true) (cf : Int → Int → Int) (hc : ∀ x y, ACall Try.prog f [.int .i64 x, .int .i64 y] [] (.int .i64 (cf x y)) []) (d : Array Int) (n a b : Nat) (hd : d.size = n) (hab : a < b ∧ b ≤ n) (hn : n ≤ 1152921504606846976) : ACall Try.prog 168 [.sl (acells d) n, .int .i64 ((a : Nat) : Int), .int .i64 ((b : Nat) : Int), .fn f [] []] [] (.tup [.int .i64 (((choosePivot (ltc cf) d a b).1 : Nat) : Int), .int .i64 ((hintN (choosePivot (ltc cf) d a b).2 : Nat) : Int)]) [] := by
  refine ACall.intro Try.func168 rfl (N := 63) rfl (by decide) (by simp) ?_
  refine a_seq ?_
  refine a_region ?_
  refine r_val (v := .int _ _) (v_assign (.inl rfl) (noOwn_flat rfl)) rfl rfl (by decide) ?_
  refine r_val (v := .int _ _) (v_assign (.inl rfl) (noOwn_flat rfl)) rfl rfl (by decide) ?_
  refine r_nil ?_
  refine a_seq ?_
  refine a_region ?_
  refine r_val (v := .int _ _) (v_move (.inl rfl) (noOwn_flat rfl)) rfl rfl (by decide) ?_
  refine r_val (v := .int _ _) (v_move (.inl rfl) (noOwn_flat rfl)) rfl rfl (by decide) ?_
  refine r_val (v := .int .i64 ((b - a : Nat) : Int)) ((v_sub (.inl rfl) (.inl rfl) (fun _ => by omega)).cast (int_eq (by omega))) rfl rfl (by decide) ?_
  refine r_val (v := .int _ _) (v_assign (.inl rfl) (noOwn_flat rfl)) rfl rfl (by decide) ?_
  refine r_nil ?_
  refine a_seq ?_
  refine a_region ?_
  refine r_new (v := .op [.int _ _]) (q_alloc zc3) rfl rfl (by decide) ?_
  refine r_nil ?_
  refine a_seq ?_
  refine a_pre (ent_eq (t := 11) (v' := .op [.int .i64 ((0 : Nat) : Int)]) (Weak.of_eq rfl)) ?_
  refine a_region ?_
  refine r_val (v := .int _ _) (v_move (.inl rfl) (noOwn_flat rfl)) rfl rfl (by decide) ?_
  refine r_val (v := .int _ _) (v_move (.inl rfl) (noOwn_flat rfl)) rfl rfl (by decide) ?_
  refine r_val (v := .int .i64 (((b - a) / 4 : Nat) : Int)) ((v_quo (.inl rfl) (.inl rfl) (fun _ => by omega)).cast (int_eq (by omega))) rfl rfl (by decide) ?_
  refine r_val (v := .int .i64 (((b - a) / 4 * 1 : Nat) : Int)) ((v_mul (.inl rfl) (.inl rfl) (fun _ => by omega)).cast (int_eq (by omega))) rfl rfl (by decide) ?_
  refine r_val (v := .int .i64 ((a + (b - a) / 4 * 1 : Nat) : Int)) ((v_add (.inl rfl) (.inl rfl) (fun _ => by omega)).cast (int_eq (by omega))) rfl rfl (by decide) ?_
  refine r_val (v := .int _ _) (v_assign (.inl rfl) (noOwn_flat rfl)) rfl rfl (by decide) ?_
  refine r_nil ?_
  refine a_seq ?_
  refine a_region ?_
  refine r_val (v := .int _ _) (v_move (.inl rfl) (noOwn_flat rfl)) rfl rfl (by decide) ?_
  refine r_val (v := .int _ _) (v_move (.inl rfl) (noOwn_flat rfl)) rfl rfl (by decide) ?_
  refine r_val (v := .int .i64 (((b - a) / 4 : Nat) : Int)) ((v_quo (.inl rfl) (.inl rfl) (fun _ => by omega)).cast (int_eq (by omega))) rfl rfl (by decide) ?_
  refine r_val (v := .int .i64 (((b - a) / 4 * 2 : Nat) : Int)) ((v_mul (.inl rfl) (.inl rfl) (fun _ => by omega)).cast (int_eq (by omega))) rfl rfl (by decide) ?_
  refine r_val (v := .int .i64 ((a + (b - a) / 4 * 2 : Nat) : Int)) ((v_add (.inl rfl) (.inl rfl) (fun _ => by omega)).cast (int_eq (by omega))) rfl rfl (by decide) ?_
  refine r_val (v := .int _ _) (v_assign (.inl rfl) (noOwn_flat rfl)) rfl rfl (by decide) ?_
  refine r_nil ?_
  refine a_seq ?_
  refine a_region ?_
  refine r_val (v := .int _ _) (v_move (.inl rfl) (noOwn_flat rfl)) rfl rfl (by decide) ?_
  refine r_val (v := .int _ _) (v_move (.inl rfl) (noOwn_flat rfl)) rfl rfl (by decide) ?_
  refine r_val (v := .int .i64 (((b - a) / 4 : Nat) : Int)) ((v_quo (.inl rfl) (.inl rfl) (fun _ => by omega)).cast (int_eq (by omega))) rfl rfl (by decide) ?_
  refine r_val (v := .int .i64 (((b - a) / 4 * 3 : Nat) : Int)) ((v_mul (.inl rfl) (.inl rfl) (fun _ => by omega)).cast (int_eq (by omega))) rfl rfl (by decide) ?_
  refine r_val (v := .int .i64 ((a + (b - a) / 4 * 3 : Nat) : Int)) ((v_add (.inl rfl) (.inl rfl) (fun _ => by omega)).cast (int_eq (by omega))) rfl rfl (by decide) ?_
  refine r_val (v := .int _ _) (v_assign (.inl rfl) (noOwn_flat rfl)) rfl rfl (by decide) ?_
  refine r_nil ?_
  refine a_seq ?_
  refine a_seq ?_
  refine a_region ?_
  refine r_val (v := .int _ _) (v_move (.inl rfl) (noOwn_flat rfl)) rfl rfl (by decide) ?_
  refine r_val (v := .bool _) (v_geq (.inl rfl) (.inl rfl)) rfl rfl (by decide) ?_
  refine r_nil ?_
  refine a_cond rfl (fun ht34 => ?_) (fun ht34 => ?_)
  ·
    skip
    refine a_seq ?_
    refine a_seq ?_
    have h8 : b - a ≥ 8 := (by simp at ht34; omega)
    refine a_region ?_
    refine r_val (v := .int _ _) (v_move (.inl rfl) (noOwn_flat rfl)) rfl rfl (by decide) ?_
    refine r_val (v := .bool _) (v_geq (.inl rfl) (.inl rfl)) rfl rfl (by decide) ?_
    refine r_nil ?_
    refine a_cond rfl (fun ht36 => ?_) (fun ht36 => ?_)
    ·
      skip
      refine a_seq ?_
      have h50 : b - a ≥ 50 := (by simp at ht36; omega)
      have m1 : (medianAdjacent (ltc cf) d (a + (b - a) / 4 * 1) 0).1 < n ∧ (medianAdjacent (ltc cf) d (a + (b - a) / 4 * 1) 0).2 ≤ 0 + 3 := med_bd (by omega) (by omega) (by omega)
      have m2 : (medianAdjacent (ltc cf) d (a + (b - a) / 4 * 2) (medianAdjacent (ltc cf) d (a + (b - a) / 4 * 1) 0).2).1 < n ∧ (medianAdjacent (ltc cf) d (a + (b - a) / 4 * 2) (medianAdjacent (ltc cf) d (a + (b - a) / 4 * 1) 0).2).2 ≤ (medianAdjacent (ltc cf) d (a + (b - a) / 4 * 1) 0).2 + 3 := med_bd (by omega) (by omega) (by omega)
      have m3 : (medianAdjacent (ltc cf) d (a + (b - a) / 4 * 3) (medianAdjacent (ltc cf) d (a + (b - a) / 4 * 2) (medianAdjacent (ltc cf) d (a + (b - a) / 4 * 1) 0).2).2).1 < n ∧ (medianAdjacent (ltc cf) d (a + (b - a) / 4 * 3) (medianAdjacent (ltc cf) d (a + (b - a) / 4 * 2) (medianAdjacent (ltc cf) d (a + (b - a) / 4 * 1) 0).2).2).2 ≤ (medianAdjacent (ltc cf) d (a + (b - a) / 4 * 2) (medianAdjacent (ltc cf) d (a + (b - a) / 4 * 1) 0).2).2 + 3 := med_bd (by omega) (by omega) (by omega)
      refine a_region ?_
      refine r_val (v := .sl _ _) (v_move (.inl rfl) (noOwn_flat rfl)) rfl rfl (by decide) ?_
      refine r_val (v := .int _ _) (v_move (.inl rfl) (noOwn_flat rfl)) rfl rfl (by decide) ?_
      refine r_val (v := .fn _ _ _) (v_mv rfl) rfl rfl (by decide) ?_
      refine r_step rfl (o_callIOp (q := (11, [])) (vs := [.sl _ _, .int _ _, .rp _ _, .fn _ _ _]) (args := [.sl _ _, .int .i64 _, .rp (INH, []) _, .fn _ _ _]) (cs0 := [.int _ _]) (cs1 := [.int _ _]) (res := .int _ _) rfl hb179 rfl (by decide) ⟨.inl rfl, .inl rfl, .inl rfl, .inl rfl, trivial⟩ rfl rfl (medianAdj_c f hb cf hc d n (a + (b - a) / 4 * 1) 0 hd (by omega) hn) rfl rfl rfl rfl rfl (Nat.le_of_ble_eq_true rfl) (by decide) rfl) ?_
      refine r_val (v := .int _ _) (v_assign (.inl rfl) (noOwn_flat rfl)) rfl rfl (by decide) ?_
      refine r_nil ?_
      refine a_seq ?_
      refine a_pre (ent_look (L := [(0, .sl _ _), (3, .fn _ _ _), (8, .int _ _), (9, .int _ _), (11, .op [.int _ _]), (12, .int _ _), (13, .int _ _), (14, .int _ _)]) ⟨Weak.rfl, Weak.rfl, Weak.rfl, Weak.rfl, Weak.rfl, Weak.rfl, Weak.rfl, Weak.rfl, trivial⟩) ?_
      refine a_region ?_
      refine r_val (v := .sl _ _) (v_move (.inl rfl) (noOwn_flat rfl)) rfl rfl (by decide) ?_
      refine r_val (v := .int _ _) (v_move (.inl rfl) (noOwn_flat rfl)) rfl rfl (by decide) ?_
      refine r_val (v := .fn _ _ _) (v_mv rfl) rfl rfl (by decide) ?_
      refine r_step rfl (o_callIOp (q := (11, [])) (vs := [.sl _ _, .int _ _, .rp _ _, .fn _ _ _]) (args := [.sl _ _, .int .i64 _, .rp (INH, []) _, .fn _ _ _]) (cs0 := [.int _ _]) (cs1 := [.int _ _]) (res := .int _ _) rfl hb179 rfl (by decide) ⟨.inl rfl, .inl rfl, .inl rfl, .inl rfl, trivial⟩ rfl rfl (medianAdj_c f hb cf hc d n (a + (b - a) / 4 * 2) _ hd (by omega) hn) rfl rfl rfl rfl rfl (Nat.le_of_ble_eq_true rfl) (by decide) rfl) ?_
      refine r_val (v := .int _ _) (v_assign (.inl rfl) (noOwn_flat rfl)) rfl rfl (by decide) ?_
      refine r_nil ?_
      refine a_region ?_
      refine r_val (v := .sl _ _) (v_move (.inl rfl) (noOwn_flat rfl)) rfl rfl (by decide) ?_
      refine r_val (v := .int _ _) (v_move (.inl rfl) (noOwn_flat rfl)) rfl rfl (by decide) ?_
      refine r_val (v := .fn _ _ _) (v_mv rfl) rfl rfl (by decide) ?_
      refine r_step rfl (o_callIOp (q := (11, [])) (vs := [.sl _ _, .int _ _, .rp _ _, .fn _ _ _]) (args := [.sl _ _, .int .i64 _, .rp (INH, []) _, .fn _ _ _]) (cs0 := [.int _ _]) (cs1 := [.int _ _]) (res := .int _ _) rfl hb179 rfl (by decide) ⟨.inl rfl, .inl rfl, .inl rfl, .inl rfl, trivial⟩ rfl rfl (medianAdj_c f hb cf hc d n (a + (b - a) / 4 * 3) _ hd (by omega) hn) rfl rfl rfl rfl rfl (Nat.le_of_ble_eq_true rfl) (by decide) rfl) ?_
      refine r_val (v := .int _ _) (v_assign (.inl rfl) (noOwn_flat rfl)) rfl rfl (by decide) ?_
      refine r_nil ?_
      refine a_region ?_
      refine r_val (v := .sl _ _) (v_move (.inl rfl) (noOwn_flat rfl)) rfl rfl (by decide) ?_
      refine r_val (v := .int _ _) (v_move (.inl rfl) (noOwn_flat rfl)) rfl rfl (by decide) ?_
      refine r_val (v := .int _ _) (v_move (.inl rfl) (noOwn_flat rfl)) rfl rfl (by decide) ?_
      refine r_val (v := .int _ _) (v_move (.inl rfl) (noOwn_flat rfl)) rfl rfl (by decide) ?_
      refine r_val (v := .fn _ _ _) (v_mv rfl) rfl rfl (by decide) ?_
      refine r_step rfl (o_callIOp (q := (11, [])) (vs := [.sl _ _, .int _ _, .int _ _, .int _ _, .rp _ _, .fn _ _ _]) (args := [.sl _ _, .int .i64 _, .int .i64 _, .int .i64 _, .rp (INH, []) _, .fn _ _ _]) (cs0 := [.int _ _]) (cs1 := [.int _ _]) (res := .int _ _) rfl hb180 rfl (by decide) ⟨.inl rfl, .inl rfl, .inl rfl, .inl rfl, .inl rfl, .inl rfl, trivial⟩ rfl rfl (median_c f hb cf hc d n _ _ _ _ hd (by omega) hn) rfl rfl rfl rfl rfl (Nat.le_of_ble_eq_true rfl) (by decide) rfl) ?_
      refine r_val (v := .int _ _) (v_assign (.inl rfl) (noOwn_flat rfl)) rfl rfl (by decide) ?_
      refine r_nil ?_
      refine a_seq ?_
      refine a_pre (ent_eq (t := 13) (v' := .int .i64 (((cpR (ltc cf) d a b).1 : Nat) : Int)) (Weak.of_eq (int_eq (congrArg Nat.cast (by unfold cpR; first | (rw [if_pos h8, if_pos h50]; done) | (rw [if_pos h8, if_neg (by simp at ht36; omega)]; done) | (rw [if_neg (by simp at ht34; omega)])))))) ?_
      refine a_pre (ent_eq (t := 11) (v' := .op [.int .i64 (((cpR (ltc cf) d a b).2 : Nat) : Int)]) (Weak.of_eq (congrArg (fun z : Nat => AV.op [.int .i64 (z : Int)]) (by unfold cpR; first | (rw [if_pos h8, if_pos h50]; done) | (rw [if_pos h8, if_neg (by simp at ht36; omega)]; done) | (rw [if_neg (by simp at ht34; omega)]))))) ?_
      refine a_region ?_
      refine r_val (v := .int _ _) (v_load_rp1 ta3 (.inl rfl) rfl (fun _ => rfl) rfl) rfl rfl (by decide) ?_
      refine r_nil ?_
      refine a_block ?_
      refine a_seq ?_
      refine a_region ?_
      refine r_val (v := .bool _) (v_eql (.inl rfl) (.inl rfl)) rfl rfl (by decide) ?_
      refine r_val (v := .bool _) (v_assign (.inl rfl) (noOwn_flat rfl)) rfl rfl (by decide) ?_
      refine r_nil ?_
      refine a_cond rfl (fun ht57 => ?_) (fun ht57 => ?_)
      ·
        skip
        refine a_seq ?_
        refine a_region ?_
        refine r_val (v := .int _ _) (v_move (.inl rfl) (noOwn_flat rfl)) rfl rfl (by decide) ?_
        refine r_val (v := .int _ _) (v_assign (.inl rfl) (noOwn_flat rfl)) rfl rfl (by decide) ?_
        refine r_val (v := .int _ _) (v_assign (.inl rfl) (noOwn_flat rfl)) rfl rfl (by decide) ?_
        refine r_nil ?_
        refine a_ret ?_
        refine retL (rs := [.tmp 8, .tmp 9]) [(8, _), (9, _)] ⟨Weak.rfl, Weak.rfl, trivial⟩ rfl Try.results168 (by decide) ⟨by decide, by decide, rfl⟩ (by decide) (by decide) (l2_eq (int_eq ?_) (int_eq ?_)) rfl
        · rw [cp_eq]
        · rw [cp_eq]; dsimp only; rw [if_pos (by simp at ht57; omega)]; rfl
      ·
        skip
        refine a_seq ?_
        refine a_region ?_
        refine r_val (v := .bool _) (v_eql (.inl rfl) (.inl rfl)) rfl rfl (by decide) ?_
        refine r_val (v := .bool _) (v_assign (.inl rfl) (noOwn_flat rfl)) rfl rfl (by decide) ?_
        refine r_nil ?_
        refine a_cond rfl (fun ht60 => ?_) (fun ht60 => ?_)
        ·
          skip
          refine a_seq ?_
          refine a_pre (ent_look (L := [(8, .int _ _), (9, .int _ _), (13, .int _ _)]) ⟨Weak.rfl, Weak.rfl, Weak.rfl, trivial⟩) ?_
          refine a_region ?_
          refine r_val (v := .int _ _) (v_move (.inl rfl) (noOwn_flat rfl)) rfl rfl (by decide) ?_
          refine r_val (v := .int _ _) (v_assign (.inl rfl) (noOwn_flat rfl)) rfl rfl (by decide) ?_
          refine r_val (v := .int _ _) (v_assign (.inl rfl) (noOwn_flat rfl)) rfl rfl (by decide) ?_
          refine r_nil ?_
          refine a_ret ?_
          refine retL (rs := [.tmp 8, .tmp 9]) [(8, _), (9, _)] ⟨Weak.rfl, Weak.rfl, trivial⟩ rfl Try.results168 (by decide) ⟨by decide, by decide, rfl⟩ (by decide) (by decide) (l2_eq (int_eq ?_) (int_eq ?_)) rfl
          · rw [cp_eq]
          · rw [cp_eq]; dsimp only; rw [if_neg (by simp at ht57; omega), if_pos (by simp at ht60; omega)]; rfl
        ·
          skip
          refine a_seq ?_
          refine a_pre (ent_look (L := [(8, .int _ _), (9, .int _ _), (13, .int _ _)]) ⟨Weak.rfl, Weak.rfl, Weak.rfl, trivial⟩) ?_
          refine a_region ?_
          refine r_val (v := .int _ _) (v_move (.inl rfl) (noOwn_flat rfl)) rfl rfl (by decide) ?_
          refine r_val (v := .int _ _) (v_assign (.inl rfl) (noOwn_flat rfl)) rfl rfl (by decide) ?_
          refine r_val (v := .int _ _) (v_assign (.inl rfl) (noOwn_flat rfl)) rfl rfl (by decide) ?_
          refine r_nil ?_
          refine a_ret ?_
          refine retL (rs := [.tmp 8, .tmp 9]) [(8, _), (9, _)] ⟨Weak.rfl, Weak.rfl, trivial⟩ rfl Try.results168 (by decide) ⟨by decide, by decide, rfl⟩ (by decide) (by decide) (l2_eq (int_eq ?_) (int_eq ?_)) rfl
          · rw [cp_eq]
          · rw [cp_eq]; dsimp only; rw [if_neg (by simp at ht57; omega), if_neg (by simp at ht60; omega)]; rfl
    ·
      skip
      refine a_skip ?_
      refine a_region ?_
      refine r_val (v := .sl _ _) (v_move (.inl rfl) (noOwn_flat rfl)) rfl rfl (by decide) ?_
      refine r_val (v := .int _ _) (v_move (.inl rfl) (noOwn_flat rfl)) rfl rfl (by decide) ?_
      refine r_val (v := .int _ _) (v_move (.inl rfl) (noOwn_flat rfl)) rfl rfl (by decide) ?_
      refine r_val (v := .int _ _) (v_move (.inl rfl) (noOwn_flat rfl)) rfl rfl (by decide) ?_
      refine r_val (v := .fn _ _ _) (v_mv rfl) rfl rfl (by decide) ?_
      refine r_step rfl (o_callIOp (q := (11, [])) (vs := [.sl _ _, .int _ _, .int _ _, .int _ _, .rp _ _, .fn _ _ _]) (args := [.sl _ _, .int .i64 _, .int .i64 _, .int .i64 _, .rp (INH, []) _, .fn _ _ _]) (cs0 := [.int _ _]) (cs1 := [.int _ _]) (res := .int _ _) rfl hb180 rfl (by decide) ⟨.inl rfl, .inl rfl, .inl rfl, .inl rfl, .inl rfl, .inl rfl, trivial⟩ rfl rfl (median_c f hb cf hc d n _ _ _ _ hd (by omega) hn) rfl rfl rfl rfl rfl (Nat.le_of_ble_eq_true rfl) (by decide) rfl) ?_
      refine r_val (v := .int _ _) (v_assign (.inl rfl) (noOwn_flat rfl)) rfl rfl (by decide) ?_
      refine r_nil ?_
      refine a_seq ?_
      refine a_pre (ent_look (L := [(8, .int _ _), (9, .int _ _), (11, .op [.int _ _]), (13, .int _ _)]) ⟨Weak.rfl, Weak.rfl, Weak.rfl, Weak.rfl, trivial⟩) ?_
      refine a_pre (ent_eq (t := 13) (v' := .int .i64 (((cpR (ltc cf) d a b).1 : Nat) : Int)) (Weak.of_eq (int_eq (congrArg Nat.cast (by unfold cpR; first | (rw [if_pos h8, if_pos h50]; done) | (rw [if_pos h8, if_neg (by simp at ht36; omega)]; done) | (rw [if_neg (by simp at ht34; omega)])))))) ?_
      refine a_pre (ent_eq (t := 11) (v' := .op [.int .i64 (((cpR (ltc cf) d a b).2 : Nat) : Int)]) (Weak.of_eq (congrArg (fun z : Nat => AV.op [.int .i64 (z : Int)]) (by unfold cpR; first | (rw [if_pos h8, if_pos h50]; done) | (rw [if_pos h8, if_neg (by simp at ht36; omega)]; done) | (rw [if_neg (by simp at ht34; omega)]))))) ?_
      refine a_region ?_
      refine r_val (v := .int _ _) (v_load_rp1 ta3 (.inl rfl) rfl (fun _ => rfl) rfl) rfl rfl (by decide) ?_
      refine r_nil ?_
      refine a_block ?_
      refine a_seq ?_
      refine a_region ?_
      refine r_val (v := .bool _) (v_eql (.inl rfl) (.inl rfl)) rfl rfl (by decide) ?_
      refine r_val (v := .bool _) (v_assign (.inl rfl) (noOwn_flat rfl)) rfl rfl (by decide) ?_
      refine r_nil ?_
      refine a_cond rfl (fun ht57 => ?_) (fun ht57 => ?_)
      ·
        skip
        refine a_seq ?_
        refine a_region ?_
        refine r_val (v := .int _ _) (v_move (.inl rfl) (noOwn_flat rfl)) rfl rfl (by decide) ?_
        refine r_val (v := .int _ _) (v_assign (.inl rfl) (noOwn_flat rfl)) rfl rfl (by decide) ?_
        refine r_val (v := .int _ _) (v_assign (.inl rfl) (noOwn_flat rfl)) rfl rfl (by decide) ?_
        refine r_nil ?_
        refine a_ret ?_
        refine retL (rs := [.tmp 8, .tmp 9]) [(8, _), (9, _)] ⟨Weak.rfl, Weak.rfl, trivial⟩ rfl Try.results168 (by decide) ⟨by decide, by decide, rfl⟩ (by decide) (by decide) (l2_eq (int_eq ?_) (int_eq ?_)) rfl
        · rw [cp_eq]
        · rw [cp_eq]; dsimp only; rw [if_pos (by simp at ht57; omega)]; rfl
      ·
        skip
        refine a_seq ?_
        refine a_region ?_
        refine r_val (v := .bool _) (v_eql (.inl rfl) (.inl rfl)) rfl rfl (by decide) ?_
        refine r_val (v := .bool _) (v_assign (.inl rfl) (noOwn_flat rfl)) rfl rfl (by decide) ?_
        refine r_nil ?_
        refine a_cond rfl (fun ht60 => ?_) (fun ht60 => ?_)
        ·
          skip
          refine a_seq ?_
          refine a_region ?_
          refine r_val (v := .int _ _) (v_move (.inl rfl) (noOwn_flat rfl)) rfl rfl (by decide) ?_
          refine r_val (v := .int _ _) (v_assign (.inl rfl) (noOwn_flat rfl)) rfl rfl (by decide) ?_
          refine r_val (v := .int _ _) (v_assign (.inl rfl) (noOwn_flat rfl)) rfl rfl (by decide) ?_
          refine r_nil ?_
          refine a_ret ?_
          refine retL (rs := [.tmp 8, .tmp 9]) [(8, _), (9, _)] ⟨Weak.rfl, Weak.rfl, trivial⟩ rfl Try.results168 (by decide) ⟨by decide, by decide, rfl⟩ (by decide) (by decide) (l2_eq (int_eq ?_) (int_eq ?_)) rfl
          · rw [cp_eq]
          · rw [cp_eq]; dsimp only; rw [if_neg (by simp at ht57; omega), if_pos (by simp at ht60; omega)]; rfl
        ·
          skip
          refine a_seq ?_
          refine a_region ?_
          refine r_val (v := .int _ _) (v_move (.inl rfl) (noOwn_flat rfl)) rfl rfl (by decide) ?_
          refine r_val (v := .int _ _) (v_assign (.inl rfl) (noOwn_flat rfl)) rfl rfl (by decide) ?_
          refine r_val (v := .int _ _) (v_assign (.inl rfl) (noOwn_flat rfl)) rfl rfl (by decide) ?_
          refine r_nil ?_
          refine a_ret ?_
          refine retL (rs := [.tmp 8, .tmp 9]) [(8, _), (9, _)] ⟨Weak.rfl, Weak.rfl, trivial⟩ rfl Try.results168 (by decide) ⟨by decide, by decide, rfl⟩ (by decide) (by decide) (l2_eq (int_eq ?_) (int_eq ?_)) rfl
          · rw [cp_eq]
          · rw [cp_eq]; dsimp only; rw [if_neg (by simp at ht57; omega), if_neg (by simp at ht60; omega)]; rfl
  ·
    skip
    refine a_skip ?_
    refine a_seq ?_
    refine a_pre (ent_eq (t := 13) (v' := .int .i64 (((cpR (ltc cf) d a b).1 : Nat) : Int)) (Weak.of_eq (int_eq (congrArg Nat.cast (by unfold cpR; first | (rw [if_pos h8, if_pos h50]; done) | (rw [if_pos h8, if_neg (by simp at ht36; omega)]; done) | (rw [if_neg (by simp at ht34; omega)])))))) ?_
    refine a_pre (ent_eq (t := 11) (v' := .op [.int .i64 (((cpR (ltc cf) d a b).2 : Nat) : Int)]) (Weak.of_eq (congrArg (fun z : Nat => AV.op [.int .i64 (z : Int)]) (by unfold cpR; first | (rw [if_pos h8, if_pos h50]; done) | (rw [if_pos h8, if_neg (by simp at ht36; omega)]; done) | (rw [if_neg (by simp at ht34; omega)]))))) ?_
    refine a_region ?_
    refine r_val (v := .int _ _) (v_load_rp1 ta3 (.inl rfl) rfl (fun _ => rfl) rfl) rfl rfl (by decide) ?_
    refine r_nil ?_
    refine a_block ?_
    refine a_seq ?_
    refine a_region ?_
    refine r_val (v := .bool _) (v_eql (.inl rfl) (.inl rfl)) rfl rfl (by decide) ?_
    refine r_val (v := .bool _) (v_assign (.inl rfl) (noOwn_flat rfl)) rfl rfl (by decide) ?_
    refine r_nil ?_
    refine a_cond rfl (fun ht57 => ?_) (fun ht57 => ?_)
    ·
      skip
      refine a_seq ?_
      refine a_pre (ent_look (L := [(8, .int _ _), (9, .int _ _), (13, .int _ _), (55, .int _ _)]) ⟨Weak.rfl, Weak.rfl, Weak.rfl, Weak.rfl, trivial⟩) ?_
      refine a_region ?_
      refine r_val (v := .int _ _) (v_move (.inl rfl) (noOwn_flat rfl)) rfl rfl (by decide) ?_
      refine r_val (v := .int _ _) (v_assign (.inl rfl) (noOwn_flat rfl)) rfl rfl (by decide) ?_
      refine r_val (v := .int _ _) (v_assign (.inl rfl) (noOwn_flat rfl)) rfl rfl (by decide) ?_
      refine r_nil ?_
      refine a_ret ?_
      refine retL (rs := [.tmp 8, .tmp 9]) [(8, _), (9, _)] ⟨Weak.rfl, Weak.rfl, trivial⟩ rfl Try.results168 (by decide) ⟨by decide, by decide, rfl⟩ (by decide) (by decide) (l2_eq (int_eq ?_) (int_eq ?_)) rfl
      · rw [cp_eq]
      · rw [cp_eq]; dsimp only; rw [if_pos (by simp at ht57; omega)]; rfl
    ·
      skip
      refine a_seq ?_
      refine a_pre (ent_look (L := [(8, .int _ _), (9, .int _ _), (13, .int _ _), (55, .int _ _)]) ⟨Weak.rfl, Weak.rfl, Weak.rfl, Weak.rfl, trivial⟩) ?_
      refine a_region ?_
      refine r_val (v := .bool _) (v_eql (.inl rfl) (.inl rfl)) rfl rfl (by decide) ?_
      refine r_val (v := .bool _) (v_assign (.inl rfl) (noOwn_flat rfl)) rfl rfl (by decide) ?_
      refine r_nil ?_
      refine a_cond rfl (fun ht60 => ?_) (fun ht60 => ?_)
      ·
        skip
        refine a_seq ?_
        refine a_region ?_
        refine r_val (v := .int _ _) (v_move (.inl rfl) (noOwn_flat rfl)) rfl rfl (by decide) ?_
        refine r_val (v := .int _ _) (v_assign (.inl rfl) (noOwn_flat rfl)) rfl rfl (by decide) ?_
        refine r_val (v := .int _ _) (v_assign (.inl rfl) (noOwn_flat rfl)) rfl rfl (by decide) ?_
        refine r_nil ?_
        refine a_ret ?_
        refine retL (rs := [.tmp 8, .tmp 9]) [(8, _), (9, _)] ⟨Weak.rfl, Weak.rfl, trivial⟩ rfl Try.results168 (by decide) ⟨by decide, by decide, rfl⟩ (by decide) (by decide) (l2_eq (int_eq ?_) (int_eq ?_)) rfl
        · rw [cp_eq]
        · rw [cp_eq]; dsimp only; rw [if_neg (by simp at ht57; omega), if_pos (by simp at ht60; omega)]; rfl
      ·
        skip
        refine a_seq ?_
        refine a_region ?_
        refine r_val (v := .int _ _) (v_move (.inl rfl) (noOwn_flat rfl)) rfl rfl (by decide) ?_
        refine r_val (v := .int _ _) (v_assign (.inl rfl) (noOwn_flat rfl)) rfl rfl (by decide) ?_
        refine r_val (v := .int _ _) (v_assign (.inl rfl) (noOwn_flat rfl)) rfl rfl (by decide) ?_
        refine r_nil ?_
        refine a_ret ?_
        refine retL (rs := [.tmp 8, .tmp 9]) [(8, _), (9, _)] ⟨Weak.rfl, Weak.rfl, trivial⟩ rfl Try.results168 (by decide) ⟨by decide, by decide, rfl⟩ (by decide) (by decide) (l2_eq (int_eq ?_) (int_eq ?_)) rfl
        · rw [cp_eq]
        · rw [cp_eq]; dsimp only; rw [if_neg (by simp at ht57; omega), if_neg (by simp at ht60; omega)]; rfl
end Go.Av
namespace Go.Av
open Go Go.Proofs Go.Sort
set_option maxRecDepth 10000
theorem ta184 : tyAgg Try.prog 184 = some (false, 1) := by kernel_rfl

theorem next_c (r : Nat) (h : r < 18446744073709551616) : ACall Try.prog 178 [.rp (INH, []) 0] [.op [.int .u64 ((r : Nat) : Int)]] (.int .u64 ((xorNextN r : Nat) : Int)) [.op [.int .u64 ((xorNextN r : Nat) : Int)]] := by
  have ha : (r ^^^ (r * 8192 % 18446744073709551616)) < 2 ^ 64 := Nat.xor_lt_two_pow (by omega) (by omega)
  have hb0 : ((r ^^^ (r * 8192 % 18446744073709551616)) ^^^ ((r ^^^ (r * 8192 % 18446744073709551616)) / 128)) < 2 ^ 64 := Nat.xor_lt_two_pow ha (by omega)
  refine ACall.intro Try.func178 rfl (N := 33) rfl (by decide) (by simp) ?_
  refine a_seq ?_
  refine a_region ?_
  refine r_val (v := .int _ _) (v_assign (.inl rfl) (noOwn_flat rfl)) rfl rfl (by decide) ?_
  refine r_nil ?_
  refine a_seq ?_
  refine a_region_w [(3, true), (4, true), (5, true), (6, true), (7, true), (8, true), (9, true), (10, true), (11, true), (INH, false)] mixed (by kernel_rfl) ?_
  refine w_val (v := .rp _ _) (v_move (.inl rfl) (noOwn_flat rfl)) rfl rfl (by decide) rfl (by kernel_rfl) ?_
  refine w_val (v := .rp _ _) (v_nilCheck (.inl rfl) rfl) rfl rfl (by decide) rfl (by kernel_rfl) ?_
  refine w_val (v := .int _ _) (v_load_rp1 ta184 (.inl rfl) rfl (fun _ => rfl) rfl) rfl rfl (by decide) rfl (by kernel_rfl) ?_
  refine w_val (v := .rp _ _) (v_move (.inl rfl) (noOwn_flat rfl)) rfl rfl (by decide) rfl (by kernel_rfl) ?_
  refine w_val (v := .rp _ _) (v_nilCheck (.inl rfl) rfl) rfl rfl (by decide) rfl (by kernel_rfl) ?_
  refine w_val (v := .int _ _) (v_load_rp1 ta184 (.inl rfl) rfl (fun _ => rfl) rfl) rfl rfl (by decide) rfl (by kernel_rfl) ?_
  refine w_val (v := .int .u64 ((r * 8192 % 18446744073709551616 : Nat) : Int)) ((v_shlu (.inl rfl) (.inl rfl) (fun _ => by omega)).cast (int_eq rfl)) rfl rfl (by decide) rfl (by kernel_rfl) ?_
  refine w_val (v := .int .u64 (((r ^^^ (r * 8192 % 18446744073709551616)) : Nat) : Int)) (v_xoru (.inl rfl) (.inl rfl) (fun _ => by omega)) rfl rfl (by decide) rfl (by kernel_rfl) ?_
  refine w_val (v := .rp _ _) (v_nilCheck (.inl rfl) rfl) rfl rfl (by decide) rfl (by kernel_rfl) ?_
  refine w_store (v := .int _ _) (y' := .op [.int _ _]) rfl rfl rfl ta184 (.inl rfl) (.inl rfl) rfl rfl rfl rfl rfl rfl (Nat.le_of_ble_eq_true rfl) (by decide) rfl rfl rfl (by kernel_rfl) ?_
  refine w_nil ?_
  refine a_seq ?_
  refine a_region_w [(12, true), (13, true), (14, true), (15, true), (16, true), (17, true), (18, true), (19, true), (20, true), (INH, false)] mixed (by kernel_rfl) ?_
  refine w_val (v := .rp _ _) (v_move (.inl rfl) (noOwn_flat rfl)) rfl rfl (by decide) rfl (by kernel_rfl) ?_
  refine w_val (v := .rp _ _) (v_nilCheck (.inl rfl) rfl) rfl rfl (by decide) rfl (by kernel_rfl) ?_
  refine w_val (v := .int _ _) (v_load_rp1 ta184 (.inl rfl) rfl (fun _ => rfl) rfl) rfl rfl (by decide) rfl (by kernel_rfl) ?_
  refine w_val (v := .rp _ _) (v_move (.inl rfl) (noOwn_flat rfl)) rfl rfl (by decide) rfl (by kernel_rfl) ?_
  refine w_val (v := .rp _ _) (v_nilCheck (.inl rfl) rfl) rfl rfl (by decide) rfl (by kernel_rfl) ?_
  refine w_val (v := .int _ _) (v_load_rp1 ta184 (.inl rfl) rfl (fun _ => rfl) rfl) rfl rfl (by decide) rfl (by kernel_rfl) ?_
  refine w_val (v := .int .u64 (((r ^^^ (r * 8192 % 18446744073709551616)) / 128 : Nat) : Int)) ((v_shru (.inl rfl) (.inl rfl) (fun _ => by omega)).cast (int_eq (by simp))) rfl rfl (by decide) rfl (by kernel_rfl) ?_
  refine w_val (v := .int .u64 ((((r ^^^ (r * 8192 % 18446744073709551616)) ^^^ ((r ^^^ (r * 8192 % 18446744073709551616)) / 128)) : Nat) : Int)) (v_xoru (.inl rfl) (.inl rfl) (fun _ => by omega)) rfl rfl (by decide) rfl (by kernel_rfl) ?_
  refine w_val (v := .rp _ _) (v_nilCheck (.inl rfl) rfl) rfl rfl (by decide) rfl (by kernel_rfl) ?_
  refine w_store (v := .int _ _) (y' := .op [.int _ _]) rfl rfl rfl ta184 (.inl rfl) (.inl rfl) rfl rfl rfl rfl rfl rfl (Nat.le_of_ble_eq_true rfl) (by decide) rfl rfl rfl (by kernel_rfl) ?_
  refine w_nil ?_
  refine a_seq ?_
  refine a_region_w [(21, true), (22, true), (23, true), (24, true), (25, true), (26, true), (27, true), (28, true), (29, true), (INH, false)] mixed (by kernel_rfl) ?_
  refine w_val (v := .rp _ _) (v_move (.inl rfl) (noOwn_flat rfl)) rfl rfl (by decide) rfl (by kernel_rfl) ?_
  refine w_val (v := .rp _ _) (v_nilCheck (.inl rfl) rfl) rfl rfl (by decide) rfl (by kernel_rfl) ?_
  refine w_val (v := .int _ _) (v_load_rp1 ta184 (.inl rfl) rfl (fun _ => rfl) rfl) rfl rfl (by decide) rfl (by kernel_rfl) ?_
  refine w_val (v := .rp _ _) (v_move (.inl rfl) (noOwn_flat rfl)) rfl rfl (by decide) rfl (by kernel_rfl) ?_
  refine w_val (v := .rp _ _) (v_nilCheck (.inl rfl) rfl) rfl rfl (by decide) rfl (by kernel_rfl) ?_
  refine w_val (v := .int _ _) (v_load_rp1 ta184 (.inl rfl) rfl (fun _ => rfl) rfl) rfl rfl (by decide) rfl (by kernel_rfl) ?_
  refine w_val (v := .int .u64 ((((r ^^^ (r * 8192 % 18446744073709551616)) ^^^ ((r ^^^ (r * 8192 % 18446744073709551616)) / 128)) * 131072 % 18446744073709551616 : Nat) : Int)) ((v_shlu (.inl rfl) (.inl rfl) (fun _ => by omega)).cast (int_eq rfl)) rfl rfl (by decide) rfl (by kernel_rfl) ?_
  refine w_val (v := .int .u64 ((xorNextN r : Nat) : Int)) ((v_xoru (.inl rfl) (.inl rfl) (fun _ => by omega)).cast (int_eq rfl)) rfl rfl (by decide) rfl (by kernel_rfl) ?_
  refine w_val (v := .rp _ _) (v_nilCheck (.inl rfl) rfl) rfl rfl (by decide) rfl (by kernel_rfl) ?_
  refine w_store (v := .int _ _) (y' := .op [.int _ _]) rfl rfl rfl ta184 (.inl rfl) (.inl rfl) rfl rfl rfl rfl rfl rfl (Nat.le_of_ble_eq_true rfl) (by decide) rfl rfl rfl (by kernel_rfl) ?_
  refine w_nil ?_
  refine a_seq ?_
  refine a_pre (ent_look (L := [(0, .rp _ _), (2, .int _ _), (INH, .op [.int _ _])]) ⟨Weak.rfl, Weak.rfl, Weak.rfl, trivial⟩) ?_
  refine a_region ?_
  refine r_val (v := .rp _ _) (v_move (.inl rfl) (noOwn_flat rfl)) rfl rfl (by decide) ?_
  refine r_val (v := .rp _ _) (v_nilCheck (.inl rfl) rfl) rfl rfl (by decide) ?_
  refine r_val (v := .int _ _) (v_load_rp1 ta184 (.inl rfl) rfl (fun _ => rfl) rfl) rfl rfl (by decide) ?_
  refine r_val (v := .int _ _) (v_assign (.inl rfl) (noOwn_flat rfl)) rfl rfl (by decide) ?_
  refine r_nil ?_
  refine a_ret ?_
  refine ret1 Try.results178 (by decide) (by decide) (Weak.of_eq (int_eq ?_)) rfl (Leaves.one (Weak.of_eq rfl) rfl)
  rfl
end Go.Av
namespace Go.Av
open Go Go.Proofs Go.Sort
set_option maxRecDepth 10000
theorem iss5 : (Try.prog.underlying 5).isSome = true := by kernel_rfl
theorem un9 : Try.prog.underlying 9 = some .string := by kernel_rfl
theorem uni5 : Try.prog.underlying 5 = some (.int .u8) := by kernel_rfl

theorem len64_c (n : Nat) (h : n < 18446744073709551616) : ACall Try.prog 174 [.int .u64 ((n : Nat) : Int)] [] (.int .i64 ((bitsLen n : Nat) : Int)) [] := by
  have hx1 : lx 32 n < 4294967296 := (by unfold lx; split <;> omega)
  have hx2 : lx 16 (lx 32 n) < 65536 := (by have h9 := hx1; generalize lx 32 n = m at h9 ⊢; unfold lx; split <;> omega)
  have hx3 : lx 8 (lx 16 (lx 32 n)) < 256 := (by have h9 := hx2; generalize lx 16 (lx 32 n) = m at h9 ⊢; unfold lx; split <;> omega)
  have hl3 : bitsLen (lx 8 (lx 16 (lx 32 n))) ≤ 8 := (bitsLen_le_iff _ _).2 hx3
  have hlen : bitsLen n = ll 32 n + ll 16 (lx 32 n) + ll 8 (lx 16 (lx 32 n)) + bitsLen (lx 8 (lx 16 (lx 32 n))) := (by have e1 := lx_len 32 n; have e2 := lx_len 16 (lx 32 n); have e3 := lx_len 8 (lx 16 (lx 32 n)); omega)
  have hb1 : ll 32 n ≤ 32 := (by unfold ll; split <;> omega)
  have hb2 : ll 16 (lx 32 n) ≤ 16 := (by unfold ll; split <;> omega)
  have hb3 : ll 8 (lx 16 (lx 32 n)) ≤ 8 := (by unfold ll; split <;> omega)
  refine ACall.intro Try.func174 rfl (N := 25) rfl (by decide) (by simp) ?_
  refine a_seq ?_
  refine a_region ?_
  refine r_val (v := .int _ _) (v_assign (.inl rfl) (noOwn_flat rfl)) rfl rfl (by decide) ?_
  refine r_nil ?_
  refine a_seq ?_
  refine a_seq ?_
  refine a_region ?_
  refine r_val (v := .int _ _) (v_move (.inl rfl) (noOwn_flat rfl)) rfl rfl (by decide) ?_
  refine r_val (v := .bool _) (v_geq (.inl rfl) (.inl rfl)) rfl rfl (by decide) ?_
  refine r_nil ?_
  refine a_cond rfl (fun ht4 => ?_) (fun ht4 => ?_)
  ·
    skip
    refine a_seq ?_
    refine a_region ?_
    refine r_val (v := .int _ _) (v_move (.inl rfl) (noOwn_flat rfl)) rfl rfl (by decide) ?_
    refine r_val (v := .int .u64 ((n / 4294967296 : Nat) : Int)) ((v_shru (.inl rfl) (.inl rfl) (fun _ => by omega)).cast (int_eq (by simp))) rfl rfl (by decide) ?_
    refine r_val (v := .int _ _) (v_assign (.inl rfl) (noOwn_flat rfl)) rfl rfl (by decide) ?_
    refine r_nil ?_
    refine a_region ?_
    refine r_val (v := .int _ _) (v_assign (.inl rfl) (noOwn_flat rfl)) rfl rfl (by decide) ?_
    refine r_nil ?_
    refine a_seq ?_
    refine a_seq ?_
    refine a_pre (ent_eq (t := 0) (v' := .int .u64 ((lx 32 n : Nat) : Int)) (Weak.of_eq (int_eq (congrArg Nat.cast (by first | exact (if_pos (show 2 ^ 32 ≤ n by simp at ht4; omega)).symm | exact (if_neg (show ¬ 2 ^ 32 ≤ n by simp at ht4; omega)).symm))))) ?_
    refine a_pre (ent_eq (t := 2) (v' := .int .i64 ((ll 32 n : Nat) : Int)) (Weak.of_eq (int_eq (by first | (rw [show ll 32 (n) = 32 from if_pos (show 2 ^ 32 ≤ n by simp at ht4; omega)]; rfl) | (rw [show ll 32 (n) = 0 from if_neg (show ¬ 2 ^ 32 ≤ n by simp at ht4; omega)]; rfl))))) ?_
    refine a_region ?_
    refine r_val (v := .int _ _) (v_move (.inl rfl) (noOwn_flat rfl)) rfl rfl (by decide) ?_
    refine r_val (v := .bool _) (v_geq (.inl rfl) (.inl rfl)) rfl rfl (by decide) ?_
    refine r_nil ?_
    refine a_cond rfl (fun ht8 => ?_) (fun ht8 => ?_)
    ·
      skip
      refine a_seq ?_
      refine a_region ?_
      refine r_val (v := .int _ _) (v_move (.inl rfl) (noOwn_flat rfl)) rfl rfl (by decide) ?_
      refine r_val (v := .int .u64 ((lx 32 n / 65536 : Nat) : Int)) ((v_shru (.inl rfl) (.inl rfl) (fun _ => by omega)).cast (int_eq (by simp))) rfl rfl (by decide) ?_
      refine r_val (v := .int _ _) (v_assign (.inl rfl) (noOwn_flat rfl)) rfl rfl (by decide) ?_
      refine r_nil ?_
      refine a_region ?_
      refine r_val (v := .int _ _) (v_move (.inl rfl) (noOwn_flat rfl)) rfl rfl (by decide) ?_
      refine r_val (v := .int _ _) (v_add (.inl rfl) (.inl rfl) (fun _ => by omega)) rfl rfl (by decide) ?_
      refine r_val (v := .int _ _) (v_assign (.inl rfl) (noOwn_flat rfl)) rfl rfl (by decide) ?_
      refine r_nil ?_
      refine a_seq ?_
      refine a_seq ?_
      refine a_pre (ent_eq (t := 0) (v' := .int .u64 ((lx 16 (lx 32 n) : Nat) : Int)) (Weak.of_eq (int_eq (congrArg Nat.cast (by first | exact (if_pos (show 2 ^ 16 ≤ lx 32 n by simp at ht8; omega)).symm | exact (if_neg (show ¬ 2 ^ 16 ≤ lx 32 n by simp at ht8; omega)).symm))))) ?_
      refine a_pre (ent_eq (t := 2) (v' := .int .i64 ((ll 32 n + ll 16 (lx 32 n) : Nat) : Int)) (Weak.of_eq (int_eq (by first | (rw [show ll 16 (lx 32 n) = 16 from if_pos (show 2 ^ 16 ≤ lx 32 n by simp at ht8; omega)]; rfl) | (rw [show ll 16 (lx 32 n) = 0 from if_neg (show ¬ 2 ^ 16 ≤ lx 32 n by simp at ht8; omega)]; rfl))))) ?_
      refine a_region ?_
      refine r_val (v := .int _ _) (v_move (.inl rfl) (noOwn_flat rfl)) rfl rfl (by decide) ?_
      refine r_val (v := .bool _) (v_geq (.inl rfl) (.inl rfl)) rfl rfl (by decide) ?_
      refine r_nil ?_
      refine a_cond rfl (fun ht14 => ?_) (fun ht14 => ?_)
      ·
        skip
        refine a_seq ?_
        refine a_region ?_
        refine r_val (v := .int _ _) (v_move (.inl rfl) (noOwn_flat rfl)) rfl rfl (by decide) ?_
        refine r_val (v := .int .u64 ((lx 16 (lx 32 n) / 256 : Nat) : Int)) ((v_shru (.inl rfl) (.inl rfl) (fun _ => by omega)).cast (int_eq (by simp))) rfl rfl (by decide) ?_
        refine r_val (v := .int _ _) (v_assign (.inl rfl) (noOwn_flat rfl)) rfl rfl (by decide) ?_
        refine r_nil ?_
        refine a_region ?_
        refine r_val (v := .int _ _) (v_move (.inl rfl) (noOwn_flat rfl)) rfl rfl (by decide) ?_
        refine r_val (v := .int _ _) (v_add (.inl rfl) (.inl rfl) (fun _ => by omega)) rfl rfl (by decide) ?_
        refine r_val (v := .int _ _) (v_assign (.inl rfl) (noOwn_flat rfl)) rfl rfl (by decide) ?_
        refine r_nil ?_
        refine a_seq ?_
        refine a_pre (ent_eq (t := 0) (v' := .int .u64 ((lx 8 (lx 16 (lx 32 n)) : Nat) : Int)) (Weak.of_eq (int_eq (congrArg Nat.cast (by first | exact (if_pos (show 2 ^ 8 ≤ lx 16 (lx 32 n) by simp at ht14; omega)).symm | exact (if_neg (show ¬ 2 ^ 8 ≤ lx 16 (lx 32 n) by simp at ht14; omega)).symm))))) ?_
        refine a_pre (ent_eq (t := 2) (v' := .int .i64 ((ll 32 n + ll 16 (lx 32 n) + ll 8 (lx 16 (lx 32 n)) : Nat) : Int)) (Weak.of_eq (int_eq (by first | (rw [show ll 8 (lx 16 (lx 32 n)) = 8 from if_pos (show 2 ^ 8 ≤ lx 16 (lx 32 n) by simp at ht14; omega)]; rfl) | (rw [show ll 8 (lx 16 (lx 32 n)) = 0 from if_neg (show ¬ 2 ^ 8 ≤ lx 16 (lx 32 n) by simp at ht14; omega)]; rfl))))) ?_
        refine a_region ?_
        refine r_val (v := .int _ _) (v_move (.inl rfl) (noOwn_flat rfl)) rfl rfl (by decide) ?_
        refine r_val (v := .int _ _) (v_move (.inl rfl) (noOwn_flat rfl)) rfl rfl (by decide) ?_
        refine r_val (v := .int .u8 ((lx 8 (lx 16 (lx 32 n)) : Nat) : Int)) (v_conv iss176 uni5 (.inl rfl) (fun _ => IntWalk.u8_in _ (by omega))) rfl rfl (by decide) ?_
        refine r_val (v := .int .u8 ((bitsLen (lx 8 (lx 16 (lx 32 n))) : Nat) : Int)) ((v_index_str un9 (.inl rfl) (.inl rfl) (fun _ => ⟨by omega, Int.lt_of_lt_of_le (Int.ofNat_lt.2 hx3) (by decide +kernel)⟩)).cast (int_eq (congrArg Nat.cast (by revert hx3; generalize lx 8 (lx 16 (lx 32 n)) = m; revert m; decide +kernel)))) rfl rfl (by decide) ?_
        refine r_val (v := .int _ _) (v_conv iss5 uni3 (.inl rfl) (fun _ => by first | rfl | exact IntWalk.i64_in _ (by omega))) rfl rfl (by decide) ?_
        refine r_val (v := .int _ _) (v_add (.inl rfl) (.inl rfl) (fun _ => by omega)) rfl rfl (by decide) ?_
        refine r_val (v := .int _ _) (v_assign (.inl rfl) (noOwn_flat rfl)) rfl rfl (by decide) ?_
        refine r_nil ?_
        refine a_ret ?_
        refine ret1 Try.results174 (by decide) (by decide) (Weak.of_eq (int_eq ?_)) rfl Leaves.nil
        rw [hlen]; simp
      ·
        skip
        refine a_skip ?_
        refine a_seq ?_
        refine a_pre (ent_eq (t := 0) (v' := .int .u64 ((lx 8 (lx 16 (lx 32 n)) : Nat) : Int)) (Weak.of_eq (int_eq (congrArg Nat.cast (by first | exact (if_pos (show 2 ^ 8 ≤ lx 16 (lx 32 n) by simp at ht14; omega)).symm | exact (if_neg (show ¬ 2 ^ 8 ≤ lx 16 (lx 32 n) by simp at ht14; omega)).symm))))) ?_
        refine a_pre (ent_eq (t := 2) (v' := .int .i64 ((ll 32 n + ll 16 (lx 32 n) + ll 8 (lx 16 (lx 32 n)) : Nat) : Int)) (Weak.of_eq (int_eq (by first | (rw [show ll 8 (lx 16 (lx 32 n)) = 8 from if_pos (show 2 ^ 8 ≤ lx 16 (lx 32 n) by simp at ht14; omega)]; rfl) | (rw [show ll 8 (lx 16 (lx 32 n)) = 0 from if_neg (show ¬ 2 ^ 8 ≤ lx 16 (lx 32 n) by simp at ht14; omega)]; rfl))))) ?_
        refine a_region ?_
        refine r_val (v := .int _ _) (v_move (.inl rfl) (noOwn_flat rfl)) rfl rfl (by decide) ?_
        refine r_val (v := .int _ _) (v_move (.inl rfl) (noOwn_flat rfl)) rfl rfl (by decide) ?_
        refine r_val (v := .int .u8 ((lx 8 (lx 16 (lx 32 n)) : Nat) : Int)) (v_conv iss176 uni5 (.inl rfl) (fun _ => IntWalk.u8_in _ (by omega))) rfl rfl (by decide) ?_
        refine r_val (v := .int .u8 ((bitsLen (lx 8 (lx 16 (lx 32 n))) : Nat) : Int)) ((v_index_str un9 (.inl rfl) (.inl rfl) (fun _ => ⟨by omega, Int.lt_of_lt_of_le (Int.ofNat_lt.2 hx3) (by decide +kernel)⟩)).cast (int_eq (congrArg Nat.cast (by revert hx3; generalize lx 8 (lx 16 (lx 32 n)) = m; revert m; decide +kernel)))) rfl rfl (by decide) ?_
        refine r_val (v := .int _ _) (v_conv iss5 uni3 (.inl rfl) (fun _ => by first | rfl | exact IntWalk.i64_in _ (by omega))) rfl rfl (by decide) ?_
        refine r_val (v := .int _ _) (v_add (.inl rfl) (.inl rfl) (fun _ => by omega)) rfl rfl (by decide) ?_
        refine r_val (v := .int _ _) (v_assign (.inl rfl) (noOwn_flat rfl)) rfl rfl (by decide) ?_
        refine r_nil ?_
        refine a_ret ?_
        refine ret1 Try.results174 (by decide) (by decide) (Weak.of_eq (int_eq ?_)) rfl Leaves.nil
        rw [hlen]; simp
    ·
      skip
      refine a_skip ?_
      refine a_seq ?_
      refine a_seq ?_
      refine a_pre (ent_eq (t := 0) (v' := .int .u64 ((lx 16 (lx 32 n) : Nat) : Int)) (Weak.of_eq (int_eq (congrArg Nat.cast (by first | exact (if_pos (show 2 ^ 16 ≤ lx 32 n by simp at ht8; omega)).symm | exact (if_neg (show ¬ 2 ^ 16 ≤ lx 32 n by simp at ht8; omega)).symm))))) ?_
      refine a_pre (ent_eq (t := 2) (v' := .int .i64 ((ll 32 n + ll 16 (lx 32 n) : Nat) : Int)) (Weak.of_eq (int_eq (by first | (rw [show ll 16 (lx 32 n) = 16 from if_pos (show 2 ^ 16 ≤ lx 32 n by simp at ht8; omega)]; rfl) | (rw [show ll 16 (lx 32 n) = 0 from if_neg (show ¬ 2 ^ 16 ≤ lx 32 n by simp at ht8; omega)]; rfl))))) ?_
      refine a_region ?_
      refine r_val (v := .int _ _) (v_move (.inl rfl) (noOwn_flat rfl)) rfl rfl (by decide) ?_
      refine r_val (v := .bool _) (v_geq (.inl rfl) (.inl rfl)) rfl rfl (by decide) ?_
      refine r_nil ?_
      refine a_cond rfl (fun ht14 => ?_) (fun ht14 => ?_)
      ·
        skip
        refine a_seq ?_
        refine a_region ?_
        refine r_val (v := .int _ _) (v_move (.inl rfl) (noOwn_flat rfl)) rfl rfl (by decide) ?_
        refine r_val (v := .int .u64 ((lx 16 (lx 32 n) / 256 : Nat) : Int)) ((v_shru (.inl rfl) (.inl rfl) (fun _ => by omega)).cast (int_eq (by simp))) rfl rfl (by decide) ?_
        refine r_val (v := .int _ _) (v_assign (.inl rfl) (noOwn_flat rfl)) rfl rfl (by decide) ?_
        refine r_nil ?_
        refine a_region ?_
        refine r_val (v := .int _ _) (v_move (.inl rfl) (noOwn_flat rfl)) rfl rfl (by decide) ?_
        refine r_val (v := .int _ _) (v_add (.inl rfl) (.inl rfl) (fun _ => by omega)) rfl rfl (by decide) ?_
        refine r_val (v := .int _ _) (v_assign (.inl rfl) (noOwn_flat rfl)) rfl rfl (by decide) ?_
        refine r_nil ?_
        refine a_seq ?_
        refine a_pre (ent_eq (t := 0) (v' := .int .u64 ((lx 8 (lx 16 (lx 32 n)) : Nat) : Int)) (Weak.of_eq (int_eq (congrArg Nat.cast (by first | exact (if_pos (show 2 ^ 8 ≤ lx 16 (lx 32 n) by simp at ht14; omega)).symm | exact (if_neg (show ¬ 2 ^ 8 ≤ lx 16 (lx 32 n) by simp at ht14; omega)).symm))))) ?_
        refine a_pre (ent_eq (t := 2) (v' := .int .i64 ((ll 32 n + ll 16 (lx 32 n) + ll 8 (lx 16 (lx 32 n)) : Nat) : Int)) (Weak.of_eq (int_eq (by first | (rw [show ll 8 (lx 16 (lx 32 n)) = 8 from if_pos (show 2 ^ 8 ≤ lx 16 (lx 32 n) by simp at ht14; omega)]; rfl) | (rw [show ll 8 (lx 16 (lx 32 n)) = 0 from if_neg (show ¬ 2 ^ 8 ≤ lx 16 (lx 32 n) by simp at ht14; omega)]; rfl))))) ?_
        refine a_region ?_
        refine r_val (v := .int _ _) (v_move (.inl rfl) (noOwn_flat rfl)) rfl rfl (by decide) ?_
        refine r_val (v := .int _ _) (v_move (.inl rfl) (noOwn_flat rfl)) rfl rfl (by decide) ?_
        refine r_val (v := .int .u8 ((lx 8 (lx 16 (lx 32 n)) : Nat) : Int)) (v_conv iss176 uni5 (.inl rfl) (fun _ => IntWalk.u8_in _ (by omega))) rfl rfl (by decide) ?_
        refine r_val (v := .int .u8 ((bitsLen (lx 8 (lx 16 (lx 32 n))) : Nat) : Int)) ((v_index_str un9 (.inl rfl) (.inl rfl) (fun _ => ⟨by omega, Int.lt_of_lt_of_le (Int.ofNat_lt.2 hx3) (by decide +kernel)⟩)).cast (int_eq (congrArg Nat.cast (by revert hx3; generalize lx 8 (lx 16 (lx 32 n)) = m; revert m; decide +kernel)))) rfl rfl (by decide) ?_
        refine r_val (v := .int _ _) (v_conv iss5 uni3 (.inl rfl) (fun _ => by first | rfl | exact IntWalk.i64_in _ (by omega))) rfl rfl (by decide) ?_
        refine r_val (v := .int _ _) (v_add (.inl rfl) (.inl rfl) (fun _ => by omega)) rfl rfl (by decide) ?_
        refine r_val (v := .int _ _) (v_assign (.inl rfl) (noOwn_flat rfl)) rfl rfl (by decide) ?_
        refine r_nil ?_
        refine a_ret ?_
        refine ret1 Try.results174 (by decide) (by decide) (Weak.of_eq (int_eq ?_)) rfl Leaves.nil
        rw [hlen]; simp
      ·
        skip
        refine a_skip ?_
        refine a_seq ?_
        refine a_pre (ent_eq (t := 0) (v' := .int .u64 ((lx 8 (lx 16 (lx 32 n)) : Nat) : Int)) (Weak.of_eq (int_eq (congrArg Nat.cast (by first | exact (if_pos (show 2 ^ 8 ≤ lx 16 (lx 32 n) by simp at ht14; omega)).symm | exact (if_neg (show ¬ 2 ^ 8 ≤ lx 16 (lx 32 n) by simp at ht14; omega)).symm))))) ?_
        refine a_pre (ent_eq (t := 2) (v' := .int .i64 ((ll 32 n + ll 16 (lx 32 n) + ll 8 (lx 16 (lx 32 n)) : Nat) : Int)) (Weak.of_eq (int_eq (by first | (rw [show ll 8 (lx 16 (lx 32 n)) = 8 from if_pos (show 2 ^ 8 ≤ lx 16 (lx 32 n) by simp at ht14; omega)]; rfl) | (rw [show ll 8 (lx 16 (lx 32 n)) = 0 from if_neg (show ¬ 2 ^ 8 ≤ lx 16 (lx 32 n) by simp at ht14; omega)]; rfl))))) ?_
        refine a_region ?_
        refine r_val (v := .int _ _) (v_move (.inl rfl) (noOwn_flat rfl)) rfl rfl (by decide) ?_
        refine r_val (v := .int _ _) (v_move (.inl rfl) (noOwn_flat rfl)) rfl rfl (by decide) ?_
        refine r_val (v := .int .u8 ((lx 8 (lx 16 (lx 32 n)) : Nat) : Int)) (v_conv iss176 uni5 (.inl rfl) (fun _ => IntWalk.u8_in _ (by omega))) rfl rfl (by decide) ?_
        refine r_val (v := .int .u8 ((bitsLen (lx 8 (lx 16 (lx 32 n))) : Nat) : Int)) ((v_index_str un9 (.inl rfl) (.inl rfl) (fun _ => ⟨by omega, Int.lt_of_lt_of_le (Int.ofNat_lt.2 hx3) (by decide +kernel)⟩)).cast (int_eq (congrArg Nat.cast (by revert hx3; generalize lx 8 (lx 16 (lx 32 n)) = m; revert m; decide +kernel)))) rfl rfl (by decide) ?_
        refine r_val (v := .int _ _) (v_conv iss5 uni3 (.inl rfl) (fun _ => by first | rfl | exact IntWalk.i64_in _ (by omega))) rfl rfl (by decide) ?_
        refine r_val (v := .int _ _) (v_add (.inl rfl) (.inl rfl) (fun _ => by omega)) rfl rfl (by decide) ?_
        refine r_val (v := .int _ _) (v_assign (.inl rfl) (noOwn_flat rfl)) rfl rfl (by decide) ?_
        refine r_nil ?_
        refine a_ret ?_
        refine ret1 Try.results174 (by decide) (by decide) (Weak.of_eq (int_eq ?_)) rfl Leaves.nil
        rw [hlen]; simp
  ·
    skip
    refine a_skip ?_
    refine a_seq ?_
    refine a_seq ?_
    refine a_pre (ent_eq (t := 0) (v' := .int .u64 ((lx 32 n : Nat) : Int)) (Weak.of_eq (int_eq (congrArg Nat.cast (by first | exact (if_pos (show 2 ^ 32 ≤ n by simp at ht4; omega)).symm | exact (if_neg (show ¬ 2 ^ 32 ≤ n by simp at ht4; omega)).symm))))) ?_
    refine a_pre (ent_eq (t := 2) (v' := .int .i64 ((ll 32 n : Nat) : Int)) (Weak.of_eq (int_eq (by first | (rw [show ll 32 (n) = 32 from if_pos (show 2 ^ 32 ≤ n by simp at ht4; omega)]; rfl) | (rw [show ll 32 (n) = 0 from if_neg (show ¬ 2 ^ 32 ≤ n by simp at ht4; omega)]; rfl))))) ?_
    refine a_region ?_
    refine r_val (v := .int _ _) (v_move (.inl rfl) (noOwn_flat rfl)) rfl rfl (by decide) ?_
    refine r_val (v := .bool _) (v_geq (.inl rfl) (.inl rfl)) rfl rfl (by decide) ?_
    refine r_nil ?_
    refine a_cond rfl (fun ht8 => ?_) (fun ht8 => ?_)
    ·
      skip
      refine a_seq ?_
      refine a_region ?_
      refine r_val (v := .int _ _) (v_move (.inl rfl) (noOwn_flat rfl)) rfl rfl (by decide) ?_
      refine r_val (v := .int .u64 ((lx 32 n / 65536 : Nat) : Int)) ((v_shru (.inl rfl) (.inl rfl) (fun _ => by omega)).cast (int_eq (by simp))) rfl rfl (by decide) ?_
      refine r_val (v := .int _ _) (v_assign (.inl rfl) (noOwn_flat rfl)) rfl rfl (by decide) ?_
      refine r_nil ?_
      refine a_region ?_
      refine r_val (v := .int _ _) (v_move (.inl rfl) (noOwn_flat rfl)) rfl rfl (by decide) ?_
      refine r_val (v := .int _ _) (v_add (.inl rfl) (.inl rfl) (fun _ => by omega)) rfl rfl (by decide) ?_
      refine r_val (v := .int _ _) (v_assign (.inl rfl) (noOwn_flat rfl)) rfl rfl (by decide) ?_
      refine r_nil ?_
      refine a_seq ?_
      refine a_seq ?_
      refine a_pre (ent_eq (t := 0) (v' := .int .u64 ((lx 16 (lx 32 n) : Nat) : Int)) (Weak.of_eq (int_eq (congrArg Nat.cast (by first | exact (if_pos (show 2 ^ 16 ≤ lx 32 n by simp at ht8; omega)).symm | exact (if_neg (show ¬ 2 ^ 16 ≤ lx 32 n by simp at ht8; omega)).symm))))) ?_
      refine a_pre (ent_eq (t := 2) (v' := .int .i64 ((ll 32 n + ll 16 (lx 32 n) : Nat) : Int)) (Weak.of_eq (int_eq (by first | (rw [show ll 16 (lx 32 n) = 16 from if_pos (show 2 ^ 16 ≤ lx 32 n by simp at ht8; omega)]; rfl) | (rw [show ll 16 (lx 32 n) = 0 from if_neg (show ¬ 2 ^ 16 ≤ lx 32 n by simp at ht8; omega)]; rfl))))) ?_
      refine a_region ?_
      refine r_val (v := .int _ _) (v_move (.inl rfl) (noOwn_flat rfl)) rfl rfl (by decide) ?_
      refine r_val (v := .bool _) (v_geq (.inl rfl) (.inl rfl)) rfl rfl (by decide) ?_
      refine r_nil ?_
      refine a_cond rfl (fun ht14 => ?_) (fun ht14 => ?_)
      ·
        skip
        refine a_seq ?_
        refine a_region ?_
        refine r_val (v := .int _ _) (v_move (.inl rfl) (noOwn_flat rfl)) rfl rfl (by decide) ?_
        refine r_val (v := .int .u64 ((lx 16 (lx 32 n) / 256 : Nat) : Int)) ((v_shru (.inl rfl) (.inl rfl) (fun _ => by omega)).cast (int_eq (by simp))) rfl rfl (by decide) ?_
        refine r_val (v := .int _ _) (v_assign (.inl rfl) (noOwn_flat rfl)) rfl rfl (by decide) ?_
        refine r_nil ?_
        refine a_region ?_
        refine r_val (v := .int _ _) (v_move (.inl rfl) (noOwn_flat rfl)) rfl rfl (by decide) ?_
        refine r_val (v := .int _ _) (v_add (.inl rfl) (.inl rfl) (fun _ => by omega)) rfl rfl (by decide) ?_
        refine r_val (v := .int _ _) (v_assign (.inl rfl) (noOwn_flat rfl)) rfl rfl (by decide) ?_
        refine r_nil ?_
        refine a_seq ?_
        refine a_pre (ent_eq (t := 0) (v' := .int .u64 ((lx 8 (lx 16 (lx 32 n)) : Nat) : Int)) (Weak.of_eq (int_eq (congrArg Nat.cast (by first | exact (if_pos (show 2 ^ 8 ≤ lx 16 (lx 32 n) by simp at ht14; omega)).symm | exact (if_neg (show ¬ 2 ^ 8 ≤ lx 16 (lx 32 n) by simp at ht14; omega)).symm))))) ?_
        refine a_pre (ent_eq (t := 2) (v' := .int .i64 ((ll 32 n + ll 16 (lx 32 n) + ll 8 (lx 16 (lx 32 n)) : Nat) : Int)) (Weak.of_eq (int_eq (by first | (rw [show ll 8 (lx 16 (lx 32 n)) = 8 from if_pos (show 2 ^ 8 ≤ lx 16 (lx 32 n) by simp at ht14; omega)]; rfl) | (rw [show ll 8 (lx 16 (lx 32 n)) = 0 from if_neg (show ¬ 2 ^ 8 ≤ lx 16 (lx 32 n) by simp at ht14; omega)]; rfl))))) ?_
        refine a_region ?_
        refine r_val (v := .int _ _) (v_move (.inl rfl) (noOwn_flat rfl)) rfl rfl (by decide) ?_
        refine r_val (v := .int _ _) (v_move (.inl rfl) (noOwn_flat rfl)) rfl rfl (by decide) ?_
        refine r_val (v := .int .u8 ((lx 8 (lx 16 (lx 32 n)) : Nat) : Int)) (v_conv iss176 uni5 (.inl rfl) (fun _ => IntWalk.u8_in _ (by omega))) rfl rfl (by decide) ?_
        refine r_val (v := .int .u8 ((bitsLen (lx 8 (lx 16 (lx 32 n))) : Nat) : Int)) ((v_index_str un9 (.inl rfl) (.inl rfl) (fun _ => ⟨by omega, Int.lt_of_lt_of_le (Int.ofNat_lt.2 hx3) (by decide +kernel)⟩)).cast (int_eq (congrArg Nat.cast (by revert hx3; generalize lx 8 (lx 16 (lx 32 n)) = m; revert m; decide +kernel)))) rfl rfl (by decide) ?_
        refine r_val (v := .int _ _) (v_conv iss5 uni3 (.inl rfl) (fun _ => by first | rfl | exact IntWalk.i64_in _ (by omega))) rfl rfl (by decide) ?_
        refine r_val (v := .int _ _) (v_add (.inl rfl) (.inl rfl) (fun _ => by omega)) rfl rfl (by decide) ?_
        refine r_val (v := .int _ _) (v_assign (.inl rfl) (noOwn_flat rfl)) rfl rfl (by decide) ?_
        refine r_nil ?_
        refine a_ret ?_
        refine ret1 Try.results174 (by decide) (by decide) (Weak.of_eq (int_eq ?_)) rfl Leaves.nil
        rw [hlen]; simp
      ·
        skip
        refine a_skip ?_
        refine a_seq ?_
        refine a_pre (ent_eq (t := 0) (v' := .int .u64 ((lx 8 (lx 16 (lx 32 n)) : Nat) : Int)) (Weak.of_eq (int_eq (congrArg Nat.cast (by first | exact (if_pos (show 2 ^ 8 ≤ lx 16 (lx 32 n) by simp at ht14; omega)).symm | exact (if_neg (show ¬ 2 ^ 8 ≤ lx 16 (lx 32 n) by simp at ht14; omega)).symm))))) ?_
        refine a_pre (ent_eq (t := 2) (v' := .int .i64 ((ll 32 n + ll 16 (lx 32 n) + ll 8 (lx 16 (lx 32 n)) : Nat) : Int)) (Weak.of_eq (int_eq (by first | (rw [show ll 8 (lx 16 (lx 32 n)) = 8 from if_pos (show 2 ^ 8 ≤ lx 16 (lx 32 n) by simp at ht14; omega)]; rfl) | (rw [show ll 8 (lx 16 (lx 32 n)) = 0 from if_neg (show ¬ 2 ^ 8 ≤ lx 16 (lx 32 n) by simp at ht14; omega)]; rfl))))) ?_
        refine a_region ?_
        refine r_val (v := .int _ _) (v_move (.inl rfl) (noOwn_flat rfl)) rfl rfl (by decide) ?_
        refine r_val (v := .int _ _) (v_move (.inl rfl) (noOwn_flat rfl)) rfl rfl (by decide) ?_
        refine r_val (v := .int .u8 ((lx 8 (lx 16 (lx 32 n)) : Nat) : Int)) (v_conv iss176 uni5 (.inl rfl) (fun _ => IntWalk.u8_in _ (by omega))) rfl rfl (by decide) ?_
        refine r_val (v := .int .u8 ((bitsLen (lx 8 (lx 16 (lx 32 n))) : Nat) : Int)) ((v_index_str un9 (.inl rfl) (.inl rfl) (fun _ => ⟨by omega, Int.lt_of_lt_of_le (Int.ofNat_lt.2 hx3) (by decide +kernel)⟩)).cast (int_eq (congrArg Nat.cast (by revert hx3; generalize lx 8 (lx 16 (lx 32 n)) = m; revert m; decide +kernel)))) rfl rfl (by decide) ?_
        refine r_val (v := .int _ _) (v_conv iss5 uni3 (.inl rfl) (fun _ => by first | rfl | exact IntWalk.i64_in _ (by omega))) rfl rfl (by decide) ?_
        refine r_val (v := .int _ _) (v_add (.inl rfl) (.inl rfl) (fun _ => by omega)) rfl rfl (by decide) ?_
        refine r_val (v := .int _ _) (v_assign (.inl rfl) (noOwn_flat rfl)) rfl rfl (by decide) ?_
        refine r_nil ?_
        refine a_ret ?_
        refine ret1 Try.results174 (by decide) (by decide) (Weak.of_eq (int_eq ?_)) rfl Leaves.nil
        rw [hlen]; simp
    ·
      skip
      refine a_skip ?_
      refine a_seq ?_
      refine a_seq ?_
      refine a_pre (ent_eq (t := 0) (v' := .int .u64 ((lx 16 (lx 32 n) : Nat) : Int)) (Weak.of_eq (int_eq (congrArg Nat.cast (by first | exact (if_pos (show 2 ^ 16 ≤ lx 32 n by simp at ht8; omega)).symm | exact (if_neg (show ¬ 2 ^ 16 ≤ lx 32 n by simp at ht8; omega)).symm))))) ?_
      refine a_pre (ent_eq (t := 2) (v' := .int .i64 ((ll 32 n + ll 16 (lx 32 n) : Nat) : Int)) (Weak.of_eq (int_eq (by first | (rw [show ll 16 (lx 32 n) = 16 from if_pos (show 2 ^ 16 ≤ lx 32 n by simp at ht8; omega)]; rfl) | (rw [show ll 16 (lx 32 n) = 0 from if_neg (show ¬ 2 ^ 16 ≤ lx 32 n by simp at ht8; omega)]; rfl))))) ?_
      refine a_region ?_
      refine r_val (v := .int _ _) (v_move (.inl rfl) (noOwn_flat rfl)) rfl rfl (by decide) ?_
      refine r_val (v := .bool _) (v_geq (.inl rfl) (.inl rfl)) rfl rfl (by decide) ?_
      refine r_nil ?_
      refine a_cond rfl (fun ht14 => ?_) (fun ht14 => ?_)
      ·
        skip
        refine a_seq ?_
        refine a_region ?_
        refine r_val (v := .int _ _) (v_move (.inl rfl) (noOwn_flat rfl)) rfl rfl (by decide) ?_
        refine r_val (v := .int .u64 ((lx 16 (lx 32 n) / 256 : Nat) : Int)) ((v_shru (.inl rfl) (.inl rfl) (fun _ => by omega)).cast (int_eq (by simp))) rfl rfl (by decide) ?_
        refine r_val (v := .int _ _) (v_assign (.inl rfl) (noOwn_flat rfl)) rfl rfl (by decide) ?_
        refine r_nil ?_
        refine a_region ?_
        refine r_val (v := .int _ _) (v_move (.inl rfl) (noOwn_flat rfl)) rfl rfl (by decide) ?_
        refine r_val (v := .int _ _) (v_add (.inl rfl) (.inl rfl) (fun _ => by omega)) rfl rfl (by decide) ?_
        refine r_val (v := .int _ _) (v_assign (.inl rfl) (noOwn_flat rfl)) rfl rfl (by decide) ?_
        refine r_nil ?_
        refine a_seq ?_
        refine a_pre (ent_eq (t := 0) (v' := .int .u64 ((lx 8 (lx 16 (lx 32 n)) : Nat) : Int)) (Weak.of_eq (int_eq (congrArg Nat.cast (by first | exact (if_pos (show 2 ^ 8 ≤ lx 16 (lx 32 n) by simp at ht14; omega)).symm | exact (if_neg (show ¬ 2 ^ 8 ≤ lx 16 (lx 32 n) by simp at ht14; omega)).symm))))) ?_
        refine a_pre (ent_eq (t := 2) (v' := .int .i64 ((ll 32 n + ll 16 (lx 32 n) + ll 8 (lx 16 (lx 32 n)) : Nat) : Int)) (Weak.of_eq (int_eq (by first | (rw [show ll 8 (lx 16 (lx 32 n)) = 8 from if_pos (show 2 ^ 8 ≤ lx 16 (lx 32 n) by simp at ht14; omega)]; rfl) | (rw [show ll 8 (lx 16 (lx 32 n)) = 0 from if_neg (show ¬ 2 ^ 8 ≤ lx 16 (lx 32 n) by simp at ht14; omega)]; rfl))))) ?_
        refine a_region ?_
        refine r_val (v := .int _ _) (v_move (.inl rfl) (noOwn_flat rfl)) rfl rfl (by decide) ?_
        refine r_val (v := .int _ _) (v_move (.inl rfl) (noOwn_flat rfl)) rfl rfl (by decide) ?_
        refine r_val (v := .int .u8 ((lx 8 (lx 16 (lx 32 n)) : Nat) : Int)) (v_conv iss176 uni5 (.inl rfl) (fun _ => IntWalk.u8_in _ (by omega))) rfl rfl (by decide) ?_
        refine r_val (v := .int .u8 ((bitsLen (lx 8 (lx 16 (lx 32 n))) : Nat) : Int)) ((v_index_str un9 (.inl rfl) (.inl rfl) (fun _ => ⟨by omega, Int.lt_of_lt_of_le (Int.ofNat_lt.2 hx3) (by decide +kernel)⟩)).cast (int_eq (congrArg Nat.cast (by revert hx3; generalize lx 8 (lx 16 (lx 32 n)) = m; revert m; decide +kernel)))) rfl rfl (by decide) ?_
        refine r_val (v := .int _ _) (v_conv iss5 uni3 (.inl rfl) (fun _ => by first | rfl | exact IntWalk.i64_in _ (by omega))) rfl rfl (by decide) ?_
        refine r_val (v := .int _ _) (v_add (.inl rfl) (.inl rfl) (fun _ => by omega)) rfl rfl (by decide) ?_
        refine r_val (v := .int _ _) (v_assign (.inl rfl) (noOwn_flat rfl)) rfl rfl (by decide) ?_
        refine r_nil ?_
        refine a_ret ?_
        refine ret1 Try.results174 (by decide) (by decide) (Weak.of_eq (int_eq ?_)) rfl Leaves.nil
        rw [hlen]; simp
      ·
        skip
        refine a_skip ?_
        refine a_seq ?_
        refine a_pre (ent_eq (t := 0) (v' := .int .u64 ((lx 8 (lx 16 (lx 32 n)) : Nat) : Int)) (Weak.of_eq (int_eq (congrArg Nat.cast (by first | exact (if_pos (show 2 ^ 8 ≤ lx 16 (lx 32 n) by simp at ht14; omega)).symm | exact (if_neg (show ¬ 2 ^ 8 ≤ lx 16 (lx 32 n) by simp at ht14; omega)).symm))))) ?_
        refine a_pre (ent_eq (t := 2) (v' := .int .i64 ((ll 32 n + ll 16 (lx 32 n) + ll 8 (lx 16 (lx 32 n)) : Nat) : Int)) (Weak.of_eq (int_eq (by first | (rw [show ll 8 (lx 16 (lx 32 n)) = 8 from if_pos (show 2 ^ 8 ≤ lx 16 (lx 32 n) by simp at ht14; omega)]; rfl) | (rw [show ll 8 (lx 16 (lx 32 n)) = 0 from if_neg (show ¬ 2 ^ 8 ≤ lx 16 (lx 32 n) by simp at ht14; omega)]; rfl))))) ?_
        refine a_region ?_
        refine r_val (v := .int _ _) (v_move (.inl rfl) (noOwn_flat rfl)) rfl rfl (by decide) ?_
        refine r_val (v := .int _ _) (v_move (.inl rfl) (noOwn_flat rfl)) rfl rfl (by decide) ?_
        refine r_val (v := .int .u8 ((lx 8 (lx 16 (lx 32 n)) : Nat) : Int)) (v_conv iss176 uni5 (.inl rfl) (fun _ => IntWalk.u8_in _ (by omega))) rfl rfl (by decide) ?_
        refine r_val (v := .int .u8 ((bitsLen (lx 8 (lx 16 (lx 32 n))) : Nat) : Int)) ((v_index_str un9 (.inl rfl) (.inl rfl) (fun _ => ⟨by omega, Int.lt_of_lt_of_le (Int.ofNat_lt.2 hx3) (by decide +kernel)⟩)).cast (int_eq (congrArg Nat.cast (by revert hx3; generalize lx 8 (lx 16 (lx 32 n)) = m; revert m; decide +kernel)))) rfl rfl (by decide) ?_
        refine r_val (v := .int _ _) (v_conv iss5 uni3 (.inl rfl) (fun _ => by first | rfl | exact IntWalk.i64_in _ (by omega))) rfl rfl (by decide) ?_
        refine r_val (v := .int _ _) (v_add (.inl rfl) (.inl rfl) (fun _ => by omega)) rfl rfl (by decide) ?_
        refine r_val (v := .int _ _) (v_assign (.inl rfl) (noOwn_flat rfl)) rfl rfl (by decide) ?_
        refine r_nil ?_
        refine a_ret ?_
        refine ret1 Try.results174 (by decide) (by decide) (Weak.of_eq (int_eq ?_)) rfl Leaves.nil
        rw [hlen]; simp
end Go.Av
namespace Go.Av
open Go Go.Proofs Go.Sort
set_option maxRecDepth 10000
theorem hb160 : hasBody Try.prog 160 = true := by kernel_rfl
theorem hb174 : hasBody Try.prog 174 = true := by kernel_rfl

theorem len_c (n : Nat) (h : n < 18446744073709551616) : ACall Try.prog 160 [.int .u64 ((n : Nat) : Int)] [] (.int .i64 ((bitsLen n : Nat) : Int)) [] := by
  refine ACall.intro Try.func160 rfl (N := 8) rfl (by decide) (by simp) ?_
  refine a_seq ?_
  refine a_region ?_
  refine r_val (v := .int _ _) (v_assign (.inl rfl) (noOwn_flat rfl)) rfl rfl (by decide) ?_
  refine r_nil ?_
  refine a_seq ?_
  refine a_condF ?_
  refine a_skip ?_
  refine a_seq ?_
  refine a_region ?_
  refine r_val (v := .int _ _) (v_move (.inl rfl) (noOwn_flat rfl)) rfl rfl (by decide) ?_
  refine r_new (v := .int _ _) (q_call (vs := [.int _ _]) (args := [.int .u64 ((_ : Nat) : Int)]) hb174 ⟨.inl rfl, trivial⟩ rfl (fun hA => len64_c _ h) rfl rfl) rfl rfl (by decide) ?_
  refine r_val (v := .int _ _) (v_assign (.inl rfl) (noOwn_flat rfl)) rfl rfl (by decide) ?_
  refine r_nil ?_
  refine a_ret ?_
  refine ret1 Try.results160 (by decide) (by decide) (Weak.of_eq (int_eq ?_)) rfl Leaves.nil
  rfl

theorem nextPow_c (n : Nat) (h : n ≤ 1152921504606846976) : ACall Try.prog 177 [.int .i64 ((n : Nat) : Int)] [] (.int .u64 ((2 ^ bitsLen n : Nat) : Int)) [] := by
  have hb : bitsLen n ≤ 61 := (bitsLen_le_iff _ _).2 (by omega)
  have hp : 2 ^ bitsLen n ≤ 2 ^ 61 := Nat.pow_le_pow_right (by decide) hb
  refine ACall.intro Try.func177 rfl (N := 7) rfl (by decide) (by simp) ?_
  refine a_seq ?_
  refine a_region ?_
  refine r_val (v := .int _ _) (v_assign (.inl rfl) (noOwn_flat rfl)) rfl rfl (by decide) ?_
  refine r_nil ?_
  refine a_seq ?_
  refine a_region ?_
  refine r_val (v := .int _ _) (v_move (.inl rfl) (noOwn_flat rfl)) rfl rfl (by decide) ?_
  refine r_val (v := .int _ _) (v_conv iss3 uni170 (.inl rfl) (fun _ => IntWalk.u64_in _ (by omega))) rfl rfl (by decide) ?_
  refine r_new (v := .int _ _) (q_call (vs := [.int _ _]) (args := [.int .u64 ((_ : Nat) : Int)]) hb160 ⟨.inl rfl, trivial⟩ rfl (fun hA => len_c _ (by omega)) rfl rfl) rfl rfl (by decide) ?_
  refine r_val (v := .int .u64 ((2 ^ bitsLen n : Nat) : Int)) ((v_shlu (m := 1) (.inl rfl) (.inl rfl) (fun _ => by omega)).cast (int_eq (congrArg Nat.cast (by rw [Nat.one_mul, Int.toNat_natCast]; exact Nat.mod_eq_of_lt (by omega))))) rfl rfl (by decide) ?_
  refine r_val (v := .int _ _) (v_assign (.inl rfl) (noOwn_flat rfl)) rfl rfl (by decide) ?_
  refine r_nil ?_
  refine a_ret ?_
  refine ret1 Try.results177 (by decide) (by decide) (Weak.of_eq (int_eq ?_)) rfl Leaves.nil
  rfl
end Go.Av
namespace Go.Av
open Go Go.Proofs Go.Sort
set_option maxRecDepth 10000
theorem hb177 : hasBody Try.prog 177 = true := by kernel_rfl
theorem hb178 : hasBody Try.prog 178 = true := by kernel_rfl
theorem iss170 : (Try.prog.underlying 170).isSome = true := by kernel_rfl
theorem uni184 : Try.prog.underlying 184 = some (.int .u64) := by kernel_rfl
theorem zc184 : zeroCells Try.prog 184 = some [.int .u64 0] := by kernel_rfl

theorem breakPatterns_c (f : Nat) (d : Array Int) (n a b : Nat) (hd : d.size = n) (hab : a < b ∧ b ≤ n) (hn : n ≤ 1152921504606846976) : ACall Try.prog 167 [.rsl (INH, []) 1 0 n none, .int .i64 ((a : Nat) : Int), .int .i64 ((b : Nat) : Int), .fn f [] []] [.osl 1 (acells d) n none] (.tup []) [.osl 1 (acells (breakPatterns d a b)) n none] := by
  have hbl : bitsLen (b - a) ≤ 61 := (bitsLen_le_iff _ _).2 (by omega)
  have hpw : 2 ^ bitsLen (b - a) ≤ 2 ^ 61 := Nat.pow_le_pow_right (by decide) hbl
  have hp0 : 0 < 2 ^ bitsLen (b - a) := Nat.two_pow_pos _
  refine ACall.intro Try.func167 rfl (N := 67) rfl (by decide) (by simp) ?_
  refine a_seq ?_
  refine a_region ?_
  refine r_val (v := .int _ _) (v_move (.inl rfl) (noOwn_flat rfl)) rfl rfl (by decide) ?_
  refine r_val (v := .int _ _) (v_move (.inl rfl) (noOwn_flat rfl)) rfl rfl (by decide) ?_
  refine r_val (v := .int .i64 ((b - a : Nat) : Int)) ((v_sub (.inl rfl) (.inl rfl) (fun _ => by omega)).cast (int_eq (by omega))) rfl rfl (by decide) ?_
  refine r_val (v := .int _ _) (v_assign (.inl rfl) (noOwn_flat rfl)) rfl rfl (by decide) ?_
  refine r_nil ?_
  refine a_seq ?_
  refine a_region ?_
  refine r_val (v := .int _ _) (v_move (.inl rfl) (noOwn_flat rfl)) rfl rfl (by decide) ?_
  refine r_val (v := .bool _) (v_geq (.inl rfl) (.inl rfl)) rfl rfl (by decide) ?_
  refine r_nil ?_
  refine a_cond rfl (fun ht17 => ?_) (fun ht17 => ?_)
  ·
    skip
    refine a_seq ?_
    have h8 : b - a ≥ 8 := (by simp at ht17; omega)
    refine a_region ?_
    refine r_val (v := .int _ _) (v_move (.inl rfl) (noOwn_flat rfl)) rfl rfl (by decide) ?_
    refine r_val (v := .int _ _) (v_conv iss3 uni184 (.inl rfl) (fun _ => IntWalk.u64_in _ (by omega))) rfl rfl (by decide) ?_
    refine r_new (v := .op [.int _ _]) (q_alloc zc184) rfl rfl (by decide) ?_
    refine r_step rfl (o_store (v := .int _ _) (y' := .op [.int _ _]) rfl rfl ta184 (.inl rfl) (.inl rfl) rfl rfl rfl rfl rfl rfl (Nat.le_of_ble_eq_true rfl) (by decide) rfl rfl) ?_
    refine r_nil ?_
    refine a_seq ?_
    refine a_region ?_
    refine r_val (v := .int _ _) (v_move (.inl rfl) (noOwn_flat rfl)) rfl rfl (by decide) ?_
    refine r_new (v := .int _ _) (q_call (vs := [.int _ _]) (args := [.int .i64 ((_ : Nat) : Int)]) hb177 ⟨.inl rfl, trivial⟩ rfl (fun hA => nextPow_c (b - a) (by omega)) rfl rfl) rfl rfl (by decide) ?_
    refine r_val (v := .int _ _) (v_assign (.inl rfl) (noOwn_flat rfl)) rfl rfl (by decide) ?_
    refine r_nil ?_
    refine a_seq ?_
    refine a_region ?_
    refine r_val (v := .int _ _) (v_move (.inl rfl) (noOwn_flat rfl)) rfl rfl (by decide) ?_
    refine r_val (v := .int _ _) (v_move (.inl rfl) (noOwn_flat rfl)) rfl rfl (by decide) ?_
    refine r_val (v := .int .i64 (((b - a) / 4 : Nat) : Int)) ((v_quo (.inl rfl) (.inl rfl) (fun _ => by omega)).cast (int_eq (by omega))) rfl rfl (by decide) ?_
    refine r_val (v := .int .i64 (((b - a) / 4 * 2 : Nat) : Int)) ((v_mul (.inl rfl) (.inl rfl) (fun _ => by omega)).cast (int_eq (by omega))) rfl rfl (by decide) ?_
    refine r_val (v := .int .i64 ((a + (b - a) / 4 * 2 : Nat) : Int)) ((v_add (.inl rfl) (.inl rfl) (fun _ => by omega)).cast (int_eq (by omega))) rfl rfl (by decide) ?_
    refine r_val (v := .int .i64 ((a + (b - a) / 4 * 2 - 1 : Nat) : Int)) ((v_sub (.inl rfl) (.inl rfl) (fun _ => by omega)).cast (int_eq (by omega))) rfl rfl (by decide) ?_
    refine r_val (v := .int _ _) (v_assign (.inl rfl) (noOwn_flat rfl)) rfl rfl (by decide) ?_
    refine r_nil ?_
    refine a_block ?_
    refine a_loop (X := (Nat × Nat × Array Int)) (fun x => look [(0, .rsl (INH, []) 1 0 n none), (1, .int .i64 ((a : Nat) : Int)), (8, .int .i64 ((b - a : Nat) : Int)), (9, .op [.int .u64 ((x.2.1 : Nat) : Int)]), (10, .int .u64 ((2 ^ bitsLen (b - a) : Nat) : Int)), (11, .int .i64 (((a + (b - a) / 4 * 2 - 1 + x.1) : Nat) : Int)), (INH, .osl 1 (acells x.2.2) n none)]) (fun x => x.1 ≤ 3 ∧ x.2.1 < 18446744073709551616 ∧ x.2.2.size = n ∧ bpN a (b - a) (3 - x.1) (a + (b - a) / 4 * 2 - 1 + x.1) x.2.1 x.2.2 = breakPatterns d a b) (fun x => 3 - x.1) (0, b - a, d) (ent_look ⟨Weak.of_eq rfl, Weak.of_eq rfl, Weak.of_eq rfl, Weak.of_eq rfl, Weak.of_eq rfl, Weak.of_eq (int_eq (by dsimp only; omega)), Weak.of_eq rfl, trivial⟩) ⟨by dsimp only; omega, by dsimp only; omega, hd, (bp_eq h8 (by omega)).symm⟩ (fun x hG => ?_)
    obtain ⟨g1, g2, g3, g4⟩ := hG
    refine a_seq ?_
    refine a_seq ?_
    refine a_region ?_
    refine r_val (v := .int _ _) (v_move (.inl rfl) (noOwn_flat rfl)) rfl rfl (by decide) ?_
    refine r_val (v := .int _ _) (v_move (.inl rfl) (noOwn_flat rfl)) rfl rfl (by decide) ?_
    refine r_val (v := .int _ _) (v_move (.inl rfl) (noOwn_flat rfl)) rfl rfl (by decide) ?_
    refine r_val (v := .int .i64 (((b - a) / 4 : Nat) : Int)) ((v_quo (.inl rfl) (.inl rfl) (fun _ => by omega)).cast (int_eq (by omega))) rfl rfl (by decide) ?_
    refine r_val (v := .int .i64 (((b - a) / 4 * 2 : Nat) : Int)) ((v_mul (.inl rfl) (.inl rfl) (fun _ => by omega)).cast (int_eq (by omega))) rfl rfl (by decide) ?_
    refine r_val (v := .int .i64 ((a + (b - a) / 4 * 2 : Nat) : Int)) ((v_add (.inl rfl) (.inl rfl) (fun _ => by omega)).cast (int_eq (by omega))) rfl rfl (by decide) ?_
    refine r_val (v := .int .i64 ((a + (b - a) / 4 * 2 + 1 : Nat) : Int)) ((v_add (.inl rfl) (.inl rfl) (fun _ => by omega)).cast (int_eq (by omega))) rfl rfl (by decide) ?_
    refine r_val (v := .bool _) (v_leq (.inl rfl) (.inl rfl)) rfl rfl (by decide) ?_
    refine r_nil ?_
    refine a_cond rfl (fun ht35 => ?_) (fun ht35 => ?_)
    ·
      skip
      refine a_skip ?_
      refine a_seq ?_
      refine a_block ?_
      refine a_seq ?_
      have hx3 : x.1 < 3 := (by simp at ht35; omega)
      have hmk : xorNextN x.2.1 &&& (2 ^ bitsLen (b - a) - 1) ≤ 2 ^ bitsLen (b - a) - 1 := Nat.and_le_right
      have hnx := xorNextN_lt _ g2
      have hbo := bpO_lt (L := b - a) (r := x.2.1) (by omega)
      refine a_region ?_
      refine r_step rfl (o_callIOp (q := (9, [])) (vs := [.rp _ _]) (args := [.rp (INH, []) _]) (cs0 := [.int _ _]) (cs1 := [.int _ _]) (res := .int _ _) rfl hb178 rfl (by decide) ⟨.inl rfl, trivial⟩ rfl rfl (next_c x.2.1 g2) rfl rfl rfl rfl rfl (Nat.le_of_ble_eq_true rfl) (by decide) rfl) ?_
      refine r_val (v := .int _ _) (v_move (.inl rfl) (noOwn_flat rfl)) rfl rfl (by decide) ?_
      refine r_val (v := .int .u64 ((2 ^ bitsLen (b - a) - 1 : Nat) : Int)) ((v_subu (.inl rfl) (.inl rfl) (fun _ => by omega)).cast (int_eq (by omega))) rfl rfl (by decide) ?_
      refine r_val (v := .int _ _) (v_andn (.inl rfl) (.inl rfl) (fun _ => by omega)) rfl rfl (by decide) ?_
      refine r_val (v := .int _ _) (v_conv iss170 uni3 (.inl rfl) (fun _ => IntWalk.i64_in _ (by omega))) rfl rfl (by decide) ?_
      refine r_val (v := .int _ _) (v_assign (.inl rfl) (noOwn_flat rfl)) rfl rfl (by decide) ?_
      refine r_nil ?_
      refine a_seq ?_
      refine a_seq ?_
      refine a_region ?_
      refine r_val (v := .int _ _) (v_move (.inl rfl) (noOwn_flat rfl)) rfl rfl (by decide) ?_
      refine r_val (v := .int _ _) (v_move (.inl rfl) (noOwn_flat rfl)) rfl rfl (by decide) ?_
      refine r_val (v := .bool _) (v_geq (.inl rfl) (.inl rfl)) rfl rfl (by decide) ?_
      refine r_nil ?_
      refine a_cond rfl (fun ht45 => ?_) (fun ht45 => ?_)
      ·
        skip
        refine a_region ?_
        refine r_val (v := .int _ _) (v_move (.inl rfl) (noOwn_flat rfl)) rfl rfl (by decide) ?_
        refine r_val (v := .int _ _) (v_move (.inl rfl) (noOwn_flat rfl)) rfl rfl (by decide) ?_
        refine r_val (v := .int _ _) (v_sub (.inl rfl) (.inl rfl) (fun _ => by omega)) rfl rfl (by decide) ?_
        refine r_val (v := .int _ _) (v_assign (.inl rfl) (noOwn_flat rfl)) rfl rfl (by decide) ?_
        refine r_nil ?_
        refine a_pre (ent_eq (t := 12) (v' := .int .i64 ((bpO (b - a) x.2.1 : Nat) : Int)) (Weak.of_eq (int_eq (by first | (have h45 := of_decide_eq_true ht45; rw [show bpO (b - a) x.2.1 = (xorNextN x.2.1 &&& (2 ^ bitsLen (b - a) - 1)) - (b - a) from if_pos (by omega)]; omega) | (have h45 := of_decide_eq_false ht45; rw [show bpO (b - a) x.2.1 = (xorNextN x.2.1 &&& (2 ^ bitsLen (b - a) - 1)) from if_neg (by omega)]))))) ?_
        have hp1 : (a + (b - a) / 4 * 2 - 1 + x.1) * 1 + 1 ≤ (acells x.2.2).length := (by rw [acells_length]; omega)
        have hp2 : (a + bpO (b - a) x.2.1) * 1 + 1 ≤ ((acells x.2.2).set ((a + (b - a) / 4 * 2 - 1 + x.1) * 1) (.int .i64 x.2.2[(a + bpO (b - a) x.2.1)]!)).length := (by rw [List.length_set, acells_length]; omega)
        have hset : ((acells x.2.2).set ((a + (b - a) / 4 * 2 - 1 + x.1) * 1) (.int .i64 x.2.2[(a + bpO (b - a) x.2.1)]!)).set ((a + bpO (b - a) x.2.1) * 1) (.int .i64 x.2.2[(a + (b - a) / 4 * 2 - 1 + x.1)]!) = acells (swp x.2.2 (a + (b - a) / 4 * 2 - 1 + x.1) (a + bpO (b - a) x.2.1)) := (by rw [Nat.mul_one, Nat.mul_one]; exact acells_swp _ _ _)
        refine a_region_w [(49, true), (50, true), (51, true), (52, true), (53, true), (54, true), (55, true), (56, true), (57, true), (58, true), (59, true), (60, true), (61, true), (62, true), (63, true), (64, true), (65, true), (INH, false), (66, true), (INH, false)] mixed (by kernel_rfl) ?_
        refine w_val (v := .rsl _ _ _ _ _) (v_move (.inl rfl) (noOwn_flat rfl)) rfl rfl (by decide) rfl (by kernel_rfl) ?_
        refine w_val (v := .int _ _) (v_move (.inl rfl) (noOwn_flat rfl)) rfl rfl (by decide) rfl (by kernel_rfl) ?_
        refine w_val (v := .rsl _ _ _ _ _) (v_move (.inl rfl) (noOwn_flat rfl)) rfl rfl (by decide) rfl (by kernel_rfl) ?_
        refine w_val (v := .int _ _) (v_move (.inl rfl) (noOwn_flat rfl)) rfl rfl (by decide) rfl (by kernel_rfl) ?_
        refine w_val (v := .int _ _) (v_move (.inl rfl) (noOwn_flat rfl)) rfl rfl (by decide) rfl (by kernel_rfl) ?_
        refine w_val (v := .int .i64 (((a + bpO (b - a) x.2.1) : Nat) : Int)) ((v_add (.inl rfl) (.inl rfl) (fun _ => by omega)).cast (int_eq (by omega))) rfl rfl (by decide) rfl (by kernel_rfl) ?_
        refine w_val (v := .rsl _ _ _ _ _) (v_move (.inl rfl) (noOwn_flat rfl)) rfl rfl (by decide) rfl (by kernel_rfl) ?_
        refine w_val (v := .int _ _) (v_move (.inl rfl) (noOwn_flat rfl)) rfl rfl (by decide) rfl (by kernel_rfl) ?_
        refine w_val (v := .int _ _) (v_move (.inl rfl) (noOwn_flat rfl)) rfl rfl (by decide) rfl (by kernel_rfl) ?_
        refine w_val (v := .int .i64 (((a + bpO (b - a) x.2.1) : Nat) : Int)) ((v_add (.inl rfl) (.inl rfl) (fun _ => by omega)).cast (int_eq (by omega))) rfl rfl (by decide) rfl (by kernel_rfl) ?_
        refine w_val (v := .rp _ _) (v_indexAddr_rsl0 es25 (.inl rfl) (.inl rfl) (fun _ => by omega)) rfl rfl (by decide) rfl (by kernel_rfl) ?_
        refine w_val (v := .int .i64 x.2.2[(a + bpO (b - a) x.2.1)]!) (v_load_rp1 ta3 (.inl rfl) rfl (fun _ => by rw [Nat.mul_one]; exact acells_get (by omega)) rfl) rfl rfl (by decide) rfl (by kernel_rfl) ?_
        refine w_val (v := .rsl _ _ _ _ _) (v_move (.inl rfl) (noOwn_flat rfl)) rfl rfl (by decide) rfl (by kernel_rfl) ?_
        refine w_val (v := .int _ _) (v_move (.inl rfl) (noOwn_flat rfl)) rfl rfl (by decide) rfl (by kernel_rfl) ?_
        refine w_val (v := .rp _ _) (v_indexAddr_rsl0 es25 (.inl rfl) (.inl rfl) (fun _ => by omega)) rfl rfl (by decide) rfl (by kernel_rfl) ?_
        refine w_val (v := .int .i64 x.2.2[(a + (b - a) / 4 * 2 - 1 + x.1)]!) (v_load_rp1 ta3 (.inl rfl) rfl (fun _ => by rw [Nat.mul_one]; exact acells_get (by omega)) rfl) rfl rfl (by decide) rfl (by kernel_rfl) ?_
        refine w_val (v := .rp _ _) (v_indexAddr_rsl0 es25 (.inl rfl) (.inl rfl) (fun _ => by omega)) rfl rfl (by decide) rfl (by kernel_rfl) ?_
        refine w_store (v := .int _ _) (y' := .osl _ _ _ _) rfl rfl rfl ta3 (.inl rfl) (.inl rfl) rfl rfl rfl rfl rfl rfl hp1 (by decide) rfl rfl rfl (by kernel_rfl) ?_
        refine w_val (v := .rp _ _) (v_indexAddr_rsl0 es25 (.inl rfl) (.inl rfl) (fun _ => by omega)) rfl rfl (by decide) rfl (by kernel_rfl) ?_
        refine w_store (v := .int _ _) (y' := .osl _ _ _ _) rfl rfl rfl ta3 (.inl rfl) (.inl rfl) rfl rfl rfl rfl rfl rfl hp2 (by decide) rfl (congrArg (fun c => AV.osl 1 c n none) hset) rfl (by kernel_rfl) ?_
        refine w_nil ?_
        refine a_pre (ent_look (L := [(0, .rsl _ _ _ _ _), (1, .int _ _), (8, .int _ _), (9, .op [.int _ _]), (10, .int _ _), (11, .int _ _), (INH, .osl _ _ _ _)]) ⟨Weak.rfl, Weak.rfl, Weak.rfl, Weak.rfl, Weak.rfl, Weak.rfl, Weak.rfl, trivial⟩) ?_
        refine a_region ?_
        refine r_val (v := .int _ _) (v_move (.inl rfl) (noOwn_flat rfl)) rfl rfl (by decide) ?_
        refine r_val (v := .int _ _) (v_add (.inl rfl) (.inl rfl) (fun _ => by omega)) rfl rfl (by decide) ?_
        refine r_val (v := .int _ _) (v_assign (.inl rfl) (noOwn_flat rfl)) rfl rfl (by decide) ?_
        refine r_nil ?_
        refine ⟨(x.1 + 1, xorNextN x.2.1, swp x.2.2 (a + (b - a) / 4 * 2 - 1 + x.1) (a + bpO (b - a) x.2.1)), ent_look ⟨Weak.of_eq rfl, Weak.of_eq rfl, Weak.of_eq rfl, Weak.of_eq rfl, Weak.of_eq rfl, Weak.of_eq (int_eq (by dsimp only; omega)), Weak.of_eq rfl, trivial⟩, ⟨by dsimp only; omega, xorNextN_lt _ g2, by rw [swp_size]; exact g3, by rw [← g4, show 3 - x.1 = (3 - (x.1 + 1)) + 1 by omega]; rfl⟩, by dsimp only; omega⟩
      ·
        skip
        refine a_skip ?_
        refine a_pre (ent_eq (t := 12) (v' := .int .i64 ((bpO (b - a) x.2.1 : Nat) : Int)) (Weak.of_eq (int_eq (by first | (have h45 := of_decide_eq_true ht45; rw [show bpO (b - a) x.2.1 = (xorNextN x.2.1 &&& (2 ^ bitsLen (b - a) - 1)) - (b - a) from if_pos (by omega)]; omega) | (have h45 := of_decide_eq_false ht45; rw [show bpO (b - a) x.2.1 = (xorNextN x.2.1 &&& (2 ^ bitsLen (b - a) - 1)) from if_neg (by omega)]))))) ?_
        have hp1 : (a + (b - a) / 4 * 2 - 1 + x.1) * 1 + 1 ≤ (acells x.2.2).length := (by rw [acells_length]; omega)
        have hp2 : (a + bpO (b - a) x.2.1) * 1 + 1 ≤ ((acells x.2.2).set ((a + (b - a) / 4 * 2 - 1 + x.1) * 1) (.int .i64 x.2.2[(a + bpO (b - a) x.2.1)]!)).length := (by rw [List.length_set, acells_length]; omega)
        have hset : ((acells x.2.2).set ((a + (b - a) / 4 * 2 - 1 + x.1) * 1) (.int .i64 x.2.2[(a + bpO (b - a) x.2.1)]!)).set ((a + bpO (b - a) x.2.1) * 1) (.int .i64 x.2.2[(a + (b - a) / 4 * 2 - 1 + x.1)]!) = acells (swp x.2.2 (a + (b - a) / 4 * 2 - 1 + x.1) (a + bpO (b - a) x.2.1)) := (by rw [Nat.mul_one, Nat.mul_one]; exact acells_swp _ _ _)
        refine a_region_w [(49, true), (50, true), (51, true), (52, true), (53, true), (54, true), (55, true), (56, true), (57, true), (58, true), (59, true), (60, true), (61, true), (62, true), (63, true), (64, true), (65, true), (INH, false), (66, true), (INH, false)] mixed (by kernel_rfl) ?_
        refine w_val (v := .rsl _ _ _ _ _) (v_move (.inl rfl) (noOwn_flat rfl)) rfl rfl (by decide) rfl (by kernel_rfl) ?_
        refine w_val (v := .int _ _) (v_move (.inl rfl) (noOwn_flat rfl)) rfl rfl (by decide) rfl (by kernel_rfl) ?_
        refine w_val (v := .rsl _ _ _ _ _) (v_move (.inl rfl) (noOwn_flat rfl)) rfl rfl (by decide) rfl (by kernel_rfl) ?_
        refine w_val (v := .int _ _) (v_move (.inl rfl) (noOwn_flat rfl)) rfl rfl (by decide) rfl (by kernel_rfl) ?_
        refine w_val (v := .int _ _) (v_move (.inl rfl) (noOwn_flat rfl)) rfl rfl (by decide) rfl (by kernel_rfl) ?_
        refine w_val (v := .int .i64 (((a + bpO (b - a) x.2.1) : Nat) : Int)) ((v_add (.inl rfl) (.inl rfl) (fun _ => by omega)).cast (int_eq (by omega))) rfl rfl (by decide) rfl (by kernel_rfl) ?_
        refine w_val (v := .rsl _ _ _ _ _) (v_move (.inl rfl) (noOwn_flat rfl)) rfl rfl (by decide) rfl (by kernel_rfl) ?_
        refine w_val (v := .int _ _) (v_move (.inl rfl) (noOwn_flat rfl)) rfl rfl (by decide) rfl (by kernel_rfl) ?_
        refine w_val (v := .int _ _) (v_move (.inl rfl) (noOwn_flat rfl)) rfl rfl (by decide) rfl (by kernel_rfl) ?_
        refine w_val (v := .int .i64 (((a + bpO (b - a) x.2.1) : Nat) : Int)) ((v_add (.inl rfl) (.inl rfl) (fun _ => by omega)).cast (int_eq (by omega))) rfl rfl (by decide) rfl (by kernel_rfl) ?_
        refine w_val (v := .rp _ _) (v_indexAddr_rsl0 es25 (.inl rfl) (.inl rfl) (fun _ => by omega)) rfl rfl (by decide) rfl (by kernel_rfl) ?_
        refine w_val (v := .int .i64 x.2.2[(a + bpO (b - a) x.2.1)]!) (v_load_rp1 ta3 (.inl rfl) rfl (fun _ => by rw [Nat.mul_one]; exact acells_get (by omega)) rfl) rfl rfl (by decide) rfl (by kernel_rfl) ?_
        refine w_val (v := .rsl _ _ _ _ _) (v_move (.inl rfl) (noOwn_flat rfl)) rfl rfl (by decide) rfl (by kernel_rfl) ?_
        refine w_val (v := .int _ _) (v_move (.inl rfl) (noOwn_flat rfl)) rfl rfl (by decide) rfl (by kernel_rfl) ?_
        refine w_val (v := .rp _ _) (v_indexAddr_rsl0 es25 (.inl rfl) (.inl rfl) (fun _ => by omega)) rfl rfl (by decide) rfl (by kernel_rfl) ?_
        refine w_val (v := .int .i64 x.2.2[(a + (b - a) / 4 * 2 - 1 + x.1)]!) (v_load_rp1 ta3 (.inl rfl) rfl (fun _ => by rw [Nat.mul_one]; exact acells_get (by omega)) rfl) rfl rfl (by decide) rfl (by kernel_rfl) ?_
        refine w_val (v := .rp _ _) (v_indexAddr_rsl0 es25 (.inl rfl) (.inl rfl) (fun _ => by omega)) rfl rfl (by decide) rfl (by kernel_rfl) ?_
        refine w_store (v := .int _ _) (y' := .osl _ _ _ _) rfl rfl rfl ta3 (.inl rfl) (.inl rfl) rfl rfl rfl rfl rfl rfl hp1 (by decide) rfl rfl rfl (by kernel_rfl) ?_
        refine w_val (v := .rp _ _) (v_indexAddr_rsl0 es25 (.inl rfl) (.inl rfl) (fun _ => by omega)) rfl rfl (by decide) rfl (by kernel_rfl) ?_
        refine w_store (v := .int _ _) (y' := .osl _ _ _ _) rfl rfl rfl ta3 (.inl rfl) (.inl rfl) rfl rfl rfl rfl rfl rfl hp2 (by decide) rfl (congrArg (fun c => AV.osl 1 c n none) hset) rfl (by kernel_rfl) ?_
        refine w_nil ?_
        refine a_pre (ent_look (L := [(0, .rsl _ _ _ _ _), (1, .int _ _), (8, .int _ _), (9, .op [.int _ _]), (10, .int _ _), (11, .int _ _), (INH, .osl _ _ _ _)]) ⟨Weak.rfl, Weak.rfl, Weak.rfl, Weak.rfl, Weak.rfl, Weak.rfl, Weak.rfl, trivial⟩) ?_
        refine a_region ?_
        refine r_val (v := .int _ _) (v_move (.inl rfl) (noOwn_flat rfl)) rfl rfl (by decide) ?_
        refine r_val (v := .int _ _) (v_add (.inl rfl) (.inl rfl) (fun _ => by omega)) rfl rfl (by decide) ?_
        refine r_val (v := .int _ _) (v_assign (.inl rfl) (noOwn_flat rfl)) rfl rfl (by decide) ?_
        refine r_nil ?_
        refine ⟨(x.1 + 1, xorNextN x.2.1, swp x.2.2 (a + (b - a) / 4 * 2 - 1 + x.1) (a + bpO (b - a) x.2.1)), ent_look ⟨Weak.of_eq rfl, Weak.of_eq rfl, Weak.of_eq rfl, Weak.of_eq rfl, Weak.of_eq rfl, Weak.of_eq (int_eq (by dsimp only; omega)), Weak.of_eq rfl, trivial⟩, ⟨by dsimp only; omega, xorNextN_lt _ g2, by rw [swp_size]; exact g3, by rw [← g4, show 3 - x.1 = (3 - (x.1 + 1)) + 1 by omega]; rfl⟩, by dsimp only; omega⟩
    ·
      skip
      refine a_exit ?_
      refine ret0_look Try.results167 (by decide) ?_ rfl
      exact Weak.of_eq (osl_eq (by rw [← g4, show 3 - x.1 = 0 by simp at ht35; omega]; rfl))
  ·
    skip
    refine a_skip ?_
    refine ret0_look Try.results167 (by decide) ?_ rfl
    exact Weak.of_eq (osl_eq (by unfold breakPatterns; simp only []; rw [if_neg (by simp at ht17; omega)]))
end Go.Av
namespace Go.Av
open Go Go.Proofs Go.Sort
set_option maxRecDepth 10000
theorem hb159 : hasBody Try.prog 159 = true := by kernel_rfl
theorem hb165 : hasBody Try.prog 165 = true := by kernel_rfl
theorem hb166 : hasBody Try.prog 166 = true := by kernel_rfl
theorem hb167 : hasBody Try.prog 167 = true := by kernel_rfl
theorem hb168 : hasBody Try.prog 168 = true := by kernel_rfl
theorem hb169 : hasBody Try.prog 169 = true := by kernel_rfl
theorem hb170 : hasBody Try.prog 170 = true := by kernel_rfl
theorem hb171 : hasBody Try.prog 171 = true := by kernel_rfl
theorem hb172 : hasBody Try.prog 172 = true := by kernel_rfl

theorem pdq_step (f : Nat) (hb : hasBody Try.prog f = true) (cf : Int → Int → Int) (hc : ∀ x y, ACall Try.prog f [.int .i64 x, .int .i64 y] [] (.int .i64 (cf x y)) []) (hS : SWO (ltc cf)) (n N : Nat) (hn : n ≤ 1152921504606846976) (ih : ∀ (d' : Array Int) (a' b' l' : Nat), d'.size = n → a' ≤ b' → b' ≤ n → b' - a' < N → l' ≤ 100 → Below (ltc cf) a' b' d' → ACall Try.prog 159 [.rsl (INH, []) 1 0 n none, .int .i64 ((a' : Nat) : Int), .int .i64 ((b' : Nat) : Int), .int .i64 ((l' : Nat) : Int), .fn f [] []] [.osl 1 (acells d') n none] (.tup []) [.osl 1 (acells (pdq (ltc cf) d' a' b' l' true true)) n none]) (d : Array Int) (a b limit : Nat) (hd : d.size = n) (hab : a ≤ b ∧ b ≤ n ∧ b - a ≤ N ∧ limit ≤ 100) (hB : Below (ltc cf) a b d)  : ACall Try.prog 159 [.rsl (INH, []) 1 0 n none, .int .i64 ((a : Nat) : Int), .int .i64 ((b : Nat) : Int), .int .i64 ((limit : Nat) : Int), .fn f [] []] [.osl 1 (acells d) n none] (.tup []) [.osl 1 (acells (pdq (ltc cf) d a b limit true true)) n none] := by
  refine ACall.intro Try.func159 rfl (N := 148) rfl (by decide) (by simp) ?_
  refine a_seq ?_
  refine a_region ?_
  refine r_val (v := .bool _) (v_assign (.inl rfl) (noOwn_flat rfl)) rfl rfl (by decide) ?_
  refine r_nil ?_
  refine a_seq ?_
  refine a_region ?_
  refine r_val (v := .bool _) (v_assign (.inl rfl) (noOwn_flat rfl)) rfl rfl (by decide) ?_
  refine r_nil ?_
  refine a_block ?_
  refine a_loop (X := PS) (fun x => look [(0, .rsl (INH, []) 1 0 n none), (1, .int .i64 ((x.a : Nat) : Int)), (2, .int .i64 ((x.b : Nat) : Int)), (3, .int .i64 ((x.lim : Nat) : Int)), (4, .fn f [] []), (10, .bool x.wb), (11, .bool x.wp), (INH, .osl 1 (acells x.d) n none)]) (fun x => PInv (ltc cf) n N (pdq (ltc cf) d a b limit true true) x) (fun x => x.b - x.a) ⟨a, b, limit, true, true, d⟩ (ent_look ⟨Weak.of_eq rfl, Weak.of_eq rfl, Weak.of_eq rfl, Weak.of_eq rfl, Weak.of_eq rfl, Weak.of_eq rfl, Weak.of_eq rfl, Weak.of_eq rfl, trivial⟩) ⟨hab.1, hab.2.1, hab.2.2.1, hab.2.2.2, hd, hB, rfl⟩ (fun x hG => ?_)
  have hP := hG
  obtain ⟨g1, g2, g3, g4, g5, g6, g7⟩ := hG
  refine a_block ?_
  refine a_seq ?_
  refine a_region ?_
  refine r_val (v := .int _ _) (v_move (.inl rfl) (noOwn_flat rfl)) rfl rfl (by decide) ?_
  refine r_val (v := .int _ _) (v_move (.inl rfl) (noOwn_flat rfl)) rfl rfl (by decide) ?_
  refine r_val (v := .int .i64 ((x.b - x.a : Nat) : Int)) ((v_sub (.inl rfl) (.inl rfl) (fun _ => by omega)).cast (int_eq (by omega))) rfl rfl (by decide) ?_
  refine r_val (v := .int _ _) (v_assign (.inl rfl) (noOwn_flat rfl)) rfl rfl (by decide) ?_
  refine r_nil ?_
  refine a_seq ?_
  refine a_seq ?_
  refine a_region ?_
  refine r_val (v := .int _ _) (v_move (.inl rfl) (noOwn_flat rfl)) rfl rfl (by decide) ?_
  refine r_val (v := .bool _) (v_leq (.inl rfl) (.inl rfl)) rfl rfl (by decide) ?_
  refine r_nil ?_
  refine a_cond rfl (fun ht25 => ?_) (fun ht25 => ?_)
  ·
    skip
    refine a_seq ?_
    have h12 : x.b - x.a ≤ 12 := (by simp at ht25; omega)
    refine a_region ?_
    refine r_val (v := .rsl _ _ _ _ _) (v_move (.inl rfl) (noOwn_flat rfl)) rfl rfl (by decide) ?_
    refine r_val (v := .int _ _) (v_move (.inl rfl) (noOwn_flat rfl)) rfl rfl (by decide) ?_
    refine r_val (v := .int _ _) (v_move (.inl rfl) (noOwn_flat rfl)) rfl rfl (by decide) ?_
    refine r_val (v := .fn _ _ _) (v_mv rfl) rfl rfl (by decide) ?_
    refine r_step rfl (o_callIO (q := (INH, [])) (vs := [.rsl _ _ _ _ _, .int _ _, .int _ _, .fn _ _ _]) (args := [.rsl (INH, []) _ _ _ _, .int .i64 _, .int .i64 _, .fn _ _ _]) (x0 := .osl _ _ _ _) (x1 := .osl _ _ _ _) (res := .tup []) rfl hb165 rfl (by decide) ⟨.inl rfl, .inl rfl, .inl rfl, .inl rfl, trivial⟩ rfl rfl (insertion_c f hb cf hc x.d n x.a x.b g5 (by omega) (by omega)) rfl rfl rfl (ac_noSh _) (ac_noRef _) (Nat.le_of_ble_eq_true rfl) (by decide) rfl) ?_
    refine r_nil ?_
    refine a_ret ?_
    refine ret0_look Try.results159 (by decide) ?_ rfl
    exact Weak.of_eq (osl_eq (by rw [← g7, pdq_small h12]))
  ·
    skip
    refine a_skip ?_
    refine a_seq ?_
    refine a_seq ?_
    refine a_region ?_
    refine r_val (v := .int _ _) (v_move (.inl rfl) (noOwn_flat rfl)) rfl rfl (by decide) ?_
    refine r_val (v := .bool _) (v_eql (.inl rfl) (.inl rfl)) rfl rfl (by decide) ?_
    refine r_nil ?_
    refine a_cond rfl (fun ht32 => ?_) (fun ht32 => ?_)
    ·
      skip
      refine a_seq ?_
      have h12 : ¬ x.b - x.a ≤ 12 := (by simp at ht25; omega)
      have h0 : x.lim = 0 := (by simp at ht32; omega)
      refine a_region ?_
      refine r_val (v := .rsl _ _ _ _ _) (v_move (.inl rfl) (noOwn_flat rfl)) rfl rfl (by decide) ?_
      refine r_val (v := .int _ _) (v_move (.inl rfl) (noOwn_flat rfl)) rfl rfl (by decide) ?_
      refine r_val (v := .int _ _) (v_move (.inl rfl) (noOwn_flat rfl)) rfl rfl (by decide) ?_
      refine r_val (v := .fn _ _ _) (v_mv rfl) rfl rfl (by decide) ?_
      refine r_step rfl (o_callIOk (q := (INH, [])) (vs := [.rsl _ _ _ _ _, .int _ _, .int _ _, .fn _ _ _]) (args := [.rsl (INH, []) _ _ _ _, .int .i64 _, .int .i64 _, .fn _ _ _]) (x0 := .osl _ _ _ _) (x1 := .osl _ _ _ _) (res := .tup []) rfl hb166 rfl (by decide) ⟨.inl rfl, .inl rfl, .inl rfl, .inl rfl, trivial⟩ rfl rfl (heapSort_c f hb cf hc x.d n x.a x.b g5 (by omega) hn) (by simp [stays]; omega) rfl rfl rfl (ac_noSh _) (ac_noRef _) (Nat.le_of_ble_eq_true rfl) (by decide) rfl) ?_
      refine r_nil ?_
      refine a_ret ?_
      refine ret0_look Try.results159 (by decide) ?_ rfl
      exact Weak.of_eq (osl_eq (by rw [← g7, pdq_heap h12 h0]))
    ·
      skip
      refine a_skip ?_
      refine a_join (X := Unit) (fun _u => look [(0, .rsl (INH, []) 1 0 n none), (1, .int .i64 ((x.a : Nat) : Int)), (2, .int .i64 ((x.b : Nat) : Int)), (3, .int .i64 (((x.rd (ltc cf)).lim : Nat) : Int)), (4, .fn f [] []), (10, .bool x.wb), (11, .bool x.wp), (12, .int .i64 ((x.b - x.a : Nat) : Int)), (INH, .osl 1 (acells (x.rd (ltc cf)).d1) n none)]) (fun _u => True) ?_ (fun _u hJ => ?_)
      ·
        skip
        refine a_seq ?_
        have h12 : ¬ x.b - x.a ≤ 12 := (by simp at ht25; omega)
        have h0 : ¬ x.lim = 0 := (by simp at ht32; omega)
        have hf := hP.facts hS h12
        refine a_region ?_
        refine r_val (v := .bool _) (v_move (.inl rfl) (noOwn_flat rfl)) rfl rfl (by decide) ?_
        refine r_val (v := .bool _) (v_not (.inl rfl)) rfl rfl (by decide) ?_
        refine r_nil ?_
        refine a_cond rfl (fun ht39 => ?_) (fun ht39 => ?_)
        ·
          skip
          refine a_seq ?_
          refine a_region ?_
          refine r_val (v := .rsl _ _ _ _ _) (v_move (.inl rfl) (noOwn_flat rfl)) rfl rfl (by decide) ?_
          refine r_val (v := .int _ _) (v_move (.inl rfl) (noOwn_flat rfl)) rfl rfl (by decide) ?_
          refine r_val (v := .int _ _) (v_move (.inl rfl) (noOwn_flat rfl)) rfl rfl (by decide) ?_
          refine r_val (v := .fn _ _ _) (v_mv rfl) rfl rfl (by decide) ?_
          refine r_step rfl (o_callIOk (q := (INH, [])) (vs := [.rsl _ _ _ _ _, .int _ _, .int _ _, .fn _ _ _]) (args := [.rsl (INH, []) _ _ _ _, .int .i64 _, .int .i64 _, .fn _ _ _]) (x0 := .osl _ _ _ _) (x1 := .osl _ _ _ _) (res := .tup []) rfl hb167 rfl (by decide) ⟨.inl rfl, .inl rfl, .inl rfl, .inl rfl, trivial⟩ rfl rfl (breakPatterns_c f x.d n x.a x.b g5 (by omega) hn) (by simp [stays]; omega) rfl rfl rfl (ac_noSh _) (ac_noRef _) (Nat.le_of_ble_eq_true rfl) (by decide) rfl) ?_
          refine r_nil ?_
          refine a_region ?_
          refine r_val (v := .int _ _) (v_move (.inl rfl) (noOwn_flat rfl)) rfl rfl (by decide) ?_
          refine r_val (v := .int _ _) (v_sub (.inl rfl) (.inl rfl) (fun _ => by omega)) rfl rfl (by decide) ?_
          refine r_val (v := .int _ _) (v_assign (.inl rfl) (noOwn_flat rfl)) rfl rfl (by decide) ?_
          refine r_nil ?_
          have hw : x.wb = false := (by simpa using ht39)
          have hl := (rdF (lt := (ltc cf)) hw)
          exact ⟨(), ent_look ⟨Weak.of_eq rfl, Weak.of_eq rfl, Weak.of_eq rfl, Weak.of_eq (int_eq (by have := hl.1; omega)), Weak.of_eq rfl, Weak.of_eq rfl, Weak.of_eq rfl, Weak.of_eq rfl, Weak.of_eq (osl_eq (by rw [hl.2])), trivial⟩, trivial⟩
        ·
          skip
          refine a_skip ?_
          have hw : x.wb = true := (by simpa using ht39)
          have hl := (rdT (lt := (ltc cf)) hw)
          exact ⟨(), ent_look ⟨Weak.of_eq rfl, Weak.of_eq rfl, Weak.of_eq rfl, Weak.of_eq (int_eq (by have := hl.1; omega)), Weak.of_eq rfl, Weak.of_eq rfl, Weak.of_eq rfl, Weak.of_eq rfl, Weak.of_eq (osl_eq (by rw [hl.2])), trivial⟩, trivial⟩
      ·
        skip
        have h12 : ¬ x.b - x.a ≤ 12 := (by simp at ht25; omega)
        have h0 : ¬ x.lim = 0 := (by simp at ht32; omega)
        have hf := hP.facts hS h12
        refine a_seq ?_
        refine a_region ?_
        refine r_val (v := .rsl _ _ _ _ _) (v_move (.inl rfl) (noOwn_flat rfl)) rfl rfl (by decide) ?_
        refine r_val (v := .int _ _) (v_move (.inl rfl) (noOwn_flat rfl)) rfl rfl (by decide) ?_
        refine r_val (v := .int _ _) (v_move (.inl rfl) (noOwn_flat rfl)) rfl rfl (by decide) ?_
        refine r_val (v := .fn _ _ _) (v_mv rfl) rfl rfl (by decide) ?_
        refine r_new (v := .tup [.int _ _, .int _ _]) (q_call (vs := [.rsl _ _ _ _ _, .int _ _, .int _ _, .fn _ _ _]) (args := [.sl _ _, .int .i64 _, .int .i64 _, .fn _ _ _]) hb168 ⟨.inl rfl, .inl rfl, .inl rfl, .inl rfl, trivial⟩ (l4_eq (sl_sh (ac_pure _)) rfl rfl rfl) (fun hA => choosePivot_c f hb cf hc _ n x.a x.b hf.1 (by omega) hn) rfl rfl) rfl rfl (by decide) ?_
        refine r_val (v := .tup [.int _ _, .int _ _]) (v_mv rfl) rfl rfl (by decide) ?_
        refine r_val (v := .int .i64 (((x.rd (ltc cf)).c.1 : Nat) : Int)) ((v_extract rfl rfl).cast (int_eq rfl)) rfl rfl (by decide) ?_
        refine r_val (v := .int .i64 ((hintN (x.rd (ltc cf)).c.2 : Nat) : Int)) ((v_extract rfl rfl).cast (int_eq rfl)) rfl rfl (by decide) ?_
        refine r_val (v := .int _ _) (v_assign (.inl rfl) (noOwn_flat rfl)) rfl rfl (by decide) ?_
        refine r_val (v := .int _ _) (v_assign (.inl rfl) (noOwn_flat rfl)) rfl rfl (by decide) ?_
        refine r_nil ?_
        refine a_join (X := Unit) (fun _u => look [(0, .rsl (INH, []) 1 0 n none), (1, .int .i64 ((x.a : Nat) : Int)), (2, .int .i64 ((x.b : Nat) : Int)), (3, .int .i64 (((x.rd (ltc cf)).lim : Nat) : Int)), (4, .fn f [] []), (10, .bool x.wb), (11, .bool x.wp), (12, .int .i64 ((x.b - x.a : Nat) : Int)), (13, .int .i64 (((x.rd (ltc cf)).pivot : Nat) : Int)), (14, .int .i64 ((hintN (x.rd (ltc cf)).hint : Nat) : Int)), (INH, .osl 1 (acells (x.rd (ltc cf)).d2) n none)]) (fun _u => True) ?_ (fun _u hJ => ?_)
        ·
          skip
          refine a_seq ?_
          refine a_region ?_
          refine r_val (v := .int _ _) (v_move (.inl rfl) (noOwn_flat rfl)) rfl rfl (by decide) ?_
          refine r_val (v := .bool _) (v_eql (.inl rfl) (.inl rfl)) rfl rfl (by decide) ?_
          refine r_nil ?_
          refine a_cond rfl (fun ht56 => ?_) (fun ht56 => ?_)
          ·
            skip
            refine a_seq ?_
            refine a_region ?_
            refine r_val (v := .rsl _ _ _ _ _) (v_move (.inl rfl) (noOwn_flat rfl)) rfl rfl (by decide) ?_
            refine r_val (v := .int _ _) (v_move (.inl rfl) (noOwn_flat rfl)) rfl rfl (by decide) ?_
            refine r_val (v := .int _ _) (v_move (.inl rfl) (noOwn_flat rfl)) rfl rfl (by decide) ?_
            refine r_val (v := .fn _ _ _) (v_mv rfl) rfl rfl (by decide) ?_
            refine r_step rfl (o_callIOk (q := (INH, [])) (vs := [.rsl _ _ _ _ _, .int _ _, .int _ _, .fn _ _ _]) (args := [.rsl (INH, []) _ _ _ _, .int .i64 _, .int .i64 _, .fn _ _ _]) (x0 := .osl _ _ _ _) (x1 := .osl _ _ _ _) (res := .tup []) rfl hb169 rfl (by decide) ⟨.inl rfl, .inl rfl, .inl rfl, .inl rfl, trivial⟩ rfl rfl (reverse_c f _ n x.a x.b hf.1 (by omega) hn) (by simp [stays]; omega) rfl rfl rfl (ac_noSh _) (ac_noRef _) (Nat.le_of_ble_eq_true rfl) (by decide) rfl) ?_
            refine r_nil ?_
            refine a_seq ?_
            refine a_region ?_
            refine r_val (v := .int _ _) (v_move (.inl rfl) (noOwn_flat rfl)) rfl rfl (by decide) ?_
            refine r_val (v := .int _ _) (v_sub (.inl rfl) (.inl rfl) (fun _ => by omega)) rfl rfl (by decide) ?_
            refine r_val (v := .int _ _) (v_move (.inl rfl) (noOwn_flat rfl)) rfl rfl (by decide) ?_
            refine r_val (v := .int _ _) (v_move (.inl rfl) (noOwn_flat rfl)) rfl rfl (by decide) ?_
            refine r_val (v := .int _ _) (v_sub (.inl rfl) (.inl rfl) (fun _ => by omega)) rfl rfl (by decide) ?_
            refine r_val (v := .int _ _) (v_sub (.inl rfl) (.inl rfl) (fun _ => by omega)) rfl rfl (by decide) ?_
            refine r_val (v := .int _ _) (v_assign (.inl rfl) (noOwn_flat rfl)) rfl rfl (by decide) ?_
            refine r_nil ?_
            refine a_pre (ent_look (L := [(0, .rsl _ _ _ _ _), (1, .int _ _), (2, .int _ _), (3, .int _ _), (4, .fn _ _ _), (10, .bool _), (11, .bool _), (12, .int _ _), (13, .int _ _), (14, .int _ _), (INH, .osl _ _ _ _)]) ⟨Weak.rfl, Weak.rfl, Weak.rfl, Weak.rfl, Weak.rfl, Weak.rfl, Weak.rfl, Weak.rfl, Weak.rfl, Weak.rfl, Weak.rfl, trivial⟩) ?_
            refine a_region ?_
            refine r_val (v := .int _ _) (v_assign (.inl rfl) (noOwn_flat rfl)) rfl rfl (by decide) ?_
            refine r_nil ?_
            have hd2 := rd_dec (lt := (ltc cf)) (hintN_two.1 (of_decide_eq_true ht56) : (x.rd (ltc cf)).c.2 = .decreasing)
            exact ⟨(), ent_look ⟨Weak.of_eq rfl, Weak.of_eq rfl, Weak.of_eq rfl, Weak.of_eq rfl, Weak.of_eq rfl, Weak.of_eq rfl, Weak.of_eq rfl, Weak.of_eq rfl, Weak.of_eq (int_eq (by have h1 := hd2.2.1; have h2 := hf.2.1; dsimp only [PS.rd] at *; omega)), Weak.of_eq (int_eq (by rw [hd2.2.2]; rfl)), Weak.of_eq (osl_eq (by rw [hd2.1])), trivial⟩, trivial⟩
          ·
            skip
            refine a_skip ?_
            have hd2 := rd_not (lt := (ltc cf)) (fun h => of_decide_eq_false ht56 (hintN_two.2 h) : (x.rd (ltc cf)).c.2 ≠ .decreasing)
            exact ⟨(), ent_look ⟨Weak.of_eq rfl, Weak.of_eq rfl, Weak.of_eq rfl, Weak.of_eq rfl, Weak.of_eq rfl, Weak.of_eq rfl, Weak.of_eq rfl, Weak.of_eq rfl, Weak.of_eq (int_eq (by rw [hd2.2.1])), Weak.of_eq (int_eq (by rw [hd2.2.2])), Weak.of_eq (osl_eq (by rw [hd2.1])), trivial⟩, trivial⟩
        ·
          skip
          refine a_join (X := Unit) (fun _u => look [(0, .rsl (INH, []) 1 0 n none), (1, .int .i64 ((x.a : Nat) : Int)), (2, .int .i64 ((x.b : Nat) : Int)), (3, .int .i64 (((x.rd (ltc cf)).lim : Nat) : Int)), (4, .fn f [] []), (10, .bool x.wb), (11, .bool x.wp), (12, .int .i64 ((x.b - x.a : Nat) : Int)), (13, .int .i64 (((x.rd (ltc cf)).pivot : Nat) : Int)), (INH, .osl 1 (acells (x.rd (ltc cf)).pi.1) n none)]) (fun _u => (x.rd (ltc cf)).pi.2 = false) ?_ (fun _u hJ => ?_)
          ·
            skip
            refine a_seq ?_
            refine a_region ?_
            refine r_val (v := .bool _) (v_move (.inl rfl) (noOwn_flat rfl)) rfl rfl (by decide) ?_
            refine r_val (v := .bool _) (v_move (.inl rfl) (noOwn_flat rfl)) rfl rfl (by decide) ?_
            refine r_gval (v := .bool _) (v_move (.inl rfl) (noOwn_flat rfl)) rfl rfl rfl (by decide) (.inl ⟨_, rfl, rfl⟩) rfl (by decide) ?_
            refine r_val (v := .bool _) (v_pick (.inl rfl) (.inr ⟨_, rfl, fun h h2 => by simp_all⟩) (.inl rfl)) rfl rfl (by decide) ?_
            refine r_val (v := .bool _) (v_move (.inl rfl) (noOwn_flat rfl)) rfl rfl (by decide) ?_
            refine r_gval (v := .int _ _) (v_move (.inl rfl) (noOwn_flat rfl)) rfl rfl rfl (by decide) (.inl ⟨_, rfl, rfl⟩) rfl (by decide) ?_
            refine r_gval (v := .bool _) (v_eql (.inr ⟨_, rfl, fun h => h⟩) (.inl rfl)) rfl rfl rfl (by decide) (.inl ⟨_, rfl, rfl⟩) rfl (by decide) ?_
            refine r_val (v := .bool _) (v_pick (.inl rfl) (.inr ⟨_, rfl, fun h h2 => by simp_all⟩) (.inl rfl)) rfl rfl (by decide) ?_
            refine r_nil ?_
            refine a_cond rfl (fun ht75 => ?_) (fun ht75 => ?_)
            ·
              skip
              refine a_seq ?_
              have hpi := rd_pi_yes (lt := (ltc cf)) (d := x.d) (a := x.a) (b := x.b) (limit := x.lim) (wb := x.wb) (wp := x.wp) (pi_cond ht75)
              refine a_region ?_
              refine r_val (v := .rsl _ _ _ _ _) (v_move (.inl rfl) (noOwn_flat rfl)) rfl rfl (by decide) ?_
              refine r_val (v := .int _ _) (v_move (.inl rfl) (noOwn_flat rfl)) rfl rfl (by decide) ?_
              refine r_val (v := .int _ _) (v_move (.inl rfl) (noOwn_flat rfl)) rfl rfl (by decide) ?_
              refine r_val (v := .fn _ _ _) (v_mv rfl) rfl rfl (by decide) ?_
              refine r_step rfl (o_callIOk (q := (INH, [])) (vs := [.rsl _ _ _ _ _, .int _ _, .int _ _, .fn _ _ _]) (args := [.rsl (INH, []) _ _ _ _, .int .i64 _, .int .i64 _, .fn _ _ _]) (x0 := .osl _ _ _ _) (x1 := .osl _ _ _ _) (res := .bool _) rfl hb170 rfl (by decide) ⟨.inl rfl, .inl rfl, .inl rfl, .inl rfl, trivial⟩ rfl rfl (partialIns_c f hb cf hc _ n x.a x.b hf.2.2.1 (by omega) hn) (by simp [stays]; omega) rfl rfl rfl (ac_noSh _) (ac_noRef _) (Nat.le_of_ble_eq_true rfl) (by decide) rfl) ?_
              refine r_nil ?_
              refine a_cond rfl (fun ht80 => ?_) (fun ht80 => ?_)
              ·
                skip
                refine a_ret ?_
                refine ret0_look Try.results159 (by decide) ?_ rfl
                exact Weak.of_eq (osl_eq (by rw [← g7, pdq_done h12 h0 (by rw [hpi]; exact ht80), hpi]))
              ·
                skip
                refine a_skip ?_
                exact ⟨(), ent_look ⟨Weak.of_eq rfl, Weak.of_eq rfl, Weak.of_eq rfl, Weak.of_eq rfl, Weak.of_eq rfl, Weak.of_eq rfl, Weak.of_eq rfl, Weak.of_eq rfl, Weak.of_eq rfl, Weak.of_eq (osl_eq (by rw [hpi])), trivial⟩, (by rw [hpi]; exact ht80)⟩
            ·
              skip
              refine a_skip ?_
              have hpi := rd_pi_no (lt := (ltc cf)) (d := x.d) (a := x.a) (b := x.b) (limit := x.lim) (wb := x.wb) (wp := x.wp) (pi_cond ht75)
              exact ⟨(), ent_look ⟨Weak.of_eq rfl, Weak.of_eq rfl, Weak.of_eq rfl, Weak.of_eq rfl, Weak.of_eq rfl, Weak.of_eq rfl, Weak.of_eq rfl, Weak.of_eq rfl, Weak.of_eq rfl, Weak.of_eq (osl_eq (by rw [hpi])), trivial⟩, (by rw [hpi])⟩
          ·
            skip
            have hpf := hJ
            refine a_seq ?_
            refine a_seq ?_
            refine a_region_any mixed (by kernel_rfl) ?_
            refine y_val (v := .int _ _) (v_move (.inl rfl) (noOwn_flat rfl)) rfl rfl (by decide) (by kernel_rfl) ?_
            refine y_val (v := .bool _) (v_gtr (.inl rfl) (.inl rfl)) rfl rfl (by decide) (by kernel_rfl) ?_
            refine y_val (v := .bool _) (v_move (.inl rfl) (noOwn_flat rfl)) rfl rfl (by decide) (by kernel_rfl) ?_
            refine y_guard (v := .fn _ _ _) (v_move (.inl rfl) (noOwn_flat rfl)).quiet rfl rfl rfl (by decide) (.inl ⟨_, rfl, rfl⟩) rfl (by decide) (by kernel_rfl) ?_
            refine y_guard (v := .rsl _ _ _ _ _) (v_move (.inl rfl) (noOwn_flat rfl)).quiet rfl rfl rfl (by decide) (.inl ⟨_, rfl, rfl⟩) rfl (by decide) (by kernel_rfl) ?_
            refine y_guard (v := .int _ _) (v_move (.inl rfl) (noOwn_flat rfl)).quiet rfl rfl rfl (by decide) (.inl ⟨_, rfl, rfl⟩) rfl (by decide) (by kernel_rfl) ?_
            refine y_guard (v := .int _ _) (v_sub (.inr ⟨_, rfl, fun h => h⟩) (.inl rfl) (fun _ => by omega)).quiet rfl rfl rfl (by decide) (.inl ⟨_, rfl, rfl⟩) rfl (by decide) (by kernel_rfl) ?_
            refine y_guard (v := .rp _ _) (v_indexAddr_rsl0 es25 (.inr ⟨_, rfl, fun h => h⟩) (.inr ⟨_, rfl, fun h => h⟩) (fun hA => by simp at hA; omega)).quiet rfl rfl rfl (by decide) (.inl ⟨_, rfl, rfl⟩) rfl (by decide) (by kernel_rfl) ?_
            refine y_guard (v := .int .i64 (x.rd (ltc cf)).pi.1[x.a - 1]!) (v_load_rp1 ta3 (.inr ⟨_, rfl, fun h => h⟩) rfl (fun hA => by simp at hA; rw [show ((x.a : Int) - 1).toNat = x.a - 1 by omega, Nat.mul_one]; exact acells_get (by omega)) rfl).quiet rfl rfl rfl (by decide) (.inl ⟨_, rfl, rfl⟩) rfl (by decide) (by kernel_rfl) ?_
            refine y_guard (v := .rsl _ _ _ _ _) (v_move (.inl rfl) (noOwn_flat rfl)).quiet rfl rfl rfl (by decide) (.inl ⟨_, rfl, rfl⟩) rfl (by decide) (by kernel_rfl) ?_
            refine y_guard (v := .int _ _) (v_move (.inl rfl) (noOwn_flat rfl)).quiet rfl rfl rfl (by decide) (.inl ⟨_, rfl, rfl⟩) rfl (by decide) (by kernel_rfl) ?_
            refine y_guard (v := .rp _ _) (v_indexAddr_rsl0 es25 (.inr ⟨_, rfl, fun h => h⟩) (.inr ⟨_, rfl, fun h => h⟩) (fun hA => by simp at hA; omega)).quiet rfl rfl rfl (by decide) (.inl ⟨_, rfl, rfl⟩) rfl (by decide) (by kernel_rfl) ?_
            refine y_guard (v := .int .i64 (x.rd (ltc cf)).pi.1[(x.rd (ltc cf)).pivot]!) (v_load_rp1 ta3 (.inr ⟨_, rfl, fun h => h⟩) rfl (fun hA => by simp at hA; rw [Nat.mul_one]; exact acells_get (by omega)) rfl).quiet rfl rfl rfl (by decide) (.inl ⟨_, rfl, rfl⟩) rfl (by decide) (by kernel_rfl) ?_
            refine y_guard (v := .int _ _) (q_clo (vs := [.int _ _, .int _ _]) (args := [.int .i64 _, .int .i64 _]) hb (.inr ⟨_, rfl, fun h => h⟩) ⟨.inr ⟨_, rfl, fun h => h⟩, .inr ⟨_, rfl, fun h => h⟩, trivial⟩ rfl (fun hA => hc _ _) rfl rfl) rfl rfl rfl (by decide) (.inl ⟨_, rfl, rfl⟩) rfl (by decide) (by kernel_rfl) ?_
            refine y_guard (v := .bool _) (v_lss (.inr ⟨_, rfl, fun h => h⟩) (.inl rfl)).quiet rfl rfl rfl (by decide) (.inl ⟨_, rfl, rfl⟩) rfl (by decide) (by kernel_rfl) ?_
            refine y_guard (v := .bool _) (v_not (.inr ⟨_, rfl, fun h => h⟩)).quiet rfl rfl rfl (by decide) (.inl ⟨_, rfl, rfl⟩) rfl (by decide) (by kernel_rfl) ?_
            refine y_val (v := .bool _) (v_pick (.inl rfl) (.inr ⟨_, rfl, fun h h2 => by simp_all⟩) (.inl rfl)) rfl rfl (by decide) (by kernel_rfl) ?_
            refine y_nil ?_
            refine a_cond rfl (fun ht97 => ?_) (fun ht97 => ?_)
            ·
              skip
              refine a_seq ?_
              have hts : x.test (ltc cf) = true := test_cond ht97
              have hnx := hP.eq hS h12 h0 hpf hts
              refine a_region ?_
              refine r_val (v := .rsl _ _ _ _ _) (v_move (.inl rfl) (noOwn_flat rfl)) rfl rfl (by decide) ?_
              refine r_val (v := .int _ _) (v_move (.inl rfl) (noOwn_flat rfl)) rfl rfl (by decide) ?_
              refine r_val (v := .int _ _) (v_move (.inl rfl) (noOwn_flat rfl)) rfl rfl (by decide) ?_
              refine r_val (v := .int _ _) (v_move (.inl rfl) (noOwn_flat rfl)) rfl rfl (by decide) ?_
              refine r_val (v := .fn _ _ _) (v_mv rfl) rfl rfl (by decide) ?_
              refine r_step rfl (o_callIOk (q := (INH, [])) (vs := [.rsl _ _ _ _ _, .int _ _, .int _ _, .int _ _, .fn _ _ _]) (args := [.rsl (INH, []) _ _ _ _, .int .i64 _, .int .i64 _, .int .i64 _, .fn _ _ _]) (x0 := .osl _ _ _ _) (x1 := .osl _ _ _ _) (res := .int _ _) rfl hb171 rfl (by decide) ⟨.inl rfl, .inl rfl, .inl rfl, .inl rfl, .inl rfl, trivial⟩ rfl rfl (partEq_c f hb cf hc _ n x.a x.b _ hf.2.2.2.2.1 (by have := hf.2.2.2.1; omega) hn) (by simp [stays]; omega) rfl rfl rfl (ac_noSh _) (ac_noRef _) (Nat.le_of_ble_eq_true rfl) (by decide) rfl) ?_
              refine r_val (v := .int _ _) (v_assign (.inl rfl) (noOwn_flat rfl)) rfl rfl (by decide) ?_
              refine r_nil ?_
              refine a_seq ?_
              refine a_pre (ent_look (L := [(0, .rsl _ _ _ _ _), (1, .int _ _), (2, .int _ _), (3, .int _ _), (4, .fn _ _ _), (10, .bool _), (11, .bool _), (12, .int _ _), (13, .int _ _), (15, .int _ _), (INH, .osl _ _ _ _)]) ⟨Weak.rfl, Weak.rfl, Weak.rfl, Weak.rfl, Weak.rfl, Weak.rfl, Weak.rfl, Weak.rfl, Weak.rfl, Weak.rfl, Weak.rfl, trivial⟩) ?_
              refine a_region ?_
              refine r_val (v := .int _ _) (v_move (.inl rfl) (noOwn_flat rfl)) rfl rfl (by decide) ?_
              refine r_val (v := .int _ _) (v_assign (.inl rfl) (noOwn_flat rfl)) rfl rfl (by decide) ?_
              refine r_nil ?_
              refine a_exit ?_
              refine ⟨(x.eq (ltc cf)), ent_look ⟨Weak.of_eq rfl, Weak.of_eq rfl, Weak.of_eq rfl, Weak.of_eq rfl, Weak.of_eq rfl, Weak.of_eq rfl, Weak.of_eq rfl, Weak.of_eq rfl, trivial⟩, hnx.1, (by have h1 := hnx.2; have h2 := hnx.1.1; have h3 : (x.eq (ltc cf)).b = x.b := rfl; omega)⟩
            ·
              skip
              refine a_skip ?_
              refine a_seq ?_
              have hts : x.test (ltc cf) = false := test_cond ht97
              have hpt := hP.part hS h12
              refine a_region ?_
              refine r_val (v := .rsl _ _ _ _ _) (v_move (.inl rfl) (noOwn_flat rfl)) rfl rfl (by decide) ?_
              refine r_val (v := .int _ _) (v_move (.inl rfl) (noOwn_flat rfl)) rfl rfl (by decide) ?_
              refine r_val (v := .int _ _) (v_move (.inl rfl) (noOwn_flat rfl)) rfl rfl (by decide) ?_
              refine r_val (v := .int _ _) (v_move (.inl rfl) (noOwn_flat rfl)) rfl rfl (by decide) ?_
              refine r_val (v := .fn _ _ _) (v_mv rfl) rfl rfl (by decide) ?_
              refine r_step rfl (o_callIOk (q := (INH, [])) (vs := [.rsl _ _ _ _ _, .int _ _, .int _ _, .int _ _, .fn _ _ _]) (args := [.rsl (INH, []) _ _ _ _, .int .i64 _, .int .i64 _, .int .i64 _, .fn _ _ _]) (x0 := .osl _ _ _ _) (x1 := .osl _ _ _ _) (res := .tup [.int _ _, .bool _]) rfl hb172 rfl (by decide) ⟨.inl rfl, .inl rfl, .inl rfl, .inl rfl, .inl rfl, trivial⟩ rfl rfl (partition_c f hb cf hc _ n x.a x.b _ hf.2.2.2.2.1 (by have := hf.2.2.2.1; omega) hn) (by simp [stays]; omega) rfl rfl rfl (ac_noSh _) (ac_noRef _) (Nat.le_of_ble_eq_true rfl) (by decide) rfl) ?_
              refine r_val (v := .tup [.int _ _, .bool _]) (v_mv rfl) rfl rfl (by decide) ?_
              refine r_val (v := .int .i64 (((x.pt (ltc cf)).1 : Nat) : Int)) ((v_extract rfl rfl).cast (int_eq rfl)) rfl rfl (by decide) ?_
              refine r_val (v := .bool (x.pt (ltc cf)).2.1) ((v_extract rfl rfl).cast (bool_eq rfl)) rfl rfl (by decide) ?_
              refine r_val (v := .int _ _) (v_assign (.inl rfl) (noOwn_flat rfl)) rfl rfl (by decide) ?_
              refine r_val (v := .bool _) (v_assign (.inl rfl) (noOwn_flat rfl)) rfl rfl (by decide) ?_
              refine r_nil ?_
              refine a_seq ?_
              refine a_pre (ent_look (L := [(0, .rsl _ _ _ _ _), (1, .int _ _), (2, .int _ _), (3, .int _ _), (4, .fn _ _ _), (10, .bool _), (11, .bool _), (12, .int _ _), (16, .int _ _), (17, .bool _), (INH, .osl _ _ _ _)]) ⟨Weak.rfl, Weak.rfl, Weak.rfl, Weak.rfl, Weak.rfl, Weak.rfl, Weak.rfl, Weak.rfl, Weak.rfl, Weak.rfl, Weak.rfl, trivial⟩) ?_
              refine a_region ?_
              refine r_val (v := .bool _) (v_move (.inl rfl) (noOwn_flat rfl)) rfl rfl (by decide) ?_
              refine r_val (v := .bool _) (v_assign (.inl rfl) (noOwn_flat rfl)) rfl rfl (by decide) ?_
              refine r_nil ?_
              refine a_seq ?_
              refine a_region ?_
              refine r_val (v := .int _ _) (v_move (.inl rfl) (noOwn_flat rfl)) rfl rfl (by decide) ?_
              refine r_val (v := .int _ _) (v_move (.inl rfl) (noOwn_flat rfl)) rfl rfl (by decide) ?_
              refine r_val (v := .int .i64 (((x.pt (ltc cf)).1 - x.a : Nat) : Int)) ((v_sub (.inl rfl) (.inl rfl) (fun _ => by omega)).cast (int_eq (by omega))) rfl rfl (by decide) ?_
              refine r_val (v := .int _ _) (v_move (.inl rfl) (noOwn_flat rfl)) rfl rfl (by decide) ?_
              refine r_val (v := .int _ _) (v_move (.inl rfl) (noOwn_flat rfl)) rfl rfl (by decide) ?_
              refine r_val (v := .int .i64 ((x.b - (x.pt (ltc cf)).1 : Nat) : Int)) ((v_sub (.inl rfl) (.inl rfl) (fun _ => by omega)).cast (int_eq (by omega))) rfl rfl (by decide) ?_
              refine r_val (v := .int _ _) (v_assign (.inl rfl) (noOwn_flat rfl)) rfl rfl (by decide) ?_
              refine r_val (v := .int _ _) (v_assign (.inl rfl) (noOwn_flat rfl)) rfl rfl (by decide) ?_
              refine r_nil ?_
              refine a_seq ?_
              refine a_region ?_
              refine r_val (v := .int _ _) (v_move (.inl rfl) (noOwn_flat rfl)) rfl rfl (by decide) ?_
              refine r_val (v := .int .i64 (((x.b - x.a) / 8 : Nat) : Int)) ((v_quo (.inl rfl) (.inl rfl) (fun _ => by omega)).cast (int_eq (by omega))) rfl rfl (by decide) ?_
              refine r_val (v := .int _ _) (v_assign (.inl rfl) (noOwn_flat rfl)) rfl rfl (by decide) ?_
              refine r_nil ?_
              refine a_seq ?_
              refine a_region ?_
              refine r_val (v := .int _ _) (v_move (.inl rfl) (noOwn_flat rfl)) rfl rfl (by decide) ?_
              refine r_val (v := .int _ _) (v_move (.inl rfl) (noOwn_flat rfl)) rfl rfl (by decide) ?_
              refine r_val (v := .bool _) (v_lss (.inl rfl) (.inl rfl)) rfl rfl (by decide) ?_
              refine r_nil ?_
              refine a_cond rfl (fun ht125 => ?_) (fun ht125 => ?_)
              ·
                skip
                refine a_seq ?_
                have hll : (x.pt (ltc cf)).1 - x.a < x.b - (x.pt (ltc cf)).1 := (by simp at ht125; omega)
                have hnx := hP.left hS h12 h0 hpf hts hll
                refine a_region ?_
                refine r_val (v := .int _ _) (v_move (.inl rfl) (noOwn_flat rfl)) rfl rfl (by decide) ?_
                refine r_val (v := .int _ _) (v_move (.inl rfl) (noOwn_flat rfl)) rfl rfl (by decide) ?_
                refine r_val (v := .bool _) (v_geq (.inl rfl) (.inl rfl)) rfl rfl (by decide) ?_
                refine r_val (v := .bool _) (v_assign (.inl rfl) (noOwn_flat rfl)) rfl rfl (by decide) ?_
                refine r_nil ?_
                refine a_seq ?_
                refine a_pre (ent_look (L := [(0, .rsl _ _ _ _ _), (1, .int _ _), (2, .int _ _), (3, .int _ _), (4, .fn _ _ _), (10, .bool _), (11, .bool _), (16, .int _ _), (19, .int _ _), (20, .int _ _), (INH, .osl _ _ _ _)]) ⟨Weak.rfl, Weak.rfl, Weak.rfl, Weak.rfl, Weak.rfl, Weak.rfl, Weak.rfl, Weak.rfl, Weak.rfl, Weak.rfl, Weak.rfl, trivial⟩) ?_
                refine a_region ?_
                refine r_val (v := .rsl _ _ _ _ _) (v_move (.inl rfl) (noOwn_flat rfl)) rfl rfl (by decide) ?_
                refine r_val (v := .int _ _) (v_move (.inl rfl) (noOwn_flat rfl)) rfl rfl (by decide) ?_
                refine r_val (v := .int _ _) (v_move (.inl rfl) (noOwn_flat rfl)) rfl rfl (by decide) ?_
                refine r_val (v := .int _ _) (v_move (.inl rfl) (noOwn_flat rfl)) rfl rfl (by decide) ?_
                refine r_val (v := .fn _ _ _) (v_mv rfl) rfl rfl (by decide) ?_
                refine r_step rfl (o_callIOk (q := (INH, [])) (vs := [.rsl _ _ _ _ _, .int _ _, .int _ _, .int _ _, .fn _ _ _]) (args := [.rsl (INH, []) _ _ _ _, .int .i64 _, .int .i64 _, .int .i64 _, .fn _ _ _]) (x0 := .osl _ _ _ _) (x1 := .osl _ _ _ _) (res := .tup []) rfl hb159 rfl (by decide) ⟨.inl rfl, .inl rfl, .inl rfl, .inl rfl, .inl rfl, trivial⟩ rfl rfl (ih _ _ _ _ hpt.2.2.1 hpt.1 (by omega) (by omega) hf.2.2.2.2.2.2 hpt.2.2.2.1) (by simp [stays]; omega) rfl rfl rfl (ac_noSh _) (ac_noRef _) (Nat.le_of_ble_eq_true rfl) (by decide) rfl) ?_
                refine r_nil ?_
                refine a_region ?_
                refine r_val (v := .int _ _) (v_move (.inl rfl) (noOwn_flat rfl)) rfl rfl (by decide) ?_
                refine r_val (v := .int .i64 (((x.pt (ltc cf)).1 + 1 : Nat) : Int)) ((v_add (.inl rfl) (.inl rfl) (fun _ => by omega)).cast (int_eq (by omega))) rfl rfl (by decide) ?_
                refine r_val (v := .int _ _) (v_assign (.inl rfl) (noOwn_flat rfl)) rfl rfl (by decide) ?_
                refine r_nil ?_
                refine ⟨(x.left (ltc cf)), ent_look ⟨Weak.of_eq rfl, Weak.of_eq rfl, Weak.of_eq rfl, Weak.of_eq rfl, Weak.of_eq rfl, Weak.of_eq (bool_eq (decide_eq_decide.2 (by simp only [ge_iff_le]; omega))), Weak.of_eq rfl, Weak.of_eq rfl, trivial⟩, hnx.1, hnx.2⟩
              ·
                skip
                refine a_seq ?_
                have hll : ¬ (x.pt (ltc cf)).1 - x.a < x.b - (x.pt (ltc cf)).1 := (by simp at ht125; omega)
                have hnx := hP.right hS h12 h0 hpf hts hll
                refine a_region ?_
                refine r_val (v := .int _ _) (v_move (.inl rfl) (noOwn_flat rfl)) rfl rfl (by decide) ?_
                refine r_val (v := .int _ _) (v_move (.inl rfl) (noOwn_flat rfl)) rfl rfl (by decide) ?_
                refine r_val (v := .bool _) (v_geq (.inl rfl) (.inl rfl)) rfl rfl (by decide) ?_
                refine r_val (v := .bool _) (v_assign (.inl rfl) (noOwn_flat rfl)) rfl rfl (by decide) ?_
                refine r_nil ?_
                refine a_seq ?_
                refine a_pre (ent_look (L := [(0, .rsl _ _ _ _ _), (1, .int _ _), (2, .int _ _), (3, .int _ _), (4, .fn _ _ _), (10, .bool _), (11, .bool _), (16, .int _ _), (INH, .osl _ _ _ _)]) ⟨Weak.rfl, Weak.rfl, Weak.rfl, Weak.rfl, Weak.rfl, Weak.rfl, Weak.rfl, Weak.rfl, Weak.rfl, trivial⟩) ?_
                refine a_region ?_
                refine r_val (v := .rsl _ _ _ _ _) (v_move (.inl rfl) (noOwn_flat rfl)) rfl rfl (by decide) ?_
                refine r_val (v := .int _ _) (v_move (.inl rfl) (noOwn_flat rfl)) rfl rfl (by decide) ?_
                refine r_val (v := .int .i64 (((x.pt (ltc cf)).1 + 1 : Nat) : Int)) ((v_add (.inl rfl) (.inl rfl) (fun _ => by omega)).cast (int_eq (by omega))) rfl rfl (by decide) ?_
                refine r_val (v := .int _ _) (v_move (.inl rfl) (noOwn_flat rfl)) rfl rfl (by decide) ?_
                refine r_val (v := .int _ _) (v_move (.inl rfl) (noOwn_flat rfl)) rfl rfl (by decide) ?_
                refine r_val (v := .fn _ _ _) (v_mv rfl) rfl rfl (by decide) ?_
                refine r_step rfl (o_callIOk (q := (INH, [])) (vs := [.rsl _ _ _ _ _, .int _ _, .int _ _, .int _ _, .fn _ _ _]) (args := [.rsl (INH, []) _ _ _ _, .int .i64 _, .int .i64 _, .int .i64 _, .fn _ _ _]) (x0 := .osl _ _ _ _) (x1 := .osl _ _ _ _) (res := .tup []) rfl hb159 rfl (by decide) ⟨.inl rfl, .inl rfl, .inl rfl, .inl rfl, .inl rfl, trivial⟩ rfl rfl (ih _ _ _ _ hpt.2.2.1 (by omega) (by omega) (by omega) hf.2.2.2.2.2.2 hpt.2.2.2.2) (by simp [stays]; omega) rfl rfl rfl (ac_noSh _) (ac_noRef _) (Nat.le_of_ble_eq_true rfl) (by decide) rfl) ?_
                refine r_nil ?_
                refine a_region ?_
                refine r_val (v := .int _ _) (v_move (.inl rfl) (noOwn_flat rfl)) rfl rfl (by decide) ?_
                refine r_val (v := .int _ _) (v_assign (.inl rfl) (noOwn_flat rfl)) rfl rfl (by decide) ?_
                refine r_nil ?_
                refine ⟨(x.right (ltc cf)), ent_look ⟨Weak.of_eq rfl, Weak.of_eq rfl, Weak.of_eq rfl, Weak.of_eq rfl, Weak.of_eq rfl, Weak.of_eq (bool_eq (decide_eq_decide.2 (by simp only [ge_iff_le]; omega))), Weak.of_eq rfl, Weak.of_eq rfl, trivial⟩, hnx.1, hnx.2⟩

theorem pdq_c (f : Nat) (hb : hasBody Try.prog f = true) (cf : Int → Int → Int) (hc : ∀ x y, ACall Try.prog f [.int .i64 x, .int .i64 y] [] (.int .i64 (cf x y)) []) (hS : SWO (ltc cf)) (n : Nat) (hn : n ≤ 1152921504606846976) (d : Array Int) (a b limit : Nat) (hd : d.size = n) (hab : a ≤ b ∧ b ≤ n ∧ limit ≤ 100) (hB : Below (ltc cf) a b d) :
    ACall Try.prog 159 [.rsl (INH, []) 1 0 n none, .int .i64 ((a : Nat) : Int), .int .i64 ((b : Nat) : Int), .int .i64 ((limit : Nat) : Int), .fn f [] []] [.osl 1 (acells d) n none] (.tup []) [.osl 1 (acells (pdq (ltc cf) d a b limit true true)) n none] := by
  have key : ∀ (N : Nat) (d : Array Int) (a b limit : Nat), d.size = n → a ≤ b → b ≤ n → b - a < N → limit ≤ 100 → Below (ltc cf) a b d → ACall Try.prog 159 [.rsl (INH, []) 1 0 n none, .int .i64 ((a : Nat) : Int), .int .i64 ((b : Nat) : Int), .int .i64 ((limit : Nat) : Int), .fn f [] []] [.osl 1 (acells d) n none] (.tup []) [.osl 1 (acells (pdq (ltc cf) d a b limit true true)) n none] := by
    intro N
    induction N with
    | zero => intro d a b limit _ _ _ h; omega
    | succ N ih => intro d a b limit h1 h2 h3 h4 h5 h6; exact pdq_step f hb cf hc hS n N hn ih d a b limit h1 ⟨h2, h3, by omega, h5⟩ h6
  exact key (b - a + 1) d a b limit hd hab.1 hab.2.1 (by omega) hab.2.2 hB
end Go.Av
namespace Go.Av
open Go Go.Proofs Go.Sort
set_option maxRecDepth 10000


theorem sortFunc_c (f : Nat) (hb : hasBody Try.prog f = true) (cf : Int → Int → Int) (hc : ∀ x y, ACall Try.prog f [.int .i64 x, .int .i64 y] [] (.int .i64 (cf x y)) []) (hS : SWO (ltc cf)) (d : Array Int) (n : Nat) (hd : d.size = n) (hn : n ≤ 1152921504606846976) : ACall Try.prog 149 [.rsl (INH, []) 1 0 n none, .fn f [] []] [.osl 1 (acells d) n none] (.tup []) [.osl 1 (acells (Go.Sort.sort (ltc cf) d)) n none] := by
  have hbl : bitsLen n ≤ 61 := (bitsLen_le_iff _ _).2 (by omega)
  refine ACall.intro Try.func149 rfl (N := 14) rfl (by decide) (by simp) ?_
  refine a_seq ?_
  refine a_region ?_
  refine r_val (v := .rsl _ _ _ _ _) (v_move (.inl rfl) (noOwn_flat rfl)) rfl rfl (by decide) ?_
  refine r_val (v := .int _ _) (v_len_rsl sl25 (.inl rfl)) rfl rfl (by decide) ?_
  refine r_val (v := .int _ _) (v_assign (.inl rfl) (noOwn_flat rfl)) rfl rfl (by decide) ?_
  refine r_nil ?_
  refine a_region ?_
  refine r_val (v := .rsl _ _ _ _ _) (v_move (.inl rfl) (noOwn_flat rfl)) rfl rfl (by decide) ?_
  refine r_val (v := .int _ _) (v_move (.inl rfl) (noOwn_flat rfl)) rfl rfl (by decide) ?_
  refine r_val (v := .int _ _) (v_move (.inl rfl) (noOwn_flat rfl)) rfl rfl (by decide) ?_
  refine r_val (v := .int .u64 ((n : Nat) : Int)) ((v_conv iss3 uni170 (.inl rfl) (fun _ => IntWalk.u64_in _ (by omega))).cast (int_eq rfl)) rfl rfl (by decide) ?_
  refine r_new (v := .int _ _) (q_call (vs := [.int _ _]) (args := [.int .u64 ((_ : Nat) : Int)]) hb160 ⟨.inl rfl, trivial⟩ rfl (fun hA => len_c n (by omega)) rfl rfl) rfl rfl (by decide) ?_
  refine r_val (v := .fn _ _ _) (v_mv rfl) rfl rfl (by decide) ?_
  refine r_step rfl (o_callIO (q := (INH, [])) (vs := [.rsl _ _ _ _ _, .int _ _, .int _ _, .int _ _, .fn _ _ _]) (args := [.rsl (INH, []) _ _ _ _, .int .i64 _, .int .i64 _, .int .i64 _, .fn _ _ _]) (x0 := .osl _ _ _ _) (x1 := .osl _ _ _ _) (res := .tup []) rfl hb159 rfl (by decide) ⟨.inl rfl, .inl rfl, .inl rfl, .inl rfl, .inl rfl, trivial⟩ rfl rfl (pdq_c f hb cf hc hS n hn d 0 n (bitsLen n) hd ⟨Nat.zero_le _, Nat.le_refl _, Nat.le_trans hbl (by decide)⟩ (Or.inl rfl)) rfl rfl rfl (ac_noSh _) (ac_noRef _) (Nat.le_of_ble_eq_true rfl) (by decide) rfl) ?_
  refine r_nil ?_
  refine ret0_look Try.results149 (by decide) ?_ rfl
  exact Weak.of_eq (osl_eq (by unfold Go.Sort.sort; rw [hd]))
end Go.Av
namespace Go.Av
open Go Go.Proofs Go.Sort
set_option maxRecDepth 10000
theorem hb175 : hasBody Try.prog 175 = true := by kernel_rfl

theorem isNaN_c (x : Int) : ACall Try.prog 175 [.int .i64 x] [] (.bool false) [] := by
  refine ACall.intro Try.func175 rfl (N := 6) rfl (by decide) (by simp) ?_
  refine a_seq ?_
  refine a_region ?_
  refine r_val (v := .bool _) (v_assign (.inl rfl) (noOwn_flat rfl)) rfl rfl (by decide) ?_
  refine r_nil ?_
  refine a_seq ?_
  refine a_region ?_
  refine r_val (v := .int _ _) (v_move (.inl rfl) (noOwn_flat rfl)) rfl rfl (by decide) ?_
  refine r_val (v := .int _ _) (v_move (.inl rfl) (noOwn_flat rfl)) rfl rfl (by decide) ?_
  refine r_val (v := .bool _) (v_neq (.inl rfl) (.inl rfl)) rfl rfl (by decide) ?_
  refine r_val (v := .bool _) (v_assign (.inl rfl) (noOwn_flat rfl)) rfl rfl (by decide) ?_
  refine r_nil ?_
  refine a_ret ?_
  refine ret1 Try.results175 (by decide) (by decide) (Weak.of_eq (bool_eq ?_)) rfl Leaves.nil
  simp

theorem cmp_c (x y : Int) : ACall Try.prog 162 [.int .i64 x, .int .i64 y] [] (.int .i64 (cmpI x y)) [] := by
  refine ACall.intro Try.func162 rfl (N := 20) rfl (by decide) (by simp) ?_
  refine a_seq ?_
  refine a_region ?_
  refine r_val (v := .int _ _) (v_assign (.inl rfl) (noOwn_flat rfl)) rfl rfl (by decide) ?_
  refine r_nil ?_
  refine a_seq ?_
  refine a_region ?_
  refine r_val (v := .int _ _) (v_move (.inl rfl) (noOwn_flat rfl)) rfl rfl (by decide) ?_
  refine r_new (v := .bool _) (q_call (vs := [.int _ _]) (args := [.int .i64 _]) hb175 ⟨.inl rfl, trivial⟩ rfl (fun hA => isNaN_c _) rfl rfl) rfl rfl (by decide) ?_
  refine r_val (v := .bool _) (v_assign (.inl rfl) (noOwn_flat rfl)) rfl rfl (by decide) ?_
  refine r_nil ?_
  refine a_seq ?_
  refine a_region ?_
  refine r_val (v := .int _ _) (v_move (.inl rfl) (noOwn_flat rfl)) rfl rfl (by decide) ?_
  refine r_new (v := .bool _) (q_call (vs := [.int _ _]) (args := [.int .i64 _]) hb175 ⟨.inl rfl, trivial⟩ rfl (fun hA => isNaN_c _) rfl rfl) rfl rfl (by decide) ?_
  refine r_val (v := .bool _) (v_assign (.inl rfl) (noOwn_flat rfl)) rfl rfl (by decide) ?_
  refine r_nil ?_
  refine a_seq ?_
  refine a_seq ?_
  refine a_region ?_
  refine r_val (v := .bool _) (v_move (.inl rfl) (noOwn_flat rfl)) rfl rfl (by decide) ?_
  refine r_nil ?_
  refine a_cond rfl (fun ht11 => ?_) (fun ht11 => ?_)
  ·
    skip
    refine a_seq ?_
    refine a_seq ?_
    refine a_region ?_
    refine r_val (v := .bool _) (v_move (.inl rfl) (noOwn_flat rfl)) rfl rfl (by decide) ?_
    refine r_nil ?_
    refine a_cond rfl (fun ht12 => ?_) (fun ht12 => ?_)
    ·
      skip
      refine a_seq ?_
      refine a_region ?_
      refine r_val (v := .int _ _) (v_assign (.inl rfl) (noOwn_flat rfl)) rfl rfl (by decide) ?_
      refine r_nil ?_
      refine a_ret ?_
      refine ret1 Try.results162 (by decide) (by decide) (Weak.of_eq (int_eq ?_)) rfl Leaves.nil
      exact absurd ht11 (by simp)
    ·
      skip
      refine a_skip ?_
      refine a_seq ?_
      refine a_region ?_
      refine r_val (v := .int _ _) (v_assign (.inl rfl) (noOwn_flat rfl)) rfl rfl (by decide) ?_
      refine r_nil ?_
      refine a_ret ?_
      refine ret1 Try.results162 (by decide) (by decide) (Weak.of_eq (int_eq ?_)) rfl Leaves.nil
      exact absurd ht11 (by simp)
  ·
    skip
    refine a_skip ?_
    refine a_seq ?_
    refine a_seq ?_
    refine a_region ?_
    refine r_val (v := .bool _) (v_move (.inl rfl) (noOwn_flat rfl)) rfl rfl (by decide) ?_
    refine r_nil ?_
    refine a_cond rfl (fun ht13 => ?_) (fun ht13 => ?_)
    ·
      skip
      refine a_seq ?_
      refine a_region ?_
      refine r_val (v := .int _ _) (v_assign (.inl rfl) (noOwn_flat rfl)) rfl rfl (by decide) ?_
      refine r_nil ?_
      refine a_ret ?_
      refine ret1 Try.results162 (by decide) (by decide) (Weak.of_eq (int_eq ?_)) rfl Leaves.nil
      exact absurd ht13 (by simp)
    ·
      skip
      refine a_skip ?_
      refine a_seq ?_
      refine a_seq ?_
      refine a_region ?_
      refine r_val (v := .int _ _) (v_move (.inl rfl) (noOwn_flat rfl)) rfl rfl (by decide) ?_
      refine r_val (v := .int _ _) (v_move (.inl rfl) (noOwn_flat rfl)) rfl rfl (by decide) ?_
      refine r_val (v := .bool _) (v_lss (.inl rfl) (.inl rfl)) rfl rfl (by decide) ?_
      refine r_nil ?_
      refine a_cond rfl (fun ht16 => ?_) (fun ht16 => ?_)
      ·
        skip
        refine a_seq ?_
        refine a_region ?_
        refine r_val (v := .int _ _) (v_assign (.inl rfl) (noOwn_flat rfl)) rfl rfl (by decide) ?_
        refine r_nil ?_
        refine a_ret ?_
        refine ret1 Try.results162 (by decide) (by decide) (Weak.of_eq (int_eq ?_)) rfl Leaves.nil
        unfold cmpI; rw [if_pos (by simpa using ht16)]
      ·
        skip
        refine a_skip ?_
        refine a_seq ?_
        refine a_seq ?_
        refine a_region ?_
        refine r_val (v := .int _ _) (v_move (.inl rfl) (noOwn_flat rfl)) rfl rfl (by decide) ?_
        refine r_val (v := .int _ _) (v_move (.inl rfl) (noOwn_flat rfl)) rfl rfl (by decide) ?_
        refine r_val (v := .bool _) (v_gtr (.inl rfl) (.inl rfl)) rfl rfl (by decide) ?_
        refine r_nil ?_
        refine a_cond rfl (fun ht19 => ?_) (fun ht19 => ?_)
        ·
          skip
          refine a_seq ?_
          refine a_region ?_
          refine r_val (v := .int _ _) (v_assign (.inl rfl) (noOwn_flat rfl)) rfl rfl (by decide) ?_
          refine r_nil ?_
          refine a_ret ?_
          refine ret1 Try.results162 (by decide) (by decide) (Weak.of_eq (int_eq ?_)) rfl Leaves.nil
          unfold cmpI; rw [if_neg (by simpa using ht16), if_pos (by simpa using ht19)]
        ·
          skip
          refine a_skip ?_
          refine a_seq ?_
          refine a_region ?_
          refine r_val (v := .int _ _) (v_assign (.inl rfl) (noOwn_flat rfl)) rfl rfl (by decide) ?_
          refine r_nil ?_
          refine a_ret ?_
          refine ret1 Try.results162 (by decide) (by decide) (Weak.of_eq (int_eq ?_)) rfl Leaves.nil
          unfold cmpI; rw [if_neg (by simpa using ht16), if_neg (by simpa using ht19)]

theorem or_c (l : List Int) (hl : (l.length : Int) ≤ 9223372036854775807) : ACall Try.prog 161 [.sl (icells l) l.length] [] (.int .i64 (orL l)) [] := by
  refine ACall.intro Try.func161 rfl (N := 18) rfl (by decide) (by simp) ?_
  refine a_seq ?_
  refine a_region ?_
  refine r_val (v := .int _ _) (v_assign (.inl rfl) (noOwn_flat rfl)) rfl rfl (by decide) ?_
  refine r_nil ?_
  refine a_seq ?_
  refine a_region ?_
  refine r_val (v := .int _ _) (v_assign (.inl rfl) (noOwn_flat rfl)) rfl rfl (by decide) ?_
  refine r_nil ?_
  refine a_seq ?_
  refine a_seq ?_
  refine a_region ?_
  refine r_val (v := .sl _ _) (v_move (.inl rfl) (noOwn_flat rfl)) rfl rfl (by decide) ?_
  refine r_val (v := .int _ _) (v_len_sl sl25 (.inl rfl)) rfl rfl (by decide) ?_
  refine r_val (v := .int _ _) (v_move (.inl rfl) (noOwn_flat rfl)) rfl rfl (by decide) ?_
  refine r_nil ?_
  refine a_block ?_
  refine a_loop (X := Nat) (fun i => look [(3, .int .i64 0), (6, .sl (icells l) l.length), (7, .int .i64 (l.length : Int)), (8, .int .i64 (i : Int))]) (fun i => i ≤ l.length ∧ orL (l.drop i) = orL l) (fun i => l.length - i) 0 (ent_look ⟨Weak.of_eq rfl, Weak.of_eq rfl, Weak.of_eq rfl, Weak.of_eq rfl, trivial⟩) ⟨Nat.zero_le _, rfl⟩ (fun i hG => ?_)
  obtain ⟨h1, h2⟩ := hG
  refine a_seq ?_
  refine a_region ?_
  refine r_val (v := .bool _) (v_lss (.inl rfl) (.inl rfl)) rfl rfl (by decide) ?_
  refine r_nil ?_
  refine a_seq ?_
  refine a_cond rfl (fun ht9 => ?_) (fun ht9 => ?_)
  ·
    skip
    refine a_skip ?_
    refine a_seq ?_
    refine a_block ?_
    refine a_seq ?_
    have hi : i < l.length := (by simp at ht9; omega)
    refine a_region ?_
    refine r_val (v := .pp _ _) (v_indexAddr_sl es25 (.inl rfl) (.inl rfl) (fun _ => ⟨by omega, by omega, icells_ne hi⟩)) rfl rfl (by decide) ?_
    refine r_val (v := .int .i64 (gd l i)) (v_load_pp ta3 (.inl rfl) (fun _ => by rw [Nat.mul_one]; exact icells_get (gd_get hi)) rfl) rfl rfl (by decide) ?_
    refine r_val (v := .int _ _) (v_assign (.inl rfl) (noOwn_flat rfl)) rfl rfl (by decide) ?_
    refine r_nil ?_
    refine a_seq ?_
    refine a_region ?_
    refine r_val (v := .int _ _) (v_move (.inl rfl) (noOwn_flat rfl)) rfl rfl (by decide) ?_
    refine r_val (v := .int _ _) (v_move (.inl rfl) (noOwn_flat rfl)) rfl rfl (by decide) ?_
    refine r_val (v := .bool _) (v_neq (.inl rfl) (.inl rfl)) rfl rfl (by decide) ?_
    refine r_nil ?_
    refine a_cond rfl (fun ht14 => ?_) (fun ht14 => ?_)
    ·
      skip
      refine a_seq ?_
      refine a_region ?_
      refine r_val (v := .int _ _) (v_move (.inl rfl) (noOwn_flat rfl)) rfl rfl (by decide) ?_
      refine r_val (v := .int _ _) (v_assign (.inl rfl) (noOwn_flat rfl)) rfl rfl (by decide) ?_
      refine r_nil ?_
      refine a_ret ?_
      refine ret1 Try.results161 (by decide) (by decide) (Weak.of_eq (int_eq ?_)) rfl Leaves.nil
      rw [← h2, orL_drop hi, if_pos (by simpa using ht14)]
    ·
      skip
      refine a_skip ?_
      refine a_region ?_
      refine r_val (v := .int _ _) (v_add (.inl rfl) (.inl rfl) (fun _ => by omega)) rfl rfl (by decide) ?_
      refine r_val (v := .int _ _) (v_move (.inl rfl) (noOwn_flat rfl)) rfl rfl (by decide) ?_
      refine r_nil ?_
      refine ⟨i + 1, ent_look ⟨Weak.of_eq rfl, Weak.of_eq rfl, Weak.of_eq rfl, Weak.of_eq (int_eq (by omega)), trivial⟩, ⟨by omega, by rw [← h2, orL_drop hi, if_neg (by simpa using ht14)]⟩, by omega⟩
  ·
    skip
    refine a_exit ?_
    refine a_seq ?_
    refine a_region ?_
    refine r_val (v := .int _ _) (v_move (.inl rfl) (noOwn_flat rfl)) rfl rfl (by decide) ?_
    refine r_val (v := .int _ _) (v_assign (.inl rfl) (noOwn_flat rfl)) rfl rfl (by decide) ?_
    refine r_nil ?_
    refine a_ret ?_
    refine ret1 Try.results161 (by decide) (by decide) (Weak.of_eq (int_eq ?_)) rfl Leaves.nil
    rw [← h2, show l.drop i = [] from List.drop_eq_nil_of_le (by simp at ht9; omega)]; rfl

end Go.Av
namespace Go.Av
open Go Go.Proofs Go.Sort
set_option maxRecDepth 10000



end Go.Av
namespace Go.Av
open Go Go.Proofs Go.Sort
set_option maxRecDepth 10000



end Go.Av
namespace Go.Av
open Go Go.Proofs Go.Sort
set_option maxRecDepth 10000
theorem hb148 : hasBody Try.prog 148 = true := by kernel_rfl
theorem hb149 : hasBody Try.prog 149 = true := by kernel_rfl
theorem hb150 : hasBody Try.prog 150 = true := by kernel_rfl
theorem hb161 : hasBody Try.prog 161 = true := by kernel_rfl
theorem hb162 : hasBody Try.prog 162 = true := by kernel_rfl

theorem ones64A_c (n : Nat) (h : n < 18446744073709551616) : ACall Try.prog 164 [.int .u64 ((n : Nat) : Int)] [] (.int .i64 ((oc n : Nat) : Int)) [] := by
  have c1 : n / 2 &&& 6148914691236517205 ≤ 6148914691236517205 := Nat.and_le_right
  have c2 : n &&& 6148914691236517205 ≤ 6148914691236517205 := Nat.and_le_right
  have b1 : (oc1 n) = (n / 2 &&& 6148914691236517205) + (n &&& 6148914691236517205) := rfl
  have c3 : (oc1 n) / 4 &&& 3689348814741910323 ≤ 3689348814741910323 := Nat.and_le_right
  have c4 : (oc1 n) &&& 3689348814741910323 ≤ 3689348814741910323 := Nat.and_le_right
  have b2 : (oc2 (oc1 n)) = ((oc1 n) / 4 &&& 3689348814741910323) + ((oc1 n) &&& 3689348814741910323) := rfl
  have c5 : (oc3 (oc2 (oc1 n))) ≤ 1085102592571150095 := Nat.and_le_right
  have b4 : (oc4 (oc3 (oc2 (oc1 n)))) = (oc3 (oc2 (oc1 n))) + (oc3 (oc2 (oc1 n))) / 256 := rfl
  have b5 : (oc5 (oc4 (oc3 (oc2 (oc1 n))))) = (oc4 (oc3 (oc2 (oc1 n)))) + (oc4 (oc3 (oc2 (oc1 n)))) / 65536 := rfl
  have b6 : (oc6 (oc5 (oc4 (oc3 (oc2 (oc1 n)))))) = (oc5 (oc4 (oc3 (oc2 (oc1 n))))) + (oc5 (oc4 (oc3 (oc2 (oc1 n))))) / 4294967296 := rfl
  refine ACall.intro Try.func164 rfl (N := 35) rfl (by decide) (by simp) ?_
  refine a_seq ?_
  refine a_region ?_
  refine r_val (v := .int _ _) (v_assign (.inl rfl) (noOwn_flat rfl)) rfl rfl (by decide) ?_
  refine r_nil ?_
  refine a_seq ?_
  refine a_region ?_
  refine r_val (v := .int _ _) (v_move (.inl rfl) (noOwn_flat rfl)) rfl rfl (by decide) ?_
  refine r_val (v := .int .u64 ((n / 2 : Nat) : Int)) ((v_shru (.inl rfl) (.inl rfl) (fun _ => by omega)).cast (int_eq (by simp))) rfl rfl (by decide) ?_
  refine r_val (v := .int .u64 ((n / 2 &&& 6148914691236517205 : Nat) : Int)) ((v_andw (.inl rfl) (.inl rfl) (fun _ => by omega)).cast (int_eq rfl)) rfl rfl (by decide) ?_
  refine r_val (v := .int _ _) (v_move (.inl rfl) (noOwn_flat rfl)) rfl rfl (by decide) ?_
  refine r_val (v := .int .u64 ((n &&& 6148914691236517205 : Nat) : Int)) ((v_andw (.inl rfl) (.inl rfl) (fun _ => by omega)).cast (int_eq rfl)) rfl rfl (by decide) ?_
  refine r_val (v := .int .u64 (((oc1 n) : Nat) : Int)) ((v_addu (.inl rfl) (.inl rfl) (fun _ => by omega)).cast (int_eq rfl)) rfl rfl (by decide) ?_
  refine r_val (v := .int _ _) (v_assign (.inl rfl) (noOwn_flat rfl)) rfl rfl (by decide) ?_
  refine r_nil ?_
  refine a_seq ?_
  refine a_region ?_
  refine r_val (v := .int _ _) (v_move (.inl rfl) (noOwn_flat rfl)) rfl rfl (by decide) ?_
  refine r_val (v := .int .u64 (((oc1 n) / 4 : Nat) : Int)) ((v_shru (.inl rfl) (.inl rfl) (fun _ => by omega)).cast (int_eq (by simp))) rfl rfl (by decide) ?_
  refine r_val (v := .int .u64 (((oc1 n) / 4 &&& 3689348814741910323 : Nat) : Int)) ((v_andw (.inl rfl) (.inl rfl) (fun _ => by omega)).cast (int_eq rfl)) rfl rfl (by decide) ?_
  refine r_val (v := .int _ _) (v_move (.inl rfl) (noOwn_flat rfl)) rfl rfl (by decide) ?_
  refine r_val (v := .int .u64 (((oc1 n) &&& 3689348814741910323 : Nat) : Int)) ((v_andw (.inl rfl) (.inl rfl) (fun _ => by omega)).cast (int_eq rfl)) rfl rfl (by decide) ?_
  refine r_val (v := .int .u64 (((oc2 (oc1 n)) : Nat) : Int)) ((v_addu (.inl rfl) (.inl rfl) (fun _ => by omega)).cast (int_eq rfl)) rfl rfl (by decide) ?_
  refine r_val (v := .int _ _) (v_assign (.inl rfl) (noOwn_flat rfl)) rfl rfl (by decide) ?_
  refine r_nil ?_
  refine a_seq ?_
  refine a_region ?_
  refine r_val (v := .int _ _) (v_move (.inl rfl) (noOwn_flat rfl)) rfl rfl (by decide) ?_
  refine r_val (v := .int .u64 (((oc2 (oc1 n)) / 16 : Nat) : Int)) ((v_shru (.inl rfl) (.inl rfl) (fun _ => by omega)).cast (int_eq (by simp))) rfl rfl (by decide) ?_
  refine r_val (v := .int _ _) (v_move (.inl rfl) (noOwn_flat rfl)) rfl rfl (by decide) ?_
  refine r_val (v := .int .u64 (((oc2 (oc1 n)) / 16 + (oc2 (oc1 n)) : Nat) : Int)) ((v_addu (.inl rfl) (.inl rfl) (fun _ => by omega)).cast (int_eq rfl)) rfl rfl (by decide) ?_
  refine r_val (v := .int .u64 (((oc3 (oc2 (oc1 n))) : Nat) : Int)) ((v_andw (.inl rfl) (.inl rfl) (fun _ => by omega)).cast (int_eq rfl)) rfl rfl (by decide) ?_
  refine r_val (v := .int _ _) (v_assign (.inl rfl) (noOwn_flat rfl)) rfl rfl (by decide) ?_
  refine r_nil ?_
  refine a_seq ?_
  refine a_region ?_
  refine r_val (v := .int _ _) (v_move (.inl rfl) (noOwn_flat rfl)) rfl rfl (by decide) ?_
  refine r_val (v := .int _ _) (v_move (.inl rfl) (noOwn_flat rfl)) rfl rfl (by decide) ?_
  refine r_val (v := .int .u64 (((oc3 (oc2 (oc1 n))) / 256 : Nat) : Int)) ((v_shru (.inl rfl) (.inl rfl) (fun _ => by omega)).cast (int_eq (by simp))) rfl rfl (by decide) ?_
  refine r_val (v := .int .u64 (((oc4 (oc3 (oc2 (oc1 n)))) : Nat) : Int)) ((v_addu (.inl rfl) (.inl rfl) (fun _ => by omega)).cast (int_eq rfl)) rfl rfl (by decide) ?_
  refine r_val (v := .int _ _) (v_assign (.inl rfl) (noOwn_flat rfl)) rfl rfl (by decide) ?_
  refine r_nil ?_
  refine a_seq ?_
  refine a_region ?_
  refine r_val (v := .int _ _) (v_move (.inl rfl) (noOwn_flat rfl)) rfl rfl (by decide) ?_
  refine r_val (v := .int _ _) (v_move (.inl rfl) (noOwn_flat rfl)) rfl rfl (by decide) ?_
  refine r_val (v := .int .u64 (((oc4 (oc3 (oc2 (oc1 n)))) / 65536 : Nat) : Int)) ((v_shru (.inl rfl) (.inl rfl) (fun _ => by omega)).cast (int_eq (by simp))) rfl rfl (by decide) ?_
  refine r_val (v := .int .u64 (((oc5 (oc4 (oc3 (oc2 (oc1 n))))) : Nat) : Int)) ((v_addu (.inl rfl) (.inl rfl) (fun _ => by omega)).cast (int_eq rfl)) rfl rfl (by decide) ?_
  refine r_val (v := .int _ _) (v_assign (.inl rfl) (noOwn_flat rfl)) rfl rfl (by decide) ?_
  refine r_nil ?_
  refine a_seq ?_
  refine a_pre (ent_look (L := [(0, .int _ _), (2, .int _ _)]) ⟨Weak.rfl, Weak.rfl, trivial⟩) ?_
  refine a_region ?_
  refine r_val (v := .int _ _) (v_move (.inl rfl) (noOwn_flat rfl)) rfl rfl (by decide) ?_
  refine r_val (v := .int _ _) (v_move (.inl rfl) (noOwn_flat rfl)) rfl rfl (by decide) ?_
  refine r_val (v := .int .u64 (((oc5 (oc4 (oc3 (oc2 (oc1 n))))) / 4294967296 : Nat) : Int)) ((v_shru (.inl rfl) (.inl rfl) (fun _ => by omega)).cast (int_eq (by simp))) rfl rfl (by decide) ?_
  refine r_val (v := .int .u64 (((oc6 (oc5 (oc4 (oc3 (oc2 (oc1 n)))))) : Nat) : Int)) ((v_addu (.inl rfl) (.inl rfl) (fun _ => by omega)).cast (int_eq rfl)) rfl rfl (by decide) ?_
  refine r_val (v := .int _ _) (v_assign (.inl rfl) (noOwn_flat rfl)) rfl rfl (by decide) ?_
  refine r_nil ?_
  refine a_seq ?_
  refine a_region ?_
  refine r_val (v := .int _ _) (v_move (.inl rfl) (noOwn_flat rfl)) rfl rfl (by decide) ?_
  refine r_val (v := .int _ _) (v_conv iss176 uni3 (.inl rfl) (fun _ => by first | rfl | exact IntWalk.i64_in _ (by omega))) rfl rfl (by decide) ?_
  refine r_val (v := .int _ _) (v_and (.inl rfl) (.inl rfl) (fun _ => by omega)) rfl rfl (by decide) ?_
  refine r_val (v := .int _ _) (v_assign (.inl rfl) (noOwn_flat rfl)) rfl rfl (by decide) ?_
  refine r_nil ?_
  refine a_ret ?_
  refine ret1 Try.results164 (by decide) (by decide) (Weak.of_eq (int_eq ?_)) rfl Leaves.nil
  rfl

theorem onesA_c (n : Nat) (h : n < 18446744073709551616) : ACall Try.prog 158 [.int .u64 ((n : Nat) : Int)] [] (.int .i64 ((oc n : Nat) : Int)) [] := by
  refine ACall.intro Try.func158 rfl (N := 8) rfl (by decide) (by simp) ?_
  refine a_seq ?_
  refine a_region ?_
  refine r_val (v := .int _ _) (v_assign (.inl rfl) (noOwn_flat rfl)) rfl rfl (by decide) ?_
  refine r_nil ?_
  refine a_seq ?_
  refine a_condF ?_
  refine a_skip ?_
  refine a_seq ?_
  refine a_region ?_
  refine r_val (v := .int _ _) (v_move (.inl rfl) (noOwn_flat rfl)) rfl rfl (by decide) ?_
  refine r_new (v := .int _ _) (q_call (vs := [.int _ _]) (args := [.int .u64 ((_ : Nat) : Int)]) hb164 ⟨.inl rfl, trivial⟩ rfl (fun hA => ones64A_c _ h) rfl rfl) rfl rfl (by decide) ?_
  refine r_val (v := .int _ _) (v_assign (.inl rfl) (noOwn_flat rfl)) rfl rfl (by decide) ?_
  refine r_nil ?_
  refine a_ret ?_
  refine ret1 Try.results158 (by decide) (by decide) (Weak.of_eq (int_eq ?_)) rfl Leaves.nil
  rfl

theorem degreeA_c (x : Int) : ACall Try.prog 148 [.int .i64 x] [] (.int .i64 ((ocZ x : Nat) : Int)) [] := by
  refine ACall.intro Try.func148 rfl (N := 6) rfl (by decide) (by simp) ?_
  refine a_seq ?_
  refine a_region ?_
  refine r_val (v := .int _ _) (v_assign (.inl rfl) (noOwn_flat rfl)) rfl rfl (by decide) ?_
  refine r_nil ?_
  refine a_seq ?_
  refine a_region ?_
  refine r_val (v := .int _ _) (v_move (.inl rfl) (noOwn_flat rfl)) rfl rfl (by decide) ?_
  refine r_val (v := .int .u64 ((u64N x : Nat) : Int)) ((v_convA iss3 uni170 (.inl rfl)).cast (int_eq (u64N_cast x))) rfl rfl (by decide) ?_
  refine r_new (v := .int _ _) (q_call (vs := [.int _ _]) (args := [.int .u64 ((_ : Nat) : Int)]) hb158 ⟨.inl rfl, trivial⟩ rfl (fun hA => onesA_c _ (u64N_lt x)) rfl rfl) rfl rfl (by decide) ?_
  refine r_val (v := .int _ _) (v_assign (.inl rfl) (noOwn_flat rfl)) rfl rfl (by decide) ?_
  refine r_nil ?_
  refine a_ret ?_
  refine ret1 Try.results148 (by decide) (by decide) (Weak.of_eq (int_eq ?_)) rfl Leaves.nil
  rfl

theorem cmpMono_c (x y : Int) : ACall Try.prog 150 [.int .i64 x, .int .i64 y] [] (.int .i64 (cfMono x y)) [] := by
  refine ACall.intro Try.func150 rfl (N := 15) rfl (by decide) (by simp) ?_
  refine a_seq ?_
  refine a_region ?_
  refine r_val (v := .int _ _) (v_assign (.inl rfl) (noOwn_flat rfl)) rfl rfl (by decide) ?_
  refine r_nil ?_
  refine a_seq ?_
  refine a_region ?_
  refine r_val (v := .int _ _) (v_move (.inl rfl) (noOwn_flat rfl)) rfl rfl (by decide) ?_
  refine r_new (v := .int _ _) (q_call (vs := [.int _ _]) (args := [.int .i64 _]) hb148 ⟨.inl rfl, trivial⟩ rfl (fun hA => degreeA_c _) rfl rfl) rfl rfl (by decide) ?_
  refine r_val (v := .int _ _) (v_move (.inl rfl) (noOwn_flat rfl)) rfl rfl (by decide) ?_
  refine r_new (v := .int _ _) (q_call (vs := [.int _ _]) (args := [.int .i64 _]) hb148 ⟨.inl rfl, trivial⟩ rfl (fun hA => degreeA_c _) rfl rfl) rfl rfl (by decide) ?_
  refine r_new (v := .int _ _) (q_call (vs := [.int _ _, .int _ _]) (args := [.int .i64 _, .int .i64 _]) hb162 ⟨.inl rfl, .inl rfl, trivial⟩ rfl (fun hA => cmp_c _ _) rfl rfl) rfl rfl (by decide) ?_
  refine r_val (v := .int _ _) (v_move (.inl rfl) (noOwn_flat rfl)) rfl rfl (by decide) ?_
  refine r_val (v := .int _ _) (v_move (.inl rfl) (noOwn_flat rfl)) rfl rfl (by decide) ?_
  refine r_new (v := .int _ _) (q_call (vs := [.int _ _, .int _ _]) (args := [.int .i64 _, .int .i64 _]) hb162 ⟨.inl rfl, .inl rfl, trivial⟩ rfl (fun hA => cmp_c _ _) rfl rfl) rfl rfl (by decide) ?_
  refine r_new (v := .osl 1 (icells [cmpI (ocZ x : Int) (ocZ y : Int), cmpI x y]) 2 (some 2)) (q_sliceLit (n := 2) (parts := [(0, .tmp 9), (1, .tmp 12)]) lt25 rfl rfl rfl rfl) rfl rfl (by decide) ?_
  refine r_new (v := .int _ _) (q_call (vs := [.rsl _ _ _ _ _]) (args := [.sl _ _]) hb161 ⟨.inl rfl, trivial⟩ (l1_eq (sl_sh (ic_pure _))) (fun hA => or_c [cmpI (ocZ x : Int) (ocZ y : Int), cmpI x y] (by simp)) rfl rfl) rfl rfl (by decide) ?_
  refine r_val (v := .int _ _) (v_assign (.inl rfl) (noOwn_flat rfl)) rfl rfl (by decide) ?_
  refine r_nil ?_
  refine a_ret ?_
  refine ret1 Try.results150 (by decide) (by decide) (Weak.of_eq (int_eq ?_)) rfl Leaves.nil
  rw [cfMono_eq]

theorem graded_c (v d : Nat) (hv : v ≤ 6) (hd : d ≤ 6) : ACall Try.prog 120 [.int .i64 ((v : Nat) : Int), .int .i64 ((d : Nat) : Int)] [] (.osl 1 (icells (gradS v d)) (gradS v d).length none) [] := by
  have hp6 := pow_le64 hv
  refine ACall.intro Try.func120 rfl (N := 24) rfl (by decide) (by simp) ?_
  refine a_seq ?_
  refine a_region ?_
  refine r_val (v := .nils) (v_assign (.inl rfl) (noOwn_flat rfl)) rfl rfl (by decide) ?_
  refine r_nil ?_
  refine a_seq ?_
  refine a_region ?_
  refine r_val (v := .nils) (v_assign (.inl rfl) (noOwn_flat rfl)) rfl rfl (by decide) ?_
  refine r_nil ?_
  refine a_seq ?_
  refine a_seq ?_
  refine a_region ?_
  refine r_val (v := .int _ _) (v_move (.inl rfl) (noOwn_flat rfl)) rfl rfl (by decide) ?_
  refine r_val (v := .int .i64 ((2 ^ v : Nat) : Int)) ((v_shl (.inl rfl) (.inl rfl) (fun _ => by have := pow6 (v := (v : Int)) (by omega); omega)).cast (int_eq (by rw [Int.toNat_natCast]; simp))) rfl rfl (by decide) ?_
  refine r_val (v := .int _ _) (v_move (.inl rfl) (noOwn_flat rfl)) rfl rfl (by decide) ?_
  refine r_nil ?_
  refine a_block ?_
  refine a_pre (ent_nil (t := 5) (sz := 1) (cap := none) (.inl rfl) (fun _ h => by cases h)) ?_
  refine a_loop (X := Nat) (fun i => look [(1, .int .i64 ((d : Nat) : Int)), (5, .osl 1 (icells (((List.range i).filter fun m => decide (cntN m ≤ d)).map (fun m : Nat => (m : Int)))) (((List.range i).filter fun m => decide (cntN m ≤ d)).map (fun m : Nat => (m : Int))).length none), (8, .int .i64 ((2 ^ v : Nat) : Int)), (9, .int .i64 ((i : Nat) : Int))]) (fun i => i ≤ 2 ^ v) (fun i => 2 ^ v - i) 0 (ent_look ⟨Weak.of_eq rfl, Weak.osl rfl rfl, Weak.of_eq rfl, Weak.of_eq rfl, trivial⟩) (Nat.zero_le _) (fun i hG => ?_)
  refine a_seq ?_
  refine a_region ?_
  refine r_val (v := .bool _) (v_lss (.inl rfl) (.inl rfl)) rfl rfl (by decide) ?_
  refine r_nil ?_
  refine a_seq ?_
  refine a_cond rfl (fun ht10 => ?_) (fun ht10 => ?_)
  ·
    skip
    refine a_skip ?_
    refine a_seq ?_
    refine a_block ?_
    refine a_seq ?_
    have hi : i < 2 ^ v := (by have := of_decide_eq_true ht10; omega)
    have hoc := ocZ_of (m := i) (by omega)
    refine a_region ?_
    refine r_val (v := .int _ _) (v_move (.inl rfl) (noOwn_flat rfl)) rfl rfl (by decide) ?_
    refine r_val (v := .int _ _) (v_assign (.inl rfl) (noOwn_flat rfl)) rfl rfl (by decide) ?_
    refine r_nil ?_
    refine a_seq ?_
    refine a_region ?_
    refine r_val (v := .int _ _) (v_move (.inl rfl) (noOwn_flat rfl)) rfl rfl (by decide) ?_
    refine r_new (v := .int _ _) (q_call (vs := [.int _ _]) (args := [.int .i64 _]) hb148 ⟨.inl rfl, trivial⟩ rfl (fun hA => degreeA_c _) rfl rfl) rfl rfl (by decide) ?_
    refine r_val (v := .int _ _) (v_move (.inl rfl) (noOwn_flat rfl)) rfl rfl (by decide) ?_
    refine r_val (v := .bool _) (v_leq (.inl rfl) (.inl rfl)) rfl rfl (by decide) ?_
    refine r_nil ?_
    refine a_cond rfl (fun ht15 => ?_) (fun ht15 => ?_)
    ·
      skip
      have hdg : decide (cntN i ≤ d) = true := (by simp at ht15; rw [decide_eq_true_iff]; omega)
      refine a_region ?_
      refine r_val (v := .rsl _ _ _ _ _) (v_move (.inl rfl) (noOwn_flat rfl)) rfl rfl (by decide) ?_
      refine r_val (v := .int _ _) (v_move (.inl rfl) (noOwn_flat rfl)) rfl rfl (by decide) ?_
      refine r_new (v := .osl 1 (icells [(i : Int)]) 1 (some 1)) (q_sliceLit (n := 1) (parts := [(0, .tmp 17)]) lt25 rfl rfl rfl rfl) rfl rfl (by decide) ?_
      refine r_pre (ent_reloc_sl (t := 16) rfl rfl) ?_
      refine r_step rfl (o_append rfl ap25 rfl (by decide) (by decide) rfl (src_lit (.inl rfl) rfl rfl (ic_pureL _)) (ic_cell _) (by rw [icells_length]; omega) (by have := List.length_filter_le (fun m => decide (cntN m ≤ d)) (List.range i); simp at this; simp; omega)) ?_
      refine r_val (v := .rsl _ _ _ _ _) (v_assign (.inl rfl) (noOwn_flat rfl)) rfl rfl (by decide) ?_
      refine r_pre (ent_reloc_sl (t := 5) rfl rfl) ?_
      refine r_nil ?_
      first | (have hdg : decide (cntN i ≤ d) = true := (by simp at ht15; rw [decide_eq_true_iff]; omega)) | (have hdg : decide (cntN i ≤ d) = false := (by simp at ht15; rw [decide_eq_false_iff_not]; omega))
      refine a_region ?_
      refine r_val (v := .int _ _) (v_add (.inl rfl) (.inl rfl) (fun _ => by omega)) rfl rfl (by decide) ?_
      refine r_val (v := .int _ _) (v_move (.inl rfl) (noOwn_flat rfl)) rfl rfl (by decide) ?_
      refine r_nil ?_
      refine ⟨i + 1, ent_look ⟨Weak.of_eq rfl, Weak.osl (by rw [filt_yes hdg]; simp [icells]) (by rw [filt_yes hdg]; simp), Weak.of_eq rfl, Weak.of_eq (int_eq (by omega)), trivial⟩, by omega, by omega⟩
    ·
      skip
      refine a_skip ?_
      first | (have hdg : decide (cntN i ≤ d) = true := (by simp at ht15; rw [decide_eq_true_iff]; omega)) | (have hdg : decide (cntN i ≤ d) = false := (by simp at ht15; rw [decide_eq_false_iff_not]; omega))
      refine a_region ?_
      refine r_val (v := .int _ _) (v_add (.inl rfl) (.inl rfl) (fun _ => by omega)) rfl rfl (by decide) ?_
      refine r_val (v := .int _ _) (v_move (.inl rfl) (noOwn_flat rfl)) rfl rfl (by decide) ?_
      refine r_nil ?_
      refine ⟨i + 1, ent_look ⟨Weak.of_eq rfl, Weak.osl (by rw [filt_no hdg]) (by rw [filt_no hdg]), Weak.of_eq rfl, Weak.of_eq (int_eq (by omega)), trivial⟩, by omega, by omega⟩
  ·
    skip
    refine a_exit ?_
    refine a_seq ?_
    refine a_pre (ent_eq (t := 5) (v' := .osl 1 (icells (gradL v d)) (gradL v d).length none) (Weak.osl (by have := of_decide_eq_false ht10; rw [show i = 2 ^ v by omega]; rfl) (by have := of_decide_eq_false ht10; rw [show i = 2 ^ v by omega]; rfl))) ?_
    have hln : (gradL v d).length ≤ 64 := (by have := List.length_filter_le (fun m => decide (cntN m ≤ d)) (List.range (2 ^ v)); unfold gradL; simp at this ⊢; omega)
    refine a_region ?_
    refine r_val (v := .rsl _ _ _ _ _) (v_move (.inl rfl) (noOwn_flat rfl)) rfl rfl (by decide) ?_
    refine r_step rfl (o_callIO (q := (5, [])) (vs := [.rsl _ _ _ _ _, .fn _ _ _]) (args := [.rsl (INH, []) _ _ _ _, .fn _ _ _]) (x0 := .osl _ _ _ _) (x1 := .osl _ _ _ _) (res := .tup []) rfl hb149 rfl (by decide) ⟨.inl rfl, .inl rfl, trivial⟩ rfl rfl (sortFunc_c 150 hb150 cfMono cmpMono_c cfMono_swo (gradL v d).toArray (gradL v d).length (by simp) (by omega)) rfl rfl rfl (ac_noSh _) (ac_noRef _) (Nat.le_of_ble_eq_true rfl) (by decide) rfl) ?_
    refine r_nil ?_
    refine a_seq ?_
    refine a_pre (ent_eq (t := 5) (v' := .osl 1 (icells (gradS v d)) (gradS v d).length none) (Weak.osl (by unfold acells; rw [grad_eq hv]) (by rw [← grad_eq hv]; simp [sort_sz cfMono_swo]))) ?_
    refine a_region ?_
    refine r_val (v := .rsl _ _ _ _ _) (v_move (.inl rfl) (noOwn_flat rfl)) rfl rfl (by decide) ?_
    refine r_val (v := .rsl _ _ _ _ _) (v_assign (.inl rfl) (noOwn_flat rfl)) rfl rfl (by decide) ?_
    refine r_pre (ent_reloc_sl (t := 4) rfl rfl) ?_
    refine r_nil ?_
    refine a_ret ?_
    refine ret1 Try.results120 (by decide) (by decide) (Weak.osl ?_ ?_) rfl Leaves.nil
    · rfl
    · rfl
end Go.Av
namespace Go.Av
open Go Go.Proofs Go.Sort
set_option maxRecDepth 10000



end Go.Av
namespace Go.Av
open Go Go.Proofs Go.Sort
set_option maxRecDepth 10000



end Go.Av
namespace Go.Av
open Go Go.Proofs Go.Sort
set_option maxRecDepth 10000



end Go.Av
namespace Go.Av
open Go Go.Proofs Go.Sort
set_option maxRecDepth 10000



end Go.Av
namespace Go.Av
open Go Go.Proofs Go.Sort
set_option maxRecDepth 10000
theorem hb147 : hasBody Try.prog 147 = true := by kernel_rfl

theorem cnt_c (n : Nat) (h : n < 64) : ACall Try.prog 147 [.int .i64 ((n : Nat) : Int)] [] (.int .i64 ((cntN n : Nat) : Int)) [] := by
  refine ACall.intro Try.func147 rfl (N := 13) rfl (by decide) (by simp) ?_
  refine a_seq ?_
  refine a_region ?_
  refine r_val (v := .int _ _) (v_assign (.inl rfl) (noOwn_flat rfl)) rfl rfl (by decide) ?_
  refine r_nil ?_
  refine a_seq ?_
  refine a_region ?_
  refine r_val (v := .int _ _) (v_assign (.inl rfl) (noOwn_flat rfl)) rfl rfl (by decide) ?_
  refine r_nil ?_
  refine a_seq ?_
  refine a_block ?_
  refine a_loop (X := (Nat × Nat × Nat)) (fun x => look [(0, .int .i64 ((x.2.1 : Nat) : Int)), (3, .int .i64 ((x.2.2 : Nat) : Int))]) (fun x => x.2.1 < 2 ^ x.1 ∧ x.1 ≤ 7 ∧ x.2.2 + cntB x.1 x.2.1 = cntN n ∧ x.2.2 + x.1 ≤ 7 ∧ x.2.1 ≤ 63) (fun x => x.2.1) (7, n, 0) (ent_look ⟨Weak.of_eq rfl, Weak.of_eq rfl, trivial⟩) ⟨by dsimp only; omega, Nat.le_refl _, by dsimp only; rw [Nat.zero_add]; rfl, by dsimp only; omega, by dsimp only; omega⟩ (fun x hG => ?_)
  obtain ⟨g1, g2, g3, g4, g5⟩ := hG
  refine a_seq ?_
  refine a_seq ?_
  refine a_region ?_
  refine r_val (v := .int _ _) (v_move (.inl rfl) (noOwn_flat rfl)) rfl rfl (by decide) ?_
  refine r_val (v := .bool _) (v_gtr (.inl rfl) (.inl rfl)) rfl rfl (by decide) ?_
  refine r_nil ?_
  refine a_cond rfl (fun ht5 => ?_) (fun ht5 => ?_)
  ·
    skip
    refine a_skip ?_
    refine a_seq ?_
    refine a_block ?_
    have hx0 : 0 < x.2.1 := (by simp at ht5; omega)
    have hst := cntB_step hx0 g1
    refine a_region ?_
    refine r_val (v := .int _ _) (v_move (.inl rfl) (noOwn_flat rfl)) rfl rfl (by decide) ?_
    refine r_val (v := .int _ _) (v_move (.inl rfl) (noOwn_flat rfl)) rfl rfl (by decide) ?_
    refine r_val (v := .int _ _) (v_rem (.inl rfl) (.inl rfl) (fun _ => by omega)) rfl rfl (by decide) ?_
    refine r_val (v := .int _ _) (v_add (.inl rfl) (.inl rfl) (fun _ => by omega)) rfl rfl (by decide) ?_
    refine r_val (v := .int _ _) (v_assign (.inl rfl) (noOwn_flat rfl)) rfl rfl (by decide) ?_
    refine r_nil ?_
    refine a_region ?_
    refine r_val (v := .int _ _) (v_move (.inl rfl) (noOwn_flat rfl)) rfl rfl (by decide) ?_
    refine r_val (v := .int _ _) (v_quo (.inl rfl) (.inl rfl) (fun _ => by omega)) rfl rfl (by decide) ?_
    refine r_val (v := .int _ _) (v_assign (.inl rfl) (noOwn_flat rfl)) rfl rfl (by decide) ?_
    refine r_nil ?_
    refine ⟨(x.1 - 1, x.2.1 / 2, x.2.2 + x.2.1 % 2), ent_look ⟨Weak.of_eq (int_eq (by dsimp only; omega)), Weak.of_eq (int_eq (by dsimp only; omega)), trivial⟩, ⟨hst.2.1, by dsimp only; omega, by dsimp only; rw [← g3, hst.2.2]; omega, by dsimp only; omega, by dsimp only; omega⟩, by dsimp only; omega⟩
  ·
    skip
    refine a_exit ?_
    refine a_seq ?_
    have hx0 : x.2.1 = 0 := (by simp at ht5; omega)
    refine a_region ?_
    refine r_val (v := .int _ _) (v_move (.inl rfl) (noOwn_flat rfl)) rfl rfl (by decide) ?_
    refine r_val (v := .int _ _) (v_assign (.inl rfl) (noOwn_flat rfl)) rfl rfl (by decide) ?_
    refine r_nil ?_
    refine a_ret ?_
    refine ret1 Try.results147 (by decide) (by decide) (Weak.of_eq (int_eq ?_)) rfl Leaves.nil
    rw [← g3, hx0, cntB_zero]; rfl

theorem l18Graded_c (v d : Nat) (hv : v ≤ 6) (hd : d ≤ 6) : ACall Try.prog 118 [.int .i64 ((v : Nat) : Int), .int .i64 ((d : Nat) : Int)] [] (.osl 1 (icells (gradS v d)) (gradS v d).length none) [] := by
  have hp6 := pow_le64 hv
  refine ACall.intro Try.func118 rfl (N := 29) rfl (by decide) (by simp) ?_
  refine a_seq ?_
  refine a_region ?_
  refine r_val (v := .nils) (v_assign (.inl rfl) (noOwn_flat rfl)) rfl rfl (by decide) ?_
  refine r_nil ?_
  refine a_seq ?_
  refine a_region ?_
  refine r_new (v := .osl _ _ _ _) (q_sliceLit (n := 0) (parts := []) lt25 rfl rfl rfl rfl) rfl rfl (by decide) ?_
  refine r_val (v := .rsl _ _ _ _ _) (v_assign (.inl rfl) (noOwn_flat rfl)) rfl rfl (by decide) ?_
  refine r_pre (ent_reloc_sl (t := 5) rfl rfl) ?_
  refine r_nil ?_
  refine a_seq ?_
  refine a_seq ?_
  refine a_region ?_
  refine r_val (v := .int _ _) (v_assign (.inl rfl) (noOwn_flat rfl)) rfl rfl (by decide) ?_
  refine r_nil ?_
  refine a_block ?_
  refine a_loop (X := Nat) (fun k => look [(0, .int .i64 ((v : Nat) : Int)), (1, .int .i64 ((d : Nat) : Int)), (5, .osl 1 (icells (firstK v k)) (firstK v k).length none), (6, .int .i64 ((k : Nat) : Int))]) (fun k => k ≤ d + 1) (fun k => d + 1 - k) 0 (ent_look ⟨Weak.of_eq rfl, Weak.of_eq rfl, Weak.osl rfl rfl, Weak.of_eq rfl, trivial⟩) (Nat.zero_le _) (fun k hG => ?_)
  have hfk := firstK_len hv k
  refine a_seq ?_
  refine a_seq ?_
  refine a_region ?_
  refine r_val (v := .int _ _) (v_move (.inl rfl) (noOwn_flat rfl)) rfl rfl (by decide) ?_
  refine r_val (v := .int _ _) (v_move (.inl rfl) (noOwn_flat rfl)) rfl rfl (by decide) ?_
  refine r_val (v := .bool _) (v_leq (.inl rfl) (.inl rfl)) rfl rfl (by decide) ?_
  refine r_nil ?_
  refine a_cond rfl (fun ht11 => ?_) (fun ht11 => ?_)
  ·
    skip
    refine a_skip ?_
    refine a_seq ?_
    refine a_block ?_
    refine a_seq ?_
    refine a_region ?_
    refine r_val (v := .int _ _) (v_assign (.inl rfl) (noOwn_flat rfl)) rfl rfl (by decide) ?_
    refine r_nil ?_
    refine a_block ?_
    refine a_loop (X := Nat) (fun m => look [(0, .int .i64 ((v : Nat) : Int)), (1, .int .i64 ((d : Nat) : Int)), (5, .osl 1 (icells (firstK v k ++ partK k m)) (firstK v k ++ partK k m).length none), (6, .int .i64 ((k : Nat) : Int)), (7, .int .i64 ((m : Nat) : Int))]) (fun m => m ≤ 2 ^ v) (fun m => 2 ^ v - m) 0 (ent_look ⟨Weak.of_eq rfl, Weak.of_eq rfl, Weak.osl (by simp [partK]) (by simp [partK]), Weak.of_eq rfl, Weak.of_eq rfl, trivial⟩) (Nat.zero_le _) (fun m hG => ?_)
    have hpk := partK_len k m
    refine a_seq ?_
    refine a_seq ?_
    refine a_region ?_
    refine r_val (v := .int _ _) (v_move (.inl rfl) (noOwn_flat rfl)) rfl rfl (by decide) ?_
    refine r_val (v := .int _ _) (v_move (.inl rfl) (noOwn_flat rfl)) rfl rfl (by decide) ?_
    refine r_val (v := .int .i64 ((2 ^ v : Nat) : Int)) ((v_shl (.inl rfl) (.inl rfl) (fun _ => by have := pow6 (v := (v : Int)) (by omega); omega)).cast (int_eq (by rw [Int.toNat_natCast]; simp))) rfl rfl (by decide) ?_
    refine r_val (v := .bool _) (v_lss (.inl rfl) (.inl rfl)) rfl rfl (by decide) ?_
    refine r_nil ?_
    refine a_cond rfl (fun ht17 => ?_) (fun ht17 => ?_)
    ·
      skip
      refine a_skip ?_
      refine a_seq ?_
      refine a_block ?_
      refine a_seq ?_
      have hm : m < 2 ^ v := (by have := of_decide_eq_true ht17; omega)
      have hkd : k ≤ d := (by simp at ht11; omega)
      refine a_region ?_
      refine r_val (v := .int _ _) (v_move (.inl rfl) (noOwn_flat rfl)) rfl rfl (by decide) ?_
      refine r_new (v := .int _ _) (q_call (vs := [.int _ _]) (args := [.int .i64 _]) hb147 ⟨.inl rfl, trivial⟩ rfl (fun hA => cnt_c m (by omega)) rfl rfl) rfl rfl (by decide) ?_
      refine r_val (v := .int _ _) (v_move (.inl rfl) (noOwn_flat rfl)) rfl rfl (by decide) ?_
      refine r_val (v := .bool _) (v_eql (.inl rfl) (.inl rfl)) rfl rfl (by decide) ?_
      refine r_nil ?_
      refine a_cond rfl (fun ht23 => ?_) (fun ht23 => ?_)
      ·
        skip
        have hck : cntN m = k := (by simp at ht23; omega)
        refine a_region ?_
        refine r_val (v := .rsl _ _ _ _ _) (v_move (.inl rfl) (noOwn_flat rfl)) rfl rfl (by decide) ?_
        refine r_val (v := .int _ _) (v_move (.inl rfl) (noOwn_flat rfl)) rfl rfl (by decide) ?_
        refine r_new (v := .osl 1 (icells [(m : Int)]) 1 (some 1)) (q_sliceLit (n := 1) (parts := [(0, .tmp 25)]) lt25 rfl rfl rfl rfl) rfl rfl (by decide) ?_
        refine r_pre (ent_reloc_sl (t := 24) rfl rfl) ?_
        refine r_step rfl (o_append rfl ap25 rfl (by decide) (by decide) rfl (src_lit (.inl rfl) rfl rfl (ic_pureL _)) (ic_cell _) (by rw [icells_length]; omega) (by rw [List.length_append]; omega)) ?_
        refine r_val (v := .rsl _ _ _ _ _) (v_assign (.inl rfl) (noOwn_flat rfl)) rfl rfl (by decide) ?_
        refine r_pre (ent_reloc_sl (t := 5) rfl rfl) ?_
        refine r_nil ?_
        first | (have hck : cntN m = k := (by simp at ht23; omega)) | (have hck : ¬ cntN m = k := (by simp at ht23; omega))
        refine a_region ?_
        refine r_val (v := .int _ _) (v_move (.inl rfl) (noOwn_flat rfl)) rfl rfl (by decide) ?_
        refine r_val (v := .int _ _) (v_add (.inl rfl) (.inl rfl) (fun _ => by omega)) rfl rfl (by decide) ?_
        refine r_val (v := .int _ _) (v_assign (.inl rfl) (noOwn_flat rfl)) rfl rfl (by decide) ?_
        refine r_nil ?_
        refine ⟨m + 1, ent_look ⟨Weak.of_eq rfl, Weak.of_eq rfl, Weak.osl (by rw [partK_yes hck]; simp [icells]) (by rw [partK_yes hck]; simp; omega), Weak.of_eq rfl, Weak.of_eq (int_eq (by omega)), trivial⟩, by omega, by omega⟩
      ·
        skip
        refine a_skip ?_
        first | (have hck : cntN m = k := (by simp at ht23; omega)) | (have hck : ¬ cntN m = k := (by simp at ht23; omega))
        refine a_region ?_
        refine r_val (v := .int _ _) (v_move (.inl rfl) (noOwn_flat rfl)) rfl rfl (by decide) ?_
        refine r_val (v := .int _ _) (v_add (.inl rfl) (.inl rfl) (fun _ => by omega)) rfl rfl (by decide) ?_
        refine r_val (v := .int _ _) (v_assign (.inl rfl) (noOwn_flat rfl)) rfl rfl (by decide) ?_
        refine r_nil ?_
        refine ⟨m + 1, ent_look ⟨Weak.of_eq rfl, Weak.of_eq rfl, Weak.osl (by rw [partK_no hck]) (by rw [partK_no hck]), Weak.of_eq rfl, Weak.of_eq (int_eq (by omega)), trivial⟩, by omega, by omega⟩
    ·
      skip
      refine a_exit ?_
      refine a_region ?_
      refine r_val (v := .int _ _) (v_move (.inl rfl) (noOwn_flat rfl)) rfl rfl (by decide) ?_
      refine r_val (v := .int _ _) (v_add (.inl rfl) (.inl rfl) (fun _ => by omega)) rfl rfl (by decide) ?_
      refine r_val (v := .int _ _) (v_assign (.inl rfl) (noOwn_flat rfl)) rfl rfl (by decide) ?_
      refine r_nil ?_
      have hme : m = 2 ^ v := (by have := of_decide_eq_false ht17; omega)
      refine ⟨k + 1, ent_look ⟨Weak.of_eq rfl, Weak.of_eq rfl, Weak.osl (by rw [firstK_succ, hme]) (by rw [firstK_succ, hme]), Weak.of_eq (int_eq (by omega)), trivial⟩, by simp at ht11; omega, by simp at ht11; omega⟩
  ·
    skip
    refine a_exit ?_
    refine a_seq ?_
    refine a_region ?_
    refine r_val (v := .rsl _ _ _ _ _) (v_move (.inl rfl) (noOwn_flat rfl)) rfl rfl (by decide) ?_
    refine r_val (v := .rsl _ _ _ _ _) (v_assign (.inl rfl) (noOwn_flat rfl)) rfl rfl (by decide) ?_
    refine r_pre (ent_reloc_sl (t := 4) rfl rfl) ?_
    refine r_nil ?_
    refine a_ret ?_
    refine ret1 Try.results118 (by decide) (by decide) (Weak.osl ?_ ?_) rfl Leaves.nil
    · simp at ht11; rw [show k = d + 1 by omega]; rfl
    · simp at ht11; rw [show k = d + 1 by omega]; rfl
end Go.Av
namespace Go.Av
open Go Go.Proofs Go.Sort
set_option maxRecDepth 10000


end Go.Av
namespace Go.Av
open Go Go.Proofs Go.Sort
set_option maxRecDepth 10000



end Go.Av
namespace Go.Av
open Go Go.Proofs Go.Sort
set_option maxRecDepth 10000



end Go.Av
namespace Go.Av
open Go Go.Proofs Go.Sort
set_option maxRecDepth 10000



end Go.Av
namespace Go.Av
open Go Go.Proofs Go.Sort
set_option maxRecDepth 10000
theorem es22 : elemSize Try.prog 22 = some 1 := by kernel_rfl
theorem fo24_0 : fieldOff Try.prog 24 0 = some 0 := by kernel_rfl
theorem fo24_1 : fieldOff Try.prog 24 1 = some 1 := by kernel_rfl
theorem fo31_0 : fieldOff Try.prog 31 0 = some 0 := by kernel_rfl
theorem fo31_1 : fieldOff Try.prog 31 1 = some 1 := by kernel_rfl
theorem hb101 : hasBody Try.prog 101 = true := by kernel_rfl
theorem hb16 : hasBody Try.prog 16 = true := by kernel_rfl
theorem hb20 : hasBody Try.prog 20 = true := by kernel_rfl
theorem hb48 : hasBody Try.prog 48 = true := by kernel_rfl
theorem hb53 : hasBody Try.prog 53 = true := by kernel_rfl
theorem hb60 : hasBody Try.prog 60 = true := by kernel_rfl
theorem hb89 : hasBody Try.prog 89 = true := by kernel_rfl
theorem hb95 : hasBody Try.prog 95 = true := by kernel_rfl
theorem sb25 : (Try.prog.info? 25).map (fun i => (i.size, i.bytes)) = some (1, 24) := by kernel_rfl
theorem sl22 : isSlice Try.prog 22 = true := by kernel_rfl
theorem ta22 : tyAgg Try.prog 22 = some (false, 1) := by kernel_rfl
theorem ta25 : tyAgg Try.prog 25 = some (false, 1) := by kernel_rfl
theorem ta31 : tyAgg Try.prog 31 = some (true, 2) := by kernel_rfl
theorem us22 : Try.prog.underlying 22 = some (.slice 25) := by kernel_rfl
theorem zc25 : zeroCells Try.prog 25 = some [.nils] := by kernel_rfl
theorem zc31 : zeroCells Try.prog 31 = some [.int .i64 0, .nils] := by kernel_rfl

theorem szIntS_c (c : List Int) (left : Int) (hl : 0 ≤ left ∧ left ≤ 1000000000) (hc : (c.length : Int) ≤ 9223372036854775807) : ACall Try.prog 101 [.sl (icells c) c.length, .int .i64 left] [] (.int .i64 (szR left c.length)) [] := by
  refine ACall.intro Try.func101 rfl (N := 12) rfl (by decide) (by simp) ?_
  refine a_seq ?_
  refine a_region ?_
  refine r_val (v := .int _ _) (v_assign (.inl rfl) (noOwn_flat rfl)) rfl rfl (by decide) ?_
  refine r_nil ?_
  refine a_seq ?_
  refine a_region ?_
  refine r_val (v := .int _ _) (v_move (.inl rfl) (noOwn_flat rfl)) rfl rfl (by decide) ?_
  refine r_val (v := .sl _ _) (v_move (.inl rfl) (noOwn_flat rfl)) rfl rfl (by decide) ?_
  refine r_val (v := .int _ _) (v_len_sl sl25 (.inl rfl)) rfl rfl (by decide) ?_
  refine r_val (v := .int _ _) (v_sub (.inl rfl) (.inl rfl) (fun _ => by omega)) rfl rfl (by decide) ?_
  refine r_val (v := .int _ _) (v_assign (.inl rfl) (noOwn_flat rfl)) rfl rfl (by decide) ?_
  refine r_nil ?_
  refine a_seq ?_
  refine a_seq ?_
  refine a_region ?_
  refine r_val (v := .int _ _) (v_move (.inl rfl) (noOwn_flat rfl)) rfl rfl (by decide) ?_
  refine r_val (v := .bool _) (v_lss (.inl rfl) (.inl rfl)) rfl rfl (by decide) ?_
  refine r_nil ?_
  refine a_cond rfl (fun ht10 => ?_) (fun ht10 => ?_)
  ·
    skip
    refine a_seq ?_
    refine a_region ?_
    refine r_val (v := .int _ _) (v_assign (.inl rfl) (noOwn_flat rfl)) rfl rfl (by decide) ?_
    refine r_nil ?_
    refine a_ret ?_
    refine ret1 Try.results101 (by decide) (by decide) (Weak.of_eq (int_eq ?_)) rfl Leaves.nil
    unfold szR; rw [if_pos (by simpa using ht10)]
  ·
    skip
    refine a_skip ?_
    refine a_seq ?_
    refine a_region ?_
    refine r_val (v := .int _ _) (v_move (.inl rfl) (noOwn_flat rfl)) rfl rfl (by decide) ?_
    refine r_val (v := .int _ _) (v_assign (.inl rfl) (noOwn_flat rfl)) rfl rfl (by decide) ?_
    refine r_nil ?_
    refine a_ret ?_
    refine ret1 Try.results101 (by decide) (by decide) (Weak.of_eq (int_eq ?_)) rfl Leaves.nil
    unfold szR; rw [if_neg (by simpa using ht10)]

theorem szIntSS_c (L : List (List Int)) (left : Int) (hl : 0 ≤ left ∧ left ≤ 1000000000) (hlen : ∀ i, ((gl L i).length : Int) ≤ 9223372036854775807) (hL : (L.length : Int) ≤ 9223372036854775807) : ACall Try.prog 48 [.sl (sls L) L.length, .int .i64 left] [] (.int .i64 (szR left ((L.length + tot L L.length : Nat) : Int))) [] := by
  refine ACall.intro Try.func48 rfl (N := 27) rfl (by decide) (by simp) ?_
  refine a_seq ?_
  refine a_region ?_
  refine r_val (v := .int _ _) (v_assign (.inl rfl) (noOwn_flat rfl)) rfl rfl (by decide) ?_
  refine r_nil ?_
  refine a_seq ?_
  refine a_region ?_
  refine r_val (v := .int _ _) (v_move (.inl rfl) (noOwn_flat rfl)) rfl rfl (by decide) ?_
  refine r_val (v := .sl _ _) (v_move (.inl rfl) (noOwn_flat rfl)) rfl rfl (by decide) ?_
  refine r_val (v := .int _ _) (v_len_sl sl22 (.inl rfl)) rfl rfl (by decide) ?_
  refine r_val (v := .int _ _) (v_sub (.inl rfl) (.inl rfl) (fun _ => by omega)) rfl rfl (by decide) ?_
  refine r_val (v := .int _ _) (v_assign (.inl rfl) (noOwn_flat rfl)) rfl rfl (by decide) ?_
  refine r_nil ?_
  refine a_seq ?_
  refine a_seq ?_
  refine a_region ?_
  refine r_val (v := .int _ _) (v_move (.inl rfl) (noOwn_flat rfl)) rfl rfl (by decide) ?_
  refine r_val (v := .bool _) (v_lss (.inl rfl) (.inl rfl)) rfl rfl (by decide) ?_
  refine r_nil ?_
  refine a_cond rfl (fun ht11 => ?_) (fun ht11 => ?_)
  ·
    skip
    refine a_seq ?_
    refine a_region ?_
    refine r_val (v := .int _ _) (v_assign (.inl rfl) (noOwn_flat rfl)) rfl rfl (by decide) ?_
    refine r_nil ?_
    refine a_ret ?_
    refine ret1 Try.results48 (by decide) (by decide) (Weak.of_eq (int_eq ?_)) rfl Leaves.nil
    unfold szR; rw [if_pos (by simp at ht11; omega)]
  ·
    skip
    refine a_skip ?_
    refine a_seq ?_
    refine a_seq ?_
    refine a_region ?_
    refine r_val (v := .int _ _) (v_assign (.inl rfl) (noOwn_flat rfl)) rfl rfl (by decide) ?_
    refine r_nil ?_
    refine a_block ?_
    refine a_loop (X := Nat) (fun i => look [(0, .sl (sls L) L.length), (1, .int .i64 (left - L.length - (tot L i : Nat))), (5, .int .i64 ((i : Nat) : Int))]) (fun i => i ≤ L.length ∧ 0 ≤ left - L.length - (tot L i : Nat)) (fun i => L.length - i) 0 (ent_look ⟨Weak.of_eq rfl, Weak.of_eq (int_eq (by simp [tot_zero])), Weak.of_eq rfl, trivial⟩) ⟨Nat.zero_le _, by simp [tot_zero]; simpa using ht11⟩ (fun i hG => ?_)
    obtain ⟨g1, g2⟩ := hG
    have hli := hlen i
    have htl := tot_le L i
    have htl1 := tot_le L (i + 1)
    refine a_seq ?_
    refine a_seq ?_
    refine a_region ?_
    refine r_val (v := .int _ _) (v_move (.inl rfl) (noOwn_flat rfl)) rfl rfl (by decide) ?_
    refine r_val (v := .sl _ _) (v_move (.inl rfl) (noOwn_flat rfl)) rfl rfl (by decide) ?_
    refine r_val (v := .int _ _) (v_len_sl sl22 (.inl rfl)) rfl rfl (by decide) ?_
    refine r_val (v := .bool _) (v_lss (.inl rfl) (.inl rfl)) rfl rfl (by decide) ?_
    refine r_nil ?_
    refine a_cond rfl (fun ht15 => ?_) (fun ht15 => ?_)
    ·
      skip
      refine a_skip ?_
      refine a_seq ?_
      refine a_block ?_
      refine a_seq ?_
      have hi : i < L.length := (by simp at ht15; omega)
      have hgt := tot_more hi
      refine a_region ?_
      refine r_val (v := .sl _ _) (v_move (.inl rfl) (noOwn_flat rfl)) rfl rfl (by decide) ?_
      refine r_val (v := .int _ _) (v_move (.inl rfl) (noOwn_flat rfl)) rfl rfl (by decide) ?_
      refine r_val (v := .pp _ _) (v_indexAddr_sl es22 (.inl rfl) (.inl rfl) (fun _ => ⟨by omega, by omega, sls_ne hi⟩)) rfl rfl (by decide) ?_
      refine r_val (v := .sl (icells (gl L i)) (gl L i).length) (v_load_pp ta25 (.inl rfl) (fun _ => by rw [Nat.mul_one]; exact sls_get hi) rfl) rfl rfl (by decide) ?_
      refine r_val (v := .int _ _) (v_move (.inl rfl) (noOwn_flat rfl)) rfl rfl (by decide) ?_
      refine r_new (v := .int _ _) (q_call (vs := [.sl _ _, .int _ _]) (args := [.sl _ _, .int .i64 _]) hb101 ⟨.inl rfl, .inl rfl, trivial⟩ rfl (fun hA => szIntS_c (gl L i) _ (by omega) (by omega)) rfl rfl) rfl rfl (by decide) ?_
      refine r_val (v := .int _ _) (v_assign (.inl rfl) (noOwn_flat rfl)) rfl rfl (by decide) ?_
      refine r_nil ?_
      refine a_seq ?_
      refine a_region ?_
      refine r_val (v := .int _ _) (v_move (.inl rfl) (noOwn_flat rfl)) rfl rfl (by decide) ?_
      refine r_val (v := .bool _) (v_lss (.inl rfl) (.inl rfl)) rfl rfl (by decide) ?_
      refine r_nil ?_
      refine a_cond rfl (fun ht25 => ?_) (fun ht25 => ?_)
      ·
        skip
        refine a_seq ?_
        have hneg : left - L.length - (tot L i : Nat) - ((gl L i).length : Int) < 0 := (by have h25 := of_decide_eq_true ht25; unfold szR at h25; split at h25 <;> omega)
        refine a_region ?_
        refine r_val (v := .int _ _) (v_assign (.inl rfl) (noOwn_flat rfl)) rfl rfl (by decide) ?_
        refine r_nil ?_
        refine a_ret ?_
        refine ret1 Try.results48 (by decide) (by decide) (Weak.of_eq (int_eq ?_)) rfl Leaves.nil
        unfold szR; rw [if_pos (by omega)]
      ·
        skip
        refine a_skip ?_
        refine a_region ?_
        refine r_val (v := .int _ _) (v_move (.inl rfl) (noOwn_flat rfl)) rfl rfl (by decide) ?_
        refine r_val (v := .int _ _) (v_add (.inl rfl) (.inl rfl) (fun _ => by omega)) rfl rfl (by decide) ?_
        refine r_val (v := .int _ _) (v_assign (.inl rfl) (noOwn_flat rfl)) rfl rfl (by decide) ?_
        refine r_nil ?_
        have hge : ¬ left - L.length - (tot L i : Nat) - ((gl L i).length : Int) < 0 := (by intro h; simp [szR, h] at ht25)
        refine ⟨i + 1, ent_look ⟨Weak.of_eq rfl, Weak.of_eq (int_eq (by unfold szR; rw [if_neg (by omega), hgt]; omega)), Weak.of_eq (int_eq (by omega)), trivial⟩, ⟨by omega, by omega⟩, by omega⟩
    ·
      skip
      refine a_exit ?_
      refine a_seq ?_
      have hie : i = L.length := (by simp at ht15; omega)
      refine a_region ?_
      refine r_val (v := .int _ _) (v_move (.inl rfl) (noOwn_flat rfl)) rfl rfl (by decide) ?_
      refine r_val (v := .int _ _) (v_assign (.inl rfl) (noOwn_flat rfl)) rfl rfl (by decide) ?_
      refine r_nil ?_
      refine a_ret ?_
      refine ret1 Try.results48 (by decide) (by decide) (Weak.of_eq (int_eq ?_)) rfl Leaves.nil
      unfold szR; subst hie; rw [if_neg (by omega)]; omega

theorem szCnf_c (vars : Int) (L : List (List Int)) (left : Int) (hl : 0 ≤ left ∧ left ≤ 1000000000) (hlen : ∀ i, ((gl L i).length : Int) ≤ 9223372036854775807) (hL : (L.length : Int) ≤ 9223372036854775807) : ACall Try.prog 12 [.agg [.int .i64 vars, .sl (sls L) L.length], .int .i64 left] [] (.int .i64 (szR left ((L.length + tot L L.length : Nat) : Int))) [] := by
  refine ACall.intro Try.func12 rfl (N := 12) rfl (by decide) (by simp) ?_
  refine a_seq ?_
  refine a_region ?_
  refine r_new (v := .op [.int _ _, .sl _ _]) (q_box (.inl rfl) rfl rfl) rfl rfl (by decide) ?_
  refine r_val (v := .int _ _) (v_assign (.inl rfl) (noOwn_flat rfl)) rfl rfl (by decide) ?_
  refine r_nil ?_
  refine a_seq ?_
  refine a_region ?_
  refine r_val (v := .rp _ _) (v_fieldAddr_rp fo24_1 (.inl rfl)) rfl rfl (by decide) ?_
  refine r_val (v := .sl _ _) (v_load_rp1 ta22 (.inl rfl) rfl (fun _ => rfl) rfl) rfl rfl (by decide) ?_
  refine r_val (v := .int _ _) (v_move (.inl rfl) (noOwn_flat rfl)) rfl rfl (by decide) ?_
  refine r_new (v := .int _ _) (q_call (vs := [.sl _ _, .int _ _]) (args := [.sl _ _, .int .i64 _]) hb48 ⟨.inl rfl, .inl rfl, trivial⟩ rfl (fun hA => szIntSS_c L left hl hlen hL) rfl rfl) rfl rfl (by decide) ?_
  refine r_val (v := .int _ _) (v_assign (.inl rfl) (noOwn_flat rfl)) rfl rfl (by decide) ?_
  refine r_nil ?_
  refine a_seq ?_
  refine a_seq ?_
  refine a_region ?_
  refine r_val (v := .int _ _) (v_move (.inl rfl) (noOwn_flat rfl)) rfl rfl (by decide) ?_
  refine r_val (v := .bool _) (v_lss (.inl rfl) (.inl rfl)) rfl rfl (by decide) ?_
  refine r_nil ?_
  refine a_cond rfl (fun ht10 => ?_) (fun ht10 => ?_)
  ·
    skip
    refine a_seq ?_
    refine a_region ?_
    refine r_val (v := .int _ _) (v_assign (.inl rfl) (noOwn_flat rfl)) rfl rfl (by decide) ?_
    refine r_nil ?_
    refine a_ret ?_
    refine ret1 Try.results12 (by decide) (by decide) (Weak.of_eq (int_eq ?_)) rfl Leaves.nil
    have h10 := of_decide_eq_true ht10; unfold szR at h10 ⊢; split at h10 <;> rename_i hh; rw [if_pos hh]; omega
  ·
    skip
    refine a_skip ?_
    refine a_seq ?_
    refine a_region ?_
    refine r_val (v := .int _ _) (v_move (.inl rfl) (noOwn_flat rfl)) rfl rfl (by decide) ?_
    refine r_val (v := .int _ _) (v_assign (.inl rfl) (noOwn_flat rfl)) rfl rfl (by decide) ?_
    refine r_nil ?_
    refine a_ret ?_
    refine ret1 Try.results12 (by decide) (by decide) (Weak.of_eq (int_eq ?_)) rfl Leaves.nil
    rfl

theorem toIntSS_c (L : List (List Int)) (hL : L.length ≤ 1048576) (ht : tot L L.length ≤ 1048576) : ACall Try.prog 53 [.sl (sls L) L.length] [] (.osl 1 (osls L) L.length none) [] := by
  refine ACall.intro Try.func53 rfl (N := 23) rfl (by decide) (by simp) ?_
  refine a_seq ?_
  refine a_region ?_
  refine r_val (v := .nils) (v_assign (.inl rfl) (noOwn_flat rfl)) rfl rfl (by decide) ?_
  refine r_nil ?_
  refine a_seq ?_
  refine a_region ?_
  refine r_val (v := .sl _ _) (v_move (.inl rfl) (noOwn_flat rfl)) rfl rfl (by decide) ?_
  refine r_val (v := .int _ _) (v_len_sl sl22 (.inl rfl)) rfl rfl (by decide) ?_
  refine r_new (v := .osl _ _ _ _) (q_makeSlice us22 sb25 zc25 rfl (by decide) (.inl rfl) (.inl rfl) (fun _ => by omega)) rfl rfl (by decide) ?_
  refine r_val (v := .rsl _ _ _ _ _) (v_assign (.inl rfl) (noOwn_flat rfl)) rfl rfl (by decide) ?_
  refine r_pre (ent_reloc_sl (t := 3) rfl rfl) ?_
  refine r_nil ?_
  refine a_seq ?_
  refine a_seq ?_
  refine a_region ?_
  refine r_val (v := .int _ _) (v_assign (.inl rfl) (noOwn_flat rfl)) rfl rfl (by decide) ?_
  refine r_nil ?_
  refine a_block ?_
  refine a_loop (X := Nat) (fun i => look [(0, .sl (sls L) L.length), (3, .osl 1 (partO L i) L.length (some L.length)), (4, .int .i64 ((i : Nat) : Int))]) (fun i => i ≤ L.length) (fun i => L.length - i) 0 (ent_look ⟨Weak.of_eq rfl, Weak.of_eq (osl_eq (by rw [partO_zero])), Weak.of_eq rfl, trivial⟩) (Nat.zero_le _) (fun i hG => ?_)
  refine a_seq ?_
  refine a_seq ?_
  refine a_region ?_
  refine r_val (v := .int _ _) (v_move (.inl rfl) (noOwn_flat rfl)) rfl rfl (by decide) ?_
  refine r_val (v := .sl _ _) (v_move (.inl rfl) (noOwn_flat rfl)) rfl rfl (by decide) ?_
  refine r_val (v := .int _ _) (v_len_sl sl22 (.inl rfl)) rfl rfl (by decide) ?_
  refine r_val (v := .bool _) (v_lss (.inl rfl) (.inl rfl)) rfl rfl (by decide) ?_
  refine r_nil ?_
  refine a_cond rfl (fun ht11 => ?_) (fun ht11 => ?_)
  ·
    skip
    refine a_skip ?_
    refine a_seq ?_
    refine a_block ?_
    have hi : i < L.length := (by simp at ht11; omega)
    have hle := len_tot (L := L) (i := i)
    have hpl : i * 1 + 1 ≤ (partO L i).length := (by rw [partO_length (by omega)]; omega)
    have hset : (partO L i).set (i * 1) (.osl 1 (icells (gl L i)) (gl L i).length none) = partO L (i + 1) := (by rw [Nat.mul_one, partO_set hi])
    refine a_region ?_
    refine r_val (v := .rsl _ _ _ _ _) (v_move (.inl rfl) (noOwn_flat rfl)) rfl rfl (by decide) ?_
    refine r_val (v := .int _ _) (v_move (.inl rfl) (noOwn_flat rfl)) rfl rfl (by decide) ?_
    refine r_val (v := .sl _ _) (v_move (.inl rfl) (noOwn_flat rfl)) rfl rfl (by decide) ?_
    refine r_val (v := .int _ _) (v_move (.inl rfl) (noOwn_flat rfl)) rfl rfl (by decide) ?_
    refine r_val (v := .pp _ _) (v_indexAddr_sl es22 (.inl rfl) (.inl rfl) (fun _ => ⟨by omega, by omega, sls_ne hi⟩)) rfl rfl (by decide) ?_
    refine r_val (v := .sl (icells (gl L i)) (gl L i).length) (v_load_pp ta25 (.inl rfl) (fun _ => by rw [Nat.mul_one]; exact sls_get hi) rfl) rfl rfl (by decide) ?_
    refine r_new (v := .osl _ _ _ _) (q_call (vs := [.sl _ _]) (args := [.sl _ _]) hb16 ⟨.inl rfl, trivial⟩ rfl (fun hA => toIntS_c (gl L i) (by omega)) (ic_noSh _) (ic_noRef _)) rfl rfl (by decide) ?_
    refine r_val (v := .rp _ _) (v_indexAddr_rsl0 es22 (.inl rfl) (.inl rfl) (fun _ => by omega)) rfl rfl (by decide) ?_
    refine r_step rfl (o_store_own (v := .osl _ _ _ _) (y' := .osl 1 (partO L (i + 1)) L.length (some L.length)) rfl rfl ta25 (.inl rfl) (by decide) rfl (by decide) rfl (by simp [cellsOf, noRefL, noRef, ic_noRef]) rfl rfl rfl rfl rfl hpl rfl (congrArg (fun c => AV.osl 1 c L.length (some L.length)) hset)) ?_
    refine r_nil ?_
    refine a_region ?_
    refine r_val (v := .int _ _) (v_move (.inl rfl) (noOwn_flat rfl)) rfl rfl (by decide) ?_
    refine r_val (v := .int _ _) (v_add (.inl rfl) (.inl rfl) (fun _ => by omega)) rfl rfl (by decide) ?_
    refine r_val (v := .int _ _) (v_assign (.inl rfl) (noOwn_flat rfl)) rfl rfl (by decide) ?_
    refine r_nil ?_
    refine ⟨i + 1, ent_look ⟨Weak.of_eq rfl, Weak.of_eq rfl, Weak.of_eq (int_eq (by omega)), trivial⟩, by omega, by omega⟩
  ·
    skip
    refine a_exit ?_
    refine a_seq ?_
    refine a_region ?_
    refine r_val (v := .rsl _ _ _ _ _) (v_move (.inl rfl) (noOwn_flat rfl)) rfl rfl (by decide) ?_
    refine r_val (v := .rsl _ _ _ _ _) (v_assign (.inl rfl) (noOwn_flat rfl)) rfl rfl (by decide) ?_
    refine r_pre (ent_reloc_sl (t := 2) rfl rfl) ?_
    refine r_nil ?_
    refine a_ret ?_
    refine ret1 Try.results53 (by decide) (by decide) (Weak.osl ?_ ?_) rfl Leaves.nil
    · simp at ht11; rw [partO_full (by omega)]
    · rfl

theorem toCnf_c (vars : Int) (L : List (List Int)) (hL : L.length ≤ 1048576) (ht : tot L L.length ≤ 1048576) : ACall Try.prog 15 [.agg [.int .i64 vars, .sl (sls L) L.length]] [] (.agg [.int .i64 vars, .osl 1 (osls L) L.length none]) [] := by
  refine ACall.intro Try.func15 rfl (N := 12) rfl (by decide) (by simp) ?_
  refine a_seq ?_
  refine a_region ?_
  refine r_new (v := .op [.int _ _, .sl _ _]) (q_box (.inl rfl) rfl rfl) rfl rfl (by decide) ?_
  refine r_new (v := .op [.int _ _, .nils]) (q_alloc zc31) rfl rfl (by decide) ?_
  refine r_nil ?_
  refine a_seq ?_
  refine a_region ?_
  refine r_new (v := .op [.int _ _, .nils]) (q_alloc zc31) rfl rfl (by decide) ?_
  refine r_nil ?_
  refine a_seq ?_
  refine a_region ?_
  refine r_val (v := .rp _ _) (v_fieldAddr_rp fo24_0 (.inl rfl)) rfl rfl (by decide) ?_
  refine r_val (v := .int _ _) (v_load_rp1 ta3 (.inl rfl) rfl (fun _ => rfl) rfl) rfl rfl (by decide) ?_
  refine r_val (v := .rp _ _) (v_fieldAddr_rp fo31_0 (.inl rfl)) rfl rfl (by decide) ?_
  refine r_step rfl (o_store (v := .int _ _) (y' := .op [.int _ _, .nils]) rfl rfl ta3 (.inl rfl) (.inl rfl) rfl rfl rfl rfl rfl rfl (Nat.le_of_ble_eq_true rfl) (by decide) rfl rfl) ?_
  refine r_nil ?_
  refine a_seq ?_
  refine a_region ?_
  refine r_val (v := .rp _ _) (v_fieldAddr_rp fo24_1 (.inl rfl)) rfl rfl (by decide) ?_
  refine r_val (v := .sl _ _) (v_load_rp1 ta22 (.inl rfl) rfl (fun _ => rfl) rfl) rfl rfl (by decide) ?_
  refine r_new (v := .osl _ _ _ _) (q_call (vs := [.sl _ _]) (args := [.sl _ _]) hb53 ⟨.inl rfl, trivial⟩ rfl (fun hA => toIntSS_c L hL ht) (osls_noSh _) (osls_noRef _)) rfl rfl (by decide) ?_
  refine r_val (v := .rp _ _) (v_fieldAddr_rp fo31_1 (.inl rfl)) rfl rfl (by decide) ?_
  refine r_step rfl (o_store_own (v := .osl _ _ _ _) (y' := .op [.int _ _, .osl _ _ _ _]) rfl rfl ta22 (.inl rfl) (by decide) rfl (by decide) rfl (by simp [cellsOf, noRefL, noRef, osls_noRef]) rfl rfl rfl rfl rfl (Nat.le_of_ble_eq_true rfl) rfl rfl) ?_
  refine r_nil ?_
  refine a_seq ?_
  refine a_region ?_
  refine r_val (v := .agg [.int _ _, .rsl _ _ _ _ _]) (v_load_rpa (xs := [.int _ _, .osl _ _ _ _]) ta31 (.inl rfl) rfl rfl (fun _ => take_get rfl)) rfl rfl (by decide) ?_
  refine r_pre (ent_reloc_at_sl (t := 11) (r := [1]) rfl (by decide) rfl rfl) ?_
  refine r_step rfl (o_store_own (v := .agg [.int _ _, .osl _ _ _ _]) (y' := .op [.int _ _, .osl _ _ _ _]) rfl rfl ta31 (.inl rfl) (by decide) rfl (by decide) rfl (by simp [cellsOf, noRefL, noRef, osls_noRef]) rfl rfl rfl rfl rfl (Nat.le_of_ble_eq_true rfl) rfl rfl) ?_
  refine r_nil ?_
  refine a_ret ?_
  refine retC1 (r := .cell 2 31) Try.results15 ⟨by decide, _, cell_agg rfl ta31, rfl⟩ (by decide) (Weak.of_eq (agg_eq (l2_eq (int_eq ?_) (osl_eq2 ?_ ?_)))) rfl Leaves.nil
  all_goals rfl

theorem eqIntSS_c (L M : List (List Int)) (hL : (L.length : Int) ≤ 9223372036854775807) (hM : (M.length : Int) ≤ 9223372036854775807) (hlen : ∀ i, ((gl L i).length : Int) ≤ 9223372036854775807) : ACall Try.prog 60 [.sl (sls L) L.length, .sl (sls M) M.length] [] (.bool (decide (L = M))) [] := by
  refine ACall.intro Try.func60 rfl (N := 27) rfl (by decide) (by simp) ?_
  refine a_seq ?_
  refine a_region ?_
  refine r_val (v := .bool _) (v_assign (.inl rfl) (noOwn_flat rfl)) rfl rfl (by decide) ?_
  refine r_nil ?_
  refine a_seq ?_
  refine a_seq ?_
  refine a_region ?_
  refine r_val (v := .sl _ _) (v_move (.inl rfl) (noOwn_flat rfl)) rfl rfl (by decide) ?_
  refine r_val (v := .int _ _) (v_len_sl sl22 (.inl rfl)) rfl rfl (by decide) ?_
  refine r_val (v := .sl _ _) (v_move (.inl rfl) (noOwn_flat rfl)) rfl rfl (by decide) ?_
  refine r_val (v := .int _ _) (v_len_sl sl22 (.inl rfl)) rfl rfl (by decide) ?_
  refine r_val (v := .bool _) (v_neq (.inl rfl) (.inl rfl)) rfl rfl (by decide) ?_
  refine r_nil ?_
  refine a_cond rfl (fun ht10 => ?_) (fun ht10 => ?_)
  ·
    skip
    refine a_seq ?_
    refine a_region ?_
    refine r_val (v := .bool _) (v_assign (.inl rfl) (noOwn_flat rfl)) rfl rfl (by decide) ?_
    refine r_nil ?_
    refine a_ret ?_
    refine ret1 Try.results60 (by decide) (by decide) (Weak.of_eq (bool_eq ?_)) rfl Leaves.nil
    simp at ht10; exact (decide_eq_false (fun h => ht10 (by rw [h]))).symm
  ·
    skip
    refine a_skip ?_
    refine a_seq ?_
    refine a_seq ?_
    refine a_region ?_
    refine r_val (v := .int _ _) (v_assign (.inl rfl) (noOwn_flat rfl)) rfl rfl (by decide) ?_
    refine r_nil ?_
    refine a_block ?_
    refine a_loop (X := Nat) (fun i => look [(0, .sl (sls L) L.length), (1, .sl (sls M) M.length), (5, .int .i64 ((i : Nat) : Int))]) (fun i => i ≤ L.length ∧ L.length = M.length ∧ L.take i = M.take i) (fun i => L.length - i) 0 (ent_look ⟨Weak.of_eq rfl, Weak.of_eq rfl, Weak.of_eq rfl, trivial⟩) ⟨Nat.zero_le _, by simp at ht10; omega, rfl⟩ (fun i hG => ?_)
    obtain ⟨g1, g2, g3⟩ := hG
    refine a_seq ?_
    refine a_seq ?_
    refine a_region ?_
    refine r_val (v := .int _ _) (v_move (.inl rfl) (noOwn_flat rfl)) rfl rfl (by decide) ?_
    refine r_val (v := .sl _ _) (v_move (.inl rfl) (noOwn_flat rfl)) rfl rfl (by decide) ?_
    refine r_val (v := .int _ _) (v_len_sl sl22 (.inl rfl)) rfl rfl (by decide) ?_
    refine r_val (v := .bool _) (v_lss (.inl rfl) (.inl rfl)) rfl rfl (by decide) ?_
    refine r_nil ?_
    refine a_cond rfl (fun ht14 => ?_) (fun ht14 => ?_)
    ·
      skip
      refine a_skip ?_
      refine a_seq ?_
      refine a_block ?_
      refine a_seq ?_
      have hi : i < L.length := (by simp at ht14; omega)
      refine a_region_any mixed (by kernel_rfl) ?_
      refine y_val (v := .sl _ _) (v_move (.inl rfl) (noOwn_flat rfl)) rfl rfl (by decide) (by kernel_rfl) ?_
      refine y_val (v := .int _ _) (v_move (.inl rfl) (noOwn_flat rfl)) rfl rfl (by decide) (by kernel_rfl) ?_
      refine y_val (v := .pp _ _) (v_indexAddr_sl es22 (.inl rfl) (.inl rfl) (fun _ => ⟨by omega, by omega, sls_ne hi⟩)) rfl rfl (by decide) (by kernel_rfl) ?_
      refine y_val (v := .sl (icells (gl L i)) (gl L i).length) (v_load_pp ta25 (.inl rfl) (fun _ => by rw [Nat.mul_one]; exact sls_get hi) rfl) rfl rfl (by decide) (by kernel_rfl) ?_
      refine y_val (v := .sl _ _) (v_move (.inl rfl) (noOwn_flat rfl)) rfl rfl (by decide) (by kernel_rfl) ?_
      refine y_val (v := .int _ _) (v_move (.inl rfl) (noOwn_flat rfl)) rfl rfl (by decide) (by kernel_rfl) ?_
      refine y_val (v := .pp _ _) (v_indexAddr_sl es22 (.inl rfl) (.inl rfl) (fun _ => ⟨by omega, by omega, sls_ne (L := M) (i := i) (by omega)⟩)) rfl rfl (by decide) (by kernel_rfl) ?_
      refine y_val (v := .sl (icells (gl M i)) (gl M i).length) (v_load_pp ta25 (.inl rfl) (fun _ => by rw [Nat.mul_one]; exact sls_get (by omega)) rfl) rfl rfl (by decide) (by kernel_rfl) ?_
      refine y_new (v := .bool _) (q_call (vs := [.sl _ _, .sl _ _]) (args := [.sl _ _, .sl _ _]) hb20 ⟨.inl rfl, .inl rfl, trivial⟩ rfl (fun hA => eqIntS_c (gl L i) (gl M i) (hlen i)) rfl rfl) rfl rfl (by decide) (by kernel_rfl) ?_
      refine y_val (v := .bool _) (v_not (.inl rfl)) rfl rfl (by decide) (by kernel_rfl) ?_
      refine y_nil ?_
      refine a_cond rfl (fun ht26 => ?_) (fun ht26 => ?_)
      ·
        skip
        refine a_seq ?_
        refine a_region ?_
        refine r_val (v := .bool _) (v_assign (.inl rfl) (noOwn_flat rfl)) rfl rfl (by decide) ?_
        refine r_nil ?_
        refine a_ret ?_
        refine ret1 Try.results60 (by decide) (by decide) (Weak.of_eq (bool_eq ?_)) rfl Leaves.nil
        simp at ht26; refine (decide_eq_false (fun h => ?_)).symm
        subst h
        simp at ht26
      ·
        skip
        refine a_skip ?_
        refine a_region ?_
        refine r_val (v := .int _ _) (v_move (.inl rfl) (noOwn_flat rfl)) rfl rfl (by decide) ?_
        refine r_val (v := .int _ _) (v_add (.inl rfl) (.inl rfl) (fun _ => by omega)) rfl rfl (by decide) ?_
        refine r_val (v := .int _ _) (v_assign (.inl rfl) (noOwn_flat rfl)) rfl rfl (by decide) ?_
        refine r_nil ?_
        refine ⟨i + 1, ent_look ⟨Weak.of_eq rfl, Weak.of_eq rfl, Weak.of_eq (int_eq (by omega)), trivial⟩, ⟨by omega, g2, gl_take hi (by omega) g3 (by simpa using ht26)⟩, by omega⟩
    ·
      skip
      refine a_exit ?_
      refine a_seq ?_
      refine a_region ?_
      refine r_val (v := .bool _) (v_assign (.inl rfl) (noOwn_flat rfl)) rfl rfl (by decide) ?_
      refine r_nil ?_
      refine a_ret ?_
      refine ret1 Try.results60 (by decide) (by decide) (Weak.of_eq (bool_eq ?_)) rfl Leaves.nil
      simp at ht14; refine (decide_eq_true ?_).symm
      rw [List.take_of_length_le (by omega), List.take_of_length_le (by omega)] at g3; exact g3

theorem eqCnf_c (vars v2 : Int) (L M : List (List Int)) (hL : (L.length : Int) ≤ 9223372036854775807) (hM : (M.length : Int) ≤ 9223372036854775807) (hlen : ∀ i, ((gl L i).length : Int) ≤ 9223372036854775807) : ACall Try.prog 19 [.agg [.int .i64 vars, .sl (sls L) L.length], .agg [.int .i64 v2, .sl (sls M) M.length]] [] (.bool (decide (vars = v2) && decide (L = M))) [] := by
  refine ACall.intro Try.func19 rfl (N := 16) rfl (by decide) (by simp) ?_
  refine a_seq ?_
  refine a_region ?_
  refine r_new (v := .op [.int _ _, .sl _ _]) (q_box (.inl rfl) rfl rfl) rfl rfl (by decide) ?_
  refine r_new (v := .op [.int _ _, .sl _ _]) (q_box (.inl rfl) rfl rfl) rfl rfl (by decide) ?_
  refine r_val (v := .bool _) (v_assign (.inl rfl) (noOwn_flat rfl)) rfl rfl (by decide) ?_
  refine r_nil ?_
  refine a_seq ?_
  refine a_seq ?_
  refine a_region ?_
  refine r_val (v := .rp _ _) (v_fieldAddr_rp fo31_0 (.inl rfl)) rfl rfl (by decide) ?_
  refine r_val (v := .int _ _) (v_load_rp1 ta3 (.inl rfl) rfl (fun _ => rfl) rfl) rfl rfl (by decide) ?_
  refine r_val (v := .rp _ _) (v_fieldAddr_rp fo31_0 (.inl rfl)) rfl rfl (by decide) ?_
  refine r_val (v := .int _ _) (v_load_rp1 ta3 (.inl rfl) rfl (fun _ => rfl) rfl) rfl rfl (by decide) ?_
  refine r_val (v := .bool _) (v_neq (.inl rfl) (.inl rfl)) rfl rfl (by decide) ?_
  refine r_nil ?_
  refine a_cond rfl (fun ht9 => ?_) (fun ht9 => ?_)
  ·
    skip
    refine a_seq ?_
    refine a_region ?_
    refine r_val (v := .bool _) (v_assign (.inl rfl) (noOwn_flat rfl)) rfl rfl (by decide) ?_
    refine r_nil ?_
    refine a_ret ?_
    refine ret1 Try.results19 (by decide) (by decide) (Weak.of_eq (bool_eq ?_)) rfl Leaves.nil
    simp at ht9; simp [ht9]
  ·
    skip
    refine a_skip ?_
    refine a_seq ?_
    refine a_seq ?_
    refine a_region ?_
    refine r_val (v := .rp _ _) (v_fieldAddr_rp fo31_1 (.inl rfl)) rfl rfl (by decide) ?_
    refine r_val (v := .sl _ _) (v_load_rp1 ta22 (.inl rfl) rfl (fun _ => rfl) rfl) rfl rfl (by decide) ?_
    refine r_val (v := .rp _ _) (v_fieldAddr_rp fo31_1 (.inl rfl)) rfl rfl (by decide) ?_
    refine r_val (v := .sl _ _) (v_load_rp1 ta22 (.inl rfl) rfl (fun _ => rfl) rfl) rfl rfl (by decide) ?_
    refine r_new (v := .bool _) (q_call (vs := [.sl _ _, .sl _ _]) (args := [.sl _ _, .sl _ _]) hb60 ⟨.inl rfl, .inl rfl, trivial⟩ rfl (fun hA => eqIntSS_c L M hL hM hlen) rfl rfl) rfl rfl (by decide) ?_
    refine r_val (v := .bool _) (v_not (.inl rfl)) rfl rfl (by decide) ?_
    refine r_nil ?_
    refine a_cond rfl (fun ht15 => ?_) (fun ht15 => ?_)
    ·
      skip
      refine a_seq ?_
      refine a_region ?_
      refine r_val (v := .bool _) (v_assign (.inl rfl) (noOwn_flat rfl)) rfl rfl (by decide) ?_
      refine r_nil ?_
      refine a_ret ?_
      refine ret1 Try.results19 (by decide) (by decide) (Weak.of_eq (bool_eq ?_)) rfl Leaves.nil
      simp at ht15; simp [ht15]
    ·
      skip
      refine a_skip ?_
      refine a_seq ?_
      refine a_region ?_
      refine r_val (v := .bool _) (v_assign (.inl rfl) (noOwn_flat rfl)) rfl rfl (by decide) ?_
      refine r_nil ?_
      refine a_ret ?_
      refine ret1 Try.results19 (by decide) (by decide) (Weak.of_eq (bool_eq ?_)) rfl Leaves.nil
      simp at ht9 ht15; simp [ht9, ht15]

theorem isCnf_c (vars : Int) (L : List (List Int)) (hk : CnfOk vars L) : ACall Try.prog 104 [.agg [.int .i64 vars, .sl (sls L) L.length]] [] (.bool (cnfB vars L)) [] := by
  have hk1 := hk.1
  have hk2 := hk.2.1
  have hk3 := hk.2.2.1
  refine ACall.intro Try.func104 rfl (N := 27) rfl (by decide) (by simp) ?_
  refine a_seq ?_
  refine a_region ?_
  refine r_new (v := .op [.int _ _, .sl _ _]) (q_box (.inl rfl) rfl rfl) rfl rfl (by decide) ?_
  refine r_val (v := .bool _) (v_assign (.inl rfl) (noOwn_flat rfl)) rfl rfl (by decide) ?_
  refine r_nil ?_
  refine a_seq ?_
  refine a_seq ?_
  refine a_region ?_
  refine r_val (v := .rp _ _) (v_fieldAddr_rp fo31_1 (.inl rfl)) rfl rfl (by decide) ?_
  refine r_val (v := .sl _ _) (v_load_rp1 ta22 (.inl rfl) rfl (fun _ => rfl) rfl) rfl rfl (by decide) ?_
  refine r_val (v := .int _ _) (v_len_sl sl22 (.inl rfl)) rfl rfl (by decide) ?_
  refine r_val (v := .int _ _) (v_move (.inl rfl) (noOwn_flat rfl)) rfl rfl (by decide) ?_
  refine r_nil ?_
  refine a_block ?_
  refine a_loop (X := Nat) (fun i => look [(1, .op [.int .i64 vars, .sl (sls L) L.length]), (6, .sl (sls L) L.length), (7, .int .i64 (L.length : Int)), (8, .int .i64 ((i : Nat) : Int))]) (fun i => i ≤ L.length ∧ ∀ j, j < i → clB vars (gl L j) = true) (fun i => L.length - i) 0 (ent_look ⟨Weak.of_eq rfl, Weak.of_eq rfl, Weak.of_eq rfl, Weak.of_eq rfl, trivial⟩) ⟨Nat.zero_le _, fun j h => by omega⟩ (fun i hG => ?_)
  obtain ⟨g1, g2⟩ := hG
  have hle := len_tot (L := L) (i := i)
  refine a_seq ?_
  refine a_region ?_
  refine r_val (v := .bool _) (v_lss (.inl rfl) (.inl rfl)) rfl rfl (by decide) ?_
  refine r_nil ?_
  refine a_seq ?_
  refine a_cond rfl (fun ht9 => ?_) (fun ht9 => ?_)
  ·
    skip
    refine a_skip ?_
    refine a_seq ?_
    refine a_block ?_
    refine a_seq ?_
    have hi : i < L.length := (by simp at ht9; omega)
    refine a_region ?_
    refine r_val (v := .pp _ _) (v_indexAddr_sl es22 (.inl rfl) (.inl rfl) (fun _ => ⟨by omega, by omega, sls_ne hi⟩)) rfl rfl (by decide) ?_
    refine r_val (v := .sl (icells (gl L i)) (gl L i).length) (v_load_pp ta25 (.inl rfl) (fun _ => by rw [Nat.mul_one]; exact sls_get hi) rfl) rfl rfl (by decide) ?_
    refine r_val (v := .sl _ _) (v_assign (.inl rfl) (noOwn_flat rfl)) rfl rfl (by decide) ?_
    refine r_nil ?_
    refine a_seq ?_
    refine a_region ?_
    refine r_val (v := .rp _ _) (v_fieldAddr_rp fo31_0 (.inl rfl)) rfl rfl (by decide) ?_
    refine r_val (v := .int _ _) (v_load_rp1 ta3 (.inl rfl) rfl (fun _ => rfl) rfl) rfl rfl (by decide) ?_
    refine r_val (v := .sl _ _) (v_move (.inl rfl) (noOwn_flat rfl)) rfl rfl (by decide) ?_
    refine r_new (v := .bool _) (q_call (vs := [.int _ _, .sl _ _]) (args := [.int .i64 _, .sl _ _]) hb95 ⟨.inl rfl, .inl rfl, trivial⟩ rfl (fun hA => isClause_c vars (gl L i) hk1 (by omega) (fun j => hk.2.2.2 i j)) rfl rfl) rfl rfl (by decide) ?_
    refine r_val (v := .bool _) (v_not (.inl rfl)) rfl rfl (by decide) ?_
    refine r_nil ?_
    refine a_cond rfl (fun ht16 => ?_) (fun ht16 => ?_)
    ·
      skip
      refine a_seq ?_
      have hno := cnfB_no hi (by simpa using ht16)
      refine a_region ?_
      refine r_val (v := .bool _) (v_assign (.inl rfl) (noOwn_flat rfl)) rfl rfl (by decide) ?_
      refine r_nil ?_
      refine a_ret ?_
      refine ret1 Try.results104 (by decide) (by decide) (Weak.of_eq (bool_eq ?_)) rfl Leaves.nil
      rw [hno]
    ·
      skip
      refine a_skip ?_
      refine a_region ?_
      refine r_val (v := .int _ _) (v_add (.inl rfl) (.inl rfl) (fun _ => by omega)) rfl rfl (by decide) ?_
      refine r_val (v := .int _ _) (v_move (.inl rfl) (noOwn_flat rfl)) rfl rfl (by decide) ?_
      refine r_nil ?_
      refine ⟨i + 1, ent_look ⟨Weak.of_eq rfl, Weak.of_eq rfl, Weak.of_eq rfl, Weak.of_eq (int_eq (by omega)), trivial⟩, ⟨by omega, fun j h1 => by rcases Nat.lt_or_ge j i with h | h; exact g2 j h; (obtain rfl : j = i := by omega); simpa using ht16⟩, by omega⟩
  ·
    skip
    refine a_exit ?_
    refine a_seq ?_
    have hyes := cnfB_yes (vars := vars) (fun j hj => g2 j (by simp at ht9; omega))
    refine a_region ?_
    refine r_val (v := .rp _ _) (v_fieldAddr_rp fo31_0 (.inl rfl)) rfl rfl (by decide) ?_
    refine r_val (v := .int _ _) (v_load_rp1 ta3 (.inl rfl) rfl (fun _ => rfl) rfl) rfl rfl (by decide) ?_
    refine r_new (v := .bool _) (q_call (vs := [.int _ _]) (args := [.int .i64 _]) hb135 ⟨.inl rfl, trivial⟩ rfl (fun hA => varsOk_c _) rfl rfl) rfl rfl (by decide) ?_
    refine r_val (v := .bool _) (v_move (.inl rfl) (noOwn_flat rfl)) rfl rfl (by decide) ?_
    refine r_gval (v := .rp _ _) (v_fieldAddr_rp fo31_1 (.inl rfl)) rfl rfl rfl (by decide) (.inl ⟨_, rfl, rfl⟩) rfl (by decide) ?_
    refine r_gval (v := .sl _ _) (v_load_rp1 ta22 (.inr ⟨_, rfl, fun h => h⟩) rfl (fun _ => rfl) rfl) rfl rfl rfl (by decide) (.inl ⟨_, rfl, rfl⟩) rfl (by decide) ?_
    refine r_gval (v := .int _ _) (v_len_sl sl22 (.inr ⟨_, rfl, fun h => h⟩)) rfl rfl rfl (by decide) (.inl ⟨_, rfl, rfl⟩) rfl (by decide) ?_
    refine r_gval (v := .bool _) (v_leq (.inr ⟨_, rfl, fun h => h⟩) (.inl rfl)) rfl rfl rfl (by decide) (.inl ⟨_, rfl, rfl⟩) rfl (by decide) ?_
    refine r_val (v := .bool _) (v_pick (.inl rfl) (.inr ⟨_, rfl, fun h h2 => by simp_all⟩) (.inl rfl)) rfl rfl (by decide) ?_
    refine r_val (v := .bool _) (v_assign (.inl rfl) (noOwn_flat rfl)) rfl rfl (by decide) ?_
    refine r_nil ?_
    refine a_ret ?_
    refine ret1 Try.results104 (by decide) (by decide) (Weak.of_eq (bool_eq ?_)) rfl Leaves.nil
    rw [hyes]; cases inR vars 0 12 <;> simp <;> omega

theorem l2Good_c (vars : Int) (L : List (List Int)) (hk : CnfOk vars L) : ACall Try.prog 121 [.agg [.int .i64 vars, .sl (sls L) L.length]] [] (.bool (cnfB vars L)) [] := by
  have hk1 := hk.1
  have hk2 := hk.2.1
  have hk3 := hk.2.2.1
  refine ACall.intro Try.func121 rfl (N := 30) rfl (by decide) (by simp) ?_
  refine a_seq ?_
  refine a_region ?_
  refine r_new (v := .op [.int _ _, .sl _ _]) (q_box (.inl rfl) rfl rfl) rfl rfl (by decide) ?_
  refine r_val (v := .bool _) (v_assign (.inl rfl) (noOwn_flat rfl)) rfl rfl (by decide) ?_
  refine r_nil ?_
  refine a_seq ?_
  refine a_seq ?_
  refine a_region ?_
  refine r_val (v := .rp _ _) (v_fieldAddr_rp fo31_0 (.inl rfl)) rfl rfl (by decide) ?_
  refine r_val (v := .int _ _) (v_load_rp1 ta3 (.inl rfl) rfl (fun _ => rfl) rfl) rfl rfl (by decide) ?_
  refine r_new (v := .bool _) (q_call (vs := [.int _ _]) (args := [.int .i64 _]) hb128 ⟨.inl rfl, trivial⟩ rfl (fun hA => l2Vars_c _) rfl rfl) rfl rfl (by decide) ?_
  refine r_val (v := .bool _) (v_not (.inl rfl)) rfl rfl (by decide) ?_
  refine r_val (v := .bool _) (v_move (.inl rfl) (noOwn_flat rfl)) rfl rfl (by decide) ?_
  refine r_gval (v := .rp _ _) (v_fieldAddr_rp fo31_1 (.inl rfl)) rfl rfl rfl (by decide) (.inl ⟨_, rfl, rfl⟩) rfl (by decide) ?_
  refine r_gval (v := .sl _ _) (v_load_rp1 ta22 (.inr ⟨_, rfl, fun h => h⟩) rfl (fun _ => rfl) rfl) rfl rfl rfl (by decide) (.inl ⟨_, rfl, rfl⟩) rfl (by decide) ?_
  refine r_gval (v := .int _ _) (v_len_sl sl22 (.inr ⟨_, rfl, fun h => h⟩)) rfl rfl rfl (by decide) (.inl ⟨_, rfl, rfl⟩) rfl (by decide) ?_
  refine r_gval (v := .bool _) (v_gtr (.inr ⟨_, rfl, fun h => h⟩) (.inl rfl)) rfl rfl rfl (by decide) (.inl ⟨_, rfl, rfl⟩) rfl (by decide) ?_
  refine r_val (v := .bool _) (v_pick (.inl rfl) (.inl rfl) (.inr ⟨_, rfl, fun h h2 => by simp_all⟩)) rfl rfl (by decide) ?_
  refine r_nil ?_
  refine a_cond rfl (fun ht13 => ?_) (fun ht13 => ?_)
  ·
    skip
    refine a_seq ?_
    refine a_region ?_
    refine r_val (v := .bool _) (v_assign (.inl rfl) (noOwn_flat rfl)) rfl rfl (by decide) ?_
    refine r_nil ?_
    refine a_ret ?_
    refine ret1 Try.results121 (by decide) (by decide) (Weak.of_eq (bool_eq ?_)) rfl Leaves.nil
    unfold cnfB; cases h1 : inR vars 0 12 <;> simp [h1] at ht13 ⊢; intro h2; omega
  ·
    skip
    refine a_skip ?_
    refine a_seq ?_
    refine a_seq ?_
    refine a_region ?_
    refine r_val (v := .int _ _) (v_assign (.inl rfl) (noOwn_flat rfl)) rfl rfl (by decide) ?_
    refine r_nil ?_
    refine a_block ?_
    refine a_loop (X := Nat) (fun i => look [(1, .op [.int .i64 vars, .sl (sls L) L.length]), (3, .int .i64 ((i : Nat) : Int))]) (fun i => i ≤ L.length ∧ ∀ j, j < i → clB vars (gl L j) = true) (fun i => L.length - i) 0 (ent_look ⟨Weak.of_eq rfl, Weak.of_eq rfl, trivial⟩) ⟨Nat.zero_le _, fun j h => by omega⟩ (fun i hG => ?_)
    obtain ⟨g1, g2⟩ := hG
    have hle := len_tot (L := L) (i := i)
    refine a_seq ?_
    refine a_seq ?_
    refine a_region ?_
    refine r_val (v := .int _ _) (v_move (.inl rfl) (noOwn_flat rfl)) rfl rfl (by decide) ?_
    refine r_val (v := .rp _ _) (v_fieldAddr_rp fo31_1 (.inl rfl)) rfl rfl (by decide) ?_
    refine r_val (v := .sl _ _) (v_load_rp1 ta22 (.inl rfl) rfl (fun _ => rfl) rfl) rfl rfl (by decide) ?_
    refine r_val (v := .int _ _) (v_len_sl sl22 (.inl rfl)) rfl rfl (by decide) ?_
    refine r_val (v := .bool _) (v_lss (.inl rfl) (.inl rfl)) rfl rfl (by decide) ?_
    refine r_nil ?_
    refine a_cond rfl (fun ht18 => ?_) (fun ht18 => ?_)
    ·
      skip
      refine a_skip ?_
      refine a_seq ?_
      refine a_block ?_
      refine a_seq ?_
      have hi : i < L.length := (by simp at ht18; omega)
      refine a_region_any mixed (by kernel_rfl) ?_
      refine y_val (v := .rp _ _) (v_fieldAddr_rp fo31_0 (.inl rfl)) rfl rfl (by decide) (by kernel_rfl) ?_
      refine y_val (v := .int _ _) (v_load_rp1 ta3 (.inl rfl) rfl (fun _ => rfl) rfl) rfl rfl (by decide) (by kernel_rfl) ?_
      refine y_val (v := .rp _ _) (v_fieldAddr_rp fo31_1 (.inl rfl)) rfl rfl (by decide) (by kernel_rfl) ?_
      refine y_val (v := .sl _ _) (v_load_rp1 ta22 (.inl rfl) rfl (fun _ => rfl) rfl) rfl rfl (by decide) (by kernel_rfl) ?_
      refine y_val (v := .int _ _) (v_move (.inl rfl) (noOwn_flat rfl)) rfl rfl (by decide) (by kernel_rfl) ?_
      refine y_val (v := .pp _ _) (v_indexAddr_sl es22 (.inl rfl) (.inl rfl) (fun _ => ⟨by omega, by omega, sls_ne hi⟩)) rfl rfl (by decide) (by kernel_rfl) ?_
      refine y_val (v := .sl (icells (gl L i)) (gl L i).length) (v_load_pp ta25 (.inl rfl) (fun _ => by rw [Nat.mul_one]; exact sls_get hi) rfl) rfl rfl (by decide) (by kernel_rfl) ?_
      refine y_new (v := .bool _) (q_call (vs := [.int _ _, .sl _ _]) (args := [.int .i64 _, .sl _ _]) hb89 ⟨.inl rfl, .inl rfl, trivial⟩ rfl (fun hA => l2Clause_c vars (gl L i) hk1 (by omega) (fun j => hk.2.2.2 i j)) rfl rfl) rfl rfl (by decide) (by kernel_rfl) ?_
      refine y_val (v := .bool _) (v_not (.inl rfl)) rfl rfl (by decide) (by kernel_rfl) ?_
      refine y_nil ?_
      refine a_cond rfl (fun ht29 => ?_) (fun ht29 => ?_)
      ·
        skip
        refine a_seq ?_
        have hno := cnfB_no hi (by simpa using ht29)
        refine a_region ?_
        refine r_val (v := .bool _) (v_assign (.inl rfl) (noOwn_flat rfl)) rfl rfl (by decide) ?_
        refine r_nil ?_
        refine a_ret ?_
        refine ret1 Try.results121 (by decide) (by decide) (Weak.of_eq (bool_eq ?_)) rfl Leaves.nil
        rw [hno]
      ·
        skip
        refine a_skip ?_
        refine a_region ?_
        refine r_val (v := .int _ _) (v_move (.inl rfl) (noOwn_flat rfl)) rfl rfl (by decide) ?_
        refine r_val (v := .int _ _) (v_add (.inl rfl) (.inl rfl) (fun _ => by omega)) rfl rfl (by decide) ?_
        refine r_val (v := .int _ _) (v_assign (.inl rfl) (noOwn_flat rfl)) rfl rfl (by decide) ?_
        refine r_nil ?_
        refine ⟨i + 1, ent_look ⟨Weak.of_eq rfl, Weak.of_eq (int_eq (by omega)), trivial⟩, ⟨by omega, fun j h1 => by rcases Nat.lt_or_ge j i with h | h; exact g2 j h; (obtain rfl : j = i := by omega); simpa using ht29⟩, by omega⟩
    ·
      skip
      refine a_exit ?_
      refine a_seq ?_
      have hyes := cnfB_yes (vars := vars) (fun j hj => g2 j (by simp at ht18; omega))
      refine a_region ?_
      refine r_val (v := .bool _) (v_assign (.inl rfl) (noOwn_flat rfl)) rfl rfl (by decide) ?_
      refine r_nil ?_
      refine a_ret ?_
      refine ret1 Try.results121 (by decide) (by decide) (Weak.of_eq (bool_eq ?_)) rfl Leaves.nil
      rw [hyes]; cases h1 : inR vars 0 12 <;> simp [h1] at ht13 ⊢; omega
end Go.Av
namespace Go.Av
open Go
section
variable {P : Program} {e : Ctx} {σ τ : Sig} {val : Nat → Value} {w : World} {β : Place → Option (Nat × Nat)} {F : Nat → Prop}

end
end Go.Av
namespace Go.Av
open Go Go.Proofs Go.Sort
set_option maxRecDepth 10000



end Go.Av
namespace Go.Av
open Go
section
variable {P : Program} {N : Nat} {A : Bool} {σ τ : Sig} {ty : TypeId}
variable {e : Ctx} {val : Nat → Value} {w : World} {β : Place → Option (Nat × Nat)} {F : Nat → Prop} {x : AV} {d : Nat}

/-- A slot's owned memory is frozen, where it is new. -/
theorem Inv.freeze (h : Inv e (upd τ d x) val w β F) (hf : ∀ r y b s, node x r = some y → y.isOwn = true → β (d, r) = some (b, s) → e.w0.heap.size ≤ b) :
    Inv e (upd τ d (sh x)) val w β (fun b => F b ∨ ∃ r y s, node x r = some y ∧ y.isOwn = true ∧ β (d, r) = some (b, s)) := by
  have own : ∀ q, OwnAt (upd τ d (sh x)) q → q.1 ≠ d ∧ OwnAt (upd τ d x) q := fun q hq => by
    by_cases hi : q.1 = d
    · obtain ⟨y, hy, ho⟩ := hq
      rw [hi, upd_same] at hy
      rw [pure_own (pure_sh x) hy] at ho; cases ho
    · exact ⟨hi, (own_upd_other hi).2 ((own_upd_other hi).1 hq)⟩
  have hx := h.rep d
  rw [upd_same] at hx
  have ownx : ∀ r y, node x r = some y → y.isOwn = true → OwnAt (upd τ d x) (d, r) := fun r y hy ho => ⟨y, by rw [upd_same]; exact hy, ho⟩
  refine ⟨fun i => ?_, fun q q' b s s' hq hq' => h.disj q q' b s s' (own q hq).2 (own q' hq').2, fun q b s hq hb => ⟨?_, (h.sep q b s (own q hq).2 hb).2⟩, fun b hb => ?_, h.kept, h.grow, h.tame⟩
  · by_cases hi : i = d
    · subst hi
      rw [upd_same]
      exact hx.sh x (fun b hb => .inl hb) (fun r y b s hy ho hb => .inr ⟨r, y, s, hy, ho, by simpa using hb⟩)
    · have := h.rep i
      rw [upd_other _ _ hi] at this ⊢
      exact this.tr _ (fun b hb => ⟨.inl hb, rfl⟩) (fun _ _ _ _ => ⟨rfl, fun _ _ _ => rfl⟩) (fun _ _ => rfl)
  · rintro (hF | ⟨r, y, s', hy, ho, hb'⟩)
    · exact (h.sep q b s (own q hq).2 hb).1 hF
    · have := h.disj q (d, r) b s s' (own q hq).2 (ownx r y hy ho) hb hb'
      exact (own q hq).1 (by rw [this])
  · rcases hb with hb | ⟨r, y, s, hy, ho, hb⟩
    · exact h.fr b hb
    · refine ⟨h.own_lt (ownx r y hy ho) hb, fun hlt => ?_⟩
      have := hf r y b s hy ho hb
      omega

/-- A call whose arguments are only lent; its result is new and frozen from now on. -/
theorem call_coreZ {f : FuncId} {args : List AV} {res : AV} (hc : ACall P f args [] res []) (hp : pureL args = true) (hn : noSh res = true) (hr : noRef res = true) (h : Inv e σ val w β F) {vs : List Value}
    (hl : vs.length = args.length) (ha : RepL (fun _ => none) (lent σ β F) w args (0, []) 0 vs) (d : Nat) :
    Calls P f vs.toArray w fun en w' => ∃ v β' F', en = .returned v ∧ Inv e (upd (fun i => purgeV d (σ i)) d (sh res)) (upd val d v) w' β' F' := by
  have hinv : Inv ⟨w, fun _ => False, lent σ β F⟩ (argSig args []) (fun i => vs.getD i undef) w (fun _ => none) (lent σ β F) := by
    refine ⟨fun i => ?_, fun q q' b s s' hq => (noOwn_argSig hp q hq).elim, fun q b s hq => (noOwn_argSig hp q hq).elim, fun b hb => ⟨?_, fun _ => hb⟩, fun _ _ _ => rfl, Nat.le_refl _, Tame.refl _⟩
    · unfold argSig
      split
      · cases hx : args[i]? with
        | none => simp [Rep]
        | some c =>
          obtain ⟨u, hu, hru⟩ := RepL_iff.1 ha i c hx
          rw [List.getD_eq_getElem?_getD, hu]
          exact hru.pure_any (pureL_mem hp (List.mem_of_getElem? hx))
      · simp [Rep]
    · rcases hb with hb | ⟨q, s, hq, hb⟩
      · exact (h.fr b hb).1
      · exact h.own_lt hq hb
  refine (hc _ vs _ w _ _ hl (fun _ _ => rfl) hinv).mono fun en w' ⟨v, β', F', he, hi⟩ => ⟨v, ?_⟩
  have hkept : ∀ b, b < w.heap.size → w'.heap[b]? = w.heap[b]? := fun b hb => hi.kept b hb (fun h => h)
  have hI := h.more hkept hi.grow (h.tame.trans hi.tame hkept)
  have h0 : argSig [res] [] 0 = res := by simp [argSig, INH]
  have hge : ∀ r y b s, node res r = some y → y.isOwn = true → β' (0, r) = some (b, s) → w.heap.size ≤ b := fun r y b s hy ho hb => by
    have hs := hi.sep (0, r) b s ⟨y, by rw [h0]; exact hy, ho⟩ hb
    rcases hs.2 with h | h; exact h; exact h.elim
  have hdet : Det e σ w' β F res v (fun r => β' (0, r)) := by
    refine ⟨?_, refs_of_noRef res hr, ?_, ?_⟩
    · have := hi.rep 0
      rw [h0, upd_same] at this
      exact (this.noSh (G := F) res hn).tr _ (fun b hb => ⟨hb, rfl⟩) (fun r y _ _ => ⟨by simp, fun _ _ _ => rfl⟩) (fun q hq => by rw [refs_of_noRef res hr] at hq; cases hq)
    · intro r r' y y' b s s' hy ho hy' ho' hb hb'
      have := hi.disj (0, r) (0, r') b s s' ⟨y, by rw [h0]; exact hy, ho⟩ ⟨y', by rw [h0]; exact hy', ho'⟩ hb hb'
      simpa using this
    · intro r y b s hy ho hb
      have hge := hge r y b s hy ho hb
      exact ⟨fun hF => by have := (h.fr b hF).1; omega, .inl (Nat.le_trans h.grow hge), fun q s' hq hb' => by have := h.own_lt hq hb'; omega⟩
  exact ⟨_, _, he, (hI.attach d hdet).freeze (fun r y b s hy ho hb => Nat.le_trans h.grow (hge r y b s hy ho (by simpa using hb)))⟩
theorem q_callZ {f : FuncId} {xs : List Operand} {tys : Array TypeId} {vs args : List AV} {res : AV} (hf : hasBody P f = true) (hx : RdL N A σ xs vs) (hs : snapL σ vs = args) (hc : A = true → ACall P f args [] res [])
    (hn : noSh res = true) (hr : noRef res = true) : QSem P N A (fnCall f xs tys) ty σ (slotsL xs ++ refRoots vs) (sh res) := by
  intro hA σ' hD gv e a w β F hi d o ho hty K Q hK
  have hp : pureL args = true := by rw [← hs]; exact pure_snapL σ _
  obtain ⟨hrep, hlen, hno⟩ := RdL.rep hA hi (0, []) (j := 0) hx (agree_l hD)
  have hsn := hi.snapL (β0 := fun _ => none) _ (p' := (0, [])) hrep (fun i c hc => hno c (List.mem_of_getElem? hc))
  have e2 : snapL σ' vs = args := by rw [← hs]; exact snapL_congr _ fun q hq => hD q.1 (List.mem_append_right _ (refRoots_mem hq))
  rw [e2] at hsn
  have hl : (xs.map a.eval).length = args.length := by rw [← e2, snapL_eq, hlen]; simp
  refine upon_enter' (f := f) (args := (xs.map a.eval).toArray) ?_ ((call_coreZ (hc hA) hp hn hr hi hl hsn d).mono fun en w' ⟨v, β', F', he, hi'⟩ => ⟨v, he, hK _ _ ⟨β', F', hi'⟩⟩)
  simp [execOp, ho, fnCall, resolve, Deferred.ofValue, Act.eval, invoke, run_callFunc_body hf]
end
end Go.Av
namespace Go.Av
open Go
theorem sl_shZ {cs : List AV} {n m : Nat} {c : Option Nat} (h : pureL cs = true ∧ noNilL cs = true) : sh (.osl m cs n c) = .sl cs n := by simp only [sh, shL_id cs h.1 h.2]
end Go.Av
namespace Go.Av
open Go
/-- Frozen, a tuple's parts too. -/
def shT : AV → AV
  | .tup cs => .tup (shL cs)
  | x => sh x
theorem shT_own {x : AV} {r : List Nat} {y : AV} (h : node (shT x) r = some y) : y.isOwn = false := by
  cases x
  case tup cs =>
    cases r with
    | nil => simp [shT, node] at h; subst h; rfl
    | cons j r =>
      simp only [shT, node, kids] at h
      cases hc : (shL cs)[j]? with
      | none => rw [hc] at h; cases h
      | some c =>
        rw [hc] at h
        exact pure_own (pureL_mem (pure_shL cs) (List.mem_of_getElem? hc)) h
  all_goals exact pure_own (pure_sh _) h
theorem Rep.shT {x : AV} {F G : Nat → Prop} {w : World} {β β0 : Place → Option (Nat × Nat)} {p p' : Place} {v : Value} (h : Rep β F w x p v) (hF : ∀ b, F b → G b)
    (hG : ∀ r y b s, node x r = some y → y.isOwn = true → β (p.1, p.2 ++ r) = some (b, s) → G b) : Rep β0 G w (Av.shT x) p' v := by
  cases x
  case tup cs =>
    simp only [Rep] at h
    obtain ⟨vs, rfl, hl, h⟩ := h
    simp only [Av.shT, Rep]
    exact ⟨vs, rfl, by simp [shL_eq, hl], RepL.sh cs h hF (fun i c r y b s hc hy ho hb => hG (i :: r) y b s (by simp [node, kids, hc, hy]) ho (by simpa using hb))⟩
  all_goals exact h.sh _ hF hG
section
variable {P : Program} {N : Nat} {A : Bool} {σ τ : Sig} {ty : TypeId}
variable {e : Ctx} {val : Nat → Value} {w : World} {β : Place → Option (Nat × Nat)} {F : Nat → Prop} {x : AV} {d : Nat}
theorem Inv.freezeT (h : Inv e (upd τ d x) val w β F) (hf : ∀ r y b s, node x r = some y → y.isOwn = true → β (d, r) = some (b, s) → e.w0.heap.size ≤ b) :
    Inv e (upd τ d (shT x)) val w β (fun b => F b ∨ ∃ r y s, node x r = some y ∧ y.isOwn = true ∧ β (d, r) = some (b, s)) := by
  have own : ∀ q, OwnAt (upd τ d (shT x)) q → q.1 ≠ d ∧ OwnAt (upd τ d x) q := fun q hq => by
    by_cases hi : q.1 = d
    · obtain ⟨y, hy, ho⟩ := hq
      rw [hi, upd_same] at hy
      rw [shT_own hy] at ho; cases ho
    · exact ⟨hi, (own_upd_other hi).2 ((own_upd_other hi).1 hq)⟩
  have hx := h.rep d
  rw [upd_same] at hx
  have ownx : ∀ r y, node x r = some y → y.isOwn = true → OwnAt (upd τ d x) (d, r) := fun r y hy ho => ⟨y, by rw [upd_same]; exact hy, ho⟩
  refine ⟨fun i => ?_, fun q q' b s s' hq hq' => h.disj q q' b s s' (own q hq).2 (own q' hq').2, fun q b s hq hb => ⟨?_, (h.sep q b s (own q hq).2 hb).2⟩, fun b hb => ?_, h.kept, h.grow, h.tame⟩
  · by_cases hi : i = d
    · subst hi
      rw [upd_same]
      exact hx.shT (fun b hb => .inl hb) (fun r y b s hy ho hb => .inr ⟨r, y, s, hy, ho, by simpa using hb⟩)
    · have := h.rep i
      rw [upd_other _ _ hi] at this ⊢
      exact this.tr _ (fun b hb => ⟨.inl hb, rfl⟩) (fun _ _ _ _ => ⟨rfl, fun _ _ _ => rfl⟩) (fun _ _ => rfl)
  · rintro (hF | ⟨r, y, s', hy, ho, hb'⟩)
    · exact (h.sep q b s (own q hq).2 hb).1 hF
    · have := h.disj q (d, r) b s s' (own q hq).2 (ownx r y hy ho) hb hb'
      exact (own q hq).1 (by rw [this])
  · rcases hb with hb | ⟨r, y, s, hy, ho, hb⟩
    · exact h.fr b hb
    · refine ⟨h.own_lt (ownx r y hy ho) hb, fun hlt => ?_⟩
      have := hf r y b s hy ho hb
      omega
/-- A call of which no argument refers to owned memory; what it makes is frozen from now on. -/
theorem call_coreFZ {f : FuncId} {args : List AV} {res : AV} (hc : ACall P f args [] res []) (hp : pureL args = true) (hr : noRef res = true) (h : Inv e σ val w β F) {vs : List Value}
    (hl : vs.length = args.length) (ha : RepL (fun _ => none) F w args (0, []) 0 vs) (d : Nat) :
    Calls P f vs.toArray w fun en w' => ∃ v β' F', en = .returned v ∧ Inv e (upd (fun i => purgeV d (σ i)) d (shT res)) (upd val d v) w' β' F' := by
  have hinv : Inv ⟨w, fun _ => False, F⟩ (argSig args []) (fun i => vs.getD i undef) w (fun _ => none) F := by
    refine ⟨fun i => ?_, fun q q' b s s' hq => (noOwn_argSig hp q hq).elim, fun q b s hq => (noOwn_argSig hp q hq).elim, fun b hb => ⟨(h.fr b hb).1, fun _ => hb⟩, fun _ _ _ => rfl, Nat.le_refl _, Tame.refl _⟩
    unfold argSig
    split
    · cases hx : args[i]? with
      | none => simp [Rep]
      | some c =>
        obtain ⟨u, hu, hru⟩ := RepL_iff.1 ha i c hx
        rw [List.getD_eq_getElem?_getD, hu]
        exact hru.pure_any (pureL_mem hp (List.mem_of_getElem? hx))
    · simp [Rep]
  refine (hc _ vs _ w _ _ hl (fun _ _ => rfl) hinv).mono fun en w' ⟨v, β', F', he, hi⟩ => ⟨v, ?_⟩
  have hkept : ∀ b, b < w.heap.size → w'.heap[b]? = w.heap[b]? := fun b hb => hi.kept b hb (fun h => h)
  have hF' : ∀ b, F' b → F b ∨ w.heap.size ≤ b := fun b hb => by
    rcases Nat.lt_or_ge b w.heap.size with hlt | hge
    · exact .inl ((hi.fr b hb).2 hlt)
    · exact .inr hge
  have hI : Inv e σ val w' β (fun b => F b ∨ F' b) := (h.more hkept hi.grow (h.tame.trans hi.tame hkept)).moreF (fun b hb => .inl hb) (fun b hb => by
    rcases hb with hb | hb
    · exact ⟨Nat.lt_of_lt_of_le (h.fr b hb).1 hi.grow, (h.fr b hb).2⟩
    · refine ⟨(hi.fr b hb).1, fun hlt => ?_⟩
      rcases hF' b hb with hb | hge
      · exact (h.fr b hb).2 hlt
      · have := h.grow; omega) (fun q b s hq hb hF => by
    rcases hF with hF | hF
    · exact (h.sep q b s hq hb).1 hF
    · rcases hF' b hF with hF | hge
      · exact (h.sep q b s hq hb).1 hF
      · have := h.own_lt hq hb; omega)
  have h0 : argSig [res] [] 0 = res := by simp [argSig, INH]
  have hge : ∀ r y b s, node res r = some y → y.isOwn = true → β' (0, r) = some (b, s) → w.heap.size ≤ b := fun r y b s hy ho hb => by
    have hs := hi.sep (0, r) b s ⟨y, by rw [h0]; exact hy, ho⟩ hb
    rcases hs.2 with h | h; exact h; exact h.elim
  have hdet : Det e σ w' β (fun b => F b ∨ F' b) res v (fun r => β' (0, r)) := by
    refine ⟨?_, refs_of_noRef res hr, ?_, ?_⟩
    · have := hi.rep 0
      rw [h0, upd_same] at this
      exact this.tr _ (fun b hb => ⟨.inr hb, rfl⟩) (fun r y _ _ => ⟨by simp, fun _ _ _ => rfl⟩) (fun q hq => by rw [refs_of_noRef res hr] at hq; cases hq)
    · intro r r' y y' b s s' hy ho hy' ho' hb hb'
      have := hi.disj (0, r) (0, r') b s s' ⟨y, by rw [h0]; exact hy, ho⟩ ⟨y', by rw [h0]; exact hy', ho'⟩ hb hb'
      simpa using this
    · intro r y b s hy ho hb
      have hs := hi.sep (0, r) b s ⟨y, by rw [h0]; exact hy, ho⟩ hb
      have hge := hge r y b s hy ho hb
      refine ⟨fun hF => ?_, .inl (Nat.le_trans h.grow hge), fun q s' hq hb' => by have := h.own_lt hq hb'; omega⟩
      rcases hF with hF | hF
      · have := (h.fr b hF).1; omega
      · exact hs.1 hF
  exact ⟨_, _, he, (hI.attach d hdet).freezeT (fun r y b s hy ho hb => Nat.le_trans h.grow (hge r y b s hy ho (by simpa using hb)))⟩
theorem q_callFZ {f : FuncId} {xs : List Operand} {tys : Array TypeId} {vs args : List AV} {res : AV} (hf : hasBody P f = true) (hx : RdL N A σ xs vs) (hs : snapL σ vs = args) (hc : A = true → ACall P f args [] res [])
    (hnr : noRefL vs = true) (hr : noRef res = true) : QSem P N A (fnCall f xs tys) ty σ (slotsL xs ++ refRoots vs) (shT res) := by
  intro hA σ' hD gv e a w β F hi d o ho hty K Q hK
  have hp : pureL args = true := by rw [← hs]; exact pure_snapL σ _
  obtain ⟨hrep, hlen, hno⟩ := RdL.rep hA hi (0, []) (j := 0) hx (agree_l hD)
  have hi0 : Inv e (fun _ => .undef) (valOf N gv a) w β F := hi.weak (fun i => by simp [Rep]) (fun q ⟨y, hy, hoy⟩ => by
    cases hr : q.2 with
    | nil => rw [hr] at hy; simp [node] at hy; subst hy; simp [AV.isOwn] at hoy
    | cons j r => rw [hr] at hy; simp [node, kids] at hy)
  have hsn := hi0.snapL (β0 := fun _ => none) _ (p' := (0, [])) hrep (fun i c hc => hno c (List.mem_of_getElem? hc))
  have e2 : snapL (fun _ => .undef) vs = args := by
    rw [← hs]
    exact snapL_congr _ fun q hq => by rw [refsL_of_noRef _ hnr] at hq; cases hq
  rw [e2] at hsn
  have hl : (xs.map a.eval).length = args.length := by rw [← e2, snapL_eq, hlen]; simp
  have hlent : ∀ b, lent (fun _ => .undef) β F b → F b := fun b hb => by
    rcases hb with hb | ⟨q, s, ⟨y, hy, hoy⟩, _⟩
    · exact hb
    · cases hr : q.2 with
      | nil => rw [hr] at hy; simp [node] at hy; subst hy; simp [AV.isOwn] at hoy
      | cons j r => rw [hr] at hy; simp [node, kids] at hy
  have hsn' : RepL (fun _ => none) F w args (0, []) 0 (xs.map a.eval) := hsn.tr _ (fun b hb => ⟨hlent b hb, rfl⟩) (fun i c r y hc hy ho => by
    rw [noOwn_pure (pureL_mem hp (List.mem_of_getElem? hc)) hy] at ho; cases ho) (fun _ _ _ _ => rfl)
  refine upon_enter' (f := f) (args := (xs.map a.eval).toArray) ?_ ((call_coreFZ (hc hA) hp hr hi hl hsn' d).mono fun en w' ⟨v, β', F', he, hi'⟩ => ⟨v, he, hK _ _ ⟨β', F', hi'⟩⟩)
  simp [execOp, ho, fnCall, resolve, Deferred.ofValue, Act.eval, invoke, run_callFunc_body hf]
end
end Go.Av
namespace Go.Av
open Go
/-- Kind, polynomial, two steps, two numbers. -/
abbrev PcT := Int × List (Int × Int) × Int × Int × Int × Int
/-- A formula and a prime that fit. -/
def aOk (p vars : Int) (L : List (List Int)) : Bool := prime p vars && cnfB vars L
theorem aOk_spec {p vars : Int} {L : List (List Int)} (h : aOk p vars L = true) : prime p vars = true ∧ cnfB vars L = true := by
  unfold aOk at h; simpa using h
/-- The polynomial of a clause, with all coefficients. -/
def clD (p vars : Int) (c : List Int) : List Int := clP p (dn vars) c c.length
theorem clD_len (p vars : Int) (c : List Int) : (clD p vars c).length = dn vars := clP_length _
theorem clD_bd {p vars : Int} (hp : 2 ≤ p) (c : List Int) : Bd p (clD p vars c) := clP_bd hp _
def qL (p vars : Int) (L : List (List Int)) : List (List Int) := L.map (clD p vars)
theorem qL_len (p vars : Int) (L : List (List Int)) : (qL p vars L).length = L.length := by simp [qL]
theorem qL_get {p vars : Int} {L : List (List Int)} {i : Nat} (h : i < L.length) : gl (qL p vars L) i = clD p vars (gl L i) := by
  unfold qL gl; rw [List.getElem?_map, List.getElem?_eq_getElem h]; rfl
theorem osls_more {p vars : Int} {L : List (List Int)} {i : Nat} {k : Nat} (h : i < L.length) (hk : k = dn vars) : osls (qL p vars (L.take i)) ++ [.osl 1 (icells (clD p vars (gl L i))) k none] = osls (qL p vars (L.take (i + 1))) := by
  have hg : L[i] = gl L i := by unfold gl; rw [List.getElem?_eq_getElem h]; rfl
  rw [List.take_succ_eq_append_getElem h, hg]
  unfold qL osls
  rw [List.map_append, List.map_append]
  simp [clD_len, hk]
theorem alg_shT (p vars : Int) (L : List (List Int)) : shT (.tup [.op [.int .i64 p, .int .i64 vars, .int .i64 vars, .sl (sls L) L.length, .osl 1 (osls (qL p vars L)) L.length none], .bool true])
    = .tup [.pp [.int .i64 p, .int .i64 vars, .int .i64 vars, .sl (sls L) L.length, .sl (sls (qL p vars L)) L.length] 0, .bool true] := by
  simp [shT, sh, shL, shL_osls, shL_id _ (sls_pure L).1 (sls_pure L).2]
end Go.Av
namespace Go.Av
open Go
theorem sls_noRef : ∀ (L : List (List Int)), noRefL (sls L) = true := fun L => by
  induction L with
  | nil => rfl
  | cons c L ih => unfold sls at ih ⊢; simp [noRefL, noRef, ic_noRef, ih]
end Go.Av
namespace Go.Av
open Go
section
variable {P : Program} {N : Nat} {A : Bool} {σ : Sig} {x : Operand} {ty : TypeId}
/-- An operation whose guard does not hold. -/
theorem v_off {op : Op} {v : AV} (hA : A = false) (hv : flat v = true) : VSem P N A op ty σ [] v := ⟨noOwn_flat hv, fun h => by rw [hA] at h; cases h⟩
end
section
variable {P : Program} {N : Nat} {o : Oper} {σ : Sig}
theorem o_store_keep {t off s y t8 off8 : Nat} {cs0 cs' : List AV} {g : Bool} {q : Place} {x : Operand} {z v y' : AV} (ho : o.op = .store t x (.tmp y)) (hd : o.dst = none) (ht : tyAgg P t = some (g, s)) (hx : RdTo N true σ x (.rp q off)) (hyN : y < N) (hy : σ y = v)
    (hyq : Nat.beq y q.1 = false) (hv : bigV v = true) (hn : noRefL (cellsOf v) = true) (hrv : refs v = [])
    (hz : node (σ q.1) q.2 = some z) (hzo : z.isOwn = true) (hc : cellL (cellsOf v) = true) (hs : (cellsOf v).length = s) (hl : off + s ≤ (kids z).length)
    (hr : refs (σ q.1) = []) (hres : setNode (σ q.1) q.2 (setKids z (setL (kids z) off (cellsOf v))) = y')
    (hk : σ t8 = .rp (q.1, []) off8) (h0 : σ q.1 = .op cs0) (h1 : y' = .op cs') : OStep P N o σ (upd (upd (fun i => purgeV q.1 (upd σ y .undef i)) q.1 y') t8 (.rp (q.1, []) off8)) := by
  intro gv e a w ⟨hdf, hsz, β, F, hi⟩ K Q hK
  have hyq' : y ≠ q.1 := fun h => by subst h; simp at hyq
  have ex := hx.rep rfl (fun _ _ => rfl) hi (0, [])
  obtain ⟨hi1, hd1⟩ := hi.detach_slot (t := y) (by rw [hy]; exact hrv)
  rw [hy] at hd1
  have hval : valOf N gv a y = a.eval (.tmp y) := by simp [valOf, hyN, Act.eval]
  rw [hval] at hd1
  obtain ⟨δ', hd2⟩ := hd1.cellsOf hv hn
  have hul := hd2.repL.1
  have hur := hd2.repL.2
  have hz1 : node (upd σ y .undef q.1) q.2 = some z := by rw [upd_other _ _ (Ne.symm hyq')]; exact hz
  have hr1 : refs (upd σ y .undef q.1) = [] := by rw [upd_other _ _ (Ne.symm hyq')]; exact hr
  have hq : blk (upd σ y .undef) q = some (kids z) := by
    unfold blk; rw [hz1]
    cases z <;> simp [AV.isOwn] at hzo <;> rfl
  simp only [Rep] at ex
  obtain ⟨b, s1, hb1, ex⟩ := ex
  rcases hi1.block hq with ⟨hb2, _⟩ | ⟨b2, s2, arr, tt, hb2, hh, hrc, hnr⟩
  · rw [hb1] at hb2; cases hb2
  · rw [hb1] at hb2
    simp only [Option.some.injEq, Prod.mk.injEq] at hb2
    obtain ⟨rfl, rfl⟩ := hb2
    have hcl := hrc.len
    simp only [Array.length_toList] at hcl
    have hrun := run_storeAt (b := b) (off := off) ht (v := a.eval (.tmp y)) (hul.trans hs) hh (by omega) (ones_of hur hul hc)
    obtain ⟨β', h⟩ := hi1.store (ns := cellsOf v) (off := off) (cs := kids z) hz1 hzo rfl hb1 hh hr1 hd2 hn hnr (by rw [← hul]; omega) (σ1 := fun i => purgeV q.1 (upd σ y .undef i)) (fun i _ => by
      rcases purgeV_or q.1 (upd σ y .undef i) with hp | hp
      · right
        refine ⟨hp, fun q' hq' => under_off fun hh => ?_⟩
        rw [← hp] at hq'
        exact refs_purge q' hq' hh.1
      · exact .inl hp)
    rw [upd_other _ _ (Ne.symm hyq'), hres] at h
    have r8 := hi.rep t8
    rw [hk] at r8
    simp only [Rep] at r8
    obtain ⟨b8, s8, hb8, hv8⟩ := r8
    have r0 := hi.rep q.1
    rw [h0] at r0
    simp only [Rep] at r0
    obtain ⟨_, b0, arr0, _, hb0, hv0, _⟩ := r0
    have r1 := h.rep q.1
    rw [upd_same, h1] at r1
    simp only [Rep] at r1
    obtain ⟨_, b9, arr9, _, hb9, hv9, _⟩ := r1
    rw [hb8] at hb0
    simp only [Option.some.injEq, Prod.mk.injEq] at hb0
    rw [hv0] at hv9
    have he : b9 = b8 := by
      have h3 := hb0.1
      simp at hv9
      omega
    have h9 := h.set t8 (x := .rp (q.1, []) off8) (v := valOf N gv a t8) (by simp only [Rep]; exact ⟨b9, arr9.size, hb9, by rw [hv8, he]⟩) (fun r y hy => by
      cases r with
      | nil => simp [node] at hy; subst hy; rfl
      | cons j r => simp [node, kids] at hy)
    rw [upd_self] at h9
    refine wp_unit (w' := w.setRow b (spliceV arr.toList off (a.eval (.tmp y)).cells.toList).toArray) ?_ (hK _ _ ⟨?_, ?_, β', F, ?_⟩)
    · simp only [execOp, ho, ex, hrun, Sem.run_bind, Sem.run_pure, Result.andThen_ok]
    · rw [hd]; exact hdf
    · rw [hd]; exact hsz
    · rw [hd]; exact h9
end
end Go.Av
namespace Go.Av
open Go Go.Proofs Go.Sort
set_option maxRecDepth 10000
theorem fo88_2 : fieldOff Try.prog 88 2 = some 4 := by kernel_rfl
theorem hb104 : hasBody Try.prog 104 = true := by kernel_rfl
theorem hb105 : hasBody Try.prog 105 = true := by kernel_rfl
theorem sp88 : structPl Try.prog 88 = some ([.int .i64 0, .int .i64 0, .int .i64 0, .nils, .nils], [(0, 2), (2, 2), (4, 1)]) := by kernel_rfl
theorem ta86 : tyAgg Try.prog 86 = some (false, 1) := by kernel_rfl

theorem algOk_c (p vars : Int) (L : List (List Int)) (hk : CnfOk vars L) (ha : aOk p vars L = true) : ACall Try.prog 55 [.int .i64 p, .agg [.int .i64 vars, .sl (sls L) L.length]] [] (.tup [.op [.int .i64 p, .int .i64 vars, .int .i64 vars, .sl (sls L) L.length, .osl 1 (osls (qL p vars L)) L.length none], .bool true]) [] := by
  obtain ⟨hp, hc⟩ := aOk_spec ha
  have hpp := prime_spec hp
  have hcs := cnfB_spec hc
  have hd := dn_le hpp.2
  refine ACall.intro Try.func55 rfl (N := 50) rfl (by decide) (by simp) ?_
  refine a_seq ?_
  refine a_region ?_
  refine r_new (v := .op [.int _ _, .sl _ _]) (q_box (.inl rfl) rfl rfl) rfl rfl (by decide) ?_
  refine r_val (v := .nilp) (v_assign (.inl rfl) (noOwn_flat rfl)) rfl rfl (by decide) ?_
  refine r_val (v := .bool _) (v_assign (.inl rfl) (noOwn_flat rfl)) rfl rfl (by decide) ?_
  refine r_nil ?_
  refine a_seq ?_
  refine a_region ?_
  refine r_val (v := .int _ _) (v_move (.inl rfl) (noOwn_flat rfl)) rfl rfl (by decide) ?_
  refine r_val (v := .rp _ _) (v_fieldAddr_rp fo31_0 (.inl rfl)) rfl rfl (by decide) ?_
  refine r_val (v := .int _ _) (v_load_rp1 ta3 (.inl rfl) rfl (fun _ => rfl) rfl) rfl rfl (by decide) ?_
  refine r_new (v := .tup [.agg [.int _ _, .int _ _], .bool _]) (q_call (vs := [.int _ _, .int _ _]) (args := [.int .i64 _, .int .i64 _]) hb103 ⟨.inl rfl, .inl rfl, trivial⟩ rfl (fun hA => ringOf_c p vars) rfl rfl) rfl rfl (by decide) ?_
  refine r_val (v := .tup [.agg [.int _ _, .int _ _], .bool _]) (v_mv rfl) rfl rfl (by decide) ?_
  refine r_val (v := .agg [.int _ _, .int _ _]) (v_extract rfl rfl) rfl rfl (by decide) ?_
  refine r_val (v := .bool _) (v_extract rfl rfl) rfl rfl (by decide) ?_
  refine r_new (v := .op [.int _ _, .int _ _]) (q_alloc zc85) rfl rfl (by decide) ?_
  refine r_step rfl (o_store (v := .agg [.int _ _, .int _ _]) (y' := .op [.int _ _, .int _ _]) rfl rfl ta85 (.inl rfl) (.inl rfl) rfl rfl rfl rfl rfl rfl (Nat.le_of_ble_eq_true rfl) (by decide) rfl rfl) ?_
  refine r_val (v := .bool _) (v_assign (.inl rfl) (noOwn_flat rfl)) rfl rfl (by decide) ?_
  refine r_nil ?_
  refine a_seq ?_
  refine a_seq ?_
  refine a_region ?_
  refine r_val (v := .bool _) (v_move (.inl rfl) (noOwn_flat rfl)) rfl rfl (by decide) ?_
  refine r_val (v := .bool _) (v_not (.inl rfl)) rfl rfl (by decide) ?_
  refine r_val (v := .bool _) (v_move (.inl rfl) (noOwn_flat rfl)) rfl rfl (by decide) ?_
  refine r_gval (v := .agg [.int _ _, .sl _ _]) (v_load_rpa1 ta31 (.inl rfl) rfl rfl (fun _ => rfl) rfl) rfl rfl rfl (by decide) (.inl ⟨_, rfl, rfl⟩) rfl (by decide) ?_
  refine r_guard (v := .bool _) (q_call (vs := [.agg [.int _ _, .sl _ _]]) (args := [.agg [.int .i64 _, .sl _ _]]) hb104 ⟨.inr ⟨_, rfl, fun h => h⟩, trivial⟩ rfl (fun hA => isCnf_c vars L hk) rfl rfl) rfl rfl rfl (by decide) (.inl ⟨_, rfl, rfl⟩) rfl (by decide) ?_
  refine r_gval (v := .bool _) (v_not (.inr ⟨_, rfl, fun h => h⟩)) rfl rfl rfl (by decide) (.inl ⟨_, rfl, rfl⟩) rfl (by decide) ?_
  refine r_val (v := .bool _) (v_pick (.inl rfl) (.inl rfl) (.inr ⟨_, rfl, fun h h2 => by simp_all⟩)) rfl rfl (by decide) ?_
  refine r_nil ?_
  refine a_cond rfl (fun ht24 => ?_) (fun ht24 => ?_)
  ·
    skip
    exfalso
    simp [hp, hc] at ht24
  ·
    skip
    refine a_skip ?_
    refine a_seq ?_
    refine a_region ?_
    refine r_val (v := .agg [.int _ _, .int _ _]) (v_load_rpa1 ta85 (.inl rfl) rfl rfl (fun _ => rfl) rfl) rfl rfl (by decide) ?_
    refine r_val (v := .agg [.int _ _, .sl _ _]) (v_load_rpa1 ta31 (.inl rfl) rfl rfl (fun _ => rfl) rfl) rfl rfl (by decide) ?_
    refine r_val (v := .agg [.int _ _, .int _ _, .int _ _, .sl _ _, .nils]) (v_build sp88 rfl rfl) rfl rfl (by decide) ?_
    refine r_new (v := .op [.int _ _, .int _ _, .int _ _, .sl _ _, .nils]) (q_box (.inl rfl) rfl rfl) rfl rfl (by decide) ?_
    refine r_pre (ent_nil_at (t := 28) (r := [4]) (sz := 1) rfl (.inl rfl) rfl rfl) ?_
    refine r_val (v := .rp _ _) (v_assign (.inl rfl) (noOwn_flat rfl)) rfl rfl (by decide) ?_
    refine r_nil ?_
    refine a_seq ?_
    refine a_seq ?_
    refine a_region ?_
    refine r_val (v := .rp _ _) (v_fieldAddr_rp fo31_1 (.inl rfl)) rfl rfl (by decide) ?_
    refine r_val (v := .sl _ _) (v_load_rp1 ta22 (.inl rfl) rfl (fun _ => rfl) rfl) rfl rfl (by decide) ?_
    refine r_val (v := .int _ _) (v_len_sl sl22 (.inl rfl)) rfl rfl (by decide) ?_
    refine r_val (v := .int _ _) (v_move (.inl rfl) (noOwn_flat rfl)) rfl rfl (by decide) ?_
    refine r_nil ?_
    refine a_block ?_
    refine a_loop (X := Nat) (fun i => look [(6, .op [.int .i64 p, .int .i64 vars]), (8, .rp (28, []) 0), (28, .op [.int .i64 p, .int .i64 vars, .int .i64 vars, .sl (sls L) L.length, .osl 1 (osls (qL p vars (L.take i))) i none]), (30, .sl (sls L) L.length), (31, .int .i64 (L.length : Int)), (32, .int .i64 ((i : Nat) : Int))]) (fun i => i ≤ L.length) (fun i => L.length - i) 0 (ent_look ⟨Weak.of_eq rfl, Weak.of_eq rfl, Weak.of_eq rfl, Weak.of_eq rfl, Weak.of_eq rfl, Weak.of_eq rfl, trivial⟩) (Nat.zero_le _) (fun i hG => ?_)
    refine a_seq ?_
    refine a_region ?_
    refine r_val (v := .bool _) (v_lss (.inl rfl) (.inl rfl)) rfl rfl (by decide) ?_
    refine r_nil ?_
    refine a_seq ?_
    refine a_cond rfl (fun ht33 => ?_) (fun ht33 => ?_)
    ·
      skip
      refine a_skip ?_
      refine a_seq ?_
      refine a_block ?_
      refine a_seq ?_
      have hi : i < L.length := (by simp at ht33; omega)
      have hcc := hcs.2.2 i hi
      have hll := len_tot (L := L) (i := i)
      have hk3 := hk.2.2.1
      refine a_region ?_
      refine r_val (v := .pp _ _) (v_indexAddr_sl es22 (.inl rfl) (.inl rfl) (fun _ => ⟨by omega, by omega, sls_ne hi⟩)) rfl rfl (by decide) ?_
      refine r_val (v := .sl (icells (gl L i)) (gl L i).length) (v_load_pp ta25 (.inl rfl) (fun _ => by rw [Nat.mul_one]; exact sls_get hi) rfl) rfl rfl (by decide) ?_
      refine r_val (v := .sl _ _) (v_assign (.inl rfl) (noOwn_flat rfl)) rfl rfl (by decide) ?_
      refine r_nil ?_
      refine a_region_z (n := 10) [[(36, true)], [(37, true)], [(38, true)], [(39, true)], [(40, true)], [(41, true)], [(42, true)], [(43, true)], [(43, false), (44, true)], [(28, false), (40, true), (44, false), (45, true)]] mixed (by kernel_rfl) ?_
      refine z_val (v := .rp _ _) (v_move (.inl rfl) (noOwn_flat rfl)) rfl rfl (by decide) rfl (by kernel_rfl) ?_
      refine z_val (v := .rp _ _) (v_move (.inl rfl) (noOwn_flat rfl)) rfl rfl (by decide) rfl (by kernel_rfl) ?_
      refine z_val (v := .rp _ _) (v_nilCheck (.inl rfl) rfl) rfl rfl (by decide) rfl (by kernel_rfl) ?_
      refine z_val (v := .rp _ _) (v_fieldAddr_rp fo88_2 (.inl rfl)) rfl rfl (by decide) rfl (by kernel_rfl) ?_
      refine z_val (v := .rsl _ _ _ _ _) (v_load_rp (c := .osl _ _ _ _) ta86 (.inl rfl) rfl (fun _ => rfl)) rfl rfl (by decide) rfl (by kernel_rfl) ?_
      refine z_val (v := .agg [.int _ _, .int _ _]) (v_load_rpa1 ta85 (.inl rfl) rfl rfl (fun _ => rfl) rfl) rfl rfl (by decide) rfl (by kernel_rfl) ?_
      refine z_val (v := .sl _ _) (v_move (.inl rfl) (noOwn_flat rfl)) rfl rfl (by decide) rfl (by kernel_rfl) ?_
      refine z_new (v := .osl _ _ _ _) (q_call (vs := [.agg [.int _ _, .int _ _], .sl _ _]) (args := [.agg [.int .i64 _, .int .i64 _], .sl _ _]) hb105 ⟨.inl rfl, .inl rfl, trivial⟩ rfl (fun hA => rclause_c p vars (gl L i) hp hcc (by omega)) (ic_noSh _) (ic_noRef _)) rfl rfl (by decide) rfl (by kernel_rfl) ?_
      refine z_sliceLit1 (v := .osl _ _ _ _) rfl rfl lt86 rfl rfl (by decide) (by decide) (by decide) rfl rfl (by simp [cellsOf, noRefL, noRef, ic_noRef]) rfl rfl rfl (by kernel_rfl) ?_
      refine z_append_own_ref rfl rfl ap86 rfl (by decide) (by decide) (by decide) (by decide) (by decide) (by decide) (by decide) (by decide) (by decide) rfl rfl rfl rfl rfl rfl (by rw [osls_length, qL_len, List.length_take]; omega) rfl (by omega) rfl (by kernel_rfl) ?_
      refine z_nil ?_
      refine r_val (v := .rp _ _) (v_nilCheck (.inl rfl) rfl) rfl rfl (by decide) ?_
      refine r_val (v := .rp _ _) (v_fieldAddr_rp fo88_2 (.inl rfl)) rfl rfl (by decide) ?_
      refine r_pre (ent_eq (t := 45) (v' := .osl 1 (osls (qL p vars (L.take (i + 1)))) (i + 1) none) (Weak.osl (osls_more hi rfl) rfl)) ?_
      refine r_step rfl (o_store_keep (t8 := 8) (v := .osl _ _ _ _) (y' := .op [.int _ _, .int _ _, .int _ _, .sl _ _, .osl _ _ _ _]) rfl rfl ta86 (.inl rfl) (by decide) rfl (by decide) rfl (by simp [cellsOf, noRefL, noRef, osls_noRef, sls_noRef]) rfl rfl rfl rfl rfl (Nat.le_of_ble_eq_true rfl) rfl rfl rfl rfl rfl) ?_
      refine r_nil ?_
      refine a_region ?_
      refine r_val (v := .int _ _) (v_add (.inl rfl) (.inl rfl) (fun _ => by omega)) rfl rfl (by decide) ?_
      refine r_val (v := .int _ _) (v_move (.inl rfl) (noOwn_flat rfl)) rfl rfl (by decide) ?_
      refine r_nil ?_
      refine ⟨i + 1, ent_look ⟨Weak.of_eq rfl, Weak.of_eq rfl, Weak.of_eq rfl, Weak.of_eq rfl, Weak.of_eq rfl, Weak.of_eq (int_eq (by omega)), trivial⟩, by omega, by omega⟩
    ·
      skip
      refine a_exit ?_
      refine a_seq ?_
      refine a_region ?_
      refine r_val (v := .rp _ _) (v_move (.inl rfl) (noOwn_flat rfl)) rfl rfl (by decide) ?_
      refine r_val (v := .rp _ _) (v_assign (.inl rfl) (noOwn_flat rfl)) rfl rfl (by decide) ?_
      refine r_pre (ent_reloc_op (t := 4) rfl rfl) ?_
      refine r_val (v := .bool _) (v_assign (.inl rfl) (noOwn_flat rfl)) rfl rfl (by decide) ?_
      refine r_nil ?_
      refine a_ret ?_
      refine retL (rs := [.tmp 4, .tmp 5]) [(4, _), (5, _)] ⟨Weak.rfl, Weak.rfl, trivial⟩ rfl Try.results55 (by decide) ⟨by decide, by decide, rfl⟩ (by decide) (by decide) (l2_eq ?_ (bool_eq ?_)) rfl
      all_goals (have hie : i = L.length := (by simp at ht33; omega); subst hie; first | rfl | (rw [List.take_of_length_le (Nat.le_refl _)]; rfl))

theorem algNo_c (p vars : Int) (L : List (List Int)) (hk : CnfOk vars L) (hno : aOk p vars L = false) : ACall Try.prog 55 [.int .i64 p, .agg [.int .i64 vars, .sl (sls L) L.length]] [] (.tup [.nilp, .bool false]) [] := by
  refine ACall.intro Try.func55 rfl (N := 50) rfl (by decide) (by simp) ?_
  refine a_seq ?_
  refine a_region ?_
  refine r_new (v := .op [.int _ _, .sl _ _]) (q_box (.inl rfl) rfl rfl) rfl rfl (by decide) ?_
  refine r_val (v := .nilp) (v_assign (.inl rfl) (noOwn_flat rfl)) rfl rfl (by decide) ?_
  refine r_val (v := .bool _) (v_assign (.inl rfl) (noOwn_flat rfl)) rfl rfl (by decide) ?_
  refine r_nil ?_
  refine a_seq ?_
  refine a_region ?_
  refine r_val (v := .int _ _) (v_move (.inl rfl) (noOwn_flat rfl)) rfl rfl (by decide) ?_
  refine r_val (v := .rp _ _) (v_fieldAddr_rp fo31_0 (.inl rfl)) rfl rfl (by decide) ?_
  refine r_val (v := .int _ _) (v_load_rp1 ta3 (.inl rfl) rfl (fun _ => rfl) rfl) rfl rfl (by decide) ?_
  refine r_new (v := .tup [.agg [.int _ _, .int _ _], .bool _]) (q_call (vs := [.int _ _, .int _ _]) (args := [.int .i64 _, .int .i64 _]) hb103 ⟨.inl rfl, .inl rfl, trivial⟩ rfl (fun hA => ringOf_c p vars) rfl rfl) rfl rfl (by decide) ?_
  refine r_val (v := .tup [.agg [.int _ _, .int _ _], .bool _]) (v_mv rfl) rfl rfl (by decide) ?_
  refine r_val (v := .agg [.int _ _, .int _ _]) (v_extract rfl rfl) rfl rfl (by decide) ?_
  refine r_val (v := .bool _) (v_extract rfl rfl) rfl rfl (by decide) ?_
  refine r_new (v := .op [.int _ _, .int _ _]) (q_alloc zc85) rfl rfl (by decide) ?_
  refine r_step rfl (o_store (v := .agg [.int _ _, .int _ _]) (y' := .op [.int _ _, .int _ _]) rfl rfl ta85 (.inl rfl) (.inl rfl) rfl rfl rfl rfl rfl rfl (Nat.le_of_ble_eq_true rfl) (by decide) rfl rfl) ?_
  refine r_val (v := .bool _) (v_assign (.inl rfl) (noOwn_flat rfl)) rfl rfl (by decide) ?_
  refine r_nil ?_
  refine a_seq ?_
  refine a_seq ?_
  refine a_region ?_
  refine r_val (v := .bool _) (v_move (.inl rfl) (noOwn_flat rfl)) rfl rfl (by decide) ?_
  refine r_val (v := .bool _) (v_not (.inl rfl)) rfl rfl (by decide) ?_
  refine r_val (v := .bool _) (v_move (.inl rfl) (noOwn_flat rfl)) rfl rfl (by decide) ?_
  refine r_gval (v := .agg [.int _ _, .sl _ _]) (v_load_rpa1 ta31 (.inl rfl) rfl rfl (fun _ => rfl) rfl) rfl rfl rfl (by decide) (.inl ⟨_, rfl, rfl⟩) rfl (by decide) ?_
  refine r_guard (v := .bool _) (q_call (vs := [.agg [.int _ _, .sl _ _]]) (args := [.agg [.int .i64 _, .sl _ _]]) hb104 ⟨.inr ⟨_, rfl, fun h => h⟩, trivial⟩ rfl (fun hA => isCnf_c vars L hk) rfl rfl) rfl rfl rfl (by decide) (.inl ⟨_, rfl, rfl⟩) rfl (by decide) ?_
  refine r_gval (v := .bool _) (v_not (.inr ⟨_, rfl, fun h => h⟩)) rfl rfl rfl (by decide) (.inl ⟨_, rfl, rfl⟩) rfl (by decide) ?_
  refine r_val (v := .bool _) (v_pick (.inl rfl) (.inl rfl) (.inr ⟨_, rfl, fun h h2 => by simp_all⟩)) rfl rfl (by decide) ?_
  refine r_nil ?_
  refine a_cond rfl (fun ht24 => ?_) (fun ht24 => ?_)
  ·
    skip
    refine a_seq ?_
    refine a_region ?_
    refine r_val (v := .nilp) (v_assign (.inl rfl) (noOwn_flat rfl)) rfl rfl (by decide) ?_
    refine r_val (v := .bool _) (v_assign (.inl rfl) (noOwn_flat rfl)) rfl rfl (by decide) ?_
    refine r_nil ?_
    refine a_ret ?_
    refine retL (rs := [.tmp 4, .tmp 5]) [(4, _), (5, _)] ⟨Weak.rfl, Weak.rfl, trivial⟩ rfl Try.results55 (by decide) ⟨by decide, by decide, rfl⟩ (by decide) (by decide) (l2_eq ?_ (bool_eq ?_)) rfl
    all_goals rfl
  ·
    skip
    refine a_skip ?_
    refine a_seq ?_
    exfalso
    unfold aOk at hno; cases h1 : prime p vars <;> cases h2 : cnfB vars L <;> simp_all
end Go.Av
namespace Go.Av
open Go Go.Proofs Go.Sort
set_option maxRecDepth 10000
theorem es86 : elemSize Try.prog 86 = some 1 := by kernel_rfl
theorem fo88_0 : fieldOff Try.prog 88 0 = some 0 := by kernel_rfl
theorem ta91 : tyAgg Try.prog 91 = some (false, 1) := by kernel_rfl
end Go.Av
namespace Go.Av
open Go Go.Proofs Go.Sort
set_option maxRecDepth 10000
theorem hb112 : hasBody Try.prog 112 = true := by kernel_rfl
theorem hb121 : hasBody Try.prog 121 = true := by kernel_rfl
end Go.Av
namespace Go.Av
open Go Go.Proofs Go.Sort
set_option maxRecDepth 10000
theorem hb55 : hasBody Try.prog 55 = true := by kernel_rfl
end Go.Av
namespace Go.Av
open Go Go.Proofs Go.Sort
set_option maxRecDepth 10000
theorem hb12 : hasBody Try.prog 12 = true := by kernel_rfl
theorem hb15 : hasBody Try.prog 15 = true := by kernel_rfl
theorem hb19 : hasBody Try.prog 19 = true := by kernel_rfl
theorem ta24 : tyAgg Try.prog 24 = some (true, 2) := by kernel_rfl
theorem un4 : Try.prog.underlying 4 = some .bool := by kernel_rfl

end Go.Av
namespace Go.Av
open Go
def iS (A B : List Int) : Nat → Int
  | 0 => 0
  | i + 1 => iS A B i + gd A i * gd B i
theorem iS_bd {p : Int} {A B : List Int} (hp : p ≤ 5) (hA : Bd p A) (hB : Bd p B) : ∀ i, 0 ≤ iS A B i ∧ iS A B i ≤ 16 * (i : Int)
  | 0 => by simp [iS]
  | i + 1 => by
    have h := iS_bd hp hA hB i
    have := mul_bd (hA i) (hB i) hp
    simp only [iS]
    omega
def funB (p vars : Int) (L : List (List Int)) (xs : List Int) : Bool := aOk p vars L && (decide (xs.length = dn vars) && vals p xs)
theorem funB_spec {p vars : Int} {L : List (List Int)} {xs : List Int} (h : funB p vars L xs = true) : aOk p vars L = true ∧ xs.length = dn vars ∧ vals p xs = true := by
  unfold funB at h; simpa using h
end Go.Av
