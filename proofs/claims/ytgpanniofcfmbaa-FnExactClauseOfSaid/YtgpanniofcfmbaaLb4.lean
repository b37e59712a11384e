/- Lemmas, part 4. -/
import Derived.Test.YtgpanniofcfmbaaLb3
import Derived.Sort.LotD5
set_option linter.unusedVariables false
set_option linter.unusedSimpArgs false
namespace Go.Av
open Go Go.Proofs Go.Sort
set_option maxRecDepth 10000
theorem hb174 : hasBody Try.prog 174 = true := by kernel_rfl

theorem choosePivot_c (f : Nat) (hb : hasBody Try.prog f = true) (cf : Int → Int → Int) (hc : ∀ x y, ACall Try.prog f [.int .i64 x, .int .i64 y] [] (.int .i64 (cf x y)) []) (d : Array Int) (n a b : Nat) (hd : d.size = n) (hab : a < b ∧ b ≤ n) (hn : n ≤ 1152921504606846976) : ACall Try.prog 163 [.sl (acells d) n, .int .i64 ((a : Nat) : Int), .int .i64 ((b : Nat) : Int), .fn f [] []] [] (.tup [.int .i64 (((choosePivot (ltc cf) d a b).1 : Nat) : Int), .int .i64 ((hintN (choosePivot (ltc cf) d a b).2 : Nat) : Int)]) [] := by
  refine ACall.intro Try.func163 rfl (N := 63) rfl (by decide) (by simp) ?_
  refine a_seq ?_
  refine a_region ?_
  refine r_val (v := .int _ _) (v_assign (.inl rfl) (noOwn_flat rfl)) rfl rfl (by decide) ?_
  refine r_val (v := .int _ _) (v_assign (.inl rfl) (noOwn_flat rfl)) rfl rfl (by decide) ?_
  refine r_nil ?_
  refine a_seq ?_
  refine a_region ?_
  refine r_val (v := .int _ _) (v_move (.inl rfl) (noOwn_flat rfl)) rfl rfl (by decide) ?_
  refine r_val (v := .int _ _) (v_move (.inl rfl) (noOwn_flat rfl)) rfl rfl (by decide) ?_
  refine r_val (v := .int .i64 ((b - a : Nat) : Int)) ((v_sub (.inl rfl) (.inl rfl) (fun _ => by omega)).cast (int_eq (by omega))) rfl rfl (by decide) ?_
  refine r_val (v := .int _ _) (v_assign (.inl rfl) (noOwn_flat rfl)) rfl rfl (by decide) ?_
  refine r_nil ?_
  refine a_seq ?_
  refine a_region ?_
  refine r_new (v := .op [.int _ _]) (q_alloc zc3) rfl rfl (by decide) ?_
  refine r_nil ?_
  refine a_seq ?_
  refine a_pre (ent_eq (t := 11) (v' := .op [.int .i64 ((0 : Nat) : Int)]) (Weak.of_eq rfl)) ?_
  refine a_region ?_
  refine r_val (v := .int _ _) (v_move (.inl rfl) (noOwn_flat rfl)) rfl rfl (by decide) ?_
  refine r_val (v := .int _ _) (v_move (.inl rfl) (noOwn_flat rfl)) rfl rfl (by decide) ?_
  refine r_val (v := .int .i64 (((b - a) / 4 : Nat) : Int)) ((v_quo (.inl rfl) (.inl rfl) (fun _ => by omega)).cast (int_eq (by omega))) rfl rfl (by decide) ?_
  refine r_val (v := .int .i64 (((b - a) / 4 * 1 : Nat) : Int)) ((v_mul (.inl rfl) (.inl rfl) (fun _ => by omega)).cast (int_eq (by omega))) rfl rfl (by decide) ?_
  refine r_val (v := .int .i64 ((a + (b - a) / 4 * 1 : Nat) : Int)) ((v_add (.inl rfl) (.inl rfl) (fun _ => by omega)).cast (int_eq (by omega))) rfl rfl (by decide) ?_
  refine r_val (v := .int _ _) (v_assign (.inl rfl) (noOwn_flat rfl)) rfl rfl (by decide) ?_
  refine r_nil ?_
  refine a_seq ?_
  refine a_region ?_
  refine r_val (v := .int _ _) (v_move (.inl rfl) (noOwn_flat rfl)) rfl rfl (by decide) ?_
  refine r_val (v := .int _ _) (v_move (.inl rfl) (noOwn_flat rfl)) rfl rfl (by decide) ?_
  refine r_val (v := .int .i64 (((b - a) / 4 : Nat) : Int)) ((v_quo (.inl rfl) (.inl rfl) (fun _ => by omega)).cast (int_eq (by omega))) rfl rfl (by decide) ?_
  refine r_val (v := .int .i64 (((b - a) / 4 * 2 : Nat) : Int)) ((v_mul (.inl rfl) (.inl rfl) (fun _ => by omega)).cast (int_eq (by omega))) rfl rfl (by decide) ?_
  refine r_val (v := .int .i64 ((a + (b - a) / 4 * 2 : Nat) : Int)) ((v_add (.inl rfl) (.inl rfl) (fun _ => by omega)).cast (int_eq (by omega))) rfl rfl (by decide) ?_
  refine r_val (v := .int _ _) (v_assign (.inl rfl) (noOwn_flat rfl)) rfl rfl (by decide) ?_
  refine r_nil ?_
  refine a_seq ?_
  refine a_region ?_
  refine r_val (v := .int _ _) (v_move (.inl rfl) (noOwn_flat rfl)) rfl rfl (by decide) ?_
  refine r_val (v := .int _ _) (v_move (.inl rfl) (noOwn_flat rfl)) rfl rfl (by decide) ?_
  refine r_val (v := .int .i64 (((b - a) / 4 : Nat) : Int)) ((v_quo (.inl rfl) (.inl rfl) (fun _ => by omega)).cast (int_eq (by omega))) rfl rfl (by decide) ?_
  refine r_val (v := .int .i64 (((b - a) / 4 * 3 : Nat) : Int)) ((v_mul (.inl rfl) (.inl rfl) (fun _ => by omega)).cast (int_eq (by omega))) rfl rfl (by decide) ?_
  refine r_val (v := .int .i64 ((a + (b - a) / 4 * 3 : Nat) : Int)) ((v_add (.inl rfl) (.inl rfl) (fun _ => by omega)).cast (int_eq (by omega))) rfl rfl (by decide) ?_
  refine r_val (v := .int _ _) (v_assign (.inl rfl) (noOwn_flat rfl)) rfl rfl (by decide) ?_
  refine r_nil ?_
  refine a_seq ?_
  refine a_seq ?_
  refine a_region ?_
  refine r_val (v := .int _ _) (v_move (.inl rfl) (noOwn_flat rfl)) rfl rfl (by decide) ?_
  refine r_val (v := .bool _) (v_geq (.inl rfl) (.inl rfl)) rfl rfl (by decide) ?_
  refine r_nil ?_
  refine a_cond rfl (fun ht34 => ?_) (fun ht34 => ?_)
  ·
    skip
    refine a_seq ?_
    refine a_seq ?_
    have h8 : b - a ≥ 8 := (by simp at ht34; omega)
    refine a_region ?_
    refine r_val (v := .int _ _) (v_move (.inl rfl) (noOwn_flat rfl)) rfl rfl (by decide) ?_
    refine r_val (v := .bool _) (v_geq (.inl rfl) (.inl rfl)) rfl rfl (by decide) ?_
    refine r_nil ?_
    refine a_cond rfl (fun ht36 => ?_) (fun ht36 => ?_)
    ·
      skip
      refine a_seq ?_
      have h50 : b - a ≥ 50 := (by simp at ht36; omega)
      have m1 : (medianAdjacent (ltc cf) d (a + (b - a) / 4 * 1) 0).1 < n ∧ (medianAdjacent (ltc cf) d (a + (b - a) / 4 * 1) 0).2 ≤ 0 + 3 := med_bd (by omega) (by omega) (by omega)
      have m2 : (medianAdjacent (ltc cf) d (a + (b - a) / 4 * 2) (medianAdjacent (ltc cf) d (a + (b - a) / 4 * 1) 0).2).1 < n ∧ (medianAdjacent (ltc cf) d (a + (b - a) / 4 * 2) (medianAdjacent (ltc cf) d (a + (b - a) / 4 * 1) 0).2).2 ≤ (medianAdjacent (ltc cf) d (a + (b - a) / 4 * 1) 0).2 + 3 := med_bd (by omega) (by omega) (by omega)
      have m3 : (medianAdjacent (ltc cf) d (a + (b - a) / 4 * 3) (medianAdjacent (ltc cf) d (a + (b - a) / 4 * 2) (medianAdjacent (ltc cf) d (a + (b - a) / 4 * 1) 0).2).2).1 < n ∧ (medianAdjacent (ltc cf) d (a + (b - a) / 4 * 3) (medianAdjacent (ltc cf) d (a + (b - a) / 4 * 2) (medianAdjacent (ltc cf) d (a + (b - a) / 4 * 1) 0).2).2).2 ≤ (medianAdjacent (ltc cf) d (a + (b - a) / 4 * 2) (medianAdjacent (ltc cf) d (a + (b - a) / 4 * 1) 0).2).2 + 3 := med_bd (by omega) (by omega) (by omega)
      refine a_region ?_
      refine r_val (v := .sl _ _) (v_move (.inl rfl) (noOwn_flat rfl)) rfl rfl (by decide) ?_
      refine r_val (v := .int _ _) (v_move (.inl rfl) (noOwn_flat rfl)) rfl rfl (by decide) ?_
      refine r_val (v := .fn _ _ _) (v_mv rfl) rfl rfl (by decide) ?_
      refine r_step rfl (o_callIOp (q := (11, [])) (vs := [.sl _ _, .int _ _, .rp _ _, .fn _ _ _]) (args := [.sl _ _, .int .i64 _, .rp (INH, []) _, .fn _ _ _]) (cs0 := [.int _ _]) (cs1 := [.int _ _]) (res := .int _ _) rfl hb174 rfl (by decide) ⟨.inl rfl, .inl rfl, .inl rfl, .inl rfl, trivial⟩ rfl rfl (medianAdj_c f hb cf hc d n (a + (b - a) / 4 * 1) 0 hd (by omega) hn) rfl rfl rfl rfl rfl (Nat.le_of_ble_eq_true rfl) (by decide) rfl) ?_
      refine r_val (v := .int _ _) (v_assign (.inl rfl) (noOwn_flat rfl)) rfl rfl (by decide) ?_
      refine r_nil ?_
      refine a_seq ?_
      refine a_pre (ent_look (L := [(0, .sl _ _), (3, .fn _ _ _), (8, .int _ _), (9, .int _ _), (11, .op [.int _ _]), (12, .int _ _), (13, .int _ _), (14, .int _ _)]) ⟨Weak.rfl, Weak.rfl, Weak.rfl, Weak.rfl, Weak.rfl, Weak.rfl, Weak.rfl, Weak.rfl, trivial⟩) ?_
      refine a_region ?_
      refine r_val (v := .sl _ _) (v_move (.inl rfl) (noOwn_flat rfl)) rfl rfl (by decide) ?_
      refine r_val (v := .int _ _) (v_move (.inl rfl) (noOwn_flat rfl)) rfl rfl (by decide) ?_
      refine r_val (v := .fn _ _ _) (v_mv rfl) rfl rfl (by decide) ?_
      refine r_step rfl (o_callIOp (q := (11, [])) (vs := [.sl _ _, .int _ _, .rp _ _, .fn _ _ _]) (args := [.sl _ _, .int .i64 _, .rp (INH, []) _, .fn _ _ _]) (cs0 := [.int _ _]) (cs1 := [.int _ _]) (res := .int _ _) rfl hb174 rfl (by decide) ⟨.inl rfl, .inl rfl, .inl rfl, .inl rfl, trivial⟩ rfl rfl (medianAdj_c f hb cf hc d n (a + (b - a) / 4 * 2) _ hd (by omega) hn) rfl rfl rfl rfl rfl (Nat.le_of_ble_eq_true rfl) (by decide) rfl) ?_
      refine r_val (v := .int _ _) (v_assign (.inl rfl) (noOwn_flat rfl)) rfl rfl (by decide) ?_
      refine r_nil ?_
      refine a_region ?_
      refine r_val (v := .sl _ _) (v_move (.inl rfl) (noOwn_flat rfl)) rfl rfl (by decide) ?_
      refine r_val (v := .int _ _) (v_move (.inl rfl) (noOwn_flat rfl)) rfl rfl (by decide) ?_
      refine r_val (v := .fn _ _ _) (v_mv rfl) rfl rfl (by decide) ?_
      refine r_step rfl (o_callIOp (q := (11, [])) (vs := [.sl _ _, .int _ _, .rp _ _, .fn _ _ _]) (args := [.sl _ _, .int .i64 _, .rp (INH, []) _, .fn _ _ _]) (cs0 := [.int _ _]) (cs1 := [.int _ _]) (res := .int _ _) rfl hb174 rfl (by decide) ⟨.inl rfl, .inl rfl, .inl rfl, .inl rfl, trivial⟩ rfl rfl (medianAdj_c f hb cf hc d n (a + (b - a) / 4 * 3) _ hd (by omega) hn) rfl rfl rfl rfl rfl (Nat.le_of_ble_eq_true rfl) (by decide) rfl) ?_
      refine r_val (v := .int _ _) (v_assign (.inl rfl) (noOwn_flat rfl)) rfl rfl (by decide) ?_
      refine r_nil ?_
      refine a_region ?_
      refine r_val (v := .sl _ _) (v_move (.inl rfl) (noOwn_flat rfl)) rfl rfl (by decide) ?_
      refine r_val (v := .int _ _) (v_move (.inl rfl) (noOwn_flat rfl)) rfl rfl (by decide) ?_
      refine r_val (v := .int _ _) (v_move (.inl rfl) (noOwn_flat rfl)) rfl rfl (by decide) ?_
      refine r_val (v := .int _ _) (v_move (.inl rfl) (noOwn_flat rfl)) rfl rfl (by decide) ?_
      refine r_val (v := .fn _ _ _) (v_mv rfl) rfl rfl (by decide) ?_
      refine r_step rfl (o_callIOp (q := (11, [])) (vs := [.sl _ _, .int _ _, .int _ _, .int _ _, .rp _ _, .fn _ _ _]) (args := [.sl _ _, .int .i64 _, .int .i64 _, .int .i64 _, .rp (INH, []) _, .fn _ _ _]) (cs0 := [.int _ _]) (cs1 := [.int _ _]) (res := .int _ _) rfl hb175 rfl (by decide) ⟨.inl rfl, .inl rfl, .inl rfl, .inl rfl, .inl rfl, .inl rfl, trivial⟩ rfl rfl (median_c f hb cf hc d n _ _ _ _ hd (by omega) hn) rfl rfl rfl rfl rfl (Nat.le_of_ble_eq_true rfl) (by decide) rfl) ?_
      refine r_val (v := .int _ _) (v_assign (.inl rfl) (noOwn_flat rfl)) rfl rfl (by decide) ?_
      refine r_nil ?_
      refine a_seq ?_
      refine a_pre (ent_eq (t := 13) (v' := .int .i64 (((cpR (ltc cf) d a b).1 : Nat) : Int)) (Weak.of_eq (int_eq (congrArg Nat.cast (by unfold cpR; first | (rw [if_pos h8, if_pos h50]; done) | (rw [if_pos h8, if_neg (by simp at ht36; omega)]; done) | (rw [if_neg (by simp at ht34; omega)])))))) ?_
      refine a_pre (ent_eq (t := 11) (v' := .op [.int .i64 (((cpR (ltc cf) d a b).2 : Nat) : Int)]) (Weak.of_eq (congrArg (fun z : Nat => AV.op [.int .i64 (z : Int)]) (by unfold cpR; first | (rw [if_pos h8, if_pos h50]; done) | (rw [if_pos h8, if_neg (by simp at ht36; omega)]; done) | (rw [if_neg (by simp at ht34; omega)]))))) ?_
      refine a_region ?_
      refine r_val (v := .int _ _) (v_load_rp1 ta3 (.inl rfl) rfl (fun _ => rfl) rfl) rfl rfl (by decide) ?_
      refine r_nil ?_
      refine a_block ?_
      refine a_seq ?_
      refine a_region ?_
      refine r_val (v := .bool _) (v_eql (.inl rfl) (.inl rfl)) rfl rfl (by decide) ?_
      refine r_val (v := .bool _) (v_assign (.inl rfl) (noOwn_flat rfl)) rfl rfl (by decide) ?_
      refine r_nil ?_
      refine a_cond rfl (fun ht57 => ?_) (fun ht57 => ?_)
      ·
        skip
        refine a_seq ?_
        refine a_region ?_
        refine r_val (v := .int _ _) (v_move (.inl rfl) (noOwn_flat rfl)) rfl rfl (by decide) ?_
        refine r_val (v := .int _ _) (v_assign (.inl rfl) (noOwn_flat rfl)) rfl rfl (by decide) ?_
        refine r_val (v := .int _ _) (v_assign (.inl rfl) (noOwn_flat rfl)) rfl rfl (by decide) ?_
        refine r_nil ?_
        refine a_ret ?_
        refine retL (rs := [.tmp 8, .tmp 9]) [(8, _), (9, _)] ⟨Weak.rfl, Weak.rfl, trivial⟩ rfl Try.results163 (by decide) ⟨by decide, by decide, rfl⟩ (by decide) (by decide) (l2_eq (int_eq ?_) (int_eq ?_)) rfl
        · rw [cp_eq]
        · rw [cp_eq]; dsimp only; rw [if_pos (by simp at ht57; omega)]; rfl
      ·
        skip
        refine a_seq ?_
        refine a_region ?_
        refine r_val (v := .bool _) (v_eql (.inl rfl) (.inl rfl)) rfl rfl (by decide) ?_
        refine r_val (v := .bool _) (v_assign (.inl rfl) (noOwn_flat rfl)) rfl rfl (by decide) ?_
        refine r_nil ?_
        refine a_cond rfl (fun ht60 => ?_) (fun ht60 => ?_)
        ·
          skip
          refine a_seq ?_
          refine a_pre (ent_look (L := [(8, .int _ _), (9, .int _ _), (13, .int _ _)]) ⟨Weak.rfl, Weak.rfl, Weak.rfl, trivial⟩) ?_
          refine a_region ?_
          refine r_val (v := .int _ _) (v_move (.inl rfl) (noOwn_flat rfl)) rfl rfl (by decide) ?_
          refine r_val (v := .int _ _) (v_assign (.inl rfl) (noOwn_flat rfl)) rfl rfl (by decide) ?_
          refine r_val (v := .int _ _) (v_assign (.inl rfl) (noOwn_flat rfl)) rfl rfl (by decide) ?_
          refine r_nil ?_
          refine a_ret ?_
          refine retL (rs := [.tmp 8, .tmp 9]) [(8, _), (9, _)] ⟨Weak.rfl, Weak.rfl, trivial⟩ rfl Try.results163 (by decide) ⟨by decide, by decide, rfl⟩ (by decide) (by decide) (l2_eq (int_eq ?_) (int_eq ?_)) rfl
          · rw [cp_eq]
          · rw [cp_eq]; dsimp only; rw [if_neg (by simp at ht57; omega), if_pos (by simp at ht60; omega)]; rfl
        ·
          skip
          refine a_seq ?_
          refine a_pre (ent_look (L := [(8, .int _ _), (9, .int _ _), (13, .int _ _)]) ⟨Weak.rfl, Weak.rfl, Weak.rfl, trivial⟩) ?_
          refine a_region ?_
          refine r_val (v := .int _ _) (v_move (.inl rfl) (noOwn_flat rfl)) rfl rfl (by decide) ?_
          refine r_val (v := .int _ _) (v_assign (.inl rfl) (noOwn_flat rfl)) rfl rfl (by decide) ?_
          refine r_val (v := .int _ _) (v_assign (.inl rfl) (noOwn_flat rfl)) rfl rfl (by decide) ?_
          refine r_nil ?_
          refine a_ret ?_
          refine retL (rs := [.tmp 8, .tmp 9]) [(8, _), (9, _)] ⟨Weak.rfl, Weak.rfl, trivial⟩ rfl Try.results163 (by decide) ⟨by decide, by decide, rfl⟩ (by decide) (by decide) (l2_eq (int_eq ?_) (int_eq ?_)) rfl
          · rw [cp_eq]
          · rw [cp_eq]; dsimp only; rw [if_neg (by simp at ht57; omega), if_neg (by simp at ht60; omega)]; rfl
    ·
      skip
      refine a_skip ?_
      refine a_region ?_
      refine r_val (v := .sl _ _) (v_move (.inl rfl) (noOwn_flat rfl)) rfl rfl (by decide) ?_
      refine r_val (v := .int _ _) (v_move (.inl rfl) (noOwn_flat rfl)) rfl rfl (by decide) ?_
      refine r_val (v := .int _ _) (v_move (.inl rfl) (noOwn_flat rfl)) rfl rfl (by decide) ?_
      refine r_val (v := .int _ _) (v_move (.inl rfl) (noOwn_flat rfl)) rfl rfl (by decide) ?_
      refine r_val (v := .fn _ _ _) (v_mv rfl) rfl rfl (by decide) ?_
      refine r_step rfl (o_callIOp (q := (11, [])) (vs := [.sl _ _, .int _ _, .int _ _, .int _ _, .rp _ _, .fn _ _ _]) (args := [.sl _ _, .int .i64 _, .int .i64 _, .int .i64 _, .rp (INH, []) _, .fn _ _ _]) (cs0 := [.int _ _]) (cs1 := [.int _ _]) (res := .int _ _) rfl hb175 rfl (by decide) ⟨.inl rfl, .inl rfl, .inl rfl, .inl rfl, .inl rfl, .inl rfl, trivial⟩ rfl rfl (median_c f hb cf hc d n _ _ _ _ hd (by omega) hn) rfl rfl rfl rfl rfl (Nat.le_of_ble_eq_true rfl) (by decide) rfl) ?_
      refine r_val (v := .int _ _) (v_assign (.inl rfl) (noOwn_flat rfl)) rfl rfl (by decide) ?_
      refine r_nil ?_
      refine a_seq ?_
      refine a_pre (ent_look (L := [(8, .int _ _), (9, .int _ _), (11, .op [.int _ _]), (13, .int _ _)]) ⟨Weak.rfl, Weak.rfl, Weak.rfl, Weak.rfl, trivial⟩) ?_
      refine a_pre (ent_eq (t := 13) (v' := .int .i64 (((cpR (ltc cf) d a b).1 : Nat) : Int)) (Weak.of_eq (int_eq (congrArg Nat.cast (by unfold cpR; first | (rw [if_pos h8, if_pos h50]; done) | (rw [if_pos h8, if_neg (by simp at ht36; omega)]; done) | (rw [if_neg (by simp at ht34; omega)])))))) ?_
      refine a_pre (ent_eq (t := 11) (v' := .op [.int .i64 (((cpR (ltc cf) d a b).2 : Nat) : Int)]) (Weak.of_eq (congrArg (fun z : Nat => AV.op [.int .i64 (z : Int)]) (by unfold cpR; first | (rw [if_pos h8, if_pos h50]; done) | (rw [if_pos h8, if_neg (by simp at ht36; omega)]; done) | (rw [if_neg (by simp at ht34; omega)]))))) ?_
      refine a_region ?_
      refine r_val (v := .int _ _) (v_load_rp1 ta3 (.inl rfl) rfl (fun _ => rfl) rfl) rfl rfl (by decide) ?_
      refine r_nil ?_
      refine a_block ?_
      refine a_seq ?_
      refine a_region ?_
      refine r_val (v := .bool _) (v_eql (.inl rfl) (.inl rfl)) rfl rfl (by decide) ?_
      refine r_val (v := .bool _) (v_assign (.inl rfl) (noOwn_flat rfl)) rfl rfl (by decide) ?_
      refine r_nil ?_
      refine a_cond rfl (fun ht57 => ?_) (fun ht57 => ?_)
      ·
        skip
        refine a_seq ?_
        refine a_region ?_
        refine r_val (v := .int _ _) (v_move (.inl rfl) (noOwn_flat rfl)) rfl rfl (by decide) ?_
        refine r_val (v := .int _ _) (v_assign (.inl rfl) (noOwn_flat rfl)) rfl rfl (by decide) ?_
        refine r_val (v := .int _ _) (v_assign (.inl rfl) (noOwn_flat rfl)) rfl rfl (by decide) ?_
        refine r_nil ?_
        refine a_ret ?_
        refine retL (rs := [.tmp 8, .tmp 9]) [(8, _), (9, _)] ⟨Weak.rfl, Weak.rfl, trivial⟩ rfl Try.results163 (by decide) ⟨by decide, by decide, rfl⟩ (by decide) (by decide) (l2_eq (int_eq ?_) (int_eq ?_)) rfl
        · rw [cp_eq]
        · rw [cp_eq]; dsimp only; rw [if_pos (by simp at ht57; omega)]; rfl
      ·
        skip
        refine a_seq ?_
        refine a_region ?_
        refine r_val (v := .bool _) (v_eql (.inl rfl) (.inl rfl)) rfl rfl (by decide) ?_
        refine r_val (v := .bool _) (v_assign (.inl rfl) (noOwn_flat rfl)) rfl rfl (by decide) ?_
        refine r_nil ?_
        refine a_cond rfl (fun ht60 => ?_) (fun ht60 => ?_)
        ·
          skip
          refine a_seq ?_
          refine a_region ?_
          refine r_val (v := .int _ _) (v_move (.inl rfl) (noOwn_flat rfl)) rfl rfl (by decide) ?_
          refine r_val (v := .int _ _) (v_assign (.inl rfl) (noOwn_flat rfl)) rfl rfl (by decide) ?_
          refine r_val (v := .int _ _) (v_assign (.inl rfl) (noOwn_flat rfl)) rfl rfl (by decide) ?_
          refine r_nil ?_
          refine a_ret ?_
          refine retL (rs := [.tmp 8, .tmp 9]) [(8, _), (9, _)] ⟨Weak.rfl, Weak.rfl, trivial⟩ rfl Try.results163 (by decide) ⟨by decide, by decide, rfl⟩ (by decide) (by decide) (l2_eq (int_eq ?_) (int_eq ?_)) rfl
          · rw [cp_eq]
          · rw [cp_eq]; dsimp only; rw [if_neg (by simp at ht57; omega), if_pos (by simp at ht60; omega)]; rfl
        ·
          skip
          refine a_seq ?_
          refine a_region ?_
          refine r_val (v := .int _ _) (v_move (.inl rfl) (noOwn_flat rfl)) rfl rfl (by decide) ?_
          refine r_val (v := .int _ _) (v_assign (.inl rfl) (noOwn_flat rfl)) rfl rfl (by decide) ?_
          refine r_val (v := .int _ _) (v_assign (.inl rfl) (noOwn_flat rfl)) rfl rfl (by decide) ?_
          refine r_nil ?_
          refine a_ret ?_
          refine retL (rs := [.tmp 8, .tmp 9]) [(8, _), (9, _)] ⟨Weak.rfl, Weak.rfl, trivial⟩ rfl Try.results163 (by decide) ⟨by decide, by decide, rfl⟩ (by decide) (by decide) (l2_eq (int_eq ?_) (int_eq ?_)) rfl
          · rw [cp_eq]
          · rw [cp_eq]; dsimp only; rw [if_neg (by simp at ht57; omega), if_neg (by simp at ht60; omega)]; rfl
  ·
    skip
    refine a_skip ?_
    refine a_seq ?_
    refine a_pre (ent_eq (t := 13) (v' := .int .i64 (((cpR (ltc cf) d a b).1 : Nat) : Int)) (Weak.of_eq (int_eq (congrArg Nat.cast (by unfold cpR; first | (rw [if_pos h8, if_pos h50]; done) | (rw [if_pos h8, if_neg (by simp at ht36; omega)]; done) | (rw [if_neg (by simp at ht34; omega)])))))) ?_
    refine a_pre (ent_eq (t := 11) (v' := .op [.int .i64 (((cpR (ltc cf) d a b).2 : Nat) : Int)]) (Weak.of_eq (congrArg (fun z : Nat => AV.op [.int .i64 (z : Int)]) (by unfold cpR; first | (rw [if_pos h8, if_pos h50]; done) | (rw [if_pos h8, if_neg (by simp at ht36; omega)]; done) | (rw [if_neg (by simp at ht34; omega)]))))) ?_
    refine a_region ?_
    refine r_val (v := .int _ _) (v_load_rp1 ta3 (.inl rfl) rfl (fun _ => rfl) rfl) rfl rfl (by decide) ?_
    refine r_nil ?_
    refine a_block ?_
    refine a_seq ?_
    refine a_region ?_
    refine r_val (v := .bool _) (v_eql (.inl rfl) (.inl rfl)) rfl rfl (by decide) ?_
    refine r_val (v := .bool _) (v_assign (.inl rfl) (noOwn_flat rfl)) rfl rfl (by decide) ?_
    refine r_nil ?_
    refine a_cond rfl (fun ht57 => ?_) (fun ht57 => ?_)
    ·
      skip
      refine a_seq ?_
      refine a_pre (ent_look (L := [(8, .int _ _), (9, .int _ _), (13, .int _ _), (55, .int _ _)]) ⟨Weak.rfl, Weak.rfl, Weak.rfl, Weak.rfl, trivial⟩) ?_
      refine a_region ?_
      refine r_val (v := .int _ _) (v_move (.inl rfl) (noOwn_flat rfl)) rfl rfl (by decide) ?_
      refine r_val (v := .int _ _) (v_assign (.inl rfl) (noOwn_flat rfl)) rfl rfl (by decide) ?_
      refine r_val (v := .int _ _) (v_assign (.inl rfl) (noOwn_flat rfl)) rfl rfl (by decide) ?_
      refine r_nil ?_
      refine a_ret ?_
      refine retL (rs := [.tmp 8, .tmp 9]) [(8, _), (9, _)] ⟨Weak.rfl, Weak.rfl, trivial⟩ rfl Try.results163 (by decide) ⟨by decide, by decide, rfl⟩ (by decide) (by decide) (l2_eq (int_eq ?_) (int_eq ?_)) rfl
      · rw [cp_eq]
      · rw [cp_eq]; dsimp only; rw [if_pos (by simp at ht57; omega)]; rfl
    ·
      skip
      refine a_seq ?_
      refine a_pre (ent_look (L := [(8, .int _ _), (9, .int _ _), (13, .int _ _), (55, .int _ _)]) ⟨Weak.rfl, Weak.rfl, Weak.rfl, Weak.rfl, trivial⟩) ?_
      refine a_region ?_
      refine r_val (v := .bool _) (v_eql (.inl rfl) (.inl rfl)) rfl rfl (by decide) ?_
      refine r_val (v := .bool _) (v_assign (.inl rfl) (noOwn_flat rfl)) rfl rfl (by decide) ?_
      refine r_nil ?_
      refine a_cond rfl (fun ht60 => ?_) (fun ht60 => ?_)
      ·
        skip
        refine a_seq ?_
        refine a_region ?_
        refine r_val (v := .int _ _) (v_move (.inl rfl) (noOwn_flat rfl)) rfl rfl (by decide) ?_
        refine r_val (v := .int _ _) (v_assign (.inl rfl) (noOwn_flat rfl)) rfl rfl (by decide) ?_
        refine r_val (v := .int _ _) (v_assign (.inl rfl) (noOwn_flat rfl)) rfl rfl (by decide) ?_
        refine r_nil ?_
        refine a_ret ?_
        refine retL (rs := [.tmp 8, .tmp 9]) [(8, _), (9, _)] ⟨Weak.rfl, Weak.rfl, trivial⟩ rfl Try.results163 (by decide) ⟨by decide, by decide, rfl⟩ (by decide) (by decide) (l2_eq (int_eq ?_) (int_eq ?_)) rfl
        · rw [cp_eq]
        · rw [cp_eq]; dsimp only; rw [if_neg (by simp at ht57; omega), if_pos (by simp at ht60; omega)]; rfl
      ·
        skip
        refine a_seq ?_
        refine a_region ?_
        refine r_val (v := .int _ _) (v_move (.inl rfl) (noOwn_flat rfl)) rfl rfl (by decide) ?_
        refine r_val (v := .int _ _) (v_assign (.inl rfl) (noOwn_flat rfl)) rfl rfl (by decide) ?_
        refine r_val (v := .int _ _) (v_assign (.inl rfl) (noOwn_flat rfl)) rfl rfl (by decide) ?_
        refine r_nil ?_
        refine a_ret ?_
        refine retL (rs := [.tmp 8, .tmp 9]) [(8, _), (9, _)] ⟨Weak.rfl, Weak.rfl, trivial⟩ rfl Try.results163 (by decide) ⟨by decide, by decide, rfl⟩ (by decide) (by decide) (l2_eq (int_eq ?_) (int_eq ?_)) rfl
        · rw [cp_eq]
        · rw [cp_eq]; dsimp only; rw [if_neg (by simp at ht57; omega), if_neg (by simp at ht60; omega)]; rfl
end Go.Av
namespace Go.Av
open Go Go.Proofs Go.Sort
set_option maxRecDepth 10000
theorem ta167 : tyAgg Try.prog 167 = some (false, 1) := by kernel_rfl

theorem next_c (r : Nat) (h : r < 18446744073709551616) : ACall Try.prog 173 [.rp (INH, []) 0] [.op [.int .u64 ((r : Nat) : Int)]] (.int .u64 ((xorNextN r : Nat) : Int)) [.op [.int .u64 ((xorNextN r : Nat) : Int)]] := by
  have ha : (r ^^^ (r * 8192 % 18446744073709551616)) < 2 ^ 64 := Nat.xor_lt_two_pow (by omega) (by omega)
  have hb0 : ((r ^^^ (r * 8192 % 18446744073709551616)) ^^^ ((r ^^^ (r * 8192 % 18446744073709551616)) / 128)) < 2 ^ 64 := Nat.xor_lt_two_pow ha (by omega)
  refine ACall.intro Try.func173 rfl (N := 33) rfl (by decide) (by simp) ?_
  refine a_seq ?_
  refine a_region ?_
  refine r_val (v := .int _ _) (v_assign (.inl rfl) (noOwn_flat rfl)) rfl rfl (by decide) ?_
  refine r_nil ?_
  refine a_seq ?_
  refine a_region_w [(3, true), (4, true), (5, true), (6, true), (7, true), (8, true), (9, true), (10, true), (11, true), (INH, false)] mixed (by kernel_rfl) ?_
  refine w_val (v := .rp _ _) (v_move (.inl rfl) (noOwn_flat rfl)) rfl rfl (by decide) rfl (by kernel_rfl) ?_
  refine w_val (v := .rp _ _) (v_nilCheck (.inl rfl) rfl) rfl rfl (by decide) rfl (by kernel_rfl) ?_
  refine w_val (v := .int _ _) (v_load_rp1 ta167 (.inl rfl) rfl (fun _ => rfl) rfl) rfl rfl (by decide) rfl (by kernel_rfl) ?_
  refine w_val (v := .rp _ _) (v_move (.inl rfl) (noOwn_flat rfl)) rfl rfl (by decide) rfl (by kernel_rfl) ?_
  refine w_val (v := .rp _ _) (v_nilCheck (.inl rfl) rfl) rfl rfl (by decide) rfl (by kernel_rfl) ?_
  refine w_val (v := .int _ _) (v_load_rp1 ta167 (.inl rfl) rfl (fun _ => rfl) rfl) rfl rfl (by decide) rfl (by kernel_rfl) ?_
  refine w_val (v := .int .u64 ((r * 8192 % 18446744073709551616 : Nat) : Int)) ((v_shlu (.inl rfl) (.inl rfl) (fun _ => by omega)).cast (int_eq rfl)) rfl rfl (by decide) rfl (by kernel_rfl) ?_
  refine w_val (v := .int .u64 (((r ^^^ (r * 8192 % 18446744073709551616)) : Nat) : Int)) (v_xoru (.inl rfl) (.inl rfl) (fun _ => by omega)) rfl rfl (by decide) rfl (by kernel_rfl) ?_
  refine w_val (v := .rp _ _) (v_nilCheck (.inl rfl) rfl) rfl rfl (by decide) rfl (by kernel_rfl) ?_
  refine w_store (v := .int _ _) (y' := .op [.int _ _]) rfl rfl rfl ta167 (.inl rfl) (.inl rfl) rfl rfl rfl rfl rfl rfl (Nat.le_of_ble_eq_true rfl) (by decide) rfl rfl rfl (by kernel_rfl) ?_
  refine w_nil ?_
  refine a_seq ?_
  refine a_region_w [(12, true), (13, true), (14, true), (15, true), (16, true), (17, true), (18, true), (19, true), (20, true), (INH, false)] mixed (by kernel_rfl) ?_
  refine w_val (v := .rp _ _) (v_move (.inl rfl) (noOwn_flat rfl)) rfl rfl (by decide) rfl (by kernel_rfl) ?_
  refine w_val (v := .rp _ _) (v_nilCheck (.inl rfl) rfl) rfl rfl (by decide) rfl (by kernel_rfl) ?_
  refine w_val (v := .int _ _) (v_load_rp1 ta167 (.inl rfl) rfl (fun _ => rfl) rfl) rfl rfl (by decide) rfl (by kernel_rfl) ?_
  refine w_val (v := .rp _ _) (v_move (.inl rfl) (noOwn_flat rfl)) rfl rfl (by decide) rfl (by kernel_rfl) ?_
  refine w_val (v := .rp _ _) (v_nilCheck (.inl rfl) rfl) rfl rfl (by decide) rfl (by kernel_rfl) ?_
  refine w_val (v := .int _ _) (v_load_rp1 ta167 (.inl rfl) rfl (fun _ => rfl) rfl) rfl rfl (by decide) rfl (by kernel_rfl) ?_
  refine w_val (v := .int .u64 (((r ^^^ (r * 8192 % 18446744073709551616)) / 128 : Nat) : Int)) ((v_shru (.inl rfl) (.inl rfl) (fun _ => by omega)).cast (int_eq (by simp))) rfl rfl (by decide) rfl (by kernel_rfl) ?_
  refine w_val (v := .int .u64 ((((r ^^^ (r * 8192 % 18446744073709551616)) ^^^ ((r ^^^ (r * 8192 % 18446744073709551616)) / 128)) : Nat) : Int)) (v_xoru (.inl rfl) (.inl rfl) (fun _ => by omega)) rfl rfl (by decide) rfl (by kernel_rfl) ?_
  refine w_val (v := .rp _ _) (v_nilCheck (.inl rfl) rfl) rfl rfl (by decide) rfl (by kernel_rfl) ?_
  refine w_store (v := .int _ _) (y' := .op [.int _ _]) rfl rfl rfl ta167 (.inl rfl) (.inl rfl) rfl rfl rfl rfl rfl rfl (Nat.le_of_ble_eq_true rfl) (by decide) rfl rfl rfl (by kernel_rfl) ?_
  refine w_nil ?_
  refine a_seq ?_
  refine a_region_w [(21, true), (22, true), (23, true), (24, true), (25, true), (26, true), (27, true), (28, true), (29, true), (INH, false)] mixed (by kernel_rfl) ?_
  refine w_val (v := .rp _ _) (v_move (.inl rfl) (noOwn_flat rfl)) rfl rfl (by decide) rfl (by kernel_rfl) ?_
  refine w_val (v := .rp _ _) (v_nilCheck (.inl rfl) rfl) rfl rfl (by decide) rfl (by kernel_rfl) ?_
  refine w_val (v := .int _ _) (v_load_rp1 ta167 (.inl rfl) rfl (fun _ => rfl) rfl) rfl rfl (by decide) rfl (by kernel_rfl) ?_
  refine w_val (v := .rp _ _) (v_move (.inl rfl) (noOwn_flat rfl)) rfl rfl (by decide) rfl (by kernel_rfl) ?_
  refine w_val (v := .rp _ _) (v_nilCheck (.inl rfl) rfl) rfl rfl (by decide) rfl (by kernel_rfl) ?_
  refine w_val (v := .int _ _) (v_load_rp1 ta167 (.inl rfl) rfl (fun _ => rfl) rfl) rfl rfl (by decide) rfl (by kernel_rfl) ?_
  refine w_val (v := .int .u64 ((((r ^^^ (r * 8192 % 18446744073709551616)) ^^^ ((r ^^^ (r * 8192 % 18446744073709551616)) / 128)) * 131072 % 18446744073709551616 : Nat) : Int)) ((v_shlu (.inl rfl) (.inl rfl) (fun _ => by omega)).cast (int_eq rfl)) rfl rfl (by decide) rfl (by kernel_rfl) ?_
  refine w_val (v := .int .u64 ((xorNextN r : Nat) : Int)) ((v_xoru (.inl rfl) (.inl rfl) (fun _ => by omega)).cast (int_eq rfl)) rfl rfl (by decide) rfl (by kernel_rfl) ?_
  refine w_val (v := .rp _ _) (v_nilCheck (.inl rfl) rfl) rfl rfl (by decide) rfl (by kernel_rfl) ?_
  refine w_store (v := .int _ _) (y' := .op [.int _ _]) rfl rfl rfl ta167 (.inl rfl) (.inl rfl) rfl rfl rfl rfl rfl rfl (Nat.le_of_ble_eq_true rfl) (by decide) rfl rfl rfl (by kernel_rfl) ?_
  refine w_nil ?_
  refine a_seq ?_
  refine a_pre (ent_look (L := [(0, .rp _ _), (2, .int _ _), (INH, .op [.int _ _])]) ⟨Weak.rfl, Weak.rfl, Weak.rfl, trivial⟩) ?_
  refine a_region ?_
  refine r_val (v := .rp _ _) (v_move (.inl rfl) (noOwn_flat rfl)) rfl rfl (by decide) ?_
  refine r_val (v := .rp _ _) (v_nilCheck (.inl rfl) rfl) rfl rfl (by decide) ?_
  refine r_val (v := .int _ _) (v_load_rp1 ta167 (.inl rfl) rfl (fun _ => rfl) rfl) rfl rfl (by decide) ?_
  refine r_val (v := .int _ _) (v_assign (.inl rfl) (noOwn_flat rfl)) rfl rfl (by decide) ?_
  refine r_nil ?_
  refine a_ret ?_
  refine ret1 Try.results173 (by decide) (by decide) (Weak.of_eq (int_eq ?_)) rfl (Leaves.one (Weak.of_eq rfl) rfl)
  rfl
end Go.Av
namespace Go.Av
open Go Go.Proofs Go.Sort
set_option maxRecDepth 10000
theorem iss5 : (Try.prog.underlying 5).isSome = true := by kernel_rfl
theorem un9 : Try.prog.underlying 9 = some .string := by kernel_rfl
theorem uni5 : Try.prog.underlying 5 = some (.int .u8) := by kernel_rfl

theorem len64_c (n : Nat) (h : n < 18446744073709551616) : ACall Try.prog 169 [.int .u64 ((n : Nat) : Int)] [] (.int .i64 ((bitsLen n : Nat) : Int)) [] := by
  have hx1 : lx 32 n < 4294967296 := (by unfold lx; split <;> omega)
  have hx2 : lx 16 (lx 32 n) < 65536 := (by have h9 := hx1; generalize lx 32 n = m at h9 ⊢; unfold lx; split <;> omega)
  have hx3 : lx 8 (lx 16 (lx 32 n)) < 256 := (by have h9 := hx2; generalize lx 16 (lx 32 n) = m at h9 ⊢; unfold lx; split <;> omega)
  have hl3 : bitsLen (lx 8 (lx 16 (lx 32 n))) ≤ 8 := (bitsLen_le_iff _ _).2 hx3
  have hlen : bitsLen n = ll 32 n + ll 16 (lx 32 n) + ll 8 (lx 16 (lx 32 n)) + bitsLen (lx 8 (lx 16 (lx 32 n))) := (by have e1 := lx_len 32 n; have e2 := lx_len 16 (lx 32 n); have e3 := lx_len 8 (lx 16 (lx 32 n)); omega)
  have hb1 : ll 32 n ≤ 32 := (by unfold ll; split <;> omega)
  have hb2 : ll 16 (lx 32 n) ≤ 16 := (by unfold ll; split <;> omega)
  have hb3 : ll 8 (lx 16 (lx 32 n)) ≤ 8 := (by unfold ll; split <;> omega)
  refine ACall.intro Try.func169 rfl (N := 25) rfl (by decide) (by simp) ?_
  refine a_seq ?_
  refine a_region ?_
  refine r_val (v := .int _ _) (v_assign (.inl rfl) (noOwn_flat rfl)) rfl rfl (by decide) ?_
  refine r_nil ?_
  refine a_seq ?_
  refine a_seq ?_
  refine a_region ?_
  refine r_val (v := .int _ _) (v_move (.inl rfl) (noOwn_flat rfl)) rfl rfl (by decide) ?_
  refine r_val (v := .bool _) (v_geq (.inl rfl) (.inl rfl)) rfl rfl (by decide) ?_
  refine r_nil ?_
  refine a_cond rfl (fun ht4 => ?_) (fun ht4 => ?_)
  ·
    skip
    refine a_seq ?_
    refine a_region ?_
    refine r_val (v := .int _ _) (v_move (.inl rfl) (noOwn_flat rfl)) rfl rfl (by decide) ?_
    refine r_val (v := .int .u64 ((n / 4294967296 : Nat) : Int)) ((v_shru (.inl rfl) (.inl rfl) (fun _ => by omega)).cast (int_eq (by simp))) rfl rfl (by decide) ?_
    refine r_val (v := .int _ _) (v_assign (.inl rfl) (noOwn_flat rfl)) rfl rfl (by decide) ?_
    refine r_nil ?_
    refine a_region ?_
    refine r_val (v := .int _ _) (v_assign (.inl rfl) (noOwn_flat rfl)) rfl rfl (by decide) ?_
    refine r_nil ?_
    refine a_seq ?_
    refine a_seq ?_
    refine a_pre (ent_eq (t := 0) (v' := .int .u64 ((lx 32 n : Nat) : Int)) (Weak.of_eq (int_eq (congrArg Nat.cast (by first | exact (if_pos (show 2 ^ 32 ≤ n by simp at ht4; omega)).symm | exact (if_neg (show ¬ 2 ^ 32 ≤ n by simp at ht4; omega)).symm))))) ?_
    refine a_pre (ent_eq (t := 2) (v' := .int .i64 ((ll 32 n : Nat) : Int)) (Weak.of_eq (int_eq (by first | (rw [show ll 32 (n) = 32 from if_pos (show 2 ^ 32 ≤ n by simp at ht4; omega)]; rfl) | (rw [show ll 32 (n) = 0 from if_neg (show ¬ 2 ^ 32 ≤ n by simp at ht4; omega)]; rfl))))) ?_
    refine a_region ?_
    refine r_val (v := .int _ _) (v_move (.inl rfl) (noOwn_flat rfl)) rfl rfl (by decide) ?_
    refine r_val (v := .bool _) (v_geq (.inl rfl) (.inl rfl)) rfl rfl (by decide) ?_
    refine r_nil ?_
    refine a_cond rfl (fun ht8 => ?_) (fun ht8 => ?_)
    ·
      skip
      refine a_seq ?_
      refine a_region ?_
      refine r_val (v := .int _ _) (v_move (.inl rfl) (noOwn_flat rfl)) rfl rfl (by decide) ?_
      refine r_val (v := .int .u64 ((lx 32 n / 65536 : Nat) : Int)) ((v_shru (.inl rfl) (.inl rfl) (fun _ => by omega)).cast (int_eq (by simp))) rfl rfl (by decide) ?_
      refine r_val (v := .int _ _) (v_assign (.inl rfl) (noOwn_flat rfl)) rfl rfl (by decide) ?_
      refine r_nil ?_
      refine a_region ?_
      refine r_val (v := .int _ _) (v_move (.inl rfl) (noOwn_flat rfl)) rfl rfl (by decide) ?_
      refine r_val (v := .int _ _) (v_add (.inl rfl) (.inl rfl) (fun _ => by omega)) rfl rfl (by decide) ?_
      refine r_val (v := .int _ _) (v_assign (.inl rfl) (noOwn_flat rfl)) rfl rfl (by decide) ?_
      refine r_nil ?_
      refine a_seq ?_
      refine a_seq ?_
      refine a_pre (ent_eq (t := 0) (v' := .int .u64 ((lx 16 (lx 32 n) : Nat) : Int)) (Weak.of_eq (int_eq (congrArg Nat.cast (by first | exact (if_pos (show 2 ^ 16 ≤ lx 32 n by simp at ht8; omega)).symm | exact (if_neg (show ¬ 2 ^ 16 ≤ lx 32 n by simp at ht8; omega)).symm))))) ?_
      refine a_pre (ent_eq (t := 2) (v' := .int .i64 ((ll 32 n + ll 16 (lx 32 n) : Nat) : Int)) (Weak.of_eq (int_eq (by first | (rw [show ll 16 (lx 32 n) = 16 from if_pos (show 2 ^ 16 ≤ lx 32 n by simp at ht8; omega)]; rfl) | (rw [show ll 16 (lx 32 n) = 0 from if_neg (show ¬ 2 ^ 16 ≤ lx 32 n by simp at ht8; omega)]; rfl))))) ?_
      refine a_region ?_
      refine r_val (v := .int _ _) (v_move (.inl rfl) (noOwn_flat rfl)) rfl rfl (by decide) ?_
      refine r_val (v := .bool _) (v_geq (.inl rfl) (.inl rfl)) rfl rfl (by decide) ?_
      refine r_nil ?_
      refine a_cond rfl (fun ht14 => ?_) (fun ht14 => ?_)
      ·
        skip
        refine a_seq ?_
        refine a_region ?_
        refine r_val (v := .int _ _) (v_move (.inl rfl) (noOwn_flat rfl)) rfl rfl (by decide) ?_
        refine r_val (v := .int .u64 ((lx 16 (lx 32 n) / 256 : Nat) : Int)) ((v_shru (.inl rfl) (.inl rfl) (fun _ => by omega)).cast (int_eq (by simp))) rfl rfl (by decide) ?_
        refine r_val (v := .int _ _) (v_assign (.inl rfl) (noOwn_flat rfl)) rfl rfl (by decide) ?_
        refine r_nil ?_
        refine a_region ?_
        refine r_val (v := .int _ _) (v_move (.inl rfl) (noOwn_flat rfl)) rfl rfl (by decide) ?_
        refine r_val (v := .int _ _) (v_add (.inl rfl) (.inl rfl) (fun _ => by omega)) rfl rfl (by decide) ?_
        refine r_val (v := .int _ _) (v_assign (.inl rfl) (noOwn_flat rfl)) rfl rfl (by decide) ?_
        refine r_nil ?_
        refine a_seq ?_
        refine a_pre (ent_eq (t := 0) (v' := .int .u64 ((lx 8 (lx 16 (lx 32 n)) : Nat) : Int)) (Weak.of_eq (int_eq (congrArg Nat.cast (by first | exact (if_pos (show 2 ^ 8 ≤ lx 16 (lx 32 n) by simp at ht14; omega)).symm | exact (if_neg (show ¬ 2 ^ 8 ≤ lx 16 (lx 32 n) by simp at ht14; omega)).symm))))) ?_
        refine a_pre (ent_eq (t := 2) (v' := .int .i64 ((ll 32 n + ll 16 (lx 32 n) + ll 8 (lx 16 (lx 32 n)) : Nat) : Int)) (Weak.of_eq (int_eq (by first | (rw [show ll 8 (lx 16 (lx 32 n)) = 8 from if_pos (show 2 ^ 8 ≤ lx 16 (lx 32 n) by simp at ht14; omega)]; rfl) | (rw [show ll 8 (lx 16 (lx 32 n)) = 0 from if_neg (show ¬ 2 ^ 8 ≤ lx 16 (lx 32 n) by simp at ht14; omega)]; rfl))))) ?_
        refine a_region ?_
        refine r_val (v := .int _ _) (v_move (.inl rfl) (noOwn_flat rfl)) rfl rfl (by decide) ?_
        refine r_val (v := .int _ _) (v_move (.inl rfl) (noOwn_flat rfl)) rfl rfl (by decide) ?_
        refine r_val (v := .int .u8 ((lx 8 (lx 16 (lx 32 n)) : Nat) : Int)) (v_conv iss159 uni5 (.inl rfl) (fun _ => IntWalk.u8_in _ (by omega))) rfl rfl (by decide) ?_
        refine r_val (v := .int .u8 ((bitsLen (lx 8 (lx 16 (lx 32 n))) : Nat) : Int)) ((v_index_str un9 (.inl rfl) (.inl rfl) (fun _ => ⟨by omega, Int.lt_of_lt_of_le (Int.ofNat_lt.2 hx3) (by decide +kernel)⟩)).cast (int_eq (congrArg Nat.cast (by revert hx3; generalize lx 8 (lx 16 (lx 32 n)) = m; revert m; decide +kernel)))) rfl rfl (by decide) ?_
        refine r_val (v := .int _ _) (v_conv iss5 uni3 (.inl rfl) (fun _ => by first | rfl | exact IntWalk.i64_in _ (by omega))) rfl rfl (by decide) ?_
        refine r_val (v := .int _ _) (v_add (.inl rfl) (.inl rfl) (fun _ => by omega)) rfl rfl (by decide) ?_
        refine r_val (v := .int _ _) (v_assign (.inl rfl) (noOwn_flat rfl)) rfl rfl (by decide) ?_
        refine r_nil ?_
        refine a_ret ?_
        refine ret1 Try.results169 (by decide) (by decide) (Weak.of_eq (int_eq ?_)) rfl Leaves.nil
        rw [hlen]; simp
      ·
        skip
        refine a_skip ?_
        refine a_seq ?_
        refine a_pre (ent_eq (t := 0) (v' := .int .u64 ((lx 8 (lx 16 (lx 32 n)) : Nat) : Int)) (Weak.of_eq (int_eq (congrArg Nat.cast (by first | exact (if_pos (show 2 ^ 8 ≤ lx 16 (lx 32 n) by simp at ht14; omega)).symm | exact (if_neg (show ¬ 2 ^ 8 ≤ lx 16 (lx 32 n) by simp at ht14; omega)).symm))))) ?_
        refine a_pre (ent_eq (t := 2) (v' := .int .i64 ((ll 32 n + ll 16 (lx 32 n) + ll 8 (lx 16 (lx 32 n)) : Nat) : Int)) (Weak.of_eq (int_eq (by first | (rw [show ll 8 (lx 16 (lx 32 n)) = 8 from if_pos (show 2 ^ 8 ≤ lx 16 (lx 32 n) by simp at ht14; omega)]; rfl) | (rw [show ll 8 (lx 16 (lx 32 n)) = 0 from if_neg (show ¬ 2 ^ 8 ≤ lx 16 (lx 32 n) by simp at ht14; omega)]; rfl))))) ?_
        refine a_region ?_
        refine r_val (v := .int _ _) (v_move (.inl rfl) (noOwn_flat rfl)) rfl rfl (by decide) ?_
        refine r_val (v := .int _ _) (v_move (.inl rfl) (noOwn_flat rfl)) rfl rfl (by decide) ?_
        refine r_val (v := .int .u8 ((lx 8 (lx 16 (lx 32 n)) : Nat) : Int)) (v_conv iss159 uni5 (.inl rfl) (fun _ => IntWalk.u8_in _ (by omega))) rfl rfl (by decide) ?_
        refine r_val (v := .int .u8 ((bitsLen (lx 8 (lx 16 (lx 32 n))) : Nat) : Int)) ((v_index_str un9 (.inl rfl) (.inl rfl) (fun _ => ⟨by omega, Int.lt_of_lt_of_le (Int.ofNat_lt.2 hx3) (by decide +kernel)⟩)).cast (int_eq (congrArg Nat.cast (by revert hx3; generalize lx 8 (lx 16 (lx 32 n)) = m; revert m; decide +kernel)))) rfl rfl (by decide) ?_
        refine r_val (v := .int _ _) (v_conv iss5 uni3 (.inl rfl) (fun _ => by first | rfl | exact IntWalk.i64_in _ (by omega))) rfl rfl (by decide) ?_
        refine r_val (v := .int _ _) (v_add (.inl rfl) (.inl rfl) (fun _ => by omega)) rfl rfl (by decide) ?_
        refine r_val (v := .int _ _) (v_assign (.inl rfl) (noOwn_flat rfl)) rfl rfl (by decide) ?_
        refine r_nil ?_
        refine a_ret ?_
        refine ret1 Try.results169 (by decide) (by decide) (Weak.of_eq (int_eq ?_)) rfl Leaves.nil
        rw [hlen]; simp
    ·
      skip
      refine a_skip ?_
      refine a_seq ?_
      refine a_seq ?_
      refine a_pre (ent_eq (t := 0) (v' := .int .u64 ((lx 16 (lx 32 n) : Nat) : Int)) (Weak.of_eq (int_eq (congrArg Nat.cast (by first | exact (if_pos (show 2 ^ 16 ≤ lx 32 n by simp at ht8; omega)).symm | exact (if_neg (show ¬ 2 ^ 16 ≤ lx 32 n by simp at ht8; omega)).symm))))) ?_
      refine a_pre (ent_eq (t := 2) (v' := .int .i64 ((ll 32 n + ll 16 (lx 32 n) : Nat) : Int)) (Weak.of_eq (int_eq (by first | (rw [show ll 16 (lx 32 n) = 16 from if_pos (show 2 ^ 16 ≤ lx 32 n by simp at ht8; omega)]; rfl) | (rw [show ll 16 (lx 32 n) = 0 from if_neg (show ¬ 2 ^ 16 ≤ lx 32 n by simp at ht8; omega)]; rfl))))) ?_
      refine a_region ?_
      refine r_val (v := .int _ _) (v_move (.inl rfl) (noOwn_flat rfl)) rfl rfl (by decide) ?_
      refine r_val (v := .bool _) (v_geq (.inl rfl) (.inl rfl)) rfl rfl (by decide) ?_
      refine r_nil ?_
      refine a_cond rfl (fun ht14 => ?_) (fun ht14 => ?_)
      ·
        skip
        refine a_seq ?_
        refine a_region ?_
        refine r_val (v := .int _ _) (v_move (.inl rfl) (noOwn_flat rfl)) rfl rfl (by decide) ?_
        refine r_val (v := .int .u64 ((lx 16 (lx 32 n) / 256 : Nat) : Int)) ((v_shru (.inl rfl) (.inl rfl) (fun _ => by omega)).cast (int_eq (by simp))) rfl rfl (by decide) ?_
        refine r_val (v := .int _ _) (v_assign (.inl rfl) (noOwn_flat rfl)) rfl rfl (by decide) ?_
        refine r_nil ?_
        refine a_region ?_
        refine r_val (v := .int _ _) (v_move (.inl rfl) (noOwn_flat rfl)) rfl rfl (by decide) ?_
        refine r_val (v := .int _ _) (v_add (.inl rfl) (.inl rfl) (fun _ => by omega)) rfl rfl (by decide) ?_
        refine r_val (v := .int _ _) (v_assign (.inl rfl) (noOwn_flat rfl)) rfl rfl (by decide) ?_
        refine r_nil ?_
        refine a_seq ?_
        refine a_pre (ent_eq (t := 0) (v' := .int .u64 ((lx 8 (lx 16 (lx 32 n)) : Nat) : Int)) (Weak.of_eq (int_eq (congrArg Nat.cast (by first | exact (if_pos (show 2 ^ 8 ≤ lx 16 (lx 32 n) by simp at ht14; omega)).symm | exact (if_neg (show ¬ 2 ^ 8 ≤ lx 16 (lx 32 n) by simp at ht14; omega)).symm))))) ?_
        refine a_pre (ent_eq (t := 2) (v' := .int .i64 ((ll 32 n + ll 16 (lx 32 n) + ll 8 (lx 16 (lx 32 n)) : Nat) : Int)) (Weak.of_eq (int_eq (by first | (rw [show ll 8 (lx 16 (lx 32 n)) = 8 from if_pos (show 2 ^ 8 ≤ lx 16 (lx 32 n) by simp at ht14; omega)]; rfl) | (rw [show ll 8 (lx 16 (lx 32 n)) = 0 from if_neg (show ¬ 2 ^ 8 ≤ lx 16 (lx 32 n) by simp at ht14; omega)]; rfl))))) ?_
        refine a_region ?_
        refine r_val (v := .int _ _) (v_move (.inl rfl) (noOwn_flat rfl)) rfl rfl (by decide) ?_
        refine r_val (v := .int _ _) (v_move (.inl rfl) (noOwn_flat rfl)) rfl rfl (by decide) ?_
        refine r_val (v := .int .u8 ((lx 8 (lx 16 (lx 32 n)) : Nat) : Int)) (v_conv iss159 uni5 (.inl rfl) (fun _ => IntWalk.u8_in _ (by omega))) rfl rfl (by decide) ?_
        refine r_val (v := .int .u8 ((bitsLen (lx 8 (lx 16 (lx 32 n))) : Nat) : Int)) ((v_index_str un9 (.inl rfl) (.inl rfl) (fun _ => ⟨by omega, Int.lt_of_lt_of_le (Int.ofNat_lt.2 hx3) (by decide +kernel)⟩)).cast (int_eq (congrArg Nat.cast (by revert hx3; generalize lx 8 (lx 16 (lx 32 n)) = m; revert m; decide +kernel)))) rfl rfl (by decide) ?_
        refine r_val (v := .int _ _) (v_conv iss5 uni3 (.inl rfl) (fun _ => by first | rfl | exact IntWalk.i64_in _ (by omega))) rfl rfl (by decide) ?_
        refine r_val (v := .int _ _) (v_add (.inl rfl) (.inl rfl) (fun _ => by omega)) rfl rfl (by decide) ?_
        refine r_val (v := .int _ _) (v_assign (.inl rfl) (noOwn_flat rfl)) rfl rfl (by decide) ?_
        refine r_nil ?_
        refine a_ret ?_
        refine ret1 Try.results169 (by decide) (by decide) (Weak.of_eq (int_eq ?_)) rfl Leaves.nil
        rw [hlen]; simp
      ·
        skip
        refine a_skip ?_
        refine a_seq ?_
        refine a_pre (ent_eq (t := 0) (v' := .int .u64 ((lx 8 (lx 16 (lx 32 n)) : Nat) : Int)) (Weak.of_eq (int_eq (congrArg Nat.cast (by first | exact (if_pos (show 2 ^ 8 ≤ lx 16 (lx 32 n) by simp at ht14; omega)).symm | exact (if_neg (show ¬ 2 ^ 8 ≤ lx 16 (lx 32 n) by simp at ht14; omega)).symm))))) ?_
        refine a_pre (ent_eq (t := 2) (v' := .int .i64 ((ll 32 n + ll 16 (lx 32 n) + ll 8 (lx 16 (lx 32 n)) : Nat) : Int)) (Weak.of_eq (int_eq (by first | (rw [show ll 8 (lx 16 (lx 32 n)) = 8 from if_pos (show 2 ^ 8 ≤ lx 16 (lx 32 n) by simp at ht14; omega)]; rfl) | (rw [show ll 8 (lx 16 (lx 32 n)) = 0 from if_neg (show ¬ 2 ^ 8 ≤ lx 16 (lx 32 n) by simp at ht14; omega)]; rfl))))) ?_
        refine a_region ?_
        refine r_val (v := .int _ _) (v_move (.inl rfl) (noOwn_flat rfl)) rfl rfl (by decide) ?_
        refine r_val (v := .int _ _) (v_move (.inl rfl) (noOwn_flat rfl)) rfl rfl (by decide) ?_
        refine r_val (v := .int .u8 ((lx 8 (lx 16 (lx 32 n)) : Nat) : Int)) (v_conv iss159 uni5 (.inl rfl) (fun _ => IntWalk.u8_in _ (by omega))) rfl rfl (by decide) ?_
        refine r_val (v := .int .u8 ((bitsLen (lx 8 (lx 16 (lx 32 n))) : Nat) : Int)) ((v_index_str un9 (.inl rfl) (.inl rfl) (fun _ => ⟨by omega, Int.lt_of_lt_of_le (Int.ofNat_lt.2 hx3) (by decide +kernel)⟩)).cast (int_eq (congrArg Nat.cast (by revert hx3; generalize lx 8 (lx 16 (lx 32 n)) = m; revert m; decide +kernel)))) rfl rfl (by decide) ?_
        refine r_val (v := .int _ _) (v_conv iss5 uni3 (.inl rfl) (fun _ => by first | rfl | exact IntWalk.i64_in _ (by omega))) rfl rfl (by decide) ?_
        refine r_val (v := .int _ _) (v_add (.inl rfl) (.inl rfl) (fun _ => by omega)) rfl rfl (by decide) ?_
        refine r_val (v := .int _ _) (v_assign (.inl rfl) (noOwn_flat rfl)) rfl rfl (by decide) ?_
        refine r_nil ?_
        refine a_ret ?_
        refine ret1 Try.results169 (by decide) (by decide) (Weak.of_eq (int_eq ?_)) rfl Leaves.nil
        rw [hlen]; simp
  ·
    skip
    refine a_skip ?_
    refine a_seq ?_
    refine a_seq ?_
    refine a_pre (ent_eq (t := 0) (v' := .int .u64 ((lx 32 n : Nat) : Int)) (Weak.of_eq (int_eq (congrArg Nat.cast (by first | exact (if_pos (show 2 ^ 32 ≤ n by simp at ht4; omega)).symm | exact (if_neg (show ¬ 2 ^ 32 ≤ n by simp at ht4; omega)).symm))))) ?_
    refine a_pre (ent_eq (t := 2) (v' := .int .i64 ((ll 32 n : Nat) : Int)) (Weak.of_eq (int_eq (by first | (rw [show ll 32 (n) = 32 from if_pos (show 2 ^ 32 ≤ n by simp at ht4; omega)]; rfl) | (rw [show ll 32 (n) = 0 from if_neg (show ¬ 2 ^ 32 ≤ n by simp at ht4; omega)]; rfl))))) ?_
    refine a_region ?_
    refine r_val (v := .int _ _) (v_move (.inl rfl) (noOwn_flat rfl)) rfl rfl (by decide) ?_
    refine r_val (v := .bool _) (v_geq (.inl rfl) (.inl rfl)) rfl rfl (by decide) ?_
    refine r_nil ?_
    refine a_cond rfl (fun ht8 => ?_) (fun ht8 => ?_)
    ·
      skip
      refine a_seq ?_
      refine a_region ?_
      refine r_val (v := .int _ _) (v_move (.inl rfl) (noOwn_flat rfl)) rfl rfl (by decide) ?_
      refine r_val (v := .int .u64 ((lx 32 n / 65536 : Nat) : Int)) ((v_shru (.inl rfl) (.inl rfl) (fun _ => by omega)).cast (int_eq (by simp))) rfl rfl (by decide) ?_
      refine r_val (v := .int _ _) (v_assign (.inl rfl) (noOwn_flat rfl)) rfl rfl (by decide) ?_
      refine r_nil ?_
      refine a_region ?_
      refine r_val (v := .int _ _) (v_move (.inl rfl) (noOwn_flat rfl)) rfl rfl (by decide) ?_
      refine r_val (v := .int _ _) (v_add (.inl rfl) (.inl rfl) (fun _ => by omega)) rfl rfl (by decide) ?_
      refine r_val (v := .int _ _) (v_assign (.inl rfl) (noOwn_flat rfl)) rfl rfl (by decide) ?_
      refine r_nil ?_
      refine a_seq ?_
      refine a_seq ?_
      refine a_pre (ent_eq (t := 0) (v' := .int .u64 ((lx 16 (lx 32 n) : Nat) : Int)) (Weak.of_eq (int_eq (congrArg Nat.cast (by first | exact (if_pos (show 2 ^ 16 ≤ lx 32 n by simp at ht8; omega)).symm | exact (if_neg (show ¬ 2 ^ 16 ≤ lx 32 n by simp at ht8; omega)).symm))))) ?_
      refine a_pre (ent_eq (t := 2) (v' := .int .i64 ((ll 32 n + ll 16 (lx 32 n) : Nat) : Int)) (Weak.of_eq (int_eq (by first | (rw [show ll 16 (lx 32 n) = 16 from if_pos (show 2 ^ 16 ≤ lx 32 n by simp at ht8; omega)]; rfl) | (rw [show ll 16 (lx 32 n) = 0 from if_neg (show ¬ 2 ^ 16 ≤ lx 32 n by simp at ht8; omega)]; rfl))))) ?_
      refine a_region ?_
      refine r_val (v := .int _ _) (v_move (.inl rfl) (noOwn_flat rfl)) rfl rfl (by decide) ?_
      refine r_val (v := .bool _) (v_geq (.inl rfl) (.inl rfl)) rfl rfl (by decide) ?_
      refine r_nil ?_
      refine a_cond rfl (fun ht14 => ?_) (fun ht14 => ?_)
      ·
        skip
        refine a_seq ?_
        refine a_region ?_
        refine r_val (v := .int _ _) (v_move (.inl rfl) (noOwn_flat rfl)) rfl rfl (by decide) ?_
        refine r_val (v := .int .u64 ((lx 16 (lx 32 n) / 256 : Nat) : Int)) ((v_shru (.inl rfl) (.inl rfl) (fun _ => by omega)).cast (int_eq (by simp))) rfl rfl (by decide) ?_
        refine r_val (v := .int _ _) (v_assign (.inl rfl) (noOwn_flat rfl)) rfl rfl (by decide) ?_
        refine r_nil ?_
        refine a_region ?_
        refine r_val (v := .int _ _) (v_move (.inl rfl) (noOwn_flat rfl)) rfl rfl (by decide) ?_
        refine r_val (v := .int _ _) (v_add (.inl rfl) (.inl rfl) (fun _ => by omega)) rfl rfl (by decide) ?_
        refine r_val (v := .int _ _) (v_assign (.inl rfl) (noOwn_flat rfl)) rfl rfl (by decide) ?_
        refine r_nil ?_
        refine a_seq ?_
        refine a_pre (ent_eq (t := 0) (v' := .int .u64 ((lx 8 (lx 16 (lx 32 n)) : Nat) : Int)) (Weak.of_eq (int_eq (congrArg Nat.cast (by first | exact (if_pos (show 2 ^ 8 ≤ lx 16 (lx 32 n) by simp at ht14; omega)).symm | exact (if_neg (show ¬ 2 ^ 8 ≤ lx 16 (lx 32 n) by simp at ht14; omega)).symm))))) ?_
        refine a_pre (ent_eq (t := 2) (v' := .int .i64 ((ll 32 n + ll 16 (lx 32 n) + ll 8 (lx 16 (lx 32 n)) : Nat) : Int)) (Weak.of_eq (int_eq (by first | (rw [show ll 8 (lx 16 (lx 32 n)) = 8 from if_pos (show 2 ^ 8 ≤ lx 16 (lx 32 n) by simp at ht14; omega)]; rfl) | (rw [show ll 8 (lx 16 (lx 32 n)) = 0 from if_neg (show ¬ 2 ^ 8 ≤ lx 16 (lx 32 n) by simp at ht14; omega)]; rfl))))) ?_
        refine a_region ?_
        refine r_val (v := .int _ _) (v_move (.inl rfl) (noOwn_flat rfl)) rfl rfl (by decide) ?_
        refine r_val (v := .int _ _) (v_move (.inl rfl) (noOwn_flat rfl)) rfl rfl (by decide) ?_
        refine r_val (v := .int .u8 ((lx 8 (lx 16 (lx 32 n)) : Nat) : Int)) (v_conv iss159 uni5 (.inl rfl) (fun _ => IntWalk.u8_in _ (by omega))) rfl rfl (by decide) ?_
        refine r_val (v := .int .u8 ((bitsLen (lx 8 (lx 16 (lx 32 n))) : Nat) : Int)) ((v_index_str un9 (.inl rfl) (.inl rfl) (fun _ => ⟨by omega, Int.lt_of_lt_of_le (Int.ofNat_lt.2 hx3) (by decide +kernel)⟩)).cast (int_eq (congrArg Nat.cast (by revert hx3; generalize lx 8 (lx 16 (lx 32 n)) = m; revert m; decide +kernel)))) rfl rfl (by decide) ?_
        refine r_val (v := .int _ _) (v_conv iss5 uni3 (.inl rfl) (fun _ => by first | rfl | exact IntWalk.i64_in _ (by omega))) rfl rfl (by decide) ?_
        refine r_val (v := .int _ _) (v_add (.inl rfl) (.inl rfl) (fun _ => by omega)) rfl rfl (by decide) ?_
        refine r_val (v := .int _ _) (v_assign (.inl rfl) (noOwn_flat rfl)) rfl rfl (by decide) ?_
        refine r_nil ?_
        refine a_ret ?_
        refine ret1 Try.results169 (by decide) (by decide) (Weak.of_eq (int_eq ?_)) rfl Leaves.nil
        rw [hlen]; simp
      ·
        skip
        refine a_skip ?_
        refine a_seq ?_
        refine a_pre (ent_eq (t := 0) (v' := .int .u64 ((lx 8 (lx 16 (lx 32 n)) : Nat) : Int)) (Weak.of_eq (int_eq (congrArg Nat.cast (by first | exact (if_pos (show 2 ^ 8 ≤ lx 16 (lx 32 n) by simp at ht14; omega)).symm | exact (if_neg (show ¬ 2 ^ 8 ≤ lx 16 (lx 32 n) by simp at ht14; omega)).symm))))) ?_
        refine a_pre (ent_eq (t := 2) (v' := .int .i64 ((ll 32 n + ll 16 (lx 32 n) + ll 8 (lx 16 (lx 32 n)) : Nat) : Int)) (Weak.of_eq (int_eq (by first | (rw [show ll 8 (lx 16 (lx 32 n)) = 8 from if_pos (show 2 ^ 8 ≤ lx 16 (lx 32 n) by simp at ht14; omega)]; rfl) | (rw [show ll 8 (lx 16 (lx 32 n)) = 0 from if_neg (show ¬ 2 ^ 8 ≤ lx 16 (lx 32 n) by simp at ht14; omega)]; rfl))))) ?_
        refine a_region ?_
        refine r_val (v := .int _ _) (v_move (.inl rfl) (noOwn_flat rfl)) rfl rfl (by decide) ?_
        refine r_val (v := .int _ _) (v_move (.inl rfl) (noOwn_flat rfl)) rfl rfl (by decide) ?_
        refine r_val (v := .int .u8 ((lx 8 (lx 16 (lx 32 n)) : Nat) : Int)) (v_conv iss159 uni5 (.inl rfl) (fun _ => IntWalk.u8_in _ (by omega))) rfl rfl (by decide) ?_
        refine r_val (v := .int .u8 ((bitsLen (lx 8 (lx 16 (lx 32 n))) : Nat) : Int)) ((v_index_str un9 (.inl rfl) (.inl rfl) (fun _ => ⟨by omega, Int.lt_of_lt_of_le (Int.ofNat_lt.2 hx3) (by decide +kernel)⟩)).cast (int_eq (congrArg Nat.cast (by revert hx3; generalize lx 8 (lx 16 (lx 32 n)) = m; revert m; decide +kernel)))) rfl rfl (by decide) ?_
        refine r_val (v := .int _ _) (v_conv iss5 uni3 (.inl rfl) (fun _ => by first | rfl | exact IntWalk.i64_in _ (by omega))) rfl rfl (by decide) ?_
        refine r_val (v := .int _ _) (v_add (.inl rfl) (.inl rfl) (fun _ => by omega)) rfl rfl (by decide) ?_
        refine r_val (v := .int _ _) (v_assign (.inl rfl) (noOwn_flat rfl)) rfl rfl (by decide) ?_
        refine r_nil ?_
        refine a_ret ?_
        refine ret1 Try.results169 (by decide) (by decide) (Weak.of_eq (int_eq ?_)) rfl Leaves.nil
        rw [hlen]; simp
    ·
      skip
      refine a_skip ?_
      refine a_seq ?_
      refine a_seq ?_
      refine a_pre (ent_eq (t := 0) (v' := .int .u64 ((lx 16 (lx 32 n) : Nat) : Int)) (Weak.of_eq (int_eq (congrArg Nat.cast (by first | exact (if_pos (show 2 ^ 16 ≤ lx 32 n by simp at ht8; omega)).symm | exact (if_neg (show ¬ 2 ^ 16 ≤ lx 32 n by simp at ht8; omega)).symm))))) ?_
      refine a_pre (ent_eq (t := 2) (v' := .int .i64 ((ll 32 n + ll 16 (lx 32 n) : Nat) : Int)) (Weak.of_eq (int_eq (by first | (rw [show ll 16 (lx 32 n) = 16 from if_pos (show 2 ^ 16 ≤ lx 32 n by simp at ht8; omega)]; rfl) | (rw [show ll 16 (lx 32 n) = 0 from if_neg (show ¬ 2 ^ 16 ≤ lx 32 n by simp at ht8; omega)]; rfl))))) ?_
      refine a_region ?_
      refine r_val (v := .int _ _) (v_move (.inl rfl) (noOwn_flat rfl)) rfl rfl (by decide) ?_
      refine r_val (v := .bool _) (v_geq (.inl rfl) (.inl rfl)) rfl rfl (by decide) ?_
      refine r_nil ?_
      refine a_cond rfl (fun ht14 => ?_) (fun ht14 => ?_)
      ·
        skip
        refine a_seq ?_
        refine a_region ?_
        refine r_val (v := .int _ _) (v_move (.inl rfl) (noOwn_flat rfl)) rfl rfl (by decide) ?_
        refine r_val (v := .int .u64 ((lx 16 (lx 32 n) / 256 : Nat) : Int)) ((v_shru (.inl rfl) (.inl rfl) (fun _ => by omega)).cast (int_eq (by simp))) rfl rfl (by decide) ?_
        refine r_val (v := .int _ _) (v_assign (.inl rfl) (noOwn_flat rfl)) rfl rfl (by decide) ?_
        refine r_nil ?_
        refine a_region ?_
        refine r_val (v := .int _ _) (v_move (.inl rfl) (noOwn_flat rfl)) rfl rfl (by decide) ?_
        refine r_val (v := .int _ _) (v_add (.inl rfl) (.inl rfl) (fun _ => by omega)) rfl rfl (by decide) ?_
        refine r_val (v := .int _ _) (v_assign (.inl rfl) (noOwn_flat rfl)) rfl rfl (by decide) ?_
        refine r_nil ?_
        refine a_seq ?_
        refine a_pre (ent_eq (t := 0) (v' := .int .u64 ((lx 8 (lx 16 (lx 32 n)) : Nat) : Int)) (Weak.of_eq (int_eq (congrArg Nat.cast (by first | exact (if_pos (show 2 ^ 8 ≤ lx 16 (lx 32 n) by simp at ht14; omega)).symm | exact (if_neg (show ¬ 2 ^ 8 ≤ lx 16 (lx 32 n) by simp at ht14; omega)).symm))))) ?_
        refine a_pre (ent_eq (t := 2) (v' := .int .i64 ((ll 32 n + ll 16 (lx 32 n) + ll 8 (lx 16 (lx 32 n)) : Nat) : Int)) (Weak.of_eq (int_eq (by first | (rw [show ll 8 (lx 16 (lx 32 n)) = 8 from if_pos (show 2 ^ 8 ≤ lx 16 (lx 32 n) by simp at ht14; omega)]; rfl) | (rw [show ll 8 (lx 16 (lx 32 n)) = 0 from if_neg (show ¬ 2 ^ 8 ≤ lx 16 (lx 32 n) by simp at ht14; omega)]; rfl))))) ?_
        refine a_region ?_
        refine r_val (v := .int _ _) (v_move (.inl rfl) (noOwn_flat rfl)) rfl rfl (by decide) ?_
        refine r_val (v := .int _ _) (v_move (.inl rfl) (noOwn_flat rfl)) rfl rfl (by decide) ?_
        refine r_val (v := .int .u8 ((lx 8 (lx 16 (lx 32 n)) : Nat) : Int)) (v_conv iss159 uni5 (.inl rfl) (fun _ => IntWalk.u8_in _ (by omega))) rfl rfl (by decide) ?_
        refine r_val (v := .int .u8 ((bitsLen (lx 8 (lx 16 (lx 32 n))) : Nat) : Int)) ((v_index_str un9 (.inl rfl) (.inl rfl) (fun _ => ⟨by omega, Int.lt_of_lt_of_le (Int.ofNat_lt.2 hx3) (by decide +kernel)⟩)).cast (int_eq (congrArg Nat.cast (by revert hx3; generalize lx 8 (lx 16 (lx 32 n)) = m; revert m; decide +kernel)))) rfl rfl (by decide) ?_
        refine r_val (v := .int _ _) (v_conv iss5 uni3 (.inl rfl) (fun _ => by first | rfl | exact IntWalk.i64_in _ (by omega))) rfl rfl (by decide) ?_
        refine r_val (v := .int _ _) (v_add (.inl rfl) (.inl rfl) (fun _ => by omega)) rfl rfl (by decide) ?_
        refine r_val (v := .int _ _) (v_assign (.inl rfl) (noOwn_flat rfl)) rfl rfl (by decide) ?_
        refine r_nil ?_
        refine a_ret ?_
        refine ret1 Try.results169 (by decide) (by decide) (Weak.of_eq (int_eq ?_)) rfl Leaves.nil
        rw [hlen]; simp
      ·
        skip
        refine a_skip ?_
        refine a_seq ?_
        refine a_pre (ent_eq (t := 0) (v' := .int .u64 ((lx 8 (lx 16 (lx 32 n)) : Nat) : Int)) (Weak.of_eq (int_eq (congrArg Nat.cast (by first | exact (if_pos (show 2 ^ 8 ≤ lx 16 (lx 32 n) by simp at ht14; omega)).symm | exact (if_neg (show ¬ 2 ^ 8 ≤ lx 16 (lx 32 n) by simp at ht14; omega)).symm))))) ?_
        refine a_pre (ent_eq (t := 2) (v' := .int .i64 ((ll 32 n + ll 16 (lx 32 n) + ll 8 (lx 16 (lx 32 n)) : Nat) : Int)) (Weak.of_eq (int_eq (by first | (rw [show ll 8 (lx 16 (lx 32 n)) = 8 from if_pos (show 2 ^ 8 ≤ lx 16 (lx 32 n) by simp at ht14; omega)]; rfl) | (rw [show ll 8 (lx 16 (lx 32 n)) = 0 from if_neg (show ¬ 2 ^ 8 ≤ lx 16 (lx 32 n) by simp at ht14; omega)]; rfl))))) ?_
        refine a_region ?_
        refine r_val (v := .int _ _) (v_move (.inl rfl) (noOwn_flat rfl)) rfl rfl (by decide) ?_
        refine r_val (v := .int _ _) (v_move (.inl rfl) (noOwn_flat rfl)) rfl rfl (by decide) ?_
        refine r_val (v := .int .u8 ((lx 8 (lx 16 (lx 32 n)) : Nat) : Int)) (v_conv iss159 uni5 (.inl rfl) (fun _ => IntWalk.u8_in _ (by omega))) rfl rfl (by decide) ?_
        refine r_val (v := .int .u8 ((bitsLen (lx 8 (lx 16 (lx 32 n))) : Nat) : Int)) ((v_index_str un9 (.inl rfl) (.inl rfl) (fun _ => ⟨by omega, Int.lt_of_lt_of_le (Int.ofNat_lt.2 hx3) (by decide +kernel)⟩)).cast (int_eq (congrArg Nat.cast (by revert hx3; generalize lx 8 (lx 16 (lx 32 n)) = m; revert m; decide +kernel)))) rfl rfl (by decide) ?_
        refine r_val (v := .int _ _) (v_conv iss5 uni3 (.inl rfl) (fun _ => by first | rfl | exact IntWalk.i64_in _ (by omega))) rfl rfl (by decide) ?_
        refine r_val (v := .int _ _) (v_add (.inl rfl) (.inl rfl) (fun _ => by omega)) rfl rfl (by decide) ?_
        refine r_val (v := .int _ _) (v_assign (.inl rfl) (noOwn_flat rfl)) rfl rfl (by decide) ?_
        refine r_nil ?_
        refine a_ret ?_
        refine ret1 Try.results169 (by decide) (by decide) (Weak.of_eq (int_eq ?_)) rfl Leaves.nil
        rw [hlen]; simp
end Go.Av
namespace Go.Av
open Go Go.Proofs Go.Sort
set_option maxRecDepth 10000
theorem hb152 : hasBody Try.prog 152 = true := by kernel_rfl
theorem hb169 : hasBody Try.prog 169 = true := by kernel_rfl

theorem len_c (n : Nat) (h : n < 18446744073709551616) : ACall Try.prog 152 [.int .u64 ((n : Nat) : Int)] [] (.int .i64 ((bitsLen n : Nat) : Int)) [] := by
  refine ACall.intro Try.func152 rfl (N := 8) rfl (by decide) (by simp) ?_
  refine a_seq ?_
  refine a_region ?_
  refine r_val (v := .int _ _) (v_assign (.inl rfl) (noOwn_flat rfl)) rfl rfl (by decide) ?_
  refine r_nil ?_
  refine a_seq ?_
  refine a_condF ?_
  refine a_skip ?_
  refine a_seq ?_
  refine a_region ?_
  refine r_val (v := .int _ _) (v_move (.inl rfl) (noOwn_flat rfl)) rfl rfl (by decide) ?_
  refine r_new (v := .int _ _) (q_call (vs := [.int _ _]) (args := [.int .u64 ((_ : Nat) : Int)]) hb169 ⟨.inl rfl, trivial⟩ rfl (fun hA => len64_c _ h) rfl rfl) rfl rfl (by decide) ?_
  refine r_val (v := .int _ _) (v_assign (.inl rfl) (noOwn_flat rfl)) rfl rfl (by decide) ?_
  refine r_nil ?_
  refine a_ret ?_
  refine ret1 Try.results152 (by decide) (by decide) (Weak.of_eq (int_eq ?_)) rfl Leaves.nil
  rfl

theorem nextPow_c (n : Nat) (h : n ≤ 1152921504606846976) : ACall Try.prog 172 [.int .i64 ((n : Nat) : Int)] [] (.int .u64 ((2 ^ bitsLen n : Nat) : Int)) [] := by
  have hb : bitsLen n ≤ 61 := (bitsLen_le_iff _ _).2 (by omega)
  have hp : 2 ^ bitsLen n ≤ 2 ^ 61 := Nat.pow_le_pow_right (by decide) hb
  refine ACall.intro Try.func172 rfl (N := 7) rfl (by decide) (by simp) ?_
  refine a_seq ?_
  refine a_region ?_
  refine r_val (v := .int _ _) (v_assign (.inl rfl) (noOwn_flat rfl)) rfl rfl (by decide) ?_
  refine r_nil ?_
  refine a_seq ?_
  refine a_region ?_
  refine r_val (v := .int _ _) (v_move (.inl rfl) (noOwn_flat rfl)) rfl rfl (by decide) ?_
  refine r_val (v := .int _ _) (v_conv iss3 uni152 (.inl rfl) (fun _ => IntWalk.u64_in _ (by omega))) rfl rfl (by decide) ?_
  refine r_new (v := .int _ _) (q_call (vs := [.int _ _]) (args := [.int .u64 ((_ : Nat) : Int)]) hb152 ⟨.inl rfl, trivial⟩ rfl (fun hA => len_c _ (by omega)) rfl rfl) rfl rfl (by decide) ?_
  refine r_val (v := .int .u64 ((2 ^ bitsLen n : Nat) : Int)) ((v_shlu (m := 1) (.inl rfl) (.inl rfl) (fun _ => by omega)).cast (int_eq (congrArg Nat.cast (by rw [Nat.one_mul, Int.toNat_natCast]; exact Nat.mod_eq_of_lt (by omega))))) rfl rfl (by decide) ?_
  refine r_val (v := .int _ _) (v_assign (.inl rfl) (noOwn_flat rfl)) rfl rfl (by decide) ?_
  refine r_nil ?_
  refine a_ret ?_
  refine ret1 Try.results172 (by decide) (by decide) (Weak.of_eq (int_eq ?_)) rfl Leaves.nil
  rfl
end Go.Av
namespace Go.Av
open Go Go.Proofs Go.Sort
set_option maxRecDepth 10000
theorem hb172 : hasBody Try.prog 172 = true := by kernel_rfl
theorem hb173 : hasBody Try.prog 173 = true := by kernel_rfl
theorem iss152 : (Try.prog.underlying 152).isSome = true := by kernel_rfl
theorem uni167 : Try.prog.underlying 167 = some (.int .u64) := by kernel_rfl
theorem zc167 : zeroCells Try.prog 167 = some [.int .u64 0] := by kernel_rfl

theorem breakPatterns_c (f : Nat) (d : Array Int) (n a b : Nat) (hd : d.size = n) (hab : a < b ∧ b ≤ n) (hn : n ≤ 1152921504606846976) : ACall Try.prog 162 [.rsl (INH, []) 1 0 n none, .int .i64 ((a : Nat) : Int), .int .i64 ((b : Nat) : Int), .fn f [] []] [.osl 1 (acells d) n none] (.tup []) [.osl 1 (acells (breakPatterns d a b)) n none] := by
  have hbl : bitsLen (b - a) ≤ 61 := (bitsLen_le_iff _ _).2 (by omega)
  have hpw : 2 ^ bitsLen (b - a) ≤ 2 ^ 61 := Nat.pow_le_pow_right (by decide) hbl
  have hp0 : 0 < 2 ^ bitsLen (b - a) := Nat.two_pow_pos _
  refine ACall.intro Try.func162 rfl (N := 67) rfl (by decide) (by simp) ?_
  refine a_seq ?_
  refine a_region ?_
  refine r_val (v := .int _ _) (v_move (.inl rfl) (noOwn_flat rfl)) rfl rfl (by decide) ?_
  refine r_val (v := .int _ _) (v_move (.inl rfl) (noOwn_flat rfl)) rfl rfl (by decide) ?_
  refine r_val (v := .int .i64 ((b - a : Nat) : Int)) ((v_sub (.inl rfl) (.inl rfl) (fun _ => by omega)).cast (int_eq (by omega))) rfl rfl (by decide) ?_
  refine r_val (v := .int _ _) (v_assign (.inl rfl) (noOwn_flat rfl)) rfl rfl (by decide) ?_
  refine r_nil ?_
  refine a_seq ?_
  refine a_region ?_
  refine r_val (v := .int _ _) (v_move (.inl rfl) (noOwn_flat rfl)) rfl rfl (by decide) ?_
  refine r_val (v := .bool _) (v_geq (.inl rfl) (.inl rfl)) rfl rfl (by decide) ?_
  refine r_nil ?_
  refine a_cond rfl (fun ht17 => ?_) (fun ht17 => ?_)
  ·
    skip
    refine a_seq ?_
    have h8 : b - a ≥ 8 := (by simp at ht17; omega)
    refine a_region ?_
    refine r_val (v := .int _ _) (v_move (.inl rfl) (noOwn_flat rfl)) rfl rfl (by decide) ?_
    refine r_val (v := .int _ _) (v_conv iss3 uni167 (.inl rfl) (fun _ => IntWalk.u64_in _ (by omega))) rfl rfl (by decide) ?_
    refine r_new (v := .op [.int _ _]) (q_alloc zc167) rfl rfl (by decide) ?_
    refine r_step rfl (o_store (v := .int _ _) (y' := .op [.int _ _]) rfl rfl ta167 (.inl rfl) (.inl rfl) rfl rfl rfl rfl rfl rfl (Nat.le_of_ble_eq_true rfl) (by decide) rfl rfl) ?_
    refine r_nil ?_
    refine a_seq ?_
    refine a_region ?_
    refine r_val (v := .int _ _) (v_move (.inl rfl) (noOwn_flat rfl)) rfl rfl (by decide) ?_
    refine r_new (v := .int _ _) (q_call (vs := [.int _ _]) (args := [.int .i64 ((_ : Nat) : Int)]) hb172 ⟨.inl rfl, trivial⟩ rfl (fun hA => nextPow_c (b - a) (by omega)) rfl rfl) rfl rfl (by decide) ?_
    refine r_val (v := .int _ _) (v_assign (.inl rfl) (noOwn_flat rfl)) rfl rfl (by decide) ?_
    refine r_nil ?_
    refine a_seq ?_
    refine a_region ?_
    refine r_val (v := .int _ _) (v_move (.inl rfl) (noOwn_flat rfl)) rfl rfl (by decide) ?_
    refine r_val (v := .int _ _) (v_move (.inl rfl) (noOwn_flat rfl)) rfl rfl (by decide) ?_
    refine r_val (v := .int .i64 (((b - a) / 4 : Nat) : Int)) ((v_quo (.inl rfl) (.inl rfl) (fun _ => by omega)).cast (int_eq (by omega))) rfl rfl (by decide) ?_
    refine r_val (v := .int .i64 (((b - a) / 4 * 2 : Nat) : Int)) ((v_mul (.inl rfl) (.inl rfl) (fun _ => by omega)).cast (int_eq (by omega))) rfl rfl (by decide) ?_
    refine r_val (v := .int .i64 ((a + (b - a) / 4 * 2 : Nat) : Int)) ((v_add (.inl rfl) (.inl rfl) (fun _ => by omega)).cast (int_eq (by omega))) rfl rfl (by decide) ?_
    refine r_val (v := .int .i64 ((a + (b - a) / 4 * 2 - 1 : Nat) : Int)) ((v_sub (.inl rfl) (.inl rfl) (fun _ => by omega)).cast (int_eq (by omega))) rfl rfl (by decide) ?_
    refine r_val (v := .int _ _) (v_assign (.inl rfl) (noOwn_flat rfl)) rfl rfl (by decide) ?_
    refine r_nil ?_
    refine a_block ?_
    refine a_loop (X := (Nat × Nat × Array Int)) (fun x => look [(0, .rsl (INH, []) 1 0 n none), (1, .int .i64 ((a : Nat) : Int)), (8, .int .i64 ((b - a : Nat) : Int)), (9, .op [.int .u64 ((x.2.1 : Nat) : Int)]), (10, .int .u64 ((2 ^ bitsLen (b - a) : Nat) : Int)), (11, .int .i64 (((a + (b - a) / 4 * 2 - 1 + x.1) : Nat) : Int)), (INH, .osl 1 (acells x.2.2) n none)]) (fun x => x.1 ≤ 3 ∧ x.2.1 < 18446744073709551616 ∧ x.2.2.size = n ∧ bpN a (b - a) (3 - x.1) (a + (b - a) / 4 * 2 - 1 + x.1) x.2.1 x.2.2 = breakPatterns d a b) (fun x => 3 - x.1) (0, b - a, d) (ent_look ⟨Weak.of_eq rfl, Weak.of_eq rfl, Weak.of_eq rfl, Weak.of_eq rfl, Weak.of_eq rfl, Weak.of_eq (int_eq (by dsimp only; omega)), Weak.of_eq rfl, trivial⟩) ⟨by dsimp only; omega, by dsimp only; omega, hd, (bp_eq h8 (by omega)).symm⟩ (fun x hG => ?_)
    obtain ⟨g1, g2, g3, g4⟩ := hG
    refine a_seq ?_
    refine a_seq ?_
    refine a_region ?_
    refine r_val (v := .int _ _) (v_move (.inl rfl) (noOwn_flat rfl)) rfl rfl (by decide) ?_
    refine r_val (v := .int _ _) (v_move (.inl rfl) (noOwn_flat rfl)) rfl rfl (by decide) ?_
    refine r_val (v := .int _ _) (v_move (.inl rfl) (noOwn_flat rfl)) rfl rfl (by decide) ?_
    refine r_val (v := .int .i64 (((b - a) / 4 : Nat) : Int)) ((v_quo (.inl rfl) (.inl rfl) (fun _ => by omega)).cast (int_eq (by omega))) rfl rfl (by decide) ?_
    refine r_val (v := .int .i64 (((b - a) / 4 * 2 : Nat) : Int)) ((v_mul (.inl rfl) (.inl rfl) (fun _ => by omega)).cast (int_eq (by omega))) rfl rfl (by decide) ?_
    refine r_val (v := .int .i64 ((a + (b - a) / 4 * 2 : Nat) : Int)) ((v_add (.inl rfl) (.inl rfl) (fun _ => by omega)).cast (int_eq (by omega))) rfl rfl (by decide) ?_
    refine r_val (v := .int .i64 ((a + (b - a) / 4 * 2 + 1 : Nat) : Int)) ((v_add (.inl rfl) (.inl rfl) (fun _ => by omega)).cast (int_eq (by omega))) rfl rfl (by decide) ?_
    refine r_val (v := .bool _) (v_leq (.inl rfl) (.inl rfl)) rfl rfl (by decide) ?_
    refine r_nil ?_
    refine a_cond rfl (fun ht35 => ?_) (fun ht35 => ?_)
    ·
      skip
      refine a_skip ?_
      refine a_seq ?_
      refine a_block ?_
      refine a_seq ?_
      have hx3 : x.1 < 3 := (by simp at ht35; omega)
      have hmk : xorNextN x.2.1 &&& (2 ^ bitsLen (b - a) - 1) ≤ 2 ^ bitsLen (b - a) - 1 := Nat.and_le_right
      have hnx := xorNextN_lt _ g2
      have hbo := bpO_lt (L := b - a) (r := x.2.1) (by omega)
      refine a_region ?_
      refine r_step rfl (o_callIOp (q := (9, [])) (vs := [.rp _ _]) (args := [.rp (INH, []) _]) (cs0 := [.int _ _]) (cs1 := [.int _ _]) (res := .int _ _) rfl hb173 rfl (by decide) ⟨.inl rfl, trivial⟩ rfl rfl (next_c x.2.1 g2) rfl rfl rfl rfl rfl (Nat.le_of_ble_eq_true rfl) (by decide) rfl) ?_
      refine r_val (v := .int _ _) (v_move (.inl rfl) (noOwn_flat rfl)) rfl rfl (by decide) ?_
      refine r_val (v := .int .u64 ((2 ^ bitsLen (b - a) - 1 : Nat) : Int)) ((v_subu (.inl rfl) (.inl rfl) (fun _ => by omega)).cast (int_eq (by omega))) rfl rfl (by decide) ?_
      refine r_val (v := .int _ _) (v_andn (.inl rfl) (.inl rfl) (fun _ => by omega)) rfl rfl (by decide) ?_
      refine r_val (v := .int _ _) (v_conv iss152 uni3 (.inl rfl) (fun _ => IntWalk.i64_in _ (by omega))) rfl rfl (by decide) ?_
      refine r_val (v := .int _ _) (v_assign (.inl rfl) (noOwn_flat rfl)) rfl rfl (by decide) ?_
      refine r_nil ?_
      refine a_seq ?_
      refine a_seq ?_
      refine a_region ?_
      refine r_val (v := .int _ _) (v_move (.inl rfl) (noOwn_flat rfl)) rfl rfl (by decide) ?_
      refine r_val (v := .int _ _) (v_move (.inl rfl) (noOwn_flat rfl)) rfl rfl (by decide) ?_
      refine r_val (v := .bool _) (v_geq (.inl rfl) (.inl rfl)) rfl rfl (by decide) ?_
      refine r_nil ?_
      refine a_cond rfl (fun ht45 => ?_) (fun ht45 => ?_)
      ·
        skip
        refine a_region ?_
        refine r_val (v := .int _ _) (v_move (.inl rfl) (noOwn_flat rfl)) rfl rfl (by decide) ?_
        refine r_val (v := .int _ _) (v_move (.inl rfl) (noOwn_flat rfl)) rfl rfl (by decide) ?_
        refine r_val (v := .int _ _) (v_sub (.inl rfl) (.inl rfl) (fun _ => by omega)) rfl rfl (by decide) ?_
        refine r_val (v := .int _ _) (v_assign (.inl rfl) (noOwn_flat rfl)) rfl rfl (by decide) ?_
        refine r_nil ?_
        refine a_pre (ent_eq (t := 12) (v' := .int .i64 ((bpO (b - a) x.2.1 : Nat) : Int)) (Weak.of_eq (int_eq (by first | (have h45 := of_decide_eq_true ht45; rw [show bpO (b - a) x.2.1 = (xorNextN x.2.1 &&& (2 ^ bitsLen (b - a) - 1)) - (b - a) from if_pos (by omega)]; omega) | (have h45 := of_decide_eq_false ht45; rw [show bpO (b - a) x.2.1 = (xorNextN x.2.1 &&& (2 ^ bitsLen (b - a) - 1)) from if_neg (by omega)]))))) ?_
        have hp1 : (a + (b - a) / 4 * 2 - 1 + x.1) * 1 + 1 ≤ (acells x.2.2).length := (by rw [acells_length]; omega)
        have hp2 : (a + bpO (b - a) x.2.1) * 1 + 1 ≤ ((acells x.2.2).set ((a + (b - a) / 4 * 2 - 1 + x.1) * 1) (.int .i64 x.2.2[(a + bpO (b - a) x.2.1)]!)).length := (by rw [List.length_set, acells_length]; omega)
        have hset : ((acells x.2.2).set ((a + (b - a) / 4 * 2 - 1 + x.1) * 1) (.int .i64 x.2.2[(a + bpO (b - a) x.2.1)]!)).set ((a + bpO (b - a) x.2.1) * 1) (.int .i64 x.2.2[(a + (b - a) / 4 * 2 - 1 + x.1)]!) = acells (swp x.2.2 (a + (b - a) / 4 * 2 - 1 + x.1) (a + bpO (b - a) x.2.1)) := (by rw [Nat.mul_one, Nat.mul_one]; exact acells_swp _ _ _)
        refine a_region_w [(49, true), (50, true), (51, true), (52, true), (53, true), (54, true), (55, true), (56, true), (57, true), (58, true), (59, true), (60, true), (61, true), (62, true), (63, true), (64, true), (65, true), (INH, false), (66, true), (INH, false)] mixed (by kernel_rfl) ?_
        refine w_val (v := .rsl _ _ _ _ _) (v_move (.inl rfl) (noOwn_flat rfl)) rfl rfl (by decide) rfl (by kernel_rfl) ?_
        refine w_val (v := .int _ _) (v_move (.inl rfl) (noOwn_flat rfl)) rfl rfl (by decide) rfl (by kernel_rfl) ?_
        refine w_val (v := .rsl _ _ _ _ _) (v_move (.inl rfl) (noOwn_flat rfl)) rfl rfl (by decide) rfl (by kernel_rfl) ?_
        refine w_val (v := .int _ _) (v_move (.inl rfl) (noOwn_flat rfl)) rfl rfl (by decide) rfl (by kernel_rfl) ?_
        refine w_val (v := .int _ _) (v_move (.inl rfl) (noOwn_flat rfl)) rfl rfl (by decide) rfl (by kernel_rfl) ?_
        refine w_val (v := .int .i64 (((a + bpO (b - a) x.2.1) : Nat) : Int)) ((v_add (.inl rfl) (.inl rfl) (fun _ => by omega)).cast (int_eq (by omega))) rfl rfl (by decide) rfl (by kernel_rfl) ?_
        refine w_val (v := .rsl _ _ _ _ _) (v_move (.inl rfl) (noOwn_flat rfl)) rfl rfl (by decide) rfl (by kernel_rfl) ?_
        refine w_val (v := .int _ _) (v_move (.inl rfl) (noOwn_flat rfl)) rfl rfl (by decide) rfl (by kernel_rfl) ?_
        refine w_val (v := .int _ _) (v_move (.inl rfl) (noOwn_flat rfl)) rfl rfl (by decide) rfl (by kernel_rfl) ?_
        refine w_val (v := .int .i64 (((a + bpO (b - a) x.2.1) : Nat) : Int)) ((v_add (.inl rfl) (.inl rfl) (fun _ => by omega)).cast (int_eq (by omega))) rfl rfl (by decide) rfl (by kernel_rfl) ?_
        refine w_val (v := .rp _ _) (v_indexAddr_rsl0 es25 (.inl rfl) (.inl rfl) (fun _ => by omega)) rfl rfl (by decide) rfl (by kernel_rfl) ?_
        refine w_val (v := .int .i64 x.2.2[(a + bpO (b - a) x.2.1)]!) (v_load_rp1 ta3 (.inl rfl) rfl (fun _ => by rw [Nat.mul_one]; exact acells_get (by omega)) rfl) rfl rfl (by decide) rfl (by kernel_rfl) ?_
        refine w_val (v := .rsl _ _ _ _ _) (v_move (.inl rfl) (noOwn_flat rfl)) rfl rfl (by decide) rfl (by kernel_rfl) ?_
        refine w_val (v := .int _ _) (v_move (.inl rfl) (noOwn_flat rfl)) rfl rfl (by decide) rfl (by kernel_rfl) ?_
        refine w_val (v := .rp _ _) (v_indexAddr_rsl0 es25 (.inl rfl) (.inl rfl) (fun _ => by omega)) rfl rfl (by decide) rfl (by kernel_rfl) ?_
        refine w_val (v := .int .i64 x.2.2[(a + (b - a) / 4 * 2 - 1 + x.1)]!) (v_load_rp1 ta3 (.inl rfl) rfl (fun _ => by rw [Nat.mul_one]; exact acells_get (by omega)) rfl) rfl rfl (by decide) rfl (by kernel_rfl) ?_
        refine w_val (v := .rp _ _) (v_indexAddr_rsl0 es25 (.inl rfl) (.inl rfl) (fun _ => by omega)) rfl rfl (by decide) rfl (by kernel_rfl) ?_
        refine w_store (v := .int _ _) (y' := .osl _ _ _ _) rfl rfl rfl ta3 (.inl rfl) (.inl rfl) rfl rfl rfl rfl rfl rfl hp1 (by decide) rfl rfl rfl (by kernel_rfl) ?_
        refine w_val (v := .rp _ _) (v_indexAddr_rsl0 es25 (.inl rfl) (.inl rfl) (fun _ => by omega)) rfl rfl (by decide) rfl (by kernel_rfl) ?_
        refine w_store (v := .int _ _) (y' := .osl _ _ _ _) rfl rfl rfl ta3 (.inl rfl) (.inl rfl) rfl rfl rfl rfl rfl rfl hp2 (by decide) rfl (congrArg (fun c => AV.osl 1 c n none) hset) rfl (by kernel_rfl) ?_
        refine w_nil ?_
        refine a_pre (ent_look (L := [(0, .rsl _ _ _ _ _), (1, .int _ _), (8, .int _ _), (9, .op [.int _ _]), (10, .int _ _), (11, .int _ _), (INH, .osl _ _ _ _)]) ⟨Weak.rfl, Weak.rfl, Weak.rfl, Weak.rfl, Weak.rfl, Weak.rfl, Weak.rfl, trivial⟩) ?_
        refine a_region ?_
        refine r_val (v := .int _ _) (v_move (.inl rfl) (noOwn_flat rfl)) rfl rfl (by decide) ?_
        refine r_val (v := .int _ _) (v_add (.inl rfl) (.inl rfl) (fun _ => by omega)) rfl rfl (by decide) ?_
        refine r_val (v := .int _ _) (v_assign (.inl rfl) (noOwn_flat rfl)) rfl rfl (by decide) ?_
        refine r_nil ?_
        refine ⟨(x.1 + 1, xorNextN x.2.1, swp x.2.2 (a + (b - a) / 4 * 2 - 1 + x.1) (a + bpO (b - a) x.2.1)), ent_look ⟨Weak.of_eq rfl, Weak.of_eq rfl, Weak.of_eq rfl, Weak.of_eq rfl, Weak.of_eq rfl, Weak.of_eq (int_eq (by dsimp only; omega)), Weak.of_eq rfl, trivial⟩, ⟨by dsimp only; omega, xorNextN_lt _ g2, by rw [swp_size]; exact g3, by rw [← g4, show 3 - x.1 = (3 - (x.1 + 1)) + 1 by omega]; rfl⟩, by dsimp only; omega⟩
      ·
        skip
        refine a_skip ?_
        refine a_pre (ent_eq (t := 12) (v' := .int .i64 ((bpO (b - a) x.2.1 : Nat) : Int)) (Weak.of_eq (int_eq (by first | (have h45 := of_decide_eq_true ht45; rw [show bpO (b - a) x.2.1 = (xorNextN x.2.1 &&& (2 ^ bitsLen (b - a) - 1)) - (b - a) from if_pos (by omega)]; omega) | (have h45 := of_decide_eq_false ht45; rw [show bpO (b - a) x.2.1 = (xorNextN x.2.1 &&& (2 ^ bitsLen (b - a) - 1)) from if_neg (by omega)]))))) ?_
        have hp1 : (a + (b - a) / 4 * 2 - 1 + x.1) * 1 + 1 ≤ (acells x.2.2).length := (by rw [acells_length]; omega)
        have hp2 : (a + bpO (b - a) x.2.1) * 1 + 1 ≤ ((acells x.2.2).set ((a + (b - a) / 4 * 2 - 1 + x.1) * 1) (.int .i64 x.2.2[(a + bpO (b - a) x.2.1)]!)).length := (by rw [List.length_set, acells_length]; omega)
        have hset : ((acells x.2.2).set ((a + (b - a) / 4 * 2 - 1 + x.1) * 1) (.int .i64 x.2.2[(a + bpO (b - a) x.2.1)]!)).set ((a + bpO (b - a) x.2.1) * 1) (.int .i64 x.2.2[(a + (b - a) / 4 * 2 - 1 + x.1)]!) = acells (swp x.2.2 (a + (b - a) / 4 * 2 - 1 + x.1) (a + bpO (b - a) x.2.1)) := (by rw [Nat.mul_one, Nat.mul_one]; exact acells_swp _ _ _)
        refine a_region_w [(49, true), (50, true), (51, true), (52, true), (53, true), (54, true), (55, true), (56, true), (57, true), (58, true), (59, true), (60, true), (61, true), (62, true), (63, true), (64, true), (65, true), (INH, false), (66, true), (INH, false)] mixed (by kernel_rfl) ?_
        refine w_val (v := .rsl _ _ _ _ _) (v_move (.inl rfl) (noOwn_flat rfl)) rfl rfl (by decide) rfl (by kernel_rfl) ?_
        refine w_val (v := .int _ _) (v_move (.inl rfl) (noOwn_flat rfl)) rfl rfl (by decide) rfl (by kernel_rfl) ?_
        refine w_val (v := .rsl _ _ _ _ _) (v_move (.inl rfl) (noOwn_flat rfl)) rfl rfl (by decide) rfl (by kernel_rfl) ?_
        refine w_val (v := .int _ _) (v_move (.inl rfl) (noOwn_flat rfl)) rfl rfl (by decide) rfl (by kernel_rfl) ?_
        refine w_val (v := .int _ _) (v_move (.inl rfl) (noOwn_flat rfl)) rfl rfl (by decide) rfl (by kernel_rfl) ?_
        refine w_val (v := .int .i64 (((a + bpO (b - a) x.2.1) : Nat) : Int)) ((v_add (.inl rfl) (.inl rfl) (fun _ => by omega)).cast (int_eq (by omega))) rfl rfl (by decide) rfl (by kernel_rfl) ?_
        refine w_val (v := .rsl _ _ _ _ _) (v_move (.inl rfl) (noOwn_flat rfl)) rfl rfl (by decide) rfl (by kernel_rfl) ?_
        refine w_val (v := .int _ _) (v_move (.inl rfl) (noOwn_flat rfl)) rfl rfl (by decide) rfl (by kernel_rfl) ?_
        refine w_val (v := .int _ _) (v_move (.inl rfl) (noOwn_flat rfl)) rfl rfl (by decide) rfl (by kernel_rfl) ?_
        refine w_val (v := .int .i64 (((a + bpO (b - a) x.2.1) : Nat) : Int)) ((v_add (.inl rfl) (.inl rfl) (fun _ => by omega)).cast (int_eq (by omega))) rfl rfl (by decide) rfl (by kernel_rfl) ?_
        refine w_val (v := .rp _ _) (v_indexAddr_rsl0 es25 (.inl rfl) (.inl rfl) (fun _ => by omega)) rfl rfl (by decide) rfl (by kernel_rfl) ?_
        refine w_val (v := .int .i64 x.2.2[(a + bpO (b - a) x.2.1)]!) (v_load_rp1 ta3 (.inl rfl) rfl (fun _ => by rw [Nat.mul_one]; exact acells_get (by omega)) rfl) rfl rfl (by decide) rfl (by kernel_rfl) ?_
        refine w_val (v := .rsl _ _ _ _ _) (v_move (.inl rfl) (noOwn_flat rfl)) rfl rfl (by decide) rfl (by kernel_rfl) ?_
        refine w_val (v := .int _ _) (v_move (.inl rfl) (noOwn_flat rfl)) rfl rfl (by decide) rfl (by kernel_rfl) ?_
        refine w_val (v := .rp _ _) (v_indexAddr_rsl0 es25 (.inl rfl) (.inl rfl) (fun _ => by omega)) rfl rfl (by decide) rfl (by kernel_rfl) ?_
        refine w_val (v := .int .i64 x.2.2[(a + (b - a) / 4 * 2 - 1 + x.1)]!) (v_load_rp1 ta3 (.inl rfl) rfl (fun _ => by rw [Nat.mul_one]; exact acells_get (by omega)) rfl) rfl rfl (by decide) rfl (by kernel_rfl) ?_
        refine w_val (v := .rp _ _) (v_indexAddr_rsl0 es25 (.inl rfl) (.inl rfl) (fun _ => by omega)) rfl rfl (by decide) rfl (by kernel_rfl) ?_
        refine w_store (v := .int _ _) (y' := .osl _ _ _ _) rfl rfl rfl ta3 (.inl rfl) (.inl rfl) rfl rfl rfl rfl rfl rfl hp1 (by decide) rfl rfl rfl (by kernel_rfl) ?_
        refine w_val (v := .rp _ _) (v_indexAddr_rsl0 es25 (.inl rfl) (.inl rfl) (fun _ => by omega)) rfl rfl (by decide) rfl (by kernel_rfl) ?_
        refine w_store (v := .int _ _) (y' := .osl _ _ _ _) rfl rfl rfl ta3 (.inl rfl) (.inl rfl) rfl rfl rfl rfl rfl rfl hp2 (by decide) rfl (congrArg (fun c => AV.osl 1 c n none) hset) rfl (by kernel_rfl) ?_
        refine w_nil ?_
        refine a_pre (ent_look (L := [(0, .rsl _ _ _ _ _), (1, .int _ _), (8, .int _ _), (9, .op [.int _ _]), (10, .int _ _), (11, .int _ _), (INH, .osl _ _ _ _)]) ⟨Weak.rfl, Weak.rfl, Weak.rfl, Weak.rfl, Weak.rfl, Weak.rfl, Weak.rfl, trivial⟩) ?_
        refine a_region ?_
        refine r_val (v := .int _ _) (v_move (.inl rfl) (noOwn_flat rfl)) rfl rfl (by decide) ?_
        refine r_val (v := .int _ _) (v_add (.inl rfl) (.inl rfl) (fun _ => by omega)) rfl rfl (by decide) ?_
        refine r_val (v := .int _ _) (v_assign (.inl rfl) (noOwn_flat rfl)) rfl rfl (by decide) ?_
        refine r_nil ?_
        refine ⟨(x.1 + 1, xorNextN x.2.1, swp x.2.2 (a + (b - a) / 4 * 2 - 1 + x.1) (a + bpO (b - a) x.2.1)), ent_look ⟨Weak.of_eq rfl, Weak.of_eq rfl, Weak.of_eq rfl, Weak.of_eq rfl, Weak.of_eq rfl, Weak.of_eq (int_eq (by dsimp only; omega)), Weak.of_eq rfl, trivial⟩, ⟨by dsimp only; omega, xorNextN_lt _ g2, by rw [swp_size]; exact g3, by rw [← g4, show 3 - x.1 = (3 - (x.1 + 1)) + 1 by omega]; rfl⟩, by dsimp only; omega⟩
    ·
      skip
      refine a_exit ?_
      refine ret0_look Try.results162 (by decide) ?_ rfl
      exact Weak.of_eq (osl_eq (by rw [← g4, show 3 - x.1 = 0 by simp at ht35; omega]; rfl))
  ·
    skip
    refine a_skip ?_
    refine ret0_look Try.results162 (by decide) ?_ rfl
    exact Weak.of_eq (osl_eq (by unfold breakPatterns; simp only []; rw [if_neg (by simp at ht17; omega)]))
end Go.Av
namespace Go.Av
open Go Go.Proofs Go.Sort
set_option maxRecDepth 10000
theorem hb151 : hasBody Try.prog 151 = true := by kernel_rfl
theorem hb160 : hasBody Try.prog 160 = true := by kernel_rfl
theorem hb161 : hasBody Try.prog 161 = true := by kernel_rfl
theorem hb162 : hasBody Try.prog 162 = true := by kernel_rfl
theorem hb163 : hasBody Try.prog 163 = true := by kernel_rfl
theorem hb164 : hasBody Try.prog 164 = true := by kernel_rfl
theorem hb165 : hasBody Try.prog 165 = true := by kernel_rfl
theorem hb166 : hasBody Try.prog 166 = true := by kernel_rfl
theorem hb167 : hasBody Try.prog 167 = true := by kernel_rfl

theorem pdq_step (f : Nat) (hb : hasBody Try.prog f = true) (cf : Int → Int → Int) (hc : ∀ x y, ACall Try.prog f [.int .i64 x, .int .i64 y] [] (.int .i64 (cf x y)) []) (hS : SWO (ltc cf)) (n N : Nat) (hn : n ≤ 1152921504606846976) (ih : ∀ (d' : Array Int) (a' b' l' : Nat), d'.size = n → a' ≤ b' → b' ≤ n → b' - a' < N → l' ≤ 100 → Below (ltc cf) a' b' d' → ACall Try.prog 151 [.rsl (INH, []) 1 0 n none, .int .i64 ((a' : Nat) : Int), .int .i64 ((b' : Nat) : Int), .int .i64 ((l' : Nat) : Int), .fn f [] []] [.osl 1 (acells d') n none] (.tup []) [.osl 1 (acells (pdq (ltc cf) d' a' b' l' true true)) n none]) (d : Array Int) (a b limit : Nat) (hd : d.size = n) (hab : a ≤ b ∧ b ≤ n ∧ b - a ≤ N ∧ limit ≤ 100) (hB : Below (ltc cf) a b d)  : ACall Try.prog 151 [.rsl (INH, []) 1 0 n none, .int .i64 ((a : Nat) : Int), .int .i64 ((b : Nat) : Int), .int .i64 ((limit : Nat) : Int), .fn f [] []] [.osl 1 (acells d) n none] (.tup []) [.osl 1 (acells (pdq (ltc cf) d a b limit true true)) n none] := by
  refine ACall.intro Try.func151 rfl (N := 148) rfl (by decide) (by simp) ?_
  refine a_seq ?_
  refine a_region ?_
  refine r_val (v := .bool _) (v_assign (.inl rfl) (noOwn_flat rfl)) rfl rfl (by decide) ?_
  refine r_nil ?_
  refine a_seq ?_
  refine a_region ?_
  refine r_val (v := .bool _) (v_assign (.inl rfl) (noOwn_flat rfl)) rfl rfl (by decide) ?_
  refine r_nil ?_
  refine a_block ?_
  refine a_loop (X := PS) (fun x => look [(0, .rsl (INH, []) 1 0 n none), (1, .int .i64 ((x.a : Nat) : Int)), (2, .int .i64 ((x.b : Nat) : Int)), (3, .int .i64 ((x.lim : Nat) : Int)), (4, .fn f [] []), (10, .bool x.wb), (11, .bool x.wp), (INH, .osl 1 (acells x.d) n none)]) (fun x => PInv (ltc cf) n N (pdq (ltc cf) d a b limit true true) x) (fun x => x.b - x.a) ⟨a, b, limit, true, true, d⟩ (ent_look ⟨Weak.of_eq rfl, Weak.of_eq rfl, Weak.of_eq rfl, Weak.of_eq rfl, Weak.of_eq rfl, Weak.of_eq rfl, Weak.of_eq rfl, Weak.of_eq rfl, trivial⟩) ⟨hab.1, hab.2.1, hab.2.2.1, hab.2.2.2, hd, hB, rfl⟩ (fun x hG => ?_)
  have hP := hG
  obtain ⟨g1, g2, g3, g4, g5, g6, g7⟩ := hG
  refine a_block ?_
  refine a_seq ?_
  refine a_region ?_
  refine r_val (v := .int _ _) (v_move (.inl rfl) (noOwn_flat rfl)) rfl rfl (by decide) ?_
  refine r_val (v := .int _ _) (v_move (.inl rfl) (noOwn_flat rfl)) rfl rfl (by decide) ?_
  refine r_val (v := .int .i64 ((x.b - x.a : Nat) : Int)) ((v_sub (.inl rfl) (.inl rfl) (fun _ => by omega)).cast (int_eq (by omega))) rfl rfl (by decide) ?_
  refine r_val (v := .int _ _) (v_assign (.inl rfl) (noOwn_flat rfl)) rfl rfl (by decide) ?_
  refine r_nil ?_
  refine a_seq ?_
  refine a_seq ?_
  refine a_region ?_
  refine r_val (v := .int _ _) (v_move (.inl rfl) (noOwn_flat rfl)) rfl rfl (by decide) ?_
  refine r_val (v := .bool _) (v_leq (.inl rfl) (.inl rfl)) rfl rfl (by decide) ?_
  refine r_nil ?_
  refine a_cond rfl (fun ht25 => ?_) (fun ht25 => ?_)
  ·
    skip
    refine a_seq ?_
    have h12 : x.b - x.a ≤ 12 := (by simp at ht25; omega)
    refine a_region ?_
    refine r_val (v := .rsl _ _ _ _ _) (v_move (.inl rfl) (noOwn_flat rfl)) rfl rfl (by decide) ?_
    refine r_val (v := .int _ _) (v_move (.inl rfl) (noOwn_flat rfl)) rfl rfl (by decide) ?_
    refine r_val (v := .int _ _) (v_move (.inl rfl) (noOwn_flat rfl)) rfl rfl (by decide) ?_
    refine r_val (v := .fn _ _ _) (v_mv rfl) rfl rfl (by decide) ?_
    refine r_step rfl (o_callIO (q := (INH, [])) (vs := [.rsl _ _ _ _ _, .int _ _, .int _ _, .fn _ _ _]) (args := [.rsl (INH, []) _ _ _ _, .int .i64 _, .int .i64 _, .fn _ _ _]) (x0 := .osl _ _ _ _) (x1 := .osl _ _ _ _) (res := .tup []) rfl hb160 rfl (by decide) ⟨.inl rfl, .inl rfl, .inl rfl, .inl rfl, trivial⟩ rfl rfl (insertion_c f hb cf hc x.d n x.a x.b g5 (by omega) (by omega)) rfl rfl rfl (ac_noSh _) (ac_noRef _) (Nat.le_of_ble_eq_true rfl) (by decide) rfl) ?_
    refine r_nil ?_
    refine a_ret ?_
    refine ret0_look Try.results151 (by decide) ?_ rfl
    exact Weak.of_eq (osl_eq (by rw [← g7, pdq_small h12]))
  ·
    skip
    refine a_skip ?_
    refine a_seq ?_
    refine a_seq ?_
    refine a_region ?_
    refine r_val (v := .int _ _) (v_move (.inl rfl) (noOwn_flat rfl)) rfl rfl (by decide) ?_
    refine r_val (v := .bool _) (v_eql (.inl rfl) (.inl rfl)) rfl rfl (by decide) ?_
    refine r_nil ?_
    refine a_cond rfl (fun ht32 => ?_) (fun ht32 => ?_)
    ·
      skip
      refine a_seq ?_
      have h12 : ¬ x.b - x.a ≤ 12 := (by simp at ht25; omega)
      have h0 : x.lim = 0 := (by simp at ht32; omega)
      refine a_region ?_
      refine r_val (v := .rsl _ _ _ _ _) (v_move (.inl rfl) (noOwn_flat rfl)) rfl rfl (by decide) ?_
      refine r_val (v := .int _ _) (v_move (.inl rfl) (noOwn_flat rfl)) rfl rfl (by decide) ?_
      refine r_val (v := .int _ _) (v_move (.inl rfl) (noOwn_flat rfl)) rfl rfl (by decide) ?_
      refine r_val (v := .fn _ _ _) (v_mv rfl) rfl rfl (by decide) ?_
      refine r_step rfl (o_callIOk (q := (INH, [])) (vs := [.rsl _ _ _ _ _, .int _ _, .int _ _, .fn _ _ _]) (args := [.rsl (INH, []) _ _ _ _, .int .i64 _, .int .i64 _, .fn _ _ _]) (x0 := .osl _ _ _ _) (x1 := .osl _ _ _ _) (res := .tup []) rfl hb161 rfl (by decide) ⟨.inl rfl, .inl rfl, .inl rfl, .inl rfl, trivial⟩ rfl rfl (heapSort_c f hb cf hc x.d n x.a x.b g5 (by omega) hn) (by simp [stays]; omega) rfl rfl rfl (ac_noSh _) (ac_noRef _) (Nat.le_of_ble_eq_true rfl) (by decide) rfl) ?_
      refine r_nil ?_
      refine a_ret ?_
      refine ret0_look Try.results151 (by decide) ?_ rfl
      exact Weak.of_eq (osl_eq (by rw [← g7, pdq_heap h12 h0]))
    ·
      skip
      refine a_skip ?_
      refine a_join (X := Unit) (fun _u => look [(0, .rsl (INH, []) 1 0 n none), (1, .int .i64 ((x.a : Nat) : Int)), (2, .int .i64 ((x.b : Nat) : Int)), (3, .int .i64 (((x.rd (ltc cf)).lim : Nat) : Int)), (4, .fn f [] []), (10, .bool x.wb), (11, .bool x.wp), (12, .int .i64 ((x.b - x.a : Nat) : Int)), (INH, .osl 1 (acells (x.rd (ltc cf)).d1) n none)]) (fun _u => True) ?_ (fun _u hJ => ?_)
      ·
        skip
        refine a_seq ?_
        have h12 : ¬ x.b - x.a ≤ 12 := (by simp at ht25; omega)
        have h0 : ¬ x.lim = 0 := (by simp at ht32; omega)
        have hf := hP.facts hS h12
        refine a_region ?_
        refine r_val (v := .bool _) (v_move (.inl rfl) (noOwn_flat rfl)) rfl rfl (by decide) ?_
        refine r_val (v := .bool _) (v_not (.inl rfl)) rfl rfl (by decide) ?_
        refine r_nil ?_
        refine a_cond rfl (fun ht39 => ?_) (fun ht39 => ?_)
        ·
          skip
          refine a_seq ?_
          refine a_region ?_
          refine r_val (v := .rsl _ _ _ _ _) (v_move (.inl rfl) (noOwn_flat rfl)) rfl rfl (by decide) ?_
          refine r_val (v := .int _ _) (v_move (.inl rfl) (noOwn_flat rfl)) rfl rfl (by decide) ?_
          refine r_val (v := .int _ _) (v_move (.inl rfl) (noOwn_flat rfl)) rfl rfl (by decide) ?_
          refine r_val (v := .fn _ _ _) (v_mv rfl) rfl rfl (by decide) ?_
          refine r_step rfl (o_callIOk (q := (INH, [])) (vs := [.rsl _ _ _ _ _, .int _ _, .int _ _, .fn _ _ _]) (args := [.rsl (INH, []) _ _ _ _, .int .i64 _, .int .i64 _, .fn _ _ _]) (x0 := .osl _ _ _ _) (x1 := .osl _ _ _ _) (res := .tup []) rfl hb162 rfl (by decide) ⟨.inl rfl, .inl rfl, .inl rfl, .inl rfl, trivial⟩ rfl rfl (breakPatterns_c f x.d n x.a x.b g5 (by omega) hn) (by simp [stays]; omega) rfl rfl rfl (ac_noSh _) (ac_noRef _) (Nat.le_of_ble_eq_true rfl) (by decide) rfl) ?_
          refine r_nil ?_
          refine a_region ?_
          refine r_val (v := .int _ _) (v_move (.inl rfl) (noOwn_flat rfl)) rfl rfl (by decide) ?_
          refine r_val (v := .int _ _) (v_sub (.inl rfl) (.inl rfl) (fun _ => by omega)) rfl rfl (by decide) ?_
          refine r_val (v := .int _ _) (v_assign (.inl rfl) (noOwn_flat rfl)) rfl rfl (by decide) ?_
          refine r_nil ?_
          have hw : x.wb = false := (by simpa using ht39)
          have hl := (rdF (lt := (ltc cf)) hw)
          exact ⟨(), ent_look ⟨Weak.of_eq rfl, Weak.of_eq rfl, Weak.of_eq rfl, Weak.of_eq (int_eq (by have := hl.1; omega)), Weak.of_eq rfl, Weak.of_eq rfl, Weak.of_eq rfl, Weak.of_eq rfl, Weak.of_eq (osl_eq (by rw [hl.2])), trivial⟩, trivial⟩
        ·
          skip
          refine a_skip ?_
          have hw : x.wb = true := (by simpa using ht39)
          have hl := (rdT (lt := (ltc cf)) hw)
          exact ⟨(), ent_look ⟨Weak.of_eq rfl, Weak.of_eq rfl, Weak.of_eq rfl, Weak.of_eq (int_eq (by have := hl.1; omega)), Weak.of_eq rfl, Weak.of_eq rfl, Weak.of_eq rfl, Weak.of_eq rfl, Weak.of_eq (osl_eq (by rw [hl.2])), trivial⟩, trivial⟩
      ·
        skip
        have h12 : ¬ x.b - x.a ≤ 12 := (by simp at ht25; omega)
        have h0 : ¬ x.lim = 0 := (by simp at ht32; omega)
        have hf := hP.facts hS h12
        refine a_seq ?_
        refine a_region ?_
        refine r_val (v := .rsl _ _ _ _ _) (v_move (.inl rfl) (noOwn_flat rfl)) rfl rfl (by decide) ?_
        refine r_val (v := .int _ _) (v_move (.inl rfl) (noOwn_flat rfl)) rfl rfl (by decide) ?_
        refine r_val (v := .int _ _) (v_move (.inl rfl) (noOwn_flat rfl)) rfl rfl (by decide) ?_
        refine r_val (v := .fn _ _ _) (v_mv rfl) rfl rfl (by decide) ?_
        refine r_new (v := .tup [.int _ _, .int _ _]) (q_call (vs := [.rsl _ _ _ _ _, .int _ _, .int _ _, .fn _ _ _]) (args := [.sl _ _, .int .i64 _, .int .i64 _, .fn _ _ _]) hb163 ⟨.inl rfl, .inl rfl, .inl rfl, .inl rfl, trivial⟩ (l4_eq (sl_sh (ac_pure _)) rfl rfl rfl) (fun hA => choosePivot_c f hb cf hc _ n x.a x.b hf.1 (by omega) hn) rfl rfl) rfl rfl (by decide) ?_
        refine r_val (v := .tup [.int _ _, .int _ _]) (v_mv rfl) rfl rfl (by decide) ?_
        refine r_val (v := .int .i64 (((x.rd (ltc cf)).c.1 : Nat) : Int)) ((v_extract rfl rfl).cast (int_eq rfl)) rfl rfl (by decide) ?_
        refine r_val (v := .int .i64 ((hintN (x.rd (ltc cf)).c.2 : Nat) : Int)) ((v_extract rfl rfl).cast (int_eq rfl)) rfl rfl (by decide) ?_
        refine r_val (v := .int _ _) (v_assign (.inl rfl) (noOwn_flat rfl)) rfl rfl (by decide) ?_
        refine r_val (v := .int _ _) (v_assign (.inl rfl) (noOwn_flat rfl)) rfl rfl (by decide) ?_
        refine r_nil ?_
        refine a_join (X := Unit) (fun _u => look [(0, .rsl (INH, []) 1 0 n none), (1, .int .i64 ((x.a : Nat) : Int)), (2, .int .i64 ((x.b : Nat) : Int)), (3, .int .i64 (((x.rd (ltc cf)).lim : Nat) : Int)), (4, .fn f [] []), (10, .bool x.wb), (11, .bool x.wp), (12, .int .i64 ((x.b - x.a : Nat) : Int)), (13, .int .i64 (((x.rd (ltc cf)).pivot : Nat) : Int)), (14, .int .i64 ((hintN (x.rd (ltc cf)).hint : Nat) : Int)), (INH, .osl 1 (acells (x.rd (ltc cf)).d2) n none)]) (fun _u => True) ?_ (fun _u hJ => ?_)
        ·
          skip
          refine a_seq ?_
          refine a_region ?_
          refine r_val (v := .int _ _) (v_move (.inl rfl) (noOwn_flat rfl)) rfl rfl (by decide) ?_
          refine r_val (v := .bool _) (v_eql (.inl rfl) (.inl rfl)) rfl rfl (by decide) ?_
          refine r_nil ?_
          refine a_cond rfl (fun ht56 => ?_) (fun ht56 => ?_)
          ·
            skip
            refine a_seq ?_
            refine a_region ?_
            refine r_val (v := .rsl _ _ _ _ _) (v_move (.inl rfl) (noOwn_flat rfl)) rfl rfl (by decide) ?_
            refine r_val (v := .int _ _) (v_move (.inl rfl) (noOwn_flat rfl)) rfl rfl (by decide) ?_
            refine r_val (v := .int _ _) (v_move (.inl rfl) (noOwn_flat rfl)) rfl rfl (by decide) ?_
            refine r_val (v := .fn _ _ _) (v_mv rfl) rfl rfl (by decide) ?_
            refine r_step rfl (o_callIOk (q := (INH, [])) (vs := [.rsl _ _ _ _ _, .int _ _, .int _ _, .fn _ _ _]) (args := [.rsl (INH, []) _ _ _ _, .int .i64 _, .int .i64 _, .fn _ _ _]) (x0 := .osl _ _ _ _) (x1 := .osl _ _ _ _) (res := .tup []) rfl hb164 rfl (by decide) ⟨.inl rfl, .inl rfl, .inl rfl, .inl rfl, trivial⟩ rfl rfl (reverse_c f _ n x.a x.b hf.1 (by omega) hn) (by simp [stays]; omega) rfl rfl rfl (ac_noSh _) (ac_noRef _) (Nat.le_of_ble_eq_true rfl) (by decide) rfl) ?_
            refine r_nil ?_
            refine a_seq ?_
            refine a_region ?_
            refine r_val (v := .int _ _) (v_move (.inl rfl) (noOwn_flat rfl)) rfl rfl (by decide) ?_
            refine r_val (v := .int _ _) (v_sub (.inl rfl) (.inl rfl) (fun _ => by omega)) rfl rfl (by decide) ?_
            refine r_val (v := .int _ _) (v_move (.inl rfl) (noOwn_flat rfl)) rfl rfl (by decide) ?_
            refine r_val (v := .int _ _) (v_move (.inl rfl) (noOwn_flat rfl)) rfl rfl (by decide) ?_
            refine r_val (v := .int _ _) (v_sub (.inl rfl) (.inl rfl) (fun _ => by omega)) rfl rfl (by decide) ?_
            refine r_val (v := .int _ _) (v_sub (.inl rfl) (.inl rfl) (fun _ => by omega)) rfl rfl (by decide) ?_
            refine r_val (v := .int _ _) (v_assign (.inl rfl) (noOwn_flat rfl)) rfl rfl (by decide) ?_
            refine r_nil ?_
            refine a_pre (ent_look (L := [(0, .rsl _ _ _ _ _), (1, .int _ _), (2, .int _ _), (3, .int _ _), (4, .fn _ _ _), (10, .bool _), (11, .bool _), (12, .int _ _), (13, .int _ _), (14, .int _ _), (INH, .osl _ _ _ _)]) ⟨Weak.rfl, Weak.rfl, Weak.rfl, Weak.rfl, Weak.rfl, Weak.rfl, Weak.rfl, Weak.rfl, Weak.rfl, Weak.rfl, Weak.rfl, trivial⟩) ?_
            refine a_region ?_
            refine r_val (v := .int _ _) (v_assign (.inl rfl) (noOwn_flat rfl)) rfl rfl (by decide) ?_
            refine r_nil ?_
            have hd2 := rd_dec (lt := (ltc cf)) (hintN_two.1 (of_decide_eq_true ht56) : (x.rd (ltc cf)).c.2 = .decreasing)
            exact ⟨(), ent_look ⟨Weak.of_eq rfl, Weak.of_eq rfl, Weak.of_eq rfl, Weak.of_eq rfl, Weak.of_eq rfl, Weak.of_eq rfl, Weak.of_eq rfl, Weak.of_eq rfl, Weak.of_eq (int_eq (by have h1 := hd2.2.1; have h2 := hf.2.1; dsimp only [PS.rd] at *; omega)), Weak.of_eq (int_eq (by rw [hd2.2.2]; rfl)), Weak.of_eq (osl_eq (by rw [hd2.1])), trivial⟩, trivial⟩
          ·
            skip
            refine a_skip ?_
            have hd2 := rd_not (lt := (ltc cf)) (fun h => of_decide_eq_false ht56 (hintN_two.2 h) : (x.rd (ltc cf)).c.2 ≠ .decreasing)
            exact ⟨(), ent_look ⟨Weak.of_eq rfl, Weak.of_eq rfl, Weak.of_eq rfl, Weak.of_eq rfl, Weak.of_eq rfl, Weak.of_eq rfl, Weak.of_eq rfl, Weak.of_eq rfl, Weak.of_eq (int_eq (by rw [hd2.2.1])), Weak.of_eq (int_eq (by rw [hd2.2.2])), Weak.of_eq (osl_eq (by rw [hd2.1])), trivial⟩, trivial⟩
        ·
          skip
          refine a_join (X := Unit) (fun _u => look [(0, .rsl (INH, []) 1 0 n none), (1, .int .i64 ((x.a : Nat) : Int)), (2, .int .i64 ((x.b : Nat) : Int)), (3, .int .i64 (((x.rd (ltc cf)).lim : Nat) : Int)), (4, .fn f [] []), (10, .bool x.wb), (11, .bool x.wp), (12, .int .i64 ((x.b - x.a : Nat) : Int)), (13, .int .i64 (((x.rd (ltc cf)).pivot : Nat) : Int)), (INH, .osl 1 (acells (x.rd (ltc cf)).pi.1) n none)]) (fun _u => (x.rd (ltc cf)).pi.2 = false) ?_ (fun _u hJ => ?_)
          ·
            skip
            refine a_seq ?_
            refine a_region ?_
            refine r_val (v := .bool _) (v_move (.inl rfl) (noOwn_flat rfl)) rfl rfl (by decide) ?_
            refine r_val (v := .bool _) (v_move (.inl rfl) (noOwn_flat rfl)) rfl rfl (by decide) ?_
            refine r_gval (v := .bool _) (v_move (.inl rfl) (noOwn_flat rfl)) rfl rfl rfl (by decide) (.inl ⟨_, rfl, rfl⟩) rfl (by decide) ?_
            refine r_val (v := .bool _) (v_pick (.inl rfl) (.inr ⟨_, rfl, fun h h2 => by simp_all⟩) (.inl rfl)) rfl rfl (by decide) ?_
            refine r_val (v := .bool _) (v_move (.inl rfl) (noOwn_flat rfl)) rfl rfl (by decide) ?_
            refine r_gval (v := .int _ _) (v_move (.inl rfl) (noOwn_flat rfl)) rfl rfl rfl (by decide) (.inl ⟨_, rfl, rfl⟩) rfl (by decide) ?_
            refine r_gval (v := .bool _) (v_eql (.inr ⟨_, rfl, fun h => h⟩) (.inl rfl)) rfl rfl rfl (by decide) (.inl ⟨_, rfl, rfl⟩) rfl (by decide) ?_
            refine r_val (v := .bool _) (v_pick (.inl rfl) (.inr ⟨_, rfl, fun h h2 => by simp_all⟩) (.inl rfl)) rfl rfl (by decide) ?_
            refine r_nil ?_
            refine a_cond rfl (fun ht75 => ?_) (fun ht75 => ?_)
            ·
              skip
              refine a_seq ?_
              have hpi := rd_pi_yes (lt := (ltc cf)) (d := x.d) (a := x.a) (b := x.b) (limit := x.lim) (wb := x.wb) (wp := x.wp) (pi_cond ht75)
              refine a_region ?_
              refine r_val (v := .rsl _ _ _ _ _) (v_move (.inl rfl) (noOwn_flat rfl)) rfl rfl (by decide) ?_
              refine r_val (v := .int _ _) (v_move (.inl rfl) (noOwn_flat rfl)) rfl rfl (by decide) ?_
              refine r_val (v := .int _ _) (v_move (.inl rfl) (noOwn_flat rfl)) rfl rfl (by decide) ?_
              refine r_val (v := .fn _ _ _) (v_mv rfl) rfl rfl (by decide) ?_
              refine r_step rfl (o_callIOk (q := (INH, [])) (vs := [.rsl _ _ _ _ _, .int _ _, .int _ _, .fn _ _ _]) (args := [.rsl (INH, []) _ _ _ _, .int .i64 _, .int .i64 _, .fn _ _ _]) (x0 := .osl _ _ _ _) (x1 := .osl _ _ _ _) (res := .bool _) rfl hb165 rfl (by decide) ⟨.inl rfl, .inl rfl, .inl rfl, .inl rfl, trivial⟩ rfl rfl (partialIns_c f hb cf hc _ n x.a x.b hf.2.2.1 (by omega) hn) (by simp [stays]; omega) rfl rfl rfl (ac_noSh _) (ac_noRef _) (Nat.le_of_ble_eq_true rfl) (by decide) rfl) ?_
              refine r_nil ?_
              refine a_cond rfl (fun ht80 => ?_) (fun ht80 => ?_)
              ·
                skip
                refine a_ret ?_
                refine ret0_look Try.results151 (by decide) ?_ rfl
                exact Weak.of_eq (osl_eq (by rw [← g7, pdq_done h12 h0 (by rw [hpi]; exact ht80), hpi]))
              ·
                skip
                refine a_skip ?_
                exact ⟨(), ent_look ⟨Weak.of_eq rfl, Weak.of_eq rfl, Weak.of_eq rfl, Weak.of_eq rfl, Weak.of_eq rfl, Weak.of_eq rfl, Weak.of_eq rfl, Weak.of_eq rfl, Weak.of_eq rfl, Weak.of_eq (osl_eq (by rw [hpi])), trivial⟩, (by rw [hpi]; exact ht80)⟩
            ·
              skip
              refine a_skip ?_
              have hpi := rd_pi_no (lt := (ltc cf)) (d := x.d) (a := x.a) (b := x.b) (limit := x.lim) (wb := x.wb) (wp := x.wp) (pi_cond ht75)
              exact ⟨(), ent_look ⟨Weak.of_eq rfl, Weak.of_eq rfl, Weak.of_eq rfl, Weak.of_eq rfl, Weak.of_eq rfl, Weak.of_eq rfl, Weak.of_eq rfl, Weak.of_eq rfl, Weak.of_eq rfl, Weak.of_eq (osl_eq (by rw [hpi])), trivial⟩, (by rw [hpi])⟩
          ·
            skip
            have hpf := hJ
            refine a_seq ?_
            refine a_seq ?_
            refine a_region_any mixed (by kernel_rfl) ?_
            refine y_val (v := .int _ _) (v_move (.inl rfl) (noOwn_flat rfl)) rfl rfl (by decide) (by kernel_rfl) ?_
            refine y_val (v := .bool _) (v_gtr (.inl rfl) (.inl rfl)) rfl rfl (by decide) (by kernel_rfl) ?_
            refine y_val (v := .bool _) (v_move (.inl rfl) (noOwn_flat rfl)) rfl rfl (by decide) (by kernel_rfl) ?_
            refine y_guard (v := .fn _ _ _) (v_move (.inl rfl) (noOwn_flat rfl)).quiet rfl rfl rfl (by decide) (.inl ⟨_, rfl, rfl⟩) rfl (by decide) (by kernel_rfl) ?_
            refine y_guard (v := .rsl _ _ _ _ _) (v_move (.inl rfl) (noOwn_flat rfl)).quiet rfl rfl rfl (by decide) (.inl ⟨_, rfl, rfl⟩) rfl (by decide) (by kernel_rfl) ?_
            refine y_guard (v := .int _ _) (v_move (.inl rfl) (noOwn_flat rfl)).quiet rfl rfl rfl (by decide) (.inl ⟨_, rfl, rfl⟩) rfl (by decide) (by kernel_rfl) ?_
            refine y_guard (v := .int _ _) (v_sub (.inr ⟨_, rfl, fun h => h⟩) (.inl rfl) (fun _ => by omega)).quiet rfl rfl rfl (by decide) (.inl ⟨_, rfl, rfl⟩) rfl (by decide) (by kernel_rfl) ?_
            refine y_guard (v := .rp _ _) (v_indexAddr_rsl0 es25 (.inr ⟨_, rfl, fun h => h⟩) (.inr ⟨_, rfl, fun h => h⟩) (fun hA => by simp at hA; omega)).quiet rfl rfl rfl (by decide) (.inl ⟨_, rfl, rfl⟩) rfl (by decide) (by kernel_rfl) ?_
            refine y_guard (v := .int .i64 (x.rd (ltc cf)).pi.1[x.a - 1]!) (v_load_rp1 ta3 (.inr ⟨_, rfl, fun h => h⟩) rfl (fun hA => by simp at hA; rw [show ((x.a : Int) - 1).toNat = x.a - 1 by omega, Nat.mul_one]; exact acells_get (by omega)) rfl).quiet rfl rfl rfl (by decide) (.inl ⟨_, rfl, rfl⟩) rfl (by decide) (by kernel_rfl) ?_
            refine y_guard (v := .rsl _ _ _ _ _) (v_move (.inl rfl) (noOwn_flat rfl)).quiet rfl rfl rfl (by decide) (.inl ⟨_, rfl, rfl⟩) rfl (by decide) (by kernel_rfl) ?_
            refine y_guard (v := .int _ _) (v_move (.inl rfl) (noOwn_flat rfl)).quiet rfl rfl rfl (by decide) (.inl ⟨_, rfl, rfl⟩) rfl (by decide) (by kernel_rfl) ?_
            refine y_guard (v := .rp _ _) (v_indexAddr_rsl0 es25 (.inr ⟨_, rfl, fun h => h⟩) (.inr ⟨_, rfl, fun h => h⟩) (fun hA => by simp at hA; omega)).quiet rfl rfl rfl (by decide) (.inl ⟨_, rfl, rfl⟩) rfl (by decide) (by kernel_rfl) ?_
            refine y_guard (v := .int .i64 (x.rd (ltc cf)).pi.1[(x.rd (ltc cf)).pivot]!) (v_load_rp1 ta3 (.inr ⟨_, rfl, fun h => h⟩) rfl (fun hA => by simp at hA; rw [Nat.mul_one]; exact acells_get (by omega)) rfl).quiet rfl rfl rfl (by decide) (.inl ⟨_, rfl, rfl⟩) rfl (by decide) (by kernel_rfl) ?_
            refine y_guard (v := .int _ _) (q_clo (vs := [.int _ _, .int _ _]) (args := [.int .i64 _, .int .i64 _]) hb (.inr ⟨_, rfl, fun h => h⟩) ⟨.inr ⟨_, rfl, fun h => h⟩, .inr ⟨_, rfl, fun h => h⟩, trivial⟩ rfl (fun hA => hc _ _) rfl rfl) rfl rfl rfl (by decide) (.inl ⟨_, rfl, rfl⟩) rfl (by decide) (by kernel_rfl) ?_
            refine y_guard (v := .bool _) (v_lss (.inr ⟨_, rfl, fun h => h⟩) (.inl rfl)).quiet rfl rfl rfl (by decide) (.inl ⟨_, rfl, rfl⟩) rfl (by decide) (by kernel_rfl) ?_
            refine y_guard (v := .bool _) (v_not (.inr ⟨_, rfl, fun h => h⟩)).quiet rfl rfl rfl (by decide) (.inl ⟨_, rfl, rfl⟩) rfl (by decide) (by kernel_rfl) ?_
            refine y_val (v := .bool _) (v_pick (.inl rfl) (.inr ⟨_, rfl, fun h h2 => by simp_all⟩) (.inl rfl)) rfl rfl (by decide) (by kernel_rfl) ?_
            refine y_nil ?_
            refine a_cond rfl (fun ht97 => ?_) (fun ht97 => ?_)
            ·
              skip
              refine a_seq ?_
              have hts : x.test (ltc cf) = true := test_cond ht97
              have hnx := hP.eq hS h12 h0 hpf hts
              refine a_region ?_
              refine r_val (v := .rsl _ _ _ _ _) (v_move (.inl rfl) (noOwn_flat rfl)) rfl rfl (by decide) ?_
              refine r_val (v := .int _ _) (v_move (.inl rfl) (noOwn_flat rfl)) rfl rfl (by decide) ?_
              refine r_val (v := .int _ _) (v_move (.inl rfl) (noOwn_flat rfl)) rfl rfl (by decide) ?_
              refine r_val (v := .int _ _) (v_move (.inl rfl) (noOwn_flat rfl)) rfl rfl (by decide) ?_
              refine r_val (v := .fn _ _ _) (v_mv rfl) rfl rfl (by decide) ?_
              refine r_step rfl (o_callIOk (q := (INH, [])) (vs := [.rsl _ _ _ _ _, .int _ _, .int _ _, .int _ _, .fn _ _ _]) (args := [.rsl (INH, []) _ _ _ _, .int .i64 _, .int .i64 _, .int .i64 _, .fn _ _ _]) (x0 := .osl _ _ _ _) (x1 := .osl _ _ _ _) (res := .int _ _) rfl hb166 rfl (by decide) ⟨.inl rfl, .inl rfl, .inl rfl, .inl rfl, .inl rfl, trivial⟩ rfl rfl (partEq_c f hb cf hc _ n x.a x.b _ hf.2.2.2.2.1 (by have := hf.2.2.2.1; omega) hn) (by simp [stays]; omega) rfl rfl rfl (ac_noSh _) (ac_noRef _) (Nat.le_of_ble_eq_true rfl) (by decide) rfl) ?_
              refine r_val (v := .int _ _) (v_assign (.inl rfl) (noOwn_flat rfl)) rfl rfl (by decide) ?_
              refine r_nil ?_
              refine a_seq ?_
              refine a_pre (ent_look (L := [(0, .rsl _ _ _ _ _), (1, .int _ _), (2, .int _ _), (3, .int _ _), (4, .fn _ _ _), (10, .bool _), (11, .bool _), (12, .int _ _), (13, .int _ _), (15, .int _ _), (INH, .osl _ _ _ _)]) ⟨Weak.rfl, Weak.rfl, Weak.rfl, Weak.rfl, Weak.rfl, Weak.rfl, Weak.rfl, Weak.rfl, Weak.rfl, Weak.rfl, Weak.rfl, trivial⟩) ?_
              refine a_region ?_
              refine r_val (v := .int _ _) (v_move (.inl rfl) (noOwn_flat rfl)) rfl rfl (by decide) ?_
              refine r_val (v := .int _ _) (v_assign (.inl rfl) (noOwn_flat rfl)) rfl rfl (by decide) ?_
              refine r_nil ?_
              refine a_exit ?_
              refine ⟨(x.eq (ltc cf)), ent_look ⟨Weak.of_eq rfl, Weak.of_eq rfl, Weak.of_eq rfl, Weak.of_eq rfl, Weak.of_eq rfl, Weak.of_eq rfl, Weak.of_eq rfl, Weak.of_eq rfl, trivial⟩, hnx.1, (by have h1 := hnx.2; have h2 := hnx.1.1; have h3 : (x.eq (ltc cf)).b = x.b := rfl; omega)⟩
            ·
              skip
              refine a_skip ?_
              refine a_seq ?_
              have hts : x.test (ltc cf) = false := test_cond ht97
              have hpt := hP.part hS h12
              refine a_region ?_
              refine r_val (v := .rsl _ _ _ _ _) (v_move (.inl rfl) (noOwn_flat rfl)) rfl rfl (by decide) ?_
              refine r_val (v := .int _ _) (v_move (.inl rfl) (noOwn_flat rfl)) rfl rfl (by decide) ?_
              refine r_val (v := .int _ _) (v_move (.inl rfl) (noOwn_flat rfl)) rfl rfl (by decide) ?_
              refine r_val (v := .int _ _) (v_move (.inl rfl) (noOwn_flat rfl)) rfl rfl (by decide) ?_
              refine r_val (v := .fn _ _ _) (v_mv rfl) rfl rfl (by decide) ?_
              refine r_step rfl (o_callIOk (q := (INH, [])) (vs := [.rsl _ _ _ _ _, .int _ _, .int _ _, .int _ _, .fn _ _ _]) (args := [.rsl (INH, []) _ _ _ _, .int .i64 _, .int .i64 _, .int .i64 _, .fn _ _ _]) (x0 := .osl _ _ _ _) (x1 := .osl _ _ _ _) (res := .tup [.int _ _, .bool _]) rfl hb167 rfl (by decide) ⟨.inl rfl, .inl rfl, .inl rfl, .inl rfl, .inl rfl, trivial⟩ rfl rfl (partition_c f hb cf hc _ n x.a x.b _ hf.2.2.2.2.1 (by have := hf.2.2.2.1; omega) hn) (by simp [stays]; omega) rfl rfl rfl (ac_noSh _) (ac_noRef _) (Nat.le_of_ble_eq_true rfl) (by decide) rfl) ?_
              refine r_val (v := .tup [.int _ _, .bool _]) (v_mv rfl) rfl rfl (by decide) ?_
              refine r_val (v := .int .i64 (((x.pt (ltc cf)).1 : Nat) : Int)) ((v_extract rfl rfl).cast (int_eq rfl)) rfl rfl (by decide) ?_
              refine r_val (v := .bool (x.pt (ltc cf)).2.1) ((v_extract rfl rfl).cast (bool_eq rfl)) rfl rfl (by decide) ?_
              refine r_val (v := .int _ _) (v_assign (.inl rfl) (noOwn_flat rfl)) rfl rfl (by decide) ?_
              refine r_val (v := .bool _) (v_assign (.inl rfl) (noOwn_flat rfl)) rfl rfl (by decide) ?_
              refine r_nil ?_
              refine a_seq ?_
              refine a_pre (ent_look (L := [(0, .rsl _ _ _ _ _), (1, .int _ _), (2, .int _ _), (3, .int _ _), (4, .fn _ _ _), (10, .bool _), (11, .bool _), (12, .int _ _), (16, .int _ _), (17, .bool _), (INH, .osl _ _ _ _)]) ⟨Weak.rfl, Weak.rfl, Weak.rfl, Weak.rfl, Weak.rfl, Weak.rfl, Weak.rfl, Weak.rfl, Weak.rfl, Weak.rfl, Weak.rfl, trivial⟩) ?_
              refine a_region ?_
              refine r_val (v := .bool _) (v_move (.inl rfl) (noOwn_flat rfl)) rfl rfl (by decide) ?_
              refine r_val (v := .bool _) (v_assign (.inl rfl) (noOwn_flat rfl)) rfl rfl (by decide) ?_
              refine r_nil ?_
              refine a_seq ?_
              refine a_region ?_
              refine r_val (v := .int _ _) (v_move (.inl rfl) (noOwn_flat rfl)) rfl rfl (by decide) ?_
              refine r_val (v := .int _ _) (v_move (.inl rfl) (noOwn_flat rfl)) rfl rfl (by decide) ?_
              refine r_val (v := .int .i64 (((x.pt (ltc cf)).1 - x.a : Nat) : Int)) ((v_sub (.inl rfl) (.inl rfl) (fun _ => by omega)).cast (int_eq (by omega))) rfl rfl (by decide) ?_
              refine r_val (v := .int _ _) (v_move (.inl rfl) (noOwn_flat rfl)) rfl rfl (by decide) ?_
              refine r_val (v := .int _ _) (v_move (.inl rfl) (noOwn_flat rfl)) rfl rfl (by decide) ?_
              refine r_val (v := .int .i64 ((x.b - (x.pt (ltc cf)).1 : Nat) : Int)) ((v_sub (.inl rfl) (.inl rfl) (fun _ => by omega)).cast (int_eq (by omega))) rfl rfl (by decide) ?_
              refine r_val (v := .int _ _) (v_assign (.inl rfl) (noOwn_flat rfl)) rfl rfl (by decide) ?_
              refine r_val (v := .int _ _) (v_assign (.inl rfl) (noOwn_flat rfl)) rfl rfl (by decide) ?_
              refine r_nil ?_
              refine a_seq ?_
              refine a_region ?_
              refine r_val (v := .int _ _) (v_move (.inl rfl) (noOwn_flat rfl)) rfl rfl (by decide) ?_
              refine r_val (v := .int .i64 (((x.b - x.a) / 8 : Nat) : Int)) ((v_quo (.inl rfl) (.inl rfl) (fun _ => by omega)).cast (int_eq (by omega))) rfl rfl (by decide) ?_
              refine r_val (v := .int _ _) (v_assign (.inl rfl) (noOwn_flat rfl)) rfl rfl (by decide) ?_
              refine r_nil ?_
              refine a_seq ?_
              refine a_region ?_
              refine r_val (v := .int _ _) (v_move (.inl rfl) (noOwn_flat rfl)) rfl rfl (by decide) ?_
              refine r_val (v := .int _ _) (v_move (.inl rfl) (noOwn_flat rfl)) rfl rfl (by decide) ?_
              refine r_val (v := .bool _) (v_lss (.inl rfl) (.inl rfl)) rfl rfl (by decide) ?_
              refine r_nil ?_
              refine a_cond rfl (fun ht125 => ?_) (fun ht125 => ?_)
              ·
                skip
                refine a_seq ?_
                have hll : (x.pt (ltc cf)).1 - x.a < x.b - (x.pt (ltc cf)).1 := (by simp at ht125; omega)
                have hnx := hP.left hS h12 h0 hpf hts hll
                refine a_region ?_
                refine r_val (v := .int _ _) (v_move (.inl rfl) (noOwn_flat rfl)) rfl rfl (by decide) ?_
                refine r_val (v := .int _ _) (v_move (.inl rfl) (noOwn_flat rfl)) rfl rfl (by decide) ?_
                refine r_val (v := .bool _) (v_geq (.inl rfl) (.inl rfl)) rfl rfl (by decide) ?_
                refine r_val (v := .bool _) (v_assign (.inl rfl) (noOwn_flat rfl)) rfl rfl (by decide) ?_
                refine r_nil ?_
                refine a_seq ?_
                refine a_pre (ent_look (L := [(0, .rsl _ _ _ _ _), (1, .int _ _), (2, .int _ _), (3, .int _ _), (4, .fn _ _ _), (10, .bool _), (11, .bool _), (16, .int _ _), (19, .int _ _), (20, .int _ _), (INH, .osl _ _ _ _)]) ⟨Weak.rfl, Weak.rfl, Weak.rfl, Weak.rfl, Weak.rfl, Weak.rfl, Weak.rfl, Weak.rfl, Weak.rfl, Weak.rfl, Weak.rfl, trivial⟩) ?_
                refine a_region ?_
                refine r_val (v := .rsl _ _ _ _ _) (v_move (.inl rfl) (noOwn_flat rfl)) rfl rfl (by decide) ?_
                refine r_val (v := .int _ _) (v_move (.inl rfl) (noOwn_flat rfl)) rfl rfl (by decide) ?_
                refine r_val (v := .int _ _) (v_move (.inl rfl) (noOwn_flat rfl)) rfl rfl (by decide) ?_
                refine r_val (v := .int _ _) (v_move (.inl rfl) (noOwn_flat rfl)) rfl rfl (by decide) ?_
                refine r_val (v := .fn _ _ _) (v_mv rfl) rfl rfl (by decide) ?_
                refine r_step rfl (o_callIOk (q := (INH, [])) (vs := [.rsl _ _ _ _ _, .int _ _, .int _ _, .int _ _, .fn _ _ _]) (args := [.rsl (INH, []) _ _ _ _, .int .i64 _, .int .i64 _, .int .i64 _, .fn _ _ _]) (x0 := .osl _ _ _ _) (x1 := .osl _ _ _ _) (res := .tup []) rfl hb151 rfl (by decide) ⟨.inl rfl, .inl rfl, .inl rfl, .inl rfl, .inl rfl, trivial⟩ rfl rfl (ih _ _ _ _ hpt.2.2.1 hpt.1 (by omega) (by omega) hf.2.2.2.2.2.2 hpt.2.2.2.1) (by simp [stays]; omega) rfl rfl rfl (ac_noSh _) (ac_noRef _) (Nat.le_of_ble_eq_true rfl) (by decide) rfl) ?_
                refine r_nil ?_
                refine a_region ?_
                refine r_val (v := .int _ _) (v_move (.inl rfl) (noOwn_flat rfl)) rfl rfl (by decide) ?_
                refine r_val (v := .int .i64 (((x.pt (ltc cf)).1 + 1 : Nat) : Int)) ((v_add (.inl rfl) (.inl rfl) (fun _ => by omega)).cast (int_eq (by omega))) rfl rfl (by decide) ?_
                refine r_val (v := .int _ _) (v_assign (.inl rfl) (noOwn_flat rfl)) rfl rfl (by decide) ?_
                refine r_nil ?_
                refine ⟨(x.left (ltc cf)), ent_look ⟨Weak.of_eq rfl, Weak.of_eq rfl, Weak.of_eq rfl, Weak.of_eq rfl, Weak.of_eq rfl, Weak.of_eq (bool_eq (decide_eq_decide.2 (by simp only [ge_iff_le]; omega))), Weak.of_eq rfl, Weak.of_eq rfl, trivial⟩, hnx.1, hnx.2⟩
              ·
                skip
                refine a_seq ?_
                have hll : ¬ (x.pt (ltc cf)).1 - x.a < x.b - (x.pt (ltc cf)).1 := (by simp at ht125; omega)
                have hnx := hP.right hS h12 h0 hpf hts hll
                refine a_region ?_
                refine r_val (v := .int _ _) (v_move (.inl rfl) (noOwn_flat rfl)) rfl rfl (by decide) ?_
                refine r_val (v := .int _ _) (v_move (.inl rfl) (noOwn_flat rfl)) rfl rfl (by decide) ?_
                refine r_val (v := .bool _) (v_geq (.inl rfl) (.inl rfl)) rfl rfl (by decide) ?_
                refine r_val (v := .bool _) (v_assign (.inl rfl) (noOwn_flat rfl)) rfl rfl (by decide) ?_
                refine r_nil ?_
                refine a_seq ?_
                refine a_pre (ent_look (L := [(0, .rsl _ _ _ _ _), (1, .int _ _), (2, .int _ _), (3, .int _ _), (4, .fn _ _ _), (10, .bool _), (11, .bool _), (16, .int _ _), (INH, .osl _ _ _ _)]) ⟨Weak.rfl, Weak.rfl, Weak.rfl, Weak.rfl, Weak.rfl, Weak.rfl, Weak.rfl, Weak.rfl, Weak.rfl, trivial⟩) ?_
                refine a_region ?_
                refine r_val (v := .rsl _ _ _ _ _) (v_move (.inl rfl) (noOwn_flat rfl)) rfl rfl (by decide) ?_
                refine r_val (v := .int _ _) (v_move (.inl rfl) (noOwn_flat rfl)) rfl rfl (by decide) ?_
                refine r_val (v := .int .i64 (((x.pt (ltc cf)).1 + 1 : Nat) : Int)) ((v_add (.inl rfl) (.inl rfl) (fun _ => by omega)).cast (int_eq (by omega))) rfl rfl (by decide) ?_
                refine r_val (v := .int _ _) (v_move (.inl rfl) (noOwn_flat rfl)) rfl rfl (by decide) ?_
                refine r_val (v := .int _ _) (v_move (.inl rfl) (noOwn_flat rfl)) rfl rfl (by decide) ?_
                refine r_val (v := .fn _ _ _) (v_mv rfl) rfl rfl (by decide) ?_
                refine r_step rfl (o_callIOk (q := (INH, [])) (vs := [.rsl _ _ _ _ _, .int _ _, .int _ _, .int _ _, .fn _ _ _]) (args := [.rsl (INH, []) _ _ _ _, .int .i64 _, .int .i64 _, .int .i64 _, .fn _ _ _]) (x0 := .osl _ _ _ _) (x1 := .osl _ _ _ _) (res := .tup []) rfl hb151 rfl (by decide) ⟨.inl rfl, .inl rfl, .inl rfl, .inl rfl, .inl rfl, trivial⟩ rfl rfl (ih _ _ _ _ hpt.2.2.1 (by omega) (by omega) (by omega) hf.2.2.2.2.2.2 hpt.2.2.2.2) (by simp [stays]; omega) rfl rfl rfl (ac_noSh _) (ac_noRef _) (Nat.le_of_ble_eq_true rfl) (by decide) rfl) ?_
                refine r_nil ?_
                refine a_region ?_
                refine r_val (v := .int _ _) (v_move (.inl rfl) (noOwn_flat rfl)) rfl rfl (by decide) ?_
                refine r_val (v := .int _ _) (v_assign (.inl rfl) (noOwn_flat rfl)) rfl rfl (by decide) ?_
                refine r_nil ?_
                refine ⟨(x.right (ltc cf)), ent_look ⟨Weak.of_eq rfl, Weak.of_eq rfl, Weak.of_eq rfl, Weak.of_eq rfl, Weak.of_eq rfl, Weak.of_eq (bool_eq (decide_eq_decide.2 (by simp only [ge_iff_le]; omega))), Weak.of_eq rfl, Weak.of_eq rfl, trivial⟩, hnx.1, hnx.2⟩

theorem pdq_c (f : Nat) (hb : hasBody Try.prog f = true) (cf : Int → Int → Int) (hc : ∀ x y, ACall Try.prog f [.int .i64 x, .int .i64 y] [] (.int .i64 (cf x y)) []) (hS : SWO (ltc cf)) (n : Nat) (hn : n ≤ 1152921504606846976) (d : Array Int) (a b limit : Nat) (hd : d.size = n) (hab : a ≤ b ∧ b ≤ n ∧ limit ≤ 100) (hB : Below (ltc cf) a b d) :
    ACall Try.prog 151 [.rsl (INH, []) 1 0 n none, .int .i64 ((a : Nat) : Int), .int .i64 ((b : Nat) : Int), .int .i64 ((limit : Nat) : Int), .fn f [] []] [.osl 1 (acells d) n none] (.tup []) [.osl 1 (acells (pdq (ltc cf) d a b limit true true)) n none] := by
  have key : ∀ (N : Nat) (d : Array Int) (a b limit : Nat), d.size = n → a ≤ b → b ≤ n → b - a < N → limit ≤ 100 → Below (ltc cf) a b d → ACall Try.prog 151 [.rsl (INH, []) 1 0 n none, .int .i64 ((a : Nat) : Int), .int .i64 ((b : Nat) : Int), .int .i64 ((limit : Nat) : Int), .fn f [] []] [.osl 1 (acells d) n none] (.tup []) [.osl 1 (acells (pdq (ltc cf) d a b limit true true)) n none] := by
    intro N
    induction N with
    | zero => intro d a b limit _ _ _ h; omega
    | succ N ih => intro d a b limit h1 h2 h3 h4 h5 h6; exact pdq_step f hb cf hc hS n N hn ih d a b limit h1 ⟨h2, h3, by omega, h5⟩ h6
  exact key (b - a + 1) d a b limit hd hab.1 hab.2.1 (by omega) hab.2.2 hB
end Go.Av
namespace Go.Av
open Go Go.Proofs Go.Sort
set_option maxRecDepth 10000


theorem sortFunc_c (f : Nat) (hb : hasBody Try.prog f = true) (cf : Int → Int → Int) (hc : ∀ x y, ACall Try.prog f [.int .i64 x, .int .i64 y] [] (.int .i64 (cf x y)) []) (hS : SWO (ltc cf)) (d : Array Int) (n : Nat) (hd : d.size = n) (hn : n ≤ 1152921504606846976) : ACall Try.prog 131 [.rsl (INH, []) 1 0 n none, .fn f [] []] [.osl 1 (acells d) n none] (.tup []) [.osl 1 (acells (Go.Sort.sort (ltc cf) d)) n none] := by
  have hbl : bitsLen n ≤ 61 := (bitsLen_le_iff _ _).2 (by omega)
  refine ACall.intro Try.func131 rfl (N := 14) rfl (by decide) (by simp) ?_
  refine a_seq ?_
  refine a_region ?_
  refine r_val (v := .rsl _ _ _ _ _) (v_move (.inl rfl) (noOwn_flat rfl)) rfl rfl (by decide) ?_
  refine r_val (v := .int _ _) (v_len_rsl sl25 (.inl rfl)) rfl rfl (by decide) ?_
  refine r_val (v := .int _ _) (v_assign (.inl rfl) (noOwn_flat rfl)) rfl rfl (by decide) ?_
  refine r_nil ?_
  refine a_region ?_
  refine r_val (v := .rsl _ _ _ _ _) (v_move (.inl rfl) (noOwn_flat rfl)) rfl rfl (by decide) ?_
  refine r_val (v := .int _ _) (v_move (.inl rfl) (noOwn_flat rfl)) rfl rfl (by decide) ?_
  refine r_val (v := .int _ _) (v_move (.inl rfl) (noOwn_flat rfl)) rfl rfl (by decide) ?_
  refine r_val (v := .int .u64 ((n : Nat) : Int)) ((v_conv iss3 uni152 (.inl rfl) (fun _ => IntWalk.u64_in _ (by omega))).cast (int_eq rfl)) rfl rfl (by decide) ?_
  refine r_new (v := .int _ _) (q_call (vs := [.int _ _]) (args := [.int .u64 ((_ : Nat) : Int)]) hb152 ⟨.inl rfl, trivial⟩ rfl (fun hA => len_c n (by omega)) rfl rfl) rfl rfl (by decide) ?_
  refine r_val (v := .fn _ _ _) (v_mv rfl) rfl rfl (by decide) ?_
  refine r_step rfl (o_callIO (q := (INH, [])) (vs := [.rsl _ _ _ _ _, .int _ _, .int _ _, .int _ _, .fn _ _ _]) (args := [.rsl (INH, []) _ _ _ _, .int .i64 _, .int .i64 _, .int .i64 _, .fn _ _ _]) (x0 := .osl _ _ _ _) (x1 := .osl _ _ _ _) (res := .tup []) rfl hb151 rfl (by decide) ⟨.inl rfl, .inl rfl, .inl rfl, .inl rfl, .inl rfl, trivial⟩ rfl rfl (pdq_c f hb cf hc hS n hn d 0 n (bitsLen n) hd ⟨Nat.zero_le _, Nat.le_refl _, Nat.le_trans hbl (by decide)⟩ (Or.inl rfl)) rfl rfl rfl (ac_noSh _) (ac_noRef _) (Nat.le_of_ble_eq_true rfl) (by decide) rfl) ?_
  refine r_nil ?_
  refine ret0_look Try.results131 (by decide) ?_ rfl
  exact Weak.of_eq (osl_eq (by unfold Go.Sort.sort; rw [hd]))
end Go.Av
namespace Go.Av
open Go Go.Proofs Go.Sort
set_option maxRecDepth 10000
theorem hb153 : hasBody Try.prog 153 = true := by kernel_rfl
theorem hb154 : hasBody Try.prog 154 = true := by kernel_rfl
theorem hb170 : hasBody Try.prog 170 = true := by kernel_rfl

theorem isNaN_c (x : Int) : ACall Try.prog 170 [.int .i64 x] [] (.bool false) [] := by
  refine ACall.intro Try.func170 rfl (N := 6) rfl (by decide) (by simp) ?_
  refine a_seq ?_
  refine a_region ?_
  refine r_val (v := .bool _) (v_assign (.inl rfl) (noOwn_flat rfl)) rfl rfl (by decide) ?_
  refine r_nil ?_
  refine a_seq ?_
  refine a_region ?_
  refine r_val (v := .int _ _) (v_move (.inl rfl) (noOwn_flat rfl)) rfl rfl (by decide) ?_
  refine r_val (v := .int _ _) (v_move (.inl rfl) (noOwn_flat rfl)) rfl rfl (by decide) ?_
  refine r_val (v := .bool _) (v_neq (.inl rfl) (.inl rfl)) rfl rfl (by decide) ?_
  refine r_val (v := .bool _) (v_assign (.inl rfl) (noOwn_flat rfl)) rfl rfl (by decide) ?_
  refine r_nil ?_
  refine a_ret ?_
  refine ret1 Try.results170 (by decide) (by decide) (Weak.of_eq (bool_eq ?_)) rfl Leaves.nil
  simp

theorem cmp_c (x y : Int) : ACall Try.prog 154 [.int .i64 x, .int .i64 y] [] (.int .i64 (cmpI x y)) [] := by
  refine ACall.intro Try.func154 rfl (N := 20) rfl (by decide) (by simp) ?_
  refine a_seq ?_
  refine a_region ?_
  refine r_val (v := .int _ _) (v_assign (.inl rfl) (noOwn_flat rfl)) rfl rfl (by decide) ?_
  refine r_nil ?_
  refine a_seq ?_
  refine a_region ?_
  refine r_val (v := .int _ _) (v_move (.inl rfl) (noOwn_flat rfl)) rfl rfl (by decide) ?_
  refine r_new (v := .bool _) (q_call (vs := [.int _ _]) (args := [.int .i64 _]) hb170 ⟨.inl rfl, trivial⟩ rfl (fun hA => isNaN_c _) rfl rfl) rfl rfl (by decide) ?_
  refine r_val (v := .bool _) (v_assign (.inl rfl) (noOwn_flat rfl)) rfl rfl (by decide) ?_
  refine r_nil ?_
  refine a_seq ?_
  refine a_region ?_
  refine r_val (v := .int _ _) (v_move (.inl rfl) (noOwn_flat rfl)) rfl rfl (by decide) ?_
  refine r_new (v := .bool _) (q_call (vs := [.int _ _]) (args := [.int .i64 _]) hb170 ⟨.inl rfl, trivial⟩ rfl (fun hA => isNaN_c _) rfl rfl) rfl rfl (by decide) ?_
  refine r_val (v := .bool _) (v_assign (.inl rfl) (noOwn_flat rfl)) rfl rfl (by decide) ?_
  refine r_nil ?_
  refine a_seq ?_
  refine a_seq ?_
  refine a_region ?_
  refine r_val (v := .bool _) (v_move (.inl rfl) (noOwn_flat rfl)) rfl rfl (by decide) ?_
  refine r_nil ?_
  refine a_cond rfl (fun ht11 => ?_) (fun ht11 => ?_)
  ·
    skip
    refine a_seq ?_
    refine a_seq ?_
    refine a_region ?_
    refine r_val (v := .bool _) (v_move (.inl rfl) (noOwn_flat rfl)) rfl rfl (by decide) ?_
    refine r_nil ?_
    refine a_cond rfl (fun ht12 => ?_) (fun ht12 => ?_)
    ·
      skip
      refine a_seq ?_
      refine a_region ?_
      refine r_val (v := .int _ _) (v_assign (.inl rfl) (noOwn_flat rfl)) rfl rfl (by decide) ?_
      refine r_nil ?_
      refine a_ret ?_
      refine ret1 Try.results154 (by decide) (by decide) (Weak.of_eq (int_eq ?_)) rfl Leaves.nil
      exact absurd ht11 (by simp)
    ·
      skip
      refine a_skip ?_
      refine a_seq ?_
      refine a_region ?_
      refine r_val (v := .int _ _) (v_assign (.inl rfl) (noOwn_flat rfl)) rfl rfl (by decide) ?_
      refine r_nil ?_
      refine a_ret ?_
      refine ret1 Try.results154 (by decide) (by decide) (Weak.of_eq (int_eq ?_)) rfl Leaves.nil
      exact absurd ht11 (by simp)
  ·
    skip
    refine a_skip ?_
    refine a_seq ?_
    refine a_seq ?_
    refine a_region ?_
    refine r_val (v := .bool _) (v_move (.inl rfl) (noOwn_flat rfl)) rfl rfl (by decide) ?_
    refine r_nil ?_
    refine a_cond rfl (fun ht13 => ?_) (fun ht13 => ?_)
    ·
      skip
      refine a_seq ?_
      refine a_region ?_
      refine r_val (v := .int _ _) (v_assign (.inl rfl) (noOwn_flat rfl)) rfl rfl (by decide) ?_
      refine r_nil ?_
      refine a_ret ?_
      refine ret1 Try.results154 (by decide) (by decide) (Weak.of_eq (int_eq ?_)) rfl Leaves.nil
      exact absurd ht13 (by simp)
    ·
      skip
      refine a_skip ?_
      refine a_seq ?_
      refine a_seq ?_
      refine a_region ?_
      refine r_val (v := .int _ _) (v_move (.inl rfl) (noOwn_flat rfl)) rfl rfl (by decide) ?_
      refine r_val (v := .int _ _) (v_move (.inl rfl) (noOwn_flat rfl)) rfl rfl (by decide) ?_
      refine r_val (v := .bool _) (v_lss (.inl rfl) (.inl rfl)) rfl rfl (by decide) ?_
      refine r_nil ?_
      refine a_cond rfl (fun ht16 => ?_) (fun ht16 => ?_)
      ·
        skip
        refine a_seq ?_
        refine a_region ?_
        refine r_val (v := .int _ _) (v_assign (.inl rfl) (noOwn_flat rfl)) rfl rfl (by decide) ?_
        refine r_nil ?_
        refine a_ret ?_
        refine ret1 Try.results154 (by decide) (by decide) (Weak.of_eq (int_eq ?_)) rfl Leaves.nil
        unfold cmpI; rw [if_pos (by simpa using ht16)]
      ·
        skip
        refine a_skip ?_
        refine a_seq ?_
        refine a_seq ?_
        refine a_region ?_
        refine r_val (v := .int _ _) (v_move (.inl rfl) (noOwn_flat rfl)) rfl rfl (by decide) ?_
        refine r_val (v := .int _ _) (v_move (.inl rfl) (noOwn_flat rfl)) rfl rfl (by decide) ?_
        refine r_val (v := .bool _) (v_gtr (.inl rfl) (.inl rfl)) rfl rfl (by decide) ?_
        refine r_nil ?_
        refine a_cond rfl (fun ht19 => ?_) (fun ht19 => ?_)
        ·
          skip
          refine a_seq ?_
          refine a_region ?_
          refine r_val (v := .int _ _) (v_assign (.inl rfl) (noOwn_flat rfl)) rfl rfl (by decide) ?_
          refine r_nil ?_
          refine a_ret ?_
          refine ret1 Try.results154 (by decide) (by decide) (Weak.of_eq (int_eq ?_)) rfl Leaves.nil
          unfold cmpI; rw [if_neg (by simpa using ht16), if_pos (by simpa using ht19)]
        ·
          skip
          refine a_skip ?_
          refine a_seq ?_
          refine a_region ?_
          refine r_val (v := .int _ _) (v_assign (.inl rfl) (noOwn_flat rfl)) rfl rfl (by decide) ?_
          refine r_nil ?_
          refine a_ret ?_
          refine ret1 Try.results154 (by decide) (by decide) (Weak.of_eq (int_eq ?_)) rfl Leaves.nil
          unfold cmpI; rw [if_neg (by simpa using ht16), if_neg (by simpa using ht19)]

theorem or_c (l : List Int) (hl : (l.length : Int) ≤ 9223372036854775807) : ACall Try.prog 153 [.sl (icells l) l.length] [] (.int .i64 (orL l)) [] := by
  refine ACall.intro Try.func153 rfl (N := 18) rfl (by decide) (by simp) ?_
  refine a_seq ?_
  refine a_region ?_
  refine r_val (v := .int _ _) (v_assign (.inl rfl) (noOwn_flat rfl)) rfl rfl (by decide) ?_
  refine r_nil ?_
  refine a_seq ?_
  refine a_region ?_
  refine r_val (v := .int _ _) (v_assign (.inl rfl) (noOwn_flat rfl)) rfl rfl (by decide) ?_
  refine r_nil ?_
  refine a_seq ?_
  refine a_seq ?_
  refine a_region ?_
  refine r_val (v := .sl _ _) (v_move (.inl rfl) (noOwn_flat rfl)) rfl rfl (by decide) ?_
  refine r_val (v := .int _ _) (v_len_sl sl25 (.inl rfl)) rfl rfl (by decide) ?_
  refine r_val (v := .int _ _) (v_move (.inl rfl) (noOwn_flat rfl)) rfl rfl (by decide) ?_
  refine r_nil ?_
  refine a_block ?_
  refine a_loop (X := Nat) (fun i => look [(3, .int .i64 0), (6, .sl (icells l) l.length), (7, .int .i64 (l.length : Int)), (8, .int .i64 (i : Int))]) (fun i => i ≤ l.length ∧ orL (l.drop i) = orL l) (fun i => l.length - i) 0 (ent_look ⟨Weak.of_eq rfl, Weak.of_eq rfl, Weak.of_eq rfl, Weak.of_eq rfl, trivial⟩) ⟨Nat.zero_le _, rfl⟩ (fun i hG => ?_)
  obtain ⟨h1, h2⟩ := hG
  refine a_seq ?_
  refine a_region ?_
  refine r_val (v := .bool _) (v_lss (.inl rfl) (.inl rfl)) rfl rfl (by decide) ?_
  refine r_nil ?_
  refine a_seq ?_
  refine a_cond rfl (fun ht9 => ?_) (fun ht9 => ?_)
  ·
    skip
    refine a_skip ?_
    refine a_seq ?_
    refine a_block ?_
    refine a_seq ?_
    have hi : i < l.length := (by simp at ht9; omega)
    refine a_region ?_
    refine r_val (v := .pp _ _) (v_indexAddr_sl es25 (.inl rfl) (.inl rfl) (fun _ => ⟨by omega, by omega, icells_ne hi⟩)) rfl rfl (by decide) ?_
    refine r_val (v := .int .i64 (gd l i)) (v_load_pp ta3 (.inl rfl) (fun _ => by rw [Nat.mul_one]; exact icells_get (gd_get hi)) rfl) rfl rfl (by decide) ?_
    refine r_val (v := .int _ _) (v_assign (.inl rfl) (noOwn_flat rfl)) rfl rfl (by decide) ?_
    refine r_nil ?_
    refine a_seq ?_
    refine a_region ?_
    refine r_val (v := .int _ _) (v_move (.inl rfl) (noOwn_flat rfl)) rfl rfl (by decide) ?_
    refine r_val (v := .int _ _) (v_move (.inl rfl) (noOwn_flat rfl)) rfl rfl (by decide) ?_
    refine r_val (v := .bool _) (v_neq (.inl rfl) (.inl rfl)) rfl rfl (by decide) ?_
    refine r_nil ?_
    refine a_cond rfl (fun ht14 => ?_) (fun ht14 => ?_)
    ·
      skip
      refine a_seq ?_
      refine a_region ?_
      refine r_val (v := .int _ _) (v_move (.inl rfl) (noOwn_flat rfl)) rfl rfl (by decide) ?_
      refine r_val (v := .int _ _) (v_assign (.inl rfl) (noOwn_flat rfl)) rfl rfl (by decide) ?_
      refine r_nil ?_
      refine a_ret ?_
      refine ret1 Try.results153 (by decide) (by decide) (Weak.of_eq (int_eq ?_)) rfl Leaves.nil
      rw [← h2, orL_drop hi, if_pos (by simpa using ht14)]
    ·
      skip
      refine a_skip ?_
      refine a_region ?_
      refine r_val (v := .int _ _) (v_add (.inl rfl) (.inl rfl) (fun _ => by omega)) rfl rfl (by decide) ?_
      refine r_val (v := .int _ _) (v_move (.inl rfl) (noOwn_flat rfl)) rfl rfl (by decide) ?_
      refine r_nil ?_
      refine ⟨i + 1, ent_look ⟨Weak.of_eq rfl, Weak.of_eq rfl, Weak.of_eq rfl, Weak.of_eq (int_eq (by omega)), trivial⟩, ⟨by omega, by rw [← h2, orL_drop hi, if_neg (by simpa using ht14)]⟩, by omega⟩
  ·
    skip
    refine a_exit ?_
    refine a_seq ?_
    refine a_region ?_
    refine r_val (v := .int _ _) (v_move (.inl rfl) (noOwn_flat rfl)) rfl rfl (by decide) ?_
    refine r_val (v := .int _ _) (v_assign (.inl rfl) (noOwn_flat rfl)) rfl rfl (by decide) ?_
    refine r_nil ?_
    refine a_ret ?_
    refine ret1 Try.results153 (by decide) (by decide) (Weak.of_eq (int_eq ?_)) rfl Leaves.nil
    rw [← h2, show l.drop i = [] from List.drop_eq_nil_of_le (by simp at ht9; omega)]; rfl

theorem absA_c (l : Int) : ACall Try.prog 137 [.int .i64 l] [] (.int .i64 (absA l)) [] := by
  refine ACall.intro Try.func137 rfl (N := 7) rfl (by decide) (by simp) ?_
  refine a_seq ?_
  refine a_region ?_
  refine r_val (v := .int _ _) (v_assign (.inl rfl) (noOwn_flat rfl)) rfl rfl (by decide) ?_
  refine r_nil ?_
  refine a_seq ?_
  refine a_region ?_
  refine r_val (v := .int _ _) (v_move (.inl rfl) (noOwn_flat rfl)) rfl rfl (by decide) ?_
  refine r_val (v := .int _ _) (v_move (.inl rfl) (noOwn_flat rfl)) rfl rfl (by decide) ?_
  refine r_val (v := .int _ _) (v_negA (.inl rfl)) rfl rfl (by decide) ?_
  refine r_val (v := .int _ _) (v_max (.inl rfl) (.inl rfl)) rfl rfl (by decide) ?_
  refine r_val (v := .int _ _) (v_assign (.inl rfl) (noOwn_flat rfl)) rfl rfl (by decide) ?_
  refine r_nil ?_
  refine a_ret ?_
  refine ret1 Try.results137 (by decide) (by decide) (Weak.of_eq (int_eq ?_)) rfl Leaves.nil
  rfl

theorem cmpLit_c (x y : Int) : ACall Try.prog 138 [.int .i64 x, .int .i64 y] [] (.int .i64 (cfLit x y)) [] := by
  refine ACall.intro Try.func138 rfl (N := 15) rfl (by decide) (by simp) ?_
  refine a_seq ?_
  refine a_region ?_
  refine r_val (v := .int _ _) (v_assign (.inl rfl) (noOwn_flat rfl)) rfl rfl (by decide) ?_
  refine r_nil ?_
  refine a_seq ?_
  refine a_region ?_
  refine r_val (v := .int _ _) (v_move (.inl rfl) (noOwn_flat rfl)) rfl rfl (by decide) ?_
  refine r_new (v := .int _ _) (q_call (vs := [.int _ _]) (args := [.int .i64 _]) hb137 ⟨.inl rfl, trivial⟩ rfl (fun hA => absA_c _) rfl rfl) rfl rfl (by decide) ?_
  refine r_val (v := .int _ _) (v_move (.inl rfl) (noOwn_flat rfl)) rfl rfl (by decide) ?_
  refine r_new (v := .int _ _) (q_call (vs := [.int _ _]) (args := [.int .i64 _]) hb137 ⟨.inl rfl, trivial⟩ rfl (fun hA => absA_c _) rfl rfl) rfl rfl (by decide) ?_
  refine r_new (v := .int _ _) (q_call (vs := [.int _ _, .int _ _]) (args := [.int .i64 _, .int .i64 _]) hb154 ⟨.inl rfl, .inl rfl, trivial⟩ rfl (fun hA => cmp_c _ _) rfl rfl) rfl rfl (by decide) ?_
  refine r_val (v := .int _ _) (v_move (.inl rfl) (noOwn_flat rfl)) rfl rfl (by decide) ?_
  refine r_val (v := .int _ _) (v_move (.inl rfl) (noOwn_flat rfl)) rfl rfl (by decide) ?_
  refine r_new (v := .int _ _) (q_call (vs := [.int _ _, .int _ _]) (args := [.int .i64 _, .int .i64 _]) hb154 ⟨.inl rfl, .inl rfl, trivial⟩ rfl (fun hA => cmp_c _ _) rfl rfl) rfl rfl (by decide) ?_
  refine r_new (v := .osl 1 (icells [cmpI (absA x) (absA y), cmpI y x]) 2 (some 2)) (q_sliceLit (n := 2) (parts := [(0, .tmp 9), (1, .tmp 12)]) lt25 rfl rfl rfl rfl) rfl rfl (by decide) ?_
  refine r_new (v := .int _ _) (q_call (vs := [.rsl _ _ _ _ _]) (args := [.sl _ _]) hb153 ⟨.inl rfl, trivial⟩ (l1_eq (sl_sh (ic_pure _))) (fun hA => or_c [cmpI (absA x) (absA y), cmpI y x] (by simp)) rfl rfl) rfl rfl (by decide) ?_
  refine r_val (v := .int _ _) (v_assign (.inl rfl) (noOwn_flat rfl)) rfl rfl (by decide) ?_
  refine r_nil ?_
  refine a_ret ?_
  refine ret1 Try.results138 (by decide) (by decide) (Weak.of_eq (int_eq ?_)) rfl Leaves.nil
  rw [cfLit_eq]
end Go.Av
namespace Go.Av
open Go Go.Proofs Go.Sort
set_option maxRecDepth 10000


theorem compact_c (d : Array Int) (n : Nat) (hd : d.size = n) (hn : n ≤ 1152921504606846976) : ACall Try.prog 139 [.rsl (INH, []) 1 0 n none] [.osl 1 (acells d) n none] (.osl 1 (icells (dedN d n)) (dedN d n).length none) [.undef] := by
  refine ACall.intro Try.func139 rfl (N := 61) rfl (by decide) (by simp) ?_
  refine a_seq ?_
  refine a_region ?_
  refine r_val (v := .nils) (v_assign (.inl rfl) (noOwn_flat rfl)) rfl rfl (by decide) ?_
  refine r_nil ?_
  refine a_seq ?_
  refine a_seq ?_
  refine a_region ?_
  refine r_val (v := .rsl _ _ _ _ _) (v_move (.inl rfl) (noOwn_flat rfl)) rfl rfl (by decide) ?_
  refine r_val (v := .int _ _) (v_len_rsl sl25 (.inl rfl)) rfl rfl (by decide) ?_
  refine r_val (v := .bool _) (v_lss (.inl rfl) (.inl rfl)) rfl rfl (by decide) ?_
  refine r_nil ?_
  refine a_cond rfl (fun ht8 => ?_) (fun ht8 => ?_)
  ·
    skip
    refine a_seq ?_
    have hall := ded_few hd (by simp at ht8; omega)
    refine a_region ?_
    refine r_val (v := .rsl _ _ _ _ _) (v_move (.inl rfl) (noOwn_flat rfl)) rfl rfl (by decide) ?_
    refine r_val (v := .rsl _ _ _ _ _) (v_assign (.inl rfl) (noOwn_flat rfl)) rfl rfl (by decide) ?_
    refine r_nil ?_
    refine a_pre (ent_reloc_sl (t := 2) rfl rfl) ?_
    refine a_ret ?_
    refine ret1 Try.results139 (by decide) (by decide) (Weak.osl ?_ ?_) rfl (Leaves.one Weak.undef rfl)
    · rw [ded_all hd hall]
    · rw [ded_all_len hd hall]
  ·
    skip
    refine a_skip ?_
    refine a_seq ?_
    refine a_seq ?_
    refine a_region ?_
    refine r_val (v := .int _ _) (v_assign (.inl rfl) (noOwn_flat rfl)) rfl rfl (by decide) ?_
    refine r_nil ?_
    refine a_block ?_
    refine a_loop (X := Nat) (fun k => look [(0, .rsl (INH, []) 1 0 n none), (3, .int .i64 ((k : Nat) : Int)), (INH, .osl 1 (acells d) n none)]) (fun k => 1 ≤ k ∧ k ≤ n ∧ dedN d k = d.toList.take k) (fun k => n - k) 1 (ent_look ⟨Weak.of_eq rfl, Weak.of_eq rfl, Weak.of_eq rfl, trivial⟩) ⟨Nat.le_refl _, by simp at ht8; omega, ded_one (by simp at ht8; omega)⟩ (fun k hG => ?_)
    obtain ⟨g1, g2, g3⟩ := hG
    refine a_seq ?_
    refine a_seq ?_
    refine a_region ?_
    refine r_val (v := .int _ _) (v_move (.inl rfl) (noOwn_flat rfl)) rfl rfl (by decide) ?_
    refine r_val (v := .rsl _ _ _ _ _) (v_move (.inl rfl) (noOwn_flat rfl)) rfl rfl (by decide) ?_
    refine r_val (v := .int _ _) (v_len_rsl sl25 (.inl rfl)) rfl rfl (by decide) ?_
    refine r_val (v := .bool _) (v_lss (.inl rfl) (.inl rfl)) rfl rfl (by decide) ?_
    refine r_nil ?_
    refine a_cond rfl (fun ht13 => ?_) (fun ht13 => ?_)
    ·
      skip
      refine a_skip ?_
      refine a_seq ?_
      refine a_block ?_
      refine a_seq ?_
      have hkn : k < n := (by simp at ht13; omega)
      refine a_region_any mixed (by kernel_rfl) ?_
      refine y_val (v := .rsl _ _ _ _ _) (v_move (.inl rfl) (noOwn_flat rfl)) rfl rfl (by decide) (by kernel_rfl) ?_
      refine y_val (v := .int _ _) (v_move (.inl rfl) (noOwn_flat rfl)) rfl rfl (by decide) (by kernel_rfl) ?_
      refine y_val (v := .rp _ _) (v_indexAddr_rsl0 es25 (.inl rfl) (.inl rfl) (fun _ => by omega)) rfl rfl (by decide) (by kernel_rfl) ?_
      refine y_val (v := .int .i64 d[k]!) (v_load_rp1 ta3 (.inl rfl) rfl (fun _ => by rw [Nat.mul_one]; exact acells_get (by omega)) rfl) rfl rfl (by decide) (by kernel_rfl) ?_
      refine y_val (v := .rsl _ _ _ _ _) (v_move (.inl rfl) (noOwn_flat rfl)) rfl rfl (by decide) (by kernel_rfl) ?_
      refine y_val (v := .int _ _) (v_move (.inl rfl) (noOwn_flat rfl)) rfl rfl (by decide) (by kernel_rfl) ?_
      refine y_val (v := .int _ _) (v_sub (.inl rfl) (.inl rfl) (fun _ => by omega)) rfl rfl (by decide) (by kernel_rfl) ?_
      refine y_val (v := .rp _ _) (v_indexAddr_rsl0 es25 (.inl rfl) (.inl rfl) (fun _ => by omega)) rfl rfl (by decide) (by kernel_rfl) ?_
      refine y_val (v := .int .i64 d[k - 1]!) (v_load_rp1 ta3 (.inl rfl) rfl (fun _ => by rw [show ((k : Int) - 1).toNat = k - 1 by omega, Nat.mul_one]; exact acells_get (by omega)) rfl) rfl rfl (by decide) (by kernel_rfl) ?_
      refine y_val (v := .bool _) (v_eql (.inl rfl) (.inl rfl)) rfl rfl (by decide) (by kernel_rfl) ?_
      refine y_nil ?_
      refine a_cond rfl (fun ht25 => ?_) (fun ht25 => ?_)
      ·
        skip
        refine a_seq ?_
        refine a_region ?_
        refine r_val (v := .rsl _ _ _ _ _) (v_move (.inl rfl) (noOwn_flat rfl)) rfl rfl (by decide) ?_
        refine r_val (v := .int _ _) (v_move (.inl rfl) (noOwn_flat rfl)) rfl rfl (by decide) ?_
        refine r_val (v := .rsl (INH, []) 1 (0 + k * 1) (n - k) none) ((v_slice_rsl (l := k) (h := n) es25 (.inl rfl) (.inr ⟨_, _, rfl, .inl rfl⟩) (.inl ⟨rfl, rfl⟩) (fun _ => by omega)).cast (rfl)) rfl rfl (by decide) ?_
        refine r_val (v := .rsl _ _ _ _ _) (v_assign (.inl rfl) (noOwn_flat rfl)) rfl rfl (by decide) ?_
        refine r_nil ?_
        refine a_seq ?_
        refine a_seq ?_
        refine a_region ?_
        refine r_val (v := .int _ _) (v_assign (.inl rfl) (noOwn_flat rfl)) rfl rfl (by decide) ?_
        refine r_nil ?_
        refine a_block ?_
        refine a_loop (X := (Nat × Nat × Array Int)) (fun x => look [(0, .rsl (INH, []) 1 0 n none), (3, .int .i64 ((x.2.1 : Nat) : Int)), (4, .rsl (INH, []) 1 (0 + k * 1) (n - k) none), (5, .int .i64 ((x.1 : Nat) : Int)), (INH, .osl 1 (acells x.2.2) n none)]) (fun x => Cpt d n k x.1 x.2.1 x.2.2) (fun x => n - (k + x.1)) (1, k, d) (ent_look ⟨Weak.of_eq rfl, Weak.of_eq rfl, Weak.of_eq rfl, Weak.of_eq rfl, Weak.of_eq rfl, trivial⟩) (Cpt.first hd (by omega) (by simp at ht13; omega) g3 (by simpa using ht25)) (fun x hG => ?_)
        have hC := hG
        obtain ⟨c1, c2, c3, c4, c5, c6⟩ := hG
        refine a_seq ?_
        refine a_seq ?_
        refine a_region ?_
        refine r_val (v := .int _ _) (v_move (.inl rfl) (noOwn_flat rfl)) rfl rfl (by decide) ?_
        refine r_val (v := .rsl _ _ _ _ _) (v_move (.inl rfl) (noOwn_flat rfl)) rfl rfl (by decide) ?_
        refine r_val (v := .int _ _) (v_len_rsl sl25 (.inl rfl)) rfl rfl (by decide) ?_
        refine r_val (v := .bool _) (v_lss (.inl rfl) (.inl rfl)) rfl rfl (by decide) ?_
        refine r_nil ?_
        refine a_cond rfl (fun ht32 => ?_) (fun ht32 => ?_)
        ·
          skip
          refine a_skip ?_
          refine a_seq ?_
          refine a_block ?_
          refine a_seq ?_
          have hx1 : x.1 < n - k := (by simp at ht32; omega)
          refine a_region_any mixed (by kernel_rfl) ?_
          refine y_val (v := .rsl _ _ _ _ _) (v_move (.inl rfl) (noOwn_flat rfl)) rfl rfl (by decide) (by kernel_rfl) ?_
          refine y_val (v := .int _ _) (v_move (.inl rfl) (noOwn_flat rfl)) rfl rfl (by decide) (by kernel_rfl) ?_
          refine y_val (v := .rp _ _) (v_indexAddr_rsl es25 (.inl rfl) (.inl rfl) (fun _ => by omega)) rfl rfl (by decide) (by kernel_rfl) ?_
          refine y_val (v := .int .i64 x.2.2[k + x.1]!) (v_load_rp1 ta3 (.inl rfl) rfl (fun _ => by rw [show 0 + k * 1 + (x.1 : Int).toNat * 1 = k + x.1 by omega]; exact acells_get (by omega)) rfl) rfl rfl (by decide) (by kernel_rfl) ?_
          refine y_val (v := .rsl _ _ _ _ _) (v_move (.inl rfl) (noOwn_flat rfl)) rfl rfl (by decide) (by kernel_rfl) ?_
          refine y_val (v := .int _ _) (v_move (.inl rfl) (noOwn_flat rfl)) rfl rfl (by decide) (by kernel_rfl) ?_
          refine y_val (v := .int _ _) (v_sub (.inl rfl) (.inl rfl) (fun _ => by omega)) rfl rfl (by decide) (by kernel_rfl) ?_
          refine y_val (v := .rp _ _) (v_indexAddr_rsl es25 (.inl rfl) (.inl rfl) (fun _ => by omega)) rfl rfl (by decide) (by kernel_rfl) ?_
          refine y_val (v := .int .i64 x.2.2[k + x.1 - 1]!) (v_load_rp1 ta3 (.inl rfl) rfl (fun _ => by rw [show 0 + k * 1 + ((x.1 : Int) - 1).toNat * 1 = k + x.1 - 1 by omega]; exact acells_get (by omega)) rfl) rfl rfl (by decide) (by kernel_rfl) ?_
          refine y_val (v := .bool _) (v_neq (.inl rfl) (.inl rfl)) rfl rfl (by decide) (by kernel_rfl) ?_
          refine y_nil ?_
          refine a_cond rfl (fun ht44 => ?_) (fun ht44 => ?_)
          ·
            skip
            refine a_seq ?_
            have hne : ¬ x.2.2[k + x.1]! = x.2.2[k + x.1 - 1]! := (by simpa using ht44)
            have hpl : x.2.1 * 1 + 1 ≤ (acells x.2.2).length := (by rw [acells_length]; omega)
            have hset : (acells x.2.2).set (x.2.1 * 1) (.int .i64 x.2.2[k + x.1]!) = acells (x.2.2.set! x.2.1 x.2.2[k + x.1]!) := (by rw [Nat.mul_one, acells_set])
            refine a_region ?_
            refine r_val (v := .rsl _ _ _ _ _) (v_move (.inl rfl) (noOwn_flat rfl)) rfl rfl (by decide) ?_
            refine r_val (v := .int _ _) (v_move (.inl rfl) (noOwn_flat rfl)) rfl rfl (by decide) ?_
            refine r_val (v := .rsl _ _ _ _ _) (v_move (.inl rfl) (noOwn_flat rfl)) rfl rfl (by decide) ?_
            refine r_val (v := .int _ _) (v_move (.inl rfl) (noOwn_flat rfl)) rfl rfl (by decide) ?_
            refine r_val (v := .rp _ _) (v_indexAddr_rsl es25 (.inl rfl) (.inl rfl) (fun _ => by omega)) rfl rfl (by decide) ?_
            refine r_val (v := .int .i64 x.2.2[k + x.1]!) (v_load_rp1 ta3 (.inl rfl) rfl (fun _ => by rw [show 0 + k * 1 + (x.1 : Int).toNat * 1 = k + x.1 by omega]; exact acells_get (by omega)) rfl) rfl rfl (by decide) ?_
            refine r_val (v := .rp _ _) (v_indexAddr_rsl0 es25 (.inl rfl) (.inl rfl) (fun _ => by omega)) rfl rfl (by decide) ?_
            refine r_step rfl (o_store (v := .int _ _) (y' := .osl _ _ _ _) rfl rfl ta3 (.inl rfl) (.inl rfl) rfl rfl rfl rfl rfl rfl hpl (by decide) rfl (congrArg (fun c => AV.osl 1 c n none) hset)) ?_
            refine r_nil ?_
            refine a_region ?_
            refine r_val (v := .int _ _) (v_move (.inl rfl) (noOwn_flat rfl)) rfl rfl (by decide) ?_
            refine r_val (v := .int _ _) (v_add (.inl rfl) (.inl rfl) (fun _ => by omega)) rfl rfl (by decide) ?_
            refine r_val (v := .int _ _) (v_assign (.inl rfl) (noOwn_flat rfl)) rfl rfl (by decide) ?_
            refine r_nil ?_
            refine a_pre (ent_look (L := [(0, .rsl _ _ _ _ _), (3, .int _ _), (4, .rsl _ _ _ _ _), (5, .int _ _), (INH, .osl _ _ _ _)]) ⟨Weak.rfl, Weak.rfl, Weak.rfl, Weak.rfl, Weak.rfl, trivial⟩) ?_
            refine a_region ?_
            refine r_val (v := .int _ _) (v_move (.inl rfl) (noOwn_flat rfl)) rfl rfl (by decide) ?_
            refine r_val (v := .int _ _) (v_add (.inl rfl) (.inl rfl) (fun _ => by omega)) rfl rfl (by decide) ?_
            refine r_val (v := .int _ _) (v_assign (.inl rfl) (noOwn_flat rfl)) rfl rfl (by decide) ?_
            refine r_nil ?_
            refine ⟨(x.1 + 1, x.2.1 + 1, x.2.2.set! x.2.1 x.2.2[k + x.1]!), ent_look ⟨Weak.of_eq rfl, Weak.of_eq (int_eq (by dsimp only; omega)), Weak.of_eq rfl, Weak.of_eq (int_eq (by dsimp only; omega)), Weak.of_eq rfl, trivial⟩, hC.new (by omega) hne, by dsimp only; omega⟩
          ·
            skip
            refine a_skip ?_
            refine a_region ?_
            refine r_val (v := .int _ _) (v_move (.inl rfl) (noOwn_flat rfl)) rfl rfl (by decide) ?_
            refine r_val (v := .int _ _) (v_add (.inl rfl) (.inl rfl) (fun _ => by omega)) rfl rfl (by decide) ?_
            refine r_val (v := .int _ _) (v_assign (.inl rfl) (noOwn_flat rfl)) rfl rfl (by decide) ?_
            refine r_nil ?_
            refine ⟨(x.1 + 1, x.2.1, x.2.2), ent_look ⟨Weak.of_eq rfl, Weak.of_eq rfl, Weak.of_eq rfl, Weak.of_eq (int_eq (by dsimp only; omega)), Weak.of_eq rfl, trivial⟩, hC.same (by omega) (by simpa using ht44), by dsimp only; omega⟩
        ·
          skip
          refine a_exit ?_
          refine a_seq ?_
          have hend : k + x.1 = n := (by simp at ht32; omega)
          have hdn := hC.done hend
          refine a_region ?_
          refine r_val (v := .rsl _ _ _ _ _) (v_move (.inl rfl) (noOwn_flat rfl)) rfl rfl (by decide) ?_
          refine r_val (v := .int _ _) (v_move (.inl rfl) (noOwn_flat rfl)) rfl rfl (by decide) ?_
          refine r_val (v := .rsl (INH, []) 1 (0 + x.2.1 * 1) (n - x.2.1) none) ((v_slice_rsl (l := x.2.1) (h := n) es25 (.inl rfl) (.inr ⟨_, _, rfl, .inl rfl⟩) (.inl ⟨rfl, rfl⟩) (fun _ => by omega)).cast (rfl)) rfl rfl (by decide) ?_
          refine r_step rfl (o_clear rfl rfl us25 zc3 rfl (.inl rfl) rfl (by rw [acells_length]; omega) rfl rfl) ?_
          refine r_nil ?_
          refine a_seq ?_
          refine a_region ?_
          refine r_val (v := .rsl _ _ _ _ _) (v_move (.inl rfl) (noOwn_flat rfl)) rfl rfl (by decide) ?_
          refine r_val (v := .int _ _) (v_move (.inl rfl) (noOwn_flat rfl)) rfl rfl (by decide) ?_
          refine r_val (v := .rsl (INH, []) 1 0 x.2.1 none) ((v_slice_rsl (l := 0) (h := x.2.1) es25 (.inl rfl) (.inl ⟨rfl, rfl⟩) (.inr ⟨_, _, rfl, .inl rfl⟩) (fun _ => by omega)).cast (rfl)) rfl rfl (by decide) ?_
          refine r_val (v := .rsl _ _ _ _ _) (v_assign (.inl rfl) (noOwn_flat rfl)) rfl rfl (by decide) ?_
          refine r_nil ?_
          refine a_pre (ent_reloc_sl (t := 2) rfl rfl) ?_
          refine a_ret ?_
          refine ret1 Try.results139 (by decide) (by decide) (Weak.osl_take (ds := List.replicate (n - x.2.1) (.int .i64 0)) ?_ ?_) rfl (Leaves.one Weak.undef rfl)
          · exact hdn.1
          · exact hdn.2
      ·
        skip
        refine a_skip ?_
        refine a_region ?_
        refine r_val (v := .int _ _) (v_move (.inl rfl) (noOwn_flat rfl)) rfl rfl (by decide) ?_
        refine r_val (v := .int _ _) (v_add (.inl rfl) (.inl rfl) (fun _ => by omega)) rfl rfl (by decide) ?_
        refine r_val (v := .int _ _) (v_assign (.inl rfl) (noOwn_flat rfl)) rfl rfl (by decide) ?_
        refine r_nil ?_
        refine ⟨k + 1, ent_look ⟨Weak.of_eq rfl, Weak.of_eq (int_eq (by omega)), Weak.of_eq rfl, trivial⟩, ⟨by omega, by omega, ded_grow (by omega) g3 (by simp at ht25; exact fun h => ht25 h.2)⟩, by omega⟩
    ·
      skip
      refine a_exit ?_
      refine a_seq ?_
      have hkn : k = n := (by simp at ht13; omega)
      refine a_region ?_
      refine r_val (v := .rsl _ _ _ _ _) (v_move (.inl rfl) (noOwn_flat rfl)) rfl rfl (by decide) ?_
      refine r_val (v := .rsl _ _ _ _ _) (v_assign (.inl rfl) (noOwn_flat rfl)) rfl rfl (by decide) ?_
      refine r_nil ?_
      refine a_pre (ent_reloc_sl (t := 2) rfl rfl) ?_
      refine a_ret ?_
      refine ret1 Try.results139 (by decide) (by decide) (Weak.osl ?_ ?_) rfl (Leaves.one Weak.undef rfl)
      · subst hkn; rw [ded_all hd g3]
      · subst hkn; rw [ded_all_len hd g3]
end Go.Av
namespace Go.Av
open Go Go.Proofs Go.Sort
set_option maxRecDepth 10000
theorem hb131 : hasBody Try.prog 131 = true := by kernel_rfl
theorem hb138 : hasBody Try.prog 138 = true := by kernel_rfl
theorem hb139 : hasBody Try.prog 139 = true := by kernel_rfl
theorem hb94 : hasBody Try.prog 94 = true := by kernel_rfl

theorem clause_c (l : List Int) (hn : l.length ≤ 1048576) : ACall Try.prog 93 [.sl (icells l) l.length] [] (.tup [.osl 1 (icells ((clR l).getD [])) ((clR l).getD []).length none, .bool (clR l).isSome]) [] := by
  refine ACall.intro Try.func93 rfl (N := 30) rfl (by decide) (by simp) ?_
  refine a_seq ?_
  refine a_region ?_
  refine r_val (v := .nils) (v_assign (.inl rfl) (noOwn_flat rfl)) rfl rfl (by decide) ?_
  refine r_val (v := .bool _) (v_assign (.inl rfl) (noOwn_flat rfl)) rfl rfl (by decide) ?_
  refine r_nil ?_
  refine a_seq ?_
  refine a_region ?_
  refine r_val (v := .sl _ _) (v_move (.inl rfl) (noOwn_flat rfl)) rfl rfl (by decide) ?_
  refine r_new (v := .osl _ _ _ _) (q_call (vs := [.sl _ _]) (args := [.sl _ _]) hb94 ⟨.inl rfl, trivial⟩ rfl (fun hA => cloneI_c _ _ ⟨rfl, by omega⟩) (ic_noSh _) (ic_noRef _)) rfl rfl (by decide) ?_
  refine r_val (v := .rsl _ _ _ _ _) (v_assign (.inl rfl) (noOwn_flat rfl)) rfl rfl (by decide) ?_
  refine r_pre (ent_reloc_sl (t := 4) rfl rfl) ?_
  refine r_nil ?_
  refine a_seq ?_
  refine a_region ?_
  refine r_val (v := .rsl _ _ _ _ _) (v_move (.inl rfl) (noOwn_flat rfl)) rfl rfl (by decide) ?_
  refine r_step rfl (o_callIO (q := (4, [])) (vs := [.rsl _ _ _ _ _, .fn _ _ _]) (args := [.rsl (INH, []) _ _ _ _, .fn _ _ _]) (x0 := .osl _ _ _ _) (x1 := .osl _ _ _ _) (res := .tup []) rfl hb131 rfl (by decide) ⟨.inl rfl, .inl rfl, trivial⟩ rfl rfl (sortFunc_c 138 hb138 cfLit cmpLit_c cfLit_swo l.toArray l.length (by simp) (by omega)) rfl rfl rfl (ac_noSh _) (ac_noRef _) (Nat.le_of_ble_eq_true rfl) (by decide) rfl) ?_
  refine r_nil ?_
  refine a_seq ?_
  refine a_region ?_
  refine r_val (v := .rsl _ _ _ _ _) (v_move (.inl rfl) (noOwn_flat rfl)) rfl rfl (by decide) ?_
  refine r_step rfl (o_callIO (q := (4, [])) (vs := [.rsl _ _ _ _ _]) (args := [.rsl (INH, []) _ _ _ _]) (x0 := .osl _ _ _ _) (x1 := .undef) (res := .osl _ _ _ _) rfl hb139 rfl (by decide) ⟨.inl rfl, trivial⟩ rfl rfl (compact_c _ l.length (sort_size l) (by omega)) rfl (ic_noSh _) (ic_noRef _) rfl rfl (Nat.le_of_ble_eq_true rfl) (by decide) rfl) ?_
  refine r_val (v := .rsl _ _ _ _ _) (v_assign (.inl rfl) (noOwn_flat rfl)) rfl rfl (by decide) ?_
  refine r_pre (ent_reloc_sl (t := 4) rfl rfl) ?_
  refine r_nil ?_
  refine a_seq ?_
  refine a_seq ?_
  refine a_region ?_
  refine r_val (v := .int _ _) (v_assign (.inl rfl) (noOwn_flat rfl)) rfl rfl (by decide) ?_
  refine r_nil ?_
  refine a_block ?_
  refine a_loop (X := Nat) (fun i => look [(4, .osl 1 (icells (dsrt l)) (dsrt l).length none), (5, .int .i64 ((i : Nat) : Int))]) (fun i => 1 ≤ i ∧ (∀ j, 1 ≤ j → j < i → oppB (dsrt l) j = false)) (fun i => (dsrt l).length - i) 1 (ent_look ⟨Weak.osl rfl rfl, Weak.of_eq rfl, trivial⟩) ⟨Nat.le_refl _, fun j h1 h2 => by omega⟩ (fun i hG => ?_)
  obtain ⟨g1, g2⟩ := hG
  have hdl : (dsrt l).length ≤ l.length := dedN_le _ _
  refine a_seq ?_
  refine a_seq ?_
  refine a_region ?_
  refine r_val (v := .int _ _) (v_move (.inl rfl) (noOwn_flat rfl)) rfl rfl (by decide) ?_
  refine r_val (v := .rsl _ _ _ _ _) (v_move (.inl rfl) (noOwn_flat rfl)) rfl rfl (by decide) ?_
  refine r_val (v := .int _ _) (v_len_rsl sl25 (.inl rfl)) rfl rfl (by decide) ?_
  refine r_val (v := .bool _) (v_lss (.inl rfl) (.inl rfl)) rfl rfl (by decide) ?_
  refine r_nil ?_
  refine a_cond rfl (fun ht15 => ?_) (fun ht15 => ?_)
  ·
    skip
    refine a_skip ?_
    refine a_seq ?_
    refine a_block ?_
    refine a_seq ?_
    have hi : i < (dsrt l).length := (by simp at ht15; omega)
    refine a_region_any mixed (by kernel_rfl) ?_
    refine y_val (v := .rsl _ _ _ _ _) (v_move (.inl rfl) (noOwn_flat rfl)) rfl rfl (by decide) (by kernel_rfl) ?_
    refine y_val (v := .int _ _) (v_move (.inl rfl) (noOwn_flat rfl)) rfl rfl (by decide) (by kernel_rfl) ?_
    refine y_val (v := .rp _ _) (v_indexAddr_rsl0 es25 (.inl rfl) (.inl rfl) (fun _ => by omega)) rfl rfl (by decide) (by kernel_rfl) ?_
    refine y_val (v := .int .i64 (gd (dsrt l) i)) (v_load_rp1 ta3 (.inl rfl) rfl (fun _ => by rw [Nat.mul_one]; exact icells_get (gd_get (by omega))) rfl) rfl rfl (by decide) (by kernel_rfl) ?_
    refine y_val (v := .rsl _ _ _ _ _) (v_move (.inl rfl) (noOwn_flat rfl)) rfl rfl (by decide) (by kernel_rfl) ?_
    refine y_val (v := .int _ _) (v_move (.inl rfl) (noOwn_flat rfl)) rfl rfl (by decide) (by kernel_rfl) ?_
    refine y_val (v := .int _ _) (v_sub (.inl rfl) (.inl rfl) (fun _ => by omega)) rfl rfl (by decide) (by kernel_rfl) ?_
    refine y_val (v := .rp _ _) (v_indexAddr_rsl0 es25 (.inl rfl) (.inl rfl) (fun _ => by omega)) rfl rfl (by decide) (by kernel_rfl) ?_
    refine y_val (v := .int .i64 (gd (dsrt l) (i - 1))) (v_load_rp1 ta3 (.inl rfl) rfl (fun _ => by rw [show ((i : Int) - 1).toNat = i - 1 by omega, Nat.mul_one]; exact icells_get (gd_get (by omega))) rfl) rfl rfl (by decide) (by kernel_rfl) ?_
    refine y_val (v := .int _ _) (v_negA (.inl rfl)) rfl rfl (by decide) (by kernel_rfl) ?_
    refine y_val (v := .bool _) (v_eql (.inl rfl) (.inl rfl)) rfl rfl (by decide) (by kernel_rfl) ?_
    refine y_nil ?_
    refine a_cond rfl (fun ht28 => ?_) (fun ht28 => ?_)
    ·
      skip
      refine a_seq ?_
      have hfin : clR l = none := clR_none hi g1 (by simpa [oppB] using ht28)
      refine a_region ?_
      refine r_val (v := .nils) (v_assign (.inl rfl) (noOwn_flat rfl)) rfl rfl (by decide) ?_
      refine r_val (v := .bool _) (v_assign (.inl rfl) (noOwn_flat rfl)) rfl rfl (by decide) ?_
      refine r_nil ?_
      refine a_pre (ent_nil (t := 2) (sz := 1) (cap := none) (.inl rfl) (fun _ h => by cases h)) ?_
      refine a_ret ?_
      refine retL (rs := [.tmp 2, .tmp 3]) [(2, .osl _ _ _ none), (3, _)] ⟨Weak.osl rfl rfl, Weak.rfl, trivial⟩ rfl Try.results93 (by decide) ⟨by decide, by decide, rfl⟩ (by decide) (by decide) (l2_eq (osl_eq2 ?_ ?_) (bool_eq ?_)) (by simp [refsL, refs])
      all_goals simp [hfin, icells]
    ·
      skip
      refine a_skip ?_
      refine a_region ?_
      refine r_val (v := .int _ _) (v_move (.inl rfl) (noOwn_flat rfl)) rfl rfl (by decide) ?_
      refine r_val (v := .int _ _) (v_add (.inl rfl) (.inl rfl) (fun _ => by omega)) rfl rfl (by decide) ?_
      refine r_val (v := .int _ _) (v_assign (.inl rfl) (noOwn_flat rfl)) rfl rfl (by decide) ?_
      refine r_nil ?_
      refine ⟨i + 1, ent_look ⟨Weak.of_eq rfl, Weak.of_eq (int_eq (by omega)), trivial⟩, ⟨by omega, fun j h1 h2 => by rcases Nat.lt_or_ge j i with h | h; exact g2 j h1 h; (obtain rfl : j = i := by omega); simpa [oppB] using ht28⟩, by omega⟩
  ·
    skip
    refine a_exit ?_
    refine a_seq ?_
    have hfin : clR l = some (dsrt l) := clR_some (fun j h1 h2 => g2 j h1 (by simp at ht15; omega))
    refine a_region ?_
    refine r_val (v := .rsl _ _ _ _ _) (v_move (.inl rfl) (noOwn_flat rfl)) rfl rfl (by decide) ?_
    refine r_val (v := .rsl _ _ _ _ _) (v_assign (.inl rfl) (noOwn_flat rfl)) rfl rfl (by decide) ?_
    refine r_pre (ent_reloc_sl (t := 2) rfl rfl) ?_
    refine r_val (v := .bool _) (v_assign (.inl rfl) (noOwn_flat rfl)) rfl rfl (by decide) ?_
    refine r_nil ?_
    refine a_ret ?_
    refine retL (rs := [.tmp 2, .tmp 3]) [(2, .osl _ _ _ none), (3, _)] ⟨Weak.osl rfl rfl, Weak.rfl, trivial⟩ rfl Try.results93 (by decide) ⟨by decide, by decide, rfl⟩ (by decide) (by decide) (l2_eq (osl_eq2 ?_ ?_) (bool_eq ?_)) (by simp [refsL, refs])
    all_goals simp [hfin]
end Go.Av
namespace Go.Av
open Go

def updL (σ : Sig) : List (Nat × AV) → Sig
  | [] => σ
  | (d, x) :: us => updL (upd σ d x) us
abbrev slotsU (us : List (Nat × AV)) : List Nat := us.map (·.1)
theorem updL_not {i : Nat} : ∀ {us : List (Nat × AV)} {σ : Sig}, i ∉ slotsU us → updL σ us i = σ i
  | [], _, _ => rfl
  | (d, x) :: us, σ, h => by
    simp only [slotsU, List.map_cons, List.mem_cons, not_or] at h
    rw [updL, updL_not (us := us) h.2, upd_other _ _ h.1]
theorem updL_congr {i : Nat} : ∀ {us : List (Nat × AV)} {σ σ' : Sig}, σ i = σ' i → updL σ us i = updL σ' us i
  | [], _, _, h => h
  | (d, x) :: us, σ, σ', h => by
    simp only [updL]
    refine updL_congr ?_
    simp only [upd]; split
    · rfl
    · exact h
theorem updL_in {i : Nat} : ∀ {us : List (Nat × AV)} {σ σ' : Sig}, i ∈ slotsU us → updL σ us i = updL σ' us i
  | [], _, _, h => by simp at h
  | (d, x) :: us, σ, σ', h => by
    simp only [updL]
    by_cases hi : i = d
    · exact updL_congr (by simp [upd, hi])
    · exact updL_in (by simp only [slotsU, List.map_cons, List.mem_cons] at h; exact h.resolve_left hi)
theorem updL_cases {i : Nat} : ∀ {us : List (Nat × AV)} {σ : Sig}, updL σ us i = σ i ∨ ∃ x, (i, x) ∈ us ∧ updL σ us i = x
  | [], _ => .inl rfl
  | (d, x) :: us, σ => by
    simp only [updL]
    rcases updL_cases (i := i) (us := us) (σ := upd σ d x) with h | ⟨y, h1, h2⟩
    · by_cases hi : i = d
      · subst hi; exact .inr ⟨x, by simp, by rw [h, upd_same]⟩
      · exact .inl (by rw [h, upd_other _ _ hi])
    · exact .inr ⟨y, by simp [h1], h2⟩

/-- An operation, guard and all, sets slots: in every state that agrees with σ0 on D. -/
def YldX (P : Program) (N : Nat) (ops : Array Oper) (o : Oper) (σ0 : Sig) (D : List Nat) (us : List (Nat × AV)) (ds : List Nat) : Prop :=
  ∀ σ : Sig, (∀ i ∈ D, σ i = σ0 i) → ∀ (gv : Nat → Value) (e : Ctx) (a : Act) (w : World), All N gv e σ a w → ∀ (K : Act → World → Prop) (Q : Exit → Act → World → Prop),
    (∀ a' w', All N gv e (updL (fun i => purgeD ds (σ i)) us) a' w' → K a' w') → if Region.wanted o (yielded ops a.tmps) then o.wp P a w K Q else K (a.put o.dst undef) w

section mixing
def mixX (σ : Sig) : List (List (Nat × AV)) → (Nat → Bool) → Sig
  | [], _ => σ
  | us :: st, L => mixX (if L 0 then updL σ us else σ) st (fun k => L (k + 1))
theorem mixX_none : ∀ (st : List (List (Nat × AV))) (σ : Sig) (L : Nat → Bool), (∀ k, L k = false) → mixX σ st L = σ
  | [], _, _, _ => rfl
  | us :: st, σ, L, h => by
    simp only [mixX, h 0, Bool.false_eq_true, if_false]
    exact mixX_none st σ _ (fun k => h (k + 1))
theorem mixX_agree {i : Nat} : ∀ (st : List (List (Nat × AV))) (σ σ' : Sig) (L L' : Nat → Bool), σ i = σ' i → (∀ k us, st[k]? = some us → i ∈ slotsU us → L k = L' k) → mixX σ st L i = mixX σ' st L' i
  | [], _, _, _, _, h0, _ => h0
  | us :: st, σ, σ', L, L', h0, h => by
    simp only [mixX]
    refine mixX_agree st _ _ _ _ ?_ (fun k vs hk hd => h (k + 1) vs (by simpa using hk) hd)
    by_cases hi : i ∈ slotsU us
    · have := h 0 us rfl hi
      rw [this]
      cases L' 0
      · simpa using h0
      · simpa using updL_in hi
    · cases L 0 <;> cases L' 0 <;> simp [updL_not hi, h0]
theorem mixX_last {i : Nat} {us : List (Nat × AV)} {τ : Sig} : ∀ (st : List (List (Nat × AV))) (σ : Sig) (L : Nat → Bool) (j : Nat), st[j]? = some us → L j = true → i ∈ slotsU us →
    (∀ k vs, j < k → st[k]? = some vs → i ∈ slotsU vs → L k = false) → mixX σ st L i = updL τ us i
  | [], _, _, _, h, _, _, _ => by simp at h
  | vs :: st, σ, L, 0, h, hj, hi, hL => by
    simp at h; subst h
    simp only [mixX, hj, if_true]
    rw [mixX_agree st _ (updL σ vs) _ (fun _ => false) rfl (fun k ws hk hm => hL (k + 1) ws (by omega) (by simpa using hk) hm), mixX_none _ _ _ (fun _ => rfl)]
    exact updL_in hi
  | vs :: st, σ, L, j + 1, h, hj, hi, hL => by
    simp only [List.getElem?_cons_succ] at h
    simp only [mixX]
    exact mixX_last st _ (fun k => L (k + 1)) j h hj hi (fun k ws hk hw hm => hL (k + 1) ws (by omega) (by simpa using hw) hm)
theorem mixX_set {us : List (Nat × AV)} (st : List (List (Nat × AV))) (σ : Sig) (L : Nat → Bool) (j : Nat) (h : st[j]? = some us) (hL : ∀ k vs, j < k → st[k]? = some vs → (∃ s, s ∈ slotsU us ∧ s ∈ slotsU vs) → L k = false) :
    mixX σ st (fun k => k == j || L k) = updL (mixX σ st L) us := by
  funext i
  by_cases hi : i ∈ slotsU us
  · refine mixX_last st σ _ j h (by simp) hi (fun k vs hk hv hm => ?_)
    rw [hL k vs hk hv ⟨i, hi, hm⟩]
    simp; omega
  · rw [updL_not hi]
    refine mixX_agree st _ _ _ _ rfl (fun k vs hk hm => ?_)
    have : ¬ k = j := fun he => by subst he; rw [h] at hk; cases hk; exact hi hm
    have hb : (k == j) = false := by simp [this]
    rw [hb, Bool.false_or]
theorem mixX_cases {i : Nat} : ∀ (st : List (List (Nat × AV))) (σ : Sig) (L : Nat → Bool), mixX σ st L i = σ i ∨ ∃ k us x, L k = true ∧ st[k]? = some us ∧ (i, x) ∈ us ∧ mixX σ st L i = x
  | [], _, _ => .inl rfl
  | us :: st, σ, L => by
    simp only [mixX]
    rcases mixX_cases st (if L 0 then updL σ us else σ) (fun k => L (k + 1)) (i := i) with h | ⟨k, vs, y, h1, h2, h3, h4⟩
    · rw [h]
      cases h0 : L 0 with
      | false => simp
      | true =>
        simp only [if_true]
        rcases updL_cases (i := i) (us := us) (σ := σ) with h5 | ⟨x, h5, h6⟩
        · exact .inl h5
        · exact .inr ⟨0, us, x, h0, by simp, h5, h6⟩
    · exact .inr ⟨k + 1, vs, y, h1, by simpa using h2, h3, h4⟩
end mixing

abbrev EffsX := List (List (Nat × Bool))
def effX (efs : EffsX) (k : Nat) : List (Nat × Bool) := efs.getD k []
def slotsX (efs : EffsX) (k : Nat) : List Nat := (effX efs k).map (·.1)
def pursX (efs : EffsX) (k : Nat) : List Nat := ((effX efs k).filter (·.2)).map (·.1)
/-- Two operations that set one slot surely stand in order. -/
def effOkX (l : List Oper) (efs : EffsX) : Bool := (List.range l.length).all fun k => (List.range k).all fun j => !((slotsX efs j).any fun s => (slotsX efs k).contains s) || ((masks l []).getD k 0).testBit j
def readOkX (l : List Oper) (efs : EffsX) (j s : Nat) : Bool := (List.range l.length).all fun k => !((slotsX efs k).contains s) || k == j || ((masks l []).getD j 0).testBit k || ((masks l []).getD k 0).testBit j
def rootOkX (l : List Oper) (efs : EffsX) (j s : Nat) : Bool := (List.range l.length).all fun k => !((pursX efs k).contains s) || ((masks l []).getD j 0).testBit k
def opOkX (l : List Oper) (efs : EffsX) (j : Nat) (D R : List Nat) : Bool := D.all (readOkX l efs j) && R.all (rootOkX l efs j)
def rootsU (us : List (Nat × AV)) : List Nat := us.flatMap fun p => roots p.2

/-- The walk of the text order. -/
def AQx (P : Program) (N : Nat) (l : List Oper) (efs : EffsX) : List Oper → Nat → Sig → (Sig → Prop) → Prop
  | [], _, σ, K => K σ
  | o :: r, j, σ, K => ∃ us D, slotsU us = slotsX efs j ∧ YldX P N l.toArray o σ D us (pursX efs j) ∧ opOkX l efs j D (rootsU us) = true ∧ AQx P N l efs r (j + 1) (updL σ us) K

section
variable {P : Program} {N : Nat} {l : List Oper} {efs : EffsX}
theorem AQx.steps {K : Sig → Prop} : ∀ (r : List Oper) (j : Nat) (σ : Sig), AQx P N l efs r j σ K →
    ∃ st : List (List (Nat × AV)), st.length = r.length ∧ (∀ k o, r[k]? = some o → ∃ us D, st[k]? = some us ∧ slotsU us = slotsX efs (j + k) ∧ YldX P N l.toArray o (mixX σ st (fun i => decide (i < k))) D us (pursX efs (j + k)) ∧ opOkX l efs (j + k) D (rootsU us) = true) ∧
      K (mixX σ st fun _ => true)
  | [], j, σ, h => ⟨[], rfl, fun k o h => by simp at h, h⟩
  | o :: r, j, σ, h => by
    obtain ⟨us, D, he, hy, hok, h⟩ := h
    obtain ⟨st, hl, hst, hK⟩ := AQx.steps r (j + 1) (updL σ us) h
    refine ⟨us :: st, by simp [hl], fun k o' ho' => ?_, by simpa [mixX] using hK⟩
    cases k with
    | zero =>
      simp at ho'; subst ho'
      refine ⟨us, D, rfl, he, ?_, hok⟩
      rw [mixX_none _ _ _ (fun k => by simp)]; exact hy
    | succ k =>
      obtain ⟨us', D', h1, h2, h3, h4⟩ := hst k o' (by simpa using ho')
      refine ⟨us', D', by simpa using h1, by rw [show j + (k + 1) = j + 1 + k by omega]; exact h2, ?_, by rw [show j + (k + 1) = j + 1 + k by omega]; exact h4⟩
      have : mixX σ (us :: st) (fun i => decide (i < k + 1)) = mixX (updL σ us) st (fun i => decide (i < k)) := by simp [mixX]
      rw [this, show j + (k + 1) = j + 1 + k by omega]; exact h3

theorem effOkX_spec (h : effOkX l efs = true) {j k s : Nat} (hk : k < l.length) (hj : j < k) (h1 : s ∈ slotsX efs j) (h2 : s ∈ slotsX efs k) : ((masks l []).getD k 0).testBit j = true := by
  unfold effOkX at h
  rw [List.all_eq_true] at h
  have := h k (by simpa using hk)
  rw [List.all_eq_true] at this
  have := this j (by simpa using hj)
  rw [Bool.or_eq_true] at this
  rcases this with h0 | h0
  · exfalso
    rw [Bool.not_eq_true', List.any_eq_false] at h0
    exact h0 s h1 (List.contains_iff_mem.2 h2)
  · exact h0
theorem readOkX_spec {j s k : Nat} (h : readOkX l efs j s = true) (hk : k < l.length) (he : s ∈ slotsX efs k) : k = j ∨ ((masks l []).getD j 0).testBit k = true ∨ ((masks l []).getD k 0).testBit j = true := by
  unfold readOkX at h
  rw [List.all_eq_true] at h
  have := h k (by simpa using hk)
  simp only [List.contains_iff_mem.2 he, Bool.not_true, Bool.false_or, Bool.or_eq_true, beq_iff_eq] at this
  rcases this with (h | h) | h
  · exact .inl h
  · exact .inr (.inl h)
  · exact .inr (.inr h)
theorem rootOkX_spec {j s k : Nat} (h : rootOkX l efs j s = true) (hk : k < l.length) (he : s ∈ pursX efs k) : ((masks l []).getD j 0).testBit k = true := by
  unfold rootOkX at h
  rw [List.all_eq_true] at h
  have := h k (by simpa using hk)
  simpa only [List.contains_iff_mem.2 he, Bool.not_true, Bool.false_or] using this

theorem any_coreX {gv : Nat → Value} {e : Ctx} {σ : Sig} {st : List (List (Nat × AV))} {Q : Exit → Act → World → Prop} (hB : backward l 0 = true) (hE : effOkX l efs = true) (hlen : st.length = l.length)
    (hσ : ∀ i, ∀ q ∈ refs (σ i), ∀ k, k < l.length → q.1 ∉ pursX efs k)
    (hst : ∀ k o, l[k]? = some o → ∃ us D, st[k]? = some us ∧ slotsU us = slotsX efs k ∧ YldX P N l.toArray o (mixX σ st (fun i => decide (i < k))) D us (pursX efs k) ∧ opOkX l efs k D (rootsU us) = true)
    (hQ : ∀ a w, All N gv e (mixX σ st fun _ => true) a w → Q .normal a w) :
    ∀ (fuel : Nat) (listed : Array Bool) (a : Act) (w : World), listed.size = l.length → listed.toList.count false = fuel → Closed l (fun k => listed.getD k false) →
      All N gv e (mixX σ st fun k => listed.getD k false) a w → wpAny P .any l.toArray Q fuel listed a w := by
  have hback := backward_spec hB
  have hlex : ∀ j, Closed l (fun i => decide (i < j)) := fun j i o ho hi k hk => by
    have := hback i o ho k hk
    simp only [decide_eq_true_eq] at hi ⊢
    omega
  have hlt_of : ∀ {k : Nat} {p : List (Nat × AV)}, st[k]? = some p → k < l.length := fun {k p} hk => by
    rcases Nat.lt_or_ge k st.length with h | h
    · omega
    · rw [List.getElem?_eq_none h] at hk; cases hk
  intro fuel
  induction fuel with
  | zero =>
    intro listed a w hsz hc hcl ha
    have hall : ∀ k, k < listed.size → listed.getD k false = true := fun k hk => by
      have h0 : listed.toList.count false = 0 := hc
      rw [List.count_eq_zero] at h0
      cases hb : listed[k] with
      | true => simp [hk, hb]
      | false => exact absurd (by rw [← hb]; exact Array.getElem_mem_toList hk) h0
    refine ⟨?_, hQ _ _ ?_⟩
    · rw [List.eq_nil_iff_forall_not_mem]
      intro j hj
      obtain ⟨h0, o, ho, _⟩ := mem_ready.1 hj
      have hlt : j < listed.size := by
        have := (Array.getElem?_eq_some_iff.1 ho).1
        rw [hsz]; simpa using this
      have := hall j hlt
      simp [hlt] at h0 this
      rw [h0] at this; cases this
    · have : mixX σ st (fun k => listed.getD k false) = mixX σ st fun _ => true := by
        funext i
        exact mixX_agree st _ _ _ _ rfl fun k us hk _ => hall k (by have := hlt_of hk; omega)
      rwa [this] at ha
  | succ fuel ih =>
    intro listed a w hsz hc hcl ha
    refine ⟨fun hr => ?_, fun j hj => ?_⟩
    · exfalso
      have hex : ∃ k, k < listed.size ∧ listed.getD k false = false := by
        have : false ∈ listed.toList := List.count_pos_iff.1 (by omega)
        obtain ⟨k, hk⟩ := List.getElem?_of_mem this
        have hlt : k < listed.size := by
          rcases Nat.lt_or_ge k listed.toList.length with h | h
          · simpa using h
          · rw [List.getElem?_eq_none h] at hk; cases hk
        refine ⟨k, hlt, ?_⟩
        simp at hk
        simp [hk]
      obtain ⟨k, hk⟩ := hex
      obtain ⟨m, ⟨hm1, hm2⟩, hmin⟩ := has_least (p := fun k => k < listed.size ∧ listed.getD k false = false) k hk
      have hml : m < l.length := by omega
      have : m ∈ Region.ready .any l.toArray listed := by
        refine mem_ready.2 ⟨by simp [hm1] at hm2 ⊢; exact hm2, l[m], by simp [hml], fun ed hed hb => ?_⟩
        have h1 := hback m l[m] (List.getElem?_eq_getElem hml) ed.on (mem_aftersOf.2 ⟨ed, hed, hb, rfl⟩)
        cases hv : listed.getD ed.on false with
        | true => rfl
        | false => have := hmin ed.on ⟨by omega, hv⟩; omega
      rw [hr] at this; cases this
    · obtain ⟨hjun, o, ho, hall⟩ := mem_ready.1 hj
      have ho' : l[j]? = some o := by simpa using ho
      have hjl : j < l.length := by
        rcases Nat.lt_or_ge j l.length with h | h
        · exact h
        · rw [List.getElem?_eq_none h] at ho'; cases ho'
      have hjs : j < listed.size := by omega
      have hjf : listed.getD j false = false := by simp [hjs] at hjun ⊢; exact hjun
      obtain ⟨us, D, h1, h2, h4, h5⟩ := hst j o ho'
      have hal : ∀ k ∈ aftersOf o, listed.getD k false = true := fun k hk => by
        obtain ⟨ed, hed, hb, rfl⟩ := mem_aftersOf.1 hk
        exact hall ed hed hb
      have hal' : ∀ k ∈ aftersOf o, decide (k < j) = true := fun k hk => by have := hback j o ho' k hk; simp; omega
      simp only [opOkX, Bool.and_eq_true, List.all_eq_true] at h5
      have behind : ∀ k, k < l.length → ((masks l []).getD k 0).testBit j = true → listed.getD k false = false ∧ j < k := fun k hk hb => by
        have hok : l[k]? = some l[k] := List.getElem?_eq_getElem hk
        refine ⟨?_, ?_⟩
        · cases hv : listed.getD k false with
          | false => rfl
          | true =>
            have := Yld.mask hcl hok (fun k' hk' => hcl k _ hok hv k' hk') hb
            rw [hjf] at this; cases this
        · have := Yld.mask (hlex k) hok (fun k' hk' => by have := hback k _ hok k' hk'; simp; omega) hb
          simpa using this
      have before : ∀ k, ((masks l []).getD j 0).testBit k = true → listed.getD k false = true ∧ decide (k < j) = true := fun k hb => ⟨Yld.mask hcl ho' hal hb, Yld.mask (hlex j) ho' hal' hb⟩
      have eff_of : ∀ {k : Nat} {vs : List (Nat × AV)}, st[k]? = some vs → slotsU vs = slotsX efs k := fun {k vs} hk => by
        have hkl := hlt_of hk
        obtain ⟨us', D', g1, g2, _⟩ := hst k l[k] (List.getElem?_eq_getElem hkl)
        rw [hk] at g1; cases g1
        exact g2
      have hdep : ∀ s ∈ D, ∀ k vs, st[k]? = some vs → s ∈ slotsU vs → listed.getD k false = decide (k < j) := fun s hs k vs hk hm => by
        rcases readOkX_spec (h5.1 s hs) (hlt_of hk) (by rw [← eff_of hk]; exact hm) with h | h | h
        · subst h; rw [hjf]; simp
        · obtain ⟨e1, e2⟩ := before k h; rw [e1, e2]
        · obtain ⟨e1, e2⟩ := behind k (hlt_of hk) h
          rw [e1]; simp; omega
      have hpur : ∀ i, purgeD (pursX efs j) (mixX σ st (fun k => listed.getD k false) i) = mixX σ st (fun k => listed.getD k false) i := fun i => by
        rw [purgeD_eq, if_neg]
        intro hany
        rw [List.any_eq_true] at hany
        obtain ⟨q, hq, hqd⟩ := hany
        rw [List.contains_iff_mem] at hqd
        rcases mixX_cases st σ (fun k => listed.getD k false) (i := i) with hm | ⟨k, vs, y, hk1, hk2, hk3, hk4⟩
        · rw [hm] at hq
          exact hσ i q hq j hjl hqd
        · rw [hk4] at hq
          have hkl := hlt_of hk2
          have hok : l[k]? = some l[k] := List.getElem?_eq_getElem hkl
          obtain ⟨us', D', g1, g2, _, g5⟩ := hst k l[k] hok
          rw [hk2] at g1; cases g1
          simp only [opOkX, Bool.and_eq_true, List.all_eq_true] at g5
          have hb := rootOkX_spec (g5.2 q.1 (List.mem_flatMap.2 ⟨_, hk3, List.mem_map.2 ⟨q, hq, rfl⟩⟩)) hjl hqd
          have := Yld.mask hcl hok (fun k' hk' => hcl k _ hok hk1 k' hk') hb
          rw [hjf] at this; cases this
      have hstep := h4 (mixX σ st fun k => listed.getD k false) (fun s hs => mixX_agree st _ _ _ _ rfl fun k vs hk hm => hdep s hs k vs hk hm) gv e a w ha (wpAny P .any l.toArray Q fuel (listed.setIfInBounds j true)) Q (fun a' w' ha' => by
          refine ih _ a' w' (by simpa using hsz) ?_ ?_ ?_
          · have hj0 : listed.toList[j]? = some false := by
              simp [hjs] at hjun ⊢; exact hjun
            have : (listed.setIfInBounds j true).toList = listed.toList.set j true := by simp
            rw [this, List.count_set (by simpa using hjs)]
            have hv : listed.toList[j]'(by simpa using hjs) = false := by
              rw [List.getElem?_eq_getElem (by simpa using hjs)] at hj0
              exact Option.some.inj hj0
            simp [hv]
            simp at hc
            omega
          · intro i oi hoi hi k hk
            by_cases hij : j = i
            · subst hij
              rw [ho'] at hoi; cases hoi
              exact getD_set_true (hal k hk)
            · simp only [getD_set_ne false hij] at hi
              exact getD_set_true (hcl i oi hoi hi k hk)
          · have e1 : (fun k => (listed.setIfInBounds j true).getD k false) = fun k => (k == j || (fun k => listed.getD k false) k) := by
              funext k
              by_cases hk : j = k
              · subst hk; simp [hjs]
              · simp only [getD_set_ne false hk, beq_iff_eq]; have : ¬ k = j := fun h => hk h.symm
                have hb : (k == j) = false := by simp [this]
                rw [hb, Bool.false_or]
            rw [e1, mixX_set st _ _ j h1 (fun k vs hjk hk hs => by
              obtain ⟨s, hs1, hs2⟩ := hs
              exact (behind k (hlt_of hk) (effOkX_spec hE (hlt_of hk) hjk (by rw [← h2]; exact hs1) (by rw [← eff_of hk]; exact hs2))).1)]
            have e2 : (fun i => purgeD (pursX efs j) (mixX σ st (fun k => listed.getD k false) i)) = mixX σ st (fun k => listed.getD k false) := funext hpur
            rw [e2] at ha'; exact ha')
      unfold wpOp
      rw [ho]
      dsimp only
      split
      · rename_i hw; rw [if_pos hw] at hstep; exact .inl hstep
      · rename_i hw; rw [if_neg hw] at hstep; exact hstep

def allPurs (efs : EffsX) : List Nat := efs.flatMap fun ef => (ef.filter (·.2)).map (·.1)
theorem a_region_x {id : Nat} {σ : Sig} {Φ : Exit → Sig → Prop} (efs : EffsX) (hm : P.follows .mixedOrders = true) (hB : (backward l 0 && effOkX l efs && decide (efs.length = l.length)) = true)
    (h : AQx P N l efs l 0 (fun i => purgeD (allPurs efs) (σ i)) (fun s => Φ .normal s)) : ACode P N (.region id l.toArray true) σ Φ := fun gv e a w ha Q hQ => by
  refine wp_region_any hm ?_
  simp only [Bool.and_eq_true, decide_eq_true_eq] at hB
  obtain ⟨⟨hB1, hB2⟩, hB3⟩ := hB
  obtain ⟨st, hl, hst, hK⟩ := AQx.steps l 0 _ h
  have ha' := (ent_purgeD (allPurs efs) σ).all ha
  obtain ⟨hdf, hsz, β, F, hi⟩ := ha'
  refine any_coreX hB1 hB2 hl (fun i q hq k hk he => ?_) (fun k o ho => by
    obtain ⟨us, D, h1, h2, h3, h4⟩ := hst k o ho
    exact ⟨us, D, h1, by simpa using h2, by simpa using h3, by simpa using h4⟩) (fun a w ha => hQ _ _ _ _ hK ha) _ _ a _ (by simp) (by simp) ?_ ?_
  · simp only [purgeD_eq] at hq
    split at hq
    · simp [refs] at hq
    · rename_i hany
      simp only [List.any_eq_true, not_exists, not_and] at hany
      refine hany q hq ?_
      rw [List.contains_iff_mem]
      unfold allPurs
      unfold pursX effX at he
      rw [List.getD_eq_getElem?_getD, List.getElem?_eq_getElem (by omega), Option.getD_some] at he
      exact List.mem_flatMap.2 ⟨_, List.getElem_mem _, he⟩
  · intro i o ho hi
    rcases Nat.lt_or_ge i l.length with h | h
    · simp [h] at hi
    · simp [h] at hi
  · rw [mixX_none _ _ _ (fun k => by
      rcases Nat.lt_or_ge k l.length with h | h
      · simp [h]
      · simp [h])]
    exact ⟨hdf, hsz, β, F, hi.same rfl rfl rfl⟩
end
end Go.Av
namespace Go.Av
open Go
theorem purge1 (d : Nat) (x : AV) : purgeD [d] x = purgeV d x := by
  rw [purgeD_eq, purgeV_eq]
  have : (fun q : Place => [d].contains q.1) = fun q => q.1 == d := by funext q; rw [Bool.eq_iff_iff]; simp
  rw [this]
section
variable {P : Program} {N : Nat} {A : Bool} {σ : Sig} {l rest : List Oper} {efs : EffsX} {o : Oper} {K : Sig → Prop} {jj : Nat} {x : Operand}
theorem x_nil (h : K σ) : AQx P N l efs [] jj σ K := h
theorem x_yld {d : Nat} {v : AV} {D : List Nat} (hy : Yld P N l.toArray o σ D d v) (he : effX efs jj = [(d, true)]) (hok : opOkX l efs jj D (roots v) = true) (h : AQx P N l efs rest (jj + 1) (upd σ d v) K) :
    AQx P N l efs (o :: rest) jj σ K :=
  ⟨[(d, v)], D, by simp [slotsX, he], fun σ' hD gv e a w ha K Q hK => hy σ' hD gv e a w ha K Q (fun a' w' ha' => hK a' w' (by
    have e1 : pursX efs jj = [d] := by simp [pursX, he]
    simp only [updL, e1, purge1]; exact ha')), by simpa [rootsU] using hok, h⟩
theorem x_new {d : Nat} {v : AV} {D : List Nat} (hv : QSem P N true o.op o.type σ D v) (hg : o.guard = none) (hd : o.dst = some d) (hN : d < N) (he : effX efs jj = [(d, true)]) (hok : opOkX l efs jj D (roots v) = true) (h : AQx P N l efs rest (jj + 1) (upd σ d v) K) :
    AQx P N l efs (o :: rest) jj σ K := x_yld (hv.yld hg hd hN) he hok h
theorem x_val {d : Nat} {v : AV} {D : List Nat} (hv : VSem P N true o.op o.type σ D v) (hg : o.guard = none) (hd : o.dst = some d) (hN : d < N) (he : effX efs jj = [(d, true)]) (hok : opOkX l efs jj D (roots v) = true) (h : AQx P N l efs rest (jj + 1) (upd σ d v) K) :
    AQx P N l efs (o :: rest) jj σ K := x_new hv.quiet hg hd hN he hok h
theorem x_step {us : List (Nat × AV)} {D : List Nat} {ef : List (Nat × Bool)} (hg : o.guard = none) (hs : ∀ σ', (∀ i ∈ D, σ' i = σ i) → OStep P N o σ' (updL (fun i => purgeD ((ef.filter (·.2)).map (·.1)) (σ' i)) us)) (he : effX efs jj = ef)
    (hus : slotsU us = ef.map (·.1)) (hok : opOkX l efs jj D (rootsU us) = true) (h : AQx P N l efs rest (jj + 1) (updL σ us) K) : AQx P N l efs (o :: rest) jj σ K := by
  refine ⟨us, D, by rw [hus, ← he]; rfl, fun σ' hD gv e a w ha K' Q hK => ?_, hok, h⟩
  have hw : Region.wanted o (yielded l.toArray a.tmps) = true := by simp [Region.wanted, hg]
  rw [if_pos hw]
  refine hs σ' hD gv e a w ha K' Q fun a' w' ha' => hK a' w' ?_
  unfold pursX; rw [he]; exact ha'
theorem upd_purge2 {σ : Sig} {s d : Nat} {v : AV} (hsd : s ≠ d) : updL (fun i => purgeD [d] (σ i)) [(s, .undef), (d, v)] = upd (fun i => purgeV d (upd σ s .undef i)) d v := by
  funext i
  simp only [updL, upd, purge1]
  split
  · rfl
  · split
    · rfl
    · rfl
/-- An append that takes the row of slot s. -/
theorem x_append {s d t sz bytes n m : Nat} {cap : Option Nat} {cs ns : List AV} {D : List Nat} (hg : o.guard = none) (ho : o.op = appCall (.tmp s) x t) (ht : appTy P t = some (sz, bytes)) (hd : o.dst = some d) (hN : d < N) (hsN : s < N) (hsd : s ≠ d)
    (hs : σ s = .osl sz cs n cap) (hx : SrcIs N true (upd σ s .undef) x sz m ns D) (hc : cellL ns = true) (hcl : cs.length = n * sz)
    (hb : n + m ≤ 9223372036854775807 ∧ (n + m) * bytes ≤ 140737488355328) (he : effX efs jj = [(s, false), (d, true)]) (hok : opOkX l efs jj (s :: D) [] = true)
    (h : AQx P N l efs rest (jj + 1) (updL σ [(s, .undef), (d, .osl sz (cs ++ ns) (n + m) none)]) K) : AQx P N l efs (o :: rest) jj σ K := by
  refine x_step (D := s :: D) (us := [(s, .undef), (d, .osl sz (cs ++ ns) (n + m) none)]) hg (fun σ' hD => ?_) he rfl (by simpa [rootsU, roots, refs] using hok) h
  have hx' : SrcIs N true (upd σ' s .undef) x sz m ns D := ⟨hx.1, fun hA τ hτ => hx.2 hA τ (fun i hi => by
    rw [hτ i hi]; simp only [upd]; split
    · rfl
    · exact hD i (List.mem_cons_of_mem _ hi))⟩
  have := o_append ho ht hd hN hsN (by rw [hD s (by simp)]; exact hs) hx' hc hcl hb
  rw [← upd_purge2 hsd] at this
  exact this
end
end Go.Av
namespace Go.Av
open Go Go.Proofs Go.Sort
set_option maxRecDepth 10000
theorem hb134 : hasBody Try.prog 134 = true := by kernel_rfl
theorem hb155 : hasBody Try.prog 155 = true := by kernel_rfl

theorem has_c (c : List Int) (n : Nat) (l : Int) (hl : c.length = n ∧ n ≤ 9223372036854775807) : ACall Try.prog 155 [.sl (icells c) n, .int .i64 l] [] (.bool (decide (l ∈ c))) [] := by
  refine ACall.intro Try.func155 rfl (N := 18) rfl (by decide) (by simp) ?_
  refine a_seq ?_
  refine a_region ?_
  refine r_val (v := .bool _) (v_assign (.inl rfl) (noOwn_flat rfl)) rfl rfl (by decide) ?_
  refine r_nil ?_
  refine a_seq ?_
  refine a_seq ?_
  refine a_region ?_
  refine r_val (v := .int _ _) (v_assign (.inl rfl) (noOwn_flat rfl)) rfl rfl (by decide) ?_
  refine r_nil ?_
  refine a_block ?_
  refine a_loop (X := Nat) (fun i => look [(0, .sl (icells c) n), (1, .int .i64 l), (5, .int .i64 ((i : Nat) : Int))]) (fun i => i ≤ n ∧ ∀ j, j < i → gd c j ≠ l) (fun i => n - i) 0 (ent_look ⟨Weak.of_eq rfl, Weak.of_eq rfl, Weak.of_eq rfl, trivial⟩) ⟨Nat.zero_le _, fun j h => by omega⟩ (fun i hG => ?_)
  obtain ⟨g1, g2⟩ := hG
  refine a_seq ?_
  refine a_seq ?_
  refine a_region ?_
  refine r_val (v := .int _ _) (v_move (.inl rfl) (noOwn_flat rfl)) rfl rfl (by decide) ?_
  refine r_val (v := .sl _ _) (v_move (.inl rfl) (noOwn_flat rfl)) rfl rfl (by decide) ?_
  refine r_val (v := .int _ _) (v_len_sl sl25 (.inl rfl)) rfl rfl (by decide) ?_
  refine r_val (v := .bool _) (v_lss (.inl rfl) (.inl rfl)) rfl rfl (by decide) ?_
  refine r_nil ?_
  refine a_cond rfl (fun ht9 => ?_) (fun ht9 => ?_)
  ·
    skip
    refine a_skip ?_
    refine a_seq ?_
    refine a_block ?_
    refine a_seq ?_
    have hi : i < c.length := (by simp at ht9; omega)
    refine a_region ?_
    refine r_val (v := .sl _ _) (v_move (.inl rfl) (noOwn_flat rfl)) rfl rfl (by decide) ?_
    refine r_val (v := .int _ _) (v_move (.inl rfl) (noOwn_flat rfl)) rfl rfl (by decide) ?_
    refine r_val (v := .pp _ _) (v_indexAddr_sl es25 (.inl rfl) (.inl rfl) (fun _ => ⟨by omega, by omega, icells_ne hi⟩)) rfl rfl (by decide) ?_
    refine r_val (v := .int .i64 (gd c i)) (v_load_pp ta3 (.inl rfl) (fun _ => by rw [Nat.mul_one]; exact icells_get (gd_get hi)) rfl) rfl rfl (by decide) ?_
    refine r_val (v := .int _ _) (v_move (.inl rfl) (noOwn_flat rfl)) rfl rfl (by decide) ?_
    refine r_val (v := .bool _) (v_eql (.inl rfl) (.inl rfl)) rfl rfl (by decide) ?_
    refine r_nil ?_
    refine a_cond rfl (fun ht17 => ?_) (fun ht17 => ?_)
    ·
      skip
      refine a_seq ?_
      refine a_region ?_
      refine r_val (v := .bool _) (v_assign (.inl rfl) (noOwn_flat rfl)) rfl rfl (by decide) ?_
      refine r_nil ?_
      refine a_ret ?_
      refine ret1 Try.results155 (by decide) (by decide) (Weak.of_eq (bool_eq ?_)) rfl Leaves.nil
      rw [decide_eq_true]; rw [← of_decide_eq_true ht17]; exact gd_mem hi
    ·
      skip
      refine a_skip ?_
      refine a_region ?_
      refine r_val (v := .int _ _) (v_move (.inl rfl) (noOwn_flat rfl)) rfl rfl (by decide) ?_
      refine r_val (v := .int _ _) (v_add (.inl rfl) (.inl rfl) (fun _ => by omega)) rfl rfl (by decide) ?_
      refine r_val (v := .int _ _) (v_assign (.inl rfl) (noOwn_flat rfl)) rfl rfl (by decide) ?_
      refine r_nil ?_
      refine ⟨i + 1, ent_look ⟨Weak.of_eq rfl, Weak.of_eq rfl, Weak.of_eq (int_eq (by omega)), trivial⟩, ⟨by omega, fun j h1 => by rcases Nat.lt_or_ge j i with h | h; exact g2 j h; (obtain rfl : j = i := by omega); simpa using ht17⟩, by omega⟩
  ·
    skip
    refine a_exit ?_
    refine a_seq ?_
    refine a_region ?_
    refine r_val (v := .bool _) (v_assign (.inl rfl) (noOwn_flat rfl)) rfl rfl (by decide) ?_
    refine r_nil ?_
    refine a_ret ?_
    refine ret1 Try.results155 (by decide) (by decide) (Weak.of_eq (bool_eq ?_)) rfl Leaves.nil
    simp; intro h; obtain ⟨j, hj, hx⟩ := mem_gd h; exact g2 j (by simp at ht9; omega) hx

theorem has2_c (c : List Int) (n : Nat) (l : Int) (hl : c.length = n ∧ n ≤ 9223372036854775807) : ACall Try.prog 135 [.sl (icells c) n, .int .i64 l] [] (.bool (decide (l ∈ c))) [] := by
  refine ACall.intro Try.func135 rfl (N := 8) rfl (by decide) (by simp) ?_
  refine a_seq ?_
  refine a_region ?_
  refine r_val (v := .bool _) (v_assign (.inl rfl) (noOwn_flat rfl)) rfl rfl (by decide) ?_
  refine r_nil ?_
  refine a_seq ?_
  refine a_region ?_
  refine r_val (v := .sl _ _) (v_move (.inl rfl) (noOwn_flat rfl)) rfl rfl (by decide) ?_
  refine r_val (v := .int _ _) (v_move (.inl rfl) (noOwn_flat rfl)) rfl rfl (by decide) ?_
  refine r_new (v := .bool _) (q_call (vs := [.sl _ _, .int _ _]) (args := [.sl _ _, .int .i64 _]) hb155 ⟨.inl rfl, .inl rfl, trivial⟩ rfl (fun hA => has_c _ _ _ hl) rfl rfl) rfl rfl (by decide) ?_
  refine r_val (v := .bool _) (v_assign (.inl rfl) (noOwn_flat rfl)) rfl rfl (by decide) ?_
  refine r_nil ?_
  refine a_ret ?_
  refine ret1 Try.results135 (by decide) (by decide) (Weak.of_eq (bool_eq ?_)) rfl Leaves.nil
  rfl

theorem put_c (c : List Int) (n : Nat) (l : Int) (hl : c.length = n ∧ n ≤ 1048576) (hs : SmI c) (hb : -4611686018427387904 ≤ l ∧ l ≤ 4611686018427387904) : ACall Try.prog 136 [.sl (icells c) n, .int .i64 l] [] (.osl 1 (icells (putL c l)) (n + 1) none) [] := by
  refine ACall.intro Try.func136 rfl (N := 33) rfl (by decide) (by simp) ?_
  refine a_seq ?_
  refine a_region ?_
  refine r_val (v := .nils) (v_assign (.inl rfl) (noOwn_flat rfl)) rfl rfl (by decide) ?_
  refine r_nil ?_
  refine a_seq ?_
  refine a_region ?_
  refine r_val (v := .int _ _) (v_assign (.inl rfl) (noOwn_flat rfl)) rfl rfl (by decide) ?_
  refine r_nil ?_
  refine a_seq ?_
  refine a_block ?_
  refine a_loop (X := Nat) (fun i => look [(0, .sl (icells c) n), (1, .int .i64 l), (5, .int .i64 ((i : Nat) : Int))]) (fun i => i ≤ n ∧ c.take i ++ putL (c.drop i) l = putL c l) (fun i => n - i) 0 (ent_look ⟨Weak.of_eq rfl, Weak.of_eq rfl, Weak.of_eq rfl, trivial⟩) ⟨Nat.zero_le _, rfl⟩ (fun i hG => ?_)
  obtain ⟨g1, g2⟩ := hG
  have hsi := hs i
  refine a_seq ?_
  refine a_seq ?_
  refine a_region ?_
  refine r_val (v := .int _ _) (v_move (.inl rfl) (noOwn_flat rfl)) rfl rfl (by decide) ?_
  refine r_val (v := .sl _ _) (v_move (.inl rfl) (noOwn_flat rfl)) rfl rfl (by decide) ?_
  refine r_val (v := .int _ _) (v_len_sl sl25 (.inl rfl)) rfl rfl (by decide) ?_
  refine r_val (v := .bool _) (v_lss (.inl rfl) (.inl rfl)) rfl rfl (by decide) ?_
  refine r_val (v := .bool _) (v_move (.inl rfl) (noOwn_flat rfl)) rfl rfl (by decide) ?_
  refine r_gval (v := .sl _ _) (v_move (.inl rfl) (noOwn_flat rfl)) rfl rfl rfl (by decide) (.inl ⟨_, rfl, rfl⟩) rfl (by decide) ?_
  refine r_gval (v := .int _ _) (v_move (.inl rfl) (noOwn_flat rfl)) rfl rfl rfl (by decide) (.inl ⟨_, rfl, rfl⟩) rfl (by decide) ?_
  refine r_gval (v := .pp _ _) (v_indexAddr_sl es25 (.inr ⟨_, rfl, fun h => h⟩) (.inr ⟨_, rfl, fun h => h⟩) (fun hA => by simp at hA; exact ⟨by omega, by omega, icells_ne (show i < c.length by omega)⟩)) rfl rfl rfl (by decide) (.inl ⟨_, rfl, rfl⟩) rfl (by decide) ?_
  refine r_gval (v := .int .i64 (gd c i)) (v_load_pp ta3 (.inr ⟨_, rfl, fun h => h⟩) (fun hA => by simp at hA; rw [Nat.mul_one]; exact icells_get (gd_get (by omega))) rfl) rfl rfl rfl (by decide) (.inl ⟨_, rfl, rfl⟩) rfl (by decide) ?_
  refine r_guard (v := .int _ _) (q_call (vs := [.int _ _]) (args := [.int .i64 _]) hb133 ⟨.inr ⟨_, rfl, fun h => h⟩, trivial⟩ rfl (fun hA => l2Var_c _ (by omega)) rfl rfl) rfl rfl rfl (by decide) (.inl ⟨_, rfl, rfl⟩) rfl (by decide) ?_
  refine r_gval (v := .int _ _) (v_move (.inl rfl) (noOwn_flat rfl)) rfl rfl rfl (by decide) (.inl ⟨_, rfl, rfl⟩) rfl (by decide) ?_
  refine r_guard (v := .int _ _) (q_call (vs := [.int _ _]) (args := [.int .i64 _]) hb133 ⟨.inr ⟨_, rfl, fun h => h⟩, trivial⟩ rfl (fun hA => l2Var_c _ (by omega)) rfl rfl) rfl rfl rfl (by decide) (.inl ⟨_, rfl, rfl⟩) rfl (by decide) ?_
  refine r_gval (v := .bool _) (v_lss (.inr ⟨_, rfl, fun h => h⟩) (.inr ⟨_, rfl, fun h => h⟩)) rfl rfl rfl (by decide) (.inl ⟨_, rfl, rfl⟩) rfl (by decide) ?_
  refine r_val (v := .bool _) (v_pick (.inl rfl) (.inr ⟨_, rfl, fun h h2 => by simp_all⟩) (.inl rfl)) rfl rfl (by decide) ?_
  refine r_nil ?_
  refine a_cond rfl (fun ht19 => ?_) (fun ht19 => ?_)
  ·
    skip
    refine a_skip ?_
    refine a_block ?_
    refine a_region ?_
    refine r_val (v := .int _ _) (v_move (.inl rfl) (noOwn_flat rfl)) rfl rfl (by decide) ?_
    refine r_val (v := .int _ _) (v_add (.inl rfl) (.inl rfl) (fun _ => by omega)) rfl rfl (by decide) ?_
    refine r_val (v := .int _ _) (v_assign (.inl rfl) (noOwn_flat rfl)) rfl rfl (by decide) ?_
    refine r_nil ?_
    refine ⟨i + 1, ent_look ⟨Weak.of_eq rfl, Weak.of_eq rfl, Weak.of_eq (int_eq (by omega)), trivial⟩, ⟨by simp at ht19; omega, by simp at ht19; rw [put_more (by omega) ht19.2, g2]⟩, by simp at ht19; omega⟩
  ·
    skip
    refine a_exit ?_
    refine a_seq ?_
    have hst : putL (c.drop i) l = l :: c.drop i := put_stop (fun h => by simp at ht19; exact Int.not_lt.2 (ht19 (by omega)))
    refine a_region_x [[(22, true)], [(23, true)], [(24, true)], [(25, true)], [(26, true)], [(27, true)], [(25, false), (28, true)], [(29, true)], [(30, true)], [(31, true)], [(28, false), (32, true)], [(4, true)]] mixed (by kernel_rfl) ?_
    refine x_val (v := .sl _ _) (v_move (.inl rfl) (noOwn_flat rfl)) rfl rfl (by decide) rfl (by kernel_rfl) ?_
    refine x_val (v := .int _ _) (v_move (.inl rfl) (noOwn_flat rfl)) rfl rfl (by decide) rfl (by kernel_rfl) ?_
    refine x_val (v := .sl (icells (c.take i)) i) ((v_slice_sl (l := 0) (h := i) es25 (.inl rfl) (.inl ⟨rfl, rfl⟩) (.inr ⟨_, _, rfl, .inl rfl⟩) (fun _ => by omega)).cast (sl_eq2 (by simp [icells]) rfl)) rfl rfl (by decide) rfl (by kernel_rfl) ?_
    refine x_new (v := .osl _ _ _ _) (q_call (vs := [.sl _ _]) (args := [.sl _ _]) hb134 ⟨.inl rfl, trivial⟩ rfl (fun hA => l1Own_c (c.take i) i ⟨by rw [List.length_take]; omega, by omega⟩) (ic_noSh _) (ic_noRef _)) rfl rfl (by decide) rfl (by kernel_rfl) ?_
    refine x_val (v := .int _ _) (v_move (.inl rfl) (noOwn_flat rfl)) rfl rfl (by decide) rfl (by kernel_rfl) ?_
    refine x_new (v := .osl 1 (icells [l]) 1 (some 1)) (q_sliceLit (n := 1) (parts := [(0, .tmp 26)]) lt25 rfl rfl rfl rfl) rfl rfl (by decide) rfl (by kernel_rfl) ?_
    refine x_append rfl rfl ap25 rfl (by decide) (by decide) (by decide) rfl (src_lit (.inl rfl) rfl rfl (ic_pureL _)) (ic_cell _) (by rw [icells_length, List.length_take]; omega) (by omega) rfl (by kernel_rfl) ?_
    refine x_val (v := .sl _ _) (v_move (.inl rfl) (noOwn_flat rfl)) rfl rfl (by decide) rfl (by kernel_rfl) ?_
    refine x_val (v := .int _ _) (v_move (.inl rfl) (noOwn_flat rfl)) rfl rfl (by decide) rfl (by kernel_rfl) ?_
    refine x_val (v := .sl (icells (c.drop i)) (n - i)) ((v_slice_sl (l := i) (h := n) es25 (.inl rfl) (.inr ⟨_, _, rfl, .inl rfl⟩) (.inl ⟨rfl, rfl⟩) (fun _ => by omega)).cast (sl_eq2 (by rw [Nat.mul_one, Nat.mul_one, icells_drop, List.take_of_length_le (by rw [icells_length, List.length_drop]; omega)]) rfl)) rfl rfl (by decide) rfl (by kernel_rfl) ?_
    refine x_append rfl rfl ap25 rfl (by decide) (by decide) (by decide) rfl (src_sl (.inl rfl) (fun _ => by rw [icells_length, List.length_drop]; omega) (ic_pureL _)) (ic_cell _) (by rw [List.length_append, icells_length, icells_length, List.length_take]; simp; omega) (by omega) rfl (by kernel_rfl) ?_
    refine x_val (v := .rsl _ _ _ _ _) (v_assign (.inl rfl) (noOwn_flat rfl)) rfl rfl (by decide) rfl (by kernel_rfl) ?_
    refine x_nil ?_
    refine a_pre (ent_reloc_sl (t := 4) rfl rfl) ?_
    refine a_ret ?_
    refine ret1 Try.results136 (by decide) (by decide) (Weak.osl ?_ ?_) rfl Leaves.nil
    · rw [← g2, hst]; simp [icells]
    · omega
end Go.Av
namespace Go.Av
open Go Go.Proofs Go.Sort
set_option maxRecDepth 10000
theorem hb135 : hasBody Try.prog 135 = true := by kernel_rfl
theorem hb136 : hasBody Try.prog 136 = true := by kernel_rfl

theorem join_c (a b : List Int) (na nb : Nat) (ha : a.length = na ∧ na ≤ 524288) (hb : b.length = nb ∧ nb ≤ 524288) (sa : SmI a) (sb : SmI b) : ACall Try.prog 90 [.sl (icells a) na, .sl (icells b) nb] [] (.tup [.osl 1 (icells ((joinL a b).getD [])) ((joinL a b).getD []).length none, .bool (joinL a b).isSome]) [] := by
  refine ACall.intro Try.func90 rfl (N := 38) rfl (by decide) (by simp) ?_
  refine a_seq ?_
  refine a_region ?_
  refine r_val (v := .nils) (v_assign (.inl rfl) (noOwn_flat rfl)) rfl rfl (by decide) ?_
  refine r_val (v := .bool _) (v_assign (.inl rfl) (noOwn_flat rfl)) rfl rfl (by decide) ?_
  refine r_nil ?_
  refine a_seq ?_
  refine a_region ?_
  refine r_val (v := .sl _ _) (v_move (.inl rfl) (noOwn_flat rfl)) rfl rfl (by decide) ?_
  refine r_new (v := .osl _ _ _ _) (q_call (vs := [.sl _ _]) (args := [.sl _ _]) hb134 ⟨.inl rfl, trivial⟩ rfl (fun hA => l1Own_c a na ⟨ha.1, by omega⟩) (ic_noSh _) (ic_noRef _)) rfl rfl (by decide) ?_
  refine r_val (v := .rsl _ _ _ _ _) (v_assign (.inl rfl) (noOwn_flat rfl)) rfl rfl (by decide) ?_
  refine r_pre (ent_reloc_sl (t := 6) rfl rfl) ?_
  refine r_nil ?_
  refine a_seq ?_
  refine a_seq ?_
  refine a_region ?_
  refine r_val (v := .int _ _) (v_assign (.inl rfl) (noOwn_flat rfl)) rfl rfl (by decide) ?_
  refine r_nil ?_
  refine a_block ?_
  refine a_loop (X := (Nat × List Int)) (fun x => look [(1, .sl (icells b) nb), (6, .osl 1 (icells x.2) x.2.length none), (7, .int .i64 ((x.1 : Nat) : Int))]) (fun x => x.1 ≤ nb ∧ joinL x.2 (b.drop x.1) = joinL a b ∧ SmI x.2 ∧ x.2.length ≤ na + x.1) (fun x => nb - x.1) (0, a) (ent_look ⟨Weak.of_eq rfl, Weak.osl rfl ha.1.symm, Weak.of_eq rfl, trivial⟩) ⟨Nat.zero_le _, rfl, sa, by dsimp only; omega⟩ (fun x hG => ?_)
  obtain ⟨g1, g2, g3, g4⟩ := hG
  have hsb := sb x.1
  refine a_seq ?_
  refine a_seq ?_
  refine a_region ?_
  refine r_val (v := .int _ _) (v_move (.inl rfl) (noOwn_flat rfl)) rfl rfl (by decide) ?_
  refine r_val (v := .sl _ _) (v_move (.inl rfl) (noOwn_flat rfl)) rfl rfl (by decide) ?_
  refine r_val (v := .int _ _) (v_len_sl sl25 (.inl rfl)) rfl rfl (by decide) ?_
  refine r_val (v := .bool _) (v_lss (.inl rfl) (.inl rfl)) rfl rfl (by decide) ?_
  refine r_nil ?_
  refine a_cond rfl (fun ht13 => ?_) (fun ht13 => ?_)
  ·
    skip
    refine a_skip ?_
    refine a_seq ?_
    refine a_block ?_
    refine a_seq ?_
    refine a_seq ?_
    have hi : x.1 < b.length := (by simp at ht13; omega)
    refine a_region ?_
    refine r_val (v := .rsl _ _ _ _ _) (v_move (.inl rfl) (noOwn_flat rfl)) rfl rfl (by decide) ?_
    refine r_val (v := .sl _ _) (v_move (.inl rfl) (noOwn_flat rfl)) rfl rfl (by decide) ?_
    refine r_val (v := .int _ _) (v_move (.inl rfl) (noOwn_flat rfl)) rfl rfl (by decide) ?_
    refine r_val (v := .pp _ _) (v_indexAddr_sl es25 (.inl rfl) (.inl rfl) (fun _ => ⟨by omega, by omega, icells_ne hi⟩)) rfl rfl (by decide) ?_
    refine r_val (v := .int .i64 (gd b x.1)) (v_load_pp ta3 (.inl rfl) (fun _ => by rw [Nat.mul_one]; exact icells_get (gd_get hi)) rfl) rfl rfl (by decide) ?_
    refine r_val (v := .int _ _) (v_neg (.inl rfl) (fun _ => by omega)) rfl rfl (by decide) ?_
    refine r_new (v := .bool _) (q_call (vs := [.rsl _ _ _ _ _, .int _ _]) (args := [.sl _ _, .int .i64 _]) hb135 ⟨.inl rfl, .inl rfl, trivial⟩ (l2_eq (sl_sh (ic_pure _)) rfl) (fun hA => has2_c _ _ _ ⟨rfl, by omega⟩) rfl rfl) rfl rfl (by decide) ?_
    refine r_nil ?_
    refine a_cond rfl (fun ht22 => ?_) (fun ht22 => ?_)
    ·
      skip
      refine a_seq ?_
      refine a_region ?_
      refine r_new (v := .osl _ _ _ _) (q_sliceLit (n := 0) (parts := []) lt25 rfl rfl rfl rfl) rfl rfl (by decide) ?_
      refine r_val (v := .rsl _ _ _ _ _) (v_assign (.inl rfl) (noOwn_flat rfl)) rfl rfl (by decide) ?_
      refine r_pre (ent_reloc_sl (t := 4) rfl rfl) ?_
      refine r_val (v := .bool _) (v_assign (.inl rfl) (noOwn_flat rfl)) rfl rfl (by decide) ?_
      refine r_nil ?_
      refine a_ret ?_
      refine retL (rs := [.tmp 4, .tmp 5]) [(4, .osl _ _ _ none), (5, _)] ⟨Weak.osl rfl rfl, Weak.rfl, trivial⟩ rfl Try.results90 (by decide) ⟨by decide, by decide, rfl⟩ (by decide) (by decide) (l2_eq (osl_eq2 ?_ ?_) (bool_eq ?_)) (by simp [refsL, refs])
      all_goals (have hz : joinL a b = none := (by rw [← g2]; exact join_no hi (by simpa using ht22))); simp [hz, icells, rep]
    ·
      skip
      refine a_skip ?_
      refine a_seq ?_
      have hno : ¬ -(gd b x.1) ∈ x.2 := (by simpa using ht22)
      refine a_region ?_
      refine r_val (v := .rsl _ _ _ _ _) (v_move (.inl rfl) (noOwn_flat rfl)) rfl rfl (by decide) ?_
      refine r_val (v := .sl _ _) (v_move (.inl rfl) (noOwn_flat rfl)) rfl rfl (by decide) ?_
      refine r_val (v := .int _ _) (v_move (.inl rfl) (noOwn_flat rfl)) rfl rfl (by decide) ?_
      refine r_val (v := .pp _ _) (v_indexAddr_sl es25 (.inl rfl) (.inl rfl) (fun _ => ⟨by omega, by omega, icells_ne hi⟩)) rfl rfl (by decide) ?_
      refine r_val (v := .int .i64 (gd b x.1)) (v_load_pp ta3 (.inl rfl) (fun _ => by rw [Nat.mul_one]; exact icells_get (gd_get hi)) rfl) rfl rfl (by decide) ?_
      refine r_new (v := .bool _) (q_call (vs := [.rsl _ _ _ _ _, .int _ _]) (args := [.sl _ _, .int .i64 _]) hb135 ⟨.inl rfl, .inl rfl, trivial⟩ (l2_eq (sl_sh (ic_pure _)) rfl) (fun hA => has2_c _ _ _ ⟨rfl, by omega⟩) rfl rfl) rfl rfl (by decide) ?_
      refine r_val (v := .bool _) (v_not (.inl rfl)) rfl rfl (by decide) ?_
      refine r_nil ?_
      refine a_cond rfl (fun ht30 => ?_) (fun ht30 => ?_)
      ·
        skip
        refine a_region ?_
        refine r_val (v := .rsl _ _ _ _ _) (v_move (.inl rfl) (noOwn_flat rfl)) rfl rfl (by decide) ?_
        refine r_val (v := .sl _ _) (v_move (.inl rfl) (noOwn_flat rfl)) rfl rfl (by decide) ?_
        refine r_val (v := .int _ _) (v_move (.inl rfl) (noOwn_flat rfl)) rfl rfl (by decide) ?_
        refine r_val (v := .pp _ _) (v_indexAddr_sl es25 (.inl rfl) (.inl rfl) (fun _ => ⟨by omega, by omega, icells_ne hi⟩)) rfl rfl (by decide) ?_
        refine r_val (v := .int .i64 (gd b x.1)) (v_load_pp ta3 (.inl rfl) (fun _ => by rw [Nat.mul_one]; exact icells_get (gd_get hi)) rfl) rfl rfl (by decide) ?_
        refine r_new (v := .osl _ _ _ _) (q_call (vs := [.rsl _ _ _ _ _, .int _ _]) (args := [.sl _ _, .int .i64 _]) hb136 ⟨.inl rfl, .inl rfl, trivial⟩ (l2_eq (sl_sh (ic_pure _)) rfl) (fun hA => put_c x.2 _ _ ⟨rfl, by omega⟩ g3 hsb) (ic_noSh _) (ic_noRef _)) rfl rfl (by decide) ?_
        refine r_val (v := .rsl _ _ _ _ _) (v_assign (.inl rfl) (noOwn_flat rfl)) rfl rfl (by decide) ?_
        refine r_pre (ent_reloc_sl (t := 6) rfl rfl) ?_
        refine r_nil ?_
        refine a_region ?_
        refine r_val (v := .int _ _) (v_move (.inl rfl) (noOwn_flat rfl)) rfl rfl (by decide) ?_
        refine r_val (v := .int _ _) (v_add (.inl rfl) (.inl rfl) (fun _ => by omega)) rfl rfl (by decide) ?_
        refine r_val (v := .int _ _) (v_assign (.inl rfl) (noOwn_flat rfl)) rfl rfl (by decide) ?_
        refine r_nil ?_
        refine ⟨(x.1 + 1, putL x.2 (gd b x.1)), ent_look ⟨Weak.of_eq rfl, Weak.osl rfl (putL_length _ _).symm, Weak.of_eq (int_eq (by dsimp only; omega)), trivial⟩, ⟨by dsimp only; omega, by rw [← g2]; exact join_new (by omega) hno (by simpa using ht30), g3.put hsb, by dsimp only; rw [putL_length]; omega⟩, by dsimp only; omega⟩
      ·
        skip
        refine a_skip ?_
        refine a_region ?_
        refine r_val (v := .int _ _) (v_move (.inl rfl) (noOwn_flat rfl)) rfl rfl (by decide) ?_
        refine r_val (v := .int _ _) (v_add (.inl rfl) (.inl rfl) (fun _ => by omega)) rfl rfl (by decide) ?_
        refine r_val (v := .int _ _) (v_assign (.inl rfl) (noOwn_flat rfl)) rfl rfl (by decide) ?_
        refine r_nil ?_
        refine ⟨(x.1 + 1, x.2), ent_look ⟨Weak.of_eq rfl, Weak.of_eq rfl, Weak.of_eq (int_eq (by dsimp only; omega)), trivial⟩, ⟨by dsimp only; omega, by rw [← g2]; exact join_old (by omega) hno (by simpa using ht30), g3, by dsimp only; omega⟩, by dsimp only; omega⟩
  ·
    skip
    refine a_exit ?_
    refine a_seq ?_
    refine a_region ?_
    refine r_val (v := .rsl _ _ _ _ _) (v_move (.inl rfl) (noOwn_flat rfl)) rfl rfl (by decide) ?_
    refine r_val (v := .rsl _ _ _ _ _) (v_assign (.inl rfl) (noOwn_flat rfl)) rfl rfl (by decide) ?_
    refine r_pre (ent_reloc_sl (t := 4) rfl rfl) ?_
    refine r_val (v := .bool _) (v_assign (.inl rfl) (noOwn_flat rfl)) rfl rfl (by decide) ?_
    refine r_nil ?_
    refine a_ret ?_
    refine retL (rs := [.tmp 4, .tmp 5]) [(4, .osl _ _ _ none), (5, _)] ⟨Weak.osl rfl rfl, Weak.rfl, trivial⟩ rfl Try.results90 (by decide) ⟨by decide, by decide, rfl⟩ (by decide) (by decide) (l2_eq (osl_eq2 ?_ ?_) (bool_eq ?_)) (by simp [refsL, refs])
    all_goals (have hz : joinL a b = some x.2 := (by rw [← g2]; exact join_end (by simp at ht13; omega))); simp [hz]
end Go.Av
namespace Go.Av
open Go Go.Proofs Go.Sort
set_option maxRecDepth 10000
theorem hb90 : hasBody Try.prog 90 = true := by kernel_rfl
theorem hb93 : hasBody Try.prog 93 = true := by kernel_rfl

end Go.Av
namespace Go.Av
open Go Go.Proofs Go.Sort
set_option maxRecDepth 10000
theorem hb96 : hasBody Try.prog 96 = true := by kernel_rfl
theorem hb99 : hasBody Try.prog 99 = true := by kernel_rfl

theorem of_c (L : List Int) (hl : L.length ≤ 262144) (hs : SmI L) : ACall Try.prog 96 [.sl (icells L) L.length] [] (.tup [.osl 1 (icells ((joinL [] L).getD [])) ((joinL [] L).getD []).length none, .bool (joinL [] L).isSome]) [] := by
  refine ACall.intro Try.func96 rfl (N := 30) rfl (by decide) (by simp) ?_
  refine a_seq ?_
  refine a_region ?_
  refine r_val (v := .nils) (v_assign (.inl rfl) (noOwn_flat rfl)) rfl rfl (by decide) ?_
  refine r_val (v := .bool _) (v_assign (.inl rfl) (noOwn_flat rfl)) rfl rfl (by decide) ?_
  refine r_nil ?_
  refine a_seq ?_
  refine a_region ?_
  refine r_new (v := .osl _ _ _ _) (q_sliceLit (n := 0) (parts := []) lt25 rfl rfl rfl rfl) rfl rfl (by decide) ?_
  refine r_val (v := .rsl _ _ _ _ _) (v_assign (.inl rfl) (noOwn_flat rfl)) rfl rfl (by decide) ?_
  refine r_pre (ent_reloc_sl (t := 4) rfl rfl) ?_
  refine r_nil ?_
  refine a_seq ?_
  refine a_seq ?_
  refine a_region ?_
  refine r_val (v := .int _ _) (v_assign (.inl rfl) (noOwn_flat rfl)) rfl rfl (by decide) ?_
  refine r_nil ?_
  refine a_block ?_
  refine a_loop (X := (Nat × List Int)) (fun x => look [(0, .sl (icells L) L.length), (4, .osl 1 (icells x.2) x.2.length none), (5, .int .i64 ((x.1 : Nat) : Int))]) (fun x => x.1 ≤ L.length ∧ joinL x.2 (L.drop x.1) = joinL [] L ∧ SmI x.2 ∧ x.2.length ≤ x.1) (fun x => L.length - x.1) (0, []) (ent_look ⟨Weak.of_eq rfl, Weak.osl rfl rfl, Weak.of_eq rfl, trivial⟩) ⟨Nat.zero_le _, rfl, by simp [SmI, gd], Nat.le_refl _⟩ (fun x hG => ?_)
  obtain ⟨g1, g2, g3, g4⟩ := hG
  have hsi := hs x.1
  have hjl := joinOne_len x.2 (gd L x.1)
  refine a_seq ?_
  refine a_seq ?_
  refine a_region ?_
  refine r_val (v := .int _ _) (v_move (.inl rfl) (noOwn_flat rfl)) rfl rfl (by decide) ?_
  refine r_val (v := .sl _ _) (v_move (.inl rfl) (noOwn_flat rfl)) rfl rfl (by decide) ?_
  refine r_val (v := .int _ _) (v_len_sl sl25 (.inl rfl)) rfl rfl (by decide) ?_
  refine r_val (v := .bool _) (v_lss (.inl rfl) (.inl rfl)) rfl rfl (by decide) ?_
  refine r_nil ?_
  refine a_cond rfl (fun ht12 => ?_) (fun ht12 => ?_)
  ·
    skip
    refine a_skip ?_
    refine a_seq ?_
    refine a_block ?_
    refine a_seq ?_
    have hi : x.1 < L.length := (by simp at ht12; omega)
    refine a_region ?_
    refine r_val (v := .rsl _ _ _ _ _) (v_move (.inl rfl) (noOwn_flat rfl)) rfl rfl (by decide) ?_
    refine r_val (v := .sl _ _) (v_move (.inl rfl) (noOwn_flat rfl)) rfl rfl (by decide) ?_
    refine r_val (v := .int _ _) (v_move (.inl rfl) (noOwn_flat rfl)) rfl rfl (by decide) ?_
    refine r_val (v := .pp _ _) (v_indexAddr_sl es25 (.inl rfl) (.inl rfl) (fun _ => ⟨by omega, by omega, icells_ne hi⟩)) rfl rfl (by decide) ?_
    refine r_val (v := .int .i64 (gd L x.1)) (v_load_pp ta3 (.inl rfl) (fun _ => by rw [Nat.mul_one]; exact icells_get (gd_get hi)) rfl) rfl rfl (by decide) ?_
    refine r_new (v := .osl 1 (icells [gd L x.1]) 1 (some 1)) (q_sliceLit (n := 1) (parts := [(0, .tmp 20)]) lt25 rfl rfl rfl rfl) rfl rfl (by decide) ?_
    refine r_new (v := .tup [.osl _ _ _ _, .bool _]) (q_call (vs := [.rsl _ _ _ _ _, .rsl _ _ _ _ _]) (args := [.sl _ _, .sl _ _]) hb90 ⟨.inl rfl, .inl rfl, trivial⟩ (l2_eq (sl_sh (ic_pure _)) (sl_sh (ic_pure _))) (fun hA => join_c x.2 [gd L x.1] _ _ ⟨rfl, by omega⟩ ⟨rfl, by decide⟩ g3 (SmI.of (by simpa using hsi))) (by simp [noSh, noShL, ic_noSh]) (by simp [noRef, noRefL, ic_noRef])) rfl rfl (by decide) ?_
    refine r_val (v := .tup [.rsl _ _ _ _ _, .bool _]) (v_mv rfl) rfl rfl (by decide) ?_
    refine r_val (v := .rsl _ _ _ _ _) (v_extract rfl rfl) rfl rfl (by decide) ?_
    refine r_val (v := .bool _) (v_extract rfl rfl) rfl rfl (by decide) ?_
    refine r_val (v := .rsl _ _ _ _ _) (v_assign (.inl rfl) (noOwn_flat rfl)) rfl rfl (by decide) ?_
    refine r_pre (ent_reloc_sl (t := 6) rfl rfl) ?_
    refine r_val (v := .bool _) (v_assign (.inl rfl) (noOwn_flat rfl)) rfl rfl (by decide) ?_
    refine r_nil ?_
    refine a_seq ?_
    refine a_seq ?_
    refine a_region ?_
    refine r_val (v := .bool _) (v_move (.inl rfl) (noOwn_flat rfl)) rfl rfl (by decide) ?_
    refine r_val (v := .bool _) (v_not (.inl rfl)) rfl rfl (by decide) ?_
    refine r_nil ?_
    refine a_cond rfl (fun ht26 => ?_) (fun ht26 => ?_)
    ·
      skip
      refine a_seq ?_
      refine a_region ?_
      refine r_new (v := .osl _ _ _ _) (q_sliceLit (n := 0) (parts := []) lt25 rfl rfl rfl rfl) rfl rfl (by decide) ?_
      refine r_val (v := .rsl _ _ _ _ _) (v_assign (.inl rfl) (noOwn_flat rfl)) rfl rfl (by decide) ?_
      refine r_pre (ent_reloc_sl (t := 2) rfl rfl) ?_
      refine r_val (v := .bool _) (v_assign (.inl rfl) (noOwn_flat rfl)) rfl rfl (by decide) ?_
      refine r_nil ?_
      refine a_ret ?_
      refine retL (rs := [.tmp 2, .tmp 3]) [(2, .osl _ _ _ none), (3, _)] ⟨Weak.osl rfl rfl, Weak.rfl, trivial⟩ rfl Try.results96 (by decide) ⟨by decide, by decide, rfl⟩ (by decide) (by decide) (l2_eq (osl_eq2 ?_ ?_) (bool_eq ?_)) (by simp [refsL, refs])
      all_goals (have hz : joinL [] L = none := (by rw [← g2]; exact joinOne_none hi (by simpa using ht26))); simp [hz, icells, rep]
    ·
      skip
      refine a_skip ?_
      obtain ⟨o, hjo⟩ : ∃ o, (joinL x.2 [gd L x.1]) = some o := Option.isSome_iff_exists.1 (by simpa using ht26)
      refine a_region ?_
      refine r_val (v := .rsl _ _ _ _ _) (v_move (.inl rfl) (noOwn_flat rfl)) rfl rfl (by decide) ?_
      refine r_val (v := .rsl _ _ _ _ _) (v_assign (.inl rfl) (noOwn_flat rfl)) rfl rfl (by decide) ?_
      refine r_pre (ent_reloc_sl (t := 4) rfl rfl) ?_
      refine r_nil ?_
      refine a_region ?_
      refine r_val (v := .int _ _) (v_move (.inl rfl) (noOwn_flat rfl)) rfl rfl (by decide) ?_
      refine r_val (v := .int _ _) (v_add (.inl rfl) (.inl rfl) (fun _ => by omega)) rfl rfl (by decide) ?_
      refine r_val (v := .int _ _) (v_assign (.inl rfl) (noOwn_flat rfl)) rfl rfl (by decide) ?_
      refine r_nil ?_
      refine ⟨(x.1 + 1, (joinL x.2 [gd L x.1]).getD []), ent_look ⟨Weak.of_eq rfl, Weak.of_eq rfl, Weak.of_eq (int_eq (by dsimp only; omega)), trivial⟩, ⟨by dsimp only; omega, by rw [← g2, ← joinOne_next hi hjo]; simp [hjo], joinOne_sm g3 hsi, by dsimp only; omega⟩, by dsimp only; omega⟩
  ·
    skip
    refine a_exit ?_
    refine a_seq ?_
    refine a_region ?_
    refine r_val (v := .rsl _ _ _ _ _) (v_move (.inl rfl) (noOwn_flat rfl)) rfl rfl (by decide) ?_
    refine r_val (v := .rsl _ _ _ _ _) (v_assign (.inl rfl) (noOwn_flat rfl)) rfl rfl (by decide) ?_
    refine r_pre (ent_reloc_sl (t := 2) rfl rfl) ?_
    refine r_val (v := .bool _) (v_assign (.inl rfl) (noOwn_flat rfl)) rfl rfl (by decide) ?_
    refine r_nil ?_
    refine a_ret ?_
    refine retL (rs := [.tmp 2, .tmp 3]) [(2, .osl _ _ _ none), (3, _)] ⟨Weak.osl rfl rfl, Weak.rfl, trivial⟩ rfl Try.results96 (by decide) ⟨by decide, by decide, rfl⟩ (by decide) (by decide) (l2_eq (osl_eq2 ?_ ?_) (bool_eq ?_)) (by simp [refsL, refs])
    all_goals (have hz : joinL [] L = some x.2 := (by rw [← g2]; exact join_end (by simp at ht12; omega))); simp [hz]

theorem sClauseOf_c (vars : Int) (L : List Int) (hl : (L.length : Int) ≤ 1048576) (hv : -9223372036854775808 ≤ vars ∧ vars ≤ 9223372036854775807) (hb : ∀ j, -9223372036854775808 ≤ gd L j ∧ gd L j ≤ 9223372036854775807) : ACall Try.prog 46 [.int .i64 vars, .sl (icells L) L.length] [] (.tup [.osl 1 (icells ((clOf vars L).getD [])) ((clOf vars L).getD []).length none, .bool (clOf vars L).isSome]) [] := by
  refine ACall.intro Try.func46 rfl (N := 34) rfl (by decide) (by simp) ?_
  refine a_seq ?_
  refine a_region ?_
  refine r_val (v := .nils) (v_assign (.inl rfl) (noOwn_flat rfl)) rfl rfl (by decide) ?_
  refine r_val (v := .bool _) (v_assign (.inl rfl) (noOwn_flat rfl)) rfl rfl (by decide) ?_
  refine r_nil ?_
  refine a_seq ?_
  refine a_seq ?_
  refine a_region ?_
  refine r_val (v := .int _ _) (v_move (.inl rfl) (noOwn_flat rfl)) rfl rfl (by decide) ?_
  refine r_new (v := .bool _) (q_call (vs := [.int _ _]) (args := [.int .i64 _]) hb95 ⟨.inl rfl, trivial⟩ rfl (fun hA => l2Vars_c _) rfl rfl) rfl rfl (by decide) ?_
  refine r_val (v := .bool _) (v_not (.inl rfl)) rfl rfl (by decide) ?_
  refine r_val (v := .bool _) (v_move (.inl rfl) (noOwn_flat rfl)) rfl rfl (by decide) ?_
  refine r_gval (v := .sl _ _) (v_move (.inl rfl) (noOwn_flat rfl)) rfl rfl rfl (by decide) (.inl ⟨_, rfl, rfl⟩) rfl (by decide) ?_
  refine r_gval (v := .int _ _) (v_len_sl sl25 (.inr ⟨_, rfl, fun h => h⟩)) rfl rfl rfl (by decide) (.inl ⟨_, rfl, rfl⟩) rfl (by decide) ?_
  refine r_gval (v := .bool _) (v_gtr (.inr ⟨_, rfl, fun h => h⟩) (.inl rfl)) rfl rfl rfl (by decide) (.inl ⟨_, rfl, rfl⟩) rfl (by decide) ?_
  refine r_val (v := .bool _) (v_pick (.inl rfl) (.inl rfl) (.inr ⟨_, rfl, fun h h2 => by simp_all⟩)) rfl rfl (by decide) ?_
  refine r_nil ?_
  refine a_cond rfl (fun ht14 => ?_) (fun ht14 => ?_)
  ·
    skip
    refine a_seq ?_
    refine a_region ?_
    refine r_new (v := .osl _ _ _ _) (q_sliceLit (n := 0) (parts := []) lt25 rfl rfl rfl rfl) rfl rfl (by decide) ?_
    refine r_val (v := .rsl _ _ _ _ _) (v_assign (.inl rfl) (noOwn_flat rfl)) rfl rfl (by decide) ?_
    refine r_pre (ent_reloc_sl (t := 4) rfl rfl) ?_
    refine r_val (v := .bool _) (v_assign (.inl rfl) (noOwn_flat rfl)) rfl rfl (by decide) ?_
    refine r_nil ?_
    refine a_ret ?_
    refine retL (rs := [.tmp 4, .tmp 5]) [(4, .osl _ _ _ none), (5, _)] ⟨Weak.osl rfl rfl, Weak.rfl, trivial⟩ rfl Try.results46 (by decide) ⟨by decide, by decide, rfl⟩ (by decide) (by decide) (l2_eq (osl_eq2 ?_ ?_) (bool_eq ?_)) (by simp [refsL, refs])
    all_goals (have hno : clOf vars L = none := (by unfold clOf; rw [if_neg]; intro hc; simp only [Bool.and_eq_true, decide_eq_true_eq] at hc; rw [hc.1.1] at ht14; simp at ht14; omega); simp [hno, icells, rep])
  ·
    skip
    refine a_skip ?_
    refine a_seq ?_
    refine a_seq ?_
    refine a_region ?_
    refine r_val (v := .int _ _) (v_assign (.inl rfl) (noOwn_flat rfl)) rfl rfl (by decide) ?_
    refine r_nil ?_
    refine a_block ?_
    refine a_loop (X := Nat) (fun i => look [(0, .int .i64 vars), (1, .sl (icells L) L.length), (6, .int .i64 ((i : Nat) : Int))]) (fun i => i ≤ L.length ∧ ∀ j, j < i → litB vars (gd L j) = true) (fun i => L.length - i) 0 (ent_look ⟨Weak.of_eq rfl, Weak.of_eq rfl, Weak.of_eq rfl, trivial⟩) ⟨Nat.zero_le _, fun j h => by omega⟩ (fun i hG => ?_)
    obtain ⟨g1, g2⟩ := hG
    refine a_seq ?_
    refine a_seq ?_
    have hok : inR vars 0 12 = true ∧ L.length ≤ 30 := (by cases h1 : inR vars 0 12 <;> simp [h1] at ht14; exact ⟨rfl, by omega⟩)
    have hvv := inR_spec.1 hok.1
    refine a_region ?_
    refine r_val (v := .int _ _) (v_move (.inl rfl) (noOwn_flat rfl)) rfl rfl (by decide) ?_
    refine r_val (v := .sl _ _) (v_move (.inl rfl) (noOwn_flat rfl)) rfl rfl (by decide) ?_
    refine r_val (v := .int _ _) (v_len_sl sl25 (.inl rfl)) rfl rfl (by decide) ?_
    refine r_val (v := .bool _) (v_lss (.inl rfl) (.inl rfl)) rfl rfl (by decide) ?_
    refine r_nil ?_
    refine a_cond rfl (fun ht19 => ?_) (fun ht19 => ?_)
    ·
      skip
      refine a_skip ?_
      refine a_seq ?_
      refine a_block ?_
      refine a_seq ?_
      have hi : i < L.length := (by simp at ht19; omega)
      refine a_region ?_
      refine r_val (v := .int _ _) (v_move (.inl rfl) (noOwn_flat rfl)) rfl rfl (by decide) ?_
      refine r_val (v := .sl _ _) (v_move (.inl rfl) (noOwn_flat rfl)) rfl rfl (by decide) ?_
      refine r_val (v := .int _ _) (v_move (.inl rfl) (noOwn_flat rfl)) rfl rfl (by decide) ?_
      refine r_val (v := .pp _ _) (v_indexAddr_sl es25 (.inl rfl) (.inl rfl) (fun _ => ⟨by omega, by omega, icells_ne hi⟩)) rfl rfl (by decide) ?_
      refine r_val (v := .int .i64 (gd L i)) (v_load_pp ta3 (.inl rfl) (fun _ => by rw [Nat.mul_one]; exact icells_get (gd_get hi)) rfl) rfl rfl (by decide) ?_
      refine r_new (v := .bool _) (q_call (vs := [.int _ _, .int _ _]) (args := [.int .i64 _, .int .i64 _]) hb89 ⟨.inl rfl, .inl rfl, trivial⟩ rfl (fun hA => l2Lit_c _ _ (by omega)) rfl rfl) rfl rfl (by decide) ?_
      refine r_val (v := .bool _) (v_not (.inl rfl)) rfl rfl (by decide) ?_
      refine r_nil ?_
      refine a_cond rfl (fun ht28 => ?_) (fun ht28 => ?_)
      ·
        skip
        refine a_seq ?_
        have hno : clOf vars L = none := (by unfold clOf; rw [if_neg]; rw [allLit_no hi (by simpa using ht28)]; simp)
        refine a_region ?_
        refine r_new (v := .osl _ _ _ _) (q_sliceLit (n := 0) (parts := []) lt25 rfl rfl rfl rfl) rfl rfl (by decide) ?_
        refine r_val (v := .rsl _ _ _ _ _) (v_assign (.inl rfl) (noOwn_flat rfl)) rfl rfl (by decide) ?_
        refine r_pre (ent_reloc_sl (t := 4) rfl rfl) ?_
        refine r_val (v := .bool _) (v_assign (.inl rfl) (noOwn_flat rfl)) rfl rfl (by decide) ?_
        refine r_nil ?_
        refine a_ret ?_
        refine retL (rs := [.tmp 4, .tmp 5]) [(4, .osl _ _ _ none), (5, _)] ⟨Weak.osl rfl rfl, Weak.rfl, trivial⟩ rfl Try.results46 (by decide) ⟨by decide, by decide, rfl⟩ (by decide) (by decide) (l2_eq (osl_eq2 ?_ ?_) (bool_eq ?_)) (by simp [refsL, refs])
        all_goals simp [hno, icells, rep]
      ·
        skip
        refine a_skip ?_
        refine a_region ?_
        refine r_val (v := .int _ _) (v_move (.inl rfl) (noOwn_flat rfl)) rfl rfl (by decide) ?_
        refine r_val (v := .int _ _) (v_add (.inl rfl) (.inl rfl) (fun _ => by omega)) rfl rfl (by decide) ?_
        refine r_val (v := .int _ _) (v_assign (.inl rfl) (noOwn_flat rfl)) rfl rfl (by decide) ?_
        refine r_nil ?_
        refine ⟨i + 1, ent_look ⟨Weak.of_eq rfl, Weak.of_eq rfl, Weak.of_eq (int_eq (by omega)), trivial⟩, ⟨by omega, fun j h1 => by rcases Nat.lt_or_ge j i with h | h; exact g2 j h; (obtain rfl : j = i := by omega); simpa using ht28⟩, by omega⟩
    ·
      skip
      refine a_exit ?_
      refine a_seq ?_
      have hal : allLit vars L = true := allLit_yes (fun j hj => g2 j (by simp at ht19; omega))
      refine a_region ?_
      refine r_val (v := .sl _ _) (v_move (.inl rfl) (noOwn_flat rfl)) rfl rfl (by decide) ?_
      refine r_new (v := .tup [.osl _ _ _ _, .bool _]) (q_call (vs := [.sl _ _]) (args := [.sl _ _]) hb96 ⟨.inl rfl, trivial⟩ rfl (fun hA => of_c L (by omega) (clOf_sm hok.1 hal)) (by simp [noSh, noShL, ic_noSh]) (by simp [noRef, noRefL, ic_noRef])) rfl rfl (by decide) ?_
      refine r_val (v := .rsl _ _ _ _ _) (v_extract rfl rfl) rfl rfl (by decide) ?_
      refine r_val (v := .bool _) (v_extract rfl rfl) rfl rfl (by decide) ?_
      refine r_val (v := .rsl _ _ _ _ _) (v_assign (.inl rfl) (noOwn_flat rfl)) rfl rfl (by decide) ?_
      refine r_pre (ent_reloc_sl (t := 4) rfl rfl) ?_
      refine r_val (v := .bool _) (v_assign (.inl rfl) (noOwn_flat rfl)) rfl rfl (by decide) ?_
      refine r_nil ?_
      refine a_ret ?_
      refine retL (rs := [.tmp 4, .tmp 5]) [(4, .osl _ _ _ none), (5, _)] ⟨Weak.osl rfl rfl, Weak.rfl, trivial⟩ rfl Try.results46 (by decide) ⟨by decide, by decide, rfl⟩ (by decide) (by decide) (l2_eq (osl_eq2 ?_ ?_) (bool_eq ?_)) (by simp [refsL, refs])
      all_goals (unfold clOf; rw [hok.1, hal, decide_eq_true hok.2]; rfl)

theorem clauseOf1_c (vars l : Int) (hv : 0 ≤ vars ∧ vars ≤ 12) : ACall Try.prog 99 [.int .i64 l, .pp [.int .i64 vars] 0] [] (.bool (!litB vars l)) [] := by
  refine ACall.intro Try.func99 rfl (N := 8) rfl (by decide) (by simp) ?_
  refine a_seq ?_
  refine a_region ?_
  refine r_val (v := .bool _) (v_assign (.inl rfl) (noOwn_flat rfl)) rfl rfl (by decide) ?_
  refine r_nil ?_
  refine a_seq ?_
  refine a_region ?_
  refine r_val (v := .int _ _) (v_load_pp ta3 (.inl rfl) (fun _ => rfl) rfl) rfl rfl (by decide) ?_
  refine r_val (v := .int _ _) (v_move (.inl rfl) (noOwn_flat rfl)) rfl rfl (by decide) ?_
  refine r_new (v := .bool _) (q_call (vs := [.int _ _, .int _ _]) (args := [.int .i64 _, .int .i64 _]) hb92 ⟨.inl rfl, .inl rfl, trivial⟩ rfl (fun hA => isLit_c _ _ (by omega)) rfl rfl) rfl rfl (by decide) ?_
  refine r_val (v := .bool _) (v_not (.inl rfl)) rfl rfl (by decide) ?_
  refine r_val (v := .bool _) (v_assign (.inl rfl) (noOwn_flat rfl)) rfl rfl (by decide) ?_
  refine r_nil ?_
  refine a_ret ?_
  refine ret1 Try.results99 (by decide) (by decide) (Weak.of_eq (bool_eq ?_)) rfl Leaves.nil
  rw [litW_of (by omega)]

theorem iClauseOf_c (vars : Int) (L : List Int) (hl : (L.length : Int) ≤ 1048576) (hv : -9223372036854775808 ≤ vars ∧ vars ≤ 9223372036854775807) (hb : ∀ j, -9223372036854775808 ≤ gd L j ∧ gd L j ≤ 9223372036854775807) : ACall Try.prog 47 [.int .i64 vars, .sl (icells L) L.length] [] (.tup [.osl 1 (icells ((clOf vars L).getD [])) ((clOf vars L).getD []).length none, .bool (clOf vars L).isSome]) [] := by
  have hbC := hb99
  refine ACall.intro Try.func47 rfl (N := 23) rfl (by decide) (by simp) ?_
  refine a_seq ?_
  refine a_region ?_
  refine r_new (v := .op [.int _ _]) (q_box (.inl rfl) rfl rfl) rfl rfl (by decide) ?_
  refine r_val (v := .nils) (v_assign (.inl rfl) (noOwn_flat rfl)) rfl rfl (by decide) ?_
  refine r_val (v := .bool _) (v_assign (.inl rfl) (noOwn_flat rfl)) rfl rfl (by decide) ?_
  refine r_nil ?_
  refine a_seq ?_
  refine a_seq ?_
  refine a_region ?_
  refine r_val (v := .int _ _) (v_load_rp1 ta3 (.inl rfl) rfl (fun _ => rfl) rfl) rfl rfl (by decide) ?_
  refine r_new (v := .bool _) (q_call (vs := [.int _ _]) (args := [.int .i64 _]) hb97 ⟨.inl rfl, trivial⟩ rfl (fun hA => varsOk_c _) rfl rfl) rfl rfl (by decide) ?_
  refine r_val (v := .bool _) (v_not (.inl rfl)) rfl rfl (by decide) ?_
  refine r_val (v := .bool _) (v_move (.inl rfl) (noOwn_flat rfl)) rfl rfl (by decide) ?_
  refine r_gval (v := .sl _ _) (v_move (.inl rfl) (noOwn_flat rfl)) rfl rfl rfl (by decide) (.inl ⟨_, rfl, rfl⟩) rfl (by decide) ?_
  refine r_gval (v := .int _ _) (v_len_sl sl25 (.inr ⟨_, rfl, fun h => h⟩)) rfl rfl rfl (by decide) (.inl ⟨_, rfl, rfl⟩) rfl (by decide) ?_
  refine r_gval (v := .bool _) (v_gtr (.inr ⟨_, rfl, fun h => h⟩) (.inl rfl)) rfl rfl rfl (by decide) (.inl ⟨_, rfl, rfl⟩) rfl (by decide) ?_
  refine r_val (v := .bool _) (v_pick (.inl rfl) (.inl rfl) (.inr ⟨_, rfl, fun h h2 => by simp_all⟩)) rfl rfl (by decide) ?_
  refine r_val (v := .bool _) (v_move (.inl rfl) (noOwn_flat rfl)) rfl rfl (by decide) ?_
  refine r_gval (v := .sl _ _) (v_move (.inl rfl) (noOwn_flat rfl)) rfl rfl rfl (by decide) (.inl ⟨_, rfl, rfl⟩) rfl (by decide) ?_
  refine r_gval (v := .fn _ _ _) (v_makeFunc (first := []) (caps := [.tmp 2]) rfl rfl) rfl rfl rfl (by decide) (.inl ⟨_, rfl, rfl⟩) rfl (by decide) ?_
  refine r_guard (v := .bool _) (q_call (vs := [.sl _ _, .fn _ _ _]) (args := [.sl _ _, .fn _ _ _]) hb98 ⟨.inr ⟨_, rfl, fun h => h⟩, .inr ⟨_, rfl, fun h => h⟩, trivial⟩ rfl (fun hA => contI_c 99 [.pp [.int .i64 vars] 0] hbC rfl L (fun i => !litB vars (gd L i)) (by omega) (fun i hi => clauseOf1_c vars _ (by cases hh : inR vars 0 12 with | false => simp_all | true => exact inR_spec.1 hh))) rfl rfl) rfl rfl rfl (by decide) (.inl ⟨_, rfl, rfl⟩) rfl (by decide) ?_
  refine r_val (v := .bool _) (v_pick (.inl rfl) (.inl rfl) (.inr ⟨_, rfl, fun h h2 => by simp_all⟩)) rfl rfl (by decide) ?_
  refine r_nil ?_
  refine a_cond rfl (fun ht18 => ?_) (fun ht18 => ?_)
  ·
    skip
    refine a_seq ?_
    refine a_region ?_
    refine r_val (v := .nils) (v_assign (.inl rfl) (noOwn_flat rfl)) rfl rfl (by decide) ?_
    refine r_val (v := .bool _) (v_assign (.inl rfl) (noOwn_flat rfl)) rfl rfl (by decide) ?_
    refine r_nil ?_
    refine a_pre (ent_nil (t := 4) (sz := 1) (cap := none) (.inl rfl) (fun _ h => by cases h)) ?_
    refine a_ret ?_
    refine retL (rs := [.tmp 4, .tmp 5]) [(4, .osl _ _ _ none), (5, _)] ⟨Weak.osl rfl rfl, Weak.rfl, trivial⟩ rfl Try.results47 (by decide) ⟨by decide, by decide, rfl⟩ (by decide) (by decide) (l2_eq (osl_eq2 ?_ ?_) (bool_eq ?_)) (by simp [refsL, refs])
    all_goals (have hno : clOf vars L = none := (by unfold clOf allLit; rw [if_neg]; intro hc; simp only [Bool.and_eq_true, decide_eq_true_eq, Bool.not_eq_true'] at hc; rw [hc.1.1, hc.2] at ht18; simp at ht18; omega); simp [hno, icells, rep])
  ·
    skip
    refine a_skip ?_
    refine a_seq ?_
    have hok : inR vars 0 12 = true ∧ L.length ≤ 30 ∧ allLit vars L = true := (by unfold allLit; cases h1 : inR vars 0 12 <;> simp [h1] at ht18 ⊢; exact ⟨by omega, fun j hj => ht18.2 j hj⟩)
    refine a_region ?_
    refine r_val (v := .sl _ _) (v_move (.inl rfl) (noOwn_flat rfl)) rfl rfl (by decide) ?_
    refine r_new (v := .tup [.osl _ _ _ _, .bool _]) (q_call (vs := [.sl _ _]) (args := [.sl _ _]) hb93 ⟨.inl rfl, trivial⟩ rfl (fun hA => clause_c L (by omega)) (by simp [noSh, noShL, ic_noSh]) (by simp [noRef, noRefL, ic_noRef])) rfl rfl (by decide) ?_
    refine r_val (v := .rsl _ _ _ _ _) (v_extract rfl rfl) rfl rfl (by decide) ?_
    refine r_val (v := .bool _) (v_extract rfl rfl) rfl rfl (by decide) ?_
    refine r_val (v := .rsl _ _ _ _ _) (v_assign (.inl rfl) (noOwn_flat rfl)) rfl rfl (by decide) ?_
    refine r_pre (ent_reloc_sl (t := 4) rfl rfl) ?_
    refine r_val (v := .bool _) (v_assign (.inl rfl) (noOwn_flat rfl)) rfl rfl (by decide) ?_
    refine r_nil ?_
    refine a_ret ?_
    refine retL (rs := [.tmp 4, .tmp 5]) [(4, .osl _ _ _ none), (5, _)] ⟨Weak.osl rfl rfl, Weak.rfl, trivial⟩ rfl Try.results47 (by decide) ⟨by decide, by decide, rfl⟩ (by decide) (by decide) (l2_eq (osl_eq2 ?_ ?_) (bool_eq ?_)) (by simp [refsL, refs])
    all_goals (unfold clOf; rw [clOf_impl hok.1 hok.2.2, hok.1, hok.2.2, decide_eq_true hok.2.1]; rfl)
end Go.Av
