/- Lemmas, part 5. -/
import Derived.Test.YtflabfgegbccjaaGreatA4
import Derived.Sort.LotD5
import Derived.Sort.LotA
set_option linter.unusedVariables false
set_option linter.unusedSimpArgs false
set_option maxRecDepth 10000
namespace Go.Av
open Go Go.Proofs Go.Sort
theorem hb195 : hasBody Tryz.prog 195 = true := by kernel_rfl
theorem choosePivot_c (f : Nat) (hb : hasBody Tryz.prog f = true) (cf : Int → Int → Int) (hc : ∀ x y, ACall Tryz.prog f [.int .i64 x, .int .i64 y] [] (.int .i64 (cf x y)) []) (d : Array Int) (n a b : Nat) (hd : d.size = n) (hab : a < b ∧ b ≤ n) (hn : n ≤ 1152921504606846976) : ACall Tryz.prog 188 [.sl (acells d) n, .int .i64 ((a : Nat) : Int), .int .i64 ((b : Nat) : Int), .fn f [] []] [] (.tup [.int .i64 (((choosePivot (ltc cf) d a b).1 : Nat) : Int), .int .i64 ((hintN (choosePivot (ltc cf) d a b).2 : Nat) : Int)]) [] := by
  refine ACall.intro Tryz.func188 rfl (N := 63) rfl (by decide) (by simp) ?_
  refine aq ?_
  refine ra (.int _ _) ?_
  refine ra (.int _ _) ?_
  refine r_nil ?_
  refine aq ?_
  refine rm (.int _ _) ?_
  refine rm (.int _ _) ?_
  refine rv (v := .int .i64 ((b - a : Nat) : Int)) ((v_sub il il (fun _ => by omega)).cast (int_eq (by omega))) ?_
  refine ra (.int _ _) ?_
  refine r_nil ?_
  refine aq ?_
  refine rn (v := .op [.int _ _]) (q_alloc zc3) ?_
  refine r_nil ?_
  refine a_seq ?_
  refine a_pre (ent_eq (t := 11) (v' := .op [.int .i64 ((0 : Nat) : Int)]) (wr)) ?_
  refine a_region ?_
  refine rm (.int _ _) ?_
  refine rm (.int _ _) ?_
  refine rv (v := .int .i64 (((b - a) / 4 : Nat) : Int)) ((v_quo il il (fun _ => by omega)).cast (int_eq (by omega))) ?_
  refine rv (v := .int .i64 (((b - a) / 4 * 1 : Nat) : Int)) ((v_mul il il (fun _ => by omega)).cast (int_eq (by omega))) ?_
  refine rv (v := .int .i64 ((a + (b - a) / 4 * 1 : Nat) : Int)) ((v_add il il (fun _ => by omega)).cast (int_eq (by omega))) ?_
  refine ra (.int _ _) ?_
  refine r_nil ?_
  refine aq ?_
  refine rm (.int _ _) ?_
  refine rm (.int _ _) ?_
  refine rv (v := .int .i64 (((b - a) / 4 : Nat) : Int)) ((v_quo il il (fun _ => by omega)).cast (int_eq (by omega))) ?_
  refine rv (v := .int .i64 (((b - a) / 4 * 2 : Nat) : Int)) ((v_mul il il (fun _ => by omega)).cast (int_eq (by omega))) ?_
  refine rv (v := .int .i64 ((a + (b - a) / 4 * 2 : Nat) : Int)) ((v_add il il (fun _ => by omega)).cast (int_eq (by omega))) ?_
  refine ra (.int _ _) ?_
  refine r_nil ?_
  refine aq ?_
  refine rm (.int _ _) ?_
  refine rm (.int _ _) ?_
  refine rv (v := .int .i64 (((b - a) / 4 : Nat) : Int)) ((v_quo il il (fun _ => by omega)).cast (int_eq (by omega))) ?_
  refine rv (v := .int .i64 (((b - a) / 4 * 3 : Nat) : Int)) ((v_mul il il (fun _ => by omega)).cast (int_eq (by omega))) ?_
  refine rv (v := .int .i64 ((a + (b - a) / 4 * 3 : Nat) : Int)) ((v_add il il (fun _ => by omega)).cast (int_eq (by omega))) ?_
  refine ra (.int _ _) ?_
  refine r_nil ?_
  refine a_seq ?_
  refine aq ?_
  refine rm (.int _ _) ?_
  refine rv (v := .bool _) (v_geq il il) ?_
  refine r_nil ?_
  refine a_cond rfl (fun ht34 => ?_) (fun ht34 => ?_)
  ·
    refine a_seq ?_
    refine a_seq ?_
    have h8 : b - a ≥ 8 := (by simp at ht34; omega)
    refine a_region ?_
    refine rm (.int _ _) ?_
    refine rv (v := .bool _) (v_geq il il) ?_
    refine r_nil ?_
    refine a_cond rfl (fun ht36 => ?_) (fun ht36 => ?_)
    ·
      refine a_seq ?_
      have h50 : b - a ≥ 50 := (by simp at ht36; omega)
      have m1 : (medianAdjacent (ltc cf) d (a + (b - a) / 4 * 1) 0).1 < n ∧ (medianAdjacent (ltc cf) d (a + (b - a) / 4 * 1) 0).2 ≤ 0 + 3 := med_bd (by omega) (by omega) (by omega)
      have m2 : (medianAdjacent (ltc cf) d (a + (b - a) / 4 * 2) (medianAdjacent (ltc cf) d (a + (b - a) / 4 * 1) 0).2).1 < n ∧ (medianAdjacent (ltc cf) d (a + (b - a) / 4 * 2) (medianAdjacent (ltc cf) d (a + (b - a) / 4 * 1) 0).2).2 ≤ (medianAdjacent (ltc cf) d (a + (b - a) / 4 * 1) 0).2 + 3 := med_bd (by omega) (by omega) (by omega)
      have m3 : (medianAdjacent (ltc cf) d (a + (b - a) / 4 * 3) (medianAdjacent (ltc cf) d (a + (b - a) / 4 * 2) (medianAdjacent (ltc cf) d (a + (b - a) / 4 * 1) 0).2).2).1 < n ∧ (medianAdjacent (ltc cf) d (a + (b - a) / 4 * 3) (medianAdjacent (ltc cf) d (a + (b - a) / 4 * 2) (medianAdjacent (ltc cf) d (a + (b - a) / 4 * 1) 0).2).2).2 ≤ (medianAdjacent (ltc cf) d (a + (b - a) / 4 * 2) (medianAdjacent (ltc cf) d (a + (b - a) / 4 * 1) 0).2).2 + 3 := med_bd (by omega) (by omega) (by omega)
      refine a_region ?_
      refine rm (.sl _ _) ?_
      refine rm (.int _ _) ?_
      refine rv (v := .fn _ _ _) (v_mv rfl) ?_
      refine r_step rfl (o_callIOp (q := (11, [])) (vs := [.sl _ _, .int _ _, .rp _ _, .fn _ _ _]) (args := [.sl _ _, .int .i64 _, .rp (INH, []) _, .fn _ _ _]) (cs0 := [.int _ _]) (cs1 := [.int _ _]) (res := .int _ _) rfl hb195 rfl (by decide) ⟨.inl rfl, .inl rfl, .inl rfl, .inl rfl, trivial⟩ rfl rfl (medianAdj_c f hb cf hc d n (a + (b - a) / 4 * 1) 0 hd (by omega) hn) rfl rfl rfl rfl rfl (Nat.le_of_ble_eq_true rfl) (by decide) rfl) ?_
      refine ra (.int _ _) ?_
      refine r_nil ?_
      refine a_seq ?_
      refine a_pre (ent_look (L := [(0, .sl _ _), (3, .fn _ _ _), (8, .int _ _), (9, .int _ _), (11, .op [.int _ _]), (12, .int _ _), (13, .int _ _), (14, .int _ _)]) ⟨wr, wr, wr, wr, wr, wr, wr, wr, trivial⟩) ?_
      refine a_region ?_
      refine rm (.sl _ _) ?_
      refine rm (.int _ _) ?_
      refine rv (v := .fn _ _ _) (v_mv rfl) ?_
      refine r_step rfl (o_callIOp (q := (11, [])) (vs := [.sl _ _, .int _ _, .rp _ _, .fn _ _ _]) (args := [.sl _ _, .int .i64 _, .rp (INH, []) _, .fn _ _ _]) (cs0 := [.int _ _]) (cs1 := [.int _ _]) (res := .int _ _) rfl hb195 rfl (by decide) ⟨.inl rfl, .inl rfl, .inl rfl, .inl rfl, trivial⟩ rfl rfl (medianAdj_c f hb cf hc d n (a + (b - a) / 4 * 2) _ hd (by omega) hn) rfl rfl rfl rfl rfl (Nat.le_of_ble_eq_true rfl) (by decide) rfl) ?_
      refine ra (.int _ _) ?_
      refine r_nil ?_
      refine a_region ?_
      refine rm (.sl _ _) ?_
      refine rm (.int _ _) ?_
      refine rv (v := .fn _ _ _) (v_mv rfl) ?_
      refine r_step rfl (o_callIOp (q := (11, [])) (vs := [.sl _ _, .int _ _, .rp _ _, .fn _ _ _]) (args := [.sl _ _, .int .i64 _, .rp (INH, []) _, .fn _ _ _]) (cs0 := [.int _ _]) (cs1 := [.int _ _]) (res := .int _ _) rfl hb195 rfl (by decide) ⟨.inl rfl, .inl rfl, .inl rfl, .inl rfl, trivial⟩ rfl rfl (medianAdj_c f hb cf hc d n (a + (b - a) / 4 * 3) _ hd (by omega) hn) rfl rfl rfl rfl rfl (Nat.le_of_ble_eq_true rfl) (by decide) rfl) ?_
      refine ra (.int _ _) ?_
      refine r_nil ?_
      refine a_region ?_
      refine rm (.sl _ _) ?_
      refine rm (.int _ _) ?_
      refine rm (.int _ _) ?_
      refine rm (.int _ _) ?_
      refine rv (v := .fn _ _ _) (v_mv rfl) ?_
      refine r_step rfl (o_callIOp (q := (11, [])) (vs := [.sl _ _, .int _ _, .int _ _, .int _ _, .rp _ _, .fn _ _ _]) (args := [.sl _ _, .int .i64 _, .int .i64 _, .int .i64 _, .rp (INH, []) _, .fn _ _ _]) (cs0 := [.int _ _]) (cs1 := [.int _ _]) (res := .int _ _) rfl hb196 rfl (by decide) ⟨.inl rfl, .inl rfl, .inl rfl, .inl rfl, .inl rfl, .inl rfl, trivial⟩ rfl rfl (median_c f hb cf hc d n _ _ _ _ hd (by omega) hn) rfl rfl rfl rfl rfl (Nat.le_of_ble_eq_true rfl) (by decide) rfl) ?_
      refine ra (.int _ _) ?_
      refine r_nil ?_
      refine a_seq ?_
      refine a_pre (ent_eq (t := 13) (v' := .int .i64 (((cpR (ltc cf) d a b).1 : Nat) : Int)) (Weak.of_eq (int_eq (congrArg Nat.cast (by unfold cpR; first | (rw [if_pos h8, if_pos h50]; done) | (rw [if_pos h8, if_neg (by simp at ht36; omega)]; done) | (rw [if_neg (by simp at ht34; omega)])))))) ?_
      refine a_pre (ent_eq (t := 11) (v' := .op [.int .i64 (((cpR (ltc cf) d a b).2 : Nat) : Int)]) (Weak.of_eq (congrArg (fun z : Nat => AV.op [.int .i64 (z : Int)]) (by unfold cpR; first | (rw [if_pos h8, if_pos h50]; done) | (rw [if_pos h8, if_neg (by simp at ht36; omega)]; done) | (rw [if_neg (by simp at ht34; omega)]))))) ?_
      refine a_region ?_
      refine rv (v := .int _ _) (v_load_rp1 ta3 il rfl (fun _ => rfl) rfl) ?_
      refine r_nil ?_
      refine a_block ?_
      refine aq ?_
      refine rv (v := .bool _) (v_eql il il) ?_
      refine ra (.bool _) ?_
      refine r_nil ?_
      refine a_cond rfl (fun ht57 => ?_) (fun ht57 => ?_)
      ·
        refine aq ?_
        refine rm (.int _ _) ?_
        refine ra (.int _ _) ?_
        refine ra (.int _ _) ?_
        refine r_nil ?_
        refine a_ret ?_
        refine retL (rs := [.tmp 8, .tmp 9]) [(8, _), (9, _)] ⟨wr, wr, trivial⟩ rfl Tryz.results188 (by decide) ⟨by decide, by decide, rfl⟩ (by decide) (by decide) (l2_eq (int_eq ?_) (int_eq ?_)) rfl
        · rw [cp_eq]
        · rw [cp_eq]; dsimp only; rw [if_pos (by simp at ht57; omega)]; rfl
      ·
        refine aq ?_
        refine rv (v := .bool _) (v_eql il il) ?_
        refine ra (.bool _) ?_
        refine r_nil ?_
        refine a_cond rfl (fun ht60 => ?_) (fun ht60 => ?_)
        ·
          refine a_seq ?_
          refine a_pre (ent_look (L := [(8, .int _ _), (9, .int _ _), (13, .int _ _)]) ⟨wr, wr, wr, trivial⟩) ?_
          refine a_region ?_
          refine rm (.int _ _) ?_
          refine ra (.int _ _) ?_
          refine ra (.int _ _) ?_
          refine r_nil ?_
          refine a_ret ?_
          refine retL (rs := [.tmp 8, .tmp 9]) [(8, _), (9, _)] ⟨wr, wr, trivial⟩ rfl Tryz.results188 (by decide) ⟨by decide, by decide, rfl⟩ (by decide) (by decide) (l2_eq (int_eq ?_) (int_eq ?_)) rfl
          · rw [cp_eq]
          · rw [cp_eq]; dsimp only; rw [if_neg (by simp at ht57; omega), if_pos (by simp at ht60; omega)]; rfl
        ·
          refine a_seq ?_
          refine a_pre (ent_look (L := [(8, .int _ _), (9, .int _ _), (13, .int _ _)]) ⟨wr, wr, wr, trivial⟩) ?_
          refine a_region ?_
          refine rm (.int _ _) ?_
          refine ra (.int _ _) ?_
          refine ra (.int _ _) ?_
          refine r_nil ?_
          refine a_ret ?_
          refine retL (rs := [.tmp 8, .tmp 9]) [(8, _), (9, _)] ⟨wr, wr, trivial⟩ rfl Tryz.results188 (by decide) ⟨by decide, by decide, rfl⟩ (by decide) (by decide) (l2_eq (int_eq ?_) (int_eq ?_)) rfl
          · rw [cp_eq]
          · rw [cp_eq]; dsimp only; rw [if_neg (by simp at ht57; omega), if_neg (by simp at ht60; omega)]; rfl
    ·
      refine a_skip ?_
      refine a_region ?_
      refine rm (.sl _ _) ?_
      refine rm (.int _ _) ?_
      refine rm (.int _ _) ?_
      refine rm (.int _ _) ?_
      refine rv (v := .fn _ _ _) (v_mv rfl) ?_
      refine r_step rfl (o_callIOp (q := (11, [])) (vs := [.sl _ _, .int _ _, .int _ _, .int _ _, .rp _ _, .fn _ _ _]) (args := [.sl _ _, .int .i64 _, .int .i64 _, .int .i64 _, .rp (INH, []) _, .fn _ _ _]) (cs0 := [.int _ _]) (cs1 := [.int _ _]) (res := .int _ _) rfl hb196 rfl (by decide) ⟨.inl rfl, .inl rfl, .inl rfl, .inl rfl, .inl rfl, .inl rfl, trivial⟩ rfl rfl (median_c f hb cf hc d n _ _ _ _ hd (by omega) hn) rfl rfl rfl rfl rfl (Nat.le_of_ble_eq_true rfl) (by decide) rfl) ?_
      refine ra (.int _ _) ?_
      refine r_nil ?_
      refine a_seq ?_
      refine a_pre (ent_look (L := [(8, .int _ _), (9, .int _ _), (11, .op [.int _ _]), (13, .int _ _)]) ⟨wr, wr, wr, wr, trivial⟩) ?_
      refine a_pre (ent_eq (t := 13) (v' := .int .i64 (((cpR (ltc cf) d a b).1 : Nat) : Int)) (Weak.of_eq (int_eq (congrArg Nat.cast (by unfold cpR; first | (rw [if_pos h8, if_pos h50]; done) | (rw [if_pos h8, if_neg (by simp at ht36; omega)]; done) | (rw [if_neg (by simp at ht34; omega)])))))) ?_
      refine a_pre (ent_eq (t := 11) (v' := .op [.int .i64 (((cpR (ltc cf) d a b).2 : Nat) : Int)]) (Weak.of_eq (congrArg (fun z : Nat => AV.op [.int .i64 (z : Int)]) (by unfold cpR; first | (rw [if_pos h8, if_pos h50]; done) | (rw [if_pos h8, if_neg (by simp at ht36; omega)]; done) | (rw [if_neg (by simp at ht34; omega)]))))) ?_
      refine a_region ?_
      refine rv (v := .int _ _) (v_load_rp1 ta3 il rfl (fun _ => rfl) rfl) ?_
      refine r_nil ?_
      refine a_block ?_
      refine aq ?_
      refine rv (v := .bool _) (v_eql il il) ?_
      refine ra (.bool _) ?_
      refine r_nil ?_
      refine a_cond rfl (fun ht57 => ?_) (fun ht57 => ?_)
      ·
        refine aq ?_
        refine rm (.int _ _) ?_
        refine ra (.int _ _) ?_
        refine ra (.int _ _) ?_
        refine r_nil ?_
        refine a_ret ?_
        refine retL (rs := [.tmp 8, .tmp 9]) [(8, _), (9, _)] ⟨wr, wr, trivial⟩ rfl Tryz.results188 (by decide) ⟨by decide, by decide, rfl⟩ (by decide) (by decide) (l2_eq (int_eq ?_) (int_eq ?_)) rfl
        · rw [cp_eq]
        · rw [cp_eq]; dsimp only; rw [if_pos (by simp at ht57; omega)]; rfl
      ·
        refine aq ?_
        refine rv (v := .bool _) (v_eql il il) ?_
        refine ra (.bool _) ?_
        refine r_nil ?_
        refine a_cond rfl (fun ht60 => ?_) (fun ht60 => ?_)
        ·
          refine aq ?_
          refine rm (.int _ _) ?_
          refine ra (.int _ _) ?_
          refine ra (.int _ _) ?_
          refine r_nil ?_
          refine a_ret ?_
          refine retL (rs := [.tmp 8, .tmp 9]) [(8, _), (9, _)] ⟨wr, wr, trivial⟩ rfl Tryz.results188 (by decide) ⟨by decide, by decide, rfl⟩ (by decide) (by decide) (l2_eq (int_eq ?_) (int_eq ?_)) rfl
          · rw [cp_eq]
          · rw [cp_eq]; dsimp only; rw [if_neg (by simp at ht57; omega), if_pos (by simp at ht60; omega)]; rfl
        ·
          refine aq ?_
          refine rm (.int _ _) ?_
          refine ra (.int _ _) ?_
          refine ra (.int _ _) ?_
          refine r_nil ?_
          refine a_ret ?_
          refine retL (rs := [.tmp 8, .tmp 9]) [(8, _), (9, _)] ⟨wr, wr, trivial⟩ rfl Tryz.results188 (by decide) ⟨by decide, by decide, rfl⟩ (by decide) (by decide) (l2_eq (int_eq ?_) (int_eq ?_)) rfl
          · rw [cp_eq]
          · rw [cp_eq]; dsimp only; rw [if_neg (by simp at ht57; omega), if_neg (by simp at ht60; omega)]; rfl
  ·
    refine a_skip ?_
    refine a_seq ?_
    refine a_pre (ent_eq (t := 13) (v' := .int .i64 (((cpR (ltc cf) d a b).1 : Nat) : Int)) (Weak.of_eq (int_eq (congrArg Nat.cast (by unfold cpR; first | (rw [if_pos h8, if_pos h50]; done) | (rw [if_pos h8, if_neg (by simp at ht36; omega)]; done) | (rw [if_neg (by simp at ht34; omega)])))))) ?_
    refine a_pre (ent_eq (t := 11) (v' := .op [.int .i64 (((cpR (ltc cf) d a b).2 : Nat) : Int)]) (Weak.of_eq (congrArg (fun z : Nat => AV.op [.int .i64 (z : Int)]) (by unfold cpR; first | (rw [if_pos h8, if_pos h50]; done) | (rw [if_pos h8, if_neg (by simp at ht36; omega)]; done) | (rw [if_neg (by simp at ht34; omega)]))))) ?_
    refine a_region ?_
    refine rv (v := .int _ _) (v_load_rp1 ta3 il rfl (fun _ => rfl) rfl) ?_
    refine r_nil ?_
    refine a_block ?_
    refine aq ?_
    refine rv (v := .bool _) (v_eql il il) ?_
    refine ra (.bool _) ?_
    refine r_nil ?_
    refine a_cond rfl (fun ht57 => ?_) (fun ht57 => ?_)
    ·
      refine a_seq ?_
      refine a_pre (ent_look (L := [(8, .int _ _), (9, .int _ _), (13, .int _ _), (55, .int _ _)]) ⟨wr, wr, wr, wr, trivial⟩) ?_
      refine a_region ?_
      refine rm (.int _ _) ?_
      refine ra (.int _ _) ?_
      refine ra (.int _ _) ?_
      refine r_nil ?_
      refine a_ret ?_
      refine retL (rs := [.tmp 8, .tmp 9]) [(8, _), (9, _)] ⟨wr, wr, trivial⟩ rfl Tryz.results188 (by decide) ⟨by decide, by decide, rfl⟩ (by decide) (by decide) (l2_eq (int_eq ?_) (int_eq ?_)) rfl
      · rw [cp_eq]
      · rw [cp_eq]; dsimp only; rw [if_pos (by simp at ht57; omega)]; rfl
    ·
      refine a_seq ?_
      refine a_pre (ent_look (L := [(8, .int _ _), (9, .int _ _), (13, .int _ _), (55, .int _ _)]) ⟨wr, wr, wr, wr, trivial⟩) ?_
      refine a_region ?_
      refine rv (v := .bool _) (v_eql il il) ?_
      refine ra (.bool _) ?_
      refine r_nil ?_
      refine a_cond rfl (fun ht60 => ?_) (fun ht60 => ?_)
      ·
        refine aq ?_
        refine rm (.int _ _) ?_
        refine ra (.int _ _) ?_
        refine ra (.int _ _) ?_
        refine r_nil ?_
        refine a_ret ?_
        refine retL (rs := [.tmp 8, .tmp 9]) [(8, _), (9, _)] ⟨wr, wr, trivial⟩ rfl Tryz.results188 (by decide) ⟨by decide, by decide, rfl⟩ (by decide) (by decide) (l2_eq (int_eq ?_) (int_eq ?_)) rfl
        · rw [cp_eq]
        · rw [cp_eq]; dsimp only; rw [if_neg (by simp at ht57; omega), if_pos (by simp at ht60; omega)]; rfl
      ·
        refine aq ?_
        refine rm (.int _ _) ?_
        refine ra (.int _ _) ?_
        refine ra (.int _ _) ?_
        refine r_nil ?_
        refine a_ret ?_
        refine retL (rs := [.tmp 8, .tmp 9]) [(8, _), (9, _)] ⟨wr, wr, trivial⟩ rfl Tryz.results188 (by decide) ⟨by decide, by decide, rfl⟩ (by decide) (by decide) (l2_eq (int_eq ?_) (int_eq ?_)) rfl
        · rw [cp_eq]
        · rw [cp_eq]; dsimp only; rw [if_neg (by simp at ht57; omega), if_neg (by simp at ht60; omega)]; rfl
theorem ta173 : tyAgg Tryz.prog 173 = some (false, 1) := by kernel_rfl
theorem next_c (r : Nat) (h : r < 18446744073709551616) : ACall Tryz.prog 177 [.rp (INH, []) 0] [.op [.int .u64 ((r : Nat) : Int)]] (.int .u64 ((xorNextN r : Nat) : Int)) [.op [.int .u64 ((xorNextN r : Nat) : Int)]] := by
 have ha : (r ^^^ (r * 8192 % 18446744073709551616)) < 2 ^ 64 := Nat.xor_lt_two_pow (by omega) (by omega)
 have hb0 : ((r ^^^ (r * 8192 % 18446744073709551616)) ^^^ ((r ^^^ (r * 8192 % 18446744073709551616)) / 128)) < 2 ^ 64 := Nat.xor_lt_two_pow ha (by omega)
 refine ACall.intro Tryz.func177 rfl (N := 33) rfl (by decide) (by simp) ?_
 refine aq ?_
 refine ra (.int _ _) ?_
 refine r_nil ?_
 refine a_seq ?_
 refine a_region_w [(3, true), (4, true), (5, true), (6, true), (7, true), (8, true), (9, true), (10, true), (11, true), (INH, false)] mixed (by kernel_rfl) ?_
 refine wv (v := .rp _ _) (v_move il nf) ?_
 refine wv (v := .rp _ _) (v_nilCheck il rfl) ?_
 refine wv (v := .int _ _) (v_load_rp1 ta173 il rfl (fun _ => rfl) rfl) ?_
 refine wv (v := .rp _ _) (v_move il nf) ?_
 refine wv (v := .rp _ _) (v_nilCheck il rfl) ?_
 refine wv (v := .int _ _) (v_load_rp1 ta173 il rfl (fun _ => rfl) rfl) ?_
 refine wv (v := .int .u64 ((r * 8192 % 18446744073709551616 : Nat) : Int)) ((v_shlu il il (fun _ => by omega)).cast (int_eq rfl)) ?_
 refine wv (v := .int .u64 (((r ^^^ (r * 8192 % 18446744073709551616)) : Nat) : Int)) (v_xoru il il (fun _ => by omega)) ?_
 refine wv (v := .rp _ _) (v_nilCheck il rfl) ?_
 refine w_store (v := .int _ _) (y' := .op [.int _ _]) rfl rfl rfl ta173 (.inl rfl) (.inl rfl) rfl rfl rfl rfl rfl rfl (Nat.le_of_ble_eq_true rfl) (by decide) rfl rfl rfl (by kernel_rfl) ?_
 refine w_nil ?_
 refine a_seq ?_
 refine a_region_w [(12, true), (13, true), (14, true), (15, true), (16, true), (17, true), (18, true), (19, true), (20, true), (INH, false)] mixed (by kernel_rfl) ?_
 refine wv (v := .rp _ _) (v_move il nf) ?_
 refine wv (v := .rp _ _) (v_nilCheck il rfl) ?_
 refine wv (v := .int _ _) (v_load_rp1 ta173 il rfl (fun _ => rfl) rfl) ?_
 refine wv (v := .rp _ _) (v_move il nf) ?_
 refine wv (v := .rp _ _) (v_nilCheck il rfl) ?_
 refine wv (v := .int _ _) (v_load_rp1 ta173 il rfl (fun _ => rfl) rfl) ?_
 refine wv (v := .int .u64 (((r ^^^ (r * 8192 % 18446744073709551616)) / 128 : Nat) : Int)) ((v_shru il il (fun _ => by omega)).cast (int_eq (by simp))) ?_
 refine wv (v := .int .u64 ((((r ^^^ (r * 8192 % 18446744073709551616)) ^^^ ((r ^^^ (r * 8192 % 18446744073709551616)) / 128)) : Nat) : Int)) (v_xoru il il (fun _ => by omega)) ?_
 refine wv (v := .rp _ _) (v_nilCheck il rfl) ?_
 refine w_store (v := .int _ _) (y' := .op [.int _ _]) rfl rfl rfl ta173 (.inl rfl) (.inl rfl) rfl rfl rfl rfl rfl rfl (Nat.le_of_ble_eq_true rfl) (by decide) rfl rfl rfl (by kernel_rfl) ?_
 refine w_nil ?_
 refine a_seq ?_
 refine a_region_w [(21, true), (22, true), (23, true), (24, true), (25, true), (26, true), (27, true), (28, true), (29, true), (INH, false)] mixed (by kernel_rfl) ?_
 refine wv (v := .rp _ _) (v_move il nf) ?_
 refine wv (v := .rp _ _) (v_nilCheck il rfl) ?_
 refine wv (v := .int _ _) (v_load_rp1 ta173 il rfl (fun _ => rfl) rfl) ?_
 refine wv (v := .rp _ _) (v_move il nf) ?_
 refine wv (v := .rp _ _) (v_nilCheck il rfl) ?_
 refine wv (v := .int _ _) (v_load_rp1 ta173 il rfl (fun _ => rfl) rfl) ?_
 refine wv (v := .int .u64 ((((r ^^^ (r * 8192 % 18446744073709551616)) ^^^ ((r ^^^ (r * 8192 % 18446744073709551616)) / 128)) * 131072 % 18446744073709551616 : Nat) : Int)) ((v_shlu il il (fun _ => by omega)).cast (int_eq rfl)) ?_
 refine wv (v := .int .u64 ((xorNextN r : Nat) : Int)) ((v_xoru il il (fun _ => by omega)).cast (int_eq rfl)) ?_
 refine wv (v := .rp _ _) (v_nilCheck il rfl) ?_
 refine w_store (v := .int _ _) (y' := .op [.int _ _]) rfl rfl rfl ta173 (.inl rfl) (.inl rfl) rfl rfl rfl rfl rfl rfl (Nat.le_of_ble_eq_true rfl) (by decide) rfl rfl rfl (by kernel_rfl) ?_
 refine w_nil ?_
 refine a_seq ?_
 refine a_pre (ent_look (L := [(0, .rp _ _), (2, .int _ _), (INH, .op [.int _ _])]) ⟨wr, wr, wr, trivial⟩) ?_
 refine a_region ?_
 refine rm (.rp _ _) ?_
 refine rv (v := .rp _ _) (v_nilCheck il rfl) ?_
 refine rv (v := .int _ _) (v_load_rp1 ta173 il rfl (fun _ => rfl) rfl) ?_
 refine ra (.int _ _) ?_
 refine r_nil ?_
 refine a_ret ?_
 refine ret1 Tryz.results177 (by decide) (by decide) (Weak.of_eq (int_eq ?_)) rfl (Leaves.one (wr) rfl)
 rfl
theorem iss166 : (Tryz.prog.underlying 166).isSome = true := by kernel_rfl
theorem iss5 : (Tryz.prog.underlying 5).isSome = true := by kernel_rfl
theorem un9 : Tryz.prog.underlying 9 = some .string := by kernel_rfl
theorem uni3 : Tryz.prog.underlying 3 = some (.int .i64) := by kernel_rfl
theorem uni5 : Tryz.prog.underlying 5 = some (.int .u8) := by kernel_rfl
theorem len64_c (n : Nat) (h : n < 18446744073709551616) : ACall Tryz.prog 162 [.int .u64 ((n : Nat) : Int)] [] (.int .i64 ((bitsLen n : Nat) : Int)) [] := by
 have hx1 : lx 32 n < 4294967296 := (by unfold lx; split <;> omega)
 have hx2 : lx 16 (lx 32 n) < 65536 := (by have h9 := hx1; generalize lx 32 n = m at h9 ⊢; unfold lx; split <;> omega)
 have hx3 : lx 8 (lx 16 (lx 32 n)) < 256 := (by have h9 := hx2; generalize lx 16 (lx 32 n) = m at h9 ⊢; unfold lx; split <;> omega)
 have hl3 : bitsLen (lx 8 (lx 16 (lx 32 n))) ≤ 8 := (bitsLen_le_iff _ _).2 hx3
 have hlen : bitsLen n = ll 32 n + ll 16 (lx 32 n) + ll 8 (lx 16 (lx 32 n)) + bitsLen (lx 8 (lx 16 (lx 32 n))) := (by have e1 := lx_len 32 n; have e2 := lx_len 16 (lx 32 n); have e3 := lx_len 8 (lx 16 (lx 32 n)); omega)
 have hb1 : ll 32 n ≤ 32 := (by unfold ll; split <;> omega)
 have hb2 : ll 16 (lx 32 n) ≤ 16 := (by unfold ll; split <;> omega)
 have hb3 : ll 8 (lx 16 (lx 32 n)) ≤ 8 := (by unfold ll; split <;> omega)
 refine ACall.intro Tryz.func162 rfl (N := 25) rfl (by decide) (by simp) ?_
 refine aq ?_
 refine ra (.int _ _) ?_
 refine r_nil ?_
 refine a_seq ?_
 refine aq ?_
 refine rm (.int _ _) ?_
 refine rv (v := .bool _) (v_geq il il) ?_
 refine r_nil ?_
 refine a_cond rfl (fun ht4 => ?_) (fun ht4 => ?_)
 ·
  refine aq ?_
  refine rm (.int _ _) ?_
  refine rv (v := .int .u64 ((n / 4294967296 : Nat) : Int)) ((v_shru il il (fun _ => by omega)).cast (int_eq (by simp))) ?_
  refine ra (.int _ _) ?_
  refine r_nil ?_
  refine a_region ?_
  refine ra (.int _ _) ?_
  refine r_nil ?_
  refine a_seq ?_
  refine a_seq ?_
  refine a_pre (ent_eq (t := 0) (v' := .int .u64 ((lx 32 n : Nat) : Int)) (Weak.of_eq (int_eq (congrArg Nat.cast (by first | exact (if_pos (show 2 ^ 32 ≤ n by simp at ht4; omega)).symm | exact (if_neg (show ¬ 2 ^ 32 ≤ n by simp at ht4; omega)).symm))))) ?_
  refine a_pre (ent_eq (t := 2) (v' := .int .i64 ((ll 32 n : Nat) : Int)) (Weak.of_eq (int_eq (by first | (rw [show ll 32 (n) = 32 from if_pos (show 2 ^ 32 ≤ n by simp at ht4; omega)]; rfl) | (rw [show ll 32 (n) = 0 from if_neg (show ¬ 2 ^ 32 ≤ n by simp at ht4; omega)]; rfl))))) ?_
  refine a_region ?_
  refine rm (.int _ _) ?_
  refine rv (v := .bool _) (v_geq il il) ?_
  refine r_nil ?_
  refine a_cond rfl (fun ht8 => ?_) (fun ht8 => ?_)
  ·
   refine aq ?_
   refine rm (.int _ _) ?_
   refine rv (v := .int .u64 ((lx 32 n / 65536 : Nat) : Int)) ((v_shru il il (fun _ => by omega)).cast (int_eq (by simp))) ?_
   refine ra (.int _ _) ?_
   refine r_nil ?_
   refine a_region ?_
   refine rm (.int _ _) ?_
   refine rv (v := .int _ _) (v_add il il (fun _ => by omega)) ?_
   refine ra (.int _ _) ?_
   refine r_nil ?_
   refine a_seq ?_
   refine a_seq ?_
   refine a_pre (ent_eq (t := 0) (v' := .int .u64 ((lx 16 (lx 32 n) : Nat) : Int)) (Weak.of_eq (int_eq (congrArg Nat.cast (by first | exact (if_pos (show 2 ^ 16 ≤ lx 32 n by simp at ht8; omega)).symm | exact (if_neg (show ¬ 2 ^ 16 ≤ lx 32 n by simp at ht8; omega)).symm))))) ?_
   refine a_pre (ent_eq (t := 2) (v' := .int .i64 ((ll 32 n + ll 16 (lx 32 n) : Nat) : Int)) (Weak.of_eq (int_eq (by first | (rw [show ll 16 (lx 32 n) = 16 from if_pos (show 2 ^ 16 ≤ lx 32 n by simp at ht8; omega)]; rfl) | (rw [show ll 16 (lx 32 n) = 0 from if_neg (show ¬ 2 ^ 16 ≤ lx 32 n by simp at ht8; omega)]; rfl))))) ?_
   refine a_region ?_
   refine rm (.int _ _) ?_
   refine rv (v := .bool _) (v_geq il il) ?_
   refine r_nil ?_
   refine a_cond rfl (fun ht14 => ?_) (fun ht14 => ?_)
   ·
    refine aq ?_
    refine rm (.int _ _) ?_
    refine rv (v := .int .u64 ((lx 16 (lx 32 n) / 256 : Nat) : Int)) ((v_shru il il (fun _ => by omega)).cast (int_eq (by simp))) ?_
    refine ra (.int _ _) ?_
    refine r_nil ?_
    refine a_region ?_
    refine rm (.int _ _) ?_
    refine rv (v := .int _ _) (v_add il il (fun _ => by omega)) ?_
    refine ra (.int _ _) ?_
    refine r_nil ?_
    refine a_seq ?_
    refine a_pre (ent_eq (t := 0) (v' := .int .u64 ((lx 8 (lx 16 (lx 32 n)) : Nat) : Int)) (Weak.of_eq (int_eq (congrArg Nat.cast (by first | exact (if_pos (show 2 ^ 8 ≤ lx 16 (lx 32 n) by simp at ht14; omega)).symm | exact (if_neg (show ¬ 2 ^ 8 ≤ lx 16 (lx 32 n) by simp at ht14; omega)).symm))))) ?_
    refine a_pre (ent_eq (t := 2) (v' := .int .i64 ((ll 32 n + ll 16 (lx 32 n) + ll 8 (lx 16 (lx 32 n)) : Nat) : Int)) (Weak.of_eq (int_eq (by first | (rw [show ll 8 (lx 16 (lx 32 n)) = 8 from if_pos (show 2 ^ 8 ≤ lx 16 (lx 32 n) by simp at ht14; omega)]; rfl) | (rw [show ll 8 (lx 16 (lx 32 n)) = 0 from if_neg (show ¬ 2 ^ 8 ≤ lx 16 (lx 32 n) by simp at ht14; omega)]; rfl))))) ?_
    refine a_region ?_
    refine rm (.int _ _) ?_
    refine rm (.int _ _) ?_
    refine rv (v := .int .u8 ((lx 8 (lx 16 (lx 32 n)) : Nat) : Int)) (v_conv iss166 uni5 il (fun _ => IntWalk.u8_in _ (by omega))) ?_
    refine rv (v := .int .u8 ((bitsLen (lx 8 (lx 16 (lx 32 n))) : Nat) : Int)) ((v_index_str un9 il il (fun _ => ⟨by omega, Int.lt_of_lt_of_le (Int.ofNat_lt.2 hx3) (by decide +kernel)⟩)).cast (int_eq (congrArg Nat.cast (by revert hx3; generalize lx 8 (lx 16 (lx 32 n)) = m; revert m; decide +kernel)))) ?_
    refine rv (v := .int _ _) (v_conv iss5 uni3 il (fun _ => by first | rfl | exact IntWalk.i64_in _ (by omega))) ?_
    refine rv (v := .int _ _) (v_add il il (fun _ => by omega)) ?_
    refine ra (.int _ _) ?_
    refine r_nil ?_
    refine a_ret ?_
    refine ret1 Tryz.results162 (by decide) (by decide) (Weak.of_eq (int_eq ?_)) rfl Leaves.nil
    rw [hlen]; simp
   ·
    refine a_skip ?_
    refine a_seq ?_
    refine a_pre (ent_eq (t := 0) (v' := .int .u64 ((lx 8 (lx 16 (lx 32 n)) : Nat) : Int)) (Weak.of_eq (int_eq (congrArg Nat.cast (by first | exact (if_pos (show 2 ^ 8 ≤ lx 16 (lx 32 n) by simp at ht14; omega)).symm | exact (if_neg (show ¬ 2 ^ 8 ≤ lx 16 (lx 32 n) by simp at ht14; omega)).symm))))) ?_
    refine a_pre (ent_eq (t := 2) (v' := .int .i64 ((ll 32 n + ll 16 (lx 32 n) + ll 8 (lx 16 (lx 32 n)) : Nat) : Int)) (Weak.of_eq (int_eq (by first | (rw [show ll 8 (lx 16 (lx 32 n)) = 8 from if_pos (show 2 ^ 8 ≤ lx 16 (lx 32 n) by simp at ht14; omega)]; rfl) | (rw [show ll 8 (lx 16 (lx 32 n)) = 0 from if_neg (show ¬ 2 ^ 8 ≤ lx 16 (lx 32 n) by simp at ht14; omega)]; rfl))))) ?_
    refine a_region ?_
    refine rm (.int _ _) ?_
    refine rm (.int _ _) ?_
    refine rv (v := .int .u8 ((lx 8 (lx 16 (lx 32 n)) : Nat) : Int)) (v_conv iss166 uni5 il (fun _ => IntWalk.u8_in _ (by omega))) ?_
    refine rv (v := .int .u8 ((bitsLen (lx 8 (lx 16 (lx 32 n))) : Nat) : Int)) ((v_index_str un9 il il (fun _ => ⟨by omega, Int.lt_of_lt_of_le (Int.ofNat_lt.2 hx3) (by decide +kernel)⟩)).cast (int_eq (congrArg Nat.cast (by revert hx3; generalize lx 8 (lx 16 (lx 32 n)) = m; revert m; decide +kernel)))) ?_
    refine rv (v := .int _ _) (v_conv iss5 uni3 il (fun _ => by first | rfl | exact IntWalk.i64_in _ (by omega))) ?_
    refine rv (v := .int _ _) (v_add il il (fun _ => by omega)) ?_
    refine ra (.int _ _) ?_
    refine r_nil ?_
    refine a_ret ?_
    refine ret1 Tryz.results162 (by decide) (by decide) (Weak.of_eq (int_eq ?_)) rfl Leaves.nil
    rw [hlen]; simp
  ·
   refine a_skip ?_
   refine a_seq ?_
   refine a_seq ?_
   refine a_pre (ent_eq (t := 0) (v' := .int .u64 ((lx 16 (lx 32 n) : Nat) : Int)) (Weak.of_eq (int_eq (congrArg Nat.cast (by first | exact (if_pos (show 2 ^ 16 ≤ lx 32 n by simp at ht8; omega)).symm | exact (if_neg (show ¬ 2 ^ 16 ≤ lx 32 n by simp at ht8; omega)).symm))))) ?_
   refine a_pre (ent_eq (t := 2) (v' := .int .i64 ((ll 32 n + ll 16 (lx 32 n) : Nat) : Int)) (Weak.of_eq (int_eq (by first | (rw [show ll 16 (lx 32 n) = 16 from if_pos (show 2 ^ 16 ≤ lx 32 n by simp at ht8; omega)]; rfl) | (rw [show ll 16 (lx 32 n) = 0 from if_neg (show ¬ 2 ^ 16 ≤ lx 32 n by simp at ht8; omega)]; rfl))))) ?_
   refine a_region ?_
   refine rm (.int _ _) ?_
   refine rv (v := .bool _) (v_geq il il) ?_
   refine r_nil ?_
   refine a_cond rfl (fun ht14 => ?_) (fun ht14 => ?_)
   ·
    refine aq ?_
    refine rm (.int _ _) ?_
    refine rv (v := .int .u64 ((lx 16 (lx 32 n) / 256 : Nat) : Int)) ((v_shru il il (fun _ => by omega)).cast (int_eq (by simp))) ?_
    refine ra (.int _ _) ?_
    refine r_nil ?_
    refine a_region ?_
    refine rm (.int _ _) ?_
    refine rv (v := .int _ _) (v_add il il (fun _ => by omega)) ?_
    refine ra (.int _ _) ?_
    refine r_nil ?_
    refine a_seq ?_
    refine a_pre (ent_eq (t := 0) (v' := .int .u64 ((lx 8 (lx 16 (lx 32 n)) : Nat) : Int)) (Weak.of_eq (int_eq (congrArg Nat.cast (by first | exact (if_pos (show 2 ^ 8 ≤ lx 16 (lx 32 n) by simp at ht14; omega)).symm | exact (if_neg (show ¬ 2 ^ 8 ≤ lx 16 (lx 32 n) by simp at ht14; omega)).symm))))) ?_
    refine a_pre (ent_eq (t := 2) (v' := .int .i64 ((ll 32 n + ll 16 (lx 32 n) + ll 8 (lx 16 (lx 32 n)) : Nat) : Int)) (Weak.of_eq (int_eq (by first | (rw [show ll 8 (lx 16 (lx 32 n)) = 8 from if_pos (show 2 ^ 8 ≤ lx 16 (lx 32 n) by simp at ht14; omega)]; rfl) | (rw [show ll 8 (lx 16 (lx 32 n)) = 0 from if_neg (show ¬ 2 ^ 8 ≤ lx 16 (lx 32 n) by simp at ht14; omega)]; rfl))))) ?_
    refine a_region ?_
    refine rm (.int _ _) ?_
    refine rm (.int _ _) ?_
    refine rv (v := .int .u8 ((lx 8 (lx 16 (lx 32 n)) : Nat) : Int)) (v_conv iss166 uni5 il (fun _ => IntWalk.u8_in _ (by omega))) ?_
    refine rv (v := .int .u8 ((bitsLen (lx 8 (lx 16 (lx 32 n))) : Nat) : Int)) ((v_index_str un9 il il (fun _ => ⟨by omega, Int.lt_of_lt_of_le (Int.ofNat_lt.2 hx3) (by decide +kernel)⟩)).cast (int_eq (congrArg Nat.cast (by revert hx3; generalize lx 8 (lx 16 (lx 32 n)) = m; revert m; decide +kernel)))) ?_
    refine rv (v := .int _ _) (v_conv iss5 uni3 il (fun _ => by first | rfl | exact IntWalk.i64_in _ (by omega))) ?_
    refine rv (v := .int _ _) (v_add il il (fun _ => by omega)) ?_
    refine ra (.int _ _) ?_
    refine r_nil ?_
    refine a_ret ?_
    refine ret1 Tryz.results162 (by decide) (by decide) (Weak.of_eq (int_eq ?_)) rfl Leaves.nil
    rw [hlen]; simp
   ·
    refine a_skip ?_
    refine a_seq ?_
    refine a_pre (ent_eq (t := 0) (v' := .int .u64 ((lx 8 (lx 16 (lx 32 n)) : Nat) : Int)) (Weak.of_eq (int_eq (congrArg Nat.cast (by first | exact (if_pos (show 2 ^ 8 ≤ lx 16 (lx 32 n) by simp at ht14; omega)).symm | exact (if_neg (show ¬ 2 ^ 8 ≤ lx 16 (lx 32 n) by simp at ht14; omega)).symm))))) ?_
    refine a_pre (ent_eq (t := 2) (v' := .int .i64 ((ll 32 n + ll 16 (lx 32 n) + ll 8 (lx 16 (lx 32 n)) : Nat) : Int)) (Weak.of_eq (int_eq (by first | (rw [show ll 8 (lx 16 (lx 32 n)) = 8 from if_pos (show 2 ^ 8 ≤ lx 16 (lx 32 n) by simp at ht14; omega)]; rfl) | (rw [show ll 8 (lx 16 (lx 32 n)) = 0 from if_neg (show ¬ 2 ^ 8 ≤ lx 16 (lx 32 n) by simp at ht14; omega)]; rfl))))) ?_
    refine a_region ?_
    refine rm (.int _ _) ?_
    refine rm (.int _ _) ?_
    refine rv (v := .int .u8 ((lx 8 (lx 16 (lx 32 n)) : Nat) : Int)) (v_conv iss166 uni5 il (fun _ => IntWalk.u8_in _ (by omega))) ?_
    refine rv (v := .int .u8 ((bitsLen (lx 8 (lx 16 (lx 32 n))) : Nat) : Int)) ((v_index_str un9 il il (fun _ => ⟨by omega, Int.lt_of_lt_of_le (Int.ofNat_lt.2 hx3) (by decide +kernel)⟩)).cast (int_eq (congrArg Nat.cast (by revert hx3; generalize lx 8 (lx 16 (lx 32 n)) = m; revert m; decide +kernel)))) ?_
    refine rv (v := .int _ _) (v_conv iss5 uni3 il (fun _ => by first | rfl | exact IntWalk.i64_in _ (by omega))) ?_
    refine rv (v := .int _ _) (v_add il il (fun _ => by omega)) ?_
    refine ra (.int _ _) ?_
    refine r_nil ?_
    refine a_ret ?_
    refine ret1 Tryz.results162 (by decide) (by decide) (Weak.of_eq (int_eq ?_)) rfl Leaves.nil
    rw [hlen]; simp
 ·
  refine a_skip ?_
  refine a_seq ?_
  refine a_seq ?_
  refine a_pre (ent_eq (t := 0) (v' := .int .u64 ((lx 32 n : Nat) : Int)) (Weak.of_eq (int_eq (congrArg Nat.cast (by first | exact (if_pos (show 2 ^ 32 ≤ n by simp at ht4; omega)).symm | exact (if_neg (show ¬ 2 ^ 32 ≤ n by simp at ht4; omega)).symm))))) ?_
  refine a_pre (ent_eq (t := 2) (v' := .int .i64 ((ll 32 n : Nat) : Int)) (Weak.of_eq (int_eq (by first | (rw [show ll 32 (n) = 32 from if_pos (show 2 ^ 32 ≤ n by simp at ht4; omega)]; rfl) | (rw [show ll 32 (n) = 0 from if_neg (show ¬ 2 ^ 32 ≤ n by simp at ht4; omega)]; rfl))))) ?_
  refine a_region ?_
  refine rm (.int _ _) ?_
  refine rv (v := .bool _) (v_geq il il) ?_
  refine r_nil ?_
  refine a_cond rfl (fun ht8 => ?_) (fun ht8 => ?_)
  ·
   refine aq ?_
   refine rm (.int _ _) ?_
   refine rv (v := .int .u64 ((lx 32 n / 65536 : Nat) : Int)) ((v_shru il il (fun _ => by omega)).cast (int_eq (by simp))) ?_
   refine ra (.int _ _) ?_
   refine r_nil ?_
   refine a_region ?_
   refine rm (.int _ _) ?_
   refine rv (v := .int _ _) (v_add il il (fun _ => by omega)) ?_
   refine ra (.int _ _) ?_
   refine r_nil ?_
   refine a_seq ?_
   refine a_seq ?_
   refine a_pre (ent_eq (t := 0) (v' := .int .u64 ((lx 16 (lx 32 n) : Nat) : Int)) (Weak.of_eq (int_eq (congrArg Nat.cast (by first | exact (if_pos (show 2 ^ 16 ≤ lx 32 n by simp at ht8; omega)).symm | exact (if_neg (show ¬ 2 ^ 16 ≤ lx 32 n by simp at ht8; omega)).symm))))) ?_
   refine a_pre (ent_eq (t := 2) (v' := .int .i64 ((ll 32 n + ll 16 (lx 32 n) : Nat) : Int)) (Weak.of_eq (int_eq (by first | (rw [show ll 16 (lx 32 n) = 16 from if_pos (show 2 ^ 16 ≤ lx 32 n by simp at ht8; omega)]; rfl) | (rw [show ll 16 (lx 32 n) = 0 from if_neg (show ¬ 2 ^ 16 ≤ lx 32 n by simp at ht8; omega)]; rfl))))) ?_
   refine a_region ?_
   refine rm (.int _ _) ?_
   refine rv (v := .bool _) (v_geq il il) ?_
   refine r_nil ?_
   refine a_cond rfl (fun ht14 => ?_) (fun ht14 => ?_)
   ·
    refine aq ?_
    refine rm (.int _ _) ?_
    refine rv (v := .int .u64 ((lx 16 (lx 32 n) / 256 : Nat) : Int)) ((v_shru il il (fun _ => by omega)).cast (int_eq (by simp))) ?_
    refine ra (.int _ _) ?_
    refine r_nil ?_
    refine a_region ?_
    refine rm (.int _ _) ?_
    refine rv (v := .int _ _) (v_add il il (fun _ => by omega)) ?_
    refine ra (.int _ _) ?_
    refine r_nil ?_
    refine a_seq ?_
    refine a_pre (ent_eq (t := 0) (v' := .int .u64 ((lx 8 (lx 16 (lx 32 n)) : Nat) : Int)) (Weak.of_eq (int_eq (congrArg Nat.cast (by first | exact (if_pos (show 2 ^ 8 ≤ lx 16 (lx 32 n) by simp at ht14; omega)).symm | exact (if_neg (show ¬ 2 ^ 8 ≤ lx 16 (lx 32 n) by simp at ht14; omega)).symm))))) ?_
    refine a_pre (ent_eq (t := 2) (v' := .int .i64 ((ll 32 n + ll 16 (lx 32 n) + ll 8 (lx 16 (lx 32 n)) : Nat) : Int)) (Weak.of_eq (int_eq (by first | (rw [show ll 8 (lx 16 (lx 32 n)) = 8 from if_pos (show 2 ^ 8 ≤ lx 16 (lx 32 n) by simp at ht14; omega)]; rfl) | (rw [show ll 8 (lx 16 (lx 32 n)) = 0 from if_neg (show ¬ 2 ^ 8 ≤ lx 16 (lx 32 n) by simp at ht14; omega)]; rfl))))) ?_
    refine a_region ?_
    refine rm (.int _ _) ?_
    refine rm (.int _ _) ?_
    refine rv (v := .int .u8 ((lx 8 (lx 16 (lx 32 n)) : Nat) : Int)) (v_conv iss166 uni5 il (fun _ => IntWalk.u8_in _ (by omega))) ?_
    refine rv (v := .int .u8 ((bitsLen (lx 8 (lx 16 (lx 32 n))) : Nat) : Int)) ((v_index_str un9 il il (fun _ => ⟨by omega, Int.lt_of_lt_of_le (Int.ofNat_lt.2 hx3) (by decide +kernel)⟩)).cast (int_eq (congrArg Nat.cast (by revert hx3; generalize lx 8 (lx 16 (lx 32 n)) = m; revert m; decide +kernel)))) ?_
    refine rv (v := .int _ _) (v_conv iss5 uni3 il (fun _ => by first | rfl | exact IntWalk.i64_in _ (by omega))) ?_
    refine rv (v := .int _ _) (v_add il il (fun _ => by omega)) ?_
    refine ra (.int _ _) ?_
    refine r_nil ?_
    refine a_ret ?_
    refine ret1 Tryz.results162 (by decide) (by decide) (Weak.of_eq (int_eq ?_)) rfl Leaves.nil
    rw [hlen]; simp
   ·
    refine a_skip ?_
    refine a_seq ?_
    refine a_pre (ent_eq (t := 0) (v' := .int .u64 ((lx 8 (lx 16 (lx 32 n)) : Nat) : Int)) (Weak.of_eq (int_eq (congrArg Nat.cast (by first | exact (if_pos (show 2 ^ 8 ≤ lx 16 (lx 32 n) by simp at ht14; omega)).symm | exact (if_neg (show ¬ 2 ^ 8 ≤ lx 16 (lx 32 n) by simp at ht14; omega)).symm))))) ?_
    refine a_pre (ent_eq (t := 2) (v' := .int .i64 ((ll 32 n + ll 16 (lx 32 n) + ll 8 (lx 16 (lx 32 n)) : Nat) : Int)) (Weak.of_eq (int_eq (by first | (rw [show ll 8 (lx 16 (lx 32 n)) = 8 from if_pos (show 2 ^ 8 ≤ lx 16 (lx 32 n) by simp at ht14; omega)]; rfl) | (rw [show ll 8 (lx 16 (lx 32 n)) = 0 from if_neg (show ¬ 2 ^ 8 ≤ lx 16 (lx 32 n) by simp at ht14; omega)]; rfl))))) ?_
    refine a_region ?_
    refine rm (.int _ _) ?_
    refine rm (.int _ _) ?_
    refine rv (v := .int .u8 ((lx 8 (lx 16 (lx 32 n)) : Nat) : Int)) (v_conv iss166 uni5 il (fun _ => IntWalk.u8_in _ (by omega))) ?_
    refine rv (v := .int .u8 ((bitsLen (lx 8 (lx 16 (lx 32 n))) : Nat) : Int)) ((v_index_str un9 il il (fun _ => ⟨by omega, Int.lt_of_lt_of_le (Int.ofNat_lt.2 hx3) (by decide +kernel)⟩)).cast (int_eq (congrArg Nat.cast (by revert hx3; generalize lx 8 (lx 16 (lx 32 n)) = m; revert m; decide +kernel)))) ?_
    refine rv (v := .int _ _) (v_conv iss5 uni3 il (fun _ => by first | rfl | exact IntWalk.i64_in _ (by omega))) ?_
    refine rv (v := .int _ _) (v_add il il (fun _ => by omega)) ?_
    refine ra (.int _ _) ?_
    refine r_nil ?_
    refine a_ret ?_
    refine ret1 Tryz.results162 (by decide) (by decide) (Weak.of_eq (int_eq ?_)) rfl Leaves.nil
    rw [hlen]; simp
  ·
   refine a_skip ?_
   refine a_seq ?_
   refine a_seq ?_
   refine a_pre (ent_eq (t := 0) (v' := .int .u64 ((lx 16 (lx 32 n) : Nat) : Int)) (Weak.of_eq (int_eq (congrArg Nat.cast (by first | exact (if_pos (show 2 ^ 16 ≤ lx 32 n by simp at ht8; omega)).symm | exact (if_neg (show ¬ 2 ^ 16 ≤ lx 32 n by simp at ht8; omega)).symm))))) ?_
   refine a_pre (ent_eq (t := 2) (v' := .int .i64 ((ll 32 n + ll 16 (lx 32 n) : Nat) : Int)) (Weak.of_eq (int_eq (by first | (rw [show ll 16 (lx 32 n) = 16 from if_pos (show 2 ^ 16 ≤ lx 32 n by simp at ht8; omega)]; rfl) | (rw [show ll 16 (lx 32 n) = 0 from if_neg (show ¬ 2 ^ 16 ≤ lx 32 n by simp at ht8; omega)]; rfl))))) ?_
   refine a_region ?_
   refine rm (.int _ _) ?_
   refine rv (v := .bool _) (v_geq il il) ?_
   refine r_nil ?_
   refine a_cond rfl (fun ht14 => ?_) (fun ht14 => ?_)
   ·
    refine aq ?_
    refine rm (.int _ _) ?_
    refine rv (v := .int .u64 ((lx 16 (lx 32 n) / 256 : Nat) : Int)) ((v_shru il il (fun _ => by omega)).cast (int_eq (by simp))) ?_
    refine ra (.int _ _) ?_
    refine r_nil ?_
    refine a_region ?_
    refine rm (.int _ _) ?_
    refine rv (v := .int _ _) (v_add il il (fun _ => by omega)) ?_
    refine ra (.int _ _) ?_
    refine r_nil ?_
    refine a_seq ?_
    refine a_pre (ent_eq (t := 0) (v' := .int .u64 ((lx 8 (lx 16 (lx 32 n)) : Nat) : Int)) (Weak.of_eq (int_eq (congrArg Nat.cast (by first | exact (if_pos (show 2 ^ 8 ≤ lx 16 (lx 32 n) by simp at ht14; omega)).symm | exact (if_neg (show ¬ 2 ^ 8 ≤ lx 16 (lx 32 n) by simp at ht14; omega)).symm))))) ?_
    refine a_pre (ent_eq (t := 2) (v' := .int .i64 ((ll 32 n + ll 16 (lx 32 n) + ll 8 (lx 16 (lx 32 n)) : Nat) : Int)) (Weak.of_eq (int_eq (by first | (rw [show ll 8 (lx 16 (lx 32 n)) = 8 from if_pos (show 2 ^ 8 ≤ lx 16 (lx 32 n) by simp at ht14; omega)]; rfl) | (rw [show ll 8 (lx 16 (lx 32 n)) = 0 from if_neg (show ¬ 2 ^ 8 ≤ lx 16 (lx 32 n) by simp at ht14; omega)]; rfl))))) ?_
    refine a_region ?_
    refine rm (.int _ _) ?_
    refine rm (.int _ _) ?_
    refine rv (v := .int .u8 ((lx 8 (lx 16 (lx 32 n)) : Nat) : Int)) (v_conv iss166 uni5 il (fun _ => IntWalk.u8_in _ (by omega))) ?_
    refine rv (v := .int .u8 ((bitsLen (lx 8 (lx 16 (lx 32 n))) : Nat) : Int)) ((v_index_str un9 il il (fun _ => ⟨by omega, Int.lt_of_lt_of_le (Int.ofNat_lt.2 hx3) (by decide +kernel)⟩)).cast (int_eq (congrArg Nat.cast (by revert hx3; generalize lx 8 (lx 16 (lx 32 n)) = m; revert m; decide +kernel)))) ?_
    refine rv (v := .int _ _) (v_conv iss5 uni3 il (fun _ => by first | rfl | exact IntWalk.i64_in _ (by omega))) ?_
    refine rv (v := .int _ _) (v_add il il (fun _ => by omega)) ?_
    refine ra (.int _ _) ?_
    refine r_nil ?_
    refine a_ret ?_
    refine ret1 Tryz.results162 (by decide) (by decide) (Weak.of_eq (int_eq ?_)) rfl Leaves.nil
    rw [hlen]; simp
   ·
    refine a_skip ?_
    refine a_seq ?_
    refine a_pre (ent_eq (t := 0) (v' := .int .u64 ((lx 8 (lx 16 (lx 32 n)) : Nat) : Int)) (Weak.of_eq (int_eq (congrArg Nat.cast (by first | exact (if_pos (show 2 ^ 8 ≤ lx 16 (lx 32 n) by simp at ht14; omega)).symm | exact (if_neg (show ¬ 2 ^ 8 ≤ lx 16 (lx 32 n) by simp at ht14; omega)).symm))))) ?_
    refine a_pre (ent_eq (t := 2) (v' := .int .i64 ((ll 32 n + ll 16 (lx 32 n) + ll 8 (lx 16 (lx 32 n)) : Nat) : Int)) (Weak.of_eq (int_eq (by first | (rw [show ll 8 (lx 16 (lx 32 n)) = 8 from if_pos (show 2 ^ 8 ≤ lx 16 (lx 32 n) by simp at ht14; omega)]; rfl) | (rw [show ll 8 (lx 16 (lx 32 n)) = 0 from if_neg (show ¬ 2 ^ 8 ≤ lx 16 (lx 32 n) by simp at ht14; omega)]; rfl))))) ?_
    refine a_region ?_
    refine rm (.int _ _) ?_
    refine rm (.int _ _) ?_
    refine rv (v := .int .u8 ((lx 8 (lx 16 (lx 32 n)) : Nat) : Int)) (v_conv iss166 uni5 il (fun _ => IntWalk.u8_in _ (by omega))) ?_
    refine rv (v := .int .u8 ((bitsLen (lx 8 (lx 16 (lx 32 n))) : Nat) : Int)) ((v_index_str un9 il il (fun _ => ⟨by omega, Int.lt_of_lt_of_le (Int.ofNat_lt.2 hx3) (by decide +kernel)⟩)).cast (int_eq (congrArg Nat.cast (by revert hx3; generalize lx 8 (lx 16 (lx 32 n)) = m; revert m; decide +kernel)))) ?_
    refine rv (v := .int _ _) (v_conv iss5 uni3 il (fun _ => by first | rfl | exact IntWalk.i64_in _ (by omega))) ?_
    refine rv (v := .int _ _) (v_add il il (fun _ => by omega)) ?_
    refine ra (.int _ _) ?_
    refine r_nil ?_
    refine a_ret ?_
    refine ret1 Tryz.results162 (by decide) (by decide) (Weak.of_eq (int_eq ?_)) rfl Leaves.nil
    rw [hlen]; simp
theorem hb142 : hasBody Tryz.prog 142 = true := by kernel_rfl
theorem hb162 : hasBody Tryz.prog 162 = true := by kernel_rfl
theorem iss3 : (Tryz.prog.underlying 3).isSome = true := by kernel_rfl
theorem uni146 : Tryz.prog.underlying 146 = some (.int .u64) := by kernel_rfl
theorem len_c (n : Nat) (h : n < 18446744073709551616) : ACall Tryz.prog 142 [.int .u64 ((n : Nat) : Int)] [] (.int .i64 ((bitsLen n : Nat) : Int)) [] := by
 refine ACall.intro Tryz.func142 rfl (N := 8) rfl (by decide) (by simp) ?_
 refine aq ?_
 refine ra (.int _ _) ?_
 refine r_nil ?_
 refine a_seq ?_
 refine a_condF ?_
 refine a_skip ?_
 refine aq ?_
 refine rm (.int _ _) ?_
 refine rn (v := .int _ _) (q_call (vs := [.int _ _]) (args := [.int .u64 ((_ : Nat) : Int)]) hb162 ⟨il, trivial⟩ rfl (fun hA => len64_c _ h) rfl rfl) ?_
 refine ra (.int _ _) ?_
 refine r_nil ?_
 refine a_ret ?_
 refine ret1 Tryz.results142 (by decide) (by decide) (Weak.of_eq (int_eq ?_)) rfl Leaves.nil
 rfl
theorem nextPow_c (n : Nat) (h : n ≤ 1152921504606846976) : ACall Tryz.prog 176 [.int .i64 ((n : Nat) : Int)] [] (.int .u64 ((2 ^ bitsLen n : Nat) : Int)) [] := by
 have hb : bitsLen n ≤ 61 := (bitsLen_le_iff _ _).2 (by omega)
 have hp : 2 ^ bitsLen n ≤ 2 ^ 61 := Nat.pow_le_pow_right (by decide) hb
 refine ACall.intro Tryz.func176 rfl (N := 7) rfl (by decide) (by simp) ?_
 refine aq ?_
 refine ra (.int _ _) ?_
 refine r_nil ?_
 refine aq ?_
 refine rm (.int _ _) ?_
 refine rv (v := .int _ _) (v_conv iss3 uni146 il (fun _ => IntWalk.u64_in _ (by omega))) ?_
 refine rn (v := .int _ _) (q_call (vs := [.int _ _]) (args := [.int .u64 ((_ : Nat) : Int)]) hb142 ⟨il, trivial⟩ rfl (fun hA => len_c _ (by omega)) rfl rfl) ?_
 refine rv (v := .int .u64 ((2 ^ bitsLen n : Nat) : Int)) ((v_shlu (m := 1) il il (fun _ => by omega)).cast (int_eq (congrArg Nat.cast (by rw [Nat.one_mul, Int.toNat_natCast]; exact Nat.mod_eq_of_lt (by omega))))) ?_
 refine ra (.int _ _) ?_
 refine r_nil ?_
 refine a_ret ?_
 refine ret1 Tryz.results176 (by decide) (by decide) (Weak.of_eq (int_eq ?_)) rfl Leaves.nil
 rfl
theorem hb176 : hasBody Tryz.prog 176 = true := by kernel_rfl
theorem hb177 : hasBody Tryz.prog 177 = true := by kernel_rfl
theorem iss146 : (Tryz.prog.underlying 146).isSome = true := by kernel_rfl
theorem uni173 : Tryz.prog.underlying 173 = some (.int .u64) := by kernel_rfl
theorem zc173 : zeroCells Tryz.prog 173 = some [.int .u64 0] := by kernel_rfl
theorem breakPatterns_c (f : Nat) (d : Array Int) (n a b : Nat) (hd : d.size = n) (hab : a < b ∧ b ≤ n) (hn : n ≤ 1152921504606846976) : ACall Tryz.prog 187 [.rsl (INH, []) 1 0 n none, .int .i64 ((a : Nat) : Int), .int .i64 ((b : Nat) : Int), .fn f [] []] [.osl 1 (acells d) n none] (.tup []) [.osl 1 (acells (breakPatterns d a b)) n none] := by
 have hbl : bitsLen (b - a) ≤ 61 := (bitsLen_le_iff _ _).2 (by omega)
 have hpw : 2 ^ bitsLen (b - a) ≤ 2 ^ 61 := Nat.pow_le_pow_right (by decide) hbl
 have hp0 : 0 < 2 ^ bitsLen (b - a) := Nat.two_pow_pos _
 refine ACall.intro Tryz.func187 rfl (N := 67) rfl (by decide) (by simp) ?_
 refine aq ?_
 refine rm (.int _ _) ?_
 refine rm (.int _ _) ?_
 refine rv (v := .int .i64 ((b - a : Nat) : Int)) ((v_sub il il (fun _ => by omega)).cast (int_eq (by omega))) ?_
 refine ra (.int _ _) ?_
 refine r_nil ?_
 refine aq ?_
 refine rm (.int _ _) ?_
 refine rv (v := .bool _) (v_geq il il) ?_
 refine r_nil ?_
 refine a_cond rfl (fun ht17 => ?_) (fun ht17 => ?_)
 ·
  refine a_seq ?_
  have h8 : b - a ≥ 8 := (by simp at ht17; omega)
  refine a_region ?_
  refine rm (.int _ _) ?_
  refine rv (v := .int _ _) (v_conv iss3 uni173 il (fun _ => IntWalk.u64_in _ (by omega))) ?_
  refine rn (v := .op [.int _ _]) (q_alloc zc173) ?_
  refine r_step rfl (o_store (v := .int _ _) (y' := .op [.int _ _]) rfl rfl ta173 il il rfl rfl rfl rfl rfl rfl (Nat.le_of_ble_eq_true rfl) (by decide) rfl rfl) ?_
  refine r_nil ?_
  refine aq ?_
  refine rm (.int _ _) ?_
  refine rn (v := .int _ _) (q_call (vs := [.int _ _]) (args := [.int .i64 ((_ : Nat) : Int)]) hb176 ⟨il, trivial⟩ rfl (fun hA => nextPow_c (b - a) (by omega)) rfl rfl) ?_
  refine ra (.int _ _) ?_
  refine r_nil ?_
  refine aq ?_
  refine rm (.int _ _) ?_
  refine rm (.int _ _) ?_
  refine rv (v := .int .i64 (((b - a) / 4 : Nat) : Int)) ((v_quo il il (fun _ => by omega)).cast (int_eq (by omega))) ?_
  refine rv (v := .int .i64 (((b - a) / 4 * 2 : Nat) : Int)) ((v_mul il il (fun _ => by omega)).cast (int_eq (by omega))) ?_
  refine rv (v := .int .i64 ((a + (b - a) / 4 * 2 : Nat) : Int)) ((v_add il il (fun _ => by omega)).cast (int_eq (by omega))) ?_
  refine rv (v := .int .i64 ((a + (b - a) / 4 * 2 - 1 : Nat) : Int)) ((v_sub il il (fun _ => by omega)).cast (int_eq (by omega))) ?_
  refine ra (.int _ _) ?_
  refine r_nil ?_
  refine a_block ?_
  refine a_loop (X := (Nat × Nat × Array Int)) (fun x => look [(0, .rsl (INH, []) 1 0 n none), (1, .int .i64 ((a : Nat) : Int)), (8, .int .i64 ((b - a : Nat) : Int)), (9, .op [.int .u64 ((x.2.1 : Nat) : Int)]), (10, .int .u64 ((2 ^ bitsLen (b - a) : Nat) : Int)), (11, .int .i64 (((a + (b - a) / 4 * 2 - 1 + x.1) : Nat) : Int)), (INH, .osl 1 (acells x.2.2) n none)]) (fun x => x.1 ≤ 3 ∧ x.2.1 < 18446744073709551616 ∧ x.2.2.size = n ∧ bpN a (b - a) (3 - x.1) (a + (b - a) / 4 * 2 - 1 + x.1) x.2.1 x.2.2 = breakPatterns d a b) (fun x => 3 - x.1) (0, b - a, d) (ent_look ⟨wr, wr, wr, wr, wr, Weak.of_eq (int_eq (by dsimp only; omega)), wr, trivial⟩) ⟨by dsimp only; omega, by dsimp only; omega, hd, (bp_eq h8 (by omega)).symm⟩ (fun x hG => ?_)
  obtain ⟨g1, g2, g3, g4⟩ := hG
  refine a_seq ?_
  refine aq ?_
  refine rm (.int _ _) ?_
  refine rm (.int _ _) ?_
  refine rm (.int _ _) ?_
  refine rv (v := .int .i64 (((b - a) / 4 : Nat) : Int)) ((v_quo il il (fun _ => by omega)).cast (int_eq (by omega))) ?_
  refine rv (v := .int .i64 (((b - a) / 4 * 2 : Nat) : Int)) ((v_mul il il (fun _ => by omega)).cast (int_eq (by omega))) ?_
  refine rv (v := .int .i64 ((a + (b - a) / 4 * 2 : Nat) : Int)) ((v_add il il (fun _ => by omega)).cast (int_eq (by omega))) ?_
  refine rv (v := .int .i64 ((a + (b - a) / 4 * 2 + 1 : Nat) : Int)) ((v_add il il (fun _ => by omega)).cast (int_eq (by omega))) ?_
  refine rv (v := .bool _) (v_leq il il) ?_
  refine r_nil ?_
  refine a_cond rfl (fun ht35 => ?_) (fun ht35 => ?_)
  ·
   refine a_skip ?_
   refine a_seq ?_
   refine a_block ?_
   refine a_seq ?_
   have hx3 : x.1 < 3 := (by simp at ht35; omega)
   have hmk : xorNextN x.2.1 &&& (2 ^ bitsLen (b - a) - 1) ≤ 2 ^ bitsLen (b - a) - 1 := Nat.and_le_right
   have hnx := xorNextN_lt _ g2
   have hbo := bpO_lt (L := b - a) (r := x.2.1) (by omega)
   refine a_region ?_
   refine r_step rfl (o_callIOp (q := (9, [])) (vs := [.rp _ _]) (args := [.rp (INH, []) _]) (cs0 := [.int _ _]) (cs1 := [.int _ _]) (res := .int _ _) rfl hb177 rfl (by decide) ⟨.inl rfl, trivial⟩ rfl rfl (next_c x.2.1 g2) rfl rfl rfl rfl rfl (Nat.le_of_ble_eq_true rfl) (by decide) rfl) ?_
   refine rm (.int _ _) ?_
   refine rv (v := .int .u64 ((2 ^ bitsLen (b - a) - 1 : Nat) : Int)) ((v_subu il il (fun _ => by omega)).cast (int_eq (by omega))) ?_
   refine rv (v := .int _ _) (v_andn il il (fun _ => by omega)) ?_
   refine rv (v := .int _ _) (v_conv iss146 uni3 il (fun _ => IntWalk.i64_in _ (by omega))) ?_
   refine ra (.int _ _) ?_
   refine r_nil ?_
   refine a_seq ?_
   refine aq ?_
   refine rm (.int _ _) ?_
   refine rm (.int _ _) ?_
   refine rv (v := .bool _) (v_geq il il) ?_
   refine r_nil ?_
   refine a_cond rfl (fun ht45 => ?_) (fun ht45 => ?_)
   ·
    refine a_region ?_
    refine rm (.int _ _) ?_
    refine rm (.int _ _) ?_
    refine rv (v := .int _ _) (v_sub il il (fun _ => by omega)) ?_
    refine ra (.int _ _) ?_
    refine r_nil ?_
    refine a_pre (ent_eq (t := 12) (v' := .int .i64 ((bpO (b - a) x.2.1 : Nat) : Int)) (Weak.of_eq (int_eq (by first | (have h45 := of_decide_eq_true ht45; rw [show bpO (b - a) x.2.1 = (xorNextN x.2.1 &&& (2 ^ bitsLen (b - a) - 1)) - (b - a) from if_pos (by omega)]; omega) | (have h45 := of_decide_eq_false ht45; rw [show bpO (b - a) x.2.1 = (xorNextN x.2.1 &&& (2 ^ bitsLen (b - a) - 1)) from if_neg (by omega)]))))) ?_
    have hp1 : (a + (b - a) / 4 * 2 - 1 + x.1) * 1 + 1 ≤ (acells x.2.2).length := (by rw [acells_length]; omega)
    have hp2 : (a + bpO (b - a) x.2.1) * 1 + 1 ≤ ((acells x.2.2).set ((a + (b - a) / 4 * 2 - 1 + x.1) * 1) (.int .i64 x.2.2[(a + bpO (b - a) x.2.1)]!)).length := (by rw [List.length_set, acells_length]; omega)
    have hset : ((acells x.2.2).set ((a + (b - a) / 4 * 2 - 1 + x.1) * 1) (.int .i64 x.2.2[(a + bpO (b - a) x.2.1)]!)).set ((a + bpO (b - a) x.2.1) * 1) (.int .i64 x.2.2[(a + (b - a) / 4 * 2 - 1 + x.1)]!) = acells (swp x.2.2 (a + (b - a) / 4 * 2 - 1 + x.1) (a + bpO (b - a) x.2.1)) := (by rw [Nat.mul_one, Nat.mul_one]; exact acells_swp _ _ _)
    refine a_region_w [(49, true), (50, true), (51, true), (52, true), (53, true), (54, true), (55, true), (56, true), (57, true), (58, true), (59, true), (60, true), (61, true), (62, true), (63, true), (64, true), (65, true), (INH, false), (66, true), (INH, false)] mixed (by kernel_rfl) ?_
    refine wv (v := .rsl _ _ _ _ _) (v_move il nf) ?_
    refine wv (v := .int _ _) (v_move il nf) ?_
    refine wv (v := .rsl _ _ _ _ _) (v_move il nf) ?_
    refine wv (v := .int _ _) (v_move il nf) ?_
    refine wv (v := .int _ _) (v_move il nf) ?_
    refine wv (v := .int .i64 (((a + bpO (b - a) x.2.1) : Nat) : Int)) ((v_add il il (fun _ => by omega)).cast (int_eq (by omega))) ?_
    refine wv (v := .rsl _ _ _ _ _) (v_move il nf) ?_
    refine wv (v := .int _ _) (v_move il nf) ?_
    refine wv (v := .int _ _) (v_move il nf) ?_
    refine wv (v := .int .i64 (((a + bpO (b - a) x.2.1) : Nat) : Int)) ((v_add il il (fun _ => by omega)).cast (int_eq (by omega))) ?_
    refine wv (v := .rp _ _) (v_indexAddr_rsl0 es25 il il (fun _ => by omega)) ?_
    refine wv (v := .int .i64 x.2.2[(a + bpO (b - a) x.2.1)]!) (v_load_rp1 ta3 il rfl (fun _ => by rw [Nat.mul_one]; exact acells_get (by omega)) rfl) ?_
    refine wv (v := .rsl _ _ _ _ _) (v_move il nf) ?_
    refine wv (v := .int _ _) (v_move il nf) ?_
    refine wv (v := .rp _ _) (v_indexAddr_rsl0 es25 il il (fun _ => by omega)) ?_
    refine wv (v := .int .i64 x.2.2[(a + (b - a) / 4 * 2 - 1 + x.1)]!) (v_load_rp1 ta3 il rfl (fun _ => by rw [Nat.mul_one]; exact acells_get (by omega)) rfl) ?_
    refine wv (v := .rp _ _) (v_indexAddr_rsl0 es25 il il (fun _ => by omega)) ?_
    refine w_store (v := .int _ _) (y' := .osl _ _ _ _) rfl rfl rfl ta3 (.inl rfl) (.inl rfl) rfl rfl rfl rfl rfl rfl hp1 (by decide) rfl rfl rfl (by kernel_rfl) ?_
    refine wv (v := .rp _ _) (v_indexAddr_rsl0 es25 il il (fun _ => by omega)) ?_
    refine w_store (v := .int _ _) (y' := .osl _ _ _ _) rfl rfl rfl ta3 (.inl rfl) (.inl rfl) rfl rfl rfl rfl rfl rfl hp2 (by decide) rfl (congrArg (fun c => AV.osl 1 c n none) hset) rfl (by kernel_rfl) ?_
    refine w_nil ?_
    refine a_pre (ent_look (L := [(0, .rsl _ _ _ _ _), (1, .int _ _), (8, .int _ _), (9, .op [.int _ _]), (10, .int _ _), (11, .int _ _), (INH, .osl _ _ _ _)]) ⟨wr, wr, wr, wr, wr, wr, wr, trivial⟩) ?_
    refine a_region ?_
    refine rm (.int _ _) ?_
    refine rv (v := .int _ _) (v_add il il (fun _ => by omega)) ?_
    refine ra (.int _ _) ?_
    refine r_nil ?_
    refine ⟨(x.1 + 1, xorNextN x.2.1, swp x.2.2 (a + (b - a) / 4 * 2 - 1 + x.1) (a + bpO (b - a) x.2.1)), ent_look ⟨wr, wr, wr, wr, wr, Weak.of_eq (int_eq (by dsimp only; omega)), wr, trivial⟩, ⟨by dsimp only; omega, xorNextN_lt _ g2, by rw [swp_size]; exact g3, by rw [← g4, show 3 - x.1 = (3 - (x.1 + 1)) + 1 by omega]; rfl⟩, by dsimp only; omega⟩
   ·
    refine a_skip ?_
    refine a_pre (ent_eq (t := 12) (v' := .int .i64 ((bpO (b - a) x.2.1 : Nat) : Int)) (Weak.of_eq (int_eq (by first | (have h45 := of_decide_eq_true ht45; rw [show bpO (b - a) x.2.1 = (xorNextN x.2.1 &&& (2 ^ bitsLen (b - a) - 1)) - (b - a) from if_pos (by omega)]; omega) | (have h45 := of_decide_eq_false ht45; rw [show bpO (b - a) x.2.1 = (xorNextN x.2.1 &&& (2 ^ bitsLen (b - a) - 1)) from if_neg (by omega)]))))) ?_
    have hp1 : (a + (b - a) / 4 * 2 - 1 + x.1) * 1 + 1 ≤ (acells x.2.2).length := (by rw [acells_length]; omega)
    have hp2 : (a + bpO (b - a) x.2.1) * 1 + 1 ≤ ((acells x.2.2).set ((a + (b - a) / 4 * 2 - 1 + x.1) * 1) (.int .i64 x.2.2[(a + bpO (b - a) x.2.1)]!)).length := (by rw [List.length_set, acells_length]; omega)
    have hset : ((acells x.2.2).set ((a + (b - a) / 4 * 2 - 1 + x.1) * 1) (.int .i64 x.2.2[(a + bpO (b - a) x.2.1)]!)).set ((a + bpO (b - a) x.2.1) * 1) (.int .i64 x.2.2[(a + (b - a) / 4 * 2 - 1 + x.1)]!) = acells (swp x.2.2 (a + (b - a) / 4 * 2 - 1 + x.1) (a + bpO (b - a) x.2.1)) := (by rw [Nat.mul_one, Nat.mul_one]; exact acells_swp _ _ _)
    refine a_region_w [(49, true), (50, true), (51, true), (52, true), (53, true), (54, true), (55, true), (56, true), (57, true), (58, true), (59, true), (60, true), (61, true), (62, true), (63, true), (64, true), (65, true), (INH, false), (66, true), (INH, false)] mixed (by kernel_rfl) ?_
    refine wv (v := .rsl _ _ _ _ _) (v_move il nf) ?_
    refine wv (v := .int _ _) (v_move il nf) ?_
    refine wv (v := .rsl _ _ _ _ _) (v_move il nf) ?_
    refine wv (v := .int _ _) (v_move il nf) ?_
    refine wv (v := .int _ _) (v_move il nf) ?_
    refine wv (v := .int .i64 (((a + bpO (b - a) x.2.1) : Nat) : Int)) ((v_add il il (fun _ => by omega)).cast (int_eq (by omega))) ?_
    refine wv (v := .rsl _ _ _ _ _) (v_move il nf) ?_
    refine wv (v := .int _ _) (v_move il nf) ?_
    refine wv (v := .int _ _) (v_move il nf) ?_
    refine wv (v := .int .i64 (((a + bpO (b - a) x.2.1) : Nat) : Int)) ((v_add il il (fun _ => by omega)).cast (int_eq (by omega))) ?_
    refine wv (v := .rp _ _) (v_indexAddr_rsl0 es25 il il (fun _ => by omega)) ?_
    refine wv (v := .int .i64 x.2.2[(a + bpO (b - a) x.2.1)]!) (v_load_rp1 ta3 il rfl (fun _ => by rw [Nat.mul_one]; exact acells_get (by omega)) rfl) ?_
    refine wv (v := .rsl _ _ _ _ _) (v_move il nf) ?_
    refine wv (v := .int _ _) (v_move il nf) ?_
    refine wv (v := .rp _ _) (v_indexAddr_rsl0 es25 il il (fun _ => by omega)) ?_
    refine wv (v := .int .i64 x.2.2[(a + (b - a) / 4 * 2 - 1 + x.1)]!) (v_load_rp1 ta3 il rfl (fun _ => by rw [Nat.mul_one]; exact acells_get (by omega)) rfl) ?_
    refine wv (v := .rp _ _) (v_indexAddr_rsl0 es25 il il (fun _ => by omega)) ?_
    refine w_store (v := .int _ _) (y' := .osl _ _ _ _) rfl rfl rfl ta3 (.inl rfl) (.inl rfl) rfl rfl rfl rfl rfl rfl hp1 (by decide) rfl rfl rfl (by kernel_rfl) ?_
    refine wv (v := .rp _ _) (v_indexAddr_rsl0 es25 il il (fun _ => by omega)) ?_
    refine w_store (v := .int _ _) (y' := .osl _ _ _ _) rfl rfl rfl ta3 (.inl rfl) (.inl rfl) rfl rfl rfl rfl rfl rfl hp2 (by decide) rfl (congrArg (fun c => AV.osl 1 c n none) hset) rfl (by kernel_rfl) ?_
    refine w_nil ?_
    refine a_pre (ent_look (L := [(0, .rsl _ _ _ _ _), (1, .int _ _), (8, .int _ _), (9, .op [.int _ _]), (10, .int _ _), (11, .int _ _), (INH, .osl _ _ _ _)]) ⟨wr, wr, wr, wr, wr, wr, wr, trivial⟩) ?_
    refine a_region ?_
    refine rm (.int _ _) ?_
    refine rv (v := .int _ _) (v_add il il (fun _ => by omega)) ?_
    refine ra (.int _ _) ?_
    refine r_nil ?_
    refine ⟨(x.1 + 1, xorNextN x.2.1, swp x.2.2 (a + (b - a) / 4 * 2 - 1 + x.1) (a + bpO (b - a) x.2.1)), ent_look ⟨wr, wr, wr, wr, wr, Weak.of_eq (int_eq (by dsimp only; omega)), wr, trivial⟩, ⟨by dsimp only; omega, xorNextN_lt _ g2, by rw [swp_size]; exact g3, by rw [← g4, show 3 - x.1 = (3 - (x.1 + 1)) + 1 by omega]; rfl⟩, by dsimp only; omega⟩
  ·
   refine a_exit ?_
   refine ret0_look Tryz.results187 (by decide) ?_ rfl
   exact Weak.of_eq (osl_eq (by rw [← g4, show 3 - x.1 = 0 by simp at ht35; omega]; rfl))
 ·
  refine a_skip ?_
  refine ret0_look Tryz.results187 (by decide) ?_ rfl
  exact Weak.of_eq (osl_eq (by unfold breakPatterns; simp only []; rw [if_neg (by simp at ht17; omega)]))
theorem hb180 : hasBody Tryz.prog 180 = true := by kernel_rfl
theorem hb185 : hasBody Tryz.prog 185 = true := by kernel_rfl
theorem hb186 : hasBody Tryz.prog 186 = true := by kernel_rfl
theorem hb187 : hasBody Tryz.prog 187 = true := by kernel_rfl
theorem hb188 : hasBody Tryz.prog 188 = true := by kernel_rfl
theorem hb189 : hasBody Tryz.prog 189 = true := by kernel_rfl
theorem hb190 : hasBody Tryz.prog 190 = true := by kernel_rfl
theorem hb191 : hasBody Tryz.prog 191 = true := by kernel_rfl
theorem hb192 : hasBody Tryz.prog 192 = true := by kernel_rfl
theorem pdq_step (f : Nat) (hb : hasBody Tryz.prog f = true) (cf : Int → Int → Int) (hc : ∀ x y, ACall Tryz.prog f [.int .i64 x, .int .i64 y] [] (.int .i64 (cf x y)) []) (hS : SWO (ltc cf)) (n N : Nat) (hn : n ≤ 1152921504606846976) (ih : ∀ (d' : Array Int) (a' b' l' : Nat), d'.size = n → a' ≤ b' → b' ≤ n → b' - a' < N → l' ≤ 100 → Below (ltc cf) a' b' d' → ACall Tryz.prog 180 [.rsl (INH, []) 1 0 n none, .int .i64 ((a' : Nat) : Int), .int .i64 ((b' : Nat) : Int), .int .i64 ((l' : Nat) : Int), .fn f [] []] [.osl 1 (acells d') n none] (.tup []) [.osl 1 (acells (pdq (ltc cf) d' a' b' l' true true)) n none]) (d : Array Int) (a b limit : Nat) (hd : d.size = n) (hab : a ≤ b ∧ b ≤ n ∧ b - a ≤ N ∧ limit ≤ 100) (hB : Below (ltc cf) a b d)  : ACall Tryz.prog 180 [.rsl (INH, []) 1 0 n none, .int .i64 ((a : Nat) : Int), .int .i64 ((b : Nat) : Int), .int .i64 ((limit : Nat) : Int), .fn f [] []] [.osl 1 (acells d) n none] (.tup []) [.osl 1 (acells (pdq (ltc cf) d a b limit true true)) n none] := by
 refine ACall.intro Tryz.func180 rfl (N := 148) rfl (by decide) (by simp) ?_
 refine aq ?_
 refine ra (.bool _) ?_
 refine r_nil ?_
 refine aq ?_
 refine ra (.bool _) ?_
 refine r_nil ?_
 refine a_block ?_
 refine a_loop (X := PS) (fun x => look [(0, .rsl (INH, []) 1 0 n none), (1, .int .i64 ((x.a : Nat) : Int)), (2, .int .i64 ((x.b : Nat) : Int)), (3, .int .i64 ((x.lim : Nat) : Int)), (4, .fn f [] []), (10, .bool x.wb), (11, .bool x.wp), (INH, .osl 1 (acells x.d) n none)]) (fun x => PInv (ltc cf) n N (pdq (ltc cf) d a b limit true true) x) (fun x => x.b - x.a) ⟨a, b, limit, true, true, d⟩ (ent_look ⟨wr, wr, wr, wr, wr, wr, wr, wr, trivial⟩) ⟨hab.1, hab.2.1, hab.2.2.1, hab.2.2.2, hd, hB, rfl⟩ (fun x hG => ?_)
 have hP := hG
 obtain ⟨g1, g2, g3, g4, g5, g6, g7⟩ := hG
 refine a_block ?_
 refine aq ?_
 refine rm (.int _ _) ?_
 refine rm (.int _ _) ?_
 refine rv (v := .int .i64 ((x.b - x.a : Nat) : Int)) ((v_sub il il (fun _ => by omega)).cast (int_eq (by omega))) ?_
 refine ra (.int _ _) ?_
 refine r_nil ?_
 refine a_seq ?_
 refine aq ?_
 refine rm (.int _ _) ?_
 refine rv (v := .bool _) (v_leq il il) ?_
 refine r_nil ?_
 refine a_cond rfl (fun ht25 => ?_) (fun ht25 => ?_)
 ·
  refine a_seq ?_
  have h12 : x.b - x.a ≤ 12 := (by simp at ht25; omega)
  refine a_region ?_
  refine rm (.rsl _ _ _ _ _) ?_
  refine rm (.int _ _) ?_
  refine rm (.int _ _) ?_
  refine rv (v := .fn _ _ _) (v_mv rfl) ?_
  refine r_step rfl (o_callIO (q := (INH, [])) (vs := [.rsl _ _ _ _ _, .int _ _, .int _ _, .fn _ _ _]) (args := [.rsl (INH, []) _ _ _ _, .int .i64 _, .int .i64 _, .fn _ _ _]) (x0 := .osl _ _ _ _) (x1 := .osl _ _ _ _) (res := .tup []) rfl hb185 rfl (by decide) ⟨.inl rfl, .inl rfl, .inl rfl, .inl rfl, trivial⟩ rfl rfl (insertion_c f hb cf hc x.d n x.a x.b g5 (by omega) (by omega)) rfl rfl rfl (ac_noSh _) (ac_noRef _) (Nat.le_of_ble_eq_true rfl) (by decide) rfl) ?_
  refine r_nil ?_
  refine a_ret ?_
  refine ret0_look Tryz.results180 (by decide) ?_ rfl
  exact Weak.of_eq (osl_eq (by rw [← g7, pdq_small h12]))
 ·
  refine a_skip ?_
  refine a_seq ?_
  refine aq ?_
  refine rm (.int _ _) ?_
  refine rv (v := .bool _) (v_eql il il) ?_
  refine r_nil ?_
  refine a_cond rfl (fun ht32 => ?_) (fun ht32 => ?_)
  ·
   refine a_seq ?_
   have h12 : ¬ x.b - x.a ≤ 12 := (by simp at ht25; omega)
   have h0 : x.lim = 0 := (by simp at ht32; omega)
   refine a_region ?_
   refine rm (.rsl _ _ _ _ _) ?_
   refine rm (.int _ _) ?_
   refine rm (.int _ _) ?_
   refine rv (v := .fn _ _ _) (v_mv rfl) ?_
   refine r_step rfl (o_callIOk (q := (INH, [])) (vs := [.rsl _ _ _ _ _, .int _ _, .int _ _, .fn _ _ _]) (args := [.rsl (INH, []) _ _ _ _, .int .i64 _, .int .i64 _, .fn _ _ _]) (x0 := .osl _ _ _ _) (x1 := .osl _ _ _ _) (res := .tup []) rfl hb186 rfl (by decide) ⟨.inl rfl, .inl rfl, .inl rfl, .inl rfl, trivial⟩ rfl rfl (heapSort_c f hb cf hc x.d n x.a x.b g5 (by omega) hn) (by simp [stays]; omega) rfl rfl rfl (ac_noSh _) (ac_noRef _) (Nat.le_of_ble_eq_true rfl) (by decide) rfl) ?_
   refine r_nil ?_
   refine a_ret ?_
   refine ret0_look Tryz.results180 (by decide) ?_ rfl
   exact Weak.of_eq (osl_eq (by rw [← g7, pdq_heap h12 h0]))
  ·
   refine a_skip ?_
   refine a_join (X := Unit) (fun _u => look [(0, .rsl (INH, []) 1 0 n none), (1, .int .i64 ((x.a : Nat) : Int)), (2, .int .i64 ((x.b : Nat) : Int)), (3, .int .i64 (((x.rd (ltc cf)).lim : Nat) : Int)), (4, .fn f [] []), (10, .bool x.wb), (11, .bool x.wp), (12, .int .i64 ((x.b - x.a : Nat) : Int)), (INH, .osl 1 (acells (x.rd (ltc cf)).d1) n none)]) (fun _u => True) ?_ (fun _u hJ => ?_)
   ·
    refine a_seq ?_
    have h12 : ¬ x.b - x.a ≤ 12 := (by simp at ht25; omega)
    have h0 : ¬ x.lim = 0 := (by simp at ht32; omega)
    have hf := hP.facts hS h12
    refine a_region ?_
    refine rm (.bool _) ?_
    refine rv (v := .bool _) (v_not il) ?_
    refine r_nil ?_
    refine a_cond rfl (fun ht39 => ?_) (fun ht39 => ?_)
    ·
     refine aq ?_
     refine rm (.rsl _ _ _ _ _) ?_
     refine rm (.int _ _) ?_
     refine rm (.int _ _) ?_
     refine rv (v := .fn _ _ _) (v_mv rfl) ?_
     refine r_step rfl (o_callIOk (q := (INH, [])) (vs := [.rsl _ _ _ _ _, .int _ _, .int _ _, .fn _ _ _]) (args := [.rsl (INH, []) _ _ _ _, .int .i64 _, .int .i64 _, .fn _ _ _]) (x0 := .osl _ _ _ _) (x1 := .osl _ _ _ _) (res := .tup []) rfl hb187 rfl (by decide) ⟨.inl rfl, .inl rfl, .inl rfl, .inl rfl, trivial⟩ rfl rfl (breakPatterns_c f x.d n x.a x.b g5 (by omega) hn) (by simp [stays]; omega) rfl rfl rfl (ac_noSh _) (ac_noRef _) (Nat.le_of_ble_eq_true rfl) (by decide) rfl) ?_
     refine r_nil ?_
     refine a_region ?_
     refine rm (.int _ _) ?_
     refine rv (v := .int _ _) (v_sub il il (fun _ => by omega)) ?_
     refine ra (.int _ _) ?_
     refine r_nil ?_
     have hw : x.wb = false := (by simpa using ht39)
     have hl := (rdF (lt := (ltc cf)) hw)
     exact ⟨(), ent_look ⟨wr, wr, wr, Weak.of_eq (int_eq (by have := hl.1; omega)), wr, wr, wr, wr, Weak.of_eq (osl_eq (by rw [hl.2])), trivial⟩, trivial⟩
    ·
     refine a_skip ?_
     have hw : x.wb = true := (by simpa using ht39)
     have hl := (rdT (lt := (ltc cf)) hw)
     exact ⟨(), ent_look ⟨wr, wr, wr, Weak.of_eq (int_eq (by have := hl.1; omega)), wr, wr, wr, wr, Weak.of_eq (osl_eq (by rw [hl.2])), trivial⟩, trivial⟩
   ·
    have h12 : ¬ x.b - x.a ≤ 12 := (by simp at ht25; omega)
    have h0 : ¬ x.lim = 0 := (by simp at ht32; omega)
    have hf := hP.facts hS h12
    refine aq ?_
    refine rm (.rsl _ _ _ _ _) ?_
    refine rm (.int _ _) ?_
    refine rm (.int _ _) ?_
    refine rv (v := .fn _ _ _) (v_mv rfl) ?_
    refine rn (v := .tup [.int _ _, .int _ _]) (q_call (vs := [.rsl _ _ _ _ _, .int _ _, .int _ _, .fn _ _ _]) (args := [.sl _ _, .int .i64 _, .int .i64 _, .fn _ _ _]) hb188 ⟨il, il, il, il, trivial⟩ (l4_eq (sl_sh (ac_pure _)) rfl rfl rfl) (fun hA => choosePivot_c f hb cf hc _ n x.a x.b hf.1 (by omega) hn) rfl rfl) ?_
    refine rv (v := .tup [.int _ _, .int _ _]) (v_mv rfl) ?_
    refine rv (v := .int .i64 (((x.rd (ltc cf)).c.1 : Nat) : Int)) ((v_extract rfl rfl).cast (int_eq rfl)) ?_
    refine rv (v := .int .i64 ((hintN (x.rd (ltc cf)).c.2 : Nat) : Int)) ((v_extract rfl rfl).cast (int_eq rfl)) ?_
    refine ra (.int _ _) ?_
    refine ra (.int _ _) ?_
    refine r_nil ?_
    refine a_join (X := Unit) (fun _u => look [(0, .rsl (INH, []) 1 0 n none), (1, .int .i64 ((x.a : Nat) : Int)), (2, .int .i64 ((x.b : Nat) : Int)), (3, .int .i64 (((x.rd (ltc cf)).lim : Nat) : Int)), (4, .fn f [] []), (10, .bool x.wb), (11, .bool x.wp), (12, .int .i64 ((x.b - x.a : Nat) : Int)), (13, .int .i64 (((x.rd (ltc cf)).pivot : Nat) : Int)), (14, .int .i64 ((hintN (x.rd (ltc cf)).hint : Nat) : Int)), (INH, .osl 1 (acells (x.rd (ltc cf)).d2) n none)]) (fun _u => True) ?_ (fun _u hJ => ?_)
    ·
     refine aq ?_
     refine rm (.int _ _) ?_
     refine rv (v := .bool _) (v_eql il il) ?_
     refine r_nil ?_
     refine a_cond rfl (fun ht56 => ?_) (fun ht56 => ?_)
     ·
      refine aq ?_
      refine rm (.rsl _ _ _ _ _) ?_
      refine rm (.int _ _) ?_
      refine rm (.int _ _) ?_
      refine rv (v := .fn _ _ _) (v_mv rfl) ?_
      refine r_step rfl (o_callIOk (q := (INH, [])) (vs := [.rsl _ _ _ _ _, .int _ _, .int _ _, .fn _ _ _]) (args := [.rsl (INH, []) _ _ _ _, .int .i64 _, .int .i64 _, .fn _ _ _]) (x0 := .osl _ _ _ _) (x1 := .osl _ _ _ _) (res := .tup []) rfl hb189 rfl (by decide) ⟨.inl rfl, .inl rfl, .inl rfl, .inl rfl, trivial⟩ rfl rfl (reverse_c f _ n x.a x.b hf.1 (by omega) hn) (by simp [stays]; omega) rfl rfl rfl (ac_noSh _) (ac_noRef _) (Nat.le_of_ble_eq_true rfl) (by decide) rfl) ?_
      refine r_nil ?_
      refine aq ?_
      refine rm (.int _ _) ?_
      refine rv (v := .int _ _) (v_sub il il (fun _ => by omega)) ?_
      refine rm (.int _ _) ?_
      refine rm (.int _ _) ?_
      refine rv (v := .int _ _) (v_sub il il (fun _ => by omega)) ?_
      refine rv (v := .int _ _) (v_sub il il (fun _ => by omega)) ?_
      refine ra (.int _ _) ?_
      refine r_nil ?_
      refine a_pre (ent_look (L := [(0, .rsl _ _ _ _ _), (1, .int _ _), (2, .int _ _), (3, .int _ _), (4, .fn _ _ _), (10, .bool _), (11, .bool _), (12, .int _ _), (13, .int _ _), (14, .int _ _), (INH, .osl _ _ _ _)]) ⟨wr, wr, wr, wr, wr, wr, wr, wr, wr, wr, wr, trivial⟩) ?_
      refine a_region ?_
      refine ra (.int _ _) ?_
      refine r_nil ?_
      have hd2 := rd_dec (lt := (ltc cf)) (hintN_two.1 (of_decide_eq_true ht56) : (x.rd (ltc cf)).c.2 = .decreasing)
      exact ⟨(), ent_look ⟨wr, wr, wr, wr, wr, wr, wr, wr, Weak.of_eq (int_eq (by have h1 := hd2.2.1; have h2 := hf.2.1; dsimp only [PS.rd] at *; omega)), Weak.of_eq (int_eq (by rw [hd2.2.2]; rfl)), Weak.of_eq (osl_eq (by rw [hd2.1])), trivial⟩, trivial⟩
     ·
      refine a_skip ?_
      have hd2 := rd_not (lt := (ltc cf)) (fun h => of_decide_eq_false ht56 (hintN_two.2 h) : (x.rd (ltc cf)).c.2 ≠ .decreasing)
      exact ⟨(), ent_look ⟨wr, wr, wr, wr, wr, wr, wr, wr, Weak.of_eq (int_eq (by rw [hd2.2.1])), Weak.of_eq (int_eq (by rw [hd2.2.2])), Weak.of_eq (osl_eq (by rw [hd2.1])), trivial⟩, trivial⟩
    ·
     refine a_join (X := Unit) (fun _u => look [(0, .rsl (INH, []) 1 0 n none), (1, .int .i64 ((x.a : Nat) : Int)), (2, .int .i64 ((x.b : Nat) : Int)), (3, .int .i64 (((x.rd (ltc cf)).lim : Nat) : Int)), (4, .fn f [] []), (10, .bool x.wb), (11, .bool x.wp), (12, .int .i64 ((x.b - x.a : Nat) : Int)), (13, .int .i64 (((x.rd (ltc cf)).pivot : Nat) : Int)), (INH, .osl 1 (acells (x.rd (ltc cf)).pi.1) n none)]) (fun _u => (x.rd (ltc cf)).pi.2 = false) ?_ (fun _u hJ => ?_)
     ·
      refine aq ?_
      refine rm (.bool _) ?_
      refine rm (.bool _) ?_
      refine rg (v := .bool _) (v_move il nf) ?_
      refine rv (v := .bool _) (v_pick (.inl rfl) (.inr ⟨_, rfl, fun h h2 => by simp_all⟩) (.inl rfl)) ?_
      refine rm (.bool _) ?_
      refine rg (v := .int _ _) (v_move il nf) ?_
      refine r_gval (v := .bool _) (v_eql (.inr ⟨_, rfl, fun h => h⟩) il) rfl rfl rfl (by decide) (.inl ⟨_, rfl, rfl⟩) rfl (by decide) ?_
      refine rv (v := .bool _) (v_pick (.inl rfl) (.inr ⟨_, rfl, fun h h2 => by simp_all⟩) (.inl rfl)) ?_
      refine r_nil ?_
      refine a_cond rfl (fun ht75 => ?_) (fun ht75 => ?_)
      ·
       refine a_seq ?_
       have hpi := rd_pi_yes (lt := (ltc cf)) (d := x.d) (a := x.a) (b := x.b) (limit := x.lim) (wb := x.wb) (wp := x.wp) (pi_cond ht75)
       refine a_region ?_
       refine rm (.rsl _ _ _ _ _) ?_
       refine rm (.int _ _) ?_
       refine rm (.int _ _) ?_
       refine rv (v := .fn _ _ _) (v_mv rfl) ?_
       refine r_step rfl (o_callIOk (q := (INH, [])) (vs := [.rsl _ _ _ _ _, .int _ _, .int _ _, .fn _ _ _]) (args := [.rsl (INH, []) _ _ _ _, .int .i64 _, .int .i64 _, .fn _ _ _]) (x0 := .osl _ _ _ _) (x1 := .osl _ _ _ _) (res := .bool _) rfl hb190 rfl (by decide) ⟨.inl rfl, .inl rfl, .inl rfl, .inl rfl, trivial⟩ rfl rfl (partialIns_c f hb cf hc _ n x.a x.b hf.2.2.1 (by omega) hn) (by simp [stays]; omega) rfl rfl rfl (ac_noSh _) (ac_noRef _) (Nat.le_of_ble_eq_true rfl) (by decide) rfl) ?_
       refine r_nil ?_
       refine a_cond rfl (fun ht80 => ?_) (fun ht80 => ?_)
       ·
        refine a_ret ?_
        refine ret0_look Tryz.results180 (by decide) ?_ rfl
        exact Weak.of_eq (osl_eq (by rw [← g7, pdq_done h12 h0 (by rw [hpi]; exact ht80), hpi]))
       ·
        refine a_skip ?_
        exact ⟨(), ent_look ⟨wr, wr, wr, wr, wr, wr, wr, wr, wr, Weak.of_eq (osl_eq (by rw [hpi])), trivial⟩, (by rw [hpi]; exact ht80)⟩
      ·
       refine a_skip ?_
       have hpi := rd_pi_no (lt := (ltc cf)) (d := x.d) (a := x.a) (b := x.b) (limit := x.lim) (wb := x.wb) (wp := x.wp) (pi_cond ht75)
       exact ⟨(), ent_look ⟨wr, wr, wr, wr, wr, wr, wr, wr, wr, Weak.of_eq (osl_eq (by rw [hpi])), trivial⟩, (by rw [hpi])⟩
     ·
      have hpf := hJ
      refine a_seq ?_
      refine a_seq ?_
      refine a_region_any mixed (by kernel_rfl) ?_
      refine yv (v := .int _ _) (v_move il nf) ?_
      refine yv (v := .bool _) (v_gtr il il) ?_
      refine yv (v := .bool _) (v_move il nf) ?_
      refine yh (v := .fn _ _ _) (v_move il nf).quiet ?_
      refine yh (v := .rsl _ _ _ _ _) (v_move il nf).quiet ?_
      refine yh (v := .int _ _) (v_move il nf).quiet ?_
      refine yg (v := .int _ _) (v_sub (.inr ⟨_, rfl, fun h => h⟩) il (fun _ => by omega)).quiet rfl rfl rfl (by decide) (.inl ⟨_, rfl, rfl⟩) ?_
      refine yg (v := .rp _ _) (v_indexAddr_rsl0 es25 (.inr ⟨_, rfl, fun h => h⟩) (.inr ⟨_, rfl, fun h => h⟩) (fun hA => by simp at hA; omega)).quiet rfl rfl rfl (by decide) (.inl ⟨_, rfl, rfl⟩) ?_
      refine yg (v := .int .i64 (x.rd (ltc cf)).pi.1[x.a - 1]!) (v_load_rp1 ta3 (.inr ⟨_, rfl, fun h => h⟩) rfl (fun hA => by simp at hA; rw [show ((x.a : Int) - 1).toNat = x.a - 1 by omega, Nat.mul_one]; exact acells_get (by omega)) rfl).quiet rfl rfl rfl (by decide) (.inl ⟨_, rfl, rfl⟩) ?_
      refine yh (v := .rsl _ _ _ _ _) (v_move il nf).quiet ?_
      refine yh (v := .int _ _) (v_move il nf).quiet ?_
      refine yg (v := .rp _ _) (v_indexAddr_rsl0 es25 (.inr ⟨_, rfl, fun h => h⟩) (.inr ⟨_, rfl, fun h => h⟩) (fun hA => by simp at hA; omega)).quiet rfl rfl rfl (by decide) (.inl ⟨_, rfl, rfl⟩) ?_
      refine yg (v := .int .i64 (x.rd (ltc cf)).pi.1[(x.rd (ltc cf)).pivot]!) (v_load_rp1 ta3 (.inr ⟨_, rfl, fun h => h⟩) rfl (fun hA => by simp at hA; rw [Nat.mul_one]; exact acells_get (by omega)) rfl).quiet rfl rfl rfl (by decide) (.inl ⟨_, rfl, rfl⟩) ?_
      refine yg (v := .int _ _) (q_clo (vs := [.int _ _, .int _ _]) (args := [.int .i64 _, .int .i64 _]) hb (.inr ⟨_, rfl, fun h => h⟩) ⟨.inr ⟨_, rfl, fun h => h⟩, .inr ⟨_, rfl, fun h => h⟩, trivial⟩ rfl (fun hA => hc _ _) rfl rfl) rfl rfl rfl (by decide) (.inl ⟨_, rfl, rfl⟩) ?_
      refine yg (v := .bool _) (v_lss (.inr ⟨_, rfl, fun h => h⟩) il).quiet rfl rfl rfl (by decide) (.inl ⟨_, rfl, rfl⟩) ?_
      refine yg (v := .bool _) (v_not (.inr ⟨_, rfl, fun h => h⟩)).quiet rfl rfl rfl (by decide) (.inl ⟨_, rfl, rfl⟩) ?_
      refine yv (v := .bool _) (v_pick (.inl rfl) (.inr ⟨_, rfl, fun h h2 => by simp_all⟩) (.inl rfl)) ?_
      refine y_nil ?_
      refine a_cond rfl (fun ht97 => ?_) (fun ht97 => ?_)
      ·
       refine a_seq ?_
       have hts : x.test (ltc cf) = true := test_cond ht97
       have hnx := hP.eq hS h12 h0 hpf hts
       refine a_region ?_
       refine rm (.rsl _ _ _ _ _) ?_
       refine rm (.int _ _) ?_
       refine rm (.int _ _) ?_
       refine rm (.int _ _) ?_
       refine rv (v := .fn _ _ _) (v_mv rfl) ?_
       refine r_step rfl (o_callIOk (q := (INH, [])) (vs := [.rsl _ _ _ _ _, .int _ _, .int _ _, .int _ _, .fn _ _ _]) (args := [.rsl (INH, []) _ _ _ _, .int .i64 _, .int .i64 _, .int .i64 _, .fn _ _ _]) (x0 := .osl _ _ _ _) (x1 := .osl _ _ _ _) (res := .int _ _) rfl hb191 rfl (by decide) ⟨.inl rfl, .inl rfl, .inl rfl, .inl rfl, .inl rfl, trivial⟩ rfl rfl (partEq_c f hb cf hc _ n x.a x.b _ hf.2.2.2.2.1 (by have := hf.2.2.2.1; omega) hn) (by simp [stays]; omega) rfl rfl rfl (ac_noSh _) (ac_noRef _) (Nat.le_of_ble_eq_true rfl) (by decide) rfl) ?_
       refine ra (.int _ _) ?_
       refine r_nil ?_
       refine a_seq ?_
       refine a_pre (ent_look (L := [(0, .rsl _ _ _ _ _), (1, .int _ _), (2, .int _ _), (3, .int _ _), (4, .fn _ _ _), (10, .bool _), (11, .bool _), (12, .int _ _), (13, .int _ _), (15, .int _ _), (INH, .osl _ _ _ _)]) ⟨wr, wr, wr, wr, wr, wr, wr, wr, wr, wr, wr, trivial⟩) ?_
       refine a_region ?_
       refine rm (.int _ _) ?_
       refine ra (.int _ _) ?_
       refine r_nil ?_
       refine a_exit ?_
       refine ⟨(x.eq (ltc cf)), ent_look ⟨wr, wr, wr, wr, wr, wr, wr, wr, trivial⟩, hnx.1, (by have h1 := hnx.2; have h2 := hnx.1.1; have h3 : (x.eq (ltc cf)).b = x.b := rfl; omega)⟩
      ·
       refine a_skip ?_
       refine a_seq ?_
       have hts : x.test (ltc cf) = false := test_cond ht97
       have hpt := hP.part hS h12
       refine a_region ?_
       refine rm (.rsl _ _ _ _ _) ?_
       refine rm (.int _ _) ?_
       refine rm (.int _ _) ?_
       refine rm (.int _ _) ?_
       refine rv (v := .fn _ _ _) (v_mv rfl) ?_
       refine r_step rfl (o_callIOk (q := (INH, [])) (vs := [.rsl _ _ _ _ _, .int _ _, .int _ _, .int _ _, .fn _ _ _]) (args := [.rsl (INH, []) _ _ _ _, .int .i64 _, .int .i64 _, .int .i64 _, .fn _ _ _]) (x0 := .osl _ _ _ _) (x1 := .osl _ _ _ _) (res := .tup [.int _ _, .bool _]) rfl hb192 rfl (by decide) ⟨.inl rfl, .inl rfl, .inl rfl, .inl rfl, .inl rfl, trivial⟩ rfl rfl (partition_c f hb cf hc _ n x.a x.b _ hf.2.2.2.2.1 (by have := hf.2.2.2.1; omega) hn) (by simp [stays]; omega) rfl rfl rfl (ac_noSh _) (ac_noRef _) (Nat.le_of_ble_eq_true rfl) (by decide) rfl) ?_
       refine rv (v := .tup [.int _ _, .bool _]) (v_mv rfl) ?_
       refine rv (v := .int .i64 (((x.pt (ltc cf)).1 : Nat) : Int)) ((v_extract rfl rfl).cast (int_eq rfl)) ?_
       refine rv (v := .bool (x.pt (ltc cf)).2.1) ((v_extract rfl rfl).cast (bool_eq rfl)) ?_
       refine ra (.int _ _) ?_
       refine ra (.bool _) ?_
       refine r_nil ?_
       refine a_seq ?_
       refine a_pre (ent_look (L := [(0, .rsl _ _ _ _ _), (1, .int _ _), (2, .int _ _), (3, .int _ _), (4, .fn _ _ _), (10, .bool _), (11, .bool _), (12, .int _ _), (16, .int _ _), (17, .bool _), (INH, .osl _ _ _ _)]) ⟨wr, wr, wr, wr, wr, wr, wr, wr, wr, wr, wr, trivial⟩) ?_
       refine a_region ?_
       refine rm (.bool _) ?_
       refine ra (.bool _) ?_
       refine r_nil ?_
       refine aq ?_
       refine rm (.int _ _) ?_
       refine rm (.int _ _) ?_
       refine rv (v := .int .i64 (((x.pt (ltc cf)).1 - x.a : Nat) : Int)) ((v_sub il il (fun _ => by omega)).cast (int_eq (by omega))) ?_
       refine rm (.int _ _) ?_
       refine rm (.int _ _) ?_
       refine rv (v := .int .i64 ((x.b - (x.pt (ltc cf)).1 : Nat) : Int)) ((v_sub il il (fun _ => by omega)).cast (int_eq (by omega))) ?_
       refine ra (.int _ _) ?_
       refine ra (.int _ _) ?_
       refine r_nil ?_
       refine aq ?_
       refine rm (.int _ _) ?_
       refine rv (v := .int .i64 (((x.b - x.a) / 8 : Nat) : Int)) ((v_quo il il (fun _ => by omega)).cast (int_eq (by omega))) ?_
       refine ra (.int _ _) ?_
       refine r_nil ?_
       refine aq ?_
       refine rm (.int _ _) ?_
       refine rm (.int _ _) ?_
       refine rv (v := .bool _) (v_lss il il) ?_
       refine r_nil ?_
       refine a_cond rfl (fun ht125 => ?_) (fun ht125 => ?_)
       ·
        refine a_seq ?_
        have hll : (x.pt (ltc cf)).1 - x.a < x.b - (x.pt (ltc cf)).1 := (by simp at ht125; omega)
        have hnx := hP.left hS h12 h0 hpf hts hll
        refine a_region ?_
        refine rm (.int _ _) ?_
        refine rm (.int _ _) ?_
        refine rv (v := .bool _) (v_geq il il) ?_
        refine ra (.bool _) ?_
        refine r_nil ?_
        refine a_seq ?_
        refine a_pre (ent_look (L := [(0, .rsl _ _ _ _ _), (1, .int _ _), (2, .int _ _), (3, .int _ _), (4, .fn _ _ _), (10, .bool _), (11, .bool _), (16, .int _ _), (19, .int _ _), (20, .int _ _), (INH, .osl _ _ _ _)]) ⟨wr, wr, wr, wr, wr, wr, wr, wr, wr, wr, wr, trivial⟩) ?_
        refine a_region ?_
        refine rm (.rsl _ _ _ _ _) ?_
        refine rm (.int _ _) ?_
        refine rm (.int _ _) ?_
        refine rm (.int _ _) ?_
        refine rv (v := .fn _ _ _) (v_mv rfl) ?_
        refine r_step rfl (o_callIOk (q := (INH, [])) (vs := [.rsl _ _ _ _ _, .int _ _, .int _ _, .int _ _, .fn _ _ _]) (args := [.rsl (INH, []) _ _ _ _, .int .i64 _, .int .i64 _, .int .i64 _, .fn _ _ _]) (x0 := .osl _ _ _ _) (x1 := .osl _ _ _ _) (res := .tup []) rfl hb180 rfl (by decide) ⟨.inl rfl, .inl rfl, .inl rfl, .inl rfl, .inl rfl, trivial⟩ rfl rfl (ih _ _ _ _ hpt.2.2.1 hpt.1 (by omega) (by omega) hf.2.2.2.2.2.2 hpt.2.2.2.1) (by simp [stays]; omega) rfl rfl rfl (ac_noSh _) (ac_noRef _) (Nat.le_of_ble_eq_true rfl) (by decide) rfl) ?_
        refine r_nil ?_
        refine a_region ?_
        refine rm (.int _ _) ?_
        refine rv (v := .int .i64 (((x.pt (ltc cf)).1 + 1 : Nat) : Int)) ((v_add il il (fun _ => by omega)).cast (int_eq (by omega))) ?_
        refine ra (.int _ _) ?_
        refine r_nil ?_
        refine ⟨(x.left (ltc cf)), ent_look ⟨wr, wr, wr, wr, wr, Weak.of_eq (bool_eq (decide_eq_decide.2 (by simp only [ge_iff_le]; omega))), wr, wr, trivial⟩, hnx.1, hnx.2⟩
       ·
        refine a_seq ?_
        have hll : ¬ (x.pt (ltc cf)).1 - x.a < x.b - (x.pt (ltc cf)).1 := (by simp at ht125; omega)
        have hnx := hP.right hS h12 h0 hpf hts hll
        refine a_region ?_
        refine rm (.int _ _) ?_
        refine rm (.int _ _) ?_
        refine rv (v := .bool _) (v_geq il il) ?_
        refine ra (.bool _) ?_
        refine r_nil ?_
        refine a_seq ?_
        refine a_pre (ent_look (L := [(0, .rsl _ _ _ _ _), (1, .int _ _), (2, .int _ _), (3, .int _ _), (4, .fn _ _ _), (10, .bool _), (11, .bool _), (16, .int _ _), (INH, .osl _ _ _ _)]) ⟨wr, wr, wr, wr, wr, wr, wr, wr, wr, trivial⟩) ?_
        refine a_region ?_
        refine rm (.rsl _ _ _ _ _) ?_
        refine rm (.int _ _) ?_
        refine rv (v := .int .i64 (((x.pt (ltc cf)).1 + 1 : Nat) : Int)) ((v_add il il (fun _ => by omega)).cast (int_eq (by omega))) ?_
        refine rm (.int _ _) ?_
        refine rm (.int _ _) ?_
        refine rv (v := .fn _ _ _) (v_mv rfl) ?_
        refine r_step rfl (o_callIOk (q := (INH, [])) (vs := [.rsl _ _ _ _ _, .int _ _, .int _ _, .int _ _, .fn _ _ _]) (args := [.rsl (INH, []) _ _ _ _, .int .i64 _, .int .i64 _, .int .i64 _, .fn _ _ _]) (x0 := .osl _ _ _ _) (x1 := .osl _ _ _ _) (res := .tup []) rfl hb180 rfl (by decide) ⟨.inl rfl, .inl rfl, .inl rfl, .inl rfl, .inl rfl, trivial⟩ rfl rfl (ih _ _ _ _ hpt.2.2.1 (by omega) (by omega) (by omega) hf.2.2.2.2.2.2 hpt.2.2.2.2) (by simp [stays]; omega) rfl rfl rfl (ac_noSh _) (ac_noRef _) (Nat.le_of_ble_eq_true rfl) (by decide) rfl) ?_
        refine r_nil ?_
        refine a_region ?_
        refine rm (.int _ _) ?_
        refine ra (.int _ _) ?_
        refine r_nil ?_
        refine ⟨(x.right (ltc cf)), ent_look ⟨wr, wr, wr, wr, wr, Weak.of_eq (bool_eq (decide_eq_decide.2 (by simp only [ge_iff_le]; omega))), wr, wr, trivial⟩, hnx.1, hnx.2⟩
theorem pdq_c (f : Nat) (hb : hasBody Tryz.prog f = true) (cf : Int → Int → Int) (hc : ∀ x y, ACall Tryz.prog f [.int .i64 x, .int .i64 y] [] (.int .i64 (cf x y)) []) (hS : SWO (ltc cf)) (n : Nat) (hn : n ≤ 1152921504606846976) (d : Array Int) (a b limit : Nat) (hd : d.size = n) (hab : a ≤ b ∧ b ≤ n ∧ limit ≤ 100) (hB : Below (ltc cf) a b d) :
  ACall Tryz.prog 180 [.rsl (INH, []) 1 0 n none, .int .i64 ((a : Nat) : Int), .int .i64 ((b : Nat) : Int), .int .i64 ((limit : Nat) : Int), .fn f [] []] [.osl 1 (acells d) n none] (.tup []) [.osl 1 (acells (pdq (ltc cf) d a b limit true true)) n none] := by
 have key : ∀ (N : Nat) (d : Array Int) (a b limit : Nat), d.size = n → a ≤ b → b ≤ n → b - a < N → limit ≤ 100 → Below (ltc cf) a b d → ACall Tryz.prog 180 [.rsl (INH, []) 1 0 n none, .int .i64 ((a : Nat) : Int), .int .i64 ((b : Nat) : Int), .int .i64 ((limit : Nat) : Int), .fn f [] []] [.osl 1 (acells d) n none] (.tup []) [.osl 1 (acells (pdq (ltc cf) d a b limit true true)) n none] := by
  intro N
  induction N with
  | zero => intro d a b limit _ _ _ h; omega
  | succ N ih => intro d a b limit h1 h2 h3 h4 h5 h6; exact pdq_step f hb cf hc hS n N hn ih d a b limit h1 ⟨h2, h3, by omega, h5⟩ h6
 exact key (b - a + 1) d a b limit hd hab.1 hab.2.1 (by omega) hab.2.2 hB
theorem sortFunc_c (f : Nat) (hb : hasBody Tryz.prog f = true) (cf : Int → Int → Int) (hc : ∀ x y, ACall Tryz.prog f [.int .i64 x, .int .i64 y] [] (.int .i64 (cf x y)) []) (hS : SWO (ltc cf)) (d : Array Int) (n : Nat) (hd : d.size = n) (hn : n ≤ 1152921504606846976) : ACall Tryz.prog 164 [.rsl (INH, []) 1 0 n none, .fn f [] []] [.osl 1 (acells d) n none] (.tup []) [.osl 1 (acells (Go.Sort.sort (ltc cf) d)) n none] := by
 have hbl : bitsLen n ≤ 61 := (bitsLen_le_iff _ _).2 (by omega)
 refine ACall.intro Tryz.func164 rfl (N := 14) rfl (by decide) (by simp) ?_
 refine aq ?_
 refine rm (.rsl _ _ _ _ _) ?_
 refine rv (v := .int _ _) (v_len_rsl sl25 il) ?_
 refine ra (.int _ _) ?_
 refine r_nil ?_
 refine a_region ?_
 refine rm (.rsl _ _ _ _ _) ?_
 refine rm (.int _ _) ?_
 refine rm (.int _ _) ?_
 refine rv (v := .int .u64 ((n : Nat) : Int)) ((v_conv iss3 uni146 il (fun _ => IntWalk.u64_in _ (by omega))).cast (int_eq rfl)) ?_
 refine rn (v := .int _ _) (q_call (vs := [.int _ _]) (args := [.int .u64 ((_ : Nat) : Int)]) hb142 ⟨il, trivial⟩ rfl (fun hA => len_c n (by omega)) rfl rfl) ?_
 refine rv (v := .fn _ _ _) (v_mv rfl) ?_
 refine r_step rfl (o_callIO (q := (INH, [])) (vs := [.rsl _ _ _ _ _, .int _ _, .int _ _, .int _ _, .fn _ _ _]) (args := [.rsl (INH, []) _ _ _ _, .int .i64 _, .int .i64 _, .int .i64 _, .fn _ _ _]) (x0 := .osl _ _ _ _) (x1 := .osl _ _ _ _) (res := .tup []) rfl hb180 rfl (by decide) ⟨.inl rfl, .inl rfl, .inl rfl, .inl rfl, .inl rfl, trivial⟩ rfl rfl (pdq_c f hb cf hc hS n hn d 0 n (bitsLen n) hd ⟨Nat.zero_le _, Nat.le_refl _, Nat.le_trans hbl (by decide)⟩ (Or.inl rfl)) rfl rfl rfl (ac_noSh _) (ac_noRef _) (Nat.le_of_ble_eq_true rfl) (by decide) rfl) ?_
 refine r_nil ?_
 refine ret0_look Tryz.results164 (by decide) ?_ rfl
 exact Weak.of_eq (osl_eq (by unfold Go.Sort.sort; rw [hd]))
theorem hb143 : hasBody Tryz.prog 143 = true := by kernel_rfl
theorem hb144 : hasBody Tryz.prog 144 = true := by kernel_rfl
theorem hb163 : hasBody Tryz.prog 163 = true := by kernel_rfl
theorem isNaN_c (x : Int) : ACall Tryz.prog 163 [.int .i64 x] [] (.bool false) [] := by
 refine ACall.intro Tryz.func163 rfl (N := 6) rfl (by decide) (by simp) ?_
 refine aq ?_
 refine ra (.bool _) ?_
 refine r_nil ?_
 refine aq ?_
 refine rm (.int _ _) ?_
 refine rm (.int _ _) ?_
 refine rv (v := .bool _) (v_neq il il) ?_
 refine ra (.bool _) ?_
 refine r_nil ?_
 refine a_ret ?_
 refine ret1 Tryz.results163 (by decide) (by decide) (Weak.of_eq (bool_eq ?_)) rfl Leaves.nil
 simp
theorem cmp_c (x y : Int) : ACall Tryz.prog 144 [.int .i64 x, .int .i64 y] [] (.int .i64 (cmpI x y)) [] := by
 refine ACall.intro Tryz.func144 rfl (N := 20) rfl (by decide) (by simp) ?_
 refine aq ?_
 refine ra (.int _ _) ?_
 refine r_nil ?_
 refine aq ?_
 refine rm (.int _ _) ?_
 refine rn (v := .bool _) (q_call (vs := [.int _ _]) (args := [.int .i64 _]) hb163 ⟨il, trivial⟩ rfl (fun hA => isNaN_c _) rfl rfl) ?_
 refine ra (.bool _) ?_
 refine r_nil ?_
 refine aq ?_
 refine rm (.int _ _) ?_
 refine rn (v := .bool _) (q_call (vs := [.int _ _]) (args := [.int .i64 _]) hb163 ⟨il, trivial⟩ rfl (fun hA => isNaN_c _) rfl rfl) ?_
 refine ra (.bool _) ?_
 refine r_nil ?_
 refine a_seq ?_
 refine aq ?_
 refine rm (.bool _) ?_
 refine r_nil ?_
 refine a_cond rfl (fun ht11 => ?_) (fun ht11 => ?_)
 ·
  refine a_seq ?_
  refine aq ?_
  refine rm (.bool _) ?_
  refine r_nil ?_
  refine a_cond rfl (fun ht12 => ?_) (fun ht12 => ?_)
  ·
   refine aq ?_
   refine ra (.int _ _) ?_
   refine r_nil ?_
   refine a_ret ?_
   refine ret1 Tryz.results144 (by decide) (by decide) (Weak.of_eq (int_eq ?_)) rfl Leaves.nil
   exact absurd ht11 (by simp)
  ·
   refine a_skip ?_
   refine aq ?_
   refine ra (.int _ _) ?_
   refine r_nil ?_
   refine a_ret ?_
   refine ret1 Tryz.results144 (by decide) (by decide) (Weak.of_eq (int_eq ?_)) rfl Leaves.nil
   exact absurd ht11 (by simp)
 ·
  refine a_skip ?_
  refine a_seq ?_
  refine aq ?_
  refine rm (.bool _) ?_
  refine r_nil ?_
  refine a_cond rfl (fun ht13 => ?_) (fun ht13 => ?_)
  ·
   refine aq ?_
   refine ra (.int _ _) ?_
   refine r_nil ?_
   refine a_ret ?_
   refine ret1 Tryz.results144 (by decide) (by decide) (Weak.of_eq (int_eq ?_)) rfl Leaves.nil
   exact absurd ht13 (by simp)
  ·
   refine a_skip ?_
   refine a_seq ?_
   refine aq ?_
   refine rm (.int _ _) ?_
   refine rm (.int _ _) ?_
   refine rv (v := .bool _) (v_lss il il) ?_
   refine r_nil ?_
   refine a_cond rfl (fun ht16 => ?_) (fun ht16 => ?_)
   ·
    refine aq ?_
    refine ra (.int _ _) ?_
    refine r_nil ?_
    refine a_ret ?_
    refine ret1 Tryz.results144 (by decide) (by decide) (Weak.of_eq (int_eq ?_)) rfl Leaves.nil
    unfold cmpI; rw [if_pos (by simpa using ht16)]
   ·
    refine a_skip ?_
    refine a_seq ?_
    refine aq ?_
    refine rm (.int _ _) ?_
    refine rm (.int _ _) ?_
    refine rv (v := .bool _) (v_gtr il il) ?_
    refine r_nil ?_
    refine a_cond rfl (fun ht19 => ?_) (fun ht19 => ?_)
    ·
     refine aq ?_
     refine ra (.int _ _) ?_
     refine r_nil ?_
     refine a_ret ?_
     refine ret1 Tryz.results144 (by decide) (by decide) (Weak.of_eq (int_eq ?_)) rfl Leaves.nil
     unfold cmpI; rw [if_neg (by simpa using ht16), if_pos (by simpa using ht19)]
    ·
     refine a_skip ?_
     refine aq ?_
     refine ra (.int _ _) ?_
     refine r_nil ?_
     refine a_ret ?_
     refine ret1 Tryz.results144 (by decide) (by decide) (Weak.of_eq (int_eq ?_)) rfl Leaves.nil
     unfold cmpI; rw [if_neg (by simpa using ht16), if_neg (by simpa using ht19)]
theorem or_c (l : List Int) (hl : (l.length : Int) ≤ 9223372036854775807) : ACall Tryz.prog 143 [.sl (icells l) l.length] [] (.int .i64 (orL l)) [] := by
 refine ACall.intro Tryz.func143 rfl (N := 18) rfl (by decide) (by simp) ?_
 refine aq ?_
 refine ra (.int _ _) ?_
 refine r_nil ?_
 refine aq ?_
 refine ra (.int _ _) ?_
 refine r_nil ?_
 refine a_seq ?_
 refine aq ?_
 refine rm (.sl _ _) ?_
 refine rv (v := .int _ _) (v_len_sl sl25 il) ?_
 refine rm (.int _ _) ?_
 refine r_nil ?_
 refine a_block ?_
 refine a_loop (X := Nat) (fun i => look [(3, .int .i64 0), (6, .sl (icells l) l.length), (7, .int .i64 (l.length : Int)), (8, .int .i64 (i : Int))]) (fun i => i ≤ l.length ∧ orL (l.drop i) = orL l) (fun i => l.length - i) 0 (ent_look ⟨wr, wr, wr, wr, trivial⟩) ⟨Nat.zero_le _, rfl⟩ (fun i hG => ?_)
 obtain ⟨h1, h2⟩ := hG
 refine aq ?_
 refine rv (v := .bool _) (v_lss il il) ?_
 refine r_nil ?_
 refine a_seq ?_
 refine a_cond rfl (fun ht9 => ?_) (fun ht9 => ?_)
 ·
  refine a_skip ?_
  refine a_seq ?_
  refine a_block ?_
  refine a_seq ?_
  have hi : i < l.length := (by simp at ht9; omega)
  refine a_region ?_
  refine rv (v := .pp _ _) (v_indexAddr_sl es25 il il (fun _ => ⟨by omega, by omega, icells_ne hi⟩)) ?_
  refine rv (v := .int .i64 (gd l i)) (v_load_pp ta3 il (fun _ => by rw [Nat.mul_one]; exact icells_get (gd_get hi)) rfl) ?_
  refine ra (.int _ _) ?_
  refine r_nil ?_
  refine aq ?_
  refine rm (.int _ _) ?_
  refine rm (.int _ _) ?_
  refine rv (v := .bool _) (v_neq il il) ?_
  refine r_nil ?_
  refine a_cond rfl (fun ht14 => ?_) (fun ht14 => ?_)
  ·
   refine aq ?_
   refine rm (.int _ _) ?_
   refine ra (.int _ _) ?_
   refine r_nil ?_
   refine a_ret ?_
   refine ret1 Tryz.results143 (by decide) (by decide) (Weak.of_eq (int_eq ?_)) rfl Leaves.nil
   rw [← h2, orL_drop hi, if_pos (by simpa using ht14)]
  ·
   refine a_skip ?_
   refine a_region ?_
   refine rv (v := .int _ _) (v_add il il (fun _ => by omega)) ?_
   refine rm (.int _ _) ?_
   refine r_nil ?_
   refine ⟨i + 1, ent_look ⟨wr, wr, wr, Weak.of_eq (int_eq (by omega)), trivial⟩, ⟨by omega, by rw [← h2, orL_drop hi, if_neg (by simpa using ht14)]⟩, by omega⟩
 ·
  refine a_exit ?_
  refine aq ?_
  refine rm (.int _ _) ?_
  refine ra (.int _ _) ?_
  refine r_nil ?_
  refine a_ret ?_
  refine ret1 Tryz.results143 (by decide) (by decide) (Weak.of_eq (int_eq ?_)) rfl Leaves.nil
  rw [← h2, show l.drop i = [] from List.drop_eq_nil_of_le (by simp at ht9; omega)]; rfl
theorem absA_c (l : Int) : ACall Tryz.prog 119 [.int .i64 l] [] (.int .i64 (absA l)) [] := by
 refine ACall.intro Tryz.func119 rfl (N := 7) rfl (by decide) (by simp) ?_
 refine aq ?_
 refine ra (.int _ _) ?_
 refine r_nil ?_
 refine aq ?_
 refine rm (.int _ _) ?_
 refine rm (.int _ _) ?_
 refine rv (v := .int _ _) (v_negA il) ?_
 refine rv (v := .int _ _) (v_max il il) ?_
 refine ra (.int _ _) ?_
 refine r_nil ?_
 refine a_ret ?_
 refine ret1 Tryz.results119 (by decide) (by decide) (Weak.of_eq (int_eq ?_)) rfl Leaves.nil
 rfl
theorem cmpLit_c (x y : Int) : ACall Tryz.prog 146 [.int .i64 x, .int .i64 y] [] (.int .i64 (cfLit x y)) [] := by
 refine ACall.intro Tryz.func146 rfl (N := 15) rfl (by decide) (by simp) ?_
 refine aq ?_
 refine ra (.int _ _) ?_
 refine r_nil ?_
 refine aq ?_
 refine rm (.int _ _) ?_
 refine rn (v := .int _ _) (q_call (vs := [.int _ _]) (args := [.int .i64 _]) hb119 ⟨il, trivial⟩ rfl (fun hA => absA_c _) rfl rfl) ?_
 refine rm (.int _ _) ?_
 refine rn (v := .int _ _) (q_call (vs := [.int _ _]) (args := [.int .i64 _]) hb119 ⟨il, trivial⟩ rfl (fun hA => absA_c _) rfl rfl) ?_
 refine rn (v := .int _ _) (q_call (vs := [.int _ _, .int _ _]) (args := [.int .i64 _, .int .i64 _]) hb144 ⟨il, il, trivial⟩ rfl (fun hA => cmp_c _ _) rfl rfl) ?_
 refine rm (.int _ _) ?_
 refine rm (.int _ _) ?_
 refine rn (v := .int _ _) (q_call (vs := [.int _ _, .int _ _]) (args := [.int .i64 _, .int .i64 _]) hb144 ⟨il, il, trivial⟩ rfl (fun hA => cmp_c _ _) rfl rfl) ?_
 refine rn (v := .osl 1 (icells [cmpI (absA x) (absA y), cmpI y x]) 2 (some 2)) (q_sliceLit (n := 2) (parts := [(0, .tmp 9), (1, .tmp 12)]) lt25 rfl rfl rfl rfl) ?_
 refine rn (v := .int _ _) (q_call (vs := [.rsl _ _ _ _ _]) (args := [.sl _ _]) hb143 ⟨il, trivial⟩ (l1_eq (sl_sh (ic_pure _))) (fun hA => or_c [cmpI (absA x) (absA y), cmpI y x] (by simp)) rfl rfl) ?_
 refine ra (.int _ _) ?_
 refine r_nil ?_
 refine a_ret ?_
 refine ret1 Tryz.results146 (by decide) (by decide) (Weak.of_eq (int_eq ?_)) rfl Leaves.nil
 rw [cfLit_eq]
theorem compact_c (d : Array Int) (n : Nat) (hd : d.size = n) (hn : n ≤ 1152921504606846976) : ACall Tryz.prog 139 [.rsl (INH, []) 1 0 n none] [.osl 1 (acells d) n none] (.osl 1 (icells (dedN d n)) (dedN d n).length none) [.undef] := by
  refine ACall.intro Tryz.func139 rfl (N := 61) rfl (by decide) (by simp) ?_
  refine aq ?_
  refine ra .nils ?_
  refine r_nil ?_
  refine a_seq ?_
  refine aq ?_
  refine rm (.rsl _ _ _ _ _) ?_
  refine rv (v := .int _ _) (v_len_rsl sl25 il) ?_
  refine rv (v := .bool _) (v_lss il il) ?_
  refine r_nil ?_
  refine a_cond rfl (fun ht8 => ?_) (fun ht8 => ?_)
  ·
    refine a_seq ?_
    have hall := ded_few hd (by simp at ht8; omega)
    refine a_region ?_
    refine rm (.rsl _ _ _ _ _) ?_
    refine ra (.rsl _ _ _ _ _) ?_
    refine r_nil ?_
    refine a_pre (ent_reloc_sl (t := 2) rfl rfl) ?_
    refine a_ret ?_
    refine ret1 Tryz.results139 (by decide) (by decide) (Weak.osl ?_ ?_) rfl (Leaves.one Weak.undef rfl)
    · rw [ded_all hd hall]
    · rw [ded_all_len hd hall]
  ·
    refine a_skip ?_
    refine a_seq ?_
    refine aq ?_
    refine ra (.int _ _) ?_
    refine r_nil ?_
    refine a_block ?_
    refine a_loop (X := Nat) (fun k => look [(0, .rsl (INH, []) 1 0 n none), (3, .int .i64 ((k : Nat) : Int)), (INH, .osl 1 (acells d) n none)]) (fun k => 1 ≤ k ∧ k ≤ n ∧ dedN d k = d.toList.take k) (fun k => n - k) 1 (ent_look ⟨wr, wr, wr, trivial⟩) ⟨Nat.le_refl _, by simp at ht8; omega, ded_one (by simp at ht8; omega)⟩ (fun k hG => ?_)
    obtain ⟨g1, g2, g3⟩ := hG
    refine a_seq ?_
    refine aq ?_
    refine rm (.int _ _) ?_
    refine rm (.rsl _ _ _ _ _) ?_
    refine rv (v := .int _ _) (v_len_rsl sl25 il) ?_
    refine rv (v := .bool _) (v_lss il il) ?_
    refine r_nil ?_
    refine a_cond rfl (fun ht13 => ?_) (fun ht13 => ?_)
    ·
      refine a_skip ?_
      refine a_seq ?_
      refine a_block ?_
      refine a_seq ?_
      have hkn : k < n := (by simp at ht13; omega)
      refine a_region_any mixed (by kernel_rfl) ?_
      refine yv (v := .rsl _ _ _ _ _) (v_move il nf) ?_
      refine yv (v := .int _ _) (v_move il nf) ?_
      refine yv (v := .rp _ _) (v_indexAddr_rsl0 es25 il il (fun _ => by omega)) ?_
      refine yv (v := .int .i64 d[k]!) (v_load_rp1 ta3 il rfl (fun _ => by rw [Nat.mul_one]; exact acells_get (by omega)) rfl) ?_
      refine yv (v := .rsl _ _ _ _ _) (v_move il nf) ?_
      refine yv (v := .int _ _) (v_move il nf) ?_
      refine yv (v := .int _ _) (v_sub il il (fun _ => by omega)) ?_
      refine yv (v := .rp _ _) (v_indexAddr_rsl0 es25 il il (fun _ => by omega)) ?_
      refine yv (v := .int .i64 d[k - 1]!) (v_load_rp1 ta3 il rfl (fun _ => by rw [show ((k : Int) - 1).toNat = k - 1 by omega, Nat.mul_one]; exact acells_get (by omega)) rfl) ?_
      refine yv (v := .bool _) (v_eql il il) ?_
      refine y_nil ?_
      refine a_cond rfl (fun ht25 => ?_) (fun ht25 => ?_)
      ·
        refine aq ?_
        refine rm (.rsl _ _ _ _ _) ?_
        refine rm (.int _ _) ?_
        refine rv (v := .rsl (INH, []) 1 (0 + k * 1) (n - k) none) ((v_slice_rsl (l := k) (h := n) es25 il (.inr ⟨_, _, rfl, il⟩) (.inl ⟨rfl, rfl⟩) (fun _ => by omega)).cast (rfl)) ?_
        refine ra (.rsl _ _ _ _ _) ?_
        refine r_nil ?_
        refine a_seq ?_
        refine aq ?_
        refine ra (.int _ _) ?_
        refine r_nil ?_
        refine a_block ?_
        refine a_loop (X := (Nat × Nat × Array Int)) (fun x => look [(0, .rsl (INH, []) 1 0 n none), (3, .int .i64 ((x.2.1 : Nat) : Int)), (4, .rsl (INH, []) 1 (0 + k * 1) (n - k) none), (5, .int .i64 ((x.1 : Nat) : Int)), (INH, .osl 1 (acells x.2.2) n none)]) (fun x => Cpt d n k x.1 x.2.1 x.2.2) (fun x => n - (k + x.1)) (1, k, d) (ent_look ⟨wr, wr, wr, wr, wr, trivial⟩) (Cpt.first hd (by omega) (by simp at ht13; omega) g3 (by simpa using ht25)) (fun x hG => ?_)
        have hC := hG
        obtain ⟨c1, c2, c3, c4, c5, c6⟩ := hG
        refine a_seq ?_
        refine aq ?_
        refine rm (.int _ _) ?_
        refine rm (.rsl _ _ _ _ _) ?_
        refine rv (v := .int _ _) (v_len_rsl sl25 il) ?_
        refine rv (v := .bool _) (v_lss il il) ?_
        refine r_nil ?_
        refine a_cond rfl (fun ht32 => ?_) (fun ht32 => ?_)
        ·
          refine a_skip ?_
          refine a_seq ?_
          refine a_block ?_
          refine a_seq ?_
          have hx1 : x.1 < n - k := (by simp at ht32; omega)
          refine a_region_any mixed (by kernel_rfl) ?_
          refine yv (v := .rsl _ _ _ _ _) (v_move il nf) ?_
          refine yv (v := .int _ _) (v_move il nf) ?_
          refine yv (v := .rp _ _) (v_indexAddr_rsl es25 il il (fun _ => by omega)) ?_
          refine yv (v := .int .i64 x.2.2[k + x.1]!) (v_load_rp1 ta3 il rfl (fun _ => by rw [show 0 + k * 1 + (x.1 : Int).toNat * 1 = k + x.1 by omega]; exact acells_get (by omega)) rfl) ?_
          refine yv (v := .rsl _ _ _ _ _) (v_move il nf) ?_
          refine yv (v := .int _ _) (v_move il nf) ?_
          refine yv (v := .int _ _) (v_sub il il (fun _ => by omega)) ?_
          refine yv (v := .rp _ _) (v_indexAddr_rsl es25 il il (fun _ => by omega)) ?_
          refine yv (v := .int .i64 x.2.2[k + x.1 - 1]!) (v_load_rp1 ta3 il rfl (fun _ => by rw [show 0 + k * 1 + ((x.1 : Int) - 1).toNat * 1 = k + x.1 - 1 by omega]; exact acells_get (by omega)) rfl) ?_
          refine yv (v := .bool _) (v_neq il il) ?_
          refine y_nil ?_
          refine a_cond rfl (fun ht44 => ?_) (fun ht44 => ?_)
          ·
            refine a_seq ?_
            have hne : ¬ x.2.2[k + x.1]! = x.2.2[k + x.1 - 1]! := (by simpa using ht44)
            have hpl : x.2.1 * 1 + 1 ≤ (acells x.2.2).length := (by rw [acells_length]; omega)
            have hset : (acells x.2.2).set (x.2.1 * 1) (.int .i64 x.2.2[k + x.1]!) = acells (x.2.2.set! x.2.1 x.2.2[k + x.1]!) := (by rw [Nat.mul_one, acells_set])
            refine a_region ?_
            refine rm (.rsl _ _ _ _ _) ?_
            refine rm (.int _ _) ?_
            refine rm (.rsl _ _ _ _ _) ?_
            refine rm (.int _ _) ?_
            refine rv (v := .rp _ _) (v_indexAddr_rsl es25 il il (fun _ => by omega)) ?_
            refine rv (v := .int .i64 x.2.2[k + x.1]!) (v_load_rp1 ta3 il rfl (fun _ => by rw [show 0 + k * 1 + (x.1 : Int).toNat * 1 = k + x.1 by omega]; exact acells_get (by omega)) rfl) ?_
            refine rv (v := .rp _ _) (v_indexAddr_rsl0 es25 il il (fun _ => by omega)) ?_
            refine r_step rfl (o_store (v := .int _ _) (y' := .osl _ _ _ _) rfl rfl ta3 il il rfl rfl rfl rfl rfl rfl hpl (by decide) rfl (congrArg (fun c => AV.osl 1 c n none) hset)) ?_
            refine r_nil ?_
            refine a_region ?_
            refine rm (.int _ _) ?_
            refine rv (v := .int _ _) (v_add il il (fun _ => by omega)) ?_
            refine ra (.int _ _) ?_
            refine r_nil ?_
            refine a_pre (ent_look (L := [(0, .rsl _ _ _ _ _), (3, .int _ _), (4, .rsl _ _ _ _ _), (5, .int _ _), (INH, .osl _ _ _ _)]) ⟨wr, wr, wr, wr, wr, trivial⟩) ?_
            refine a_region ?_
            refine rm (.int _ _) ?_
            refine rv (v := .int _ _) (v_add il il (fun _ => by omega)) ?_
            refine ra (.int _ _) ?_
            refine r_nil ?_
            refine ⟨(x.1 + 1, x.2.1 + 1, x.2.2.set! x.2.1 x.2.2[k + x.1]!), ent_look ⟨wr, Weak.of_eq (int_eq (by dsimp only; omega)), wr, Weak.of_eq (int_eq (by dsimp only; omega)), wr, trivial⟩, hC.new (by omega) hne, by dsimp only; omega⟩
          ·
            refine a_skip ?_
            refine a_region ?_
            refine rm (.int _ _) ?_
            refine rv (v := .int _ _) (v_add il il (fun _ => by omega)) ?_
            refine ra (.int _ _) ?_
            refine r_nil ?_
            refine ⟨(x.1 + 1, x.2.1, x.2.2), ent_look ⟨wr, wr, wr, Weak.of_eq (int_eq (by dsimp only; omega)), wr, trivial⟩, hC.same (by omega) (by simpa using ht44), by dsimp only; omega⟩
        ·
          refine a_exit ?_
          refine a_seq ?_
          have hend : k + x.1 = n := (by simp at ht32; omega)
          have hdn := hC.done hend
          refine a_region ?_
          refine rm (.rsl _ _ _ _ _) ?_
          refine rm (.int _ _) ?_
          refine rv (v := .rsl (INH, []) 1 (0 + x.2.1 * 1) (n - x.2.1) none) ((v_slice_rsl (l := x.2.1) (h := n) es25 il (.inr ⟨_, _, rfl, il⟩) (.inl ⟨rfl, rfl⟩) (fun _ => by omega)).cast (rfl)) ?_
          refine r_step rfl (o_clear rfl rfl us25 zc3 rfl (.inl rfl) rfl (by rw [acells_length]; omega) rfl rfl) ?_
          refine r_nil ?_
          refine aq ?_
          refine rm (.rsl _ _ _ _ _) ?_
          refine rm (.int _ _) ?_
          refine rv (v := .rsl (INH, []) 1 0 x.2.1 none) ((v_slice_rsl (l := 0) (h := x.2.1) es25 il (.inl ⟨rfl, rfl⟩) (.inr ⟨_, _, rfl, il⟩) (fun _ => by omega)).cast (rfl)) ?_
          refine ra (.rsl _ _ _ _ _) ?_
          refine r_nil ?_
          refine a_pre (ent_reloc_sl (t := 2) rfl rfl) ?_
          refine a_ret ?_
          refine ret1 Tryz.results139 (by decide) (by decide) (Weak.osl_take (ds := List.replicate (n - x.2.1) (.int .i64 0)) ?_ ?_) rfl (Leaves.one Weak.undef rfl)
          · exact hdn.1
          · exact hdn.2
      ·
        refine a_skip ?_
        refine a_region ?_
        refine rm (.int _ _) ?_
        refine rv (v := .int _ _) (v_add il il (fun _ => by omega)) ?_
        refine ra (.int _ _) ?_
        refine r_nil ?_
        refine ⟨k + 1, ent_look ⟨wr, Weak.of_eq (int_eq (by omega)), wr, trivial⟩, ⟨by omega, by omega, ded_grow (by omega) g3 (by simp at ht25; exact fun h => ht25 h.2)⟩, by omega⟩
    ·
      refine a_exit ?_
      refine a_seq ?_
      have hkn : k = n := (by simp at ht13; omega)
      refine a_region ?_
      refine rm (.rsl _ _ _ _ _) ?_
      refine ra (.rsl _ _ _ _ _) ?_
      refine r_nil ?_
      refine a_pre (ent_reloc_sl (t := 2) rfl rfl) ?_
      refine a_ret ?_
      refine ret1 Tryz.results139 (by decide) (by decide) (Weak.osl ?_ ?_) rfl (Leaves.one Weak.undef rfl)
      · subst hkn; rw [ded_all hd g3]
      · subst hkn; rw [ded_all_len hd g3]
theorem hb139 : hasBody Tryz.prog 139 = true := by kernel_rfl
theorem hb146 : hasBody Tryz.prog 146 = true := by kernel_rfl
theorem hb164 : hasBody Tryz.prog 164 = true := by kernel_rfl
theorem hb43 : hasBody Tryz.prog 43 = true := by kernel_rfl
theorem clause_c (l : List Int) (hn : l.length ≤ 1048576) : ACall Tryz.prog 148 [.sl (icells l) l.length] [] (.tup [.osl 1 (icells ((clR l).getD [])) ((clR l).getD []).length none, .bool (clR l).isSome]) [] := by
 refine ACall.intro Tryz.func148 rfl (N := 30) rfl (by decide) (by simp) ?_
 refine aq ?_
 refine ra .nils ?_
 refine ra (.bool _) ?_
 refine r_nil ?_
 refine aq ?_
 refine rm (.sl _ _) ?_
 refine rn (v := .osl _ _ _ _) (q_call (vs := [.sl _ _]) (args := [.sl _ _]) hb43 ⟨il, trivial⟩ rfl (fun hA => cloneI_c _ _ ⟨rfl, by omega⟩) (ic_noSh _) (ic_noRef _)) ?_
 refine ra (.rsl _ _ _ _ _) ?_
 refine r_pre (ent_reloc_sl (t := 4) rfl rfl) ?_
 refine r_nil ?_
 refine aq ?_
 refine rm (.rsl _ _ _ _ _) ?_
 refine r_step rfl (o_callIO (q := (4, [])) (vs := [.rsl _ _ _ _ _, .fn _ _ _]) (args := [.rsl (INH, []) _ _ _ _, .fn _ _ _]) (x0 := .osl _ _ _ _) (x1 := .osl _ _ _ _) (res := .tup []) rfl hb164 rfl (by decide) ⟨.inl rfl, .inl rfl, trivial⟩ rfl rfl (sortFunc_c 146 hb146 cfLit cmpLit_c cfLit_swo l.toArray l.length (by simp) (by omega)) rfl rfl rfl (ac_noSh _) (ac_noRef _) (Nat.le_of_ble_eq_true rfl) (by decide) rfl) ?_
 refine r_nil ?_
 refine aq ?_
 refine rm (.rsl _ _ _ _ _) ?_
 refine r_step rfl (o_callIO (q := (4, [])) (vs := [.rsl _ _ _ _ _]) (args := [.rsl (INH, []) _ _ _ _]) (x0 := .osl _ _ _ _) (x1 := .undef) (res := .osl _ _ _ _) rfl hb139 rfl (by decide) ⟨.inl rfl, trivial⟩ rfl rfl (compact_c _ l.length (sort_size l) (by omega)) rfl (ic_noSh _) (ic_noRef _) rfl rfl (Nat.le_of_ble_eq_true rfl) (by decide) rfl) ?_
 refine ra (.rsl _ _ _ _ _) ?_
 refine r_pre (ent_reloc_sl (t := 4) rfl rfl) ?_
 refine r_nil ?_
 refine a_seq ?_
 refine aq ?_
 refine ra (.int _ _) ?_
 refine r_nil ?_
 refine a_block ?_
 refine a_loop (X := Nat) (fun i => look [(4, .osl 1 (icells (dsrt l)) (dsrt l).length none), (5, .int .i64 ((i : Nat) : Int))]) (fun i => 1 ≤ i ∧ (∀ j, 1 ≤ j → j < i → oppB (dsrt l) j = false)) (fun i => (dsrt l).length - i) 1 (ent_look ⟨Weak.osl rfl rfl, wr, trivial⟩) ⟨Nat.le_refl _, fun j h1 h2 => by omega⟩ (fun i hG => ?_)
 obtain ⟨g1, g2⟩ := hG
 have hdl : (dsrt l).length ≤ l.length := dedN_le _ _
 refine a_seq ?_
 refine aq ?_
 refine rm (.int _ _) ?_
 refine rm (.rsl _ _ _ _ _) ?_
 refine rv (v := .int _ _) (v_len_rsl sl25 il) ?_
 refine rv (v := .bool _) (v_lss il il) ?_
 refine r_nil ?_
 refine a_cond rfl (fun ht15 => ?_) (fun ht15 => ?_)
 ·
  refine a_skip ?_
  refine a_seq ?_
  refine a_block ?_
  refine a_seq ?_
  have hi : i < (dsrt l).length := (by simp at ht15; omega)
  refine a_region_any mixed (by kernel_rfl) ?_
  refine yv (v := .rsl _ _ _ _ _) (v_move il nf) ?_
  refine yv (v := .int _ _) (v_move il nf) ?_
  refine yv (v := .rp _ _) (v_indexAddr_rsl0 es25 il il (fun _ => by omega)) ?_
  refine yv (v := .int .i64 (gd (dsrt l) i)) (v_load_rp1 ta3 il rfl (fun _ => by rw [Nat.mul_one]; exact icells_get (gd_get (by omega))) rfl) ?_
  refine yv (v := .rsl _ _ _ _ _) (v_move il nf) ?_
  refine yv (v := .int _ _) (v_move il nf) ?_
  refine yv (v := .int _ _) (v_sub il il (fun _ => by omega)) ?_
  refine yv (v := .rp _ _) (v_indexAddr_rsl0 es25 il il (fun _ => by omega)) ?_
  refine yv (v := .int .i64 (gd (dsrt l) (i - 1))) (v_load_rp1 ta3 il rfl (fun _ => by rw [show ((i : Int) - 1).toNat = i - 1 by omega, Nat.mul_one]; exact icells_get (gd_get (by omega))) rfl) ?_
  refine yv (v := .int _ _) (v_negA il) ?_
  refine yv (v := .bool _) (v_eql il il) ?_
  refine y_nil ?_
  refine a_cond rfl (fun ht28 => ?_) (fun ht28 => ?_)
  ·
   refine a_seq ?_
   have hfin : clR l = none := clR_none hi g1 (by simpa [oppB] using ht28)
   refine a_region ?_
   refine ra .nils ?_
   refine ra (.bool _) ?_
   refine r_nil ?_
   refine a_pre (ent_nil (t := 2) (sz := 1) (cap := none) (.inl rfl) (fun _ h => by cases h)) ?_
   refine a_ret ?_
   refine retL (rs := [.tmp 2, .tmp 3]) [(2, .osl _ _ _ none), (3, _)] ⟨Weak.osl rfl rfl, wr, trivial⟩ rfl Tryz.results148 (by decide) ⟨by decide, by decide, rfl⟩ (by decide) (by decide) (l2_eq (osl_eq2 ?_ ?_) (bool_eq ?_)) (by simp [refsL, refs])
   all_goals simp [hfin, icells]
  ·
   refine a_skip ?_
   refine a_region ?_
   refine rm (.int _ _) ?_
   refine rv (v := .int _ _) (v_add il il (fun _ => by omega)) ?_
   refine ra (.int _ _) ?_
   refine r_nil ?_
   refine ⟨i + 1, ent_look ⟨wr, Weak.of_eq (int_eq (by omega)), trivial⟩, ⟨by omega, fun j h1 h2 => by rcases Nat.lt_or_ge j i with h | h; exact g2 j h1 h; (obtain rfl : j = i := by omega); simpa [oppB] using ht28⟩, by omega⟩
 ·
  refine a_exit ?_
  refine a_seq ?_
  have hfin : clR l = some (dsrt l) := clR_some (fun j h1 h2 => g2 j h1 (by simp at ht15; omega))
  refine a_region ?_
  refine rm (.rsl _ _ _ _ _) ?_
  refine ra (.rsl _ _ _ _ _) ?_
  refine r_pre (ent_reloc_sl (t := 2) rfl rfl) ?_
  refine ra (.bool _) ?_
  refine r_nil ?_
  refine a_ret ?_
  refine retL (rs := [.tmp 2, .tmp 3]) [(2, .osl _ _ _ none), (3, _)] ⟨Weak.osl rfl rfl, wr, trivial⟩ rfl Tryz.results148 (by decide) ⟨by decide, by decide, rfl⟩ (by decide) (by decide) (l2_eq (osl_eq2 ?_ ?_) (bool_eq ?_)) (by simp [refsL, refs])
  all_goals simp [hfin]
theorem hb100 : hasBody Tryz.prog 100 = true := by kernel_rfl
theorem hb32 : hasBody Tryz.prog 32 = true := by kernel_rfl
theorem has_c (c : List Int) (n : Nat) (l : Int) (hl : c.length = n ∧ n ≤ 9223372036854775807) : ACall Tryz.prog 100 [.sl (icells c) n, .int .i64 l] [] (.bool (decide (l ∈ c))) [] := by
  refine ACall.intro Tryz.func100 rfl (N := 18) rfl (by decide) (by simp) ?_
  refine aq ?_
  refine ra (.bool _) ?_
  refine r_nil ?_
  refine a_seq ?_
  refine aq ?_
  refine ra (.int _ _) ?_
  refine r_nil ?_
  refine a_block ?_
  refine a_loop (X := Nat) (fun i => look [(0, .sl (icells c) n), (1, .int .i64 l), (5, .int .i64 ((i : Nat) : Int))]) (fun i => i ≤ n ∧ ∀ j, j < i → gd c j ≠ l) (fun i => n - i) 0 (ent_look ⟨wr, wr, wr, trivial⟩) ⟨Nat.zero_le _, fun j h => by omega⟩ (fun i hG => ?_)
  obtain ⟨g1, g2⟩ := hG
  refine a_seq ?_
  refine aq ?_
  refine rm (.int _ _) ?_
  refine rm (.sl _ _) ?_
  refine rv (v := .int _ _) (v_len_sl sl25 il) ?_
  refine rv (v := .bool _) (v_lss il il) ?_
  refine r_nil ?_
  refine a_cond rfl (fun ht9 => ?_) (fun ht9 => ?_)
  ·
    refine a_skip ?_
    refine a_seq ?_
    refine a_block ?_
    refine a_seq ?_
    have hi : i < c.length := (by simp at ht9; omega)
    refine a_region ?_
    refine rm (.sl _ _) ?_
    refine rm (.int _ _) ?_
    refine rv (v := .pp _ _) (v_indexAddr_sl es25 il il (fun _ => ⟨by omega, by omega, icells_ne hi⟩)) ?_
    refine rv (v := .int .i64 (gd c i)) (v_load_pp ta3 il (fun _ => by rw [Nat.mul_one]; exact icells_get (gd_get hi)) rfl) ?_
    refine rm (.int _ _) ?_
    refine rv (v := .bool _) (v_eql il il) ?_
    refine r_nil ?_
    refine a_cond rfl (fun ht17 => ?_) (fun ht17 => ?_)
    ·
      refine aq ?_
      refine ra (.bool _) ?_
      refine r_nil ?_
      refine a_ret ?_
      refine ret1 Tryz.results100 (by decide) (by decide) (Weak.of_eq (bool_eq ?_)) rfl Leaves.nil
      rw [decide_eq_true]; rw [← of_decide_eq_true ht17]; exact gd_mem hi
    ·
      refine a_skip ?_
      refine a_region ?_
      refine rm (.int _ _) ?_
      refine rv (v := .int _ _) (v_add il il (fun _ => by omega)) ?_
      refine ra (.int _ _) ?_
      refine r_nil ?_
      refine ⟨i + 1, ent_look ⟨wr, wr, Weak.of_eq (int_eq (by omega)), trivial⟩, ⟨by omega, fun j h1 => by rcases Nat.lt_or_ge j i with h | h; exact g2 j h; (obtain rfl : j = i := by omega); simpa using ht17⟩, by omega⟩
  ·
    refine a_exit ?_
    refine aq ?_
    refine ra (.bool _) ?_
    refine r_nil ?_
    refine a_ret ?_
    refine ret1 Tryz.results100 (by decide) (by decide) (Weak.of_eq (bool_eq ?_)) rfl Leaves.nil
    simp; intro h; obtain ⟨j, hj, hx⟩ := mem_gd h; exact g2 j (by simp at ht9; omega) hx
theorem has2_c (c : List Int) (n : Nat) (l : Int) (hl : c.length = n ∧ n ≤ 9223372036854775807) : ACall Tryz.prog 50 [.sl (icells c) n, .int .i64 l] [] (.bool (decide (l ∈ c))) [] := by
  refine ACall.intro Tryz.func50 rfl (N := 8) rfl (by decide) (by simp) ?_
  refine aq ?_
  refine ra (.bool _) ?_
  refine r_nil ?_
  refine aq ?_
  refine rm (.sl _ _) ?_
  refine rm (.int _ _) ?_
  refine rn (v := .bool _) (q_call (vs := [.sl _ _, .int _ _]) (args := [.sl _ _, .int .i64 _]) hb100 ⟨il, il, trivial⟩ rfl (fun hA => has_c _ _ _ hl) rfl rfl) ?_
  refine ra (.bool _) ?_
  refine r_nil ?_
  refine a_ret ?_
  refine ret1 Tryz.results50 (by decide) (by decide) (Weak.of_eq (bool_eq ?_)) rfl Leaves.nil
  rfl
theorem put_c (c : List Int) (n : Nat) (l : Int) (hl : c.length = n ∧ n ≤ 1048576) (hs : SmI c) (hb : -4611686018427387904 ≤ l ∧ l ≤ 4611686018427387904) : ACall Tryz.prog 78 [.sl (icells c) n, .int .i64 l] [] (.osl 1 (icells (putL c l)) (n + 1) none) [] := by
  refine ACall.intro Tryz.func78 rfl (N := 33) rfl (by decide) (by simp) ?_
  refine aq ?_
  refine ra .nils ?_
  refine r_nil ?_
  refine aq ?_
  refine ra (.int _ _) ?_
  refine r_nil ?_
  refine a_seq ?_
  refine a_block ?_
  refine a_loop (X := Nat) (fun i => look [(0, .sl (icells c) n), (1, .int .i64 l), (5, .int .i64 ((i : Nat) : Int))]) (fun i => i ≤ n ∧ c.take i ++ putL (c.drop i) l = putL c l) (fun i => n - i) 0 (ent_look ⟨wr, wr, wr, trivial⟩) ⟨Nat.zero_le _, rfl⟩ (fun i hG => ?_)
  obtain ⟨g1, g2⟩ := hG
  have hsi := hs i
  refine a_seq ?_
  refine aq ?_
  refine rm (.int _ _) ?_
  refine rm (.sl _ _) ?_
  refine rv (v := .int _ _) (v_len_sl sl25 il) ?_
  refine rv (v := .bool _) (v_lss il il) ?_
  refine rm (.bool _) ?_
  refine rg (v := .sl _ _) (v_move il nf) ?_
  refine rg (v := .int _ _) (v_move il nf) ?_
  refine r_gval (v := .pp _ _) (v_indexAddr_sl es25 (.inr ⟨_, rfl, fun h => h⟩) (.inr ⟨_, rfl, fun h => h⟩) (fun hA => by simp at hA; exact ⟨by omega, by omega, icells_ne (show i < c.length by omega)⟩)) rfl rfl rfl (by decide) (.inl ⟨_, rfl, rfl⟩) rfl (by decide) ?_
  refine r_gval (v := .int .i64 (gd c i)) (v_load_pp ta3 (.inr ⟨_, rfl, fun h => h⟩) (fun hA => by simp at hA; rw [Nat.mul_one]; exact icells_get (gd_get (by omega))) rfl) rfl rfl rfl (by decide) (.inl ⟨_, rfl, rfl⟩) rfl (by decide) ?_
  refine r_guard (v := .int _ _) (q_call (vs := [.int _ _]) (args := [.int .i64 _]) hb76 ⟨.inr ⟨_, rfl, fun h => h⟩, trivial⟩ rfl (fun hA => l2Var_c _ (by omega)) rfl rfl) rfl rfl rfl (by decide) (.inl ⟨_, rfl, rfl⟩) rfl (by decide) ?_
  refine rg (v := .int _ _) (v_move il nf) ?_
  refine r_guard (v := .int _ _) (q_call (vs := [.int _ _]) (args := [.int .i64 _]) hb76 ⟨.inr ⟨_, rfl, fun h => h⟩, trivial⟩ rfl (fun hA => l2Var_c _ (by omega)) rfl rfl) rfl rfl rfl (by decide) (.inl ⟨_, rfl, rfl⟩) rfl (by decide) ?_
  refine r_gval (v := .bool _) (v_lss (.inr ⟨_, rfl, fun h => h⟩) (.inr ⟨_, rfl, fun h => h⟩)) rfl rfl rfl (by decide) (.inl ⟨_, rfl, rfl⟩) rfl (by decide) ?_
  refine rv (v := .bool _) (v_pick (.inl rfl) (.inr ⟨_, rfl, fun h h2 => by simp_all⟩) (.inl rfl)) ?_
  refine r_nil ?_
  refine a_cond rfl (fun ht19 => ?_) (fun ht19 => ?_)
  ·
    refine a_skip ?_
    refine a_block ?_
    refine a_region ?_
    refine rm (.int _ _) ?_
    refine rv (v := .int _ _) (v_add il il (fun _ => by omega)) ?_
    refine ra (.int _ _) ?_
    refine r_nil ?_
    refine ⟨i + 1, ent_look ⟨wr, wr, Weak.of_eq (int_eq (by omega)), trivial⟩, ⟨by simp at ht19; omega, by simp at ht19; rw [put_more (by omega) ht19.2, g2]⟩, by simp at ht19; omega⟩
  ·
    refine a_exit ?_
    refine a_seq ?_
    have hst : putL (c.drop i) l = l :: c.drop i := put_stop (fun h => by simp at ht19; exact Int.not_lt.2 (ht19 (by omega)))
    refine a_region_x [[(22, true)], [(23, true)], [(24, true)], [(25, true)], [(26, true)], [(27, true)], [(25, false), (28, true)], [(29, true)], [(30, true)], [(31, true)], [(28, false), (32, true)], [(4, true)]] mixed (by kernel_rfl) ?_
    refine x_val (v := .sl _ _) (v_move il nf) rfl rfl (by decide) rfl (by kernel_rfl) ?_
    refine x_val (v := .int _ _) (v_move il nf) rfl rfl (by decide) rfl (by kernel_rfl) ?_
    refine x_val (v := .sl (icells (c.take i)) i) ((v_slice_sl (l := 0) (h := i) es25 il (.inl ⟨rfl, rfl⟩) (.inr ⟨_, _, rfl, il⟩) (fun _ => by omega)).cast (sl_eq2 (by simp [icells]) rfl)) rfl rfl (by decide) rfl (by kernel_rfl) ?_
    refine x_new (v := .osl _ _ _ _) (q_call (vs := [.sl _ _]) (args := [.sl _ _]) hb32 ⟨il, trivial⟩ rfl (fun hA => l1Own_c (c.take i) i ⟨by rw [List.length_take]; omega, by omega⟩) (ic_noSh _) (ic_noRef _)) rfl rfl (by decide) rfl (by kernel_rfl) ?_
    refine x_val (v := .int _ _) (v_move il nf) rfl rfl (by decide) rfl (by kernel_rfl) ?_
    refine x_new (v := .osl 1 (icells [l]) 1 (some 1)) (q_sliceLit (n := 1) (parts := [(0, .tmp 26)]) lt25 rfl rfl rfl rfl) rfl rfl (by decide) rfl (by kernel_rfl) ?_
    refine x_append rfl rfl ap25 rfl (by decide) (by decide) (by decide) rfl (src_lit (.inl rfl) rfl rfl (ic_pureL _)) (ic_cell _) (by rw [icells_length, List.length_take]; omega) (by omega) rfl (by kernel_rfl) ?_
    refine x_val (v := .sl _ _) (v_move il nf) rfl rfl (by decide) rfl (by kernel_rfl) ?_
    refine x_val (v := .int _ _) (v_move il nf) rfl rfl (by decide) rfl (by kernel_rfl) ?_
    refine x_val (v := .sl (icells (c.drop i)) (n - i)) ((v_slice_sl (l := i) (h := n) es25 il (.inr ⟨_, _, rfl, il⟩) (.inl ⟨rfl, rfl⟩) (fun _ => by omega)).cast (sl_eq2 (by rw [Nat.mul_one, Nat.mul_one, icells_drop, List.take_of_length_le (by rw [icells_length, List.length_drop]; omega)]) rfl)) rfl rfl (by decide) rfl (by kernel_rfl) ?_
    refine x_append rfl rfl ap25 rfl (by decide) (by decide) (by decide) rfl (src_sl (.inl rfl) (fun _ => by rw [icells_length, List.length_drop]; omega) (ic_pureL _)) (ic_cell _) (by rw [List.length_append, icells_length, icells_length, List.length_take]; simp; omega) (by omega) rfl (by kernel_rfl) ?_
    refine x_val (v := .rsl _ _ _ _ _) (v_assign il nf) rfl rfl (by decide) rfl (by kernel_rfl) ?_
    refine x_nil ?_
    refine a_pre (ent_reloc_sl (t := 4) rfl rfl) ?_
    refine a_ret ?_
    refine ret1 Tryz.results78 (by decide) (by decide) (Weak.osl ?_ ?_) rfl Leaves.nil
    · rw [← g2, hst]; simp [icells]
    · omega
theorem hb147 : hasBody Tryz.prog 147 = true := by kernel_rfl
theorem del_c (f : Nat) (caps : List AV) (hf : hasBody Tryz.prog f = true) (hcap : capOk caps = true) (xs : List Int) (n : Nat) (p : Int → Bool) (hl : xs.length = n ∧ n ≤ 9223372036854775807) (hc : ∀ i, i < n → ACall Tryz.prog f (.int .i64 (gd xs i) :: caps) [] (.bool (p (gd xs i))) []) : ACall Tryz.prog 126 [.rsl (INH, []) 1 0 n none, .fn f [] caps] [.osl 1 (icells xs) n none] (.osl 1 (icells (xs.filter fun x => !p x)) (xs.filter fun x => !p x).length none) [.undef] := by
  obtain ⟨rfl, hn⟩ := hl
  refine ACall.intro Tryz.func126 rfl (N := 42) rfl (by decide) (by simp) ?_
  refine aq ?_
  refine ra .nils ?_
  refine r_nil ?_
  refine aq ?_
  refine rm (.rsl _ _ _ _ _) ?_
  refine rv (v := .fn _ _ _) (v_mv rfl) ?_
  refine rn (v := .int _ _) (q_call (vs := [.rsl _ _ _ _ _, .fn _ _ _]) (args := [.sl _ _, .fn _ _ _]) hb147 ⟨il, il, trivial⟩ (l2_eq (sl_sh (ic_pure _)) (snap_fn hcap)) (fun hA => idxI_c f caps hf hcap xs (fun i => p (gd xs i)) (by omega) (fun i hi => hc i hi)) rfl rfl) ?_
  refine ra (.int _ _) ?_
  refine r_nil ?_
  refine a_seq ?_
  refine aq ?_
  refine rm (.int _ _) ?_
  refine rv (v := .bool _) (v_eql il il) ?_
  refine r_nil ?_
  refine a_cond rfl (fun ht12 => ?_) (fun ht12 => ?_)
  ·
    refine a_seq ?_
    have hnone := dlt_none (xs := xs) rfl (of_decide_eq_true ht12)
    refine a_region ?_
    refine rm (.rsl _ _ _ _ _) ?_
    refine ra (.rsl _ _ _ _ _) ?_
    refine r_nil ?_
    refine a_pre (ent_reloc_sl (t := 4) rfl rfl) ?_
    refine a_ret ?_
    refine ret1 Tryz.results126 (by decide) (by decide) (Weak.osl ?_ ?_) rfl (Leaves.one Weak.undef rfl)
    · rw [hnone]
    · rw [hnone]
  ·
    refine a_skip ?_
    refine a_seq ?_
    refine a_seq ?_
    obtain ⟨i0, hi0, e0, p0, n0⟩ := fidx_spec (of_decide_eq_false ht12)
    refine a_region ?_
    refine rm (.int _ _) ?_
    refine rv (v := .int _ _) (v_add il il (fun _ => by omega)) ?_
    refine ra (.int _ _) ?_
    refine r_nil ?_
    refine a_block ?_
    refine a_loop (X := (Nat × Nat × List Int)) (fun x => look [(0, .rsl (INH, []) 1 0 xs.length none), (1, .fn f [] caps), (5, .int .i64 ((x.2.1 : Nat) : Int)), (6, .int .i64 ((x.1 : Nat) : Int)), (INH, .osl 1 (icells x.2.2) xs.length none)]) (fun x => Dlt p xs x.1 x.2.1 x.2.2) (fun x => xs.length - x.1) (i0 + 1, i0, xs) (ent_look ⟨wr, (Weak.of_eq (purge_fn hcap)), Weak.of_eq (int_eq e0), Weak.of_eq (int_eq (by rw [e0]; rfl)), wr, trivial⟩) (Dlt.first hi0 n0 p0) (fun x hG => ?_)
    have hD := hG
    obtain ⟨d1, d2, d3, d4, d5⟩ := hG
    refine a_seq ?_
    refine aq ?_
    refine rm (.int _ _) ?_
    refine rm (.rsl _ _ _ _ _) ?_
    refine rv (v := .int _ _) (v_len_rsl sl25 il) ?_
    refine rv (v := .bool _) (v_lss il il) ?_
    refine r_nil ?_
    refine a_cond rfl (fun ht19 => ?_) (fun ht19 => ?_)
    ·
      refine a_skip ?_
      refine a_seq ?_
      refine a_block ?_
      refine a_seq ?_
      have hj : x.1 < xs.length := (by simp at ht19; omega)
      refine a_region ?_
      refine rm (.rsl _ _ _ _ _) ?_
      refine rm (.int _ _) ?_
      refine rv (v := .rp _ _) (v_indexAddr_rsl0 es25 il il (fun _ => by omega)) ?_
      refine rv (v := .int .i64 (gd xs x.1)) (v_load_rp1 ta3 il rfl (fun _ => by rw [Nat.mul_one]; exact icells_get (gd_get2 d5 (by omega))) rfl) ?_
      refine ra (.int _ _) ?_
      refine r_nil ?_
      refine aq ?_
      refine rv (v := .fn _ _ _) (v_mv rfl) ?_
      refine rm (.int _ _) ?_
      refine rn (v := .bool _) (q_clo (vs := [.int _ _]) (args := (.int .i64 _ :: caps)) hf il ⟨il, trivial⟩ (snap_clo1 hcap rfl) (fun hA => hc x.1 hj) rfl rfl) ?_
      refine rv (v := .bool _) (v_not il) ?_
      refine r_nil ?_
      refine a_cond rfl (fun ht29 => ?_) (fun ht29 => ?_)
      ·
        refine a_seq ?_
        have hpl : x.2.1 * 1 + 1 ≤ (icells x.2.2).length := (by rw [icells_length]; omega)
        have hset : (icells x.2.2).set (x.2.1 * 1) (.int .i64 (gd xs x.1)) = icells (x.2.2.set x.2.1 (gd xs x.1)) := (by rw [Nat.mul_one, icells_set])
        refine a_region ?_
        refine rm (.rsl _ _ _ _ _) ?_
        refine rm (.int _ _) ?_
        refine rm (.int _ _) ?_
        refine rv (v := .rp _ _) (v_indexAddr_rsl0 es25 il il (fun _ => by omega)) ?_
        refine r_step rfl (o_store (v := .int _ _) (y' := .osl _ _ _ _) rfl rfl ta3 il il rfl rfl rfl rfl rfl rfl hpl (by decide) rfl (congrArg (fun c => AV.osl 1 c xs.length none) hset)) ?_
        refine r_nil ?_
        refine a_region ?_
        refine rm (.int _ _) ?_
        refine rv (v := .int _ _) (v_add il il (fun _ => by omega)) ?_
        refine ra (.int _ _) ?_
        refine r_nil ?_
        refine a_region ?_
        refine rm (.int _ _) ?_
        refine rv (v := .int _ _) (v_add il il (fun _ => by omega)) ?_
        refine ra (.int _ _) ?_
        refine r_nil ?_
        refine ⟨(x.1 + 1, x.2.1 + 1, x.2.2.set x.2.1 (gd xs x.1)), ent_look ⟨wr, (Weak.of_eq (purge_fn hcap)), Weak.of_eq (int_eq (by dsimp only; omega)), Weak.of_eq (int_eq (by dsimp only; omega)), wr, trivial⟩, hD.keep hj (by simpa using ht29), by dsimp only; omega⟩
      ·
        refine a_skip ?_
        refine a_region ?_
        refine rm (.int _ _) ?_
        refine rv (v := .int _ _) (v_add il il (fun _ => by omega)) ?_
        refine ra (.int _ _) ?_
        refine r_nil ?_
        refine ⟨(x.1 + 1, x.2.1, x.2.2), ent_look ⟨wr, (Weak.of_eq (purge_fn hcap)), wr, Weak.of_eq (int_eq (by dsimp only; omega)), wr, trivial⟩, hD.drop hj (by simpa using ht29), by dsimp only; omega⟩
    ·
      refine a_exit ?_
      refine a_seq ?_
      have hje : x.1 = xs.length := (by simp at ht19; omega)
      have hdn := Dlt.done (p := p) (xs := xs) (ys := x.2.2) (i := x.2.1) (n := xs.length) (hje ▸ hD) rfl
      refine a_region ?_
      refine rm (.rsl _ _ _ _ _) ?_
      refine rm (.int _ _) ?_
      refine rv (v := .rsl (INH, []) 1 (0 + x.2.1 * 1) (xs.length - x.2.1) none) ((v_slice_rsl (l := x.2.1) (h := xs.length) es25 il (.inr ⟨_, _, rfl, il⟩) (.inl ⟨rfl, rfl⟩) (fun _ => by omega)).cast (rfl)) ?_
      refine r_step rfl (o_clear rfl rfl us25 zc3 rfl (.inl rfl) rfl (by rw [icells_length]; omega) rfl rfl) ?_
      refine r_nil ?_
      refine aq ?_
      refine rm (.rsl _ _ _ _ _) ?_
      refine rm (.int _ _) ?_
      refine rv (v := .rsl (INH, []) 1 0 x.2.1 none) ((v_slice_rsl (l := 0) (h := x.2.1) es25 il (.inl ⟨rfl, rfl⟩) (.inr ⟨_, _, rfl, il⟩) (fun _ => by omega)).cast (rfl)) ?_
      refine ra (.rsl _ _ _ _ _) ?_
      refine r_nil ?_
      refine a_pre (ent_reloc_sl (t := 4) rfl rfl) ?_
      refine a_ret ?_
      refine ret1 Tryz.results126 (by decide) (by decide) (Weak.osl_take (ds := List.replicate (xs.length - x.2.1) (.int .i64 0)) ?_ ?_) rfl (Leaves.one Weak.undef rfl)
      · exact hdn.1
      · exact hdn.2
theorem hb126 : hasBody Tryz.prog 126 = true := by kernel_rfl
theorem hb148 : hasBody Tryz.prog 148 = true := by kernel_rfl
theorem hb149 : hasBody Tryz.prog 149 = true := by kernel_rfl
theorem withoutVar1_c (x v : Int) : ACall Tryz.prog 149 [.int .i64 x, .pp [.int .i64 v] 0] [] (.bool (decide (absA x = v))) [] := by
  refine ACall.intro Tryz.func149 rfl (N := 8) rfl (by decide) (by simp) ?_
  refine aq ?_
  refine ra (.bool _) ?_
  refine r_nil ?_
  refine a_seq ?_
  refine a_region_any mixed (by kernel_rfl) ?_
  refine yv (v := .int _ _) (v_move il nf) ?_
  refine y_new (v := .int _ _) (q_call (vs := [.int _ _]) (args := [.int .i64 _]) hb119 ⟨.inl rfl, trivial⟩ rfl (fun hA => absA_c _) rfl rfl) rfl rfl (by decide) (by kernel_rfl) ?_
  refine yv (v := .int _ _) (v_load_pp ta3 il (fun _ => rfl) rfl) ?_
  refine yv (v := .bool _) (v_eql il il) ?_
  refine yv (v := .bool _) (v_assign il nf) ?_
  refine y_nil ?_
  refine a_ret ?_
  refine ret1 Tryz.results149 (by decide) (by decide) (Weak.of_eq (bool_eq ?_)) rfl Leaves.nil
  rfl
theorem withoutVar_c (c : List Int) (v : Int) (hl : c.length ≤ 1048576) : ACall Tryz.prog 131 [.sl (icells c) c.length, .int .i64 v] [] (.osl 1 (icells (wov c v)) (wov c v).length none) [] := by
  have hbW := hb149
  refine ACall.intro Tryz.func131 rfl (N := 9) rfl (by decide) (by simp) ?_
  refine aq ?_
  refine rn (v := .op [.int _ _]) (q_box il rfl rfl) ?_
  refine ra .nils ?_
  refine r_nil ?_
  refine aq ?_
  refine rm (.sl _ _) ?_
  refine rn (v := .osl _ _ _ _) (q_call (vs := [.sl _ _]) (args := [.sl _ _]) hb43 ⟨il, trivial⟩ rfl (fun hA => cloneI_c _ _ ⟨rfl, by omega⟩) (ic_noSh _) (ic_noRef _)) ?_
  refine rv (v := .fn _ _ _) (v_makeFunc (first := []) (caps := [.tmp 3]) rfl rfl) ?_
  refine r_step rfl (o_callIO (q := (6, [])) (vs := [.rsl _ _ _ _ _, .fn _ _ _]) (args := [.rsl (INH, []) _ _ _ _, .fn _ _ _]) (x0 := .osl _ _ _ _) (x1 := .undef) (res := .osl _ _ _ _) rfl hb126 rfl (by decide) ⟨.inl rfl, .inl rfl, trivial⟩ rfl rfl (del_c 149 [.pp [.int .i64 v] 0] hbW rfl c _ (fun x => decide (absA x = v)) ⟨rfl, by omega⟩ (fun i hi => withoutVar1_c _ v)) rfl (ic_noSh _) (ic_noRef _) rfl rfl (Nat.le_of_ble_eq_true rfl) (by decide) rfl) ?_
  refine ra (.rsl _ _ _ _ _) ?_
  refine r_pre (ent_reloc_sl (t := 4) rfl rfl) ?_
  refine r_nil ?_
  refine a_ret ?_
  refine ret1 Tryz.results131 (by decide) (by decide) (Weak.osl ?_ ?_) rfl Leaves.nil
  · rfl
  · rfl
theorem mustClause_c (l : List Int) (hn : l.length ≤ 1048576) : ACall Tryz.prog 130 [.sl (icells l) l.length] [] (.osl 1 (icells ((clR l).getD [])) ((clR l).getD []).length none) [] := by
  refine ACall.intro Tryz.func130 rfl (N := 11) rfl (by decide) (by simp) ?_
  refine aq ?_
  refine ra .nils ?_
  refine r_nil ?_
  refine aq ?_
  refine rm (.sl _ _) ?_
  refine rn (v := .tup [.osl _ _ _ _, .bool _]) (q_call (vs := [.sl _ _]) (args := [.sl _ _]) hb148 ⟨il, trivial⟩ rfl (fun hA => clause_c l hn) (by simp [noSh, noShL, ic_noSh]) (by simp [noRef, noRefL, ic_noRef])) ?_
  refine rv (v := .tup [.rsl _ _ _ _ _, .bool _]) (v_mv rfl) ?_
  refine rv (v := .rsl _ _ _ _ _) (v_extract rfl rfl) ?_
  refine rv (v := .bool _) (v_extract rfl rfl) ?_
  refine ra (.rsl _ _ _ _ _) ?_
  refine r_pre (ent_reloc_sl (t := 3) rfl rfl) ?_
  refine ra (.bool _) ?_
  refine r_nil ?_
  refine aq ?_
  refine rm (.rsl _ _ _ _ _) ?_
  refine ra (.rsl _ _ _ _ _) ?_
  refine r_pre (ent_reloc_sl (t := 2) rfl rfl) ?_
  refine r_nil ?_
  refine a_ret ?_
  refine ret1 Tryz.results130 (by decide) (by decide) (Weak.osl ?_ ?_) rfl Leaves.nil
  · rfl
  · rfl
theorem hb130 : hasBody Tryz.prog 130 = true := by kernel_rfl
theorem hb131 : hasBody Tryz.prog 131 = true := by kernel_rfl
theorem hb71 : hasBody Tryz.prog 71 = true := by kernel_rfl
theorem hb83 : hasBody Tryz.prog 83 = true := by kernel_rfl
theorem set_c (vars : Int) (a : List Int) (l : Int) (hc : clB vars a = true) (hl : litB vars l = true) : ACall Tryz.prog 94 [.sl (icells a) a.length, .int .i64 l] [] (.osl 1 (icells (setLit a l)) (setLit a l).length none) [] := by
  have hln := clB_len hc
  have hsm := clB_sm hc
  have hll : -4611686018427387904 ≤ l ∧ l ≤ 4611686018427387904 := (by have := litB_spec.1 hl; have := (clB_spec hc).1; omega)
  have hab := absA_of hll
  have hwl := woS_len a (vr l)
  refine ACall.intro Tryz.func94 rfl (N := 13) rfl (by decide) (by simp) ?_
  refine aq ?_
  refine ra .nils ?_
  refine r_nil ?_
  refine aq ?_
  refine rm (.sl _ _) ?_
  refine rm (.int _ _) ?_
  refine rn (v := .int _ _) (q_call (vs := [.int _ _]) (args := [.int .i64 _]) hb119 ⟨il, trivial⟩ rfl (fun hA => absA_c _) rfl rfl) ?_
  refine rn (v := .osl _ _ _ _) (q_call (vs := [.sl _ _, .int _ _]) (args := [.sl _ _, .int .i64 _]) hb131 ⟨il, il, trivial⟩ rfl (fun hA => withoutVar_c a (absA l) (by omega)) (ic_noSh _) (ic_noRef _)) ?_
  refine rm (.int _ _) ?_
  refine r_pre (ent_eq (t := 8) (v' := .osl 1 (icells (woS a (vr l))) (woS a (vr l)).length none) (Weak.osl (by rw [hab, wov_eq hsm]) (by rw [hab, wov_eq hsm]))) ?_
  refine rn (v := .osl 1 (icells [l]) 1 (some 1)) (q_sliceLit (n := 1) (parts := [(0, .tmp 9)]) lt25 rfl rfl rfl rfl) ?_
  refine r_step rfl (o_append rfl ap25 rfl (by decide) (by decide) rfl (src_lit (.inl rfl) rfl rfl (ic_pureL _)) (ic_cell _) (by rw [icells_length]; omega) (by omega)) ?_
  refine r_pre (ent_eq (t := 11) (v' := .osl 1 (icells (woS a (vr l) ++ [l])) (woS a (vr l) ++ [l]).length none) (Weak.osl (by rw [icells_append]) (by simp))) ?_
  refine rn (v := .osl _ _ _ _) (q_call (vs := [.rsl _ _ _ _ _]) (args := [.sl _ _]) hb130 ⟨il, trivial⟩ (l1_eq (sl_sh (ic_pure (woS a (vr l) ++ [l])))) (fun hA => mustClause_c (woS a (vr l) ++ [l]) (by simp; omega)) (ic_noSh _) (ic_noRef _)) ?_
  refine ra (.rsl _ _ _ _ _) ?_
  refine r_pre (ent_reloc_sl (t := 4) rfl rfl) ?_
  refine r_nil ?_
  refine a_ret ?_
  refine ret1 Tryz.results94 (by decide) (by decide) (Weak.osl ?_ ?_) rfl Leaves.nil
  · rw [setLit_impl hc hl]
  · rw [setLit_impl hc hl]
theorem es22 : elemSize Tryz.prog 22 = some 1 := by kernel_rfl
theorem fo24_0 : fieldOff Tryz.prog 24 0 = some 0 := by kernel_rfl
theorem fo24_1 : fieldOff Tryz.prog 24 1 = some 1 := by kernel_rfl
theorem fo29_0 : fieldOff Tryz.prog 29 0 = some 0 := by kernel_rfl
theorem fo29_1 : fieldOff Tryz.prog 29 1 = some 1 := by kernel_rfl
theorem hb10 : hasBody Tryz.prog 10 = true := by kernel_rfl
theorem hb12 : hasBody Tryz.prog 12 = true := by kernel_rfl
theorem hb26 : hasBody Tryz.prog 26 = true := by kernel_rfl
theorem hb37 : hasBody Tryz.prog 37 = true := by kernel_rfl
theorem hb68 : hasBody Tryz.prog 68 = true := by kernel_rfl
theorem hb8 : hasBody Tryz.prog 8 = true := by kernel_rfl
theorem sb25 : (Tryz.prog.info? 25).map (fun i => (i.size, i.bytes)) = some (1, 24) := by kernel_rfl
theorem sl22 : isSlice Tryz.prog 22 = true := by kernel_rfl
theorem ta22 : tyAgg Tryz.prog 22 = some (false, 1) := by kernel_rfl
theorem ta25 : tyAgg Tryz.prog 25 = some (false, 1) := by kernel_rfl
theorem ta29 : tyAgg Tryz.prog 29 = some (true, 2) := by kernel_rfl
theorem us22 : Tryz.prog.underlying 22 = some (.slice 25) := by kernel_rfl
theorem zc25 : zeroCells Tryz.prog 25 = some [.nils] := by kernel_rfl
theorem zc29 : zeroCells Tryz.prog 29 = some [.int .i64 0, .nils] := by kernel_rfl
theorem szIntS_c (c : List Int) (left : Int) (hl : 0 ≤ left ∧ left ≤ 1000000000) (hc : (c.length : Int) ≤ 9223372036854775807) : ACall Tryz.prog 68 [.sl (icells c) c.length, .int .i64 left] [] (.int .i64 (szR left c.length)) [] := by
  refine ACall.intro Tryz.func68 rfl (N := 12) rfl (by decide) (by simp) ?_
  refine aq ?_
  refine ra (.int _ _) ?_
  refine r_nil ?_
  refine aq ?_
  refine rm (.int _ _) ?_
  refine rm (.sl _ _) ?_
  refine rv (v := .int _ _) (v_len_sl sl25 il) ?_
  refine rv (v := .int _ _) (v_sub il il (fun _ => by omega)) ?_
  refine ra (.int _ _) ?_
  refine r_nil ?_
  refine a_seq ?_
  refine aq ?_
  refine rm (.int _ _) ?_
  refine rv (v := .bool _) (v_lss il il) ?_
  refine r_nil ?_
  refine a_cond rfl (fun ht10 => ?_) (fun ht10 => ?_)
  ·
    refine aq ?_
    refine ra (.int _ _) ?_
    refine r_nil ?_
    refine a_ret ?_
    refine ret1 Tryz.results68 (by decide) (by decide) (Weak.of_eq (int_eq ?_)) rfl Leaves.nil
    unfold szR; rw [if_pos (by simpa using ht10)]
  ·
    refine a_skip ?_
    refine aq ?_
    refine rm (.int _ _) ?_
    refine ra (.int _ _) ?_
    refine r_nil ?_
    refine a_ret ?_
    refine ret1 Tryz.results68 (by decide) (by decide) (Weak.of_eq (int_eq ?_)) rfl Leaves.nil
    unfold szR; rw [if_neg (by simpa using ht10)]
theorem szIntSS_c (L : List (List Int)) (left : Int) (hl : 0 ≤ left ∧ left ≤ 1000000000) (hlen : ∀ i, ((gl L i).length : Int) ≤ 9223372036854775807) (hL : (L.length : Int) ≤ 9223372036854775807) : ACall Tryz.prog 26 [.sl (sls L) L.length, .int .i64 left] [] (.int .i64 (szR left ((L.length + tot L L.length : Nat) : Int))) [] := by
  refine ACall.intro Tryz.func26 rfl (N := 27) rfl (by decide) (by simp) ?_
  refine aq ?_
  refine ra (.int _ _) ?_
  refine r_nil ?_
  refine aq ?_
  refine rm (.int _ _) ?_
  refine rm (.sl _ _) ?_
  refine rv (v := .int _ _) (v_len_sl sl22 il) ?_
  refine rv (v := .int _ _) (v_sub il il (fun _ => by omega)) ?_
  refine ra (.int _ _) ?_
  refine r_nil ?_
  refine a_seq ?_
  refine aq ?_
  refine rm (.int _ _) ?_
  refine rv (v := .bool _) (v_lss il il) ?_
  refine r_nil ?_
  refine a_cond rfl (fun ht11 => ?_) (fun ht11 => ?_)
  ·
    refine aq ?_
    refine ra (.int _ _) ?_
    refine r_nil ?_
    refine a_ret ?_
    refine ret1 Tryz.results26 (by decide) (by decide) (Weak.of_eq (int_eq ?_)) rfl Leaves.nil
    unfold szR; rw [if_pos (by simp at ht11; omega)]
  ·
    refine a_skip ?_
    refine a_seq ?_
    refine aq ?_
    refine ra (.int _ _) ?_
    refine r_nil ?_
    refine a_block ?_
    refine a_loop (X := Nat) (fun i => look [(0, .sl (sls L) L.length), (1, .int .i64 (left - L.length - (tot L i : Nat))), (5, .int .i64 ((i : Nat) : Int))]) (fun i => i ≤ L.length ∧ 0 ≤ left - L.length - (tot L i : Nat)) (fun i => L.length - i) 0 (ent_look ⟨wr, Weak.of_eq (int_eq (by simp [tot_zero])), wr, trivial⟩) ⟨Nat.zero_le _, by simp [tot_zero]; simpa using ht11⟩ (fun i hG => ?_)
    obtain ⟨g1, g2⟩ := hG
    have hli := hlen i
    have htl := tot_le L i
    have htl1 := tot_le L (i + 1)
    refine a_seq ?_
    refine aq ?_
    refine rm (.int _ _) ?_
    refine rm (.sl _ _) ?_
    refine rv (v := .int _ _) (v_len_sl sl22 il) ?_
    refine rv (v := .bool _) (v_lss il il) ?_
    refine r_nil ?_
    refine a_cond rfl (fun ht15 => ?_) (fun ht15 => ?_)
    ·
      refine a_skip ?_
      refine a_seq ?_
      refine a_block ?_
      refine a_seq ?_
      have hi : i < L.length := (by simp at ht15; omega)
      have hgt := tot_more hi
      refine a_region ?_
      refine rm (.sl _ _) ?_
      refine rm (.int _ _) ?_
      refine rv (v := .pp _ _) (v_indexAddr_sl es22 il il (fun _ => ⟨by omega, by omega, sls_ne hi⟩)) ?_
      refine rv (v := .sl (icells (gl L i)) (gl L i).length) (v_load_pp ta25 il (fun _ => by rw [Nat.mul_one]; exact sls_get hi) rfl) ?_
      refine rm (.int _ _) ?_
      refine rn (v := .int _ _) (q_call (vs := [.sl _ _, .int _ _]) (args := [.sl _ _, .int .i64 _]) hb68 ⟨il, il, trivial⟩ rfl (fun hA => szIntS_c (gl L i) _ (by omega) (by omega)) rfl rfl) ?_
      refine ra (.int _ _) ?_
      refine r_nil ?_
      refine aq ?_
      refine rm (.int _ _) ?_
      refine rv (v := .bool _) (v_lss il il) ?_
      refine r_nil ?_
      refine a_cond rfl (fun ht25 => ?_) (fun ht25 => ?_)
      ·
        refine a_seq ?_
        have hneg : left - L.length - (tot L i : Nat) - ((gl L i).length : Int) < 0 := (by have h25 := of_decide_eq_true ht25; unfold szR at h25; split at h25 <;> omega)
        refine a_region ?_
        refine ra (.int _ _) ?_
        refine r_nil ?_
        refine a_ret ?_
        refine ret1 Tryz.results26 (by decide) (by decide) (Weak.of_eq (int_eq ?_)) rfl Leaves.nil
        unfold szR; rw [if_pos (by omega)]
      ·
        refine a_skip ?_
        refine a_region ?_
        refine rm (.int _ _) ?_
        refine rv (v := .int _ _) (v_add il il (fun _ => by omega)) ?_
        refine ra (.int _ _) ?_
        refine r_nil ?_
        have hge : ¬ left - L.length - (tot L i : Nat) - ((gl L i).length : Int) < 0 := (by intro h; simp [szR, h] at ht25)
        refine ⟨i + 1, ent_look ⟨wr, Weak.of_eq (int_eq (by unfold szR; rw [if_neg (by omega), hgt]; omega)), Weak.of_eq (int_eq (by omega)), trivial⟩, ⟨by omega, by omega⟩, by omega⟩
    ·
      refine a_exit ?_
      refine a_seq ?_
      have hie : i = L.length := (by simp at ht15; omega)
      refine a_region ?_
      refine rm (.int _ _) ?_
      refine ra (.int _ _) ?_
      refine r_nil ?_
      refine a_ret ?_
      refine ret1 Tryz.results26 (by decide) (by decide) (Weak.of_eq (int_eq ?_)) rfl Leaves.nil
      unfold szR; subst hie; rw [if_neg (by omega)]; omega
theorem szCnf_c (vars : Int) (L : List (List Int)) (left : Int) (hl : 0 ≤ left ∧ left ≤ 1000000000) (hlen : ∀ i, ((gl L i).length : Int) ≤ 9223372036854775807) (hL : (L.length : Int) ≤ 9223372036854775807) : ACall Tryz.prog 5 [.agg [.int .i64 vars, .sl (sls L) L.length], .int .i64 left] [] (.int .i64 (szR left ((L.length + tot L L.length : Nat) : Int))) [] := by
  refine ACall.intro Tryz.func5 rfl (N := 12) rfl (by decide) (by simp) ?_
  refine aq ?_
  refine rn (v := .op [.int _ _, .sl _ _]) (q_box il rfl rfl) ?_
  refine ra (.int _ _) ?_
  refine r_nil ?_
  refine aq ?_
  refine rv (v := .rp _ _) (v_fieldAddr_rp fo24_1 il) ?_
  refine rv (v := .sl _ _) (v_load_rp1 ta22 il rfl (fun _ => rfl) rfl) ?_
  refine rm (.int _ _) ?_
  refine rn (v := .int _ _) (q_call (vs := [.sl _ _, .int _ _]) (args := [.sl _ _, .int .i64 _]) hb26 ⟨il, il, trivial⟩ rfl (fun hA => szIntSS_c L left hl hlen hL) rfl rfl) ?_
  refine ra (.int _ _) ?_
  refine r_nil ?_
  refine a_seq ?_
  refine aq ?_
  refine rm (.int _ _) ?_
  refine rv (v := .bool _) (v_lss il il) ?_
  refine r_nil ?_
  refine a_cond rfl (fun ht10 => ?_) (fun ht10 => ?_)
  ·
    refine aq ?_
    refine ra (.int _ _) ?_
    refine r_nil ?_
    refine a_ret ?_
    refine ret1 Tryz.results5 (by decide) (by decide) (Weak.of_eq (int_eq ?_)) rfl Leaves.nil
    have h10 := of_decide_eq_true ht10; unfold szR at h10 ⊢; split at h10 <;> rename_i hh; rw [if_pos hh]; omega
  ·
    refine a_skip ?_
    refine aq ?_
    refine rm (.int _ _) ?_
    refine ra (.int _ _) ?_
    refine r_nil ?_
    refine a_ret ?_
    refine ret1 Tryz.results5 (by decide) (by decide) (Weak.of_eq (int_eq ?_)) rfl Leaves.nil
    rfl
theorem toIntSS_c (L : List (List Int)) (hL : L.length ≤ 1048576) (ht : tot L L.length ≤ 1048576) : ACall Tryz.prog 37 [.sl (sls L) L.length] [] (.osl 1 (osls L) L.length none) [] := by
  refine ACall.intro Tryz.func37 rfl (N := 23) rfl (by decide) (by simp) ?_
  refine aq ?_
  refine ra .nils ?_
  refine r_nil ?_
  refine aq ?_
  refine rm (.sl _ _) ?_
  refine rv (v := .int _ _) (v_len_sl sl22 il) ?_
  refine rn (v := .osl _ _ _ _) (q_makeSlice us22 sb25 zc25 rfl (by decide) il il (fun _ => by omega)) ?_
  refine ra (.rsl _ _ _ _ _) ?_
  refine r_pre (ent_reloc_sl (t := 3) rfl rfl) ?_
  refine r_nil ?_
  refine a_seq ?_
  refine aq ?_
  refine ra (.int _ _) ?_
  refine r_nil ?_
  refine a_block ?_
  refine a_loop (X := Nat) (fun i => look [(0, .sl (sls L) L.length), (3, .osl 1 (partO L i) L.length (some L.length)), (4, .int .i64 ((i : Nat) : Int))]) (fun i => i ≤ L.length) (fun i => L.length - i) 0 (ent_look ⟨wr, Weak.of_eq (osl_eq (by rw [partO_zero])), wr, trivial⟩) (Nat.zero_le _) (fun i hG => ?_)
  refine a_seq ?_
  refine aq ?_
  refine rm (.int _ _) ?_
  refine rm (.sl _ _) ?_
  refine rv (v := .int _ _) (v_len_sl sl22 il) ?_
  refine rv (v := .bool _) (v_lss il il) ?_
  refine r_nil ?_
  refine a_cond rfl (fun ht11 => ?_) (fun ht11 => ?_)
  ·
    refine a_skip ?_
    refine a_seq ?_
    refine a_block ?_
    have hi : i < L.length := (by simp at ht11; omega)
    have hle := len_tot (L := L) (i := i)
    have hpl : i * 1 + 1 ≤ (partO L i).length := (by rw [partO_length (by omega)]; omega)
    have hset : (partO L i).set (i * 1) (.osl 1 (icells (gl L i)) (gl L i).length none) = partO L (i + 1) := (by rw [Nat.mul_one, partO_set hi])
    refine a_region ?_
    refine rm (.rsl _ _ _ _ _) ?_
    refine rm (.int _ _) ?_
    refine rm (.sl _ _) ?_
    refine rm (.int _ _) ?_
    refine rv (v := .pp _ _) (v_indexAddr_sl es22 il il (fun _ => ⟨by omega, by omega, sls_ne hi⟩)) ?_
    refine rv (v := .sl (icells (gl L i)) (gl L i).length) (v_load_pp ta25 il (fun _ => by rw [Nat.mul_one]; exact sls_get hi) rfl) ?_
    refine rn (v := .osl _ _ _ _) (q_call (vs := [.sl _ _]) (args := [.sl _ _]) hb8 ⟨il, trivial⟩ rfl (fun hA => toIntS_c (gl L i) (by omega)) (ic_noSh _) (ic_noRef _)) ?_
    refine rv (v := .rp _ _) (v_indexAddr_rsl0 es22 il il (fun _ => by omega)) ?_
    refine r_step rfl (o_store_own (v := .osl _ _ _ _) (y' := .osl 1 (partO L (i + 1)) L.length (some L.length)) rfl rfl ta25 (.inl rfl) (by decide) rfl (by decide) rfl (by simp [cellsOf, noRefL, noRef, ic_noRef]) rfl rfl rfl rfl rfl hpl rfl (congrArg (fun c => AV.osl 1 c L.length (some L.length)) hset)) ?_
    refine r_nil ?_
    refine a_region ?_
    refine rm (.int _ _) ?_
    refine rv (v := .int _ _) (v_add il il (fun _ => by omega)) ?_
    refine ra (.int _ _) ?_
    refine r_nil ?_
    refine ⟨i + 1, ent_look ⟨wr, wr, Weak.of_eq (int_eq (by omega)), trivial⟩, by omega, by omega⟩
  ·
    refine a_exit ?_
    refine aq ?_
    refine rm (.rsl _ _ _ _ _) ?_
    refine ra (.rsl _ _ _ _ _) ?_
    refine r_pre (ent_reloc_sl (t := 2) rfl rfl) ?_
    refine r_nil ?_
    refine a_ret ?_
    refine ret1 Tryz.results37 (by decide) (by decide) (Weak.osl ?_ ?_) rfl Leaves.nil
    · simp at ht11; rw [partO_full (by omega)]
    · rfl
theorem toCnf_c (vars : Int) (L : List (List Int)) (hL : L.length ≤ 1048576) (ht : tot L L.length ≤ 1048576) : ACall Tryz.prog 7 [.agg [.int .i64 vars, .sl (sls L) L.length]] [] (.agg [.int .i64 vars, .osl 1 (osls L) L.length none]) [] := by
  refine ACall.intro Tryz.func7 rfl (N := 12) rfl (by decide) (by simp) ?_
  refine aq ?_
  refine rn (v := .op [.int _ _, .sl _ _]) (q_box il rfl rfl) ?_
  refine rn (v := .op [.int _ _, .nils]) (q_alloc zc29) ?_
  refine r_nil ?_
  refine aq ?_
  refine rn (v := .op [.int _ _, .nils]) (q_alloc zc29) ?_
  refine r_nil ?_
  refine aq ?_
  refine rv (v := .rp _ _) (v_fieldAddr_rp fo24_0 il) ?_
  refine rv (v := .int _ _) (v_load_rp1 ta3 il rfl (fun _ => rfl) rfl) ?_
  refine rv (v := .rp _ _) (v_fieldAddr_rp fo29_0 il) ?_
  refine r_step rfl (o_store (v := .int _ _) (y' := .op [.int _ _, .nils]) rfl rfl ta3 il il rfl rfl rfl rfl rfl rfl (Nat.le_of_ble_eq_true rfl) (by decide) rfl rfl) ?_
  refine r_nil ?_
  refine aq ?_
  refine rv (v := .rp _ _) (v_fieldAddr_rp fo24_1 il) ?_
  refine rv (v := .sl _ _) (v_load_rp1 ta22 il rfl (fun _ => rfl) rfl) ?_
  refine rn (v := .osl _ _ _ _) (q_call (vs := [.sl _ _]) (args := [.sl _ _]) hb37 ⟨il, trivial⟩ rfl (fun hA => toIntSS_c L hL ht) (osls_noSh _) (osls_noRef _)) ?_
  refine rv (v := .rp _ _) (v_fieldAddr_rp fo29_1 il) ?_
  refine r_step rfl (o_store_own (v := .osl _ _ _ _) (y' := .op [.int _ _, .osl _ _ _ _]) rfl rfl ta22 (.inl rfl) (by decide) rfl (by decide) rfl (by simp [cellsOf, noRefL, noRef, osls_noRef]) rfl rfl rfl rfl rfl (Nat.le_of_ble_eq_true rfl) rfl rfl) ?_
  refine r_nil ?_
  refine aq ?_
  refine rv (v := .agg [.int _ _, .rsl _ _ _ _ _]) (v_load_rpa (xs := [.int _ _, .osl _ _ _ _]) ta29 il rfl rfl (fun _ => take_get rfl)) ?_
  refine r_pre (ent_reloc_at_sl (t := 11) (r := [1]) rfl (by decide) rfl rfl) ?_
  refine r_step rfl (o_store_own (v := .agg [.int _ _, .osl _ _ _ _]) (y' := .op [.int _ _, .osl _ _ _ _]) rfl rfl ta29 (.inl rfl) (by decide) rfl (by decide) rfl (by simp [cellsOf, noRefL, noRef, osls_noRef]) rfl rfl rfl rfl rfl (Nat.le_of_ble_eq_true rfl) rfl rfl) ?_
  refine r_nil ?_
  refine a_ret ?_
  refine retC1 (r := .cell 2 29) Tryz.results7 ⟨by decide, _, cell_agg rfl ta29, rfl⟩ (by decide) (Weak.of_eq (agg_eq (l2_eq (int_eq ?_) (osl_eq2 ?_ ?_)))) rfl Leaves.nil
  all_goals rfl
theorem eqIntSS_c (L M : List (List Int)) (hL : (L.length : Int) ≤ 9223372036854775807) (hM : (M.length : Int) ≤ 9223372036854775807) (hlen : ∀ i, ((gl L i).length : Int) ≤ 9223372036854775807) : ACall Tryz.prog 10 [.sl (sls L) L.length, .sl (sls M) M.length] [] (.bool (decide (L = M))) [] := by
  refine ACall.intro Tryz.func10 rfl (N := 27) rfl (by decide) (by simp) ?_
  refine aq ?_
  refine ra (.bool _) ?_
  refine r_nil ?_
  refine a_seq ?_
  refine aq ?_
  refine rm (.sl _ _) ?_
  refine rv (v := .int _ _) (v_len_sl sl22 il) ?_
  refine rm (.sl _ _) ?_
  refine rv (v := .int _ _) (v_len_sl sl22 il) ?_
  refine rv (v := .bool _) (v_neq il il) ?_
  refine r_nil ?_
  refine a_cond rfl (fun ht10 => ?_) (fun ht10 => ?_)
  ·
    refine aq ?_
    refine ra (.bool _) ?_
    refine r_nil ?_
    refine a_ret ?_
    refine ret1 Tryz.results10 (by decide) (by decide) (Weak.of_eq (bool_eq ?_)) rfl Leaves.nil
    simp at ht10; exact (decide_eq_false (fun h => ht10 (by rw [h]))).symm
  ·
    refine a_skip ?_
    refine a_seq ?_
    refine aq ?_
    refine ra (.int _ _) ?_
    refine r_nil ?_
    refine a_block ?_
    refine a_loop (X := Nat) (fun i => look [(0, .sl (sls L) L.length), (1, .sl (sls M) M.length), (5, .int .i64 ((i : Nat) : Int))]) (fun i => i ≤ L.length ∧ L.length = M.length ∧ L.take i = M.take i) (fun i => L.length - i) 0 (ent_look ⟨wr, wr, wr, trivial⟩) ⟨Nat.zero_le _, by simp at ht10; omega, rfl⟩ (fun i hG => ?_)
    obtain ⟨g1, g2, g3⟩ := hG
    refine a_seq ?_
    refine aq ?_
    refine rm (.int _ _) ?_
    refine rm (.sl _ _) ?_
    refine rv (v := .int _ _) (v_len_sl sl22 il) ?_
    refine rv (v := .bool _) (v_lss il il) ?_
    refine r_nil ?_
    refine a_cond rfl (fun ht14 => ?_) (fun ht14 => ?_)
    ·
      refine a_skip ?_
      refine a_seq ?_
      refine a_block ?_
      refine a_seq ?_
      have hi : i < L.length := (by simp at ht14; omega)
      refine a_region_any mixed (by kernel_rfl) ?_
      refine yv (v := .sl _ _) (v_move il nf) ?_
      refine yv (v := .int _ _) (v_move il nf) ?_
      refine yv (v := .pp _ _) (v_indexAddr_sl es22 il il (fun _ => ⟨by omega, by omega, sls_ne hi⟩)) ?_
      refine yv (v := .sl (icells (gl L i)) (gl L i).length) (v_load_pp ta25 il (fun _ => by rw [Nat.mul_one]; exact sls_get hi) rfl) ?_
      refine yv (v := .sl _ _) (v_move il nf) ?_
      refine yv (v := .int _ _) (v_move il nf) ?_
      refine yv (v := .pp _ _) (v_indexAddr_sl es22 il il (fun _ => ⟨by omega, by omega, sls_ne (L := M) (i := i) (by omega)⟩)) ?_
      refine yv (v := .sl (icells (gl M i)) (gl M i).length) (v_load_pp ta25 il (fun _ => by rw [Nat.mul_one]; exact sls_get (by omega)) rfl) ?_
      refine y_new (v := .bool _) (q_call (vs := [.sl _ _, .sl _ _]) (args := [.sl _ _, .sl _ _]) hb12 ⟨.inl rfl, .inl rfl, trivial⟩ rfl (fun hA => eqIntS_c (gl L i) (gl M i) (hlen i)) rfl rfl) rfl rfl (by decide) (by kernel_rfl) ?_
      refine yv (v := .bool _) (v_not il) ?_
      refine y_nil ?_
      refine a_cond rfl (fun ht26 => ?_) (fun ht26 => ?_)
      ·
        refine aq ?_
        refine ra (.bool _) ?_
        refine r_nil ?_
        refine a_ret ?_
        refine ret1 Tryz.results10 (by decide) (by decide) (Weak.of_eq (bool_eq ?_)) rfl Leaves.nil
        simp at ht26; refine (decide_eq_false (fun h => ?_)).symm
        subst h
        simp at ht26
      ·
        refine a_skip ?_
        refine a_region ?_
        refine rm (.int _ _) ?_
        refine rv (v := .int _ _) (v_add il il (fun _ => by omega)) ?_
        refine ra (.int _ _) ?_
        refine r_nil ?_
        refine ⟨i + 1, ent_look ⟨wr, wr, Weak.of_eq (int_eq (by omega)), trivial⟩, ⟨by omega, g2, gl_take hi (by omega) g3 (by simpa using ht26)⟩, by omega⟩
    ·
      refine a_exit ?_
      refine aq ?_
      refine ra (.bool _) ?_
      refine r_nil ?_
      refine a_ret ?_
      refine ret1 Tryz.results10 (by decide) (by decide) (Weak.of_eq (bool_eq ?_)) rfl Leaves.nil
      simp at ht14; refine (decide_eq_true ?_).symm
      rw [List.take_of_length_le (by omega), List.take_of_length_le (by omega)] at g3; exact g3
theorem eqCnf_c (vars v2 : Int) (L M : List (List Int)) (hL : (L.length : Int) ≤ 9223372036854775807) (hM : (M.length : Int) ≤ 9223372036854775807) (hlen : ∀ i, ((gl L i).length : Int) ≤ 9223372036854775807) : ACall Tryz.prog 11 [.agg [.int .i64 vars, .sl (sls L) L.length], .agg [.int .i64 v2, .sl (sls M) M.length]] [] (.bool (decide (vars = v2) && decide (L = M))) [] := by
  refine ACall.intro Tryz.func11 rfl (N := 16) rfl (by decide) (by simp) ?_
  refine aq ?_
  refine rn (v := .op [.int _ _, .sl _ _]) (q_box il rfl rfl) ?_
  refine rn (v := .op [.int _ _, .sl _ _]) (q_box il rfl rfl) ?_
  refine ra (.bool _) ?_
  refine r_nil ?_
  refine a_seq ?_
  refine aq ?_
  refine rv (v := .rp _ _) (v_fieldAddr_rp fo29_0 il) ?_
  refine rv (v := .int _ _) (v_load_rp1 ta3 il rfl (fun _ => rfl) rfl) ?_
  refine rv (v := .rp _ _) (v_fieldAddr_rp fo29_0 il) ?_
  refine rv (v := .int _ _) (v_load_rp1 ta3 il rfl (fun _ => rfl) rfl) ?_
  refine rv (v := .bool _) (v_neq il il) ?_
  refine r_nil ?_
  refine a_cond rfl (fun ht9 => ?_) (fun ht9 => ?_)
  ·
    refine aq ?_
    refine ra (.bool _) ?_
    refine r_nil ?_
    refine a_ret ?_
    refine ret1 Tryz.results11 (by decide) (by decide) (Weak.of_eq (bool_eq ?_)) rfl Leaves.nil
    simp at ht9; simp [ht9]
  ·
    refine a_skip ?_
    refine a_seq ?_
    refine aq ?_
    refine rv (v := .rp _ _) (v_fieldAddr_rp fo29_1 il) ?_
    refine rv (v := .sl _ _) (v_load_rp1 ta22 il rfl (fun _ => rfl) rfl) ?_
    refine rv (v := .rp _ _) (v_fieldAddr_rp fo29_1 il) ?_
    refine rv (v := .sl _ _) (v_load_rp1 ta22 il rfl (fun _ => rfl) rfl) ?_
    refine rn (v := .bool _) (q_call (vs := [.sl _ _, .sl _ _]) (args := [.sl _ _, .sl _ _]) hb10 ⟨il, il, trivial⟩ rfl (fun hA => eqIntSS_c L M hL hM hlen) rfl rfl) ?_
    refine rv (v := .bool _) (v_not il) ?_
    refine r_nil ?_
    refine a_cond rfl (fun ht15 => ?_) (fun ht15 => ?_)
    ·
      refine aq ?_
      refine ra (.bool _) ?_
      refine r_nil ?_
      refine a_ret ?_
      refine ret1 Tryz.results11 (by decide) (by decide) (Weak.of_eq (bool_eq ?_)) rfl Leaves.nil
      simp at ht15; simp [ht15]
    ·
      refine a_skip ?_
      refine aq ?_
      refine ra (.bool _) ?_
      refine r_nil ?_
      refine a_ret ?_
      refine ret1 Tryz.results11 (by decide) (by decide) (Weak.of_eq (bool_eq ?_)) rfl Leaves.nil
      simp at ht9 ht15; simp [ht9, ht15]
theorem isCnf_c (vars : Int) (L : List (List Int)) (hk : CnfOk vars L) : ACall Tryz.prog 81 [.agg [.int .i64 vars, .sl (sls L) L.length]] [] (.bool (cnfB vars L)) [] := by
  have hk1 := hk.1
  have hk2 := hk.2.1
  have hk3 := hk.2.2.1
  refine ACall.intro Tryz.func81 rfl (N := 27) rfl (by decide) (by simp) ?_
  refine aq ?_
  refine rn (v := .op [.int _ _, .sl _ _]) (q_box il rfl rfl) ?_
  refine ra (.bool _) ?_
  refine r_nil ?_
  refine a_seq ?_
  refine aq ?_
  refine rv (v := .rp _ _) (v_fieldAddr_rp fo29_1 il) ?_
  refine rv (v := .sl _ _) (v_load_rp1 ta22 il rfl (fun _ => rfl) rfl) ?_
  refine rv (v := .int _ _) (v_len_sl sl22 il) ?_
  refine rm (.int _ _) ?_
  refine r_nil ?_
  refine a_block ?_
  refine a_loop (X := Nat) (fun i => look [(1, .op [.int .i64 vars, .sl (sls L) L.length]), (6, .sl (sls L) L.length), (7, .int .i64 (L.length : Int)), (8, .int .i64 ((i : Nat) : Int))]) (fun i => i ≤ L.length ∧ ∀ j, j < i → clB vars (gl L j) = true) (fun i => L.length - i) 0 (ent_look ⟨wr, wr, wr, wr, trivial⟩) ⟨Nat.zero_le _, fun j h => by omega⟩ (fun i hG => ?_)
  obtain ⟨g1, g2⟩ := hG
  have hle := len_tot (L := L) (i := i)
  refine aq ?_
  refine rv (v := .bool _) (v_lss il il) ?_
  refine r_nil ?_
  refine a_seq ?_
  refine a_cond rfl (fun ht9 => ?_) (fun ht9 => ?_)
  ·
    refine a_skip ?_
    refine a_seq ?_
    refine a_block ?_
    refine a_seq ?_
    have hi : i < L.length := (by simp at ht9; omega)
    refine a_region ?_
    refine rv (v := .pp _ _) (v_indexAddr_sl es22 il il (fun _ => ⟨by omega, by omega, sls_ne hi⟩)) ?_
    refine rv (v := .sl (icells (gl L i)) (gl L i).length) (v_load_pp ta25 il (fun _ => by rw [Nat.mul_one]; exact sls_get hi) rfl) ?_
    refine ra (.sl _ _) ?_
    refine r_nil ?_
    refine aq ?_
    refine rv (v := .rp _ _) (v_fieldAddr_rp fo29_0 il) ?_
    refine rv (v := .int _ _) (v_load_rp1 ta3 il rfl (fun _ => rfl) rfl) ?_
    refine rm (.sl _ _) ?_
    refine rn (v := .bool _) (q_call (vs := [.int _ _, .sl _ _]) (args := [.int .i64 _, .sl _ _]) hb83 ⟨il, il, trivial⟩ rfl (fun hA => isClause_c vars (gl L i) hk1 (by omega) (fun j => hk.2.2.2 i j)) rfl rfl) ?_
    refine rv (v := .bool _) (v_not il) ?_
    refine r_nil ?_
    refine a_cond rfl (fun ht16 => ?_) (fun ht16 => ?_)
    ·
      refine a_seq ?_
      have hno := cnfB_no hi (by simpa using ht16)
      refine a_region ?_
      refine ra (.bool _) ?_
      refine r_nil ?_
      refine a_ret ?_
      refine ret1 Tryz.results81 (by decide) (by decide) (Weak.of_eq (bool_eq ?_)) rfl Leaves.nil
      rw [hno]
    ·
      refine a_skip ?_
      refine a_region ?_
      refine rv (v := .int _ _) (v_add il il (fun _ => by omega)) ?_
      refine rm (.int _ _) ?_
      refine r_nil ?_
      refine ⟨i + 1, ent_look ⟨wr, wr, wr, Weak.of_eq (int_eq (by omega)), trivial⟩, ⟨by omega, fun j h1 => by rcases Nat.lt_or_ge j i with h | h; exact g2 j h; (obtain rfl : j = i := by omega); simpa using ht16⟩, by omega⟩
  ·
    refine a_exit ?_
    refine a_seq ?_
    have hyes := cnfB_yes (vars := vars) (fun j hj => g2 j (by simp at ht9; omega))
    refine a_region ?_
    refine rv (v := .rp _ _) (v_fieldAddr_rp fo29_0 il) ?_
    refine rv (v := .int _ _) (v_load_rp1 ta3 il rfl (fun _ => rfl) rfl) ?_
    refine rn (v := .bool _) (q_call (vs := [.int _ _]) (args := [.int .i64 _]) hb117 ⟨il, trivial⟩ rfl (fun hA => varsOk_c _) rfl rfl) ?_
    refine rm (.bool _) ?_
    refine rg (v := .rp _ _) (v_fieldAddr_rp fo29_1 il) ?_
    refine r_gval (v := .sl _ _) (v_load_rp1 ta22 (.inr ⟨_, rfl, fun h => h⟩) rfl (fun _ => rfl) rfl) rfl rfl rfl (by decide) (.inl ⟨_, rfl, rfl⟩) rfl (by decide) ?_
    refine r_gval (v := .int _ _) (v_len_sl sl22 (.inr ⟨_, rfl, fun h => h⟩)) rfl rfl rfl (by decide) (.inl ⟨_, rfl, rfl⟩) rfl (by decide) ?_
    refine r_gval (v := .bool _) (v_leq (.inr ⟨_, rfl, fun h => h⟩) il) rfl rfl rfl (by decide) (.inl ⟨_, rfl, rfl⟩) rfl (by decide) ?_
    refine rv (v := .bool _) (v_pick (.inl rfl) (.inr ⟨_, rfl, fun h h2 => by simp_all⟩) (.inl rfl)) ?_
    refine ra (.bool _) ?_
    refine r_nil ?_
    refine a_ret ?_
    refine ret1 Tryz.results81 (by decide) (by decide) (Weak.of_eq (bool_eq ?_)) rfl Leaves.nil
    rw [hyes]; cases inR vars 0 12 <;> simp <;> omega
theorem l2Good_c (vars : Int) (L : List (List Int)) (hk : CnfOk vars L) : ACall Tryz.prog 96 [.agg [.int .i64 vars, .sl (sls L) L.length]] [] (.bool (cnfB vars L)) [] := by
  have hk1 := hk.1
  have hk2 := hk.2.1
  have hk3 := hk.2.2.1
  refine ACall.intro Tryz.func96 rfl (N := 30) rfl (by decide) (by simp) ?_
  refine aq ?_
  refine rn (v := .op [.int _ _, .sl _ _]) (q_box il rfl rfl) ?_
  refine ra (.bool _) ?_
  refine r_nil ?_
  refine a_seq ?_
  refine aq ?_
  refine rv (v := .rp _ _) (v_fieldAddr_rp fo29_0 il) ?_
  refine rv (v := .int _ _) (v_load_rp1 ta3 il rfl (fun _ => rfl) rfl) ?_
  refine rn (v := .bool _) (q_call (vs := [.int _ _]) (args := [.int .i64 _]) hb113 ⟨il, trivial⟩ rfl (fun hA => l2Vars_c _) rfl rfl) ?_
  refine rv (v := .bool _) (v_not il) ?_
  refine rm (.bool _) ?_
  refine rg (v := .rp _ _) (v_fieldAddr_rp fo29_1 il) ?_
  refine r_gval (v := .sl _ _) (v_load_rp1 ta22 (.inr ⟨_, rfl, fun h => h⟩) rfl (fun _ => rfl) rfl) rfl rfl rfl (by decide) (.inl ⟨_, rfl, rfl⟩) rfl (by decide) ?_
  refine r_gval (v := .int _ _) (v_len_sl sl22 (.inr ⟨_, rfl, fun h => h⟩)) rfl rfl rfl (by decide) (.inl ⟨_, rfl, rfl⟩) rfl (by decide) ?_
  refine r_gval (v := .bool _) (v_gtr (.inr ⟨_, rfl, fun h => h⟩) il) rfl rfl rfl (by decide) (.inl ⟨_, rfl, rfl⟩) rfl (by decide) ?_
  refine rv (v := .bool _) (v_pick (.inl rfl) (.inl rfl) (.inr ⟨_, rfl, fun h h2 => by simp_all⟩)) ?_
  refine r_nil ?_
  refine a_cond rfl (fun ht13 => ?_) (fun ht13 => ?_)
  ·
    refine aq ?_
    refine ra (.bool _) ?_
    refine r_nil ?_
    refine a_ret ?_
    refine ret1 Tryz.results96 (by decide) (by decide) (Weak.of_eq (bool_eq ?_)) rfl Leaves.nil
    unfold cnfB; cases h1 : inR vars 0 12 <;> simp [h1] at ht13 ⊢; intro h2; omega
  ·
    refine a_skip ?_
    refine a_seq ?_
    refine aq ?_
    refine ra (.int _ _) ?_
    refine r_nil ?_
    refine a_block ?_
    refine a_loop (X := Nat) (fun i => look [(1, .op [.int .i64 vars, .sl (sls L) L.length]), (3, .int .i64 ((i : Nat) : Int))]) (fun i => i ≤ L.length ∧ ∀ j, j < i → clB vars (gl L j) = true) (fun i => L.length - i) 0 (ent_look ⟨wr, wr, trivial⟩) ⟨Nat.zero_le _, fun j h => by omega⟩ (fun i hG => ?_)
    obtain ⟨g1, g2⟩ := hG
    have hle := len_tot (L := L) (i := i)
    refine a_seq ?_
    refine aq ?_
    refine rm (.int _ _) ?_
    refine rv (v := .rp _ _) (v_fieldAddr_rp fo29_1 il) ?_
    refine rv (v := .sl _ _) (v_load_rp1 ta22 il rfl (fun _ => rfl) rfl) ?_
    refine rv (v := .int _ _) (v_len_sl sl22 il) ?_
    refine rv (v := .bool _) (v_lss il il) ?_
    refine r_nil ?_
    refine a_cond rfl (fun ht18 => ?_) (fun ht18 => ?_)
    ·
      refine a_skip ?_
      refine a_seq ?_
      refine a_block ?_
      refine a_seq ?_
      have hi : i < L.length := (by simp at ht18; omega)
      refine a_region_any mixed (by kernel_rfl) ?_
      refine yv (v := .rp _ _) (v_fieldAddr_rp fo29_0 il) ?_
      refine yv (v := .int _ _) (v_load_rp1 ta3 il rfl (fun _ => rfl) rfl) ?_
      refine yv (v := .rp _ _) (v_fieldAddr_rp fo29_1 il) ?_
      refine yv (v := .sl _ _) (v_load_rp1 ta22 il rfl (fun _ => rfl) rfl) ?_
      refine yv (v := .int _ _) (v_move il nf) ?_
      refine yv (v := .pp _ _) (v_indexAddr_sl es22 il il (fun _ => ⟨by omega, by omega, sls_ne hi⟩)) ?_
      refine yv (v := .sl (icells (gl L i)) (gl L i).length) (v_load_pp ta25 il (fun _ => by rw [Nat.mul_one]; exact sls_get hi) rfl) ?_
      refine y_new (v := .bool _) (q_call (vs := [.int _ _, .sl _ _]) (args := [.int .i64 _, .sl _ _]) hb71 ⟨.inl rfl, .inl rfl, trivial⟩ rfl (fun hA => l2Clause_c vars (gl L i) hk1 (by omega) (fun j => hk.2.2.2 i j)) rfl rfl) rfl rfl (by decide) (by kernel_rfl) ?_
      refine yv (v := .bool _) (v_not il) ?_
      refine y_nil ?_
      refine a_cond rfl (fun ht29 => ?_) (fun ht29 => ?_)
      ·
        refine a_seq ?_
        have hno := cnfB_no hi (by simpa using ht29)
        refine a_region ?_
        refine ra (.bool _) ?_
        refine r_nil ?_
        refine a_ret ?_
        refine ret1 Tryz.results96 (by decide) (by decide) (Weak.of_eq (bool_eq ?_)) rfl Leaves.nil
        rw [hno]
      ·
        refine a_skip ?_
        refine a_region ?_
        refine rm (.int _ _) ?_
        refine rv (v := .int _ _) (v_add il il (fun _ => by omega)) ?_
        refine ra (.int _ _) ?_
        refine r_nil ?_
        refine ⟨i + 1, ent_look ⟨wr, Weak.of_eq (int_eq (by omega)), trivial⟩, ⟨by omega, fun j h1 => by rcases Nat.lt_or_ge j i with h | h; exact g2 j h; (obtain rfl : j = i := by omega); simpa using ht29⟩, by omega⟩
    ·
      refine a_exit ?_
      refine a_seq ?_
      have hyes := cnfB_yes (vars := vars) (fun j hj => g2 j (by simp at ht18; omega))
      refine a_region ?_
      refine ra (.bool _) ?_
      refine r_nil ?_
      refine a_ret ?_
      refine ret1 Tryz.results96 (by decide) (by decide) (Weak.of_eq (bool_eq ?_)) rfl Leaves.nil
      rw [hyes]; cases h1 : inR vars 0 12 <;> simp [h1] at ht13 ⊢; omega
end Go.Av
namespace Go.Av
open Go
section
variable {P : Program} {e : Ctx} {σ τ : Sig} {val : Nat → Value} {w : World} {β : Place → Option (Nat × Nat)} {F : Nat → Prop}
theorem callIO_coreA {f : FuncId} {args vs' : List AV} {res x0 x1 : AV} {q : Place} {vs : List Value} {d : Nat} (hc : ACall P f args [x0] res [x1]) (hn : noSh res = true) (hr : noRef res = true) (hn1 : noSh x1 = true) (hr1 : noRef x1 = true)
    (h : Inv e σ val w β F) (hz : node (σ q.1) q.2 = some x0) (hr0 : refs x0 = []) (hfr : ∀ b arr t fz, (∃ r y s, node x0 r = some y ∧ y.isOwn = true ∧ β (q.1, q.2 ++ r) = some (b, s)) → w.heap[b]? = some (.cells arr t fz) → fz = (0, 0))
    (hl : vs.length = args.length) (ha : RepL (passB q β) (lent (hole σ q) β F) w args (0, []) 0 vs) (hai : ∀ c ∈ args, NoOwn c) (hlen : args.length < INH)
    (hds : d ≠ q.1) (hrs : ∀ p ∈ refs (σ q.1), p.1 ≠ q.1 ∧ p.1 ≠ d)
    (hτ : ∀ i, i ≠ q.1 → τ i = purgeV d (σ i) ∨ τ i = .undef)
    (hτr : ∀ i, i ≠ q.1 → ∀ p ∈ refs (τ i), p.1 = q.1 → ¬ q.2 <+: p.2) :
    Calls P f vs.toArray w fun en w' => ∃ v β', en = .returned v ∧ Inv e (upd (upd τ q.1 (setNode (σ q.1) q.2 x1)) d res) (upd val d v) w' β' F := by
  obtain ⟨u, hu, hput⟩ := (h.rep q.1).zoom hz
  simp only [List.nil_append] at hu
  have hh := h.hole hz
  let inh : Nat → Prop := fun b => ∃ r y s, node x0 r = some y ∧ y.isOwn = true ∧ β (q.1, q.2 ++ r) = some (b, s)
  let G : Nat → Prop := lent (hole σ q) β F
  have inh_own : ∀ {b}, inh b → ∃ p s, OwnAt σ p ∧ β p = some (b, s) ∧ (p.1 = q.1 ∧ q.2 <+: p.2) := fun {b} ⟨r, y, s, hy, ho, hb⟩ => ⟨(q.1, q.2 ++ r), s, ownAt_sub hz hy ho, hb, rfl, List.prefix_append _ _⟩
  have inh_not : ∀ {b}, inh b → ¬ F b ∧ (e.w0.heap.size ≤ b ∨ e.inh b) ∧ ∀ p s, OwnAt (hole σ q) p → β p ≠ some (b, s) := fun {b} hb => by
    obtain ⟨p, s, hp, hpb, hpq⟩ := inh_own hb
    refine ⟨(h.sep p b s hp hpb).1, (h.sep p b s hp hpb).2, fun p' s' hp' hb' => ?_⟩
    obtain ⟨h1, h2⟩ := ownAt_hole hz hp'
    have := h.disj p p' b s s' hp h1 hpb hb'
    subst this
    exact h2 hpq
  have hinv : Inv ⟨w, inh, G, []⟩ (argSig args [x0]) (fun i => if i = INH then u else vs.getD i undef) w (passB q β) G := by
    have own : ∀ {p}, OwnAt (argSig args [x0]) p → p.1 = INH ∧ ∃ y, node x0 p.2 = some y ∧ y.isOwn = true := by
      rintro ⟨i, r⟩ ⟨y, hy, ho⟩
      dsimp only at hy
      unfold argSig at hy
      split at hy
      · cases hx : args[i]? with
        | none => rw [hx] at hy; exact (undef_node hy ho).elim
        | some c =>
          rw [hx] at hy
          rw [hai c (List.mem_of_getElem? hx) r y hy] at ho; cases ho
      · rename_i hi
        cases hj : i - INH with
        | zero =>
          rw [hj] at hy
          exact ⟨by dsimp only; omega, y, by simpa using hy, ho⟩
        | succ k => rw [hj] at hy; simp at hy; exact (undef_node hy ho).elim
    refine ⟨fun i => ?_, fun p p' b s s' hp hp' hb hb' => ?_, fun p b s hp hb => ?_, fun b hb => ⟨?_, fun _ => hb⟩, fun _ _ _ => rfl, Nat.le_refl _, Tame.refl' w (fun b arr t fz hb hh => hfr b arr t fz hb hh)⟩
    · by_cases hi : i = INH
      · subst hi
        rw [argSig_inh']
        simp only [if_true]
        exact hu.tr _ (fun b hb => ⟨.inl hb, rfl⟩) (fun r y _ _ => ⟨by simp [passB], fun _ _ _ => rfl⟩) (fun p hp => by rw [hr0] at hp; cases hp)
      · simp only [hi, if_false]
        unfold argSig
        split
        · cases hx : args[i]? with
          | none => simp [Rep]
          | some c =>
            obtain ⟨u', hu', hru⟩ := RepL_iff.1 ha i c hx
            rw [List.getD_eq_getElem?_getD, hu']
            exact hru.tr _ (fun b hb => ⟨hb, rfl⟩) (fun r y hy ho => by rw [hai c (List.mem_of_getElem? hx) r y hy] at ho; cases ho) (fun _ _ => rfl)
        · have : ([x0] : List AV)[i - INH]? = none := List.getElem?_eq_none (by simp; omega)
          rw [this]; simp [Rep]
    · obtain ⟨h1, y, hy, ho⟩ := own hp
      obtain ⟨h1', y', hy', ho'⟩ := own hp'
      simp only [passB, h1, h1', if_true] at hb hb'
      have := h.disj _ _ b s s' (ownAt_sub hz hy ho) (ownAt_sub hz hy' ho') hb hb'
      simp only [Prod.mk.injEq, true_and] at this
      exact Prod.ext (h1.trans h1'.symm) (List.append_cancel_left this)
    · obtain ⟨h1, y, hy, ho⟩ := own hp
      simp only [passB, h1, if_true] at hb
      have hi : inh b := ⟨p.2, y, s, hy, ho, hb⟩
      refine ⟨fun hG => ?_, .inr hi⟩
      rcases hG with hF | ⟨p', s', hp', hb'⟩
      · exact (inh_not hi).1 hF
      · exact (inh_not hi).2.2 p' s' hp' hb'
    · rcases hb with hb | ⟨p, s, hp, hb⟩
      · exact (h.fr b hb).1
      · exact hh.own_lt hp hb
  refine (hc _ vs _ w _ _ hl (fun i hi => by
    have : i ≠ INH := by omega
    simp [this]) hinv).mono fun en w' ⟨v, β', F', he, hi⟩ => ⟨v, ?_⟩
  have hkept : ∀ b, b < w.heap.size → ¬ inh b → w'.heap[b]? = w.heap[b]? := fun b hb hnb => hi.kept b hb hnb
  have hgrow : w.heap.size ≤ w'.heap.size := hi.grow
  have oldnot : ∀ {p b s}, OwnAt (hole σ q) p → β p = some (b, s) → ¬ inh b := fun {p b s} hp hb hi => (inh_not hi).2.2 p s hp hb
  have hH : Inv e (hole σ q) val w' β F := hh.ext (fun b hb => hkept b (h.fr b hb).1 (fun hi => (inh_not hi).1 hb)) (fun p b s hp hb => hkept b (hh.own_lt hp hb) (oldnot hp hb))
    (fun b hb hni => hkept b (Nat.lt_of_lt_of_le hb h.grow) (fun hi => by
      rcases (inh_not hi).2.1 with h1 | h1
      · omega
      · exact hni h1)) hgrow (h.tame.trans' hi.tame hkept)
  have hres : argSig [res] [x1] 0 = res := argSig_zero _ _
  have hobj : argSig [res] [x1] INH = x1 := argSig_inh _ _
  have newb : ∀ {p b s}, OwnAt (argSig [res] [x1]) p → β' p = some (b, s) → ¬ F b ∧ (e.w0.heap.size ≤ b ∨ e.inh b) ∧ ∀ p' s', OwnAt (hole σ q) p' → β p' ≠ some (b, s') := fun {p b s} hp hb => by
    rcases (hi.sep p b s hp hb).2 with hge | hin
    · have hge : w.heap.size ≤ b := hge
      exact ⟨fun hF => by have := (h.fr b hF).1; omega, .inl (Nat.le_trans h.grow hge), fun p' s' hp' hb' => by have := hh.own_lt hp' hb'; omega⟩
    · exact inh_not hin
  have d0 : Det e (hole σ q) w' β F res v (fun r => β' (0, r)) := by
    refine ⟨?_, refs_of_noRef res hr, fun r r' y y' b s s' hy ho hy' ho' hb hb' => ?_, fun r y b s hy ho hb => newb (p := (0, r)) ⟨y, by rw [hres]; exact hy, ho⟩ hb⟩
    · have := hi.rep 0
      rw [hres, upd_same] at this
      exact (this.noSh (G := F) res hn).tr _ (fun b hb => ⟨hb, rfl⟩) (fun r y _ _ => ⟨by simp, fun _ _ _ => rfl⟩) (fun p hp => by rw [refs_of_noRef res hr] at hp; cases hp)
    · have := hi.disj (0, r) (0, r') b s s' ⟨y, by rw [hres]; exact hy, ho⟩ ⟨y', by rw [hres]; exact hy', ho'⟩ hb hb'
      simpa using this
  have I1 := hH.attach d d0
  have hINH0 : (INH : Nat) ≠ 0 := by decide
  have repX := hi.rep INH
  rw [hobj, upd_other _ _ hINH0] at repX
  simp only [if_true] at repX
  have d1 : Det e (upd (fun i => purgeV d (hole σ q i)) d res) w' (fun p => if p.1 = d then β' (0, p.2) else β p) F x1 u (fun r => β' (INH, r)) := by
    refine ⟨?_, refs_of_noRef x1 hr1, fun r r' y y' b s s' hy ho hy' ho' hb hb' => ?_, fun r y b s hy ho hb => ⟨(newb (p := (INH, r)) ⟨y, by rw [hobj]; exact hy, ho⟩ hb).1, (newb (p := (INH, r)) ⟨y, by rw [hobj]; exact hy, ho⟩ hb).2.1, fun p s' hp hb' => ?_⟩⟩
    · exact (repX.noSh (G := F) x1 hn1).tr _ (fun b hb => ⟨hb, rfl⟩) (fun r y _ _ => ⟨by simp, fun _ _ _ => rfl⟩) (fun p hp => by rw [refs_of_noRef x1 hr1] at hp; cases hp)
    · have := hi.disj (INH, r) (INH, r') b s s' ⟨y, by rw [hobj]; exact hy, ho⟩ ⟨y', by rw [hobj]; exact hy', ho'⟩ hb hb'
      simpa using this
    · by_cases hpd : p.1 = d
      · obtain ⟨y', hy', ho'⟩ := hp
        rw [hpd, upd_same] at hy'
        simp only [hpd, if_true] at hb'
        have := hi.disj (INH, r) (0, p.2) b s s' ⟨y, by rw [hobj]; exact hy, ho⟩ ⟨y', by rw [hres]; exact hy', ho'⟩ hb hb'
        simp [hINH0] at this
      · simp only [hpd, if_false] at hb'
        have hp' := (own_upd_other hpd).1 hp
        have : OwnAt (hole σ q) p := by
          obtain ⟨z, hz', hoz⟩ := hp'
          dsimp only at hz'
          rcases purgeV_or d (hole σ q p.1) with hp | hp
          · rw [hp] at hz'; exact ⟨z, hz', hoz⟩
          · rw [hp] at hz'; exact (undef_node hz' hoz).elim
        exact (newb (p := (INH, r)) ⟨y, by rw [hobj]; exact hy, ho⟩ hb).2.2 p s' this hb'
  have hs1 : upd (fun i => purgeV d (hole σ q i)) d res q.1 = setNode (σ q.1) q.2 .undef := by
    rw [upd_other _ _ (Ne.symm hds)]
    have : hole σ q q.1 = setNode (σ q.1) q.2 .undef := by simp [hole, upd]
    rw [this]
    exact purge_id fun p hp => (hrs p (refs_setNode (by simp [refs]) hz p hp)).2
  have hval : upd val d v q.1 = val q.1 := upd_other _ _ (Ne.symm hds)
  have hnz : node (upd (fun i => purgeV d (hole σ q i)) d res q.1) q.2 = some .undef := by rw [hs1]; exact node_set_self hz
  have fin := I1.put (τ := fun i => if i = d then res else τ i) hnz d1 (by
    rw [hs1, setNode_setNode hz, hval]
    refine hput hr1 ?_ (fun b hb => hkept b (h.fr b hb).1 (fun hi => (inh_not hi).1 hb)) (fun r' y' hy' ho hp => ?_) (fun p hp => ?_)
    · simp only [List.nil_append]
      exact (repX.noSh (G := F) x1 hn1).tr _ (fun b hb => ⟨hb, rfl⟩) (fun r y _ _ => ⟨by
        have := glueAt_in (β := fun p => if p.1 = d then β' (0, p.2) else β p) (t := q.1) (r := q.2) (s := r) (δ := fun r => β' (INH, r))
        simpa using this, fun _ _ _ => rfl⟩) (fun p hp => by rw [refs_of_noRef x1 hr1] at hp; cases hp)
    · simp only [List.nil_append]
      have hne : ¬ (q.2 <+: r') := hp
      refine ⟨by rw [glueAt_out (fun hh => hne hh.2)]; simp [Ne.symm hds], fun b s hb => hkept b (h.own_lt (q := (q.1, r')) ⟨y', hy', ho⟩ hb) (fun hin => ?_)⟩
      obtain ⟨p, s', hp', hpb, hpq⟩ := inh_own hin
      have := h.disj p (q.1, r') b s' s hp' ⟨y', hy', ho⟩ hpb hb
      subst this
      exact hne hpq.2
    · rw [glueAt_out (fun hh => (hrs p hp).1 hh.1)]
      simp [(hrs p hp).2]) (fun i hiq => by
    by_cases hid : i = d
    · subst hid; left; simp [upd_same]
    · simp only [hid, if_false]
      rw [upd_other _ _ hid]
      have : hole σ q i = σ i := by simp [hole, upd, hiq]
      rw [this]
      exact hτ i hiq) (fun i hiq p hp => by
    by_cases hid : i = d
    · subst hid
      simp only [if_true] at hp
      rw [refs_of_noRef res hr] at hp; cases hp
    · simp only [hid, if_false] at hp
      by_cases hpq : p.1 = q.1
      · exact glueAt_out (fun hh => hτr i hiq p hp hpq hh.2)
      · exact glueAt_out (fun hh => hpq hh.1))
  rw [hs1, setNode_setNode hz] at fin
  have e1 : upd (fun i => if i = d then res else τ i) q.1 (setNode (σ q.1) q.2 x1) = upd (upd τ q.1 (setNode (σ q.1) q.2 x1)) d res := by
    funext i
    by_cases h1 : i = q.1
    · subst h1; rw [upd_same, upd_other _ _ (Ne.symm hds), upd_same]
    · by_cases h2 : i = d
      · subst h2; rw [upd_other _ _ h1, upd_same]; simp
      · rw [upd_other _ _ h1, upd_other _ _ h2, upd_other _ _ h1]; simp [h2]
  rw [e1] at fin
  exact ⟨_, he, fin⟩
end
def purgeA (q : Place) : AV → AV
  | .rsl p sz off n cap => if p.1 == q.1 && q.2.isPrefixOf p.2 then .undef else .rsl p sz off n cap
  | .rp p off => if p.1 == q.1 && q.2.isPrefixOf p.2 then .undef else .rp p off
  | .agg cs => if (refsL cs).any (fun p => p.1 == q.1 && q.2.isPrefixOf p.2) then .undef else .agg cs
  | .tup cs => if (refsL cs).any (fun p => p.1 == q.1 && q.2.isPrefixOf p.2) then .undef else .tup cs
  | .fn f us cs => if (refsL us ++ refsL cs).any (fun p => p.1 == q.1 && q.2.isPrefixOf p.2) then .undef else .fn f us cs
  | .when b x => if (refs x).any (fun p => p.1 == q.1 && q.2.isPrefixOf p.2) then .undef else .when b x
  | x => x
theorem purgeA_eq (q : Place) (x : AV) : purgeA q x = if (refs x).any (fun p => p.1 == q.1 && q.2.isPrefixOf p.2) then .undef else x := by
  cases x <;> first | rfl | simp [purgeA, refs]
theorem purgeA_or (q : Place) (x : AV) : purgeA q x = x ∨ purgeA q x = .undef := by
  rw [purgeA_eq]; split
  · exact .inr rfl
  · exact .inl rfl
theorem purgeA_refs {q : Place} {x : AV} {p : Place} (hp : p ∈ refs (purgeA q x)) (h : p.1 = q.1) : ¬ q.2 <+: p.2 := by
  rw [purgeA_eq] at hp
  split at hp
  · simp [refs] at hp
  · rename_i hany
    intro hpre
    refine hany (List.any_eq_true.2 ⟨p, hp, ?_⟩)
    simp [h, hpre]
theorem underP_self (q : Place) : underP q q = some [] := by
  unfold underP
  rw [if_pos (by simp)]
  simp
section
variable {P : Program} {N : Nat} {σ τ : Sig} {o : Oper} {d : Nat}
theorem step_IOA {f : FuncId} {args vs : List AV} {res x0 x1 : AV} {q : Place} {us : Act → List Value} (hc : ACall P f args [x0] res [x1]) (hd : o.dst = some d) (hN : d < N)
    (hrun : ∀ a w gv e β F, All N gv e σ a w → Inv e σ (valOf N gv a) w β F → (execOp a.eval o).run P w = .ok (.enter f (us a).toArray) w ∧ RepL β F w vs (0, []) 0 (us a) ∧ (us a).length = vs.length ∧ ∀ c ∈ vs, NoOwn c)
    (hz : node (σ q.1) q.2 = some x0) (hs : passL q (hole σ q) vs = args) (hr0 : refs x0 = []) (hn : noSh res = true) (hr : noRef res = true) (hn1 : noSh x1 = true) (hr1 : noRef x1 = true)
    (hlen : args.length < INH) (hds : d ≠ q.1) (hrs : (refs (σ q.1)).all (fun p => p.1 != q.1 && p.1 != d) = true)
    (hτ : ∀ i, i ≠ q.1 → τ i = purgeV d (σ i) ∨ τ i = .undef)
    (hτr : ∀ i, i ≠ q.1 → ∀ p ∈ refs (τ i), p.1 = q.1 → ¬ q.2 <+: p.2) :
    OStep P N o σ (upd (upd τ q.1 (setNode (σ q.1) q.2 x1)) d res) := by
  intro gv e a w ha K Q hK
  have ha0 := ha
  obtain ⟨hdf, hsz, β, F, hi⟩ := ha
  obtain ⟨h1, h2, h3, hno⟩ := hrun a w gv e β F ha0 hi
  have hh := hi.hole hz
  have hpass := hh.passL q vs (p' := (0, [])) h2 (fun i c hc => hno c (List.mem_of_getElem? hc))
  rw [hs] at hpass
  have hl : (us a).length = args.length := by rw [h3, ← hs, passL_eq]; simp
  have hrs' : ∀ p ∈ refs (σ q.1), p.1 ≠ q.1 ∧ p.1 ≠ d := fun p hp => by
    have := List.all_eq_true.1 hrs p hp
    simpa using this
  obtain ⟨vz, hvz⟩ := (hi.rep q.1).sub hz
  simp only [List.nil_append] at hvz
  refine upon_enter' h1 ((callIO_coreA hc hn hr hn1 hr1 hi hz hr0 (fun b arr t fz ⟨r, y, s, hy, ho, hb⟩ hh => own_fz hvz hy ho hb hh) hl (hpass) (by rw [← hs]; exact noOwn_passL _ _ _ hno) hlen hds hrs' hτ hτr (vs' := vs)).mono fun en w' ⟨v, β', he, hi'⟩ => ⟨v, he, hK _ _ ⟨?_, ?_, β', F, ?_⟩⟩)
  · rw [hd]; exact hdf
  · rw [hd, size_put]; exact hsz
  · rw [hd, valOf_put hsz hN]; exact hi'
theorem o_callIOa {f : FuncId} {xs : List Operand} {tys : Array TypeId} {vs args : List AV} {res x0 x1 : AV} {q : Place} (ho : o.op = fnCall f xs tys) (hf : hasBody P f = true) (hd : o.dst = some d) (hN : d < N) (hx : RdL N true σ xs vs)
    (hz : node (σ q.1) q.2 = some x0) (hs : passL q (hole σ q) vs = args) (hc : ACall P f args [x0] res [x1])
    (hr0 : refs x0 = []) (hn : noSh res = true) (hr : noRef res = true) (hn1 : noSh x1 = true) (hr1 : noRef x1 = true) (hlen : args.length < INH) (hds : d ≠ q.1) (hrs : (refs (σ q.1)).all (fun p => p.1 != q.1 && p.1 != d) = true) :
    OStep P N o σ (upd (upd (fun i => purgeA q (purgeV d (σ i))) q.1 (setNode (σ q.1) q.2 x1)) d res) :=
  step_IOA (us := fun a => xs.map a.eval) hc hd hN (fun a w gv e β F _ hi => run_fnCall ho hf hx hi) hz hs hr0 hn hr hn1 hr1 hlen hds hrs
    (fun i _ => by
      rcases purgeA_or q (purgeV d (σ i)) with h | h
      · exact .inl h
      · exact .inr h) (fun i _ p hp hpq => purgeA_refs hp hpq)
end
end Go.Av
namespace Go.Av
open Go Go.Proofs Go.Sort
theorem hb14 : hasBody Tryz.prog 14 = true := by kernel_rfl
theorem hb15 : hasBody Tryz.prog 15 = true := by kernel_rfl
theorem markIntSS_c (L : List (List Int)) (k : Int) (h : -1000000000 ≤ k ∧ k ≤ 1000000000) (hL : L.length ≤ 1048576) (ht : tot L L.length ≤ 1048576) : ACall Tryz.prog 15 [.rsl (INH, []) 1 0 L.length none, .int .i64 k] [.osl 1 (osls L) L.length none] (.int .i64 (k + (tot L L.length : Nat))) [.osl 1 (osls (mkSS k L)) L.length none] := by
 refine ACall.intro Tryz.func15 rfl (N := 19) rfl (by decide) (by simp) ?_
 refine aq ?_
 refine ra (.int _ _) ?_
 refine r_nil ?_
 refine a_seq ?_
 refine aq ?_
 refine ra (.int _ _) ?_
 refine r_nil ?_
 refine a_block ?_
 refine a_loop (X := Nat) (fun i => look [(0, .rsl (INH, []) 1 0 L.length none), (1, .int .i64 (k + (tot L i : Nat))), (5, .int .i64 ((i : Nat) : Int)), (INH, .osl 1 (osls (mkSSP k L i)) L.length none)]) (fun i => i ≤ L.length) (fun i => L.length - i) 0 (ent_look ⟨wr, Weak.of_eq (int_eq (by simp [tot_zero])), wr, Weak.of_eq (osl_eq (by rw [mkSSP_zero])), trivial⟩) (Nat.zero_le _) (fun i hG => ?_)
 have htl := tot_le L i
 have htl1 := tot_le L (i + 1)
 have hle := len_tot (L := L) (i := i)
 refine a_seq ?_
 refine aq ?_
 refine rm (.int _ _) ?_
 refine rm (.rsl _ _ _ _ _) ?_
 refine rv (v := .int _ _) (v_len_rsl sl22 il) ?_
 refine rv (v := .bool _) (v_lss il il) ?_
 refine r_nil ?_
 refine a_cond rfl (fun ht9 => ?_) (fun ht9 => ?_)
 ·
  refine a_skip ?_
  refine a_seq ?_
  refine a_block ?_
  have hi : i < L.length := (by simp at ht9; omega)
  have hil : i < (mkSSP k L i).length := (by rw [mkSSP_length (by omega)]; omega)
  have hz : (osls (mkSSP k L i))[i]? = some (.osl 1 (icells (gl L i)) (gl L i).length none) := (by rw [osls_get hil, mkSSP_get hi])
  have hset : (osls (mkSSP k L i)).set i (.osl 1 (icells (mkI (k + (tot L i : Nat)) (gl L i).length)) (gl L i).length none) = osls (mkSSP k L (i + 1)) := (by rw [← mkSSP_set hi, ← osls_set, mkI_len])
  refine a_region ?_
  refine rm (.rsl _ _ _ _ _) ?_
  refine rm (.int _ _) ?_
  refine rv (v := .rp _ _) (v_indexAddr_rsl0 es22 il il (fun _ => by omega)) ?_
  refine rv (v := .rsl (INH, [i]) 1 0 (gl L i).length none) ((v_load_rp (c := .osl 1 (icells (gl L i)) (gl L i).length none) ta25 il rfl (fun _ => by rw [Nat.mul_one]; exact hz)).cast (by show AV.rsl (INH, [] ++ [(i : Int).toNat * 1]) 1 0 (gl L i).length none = _; rw [Nat.mul_one]; rfl)) ?_
  refine rm (.int _ _) ?_
  refine r_step rfl (o_callIOa (q := (INH, [i])) (vs := [.rsl _ _ _ _ _, .int _ _]) (args := [.rsl (INH, []) 1 0 (gl L i).length none, .int .i64 _]) (x0 := .osl 1 (icells (gl L i)) (gl L i).length none) (x1 := .osl 1 (icells (mkI (k + (tot L i : Nat)) (gl L i).length)) (gl L i).length none) (res := .int _ _) rfl hb14 rfl (by decide) ⟨.inl rfl, .inl rfl, trivial⟩ (by show (match (osls (mkSSP k L i))[i]? with | some y => node y [] | none => none) = _; rw [hz]; rfl) (by simp only [passL, passV, underP_self, snapV]) (markIntS_c (gl L i) _ (by omega)) rfl rfl rfl (ic_noSh _) (ic_noRef _) (Nat.le_of_ble_eq_true rfl) (by show 17 ≠ INH; decide) rfl) ?_
  refine r_pre (ent_eq (t := INH) (v' := .osl 1 (osls (mkSSP k L (i + 1))) L.length none) (Weak.of_eq (by show setNode (AV.osl 1 (osls (mkSSP k L i)) L.length none) [i] _ = _; simp only [setNode, kids, hz, setKids]; rw [hset]))) ?_
  refine ra (.int _ _) ?_
  refine r_nil ?_
  refine a_region ?_
  refine rm (.int _ _) ?_
  refine rv (v := .int _ _) (v_add il il (fun _ => by omega)) ?_
  refine ra (.int _ _) ?_
  refine r_nil ?_
  refine ⟨i + 1, ent_look ⟨wr, Weak.of_eq (int_eq (by rw [tot_more hi]; omega)), Weak.of_eq (int_eq (by omega)), wr, trivial⟩, by omega, by omega⟩
 ·
  refine a_exit ?_
  refine aq ?_
  refine rm (.int _ _) ?_
  refine ra (.int _ _) ?_
  refine r_nil ?_
  refine a_ret ?_
  refine ret1 Tryz.results15 (by decide) (by decide) (Weak.of_eq (int_eq ?_)) rfl (Leaves.one (Weak.of_eq (osl_eq (by simp at ht9; rw [mkSSP_full (by omega)]))) rfl)
  simp at ht9; rw [show i = L.length by omega]
theorem markIntSS0_c (k : Int) : ACall Tryz.prog 15 [.sl [] 0, .int .i64 k] [] (.int .i64 k) [] := by
 refine ACall.intro Tryz.func15 rfl (N := 19) rfl (by decide) (by simp) ?_
 refine aq ?_
 refine ra (.int _ _) ?_
 refine r_nil ?_
 refine a_seq ?_
 refine aq ?_
 refine ra (.int _ _) ?_
 refine r_nil ?_
 refine a_block ?_
 refine a_loop (X := Unit) (fun _u => look [(0, .sl [] 0), (1, .int .i64 k), (5, .int .i64 0)]) (fun _u => True) (fun _u => 0) () (ent_look ⟨wr, wr, wr, trivial⟩) trivial (fun _u hG => ?_)
 refine a_seq ?_
 refine aq ?_
 refine rm (.int _ _) ?_
 refine rm (.sl _ _) ?_
 refine rv (v := .int _ _) (v_len_sl sl22 il) ?_
 refine rv (v := .bool _) (v_lss il il) ?_
 refine r_nil ?_
 refine a_cond rfl (fun ht9 => ?_) (fun ht9 => ?_)
 ·
  refine a_skip ?_
  refine a_seq ?_
  refine a_block ?_
  exfalso
  simp at ht9
 ·
  refine a_exit ?_
  refine aq ?_
  refine rm (.int _ _) ?_
  refine ra (.int _ _) ?_
  refine r_nil ?_
  refine a_ret ?_
  refine ret1 Tryz.results15 (by decide) (by decide) (Weak.of_eq (int_eq ?_)) rfl Leaves.nil
  rfl
theorem markCnf0_c (vars k : Int) : ACall Tryz.prog 13 [.agg [.int .i64 vars, .rsl (INH, []) 1 0 0 none], .int .i64 k] [.osl 1 [] 0 none] (.int .i64 k) [.osl 1 [] 0 none] := by
 refine ACall.intro Tryz.func13 rfl (N := 10) rfl (by decide) (by simp) ?_
 refine a_seq ?_
 refine a_pre (ent_eq (t := 0) (v' := .agg [.int .i64 vars, .sl [] 0]) (Weak.agg ⟨wr, Weak.rsl_emp, trivial⟩)) ?_
 refine a_region ?_
 refine rn (v := .op [.int _ _, .sl _ _]) (q_box il rfl rfl) ?_
 refine ra (.int _ _) ?_
 refine r_nil ?_
 refine aq ?_
 refine rv (v := .rp _ _) (v_fieldAddr_rp fo29_1 il) ?_
 refine rv (v := .sl _ _) (v_load_rp1 ta22 il rfl (fun _ => rfl) rfl) ?_
 refine rm (.int _ _) ?_
 refine rn (v := .int _ _) (q_call (vs := [.sl _ _, .int _ _]) (args := [.sl [] 0, .int .i64 _]) hb15 ⟨il, il, trivial⟩ rfl (fun hA => markIntSS0_c _) rfl rfl) ?_
 refine ra (.int _ _) ?_
 refine r_nil ?_
 refine aq ?_
 refine rm (.int _ _) ?_
 refine ra (.int _ _) ?_
 refine r_nil ?_
 refine a_ret ?_
 refine ret1 Tryz.results13 (by decide) (by decide) (Weak.of_eq (int_eq ?_)) rfl (Leaves.one (wr) rfl)
 rfl
theorem markCnf1_c (vars : Int) (L : List (List Int)) (k : Int) (h : -1000000000 ≤ k ∧ k ≤ 1000000000) (hL : L.length ≤ 1048576) (ht : tot L L.length ≤ 1048576) (hn : 0 < L.length) : ACall Tryz.prog 13 [.agg [.int .i64 vars, .rsl (INH, []) 1 0 L.length none], .int .i64 k] [.osl 1 (osls L) L.length none] (.int .i64 (k + (tot L L.length : Nat))) [.osl 1 (osls (mkSS k L)) L.length none] := by
 refine ACall.intro Tryz.func13 rfl (N := 10) rfl (by decide) (by simp) ?_
 refine aq ?_
 refine r_step rfl (o_box_ref (fs := [.int _ _]) (bs := []) rfl rfl (by decide) (by decide) (by decide) rfl rfl rfl rfl) ?_
 refine ra (.int _ _) ?_
 refine r_nil ?_
 refine aq ?_
 refine rv (v := .rp _ _) (v_fieldAddr_rp fo29_1 il) ?_
 refine rv (v := .rsl _ _ _ _ _) (v_load_rp (c := .osl _ _ _ _) ta22 il rfl (fun _ => rfl)) ?_
 refine rm (.int _ _) ?_
 refine r_step rfl (o_callIOk (q := (2, [1])) (vs := [.rsl _ _ _ _ _, .int _ _]) (args := [.rsl (INH, []) _ _ _ _, .int .i64 _]) (x0 := .osl _ _ _ _) (x1 := .osl _ _ _ _) (res := .int _ _) rfl hb15 rfl (by decide) ⟨.inl rfl, .inl rfl, trivial⟩ rfl rfl (markIntSS_c L k h hL ht) (by simp [stays]; omega) rfl rfl rfl (osls_noSh _) (osls_noRef _) (Nat.le_of_ble_eq_true rfl) (by decide) rfl) ?_
 refine ra (.int _ _) ?_
 refine r_nil ?_
 refine aq ?_
 refine rm (.int _ _) ?_
 refine ra (.int _ _) ?_
 refine r_nil ?_
 refine a_pre (ent_reloc_sl (t := INH) rfl rfl) ?_
 refine a_ret ?_
 refine ret1 Tryz.results13 (by decide) (by decide) (Weak.of_eq (int_eq ?_)) rfl (Leaves.one (wr) rfl)
 rfl
theorem markCnf_c (vars : Int) (L : List (List Int)) (k : Int) (h : -1000000000 ≤ k ∧ k ≤ 1000000000) (hL : L.length ≤ 1048576) (ht : tot L L.length ≤ 1048576) :
  ACall Tryz.prog 13 [.agg [.int .i64 vars, .rsl (INH, []) 1 0 L.length none], .int .i64 k] [.osl 1 (osls L) L.length none] (.int .i64 (k + (tot L L.length : Nat))) [.osl 1 (osls (mkSS k L)) L.length none] := by
 cases L with
 | nil =>
  have := markCnf0_c vars k
  simpa [tot, osls, mkSS] using this
 | cons c L => exact markCnf1_c vars (c :: L) k h hL ht (by simp)
end Go.Av
namespace Go.Av
open Go
section
variable {P : Program} {N : Nat} {A : Bool} {σ τ : Sig} {ty : TypeId}
variable {e : Ctx} {val : Nat → Value} {w : World} {β : Place → Option (Nat × Nat)} {F : Nat → Prop} {x : AV} {d : Nat}
theorem Inv.freeze (h : Inv e (upd τ d x) val w β F) (hf : ∀ r y b s, node x r = some y → y.isOwn = true → β (d, r) = some (b, s) → e.w0.heap.size ≤ b) :
    Inv e (upd τ d (sh x)) val w β (fun b => F b ∨ ∃ r y s, node x r = some y ∧ y.isOwn = true ∧ β (d, r) = some (b, s)) := by
  have own : ∀ q, OwnAt (upd τ d (sh x)) q → q.1 ≠ d ∧ OwnAt (upd τ d x) q := fun q hq => by
    by_cases hi : q.1 = d
    · obtain ⟨y, hy, ho⟩ := hq
      rw [hi, upd_same] at hy
      rw [pure_own (pure_sh x) hy] at ho; cases ho
    · exact ⟨hi, (own_upd_other hi).2 ((own_upd_other hi).1 hq)⟩
  have hx := h.rep d
  rw [upd_same] at hx
  have ownx : ∀ r y, node x r = some y → y.isOwn = true → OwnAt (upd τ d x) (d, r) := fun r y hy ho => ⟨y, by rw [upd_same]; exact hy, ho⟩
  refine ⟨fun i => ?_, fun q q' b s s' hq hq' => h.disj q q' b s s' (own q hq).2 (own q' hq').2, fun q b s hq hb => ⟨?_, (h.sep q b s (own q hq).2 hb).2⟩, fun b hb => ?_, h.kept, h.grow, h.tame⟩
  · by_cases hi : i = d
    · subst hi
      rw [upd_same]
      exact hx.sh x (fun b hb => .inl hb) (fun r y b s hy ho hb => .inr ⟨r, y, s, hy, ho, by simpa using hb⟩)
    · have := h.rep i
      rw [upd_other _ _ hi] at this ⊢
      exact this.tr _ (fun b hb => ⟨.inl hb, rfl⟩) (fun _ _ _ _ => ⟨rfl, fun _ _ _ => rfl⟩) (fun _ _ => rfl)
  · rintro (hF | ⟨r, y, s', hy, ho, hb'⟩)
    · exact (h.sep q b s (own q hq).2 hb).1 hF
    · have := h.disj q (d, r) b s s' (own q hq).2 (ownx r y hy ho) hb hb'
      exact (own q hq).1 (by rw [this])
  · rcases hb with hb | ⟨r, y, s, hy, ho, hb⟩
    · exact h.fr b hb
    · refine ⟨h.own_lt (ownx r y hy ho) hb, fun hlt => ?_⟩
      have := hf r y b s hy ho hb
      omega
theorem q_sliceLitZ {t n sz : Nat} {zs cs : List AV} {parts : List (Nat × Operand)} (h : litTy P t = some (sz, zs)) (hsm : Nat.ble (n * sz) 16777216 = true)
    (hf : fillA (fun i => some (i * sz, sz)) (rep n zs) (parts.map fun x => (x.1, rd N σ x.2)) = some cs) (hl : Nat.beq cs.length (n * sz) = true) (hp : pureL cs = true) :
    QSem P N A (sliceLit t n parts) ty σ (slotsL (parts.map (·.2))) (.sl (shL cs) n) := by
  intro hA σ' hD gv e a w β F hi d o ho hty K Q hK
  obtain ⟨el, arr0, harr, hrun⟩ := run_lit h (Nat.le_of_ble_eq_true hsm)
  obtain ⟨cells, he, hc1, hc2, hc3⟩ := fill_spec (β := β) (F := F) (w := w) (parts.map fun x => (x.1, rd N σ x.2)) (parts.map fun x => (x.1, a.eval x.2)) _ arr0 cs (harr β F w) (by simp)
      (fun j i v hj => by
        rw [List.getElem?_map] at hj
        cases hp : parts[j]? with
        | none => rw [hp] at hj; cases hj
        | some x =>
          rw [hp] at hj
          simp only [Option.map_some, Option.some.injEq, Prod.mk.injEq] at hj
          obtain ⟨rfl, rfl⟩ := hj
          refine ⟨noOwn_rd _, a.eval x.2, (0, []), by rw [List.getElem?_map, hp]; rfl, ?_⟩
          have := rd_rep hi x.2 (0, [])
          rwa [rd_agree (fun i hi' => hD i (List.mem_flatMap.2 ⟨x.2, List.mem_map.2 ⟨x, List.mem_of_getElem? hp, rfl⟩, hi'⟩))] at this) hf
  have hr := hrun (parts.map fun x => (x.1, a.eval x.2)).toArray cells w (by simpa using he)
  obtain ⟨β', h'⟩ := hi.new_osl (us := cells.toList) (by simpa using hc1) hc3 hp el d (arr := cells) (sz := sz) (n := n) (capv := n) (cap := some n) (fun j x hx => hx) (by rw [hc1]; exact Nat.eq_of_beq_eq_true hl) (Nat.le_refl _) (fun c hc => by cases hc; rfl)
  have hfz := h'.freeze (fun r y b s hy hyo hb => by
    cases r with
    | nil =>
      have hrep := h'.rep d
      rw [upd_same, upd_same] at hrep
      simp only [Rep] at hrep
      rcases hrep with ⟨h1, _⟩ | ⟨_, b', _, _, _, h1, h2, _⟩
      · rw [h1] at hb; cases hb
      · rw [h1] at hb; cases hb
        simp only [Value.slice.injEq, Option.some.injEq, Addr.mk.injEq] at h2
        have := hi.grow
        omega
    | cons j r =>
      simp only [node, kids] at hy
      cases hc : cs[j]? with
      | none => rw [hc] at hy; cases hy
      | some c =>
        rw [hc] at hy
        rw [pure_own (pureL_mem hp (List.mem_of_getElem? hc)) hy] at hyo; cases hyo)
  refine wp_value (v := .slice (some ⟨w.heap.size, 0, none⟩) n n) (w' := w.alloc (.cells cells el)) ?_ (hK _ _ ⟨β', _, hfz⟩)
  simp only [execOp, ho, sliceLit, List.map_toArray, hr, Sem.run_bind, Sem.run_pure, Result.andThen_ok]
theorem call_coreZ {f : FuncId} {args : List AV} {res : AV} (hc : ACall P f args [] res []) (hp : pureL args = true) (hn : noSh res = true) (hr : noRef res = true) (h : Inv e σ val w β F) {vs : List Value}
    (hl : vs.length = args.length) (ha : RepL (fun _ => none) (lent σ β F) w args (0, []) 0 vs) (d : Nat) :
    Calls P f vs.toArray w fun en w' => ∃ v β' F', en = .returned v ∧ Inv e (upd (fun i => purgeV d (σ i)) d (sh res)) (upd val d v) w' β' F' := by
  have hinv : Inv ⟨w, fun _ => False, lent σ β F, []⟩ (argSig args []) (fun i => vs.getD i undef) w (fun _ => none) (lent σ β F) := by
    refine ⟨fun i => ?_, fun q q' b s s' hq => (noOwn_argSig hp q hq).elim, fun q b s hq => (noOwn_argSig hp q hq).elim, fun b hb => ⟨?_, fun _ => hb⟩, fun _ _ _ => rfl, Nat.le_refl _, Tame.refl _⟩
    · unfold argSig
      split
      · cases hx : args[i]? with
        | none => simp [Rep]
        | some c =>
          obtain ⟨u, hu, hru⟩ := RepL_iff.1 ha i c hx
          rw [List.getD_eq_getElem?_getD, hu]
          exact hru.pure_any (pureL_mem hp (List.mem_of_getElem? hx))
      · simp [Rep]
    · rcases hb with hb | ⟨q, s, hq, hb⟩
      · exact (h.fr b hb).1
      · exact h.own_lt hq hb
  refine (hc _ vs _ w _ _ hl (fun _ _ => rfl) hinv).mono fun en w' ⟨v, β', F', he, hi⟩ => ⟨v, ?_⟩
  have hkept : ∀ b, b < w.heap.size → w'.heap[b]? = w.heap[b]? := fun b hb => hi.kept b hb (fun h => h)
  have hI := h.more hkept hi.grow (h.tame.trans hi.tame hkept)
  have h0 : argSig [res] [] 0 = res := by simp [argSig, INH]
  have hge : ∀ r y b s, node res r = some y → y.isOwn = true → β' (0, r) = some (b, s) → w.heap.size ≤ b := fun r y b s hy ho hb => by
    have hs := hi.sep (0, r) b s ⟨y, by rw [h0]; exact hy, ho⟩ hb
    rcases hs.2 with h | h; exact h; exact h.elim
  have hdet : Det e σ w' β F res v (fun r => β' (0, r)) := by
    refine ⟨?_, refs_of_noRef res hr, ?_, ?_⟩
    · have := hi.rep 0
      rw [h0, upd_same] at this
      exact (this.noSh (G := F) res hn).tr _ (fun b hb => ⟨hb, rfl⟩) (fun r y _ _ => ⟨by simp, fun _ _ _ => rfl⟩) (fun q hq => by rw [refs_of_noRef res hr] at hq; cases hq)
    · intro r r' y y' b s s' hy ho hy' ho' hb hb'
      have := hi.disj (0, r) (0, r') b s s' ⟨y, by rw [h0]; exact hy, ho⟩ ⟨y', by rw [h0]; exact hy', ho'⟩ hb hb'
      simpa using this
    · intro r y b s hy ho hb
      have hge := hge r y b s hy ho hb
      exact ⟨fun hF => by have := (h.fr b hF).1; omega, .inl (Nat.le_trans h.grow hge), fun q s' hq hb' => by have := h.own_lt hq hb'; omega⟩
  exact ⟨_, _, he, (hI.attach d hdet).freeze (fun r y b s hy ho hb => Nat.le_trans h.grow (hge r y b s hy ho (by simpa using hb)))⟩
theorem q_callZ {f : FuncId} {xs : List Operand} {tys : Array TypeId} {vs args : List AV} {res : AV} (hf : hasBody P f = true) (hx : RdL N A σ xs vs) (hs : snapL σ vs = args) (hc : A = true → ACall P f args [] res [])
    (hn : noSh res = true) (hr : noRef res = true) : QSem P N A (fnCall f xs tys) ty σ (slotsL xs ++ refRoots vs) (sh res) := by
  intro hA σ' hD gv e a w β F hi d o ho hty K Q hK
  have hp : pureL args = true := by rw [← hs]; exact pure_snapL σ _
  obtain ⟨hrep, hlen, hno⟩ := RdL.rep hA hi (0, []) (j := 0) hx (agree_l hD)
  have hsn := hi.snapL (β0 := fun _ => none) _ (p' := (0, [])) hrep (fun i c hc => hno c (List.mem_of_getElem? hc))
  have e2 : snapL σ' vs = args := by rw [← hs]; exact snapL_congr _ fun q hq => hD q.1 (List.mem_append_right _ (refRoots_mem hq))
  rw [e2] at hsn
  have hl : (xs.map a.eval).length = args.length := by rw [← e2, snapL_eq, hlen]; simp
  refine upon_enter' (f := f) (args := (xs.map a.eval).toArray) ?_ ((call_coreZ (hc hA) hp hn hr hi hl hsn d).mono fun en w' ⟨v, β', F', he, hi'⟩ => ⟨v, he, hK _ _ ⟨β', F', hi'⟩⟩)
  simp [execOp, ho, fnCall, resolve, Deferred.ofValue, Act.eval, invoke, run_callFunc_body hf]
end
end Go.Av
namespace Go.Av
open Go
theorem sl_shZ {cs : List AV} {n m : Nat} {c : Option Nat} (h : pureL cs = true ∧ noNilL cs = true) : sh (.osl m cs n c) = .sl cs n := by simp only [sh, shL_id cs h.1 h.2]
end Go.Av
namespace Go.Av
open Go
def shT : AV → AV
  | .tup cs => .tup (shL cs)
  | x => sh x
theorem shT_own {x : AV} {r : List Nat} {y : AV} (h : node (shT x) r = some y) : y.isOwn = false := by
  cases x
  case tup cs =>
    cases r with
    | nil => simp [shT, node] at h; subst h; rfl
    | cons j r =>
      simp only [shT, node, kids] at h
      cases hc : (shL cs)[j]? with
      | none => rw [hc] at h; cases h
      | some c =>
        rw [hc] at h
        exact pure_own (pureL_mem (pure_shL cs) (List.mem_of_getElem? hc)) h
  all_goals exact pure_own (pure_sh _) h
theorem Rep.shT {x : AV} {F G : Nat → Prop} {w : World} {β β0 : Place → Option (Nat × Nat)} {p p' : Place} {v : Value} (h : Rep β F w x p v) (hF : ∀ b, F b → G b)
    (hG : ∀ r y b s, node x r = some y → y.isOwn = true → β (p.1, p.2 ++ r) = some (b, s) → G b) : Rep β0 G w (Av.shT x) p' v := by
  cases x
  case tup cs =>
    simp only [Rep] at h
    obtain ⟨vs, rfl, hl, h⟩ := h
    simp only [Av.shT, Rep]
    exact ⟨vs, rfl, by simp [shL_eq, hl], RepL.sh cs h hF (fun i c r y b s hc hy ho hb => hG (i :: r) y b s (by simp [node, kids, hc, hy]) ho (by simpa using hb))⟩
  all_goals exact h.sh _ hF hG
section
variable {P : Program} {N : Nat} {A : Bool} {σ τ : Sig} {ty : TypeId}
variable {e : Ctx} {val : Nat → Value} {w : World} {β : Place → Option (Nat × Nat)} {F : Nat → Prop} {x : AV} {d : Nat}
theorem Inv.freezeT (h : Inv e (upd τ d x) val w β F) (hf : ∀ r y b s, node x r = some y → y.isOwn = true → β (d, r) = some (b, s) → e.w0.heap.size ≤ b) :
    Inv e (upd τ d (shT x)) val w β (fun b => F b ∨ ∃ r y s, node x r = some y ∧ y.isOwn = true ∧ β (d, r) = some (b, s)) := by
  have own : ∀ q, OwnAt (upd τ d (shT x)) q → q.1 ≠ d ∧ OwnAt (upd τ d x) q := fun q hq => by
    by_cases hi : q.1 = d
    · obtain ⟨y, hy, ho⟩ := hq
      rw [hi, upd_same] at hy
      rw [shT_own hy] at ho; cases ho
    · exact ⟨hi, (own_upd_other hi).2 ((own_upd_other hi).1 hq)⟩
  have hx := h.rep d
  rw [upd_same] at hx
  have ownx : ∀ r y, node x r = some y → y.isOwn = true → OwnAt (upd τ d x) (d, r) := fun r y hy ho => ⟨y, by rw [upd_same]; exact hy, ho⟩
  refine ⟨fun i => ?_, fun q q' b s s' hq hq' => h.disj q q' b s s' (own q hq).2 (own q' hq').2, fun q b s hq hb => ⟨?_, (h.sep q b s (own q hq).2 hb).2⟩, fun b hb => ?_, h.kept, h.grow, h.tame⟩
  · by_cases hi : i = d
    · subst hi
      rw [upd_same]
      exact hx.shT (fun b hb => .inl hb) (fun r y b s hy ho hb => .inr ⟨r, y, s, hy, ho, by simpa using hb⟩)
    · have := h.rep i
      rw [upd_other _ _ hi] at this ⊢
      exact this.tr _ (fun b hb => ⟨.inl hb, rfl⟩) (fun _ _ _ _ => ⟨rfl, fun _ _ _ => rfl⟩) (fun _ _ => rfl)
  · rintro (hF | ⟨r, y, s', hy, ho, hb'⟩)
    · exact (h.sep q b s (own q hq).2 hb).1 hF
    · have := h.disj q (d, r) b s s' (own q hq).2 (ownx r y hy ho) hb hb'
      exact (own q hq).1 (by rw [this])
  · rcases hb with hb | ⟨r, y, s, hy, ho, hb⟩
    · exact h.fr b hb
    · refine ⟨h.own_lt (ownx r y hy ho) hb, fun hlt => ?_⟩
      have := hf r y b s hy ho hb
      omega
theorem call_coreFZ {f : FuncId} {args : List AV} {res : AV} (hc : ACall P f args [] res []) (hp : pureL args = true) (hr : noRef res = true) (h : Inv e σ val w β F) {vs : List Value}
    (hl : vs.length = args.length) (ha : RepL (fun _ => none) F w args (0, []) 0 vs) (d : Nat) :
    Calls P f vs.toArray w fun en w' => ∃ v β' F', en = .returned v ∧ Inv e (upd (fun i => purgeV d (σ i)) d (shT res)) (upd val d v) w' β' F' := by
  have hinv : Inv ⟨w, fun _ => False, F, []⟩ (argSig args []) (fun i => vs.getD i undef) w (fun _ => none) F := by
    refine ⟨fun i => ?_, fun q q' b s s' hq => (noOwn_argSig hp q hq).elim, fun q b s hq => (noOwn_argSig hp q hq).elim, fun b hb => ⟨(h.fr b hb).1, fun _ => hb⟩, fun _ _ _ => rfl, Nat.le_refl _, Tame.refl _⟩
    unfold argSig
    split
    · cases hx : args[i]? with
      | none => simp [Rep]
      | some c =>
        obtain ⟨u, hu, hru⟩ := RepL_iff.1 ha i c hx
        rw [List.getD_eq_getElem?_getD, hu]
        exact hru.pure_any (pureL_mem hp (List.mem_of_getElem? hx))
    · simp [Rep]
  refine (hc _ vs _ w _ _ hl (fun _ _ => rfl) hinv).mono fun en w' ⟨v, β', F', he, hi⟩ => ⟨v, ?_⟩
  have hkept : ∀ b, b < w.heap.size → w'.heap[b]? = w.heap[b]? := fun b hb => hi.kept b hb (fun h => h)
  have hF' : ∀ b, F' b → F b ∨ w.heap.size ≤ b := fun b hb => by
    rcases Nat.lt_or_ge b w.heap.size with hlt | hge
    · exact .inl ((hi.fr b hb).2 hlt)
    · exact .inr hge
  have hI : Inv e σ val w' β (fun b => F b ∨ F' b) := (h.more hkept hi.grow (h.tame.trans hi.tame hkept)).moreF (fun b hb => .inl hb) (fun b hb => by
    rcases hb with hb | hb
    · exact ⟨Nat.lt_of_lt_of_le (h.fr b hb).1 hi.grow, (h.fr b hb).2⟩
    · refine ⟨(hi.fr b hb).1, fun hlt => ?_⟩
      rcases hF' b hb with hb | hge
      · exact (h.fr b hb).2 hlt
      · have := h.grow; omega) (fun q b s hq hb hF => by
    rcases hF with hF | hF
    · exact (h.sep q b s hq hb).1 hF
    · rcases hF' b hF with hF | hge
      · exact (h.sep q b s hq hb).1 hF
      · have := h.own_lt hq hb; omega)
  have h0 : argSig [res] [] 0 = res := by simp [argSig, INH]
  have hge : ∀ r y b s, node res r = some y → y.isOwn = true → β' (0, r) = some (b, s) → w.heap.size ≤ b := fun r y b s hy ho hb => by
    have hs := hi.sep (0, r) b s ⟨y, by rw [h0]; exact hy, ho⟩ hb
    rcases hs.2 with h | h; exact h; exact h.elim
  have hdet : Det e σ w' β (fun b => F b ∨ F' b) res v (fun r => β' (0, r)) := by
    refine ⟨?_, refs_of_noRef res hr, ?_, ?_⟩
    · have := hi.rep 0
      rw [h0, upd_same] at this
      exact this.tr _ (fun b hb => ⟨.inr hb, rfl⟩) (fun r y _ _ => ⟨by simp, fun _ _ _ => rfl⟩) (fun q hq => by rw [refs_of_noRef res hr] at hq; cases hq)
    · intro r r' y y' b s s' hy ho hy' ho' hb hb'
      have := hi.disj (0, r) (0, r') b s s' ⟨y, by rw [h0]; exact hy, ho⟩ ⟨y', by rw [h0]; exact hy', ho'⟩ hb hb'
      simpa using this
    · intro r y b s hy ho hb
      have hs := hi.sep (0, r) b s ⟨y, by rw [h0]; exact hy, ho⟩ hb
      have hge := hge r y b s hy ho hb
      refine ⟨fun hF => ?_, .inl (Nat.le_trans h.grow hge), fun q s' hq hb' => by have := h.own_lt hq hb'; omega⟩
      rcases hF with hF | hF
      · have := (h.fr b hF).1; omega
      · exact hs.1 hF
  exact ⟨_, _, he, (hI.attach d hdet).freezeT (fun r y b s hy ho hb => Nat.le_trans h.grow (hge r y b s hy ho (by simpa using hb)))⟩
theorem q_callFZ {f : FuncId} {xs : List Operand} {tys : Array TypeId} {vs args : List AV} {res : AV} (hf : hasBody P f = true) (hx : RdL N A σ xs vs) (hs : snapL σ vs = args) (hc : A = true → ACall P f args [] res [])
    (hnr : noRefL vs = true) (hr : noRef res = true) : QSem P N A (fnCall f xs tys) ty σ (slotsL xs ++ refRoots vs) (shT res) := by
  intro hA σ' hD gv e a w β F hi d o ho hty K Q hK
  have hp : pureL args = true := by rw [← hs]; exact pure_snapL σ _
  obtain ⟨hrep, hlen, hno⟩ := RdL.rep hA hi (0, []) (j := 0) hx (agree_l hD)
  have hi0 : Inv e (fun _ => .undef) (valOf N gv a) w β F := hi.weak (fun i => by simp [Rep]) (fun q ⟨y, hy, hoy⟩ => by
    cases hr : q.2 with
    | nil => rw [hr] at hy; simp [node] at hy; subst hy; simp [AV.isOwn] at hoy
    | cons j r => rw [hr] at hy; simp [node, kids] at hy)
  have hsn := hi0.snapL (β0 := fun _ => none) _ (p' := (0, [])) hrep (fun i c hc => hno c (List.mem_of_getElem? hc))
  have e2 : snapL (fun _ => .undef) vs = args := by
    rw [← hs]
    exact snapL_congr _ fun q hq => by rw [refsL_of_noRef _ hnr] at hq; cases hq
  rw [e2] at hsn
  have hl : (xs.map a.eval).length = args.length := by rw [← e2, snapL_eq, hlen]; simp
  have hlent : ∀ b, lent (fun _ => .undef) β F b → F b := fun b hb => by
    rcases hb with hb | ⟨q, s, ⟨y, hy, hoy⟩, _⟩
    · exact hb
    · cases hr : q.2 with
      | nil => rw [hr] at hy; simp [node] at hy; subst hy; simp [AV.isOwn] at hoy
      | cons j r => rw [hr] at hy; simp [node, kids] at hy
  have hsn' : RepL (fun _ => none) F w args (0, []) 0 (xs.map a.eval) := hsn.tr _ (fun b hb => ⟨hlent b hb, rfl⟩) (fun i c r y hc hy ho => by
    rw [noOwn_pure (pureL_mem hp (List.mem_of_getElem? hc)) hy] at ho; cases ho) (fun _ _ _ _ => rfl)
  refine upon_enter' (f := f) (args := (xs.map a.eval).toArray) ?_ ((call_coreFZ (hc hA) hp hr hi hl hsn' d).mono fun en w' ⟨v, β', F', he, hi'⟩ => ⟨v, he, hK _ _ ⟨β', F', hi'⟩⟩)
  simp [execOp, ho, fnCall, resolve, Deferred.ofValue, Act.eval, invoke, run_callFunc_body hf]
theorem Weak.nils_sl : Weak .nils (.sl [] 0) := by
  refine ⟨fun β F w p v hv => ?_, fun r z hz ho => ?_⟩
  · simp only [Rep] at hv ⊢
    exact ⟨Eq.refl _, none, 0, hv, Nat.le_refl _, fun h => absurd (Eq.refl _) h⟩
  · cases r with
    | nil => simp [node] at hz; subst hz; simp [AV.isOwn] at ho
    | cons j r => simp [node, kids] at hz
end
end Go.Av
namespace Go.Av
open Go
theorem setL_app : ∀ (c z A B : List AV), z.length = c.length → setL (A ++ (z ++ B)) A.length c = A ++ (c ++ B)
 | [], z, A, B, h => by
  have : z = [] := List.eq_nil_of_length_eq_zero (by simpa using h)
  subst this; rfl
 | x :: c, [], A, B, h => by simp at h
 | x :: c, y :: z, A, B, h => by
  simp only [setL]
  rw [List.set_append_right _ _ (Nat.le_refl _), Nat.sub_self]
  have := setL_app c z (A ++ [x]) B (by simpa using h)
  simp only [List.length_append, List.length_singleton, List.append_assoc, List.singleton_append] at this
  simpa using this
abbrev PcT := Int × List (Int × Int) × Int × Int × Int × Int
def aOk (p vars : Int) (L : List (List Int)) : Bool := prime p vars && cnfB vars L
theorem aOk_spec {p vars : Int} {L : List (List Int)} (h : aOk p vars L = true) : prime p vars = true ∧ cnfB vars L = true := by
 unfold aOk at h; simpa using h
def clD (p vars : Int) (c : List Int) : List Int := clP p (dn vars) c c.length
theorem clD_len (p vars : Int) (c : List Int) : (clD p vars c).length = dn vars := clP_length _
theorem clD_bd {p vars : Int} (hp : 2 ≤ p) (c : List Int) : Bd p (clD p vars c) := clP_bd hp _
def qL (p vars : Int) (L : List (List Int)) : List (List Int) := L.map (clD p vars)
theorem qL_len (p vars : Int) (L : List (List Int)) : (qL p vars L).length = L.length := by simp [qL]
theorem osls_moreQ {p vars : Int} {L : List (List Int)} {i : Nat} {k : Nat} (h : i < L.length) (hk : k = dn vars) : osls (qL p vars (L.take i)) ++ [.osl 1 (icells (clD p vars (gl L i))) k none] = osls (qL p vars (L.take (i + 1))) := by
 have hg : L[i] = gl L i := by unfold gl; rw [List.getElem?_eq_getElem h]; rfl
 rw [List.take_succ_eq_append_getElem h, hg]
 unfold qL osls
 rw [List.map_append, List.map_append]
 simp [clD_len, hk]
theorem alg_shT (p vars : Int) (L : List (List Int)) : shT (.tup [.op [.int .i64 p, .int .i64 vars, .int .i64 vars, .sl (sls L) L.length, .osl 1 (osls (qL p vars L)) L.length none], .bool true])
  = .tup [.pp [.int .i64 p, .int .i64 vars, .int .i64 vars, .sl (sls L) L.length, .sl (sls (qL p vars L)) L.length] 0, .bool true] := by
 simp [shT, sh, shL, shL_osls, shL_id _ (sls_pure L).1 (sls_pure L).2]
theorem sls_noRef : ∀ (L : List (List Int)), noRefL (sls L) = true := fun L => by
 induction L with
 | nil => rfl
 | cons c L ih => unfold sls at ih ⊢; simp [noRefL, noRef, ic_noRef, ih]
end Go.Av
namespace Go.Av
open Go
section
variable {P : Program} {N : Nat} {o : Oper} {σ : Sig}
theorem o_store_keep {t off s y t8 off8 : Nat} {cs0 cs' : List AV} {g : Bool} {q : Place} {x : Operand} {z v y' : AV} (ho : o.op = .store t x (.tmp y)) (hd : o.dst = none) (ht : tyAgg P t = some (g, s)) (hx : RdTo N true σ x (.rp q off)) (hyN : y < N) (hy : σ y = v)
    (hyq : Nat.beq y q.1 = false) (hv : bigV v = true) (hn : noRefL (cellsOf v) = true) (hrv : refs v = [])
    (hz : node (σ q.1) q.2 = some z) (hzo : z.isOwn = true) (hc : cellL (cellsOf v) = true) (hs : (cellsOf v).length = s) (hl : off + s ≤ (kids z).length)
    (hr : refs (σ q.1) = []) (hres : setNode (σ q.1) q.2 (setKids z (setL (kids z) off (cellsOf v))) = y')
    (hk : σ t8 = .rp (q.1, []) off8) (h0 : σ q.1 = .op cs0) (h1 : y' = .op cs') : OStep P N o σ (upd (upd (fun i => purgeV q.1 (upd σ y .undef i)) q.1 y') t8 (.rp (q.1, []) off8)) := by
  intro gv e a w ⟨hdf, hsz, β, F, hi⟩ K Q hK
  have hyq' : y ≠ q.1 := fun h => by subst h; simp at hyq
  have ex := hx.rep rfl (fun _ _ => rfl) hi (0, [])
  obtain ⟨hi1, hd1⟩ := hi.detach_slot (t := y) (by rw [hy]; exact hrv)
  rw [hy] at hd1
  have hval : valOf N gv a y = a.eval (.tmp y) := by simp [valOf, hyN, Act.eval]
  rw [hval] at hd1
  obtain ⟨δ', hd2⟩ := hd1.cellsOf hv hn
  have hul := hd2.repL.1
  have hur := hd2.repL.2
  have hz1 : node (upd σ y .undef q.1) q.2 = some z := by rw [upd_other _ _ (Ne.symm hyq')]; exact hz
  have hr1 : refs (upd σ y .undef q.1) = [] := by rw [upd_other _ _ (Ne.symm hyq')]; exact hr
  have hq : blk (upd σ y .undef) q = some (kids z) := by
    unfold blk; rw [hz1]
    cases z <;> simp [AV.isOwn] at hzo <;> rfl
  simp only [Rep] at ex
  obtain ⟨b, s1, hb1, ex⟩ := ex
  rcases hi1.block hq with ⟨hb2, _⟩ | ⟨b2, s2, arr, tt, hb2, hh, hrc, hnr⟩
  · rw [hb1] at hb2; cases hb2
  · rw [hb1] at hb2
    simp only [Option.some.injEq, Prod.mk.injEq] at hb2
    obtain ⟨rfl, rfl⟩ := hb2
    have hcl := hrc.len
    simp only [Array.length_toList] at hcl
    have hrun := run_storeAt (b := b) (off := off) ht (v := a.eval (.tmp y)) (hul.trans hs) hh (by omega) (ones_of hur hul hc)
    obtain ⟨β', h⟩ := hi1.store (ns := cellsOf v) (off := off) (cs := kids z) hz1 hzo rfl hb1 hh hr1 hd2 hn hnr (by rw [← hul]; omega) (σ1 := fun i => purgeV q.1 (upd σ y .undef i)) (fun i _ => by
      rcases purgeV_or q.1 (upd σ y .undef i) with hp | hp
      · right
        refine ⟨hp, fun q' hq' => under_off fun hh => ?_⟩
        rw [← hp] at hq'
        exact refs_purge q' hq' hh.1
      · exact .inl hp)
    rw [upd_other _ _ (Ne.symm hyq'), hres] at h
    have r8 := hi.rep t8
    rw [hk] at r8
    simp only [Rep] at r8
    obtain ⟨b8, s8, hb8, hv8⟩ := r8
    have r0 := hi.rep q.1
    rw [h0] at r0
    simp only [Rep] at r0
    obtain ⟨_, b0, arr0, _, hb0, hv0, _⟩ := r0
    have r1 := h.rep q.1
    rw [upd_same, h1] at r1
    simp only [Rep] at r1
    obtain ⟨_, b9, arr9, _, hb9, hv9, _⟩ := r1
    rw [hb8] at hb0
    simp only [Option.some.injEq, Prod.mk.injEq] at hb0
    rw [hv0] at hv9
    have he : b9 = b8 := by
      have h3 := hb0.1
      simp at hv9
      omega
    have h9 := h.set t8 (x := .rp (q.1, []) off8) (v := valOf N gv a t8) (by simp only [Rep]; exact ⟨b9, arr9.size, hb9, by rw [hv8, he]⟩) (fun r y hy => by
      cases r with
      | nil => simp [node] at hy; subst hy; rfl
      | cons j r => simp [node, kids] at hy)
    rw [upd_self] at h9
    refine wp_unit (w' := w.setRow b (spliceV arr.toList off (a.eval (.tmp y)).cells.toList).toArray) ?_ (hK _ _ ⟨?_, ?_, β', F, ?_⟩)
    · simp only [execOp, ho, ex, hrun, Sem.run_bind, Sem.run_pure, Result.andThen_ok]
    · rw [hd]; exact hdf
    · rw [hd]; exact hsz
    · rw [hd]; exact h9
end
end Go.Av
namespace Go.Av
open Go Go.Proofs Go.Sort
theorem ap86 : appTy Tryz.prog 86 = some (1, 24) := by kernel_rfl
theorem fo92_2 : fieldOff Tryz.prog 92 2 = some 4 := by kernel_rfl
theorem hb104 : hasBody Tryz.prog 104 = true := by kernel_rfl
theorem hb105 : hasBody Tryz.prog 105 = true := by kernel_rfl
theorem hb81 : hasBody Tryz.prog 81 = true := by kernel_rfl
theorem lt86 : litTy Tryz.prog 86 = some (1, [.nils]) := by kernel_rfl
theorem sp92 : structPl Tryz.prog 92 = some ([.int .i64 0, .int .i64 0, .int .i64 0, .nils, .nils], [(0, 2), (2, 2), (4, 1)]) := by kernel_rfl
theorem ta86 : tyAgg Tryz.prog 86 = some (false, 1) := by kernel_rfl
theorem algOk_c (p vars : Int) (L : List (List Int)) (hk : CnfOk vars L) (ha : aOk p vars L = true) : ACall Tryz.prog 54 [.int .i64 p, .agg [.int .i64 vars, .sl (sls L) L.length]] [] (.tup [.op [.int .i64 p, .int .i64 vars, .int .i64 vars, .sl (sls L) L.length, .osl 1 (osls (qL p vars L)) L.length none], .bool true]) [] := by
 obtain ⟨hp, hc⟩ := aOk_spec ha
 have hpp := prime_spec hp
 have hcs := cnfB_spec hc
 have hd := dn_le hpp.2
 refine ACall.intro Tryz.func54 rfl (N := 50) rfl (by decide) (by simp) ?_
 refine aq ?_
 refine rn (v := .op [.int _ _, .sl _ _]) (q_box il rfl rfl) ?_
 refine ra .nilp ?_
 refine ra (.bool _) ?_
 refine r_nil ?_
 refine aq ?_
 refine rm (.int _ _) ?_
 refine rv (v := .rp _ _) (v_fieldAddr_rp fo29_0 il) ?_
 refine rv (v := .int _ _) (v_load_rp1 ta3 il rfl (fun _ => rfl) rfl) ?_
 refine rn (v := .tup [.agg [.int _ _, .int _ _], .bool _]) (q_call (vs := [.int _ _, .int _ _]) (args := [.int .i64 _, .int .i64 _]) hb104 ⟨il, il, trivial⟩ rfl (fun hA => ringOf_c p vars) rfl rfl) ?_
 refine rv (v := .tup [.agg [.int _ _, .int _ _], .bool _]) (v_mv rfl) ?_
 refine rv (v := .agg [.int _ _, .int _ _]) (v_extract rfl rfl) ?_
 refine rv (v := .bool _) (v_extract rfl rfl) ?_
 refine rn (v := .op [.int _ _, .int _ _]) (q_alloc zc90) ?_
 refine r_step rfl (o_store (v := .agg [.int _ _, .int _ _]) (y' := .op [.int _ _, .int _ _]) rfl rfl ta90 il il rfl rfl rfl rfl rfl rfl (Nat.le_of_ble_eq_true rfl) (by decide) rfl rfl) ?_
 refine ra (.bool _) ?_
 refine r_nil ?_
 refine a_seq ?_
 refine aq ?_
 refine rm (.bool _) ?_
 refine rv (v := .bool _) (v_not il) ?_
 refine rm (.bool _) ?_
 refine rg (v := .agg [.int _ _, .sl _ _]) (v_load_rpa1 ta29 il rfl rfl (fun _ => rfl) rfl) ?_
 refine r_guard (v := .bool _) (q_call (vs := [.agg [.int _ _, .sl _ _]]) (args := [.agg [.int .i64 _, .sl _ _]]) hb81 ⟨.inr ⟨_, rfl, fun h => h⟩, trivial⟩ rfl (fun hA => isCnf_c vars L hk) rfl rfl) rfl rfl rfl (by decide) (.inl ⟨_, rfl, rfl⟩) rfl (by decide) ?_
 refine r_gval (v := .bool _) (v_not (.inr ⟨_, rfl, fun h => h⟩)) rfl rfl rfl (by decide) (.inl ⟨_, rfl, rfl⟩) rfl (by decide) ?_
 refine rv (v := .bool _) (v_pick (.inl rfl) (.inl rfl) (.inr ⟨_, rfl, fun h h2 => by simp_all⟩)) ?_
 refine r_nil ?_
 refine a_cond rfl (fun ht24 => ?_) (fun ht24 => ?_)
 ·
  exfalso
  simp [hp, hc] at ht24
 ·
  refine a_skip ?_
  refine aq ?_
  refine rv (v := .agg [.int _ _, .int _ _]) (v_load_rpa1 ta90 il rfl rfl (fun _ => rfl) rfl) ?_
  refine rv (v := .agg [.int _ _, .sl _ _]) (v_load_rpa1 ta29 il rfl rfl (fun _ => rfl) rfl) ?_
  refine rv (v := .agg [.int _ _, .int _ _, .int _ _, .sl _ _, .nils]) (v_build sp92 rfl rfl) ?_
  refine rn (v := .op [.int _ _, .int _ _, .int _ _, .sl _ _, .nils]) (q_box il rfl rfl) ?_
  refine r_pre (ent_nil_at (t := 28) (r := [4]) (sz := 1) rfl (.inl rfl) rfl rfl) ?_
  refine ra (.rp _ _) ?_
  refine r_nil ?_
  refine a_seq ?_
  refine aq ?_
  refine rv (v := .rp _ _) (v_fieldAddr_rp fo29_1 il) ?_
  refine rv (v := .sl _ _) (v_load_rp1 ta22 il rfl (fun _ => rfl) rfl) ?_
  refine rv (v := .int _ _) (v_len_sl sl22 il) ?_
  refine rm (.int _ _) ?_
  refine r_nil ?_
  refine a_block ?_
  refine a_loop (X := Nat) (fun i => look [(6, .op [.int .i64 p, .int .i64 vars]), (8, .rp (28, []) 0), (28, .op [.int .i64 p, .int .i64 vars, .int .i64 vars, .sl (sls L) L.length, .osl 1 (osls (qL p vars (L.take i))) i none]), (30, .sl (sls L) L.length), (31, .int .i64 (L.length : Int)), (32, .int .i64 ((i : Nat) : Int))]) (fun i => i ≤ L.length) (fun i => L.length - i) 0 (ent_look ⟨wr, wr, wr, wr, wr, wr, trivial⟩) (Nat.zero_le _) (fun i hG => ?_)
  refine aq ?_
  refine rv (v := .bool _) (v_lss il il) ?_
  refine r_nil ?_
  refine a_seq ?_
  refine a_cond rfl (fun ht33 => ?_) (fun ht33 => ?_)
  ·
   refine a_skip ?_
   refine a_seq ?_
   refine a_block ?_
   refine a_seq ?_
   have hi : i < L.length := (by simp at ht33; omega)
   have hcc := hcs.2.2 i hi
   have hll := len_tot (L := L) (i := i)
   have hk3 := hk.2.2.1
   refine a_region ?_
   refine rv (v := .pp _ _) (v_indexAddr_sl es22 il il (fun _ => ⟨by omega, by omega, sls_ne hi⟩)) ?_
   refine rv (v := .sl (icells (gl L i)) (gl L i).length) (v_load_pp ta25 il (fun _ => by rw [Nat.mul_one]; exact sls_get hi) rfl) ?_
   refine ra (.sl _ _) ?_
   refine r_nil ?_
   refine a_region_z (n := 10) [[(36, true)], [(37, true)], [(38, true)], [(39, true)], [(40, true)], [(41, true)], [(42, true)], [(43, true)], [(43, false), (44, true)], [(28, false), (40, true), (44, false), (45, true)]] mixed (by kernel_rfl) ?_
   refine z_val (v := .rp _ _) (v_move il nf) rfl rfl (by decide) rfl (by kernel_rfl) ?_
   refine z_val (v := .rp _ _) (v_move il nf) rfl rfl (by decide) rfl (by kernel_rfl) ?_
   refine z_val (v := .rp _ _) (v_nilCheck il rfl) rfl rfl (by decide) rfl (by kernel_rfl) ?_
   refine z_val (v := .rp _ _) (v_fieldAddr_rp fo92_2 il) rfl rfl (by decide) rfl (by kernel_rfl) ?_
   refine z_val (v := .rsl _ _ _ _ _) (v_load_rp (c := .osl _ _ _ _) ta86 il rfl (fun _ => rfl)) rfl rfl (by decide) rfl (by kernel_rfl) ?_
   refine z_val (v := .agg [.int _ _, .int _ _]) (v_load_rpa1 ta90 il rfl rfl (fun _ => rfl) rfl) rfl rfl (by decide) rfl (by kernel_rfl) ?_
   refine z_val (v := .sl _ _) (v_move il nf) rfl rfl (by decide) rfl (by kernel_rfl) ?_
   refine z_new (v := .osl _ _ _ _) (q_call (vs := [.agg [.int _ _, .int _ _], .sl _ _]) (args := [.agg [.int .i64 _, .int .i64 _], .sl _ _]) hb105 ⟨il, il, trivial⟩ rfl (fun hA => rclause_c p vars (gl L i) hp hcc (by omega)) (ic_noSh _) (ic_noRef _)) rfl rfl (by decide) rfl (by kernel_rfl) ?_
   refine z_sliceLit1 (v := .osl _ _ _ _) rfl rfl lt86 rfl rfl (by decide) (by decide) (by decide) rfl rfl (by simp [cellsOf, noRefL, noRef, ic_noRef]) rfl rfl rfl (by kernel_rfl) ?_
   refine z_append_own_ref rfl rfl ap86 rfl (by decide) (by decide) (by decide) (by decide) (by decide) (by decide) (by decide) (by decide) (by decide) rfl rfl rfl rfl rfl rfl (by rw [osls_length, qL_len, List.length_take]; omega) rfl (by omega) rfl (by kernel_rfl) ?_
   refine z_nil ?_
   refine rv (v := .rp _ _) (v_nilCheck il rfl) ?_
   refine rv (v := .rp _ _) (v_fieldAddr_rp fo92_2 il) ?_
   refine r_pre (ent_eq (t := 45) (v' := .osl 1 (osls (qL p vars (L.take (i + 1)))) (i + 1) none) (Weak.osl (osls_moreQ hi rfl) rfl)) ?_
   refine r_step rfl (o_store_keep (t8 := 8) (v := .osl _ _ _ _) (y' := .op [.int _ _, .int _ _, .int _ _, .sl _ _, .osl _ _ _ _]) rfl rfl ta86 (.inl rfl) (by decide) rfl (by decide) rfl (by simp [cellsOf, noRefL, noRef, osls_noRef, sls_noRef]) rfl rfl rfl rfl rfl (Nat.le_of_ble_eq_true rfl) rfl rfl rfl rfl rfl) ?_
   refine r_nil ?_
   refine a_region ?_
   refine rv (v := .int _ _) (v_add il il (fun _ => by omega)) ?_
   refine rm (.int _ _) ?_
   refine r_nil ?_
   refine ⟨i + 1, ent_look ⟨wr, wr, wr, wr, wr, Weak.of_eq (int_eq (by omega)), trivial⟩, by omega, by omega⟩
  ·
   refine a_exit ?_
   refine aq ?_
   refine rm (.rp _ _) ?_
   refine ra (.rp _ _) ?_
   refine r_pre (ent_reloc_op (t := 4) rfl rfl) ?_
   refine ra (.bool _) ?_
   refine r_nil ?_
   refine a_ret ?_
   refine retL (rs := [.tmp 4, .tmp 5]) [(4, _), (5, _)] ⟨wr, wr, trivial⟩ rfl Tryz.results54 (by decide) ⟨by decide, by decide, rfl⟩ (by decide) (by decide) (l2_eq ?_ (bool_eq ?_)) rfl
   all_goals (have hie : i = L.length := (by simp at ht33; omega); subst hie; first | rfl | (rw [List.take_of_length_le (Nat.le_refl _)]; rfl))
theorem algNo_c (p vars : Int) (L : List (List Int)) (hk : CnfOk vars L) (hno : aOk p vars L = false) : ACall Tryz.prog 54 [.int .i64 p, .agg [.int .i64 vars, .sl (sls L) L.length]] [] (.tup [.nilp, .bool false]) [] := by
 refine ACall.intro Tryz.func54 rfl (N := 50) rfl (by decide) (by simp) ?_
 refine aq ?_
 refine rn (v := .op [.int _ _, .sl _ _]) (q_box il rfl rfl) ?_
 refine ra .nilp ?_
 refine ra (.bool _) ?_
 refine r_nil ?_
 refine aq ?_
 refine rm (.int _ _) ?_
 refine rv (v := .rp _ _) (v_fieldAddr_rp fo29_0 il) ?_
 refine rv (v := .int _ _) (v_load_rp1 ta3 il rfl (fun _ => rfl) rfl) ?_
 refine rn (v := .tup [.agg [.int _ _, .int _ _], .bool _]) (q_call (vs := [.int _ _, .int _ _]) (args := [.int .i64 _, .int .i64 _]) hb104 ⟨il, il, trivial⟩ rfl (fun hA => ringOf_c p vars) rfl rfl) ?_
 refine rv (v := .tup [.agg [.int _ _, .int _ _], .bool _]) (v_mv rfl) ?_
 refine rv (v := .agg [.int _ _, .int _ _]) (v_extract rfl rfl) ?_
 refine rv (v := .bool _) (v_extract rfl rfl) ?_
 refine rn (v := .op [.int _ _, .int _ _]) (q_alloc zc90) ?_
 refine r_step rfl (o_store (v := .agg [.int _ _, .int _ _]) (y' := .op [.int _ _, .int _ _]) rfl rfl ta90 il il rfl rfl rfl rfl rfl rfl (Nat.le_of_ble_eq_true rfl) (by decide) rfl rfl) ?_
 refine ra (.bool _) ?_
 refine r_nil ?_
 refine a_seq ?_
 refine aq ?_
 refine rm (.bool _) ?_
 refine rv (v := .bool _) (v_not il) ?_
 refine rm (.bool _) ?_
 refine rg (v := .agg [.int _ _, .sl _ _]) (v_load_rpa1 ta29 il rfl rfl (fun _ => rfl) rfl) ?_
 refine r_guard (v := .bool _) (q_call (vs := [.agg [.int _ _, .sl _ _]]) (args := [.agg [.int .i64 _, .sl _ _]]) hb81 ⟨.inr ⟨_, rfl, fun h => h⟩, trivial⟩ rfl (fun hA => isCnf_c vars L hk) rfl rfl) rfl rfl rfl (by decide) (.inl ⟨_, rfl, rfl⟩) rfl (by decide) ?_
 refine r_gval (v := .bool _) (v_not (.inr ⟨_, rfl, fun h => h⟩)) rfl rfl rfl (by decide) (.inl ⟨_, rfl, rfl⟩) rfl (by decide) ?_
 refine rv (v := .bool _) (v_pick (.inl rfl) (.inl rfl) (.inr ⟨_, rfl, fun h h2 => by simp_all⟩)) ?_
 refine r_nil ?_
 refine a_cond rfl (fun ht24 => ?_) (fun ht24 => ?_)
 ·
  refine aq ?_
  refine ra .nilp ?_
  refine ra (.bool _) ?_
  refine r_nil ?_
  refine a_ret ?_
  refine retL (rs := [.tmp 4, .tmp 5]) [(4, _), (5, _)] ⟨wr, wr, trivial⟩ rfl Tryz.results54 (by decide) ⟨by decide, by decide, rfl⟩ (by decide) (by decide) (l2_eq ?_ (bool_eq ?_)) rfl
  all_goals rfl
 ·
  refine a_skip ?_
  refine a_seq ?_
  exfalso
  unfold aOk at hno; cases h1 : prime p vars <;> cases h2 : cnfB vars L <;> simp_all
theorem isVar_c (vars v : Int) : ACall Tryz.prog 165 [.int .i64 vars, .int .i64 v] [] (.bool (inR v 1 vars)) [] := by
 refine ACall.intro Tryz.func165 rfl (N := 8) rfl (by decide) (by simp) ?_
 refine aq ?_
 refine ra (.bool _) ?_
 refine r_nil ?_
 refine aq ?_
 refine rm (.int _ _) ?_
 refine rm (.int _ _) ?_
 refine rn (v := .bool _) (q_call (vs := [.int _ _, .int _ _, .int _ _]) (args := [.int .i64 _, .int .i64 _, .int .i64 _]) hb82 ⟨il, il, il, trivial⟩ rfl (fun hA => within_c v 1 vars) rfl rfl) ?_
 refine ra (.bool _) ?_
 refine r_nil ?_
 refine a_ret ?_
 refine ret1 Tryz.results165 (by decide) (by decide) (Weak.of_eq (bool_eq ?_)) rfl Leaves.nil
 rfl
theorem hb96 : hasBody Tryz.prog 96 = true := by kernel_rfl
theorem hb97 : hasBody Tryz.prog 97 = true := by kernel_rfl
theorem takes19_c (p vars : Int) (L : List (List Int)) (hk : CnfOk vars L) : ACall Tryz.prog 47 [.int .i64 p, .agg [.int .i64 vars, .sl (sls L) L.length]] [] (.bool (aOk p vars L)) [] := by
 refine ACall.intro Tryz.func47 rfl (N := 13) rfl (by decide) (by simp) ?_
 refine aq ?_
 refine rn (v := .op [.int _ _, .sl _ _]) (q_box il rfl rfl) ?_
 refine ra (.bool _) ?_
 refine r_nil ?_
 refine aq ?_
 refine rv (v := .agg [.int _ _, .sl _ _]) (v_load_rpa1 ta29 il rfl rfl (fun _ => rfl) rfl) ?_
 refine rn (v := .bool _) (q_call (vs := [.agg [.int _ _, .sl _ _]]) (args := [.agg [.int .i64 _, .sl _ _]]) hb96 ⟨il, trivial⟩ rfl (fun hA => l2Good_c vars L hk) rfl rfl) ?_
 refine rm (.bool _) ?_
 refine rg (v := .int _ _) (v_move il nf) ?_
 refine rg (v := .rp _ _) (v_fieldAddr_rp fo29_0 il) ?_
 refine r_gval (v := .int _ _) (v_load_rp1 ta3 (.inr ⟨_, rfl, fun h => h⟩) rfl (fun _ => rfl) rfl) rfl rfl rfl (by decide) (.inl ⟨_, rfl, rfl⟩) rfl (by decide) ?_
 refine r_guard (v := .bool _) (q_call (vs := [.int _ _, .int _ _]) (args := [.int .i64 _, .int .i64 _]) hb97 ⟨.inr ⟨_, rfl, fun h => h⟩, .inr ⟨_, rfl, fun h => h⟩, trivial⟩ rfl (fun hA => l18Prime_c _ _) rfl rfl) rfl rfl rfl (by decide) (.inl ⟨_, rfl, rfl⟩) rfl (by decide) ?_
 refine rv (v := .bool _) (v_pick (.inl rfl) (.inr ⟨_, rfl, fun h h2 => by simp_all⟩) (.inl rfl)) ?_
 refine ra (.bool _) ?_
 refine r_nil ?_
 refine a_ret ?_
 refine ret1 Tryz.results47 (by decide) (by decide) (Weak.of_eq (bool_eq ?_)) rfl Leaves.nil
 unfold aOk; rw [Bool.cond_false_right, Bool.and_comm]
end Go.Av
namespace Go.Av
open Go
section
variable {p vars : Int} {L : List (List Int)} {A : List (List (Int × Int))}
theorem trm_zero (hv : 0 ≤ vars) : trm (List.replicate (dn vars) 0) = [] := good_trm (p := 2) (vars := vars) hv (xs := []) rfl
end
def oacl (al : List (List (Int × Int))) : List AV := al.map fun a => .osl 2 (tcells a) a.length none
theorem oacl_length (A : List (List (Int × Int))) : (oacl A).length = A.length := by simp [oacl]
theorem shL_oacl (A : List (List (Int × Int))) : shL (oacl A) = acl A := by
  unfold oacl acl
  rw [shL_eq, List.map_map]
  refine List.map_congr_left fun a _ => ?_
  simp only [Function.comp, sh, shL_id _ (tc_pure a).1 (tc_pure a).2]
theorem sl_oacl {A : List (List (Int × Int))} {n : Nat} : AV.sl (shL ((oacl A).drop 0)) n = .sl (acl A) n := by rw [List.drop_zero, shL_oacl]
theorem oacl_noSh : ∀ (A : List (List (Int × Int))), noShL (oacl A) = true
  | [] => rfl
  | a :: A => by
    have := oacl_noSh A
    unfold oacl at this ⊢
    simp [noShL, noSh, tc_noSh, this]
theorem oacl_noRef : ∀ (A : List (List (Int × Int))), noRefL (oacl A) = true
  | [] => rfl
  | a :: A => by
    have := oacl_noRef A
    unfold oacl at this ⊢
    simp [noRefL, noRef, tc_noRef, this]
def totA (A : List (List (Int × Int))) (i : Nat) : Nat := ((A.take i).map List.length).sum
theorem totA_zero (A : List (List (Int × Int))) : totA A 0 = 0 := rfl
theorem totA_more {A : List (List (Int × Int))} {i : Nat} (h : i < A.length) : totA A (i + 1) = totA A i + (nth A i).length := by
  unfold totA
  rw [List.take_add_one, nth_get h]; simp
theorem totA_le (A : List (List (Int × Int))) : ∀ i, totA A i ≤ totA A A.length := by
  have key : ∀ k i, totA A i ≤ totA A (i + k) := by
    intro k
    induction k with
    | zero => intro i; exact Nat.le_refl _
    | succ k ih =>
      intro i
      refine Nat.le_trans (ih i) ?_
      rcases Nat.lt_or_ge (i + k) A.length with h | h
      · rw [← Nat.add_assoc, totA_more h]; omega
      · unfold totA; rw [List.take_of_length_le h, List.take_of_length_le (by omega)]; exact Nat.le_refl _
  intro i
  rcases Nat.lt_or_ge i A.length with h | h
  · have := key (A.length - i) i; rwa [show i + (A.length - i) = A.length by omega] at this
  · unfold totA; rw [List.take_of_length_le h, List.take_of_length_le (Nat.le_refl _)]; exact Nat.le_refl _
theorem nth_ext {A B : List (List (Int × Int))} (hl : A.length = B.length) (h : ∀ j, j < A.length → nth A j = nth B j) : A = B :=
  List.ext_getElem hl (fun i h1 h2 => by have := h i h1; simpa [nth, h1, h2] using this)
end Go.Av
namespace Go.Av
open Go Go.Proofs Go.Sort
theorem es41 : elemSize Tryz.prog 41 = some 1 := by kernel_rfl
theorem hb64 : hasBody Tryz.prog 64 = true := by kernel_rfl
theorem sl41 : isSlice Tryz.prog 41 = true := by kernel_rfl
theorem ta72 : tyAgg Tryz.prog 72 = some (false, 1) := by kernel_rfl
theorem eqTSS_c (A B : List (List (Int × Int))) (hlenA : ∀ i, ((nth A i).length : Int) ≤ 9223372036854775807) (hLA : (A.length : Int) ≤ 9223372036854775807) (hLB : (B.length : Int) ≤ 9223372036854775807) : ACall Tryz.prog 21 [.sl (acl A) A.length, .sl (acl B) B.length] [] (.bool (decide (A = B))) [] := by
 refine ACall.intro Tryz.func21 rfl (N := 27) rfl (by decide) (by simp) ?_
 refine aq ?_
 refine ra (.bool _) ?_
 refine r_nil ?_
 refine a_seq ?_
 refine aq ?_
 refine rm (.sl _ _) ?_
 refine rv (v := .int _ _) (v_len_sl sl41 il) ?_
 refine rm (.sl _ _) ?_
 refine rv (v := .int _ _) (v_len_sl sl41 il) ?_
 refine rv (v := .bool _) (v_neq il il) ?_
 refine r_nil ?_
 refine a_cond rfl (fun ht10 => ?_) (fun ht10 => ?_)
 ·
  refine aq ?_
  refine ra (.bool _) ?_
  refine r_nil ?_
  refine a_ret ?_
  refine ret1 Tryz.results21 (by decide) (by decide) (Weak.of_eq (bool_eq ?_)) rfl Leaves.nil
  simp at ht10; exact (decide_eq_false (fun h => ht10 (by rw [h]))).symm
 ·
  refine a_skip ?_
  refine a_seq ?_
  refine aq ?_
  refine ra (.int _ _) ?_
  refine r_nil ?_
  refine a_block ?_
  refine a_loop (X := Nat) (fun i => look [(0, .sl (acl A) A.length), (1, .sl (acl B) B.length), (5, .int .i64 ((i : Nat) : Int))]) (fun i => i ≤ A.length ∧ A.length = B.length ∧ ∀ j, j < i → nth A j = nth B j) (fun i => A.length - i) 0 (ent_look ⟨wr, wr, wr, trivial⟩) ⟨Nat.zero_le _, by simp at ht10; omega, fun j h => by omega⟩ (fun i hG => ?_)
  obtain ⟨g1, g2, g3⟩ := hG
  refine a_seq ?_
  refine aq ?_
  refine rm (.int _ _) ?_
  refine rm (.sl _ _) ?_
  refine rv (v := .int _ _) (v_len_sl sl41 il) ?_
  refine rv (v := .bool _) (v_lss il il) ?_
  refine r_nil ?_
  refine a_cond rfl (fun ht14 => ?_) (fun ht14 => ?_)
  ·
   refine a_skip ?_
   refine a_seq ?_
   refine a_block ?_
   refine a_seq ?_
   have hi : i < A.length := (by simp at ht14; omega)
   refine a_region_any mixed (by kernel_rfl) ?_
   refine yv (v := .sl _ _) (v_move il nf) ?_
   refine yv (v := .int _ _) (v_move il nf) ?_
   refine yv (v := .pp _ _) (v_indexAddr_sl es41 il il (fun _ => ⟨by omega, by omega, acl_ne hi⟩)) ?_
   refine yv (v := .sl (tcells (nth A i)) (nth A i).length) (v_load_pp ta72 il (fun _ => by rw [Nat.mul_one]; exact acl_get hi) rfl) ?_
   refine yv (v := .sl _ _) (v_move il nf) ?_
   refine yv (v := .int _ _) (v_move il nf) ?_
   refine yv (v := .pp _ _) (v_indexAddr_sl es41 il il (fun _ => ⟨by omega, by omega, acl_ne (al := B) (i := i) (by omega)⟩)) ?_
   refine yv (v := .sl (tcells (nth B i)) (nth B i).length) (v_load_pp ta72 il (fun _ => by rw [Nat.mul_one]; exact acl_get (by omega)) rfl) ?_
   refine y_new (v := .bool _) (q_call (vs := [.sl _ _, .sl _ _]) (args := [.sl _ _, .sl _ _]) hb64 ⟨.inl rfl, .inl rfl, trivial⟩ rfl (fun hA => eqTermS_c (nth A i) (nth B i) (hlenA i)) rfl rfl) rfl rfl (by decide) (by kernel_rfl) ?_
   refine yv (v := .bool _) (v_not il) ?_
   refine y_nil ?_
   refine a_cond rfl (fun ht26 => ?_) (fun ht26 => ?_)
   ·
    refine aq ?_
    refine ra (.bool _) ?_
    refine r_nil ?_
    refine a_ret ?_
    refine ret1 Tryz.results21 (by decide) (by decide) (Weak.of_eq (bool_eq ?_)) rfl Leaves.nil
    simp at ht26; refine (decide_eq_false (fun h => ?_)).symm
    subst h
    simp at ht26
   ·
    refine a_skip ?_
    refine a_region ?_
    refine rm (.int _ _) ?_
    refine rv (v := .int _ _) (v_add il il (fun _ => by omega)) ?_
    refine ra (.int _ _) ?_
    refine r_nil ?_
    refine ⟨i + 1, ent_look ⟨wr, wr, Weak.of_eq (int_eq (by omega)), trivial⟩, ⟨by omega, g2, fun j h1 => by rcases Nat.lt_or_ge j i with h | h; exact g3 j h; (obtain rfl : j = i := by omega); simpa using ht26⟩, by omega⟩
  ·
   refine a_exit ?_
   refine aq ?_
   refine ra (.bool _) ?_
   refine r_nil ?_
   refine a_ret ?_
   refine ret1 Tryz.results21 (by decide) (by decide) (Weak.of_eq (bool_eq ?_)) rfl Leaves.nil
   simp at ht14; exact (decide_eq_true (nth_ext g2 (fun j hj => g3 j (by omega)))).symm
end Go.Av
namespace Go.Av
open Go
def cval (c a : List Int) : Int := if c.any (fun l => decide (l ∈ a)) then 1 else if c.all (fun l => decide (-l ∈ a)) then -1 else 0
def cvP (c a : List Int) (i : Nat) : Int := if (c.take i).all (fun l => decide (-l ∈ a)) then -1 else 0
theorem cvP_succ {c a : List Int} {i : Nat} (h : i < c.length) : cvP c a (i + 1) = if -(gd c i) ∈ a then cvP c a i else 0 := by
  unfold cvP
  rw [take_gd h, List.all_append]
  by_cases hx : -(gd c i) ∈ a <;> simp [hx]
theorem cval_one {c a : List Int} {i : Nat} (h : i < c.length) (hx : gd c i ∈ a) : cval c a = 1 := by
  unfold cval
  rw [if_pos]
  rw [List.any_eq_true]; exact ⟨gd c i, gd_mem h, by simpa using hx⟩
theorem cval_end {c a : List Int} {i : Nat} (hi : c.length ≤ i) (h : ∀ j, j < i → ¬ gd c j ∈ a) : cval c a = cvP c a i := by
  unfold cval cvP
  rw [if_neg, List.take_of_length_le hi]
  intro hc
  obtain ⟨x, hx, hxa⟩ := List.any_eq_true.1 hc
  obtain ⟨j, hj, rfl⟩ := mem_gd hx
  exact h j (by omega) (by simpa using hxa)
theorem clB_of {vars : Int} {c : List Int} (hv : 0 ≤ vars ∧ vars ≤ 12) (hs : Strict c) (hl : ∀ x ∈ c, litB vars x = true) : clB vars c = true := by
  refine clB_true (inR_spec.2 hv) fun j hj => ?_
  unfold okC
  rw [hl _ (gd_mem hj), Bool.true_and, Bool.or_eq_true, decide_eq_true_iff, decide_eq_true_iff]
  rcases Nat.eq_zero_or_pos j with h | h
  · exact .inl h
  · right
    have := List.pairwise_iff_getElem.1 hs (j - 1) j (by omega) hj (by omega)
    unfold gd
    rw [List.getElem?_eq_getElem hj, List.getElem?_eq_getElem (by omega)]
    simpa using this
theorem wo_new {a : List Int} {l : Int} (h1 : ¬ l ∈ a) (h2 : ¬ -l ∈ a) : woS a (vr l) = a := by
  unfold woS
  rw [List.filter_eq_self]
  intro x hx
  simp only [decide_eq_true_eq]
  intro e
  rcases vr_same e with rfl | rfl
  · exact h1 hx
  · exact h2 hx
theorem set_new {vars : Int} {a : List Int} {l : Int} (hc : clB vars a = true) (hl : litB vars l = true) (h1 : ¬ l ∈ a) (h2 : ¬ -l ∈ a) : clB vars (setLit a l) = true ∧ (setLit a l).length = a.length + 1 := by
  unfold setLit
  rw [wo_new h1 h2]
  refine ⟨clB_of (clB_spec hc).1 (strict_put (clB_strict hc) fun y hy e => ?_) fun x hx => ?_, putL_length _ _⟩
  · rcases vr_same e with rfl | rfl
    · exact h1 hy
    · exact h2 hy
  · rcases mem_putL.1 hx with rfl | hx
    · exact hl
    · exact (clB_mem hc hx).1
def ngL (c : List Int) : List Int := c.map fun x => -x
theorem ngL_len (c : List Int) : (ngL c).length = c.length := by simp [ngL]
theorem ngL_cl {vars : Int} {c : List Int} (h : clB vars c = true) : clB vars (ngL c) = true := by
  refine clB_of (clB_spec h).1 ?_ fun x hx => ?_
  · unfold Strict ngL
    rw [List.pairwise_map]
    exact (clB_strict h).imp fun h => by rw [vr_neg, vr_neg]; exact h
  · obtain ⟨y, hy, rfl⟩ := List.mem_map.1 hx
    have := (clB_mem h hy).1
    rw [litB_spec] at this ⊢; omega
theorem Weak.oslL {sz n n' : Nat} {cap : Option Nat} {cs ds : List AV} (h : WeakL cs ds) (hd : noRefL ds = true) (hn : n = n') : Weak (.osl sz cs n cap) (.osl sz ds n' none) := by
  subst hn
  refine ⟨fun β F w p v hr => ?_, fun r z hz ho => ?_⟩
  · simp only [Rep] at hr ⊢
    rcases hr with ⟨h1, h2, h3, h4, _⟩ | ⟨h0, b, capv, arr, t, h1, h2, h3, _, h5, h6, h7⟩
    · subst h3
      cases ds with
      | nil => exact .inl ⟨h1, h2, _root_.rfl, h4, fun c hc => by cases hc⟩
      | cons d ds => exact h.elim
    · exact .inr ⟨hd, b, capv, arr, t, h1, h2, h3, (fun c hc => by cases hc), h5, h6, h.repL h7⟩
  · cases r with
    | nil => exact ⟨.osl sz cs n cap, _root_.rfl, _root_.rfl⟩
    | cons i r =>
      simp only [node, kids] at hz ⊢
      cases hi : ds[i]? with
      | none => rw [hi] at hz; cases hz
      | some d =>
        rw [hi] at hz
        obtain ⟨c, z', h1, h2, h3⟩ := h.node hi hz ho
        exact ⟨z', by rw [h1]; exact h2, h3⟩
end Go.Av
namespace Go.Av
open Go Go.Sort
theorem insInner_size {lt : Int → Int → Bool} {a : Nat} : ∀ (j : Nat) (d : Array Int), (insInner lt a j d).size = d.size
  | 0, d => rfl
  | j + 1, d => by
    by_cases h : a < j + 1 ∧ lt d[j + 1]! d[j + 1 - 1]! = true
    · rw [← insInner_more h.1 h.2, Nat.add_sub_cancel, insInner_size j, swp_size]
    · rw [insInner_stop (fun ha => by
        cases hl : lt d[j + 1]! d[j + 1 - 1]! with
        | false => rfl
        | true => exact absurd ⟨ha, hl⟩ h)]
theorem insOuter_size {lt : Int → Int → Bool} {a b : Nat} : ∀ (m i : Nat) (d : Array Int), b - i ≤ m → (insOuter lt a b i d).size = d.size
  | 0, i, d, hm => by rw [insOuter.eq_1, if_neg (by omega)]
  | m + 1, i, d, hm => by
    rw [insOuter.eq_1]
    split
    · rw [insOuter_size m (i + 1) _ (by omega), insInner_size]
    · rfl
theorem insertionSort_size {lt : Int → Int → Bool} {a b : Nat} {d : Array Int} : (insertionSort lt d a b).size = d.size := insOuter_size _ (a + 1) d (Nat.le_refl _)
theorem ltI_swo : SWO (fun x y : Int => decide (x < y)) :=
  ⟨fun x => by simp, fun x y z h1 h2 => by simp at *; omega, fun x y z h1 h2 => by simp at *; omega⟩
theorem ins_facts (L : List Int) : (∀ x, x ∈ dedN (insertionSort (fun x y : Int => decide (x < y)) L.toArray 0 L.length) L.length ↔ x ∈ L) ∧ (dedN (insertionSort (fun x y : Int => decide (x < y)) L.toArray 0 L.length) L.length).Nodup := by
  obtain ⟨⟨h1, _, h3⟩, h4⟩ := insertionSort_holds (lt := fun x y : Int => decide (x < y)) ltI_swo L.toArray 0 L.length (Nat.zero_le _) (by simp)
  have hsz : (insertionSort (fun x y : Int => decide (x < y)) L.toArray 0 L.length).size = L.length := by rw [h1]; simp
  have hm : ∀ x, x ∈ (insertionSort (fun x y : Int => decide (x < y)) L.toArray 0 L.length).toList ↔ x ∈ L := fun x => by
    have := h3.mem_iff (a := x)
    rw [show (insertionSort (fun x y : Int => decide (x < y)) L.toArray 0 L.length).extract 0 L.length = insertionSort (fun x y : Int => decide (x < y)) L.toArray 0 L.length by
      conv => lhs; rw [← hsz]
      simp [insertionSort_size]] at this
    rw [this]; simp
  refine ⟨fun x => ?_, ?_⟩
  · rw [← hm x, dedN_mem]
    constructor
    · rintro ⟨j, hj, rfl⟩
      rw [getElem!_pos _ j (by omega)]; exact Array.getElem_mem_toList _
    · intro hx
      obtain ⟨j, hj, he⟩ := List.getElem_of_mem hx
      have hj' : j < (insertionSort (fun x y : Int => decide (x < y)) L.toArray 0 L.length).size := by simpa using hj
      exact ⟨j, by omega, by rw [getElem!_pos _ j hj']; simpa using he⟩
  · exact (dedN_strict ltI_swo (fun x y a b => by simp at a b; omega) h4 (Nat.le_refl _)).imp fun h e => by simp at h; omega
end Go.Av
