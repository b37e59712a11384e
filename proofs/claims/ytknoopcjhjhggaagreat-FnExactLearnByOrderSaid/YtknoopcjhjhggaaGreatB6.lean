/- Lemmas, part 6. -/
import Derived.Test.YtknoopcjhjhggaaGreatB5
import Derived.Sort.LotA
import Derived.RangeFuncLeaves
import Derived.RangeFuncRecord
import Derived.RangeFuncSeq
import Derived.RangeFuncBound
set_option linter.unusedVariables false
set_option linter.unusedSimpArgs false
namespace Go.Av
open Go Go.Proofs Go.Sort
set_option maxRecDepth 10000
theorem hb119 : hasBody Tryz.prog 119 = true := by kernel_rfl
theorem hb120 : hasBody Tryz.prog 120 = true := by kernel_rfl
theorem hb131 : hasBody Tryz.prog 131 = true := by kernel_rfl
theorem order2Q_c (d : Array Int) (n a b s : Nat) (hd : d.size = n) (hab : a < n ∧ b < n ∧ s ≤ 1000) (hn : n ≤ 1152921504606846976) : ACall Tryz.prog 131 [.sl (acells d) n, .int .i64 ((a : Nat) : Int), .int .i64 ((b : Nat) : Int), .rp (INH, []) 0] [.op [.int .i64 ((s : Nat) : Int)]] (.tup [.int .i64 (((order2 (ltc cmpI) d a b s).1 : Nat) : Int), .int .i64 (((order2 (ltc cmpI) d a b s).2.1 : Nat) : Int)]) [.op [.int .i64 (((order2 (ltc cmpI) d a b s).2.2 : Nat) : Int)]] := by
  refine ACall.intro Tryz.func131 rfl (N := 28) rfl (by decide) (by simp) ?_
  refine a_seq ?_
  refine a_region ?_
  refine rv (v := .int _ _) (v_assign il nf) ?_
  refine rv (v := .int _ _) (v_assign il nf) ?_
  refine r_nil ?_
  refine a_seq ?_
  refine a_seq ?_
  refine a_region_any mixed (by kernel_rfl) ?_
  refine yv (v := .sl _ _) (v_move il nf) ?_
  refine yv (v := .int _ _) (v_move il nf) ?_
  refine yv (v := .pp _ _) (v_indexAddr_sl es25 il il (fun _ => ⟨by omega, by omega, acells_ne (d := d) (i := b) (by omega)⟩)) ?_
  refine yv (v := .int .i64 d[b]!) (v_load_pp ta3 il (fun _ => by rw [Nat.mul_one]; exact acells_get (by omega)) rfl) ?_
  refine yv (v := .sl _ _) (v_move il nf) ?_
  refine yv (v := .int _ _) (v_move il nf) ?_
  refine yv (v := .pp _ _) (v_indexAddr_sl es25 il il (fun _ => ⟨by omega, by omega, acells_ne (d := d) (i := a) (by omega)⟩)) ?_
  refine yv (v := .int .i64 d[a]!) (v_load_pp ta3 il (fun _ => by rw [Nat.mul_one]; exact acells_get (by omega)) rfl) ?_
  refine y_new (v := .bool _) (q_call (vs := [.int _ _, .int _ _]) (args := [.int .i64 _, .int .i64 _]) hb105 ⟨.inl rfl, .inl rfl, trivial⟩ rfl (fun hA => lessQ_c _ _) rfl rfl) rfl rfl (by decide) (by kernel_rfl) ?_
  refine y_nil ?_
  refine a_cond rfl (fun ht18 => ?_) (fun ht18 => ?_)
  ·
    skip
    refine a_seq ?_
    have hl : ltc cmpI d[b]! d[a]! = true := (by simpa [ltc] using ht18)
    have hfin : (order2 (ltc cmpI) d a b s) = (b, a, s + 1) := (by unfold order2; rw [if_pos hl])
    refine a_region ?_
    refine rv (v := .rp _ _) (v_move il nf) ?_
    refine rv (v := .rp _ _) (v_nilCheck il rfl) ?_
    refine rv (v := .int _ _) (v_load_rp1 ta3 il rfl (fun _ => rfl) rfl) ?_
    refine rv (v := .int .i64 ((s + 1 : Nat) : Int)) ((v_add il il (fun _ => by omega)).cast (int_eq (by omega))) ?_
    refine rv (v := .rp _ _) (v_nilCheck il rfl) ?_
    refine r_step rfl (o_store (v := .int _ _) (y' := .op [.int _ _]) rfl rfl ta3 il il rfl rfl rfl rfl rfl rfl (Nat.le_of_ble_eq_true rfl) (by decide) rfl rfl) ?_
    refine r_nil ?_
    refine a_seq ?_
    refine a_region ?_
    refine rv (v := .int _ _) (v_move il nf) ?_
    refine rv (v := .int _ _) (v_move il nf) ?_
    refine rv (v := .int _ _) (v_assign il nf) ?_
    refine rv (v := .int _ _) (v_assign il nf) ?_
    refine r_nil ?_
    refine a_ret ?_
    refine retLO (rs := [.tmp 8, .tmp 9]) [(8, _), (9, _)] ⟨(Weak.of_eq (congrArg (fun z : Nat => AV.op [.int .i64 (z : Int)]) (by rw [hfin]))), Weak.rfl, Weak.rfl, trivial⟩ rfl Tryz.results131 (by decide) ⟨by decide, by decide, rfl⟩ (by decide) (by decide) (l2_eq (int_eq ?_) (int_eq ?_)) rfl rfl
    · rw [hfin]
    · rw [hfin]
  ·
    skip
    refine a_skip ?_
    refine a_seq ?_
    have hl : ¬ ltc cmpI d[b]! d[a]! = true := (by simpa [ltc] using ht18)
    have hfin : (order2 (ltc cmpI) d a b s) = (a, b, s) := (by unfold order2; rw [if_neg hl])
    refine a_region ?_
    refine rv (v := .int _ _) (v_move il nf) ?_
    refine rv (v := .int _ _) (v_move il nf) ?_
    refine rv (v := .int _ _) (v_assign il nf) ?_
    refine rv (v := .int _ _) (v_assign il nf) ?_
    refine r_nil ?_
    refine a_ret ?_
    refine retLO (rs := [.tmp 8, .tmp 9]) [(8, _), (9, _)] ⟨(Weak.of_eq (congrArg (fun z : Nat => AV.op [.int .i64 (z : Int)]) (by rw [hfin]))), Weak.rfl, Weak.rfl, trivial⟩ rfl Tryz.results131 (by decide) ⟨by decide, by decide, rfl⟩ (by decide) (by decide) (l2_eq (int_eq ?_) (int_eq ?_)) rfl rfl
    · rw [hfin]
    · rw [hfin]
theorem medianQ_c (d : Array Int) (n a b c s : Nat) (hd : d.size = n) (hab : a < n ∧ b < n ∧ c < n ∧ s ≤ 900) (hn : n ≤ 1152921504606846976) : ACall Tryz.prog 120 [.sl (acells d) n, .int .i64 ((a : Nat) : Int), .int .i64 ((b : Nat) : Int), .int .i64 ((c : Nat) : Int), .rp (INH, []) 0] [.op [.int .i64 ((s : Nat) : Int)]] (.int .i64 (((median (ltc cmpI) d a b c s).1 : Nat) : Int)) [.op [.int .i64 (((median (ltc cmpI) d a b c s).2 : Nat) : Int)]] := by
  have q1 := o2_bd (lt := ltc cmpI) (d := d) (s := s) hab.1 hab.2.1
  have q2 := o2_bd (lt := ltc cmpI) (d := d) (s := (order2 (ltc cmpI) d a b s).2.2) q1.2.1 hab.2.2.1
  have q3 := o2_bd (lt := ltc cmpI) (d := d) (s := (order2 (ltc cmpI) d (order2 (ltc cmpI) d a b s).2.1 c (order2 (ltc cmpI) d a b s).2.2).2.2) q1.1 q2.1
  refine ACall.intro Tryz.func120 rfl (N := 36) rfl (by decide) (by simp) ?_
  refine a_seq ?_
  refine a_region ?_
  refine rv (v := .int _ _) (v_assign il nf) ?_
  refine r_nil ?_
  refine a_seq ?_
  refine a_region ?_
  refine rv (v := .sl _ _) (v_move il nf) ?_
  refine rv (v := .int _ _) (v_move il nf) ?_
  refine rv (v := .int _ _) (v_move il nf) ?_
  refine rv (v := .rp _ _) (v_move il nf) ?_
  refine r_step rfl (o_callIOp (q := (INH, [])) (vs := [.sl _ _, .int _ _, .int _ _, .rp _ _]) (args := [.sl _ _, .int .i64 _, .int .i64 _, .rp (INH, []) _]) (cs0 := [.int _ _]) (cs1 := [.int _ _]) (res := .tup [.int _ _, .int _ _]) rfl hb131 rfl (by decide) ⟨.inl rfl, .inl rfl, .inl rfl, .inl rfl, trivial⟩ rfl rfl (order2Q_c d n _ _ _ hd (by omega) hn) rfl rfl rfl rfl rfl (Nat.le_of_ble_eq_true rfl) (by decide) rfl) ?_
  refine rv (v := .tup [.int _ _, .int _ _]) (v_mv rfl) ?_
  refine rv (v := .int _ _) (v_extract rfl rfl) ?_
  refine rv (v := .int _ _) (v_extract rfl rfl) ?_
  refine rv (v := .int _ _) (v_assign il nf) ?_
  refine rv (v := .int _ _) (v_assign il nf) ?_
  refine r_nil ?_
  refine a_seq ?_
  refine a_region ?_
  refine rv (v := .sl _ _) (v_move il nf) ?_
  refine rv (v := .int _ _) (v_move il nf) ?_
  refine rv (v := .int _ _) (v_move il nf) ?_
  refine rv (v := .rp _ _) (v_move il nf) ?_
  refine r_step rfl (o_callIOp (q := (INH, [])) (vs := [.sl _ _, .int _ _, .int _ _, .rp _ _]) (args := [.sl _ _, .int .i64 _, .int .i64 _, .rp (INH, []) _]) (cs0 := [.int _ _]) (cs1 := [.int _ _]) (res := .tup [.int _ _, .int _ _]) rfl hb131 rfl (by decide) ⟨.inl rfl, .inl rfl, .inl rfl, .inl rfl, trivial⟩ rfl rfl (order2Q_c d n _ _ _ hd (by omega) hn) rfl rfl rfl rfl rfl (Nat.le_of_ble_eq_true rfl) (by decide) rfl) ?_
  refine rv (v := .tup [.int _ _, .int _ _]) (v_mv rfl) ?_
  refine rv (v := .int _ _) (v_extract rfl rfl) ?_
  refine rv (v := .int _ _) (v_extract rfl rfl) ?_
  refine rv (v := .int _ _) (v_assign il nf) ?_
  refine rv (v := .int _ _) (v_assign il nf) ?_
  refine r_nil ?_
  refine a_seq ?_
  refine a_region ?_
  refine rv (v := .sl _ _) (v_move il nf) ?_
  refine rv (v := .int _ _) (v_move il nf) ?_
  refine rv (v := .int _ _) (v_move il nf) ?_
  refine rv (v := .rp _ _) (v_move il nf) ?_
  refine r_step rfl (o_callIOp (q := (INH, [])) (vs := [.sl _ _, .int _ _, .int _ _, .rp _ _]) (args := [.sl _ _, .int .i64 _, .int .i64 _, .rp (INH, []) _]) (cs0 := [.int _ _]) (cs1 := [.int _ _]) (res := .tup [.int _ _, .int _ _]) rfl hb131 rfl (by decide) ⟨.inl rfl, .inl rfl, .inl rfl, .inl rfl, trivial⟩ rfl rfl (order2Q_c d n _ _ _ hd (by omega) hn) rfl rfl rfl rfl rfl (Nat.le_of_ble_eq_true rfl) (by decide) rfl) ?_
  refine rv (v := .tup [.int _ _, .int _ _]) (v_mv rfl) ?_
  refine rv (v := .int _ _) (v_extract rfl rfl) ?_
  refine rv (v := .int _ _) (v_extract rfl rfl) ?_
  refine rv (v := .int _ _) (v_assign il nf) ?_
  refine rv (v := .int _ _) (v_assign il nf) ?_
  refine r_nil ?_
  refine a_seq ?_
  refine a_pre (ent_look (L := [(2, .int _ _), (10, .int _ _), (INH, .op [.int _ _])]) ⟨Weak.rfl, Weak.rfl, Weak.rfl, trivial⟩) ?_
  refine a_region ?_
  refine rv (v := .int _ _) (v_move il nf) ?_
  refine rv (v := .int _ _) (v_assign il nf) ?_
  refine r_nil ?_
  refine a_ret ?_
  refine ret1 Tryz.results120 (by decide) (by decide) (Weak.of_eq (int_eq ?_)) rfl (Leaves.one (Weak.of_eq rfl) rfl)
  rfl
theorem medianAdjQ_c (d : Array Int) (n a s : Nat) (hd : d.size = n) (hab : 1 ≤ a ∧ a + 1 < n ∧ s ≤ 900) (hn : n ≤ 1152921504606846976) : ACall Tryz.prog 119 [.sl (acells d) n, .int .i64 ((a : Nat) : Int), .rp (INH, []) 0] [.op [.int .i64 ((s : Nat) : Int)]] (.int .i64 (((medianAdjacent (ltc cmpI) d a s).1 : Nat) : Int)) [.op [.int .i64 (((medianAdjacent (ltc cmpI) d a s).2 : Nat) : Int)]] := by
  refine ACall.intro Tryz.func119 rfl (N := 15) rfl (by decide) (by simp) ?_
  refine a_seq ?_
  refine a_region ?_
  refine rv (v := .int _ _) (v_assign il nf) ?_
  refine r_nil ?_
  refine a_seq ?_
  refine a_region ?_
  refine rv (v := .sl _ _) (v_move il nf) ?_
  refine rv (v := .int _ _) (v_move il nf) ?_
  refine rv (v := .int .i64 ((a - 1 : Nat) : Int)) ((v_sub il il (fun _ => by omega)).cast (int_eq (by omega))) ?_
  refine rv (v := .int _ _) (v_move il nf) ?_
  refine rv (v := .int _ _) (v_move il nf) ?_
  refine rv (v := .int .i64 ((a + 1 : Nat) : Int)) ((v_add il il (fun _ => by omega)).cast (int_eq (by omega))) ?_
  refine rv (v := .rp _ _) (v_move il nf) ?_
  refine r_step rfl (o_callIOp (q := (INH, [])) (vs := [.sl _ _, .int _ _, .int _ _, .int _ _, .rp _ _]) (args := [.sl _ _, .int .i64 _, .int .i64 _, .int .i64 _, .rp (INH, []) _]) (cs0 := [.int _ _]) (cs1 := [.int _ _]) (res := .int _ _) rfl hb120 rfl (by decide) ⟨.inl rfl, .inl rfl, .inl rfl, .inl rfl, .inl rfl, trivial⟩ rfl rfl (medianQ_c d n (a - 1) a (a + 1) s hd (by omega) hn) rfl rfl rfl rfl rfl (Nat.le_of_ble_eq_true rfl) (by decide) rfl) ?_
  refine rv (v := .int _ _) (v_assign il nf) ?_
  refine r_nil ?_
  refine a_ret ?_
  refine ret1 Tryz.results119 (by decide) (by decide) (Weak.of_eq (int_eq ?_)) rfl (Leaves.one (Weak.of_eq rfl) rfl)
  rfl
theorem choosePivotQ_c (d : Array Int) (n a b : Nat) (hd : d.size = n) (hab : a < b ∧ b ≤ n) (hn : n ≤ 1152921504606846976) : ACall Tryz.prog 102 [.sl (acells d) n, .int .i64 ((a : Nat) : Int), .int .i64 ((b : Nat) : Int)] [] (.tup [.int .i64 (((choosePivot (ltc cmpI) d a b).1 : Nat) : Int), .int .i64 ((hintN (choosePivot (ltc cmpI) d a b).2 : Nat) : Int)]) [] := by
  refine ACall.intro Tryz.func102 rfl (N := 57) rfl (by decide) (by simp) ?_
  refine a_seq ?_
  refine a_region ?_
  refine rv (v := .int _ _) (v_assign il nf) ?_
  refine rv (v := .int _ _) (v_assign il nf) ?_
  refine r_nil ?_
  refine a_seq ?_
  refine a_region ?_
  refine rv (v := .int _ _) (v_move il nf) ?_
  refine rv (v := .int _ _) (v_move il nf) ?_
  refine rv (v := .int .i64 ((b - a : Nat) : Int)) ((v_sub il il (fun _ => by omega)).cast (int_eq (by omega))) ?_
  refine rv (v := .int _ _) (v_assign il nf) ?_
  refine r_nil ?_
  refine a_seq ?_
  refine a_region ?_
  refine rn (v := .op [.int _ _]) (q_alloc zc3) ?_
  refine r_nil ?_
  refine a_seq ?_
  refine a_pre (ent_eq (t := 9) (v' := .op [.int .i64 ((0 : Nat) : Int)]) (Weak.of_eq rfl)) ?_
  refine a_region ?_
  refine rv (v := .int _ _) (v_move il nf) ?_
  refine rv (v := .int _ _) (v_move il nf) ?_
  refine rv (v := .int .i64 (((b - a) / 4 : Nat) : Int)) ((v_quo il il (fun _ => by omega)).cast (int_eq (by omega))) ?_
  refine rv (v := .int .i64 (((b - a) / 4 * 1 : Nat) : Int)) ((v_mul il il (fun _ => by omega)).cast (int_eq (by omega))) ?_
  refine rv (v := .int .i64 ((a + (b - a) / 4 * 1 : Nat) : Int)) ((v_add il il (fun _ => by omega)).cast (int_eq (by omega))) ?_
  refine rv (v := .int _ _) (v_assign il nf) ?_
  refine r_nil ?_
  refine a_seq ?_
  refine a_region ?_
  refine rv (v := .int _ _) (v_move il nf) ?_
  refine rv (v := .int _ _) (v_move il nf) ?_
  refine rv (v := .int .i64 (((b - a) / 4 : Nat) : Int)) ((v_quo il il (fun _ => by omega)).cast (int_eq (by omega))) ?_
  refine rv (v := .int .i64 (((b - a) / 4 * 2 : Nat) : Int)) ((v_mul il il (fun _ => by omega)).cast (int_eq (by omega))) ?_
  refine rv (v := .int .i64 ((a + (b - a) / 4 * 2 : Nat) : Int)) ((v_add il il (fun _ => by omega)).cast (int_eq (by omega))) ?_
  refine rv (v := .int _ _) (v_assign il nf) ?_
  refine r_nil ?_
  refine a_seq ?_
  refine a_region ?_
  refine rv (v := .int _ _) (v_move il nf) ?_
  refine rv (v := .int _ _) (v_move il nf) ?_
  refine rv (v := .int .i64 (((b - a) / 4 : Nat) : Int)) ((v_quo il il (fun _ => by omega)).cast (int_eq (by omega))) ?_
  refine rv (v := .int .i64 (((b - a) / 4 * 3 : Nat) : Int)) ((v_mul il il (fun _ => by omega)).cast (int_eq (by omega))) ?_
  refine rv (v := .int .i64 ((a + (b - a) / 4 * 3 : Nat) : Int)) ((v_add il il (fun _ => by omega)).cast (int_eq (by omega))) ?_
  refine rv (v := .int _ _) (v_assign il nf) ?_
  refine r_nil ?_
  refine a_seq ?_
  refine a_seq ?_
  refine a_region ?_
  refine rv (v := .int _ _) (v_move il nf) ?_
  refine rv (v := .bool _) (v_geq il il) ?_
  refine r_nil ?_
  refine a_cond rfl (fun ht32 => ?_) (fun ht32 => ?_)
  ·
    skip
    refine a_seq ?_
    refine a_seq ?_
    have h8 : b - a ≥ 8 := (by simp at ht32; omega)
    refine a_region ?_
    refine rv (v := .int _ _) (v_move il nf) ?_
    refine rv (v := .bool _) (v_geq il il) ?_
    refine r_nil ?_
    refine a_cond rfl (fun ht34 => ?_) (fun ht34 => ?_)
    ·
      skip
      refine a_seq ?_
      have h50 : b - a ≥ 50 := (by simp at ht34; omega)
      have m1 : (medianAdjacent (ltc cmpI) d (a + (b - a) / 4 * 1) 0).1 < n ∧ (medianAdjacent (ltc cmpI) d (a + (b - a) / 4 * 1) 0).2 ≤ 0 + 3 := med_bd (by omega) (by omega) (by omega)
      have m2 : (medianAdjacent (ltc cmpI) d (a + (b - a) / 4 * 2) (medianAdjacent (ltc cmpI) d (a + (b - a) / 4 * 1) 0).2).1 < n ∧ (medianAdjacent (ltc cmpI) d (a + (b - a) / 4 * 2) (medianAdjacent (ltc cmpI) d (a + (b - a) / 4 * 1) 0).2).2 ≤ (medianAdjacent (ltc cmpI) d (a + (b - a) / 4 * 1) 0).2 + 3 := med_bd (by omega) (by omega) (by omega)
      have m3 : (medianAdjacent (ltc cmpI) d (a + (b - a) / 4 * 3) (medianAdjacent (ltc cmpI) d (a + (b - a) / 4 * 2) (medianAdjacent (ltc cmpI) d (a + (b - a) / 4 * 1) 0).2).2).1 < n ∧ (medianAdjacent (ltc cmpI) d (a + (b - a) / 4 * 3) (medianAdjacent (ltc cmpI) d (a + (b - a) / 4 * 2) (medianAdjacent (ltc cmpI) d (a + (b - a) / 4 * 1) 0).2).2).2 ≤ (medianAdjacent (ltc cmpI) d (a + (b - a) / 4 * 2) (medianAdjacent (ltc cmpI) d (a + (b - a) / 4 * 1) 0).2).2 + 3 := med_bd (by omega) (by omega) (by omega)
      refine a_region ?_
      refine rv (v := .sl _ _) (v_move il nf) ?_
      refine rv (v := .int _ _) (v_move il nf) ?_
      refine r_step rfl (o_callIOp (q := (9, [])) (vs := [.sl _ _, .int _ _, .rp _ _]) (args := [.sl _ _, .int .i64 _, .rp (INH, []) _]) (cs0 := [.int _ _]) (cs1 := [.int _ _]) (res := .int _ _) rfl hb119 rfl (by decide) ⟨.inl rfl, .inl rfl, .inl rfl, trivial⟩ rfl rfl (medianAdjQ_c d n (a + (b - a) / 4 * 1) 0 hd (by omega) hn) rfl rfl rfl rfl rfl (Nat.le_of_ble_eq_true rfl) (by decide) rfl) ?_
      refine rv (v := .int _ _) (v_assign il nf) ?_
      refine r_nil ?_
      refine a_seq ?_
      refine a_pre (ent_look (L := [(0, .sl _ _), (6, .int _ _), (7, .int _ _), (9, .op [.int _ _]), (10, .int _ _), (11, .int _ _), (12, .int _ _)]) ⟨Weak.rfl, Weak.rfl, Weak.rfl, Weak.rfl, Weak.rfl, Weak.rfl, Weak.rfl, trivial⟩) ?_
      refine a_region ?_
      refine rv (v := .sl _ _) (v_move il nf) ?_
      refine rv (v := .int _ _) (v_move il nf) ?_
      refine r_step rfl (o_callIOp (q := (9, [])) (vs := [.sl _ _, .int _ _, .rp _ _]) (args := [.sl _ _, .int .i64 _, .rp (INH, []) _]) (cs0 := [.int _ _]) (cs1 := [.int _ _]) (res := .int _ _) rfl hb119 rfl (by decide) ⟨.inl rfl, .inl rfl, .inl rfl, trivial⟩ rfl rfl (medianAdjQ_c d n (a + (b - a) / 4 * 2) _ hd (by omega) hn) rfl rfl rfl rfl rfl (Nat.le_of_ble_eq_true rfl) (by decide) rfl) ?_
      refine rv (v := .int _ _) (v_assign il nf) ?_
      refine r_nil ?_
      refine a_region ?_
      refine rv (v := .sl _ _) (v_move il nf) ?_
      refine rv (v := .int _ _) (v_move il nf) ?_
      refine r_step rfl (o_callIOp (q := (9, [])) (vs := [.sl _ _, .int _ _, .rp _ _]) (args := [.sl _ _, .int .i64 _, .rp (INH, []) _]) (cs0 := [.int _ _]) (cs1 := [.int _ _]) (res := .int _ _) rfl hb119 rfl (by decide) ⟨.inl rfl, .inl rfl, .inl rfl, trivial⟩ rfl rfl (medianAdjQ_c d n (a + (b - a) / 4 * 3) _ hd (by omega) hn) rfl rfl rfl rfl rfl (Nat.le_of_ble_eq_true rfl) (by decide) rfl) ?_
      refine rv (v := .int _ _) (v_assign il nf) ?_
      refine r_nil ?_
      refine a_region ?_
      refine rv (v := .sl _ _) (v_move il nf) ?_
      refine rv (v := .int _ _) (v_move il nf) ?_
      refine rv (v := .int _ _) (v_move il nf) ?_
      refine rv (v := .int _ _) (v_move il nf) ?_
      refine r_step rfl (o_callIOp (q := (9, [])) (vs := [.sl _ _, .int _ _, .int _ _, .int _ _, .rp _ _]) (args := [.sl _ _, .int .i64 _, .int .i64 _, .int .i64 _, .rp (INH, []) _]) (cs0 := [.int _ _]) (cs1 := [.int _ _]) (res := .int _ _) rfl hb120 rfl (by decide) ⟨.inl rfl, .inl rfl, .inl rfl, .inl rfl, .inl rfl, trivial⟩ rfl rfl (medianQ_c d n _ _ _ _ hd (by omega) hn) rfl rfl rfl rfl rfl (Nat.le_of_ble_eq_true rfl) (by decide) rfl) ?_
      refine rv (v := .int _ _) (v_assign il nf) ?_
      refine r_nil ?_
      refine a_seq ?_
      refine a_pre (ent_eq (t := 11) (v' := .int .i64 (((cpR (ltc cmpI) d a b).1 : Nat) : Int)) (Weak.of_eq (int_eq (congrArg Nat.cast (by unfold cpR; first | (rw [if_pos h8, if_pos h50]; done) | (rw [if_pos h8, if_neg (by simp at ht34; omega)]; done) | (rw [if_neg (by simp at ht32; omega)])))))) ?_
      refine a_pre (ent_eq (t := 9) (v' := .op [.int .i64 (((cpR (ltc cmpI) d a b).2 : Nat) : Int)]) (Weak.of_eq (congrArg (fun z : Nat => AV.op [.int .i64 (z : Int)]) (by unfold cpR; first | (rw [if_pos h8, if_pos h50]; done) | (rw [if_pos h8, if_neg (by simp at ht34; omega)]; done) | (rw [if_neg (by simp at ht32; omega)]))))) ?_
      refine a_region ?_
      refine rv (v := .int _ _) (v_load_rp1 ta3 il rfl (fun _ => rfl) rfl) ?_
      refine r_nil ?_
      refine a_block ?_
      refine a_seq ?_
      refine a_region ?_
      refine rv (v := .bool _) (v_eql il il) ?_
      refine rv (v := .bool _) (v_assign il nf) ?_
      refine r_nil ?_
      refine a_cond rfl (fun ht51 => ?_) (fun ht51 => ?_)
      ·
        skip
        refine a_seq ?_
        refine a_region ?_
        refine rv (v := .int _ _) (v_move il nf) ?_
        refine rv (v := .int _ _) (v_assign il nf) ?_
        refine rv (v := .int _ _) (v_assign il nf) ?_
        refine r_nil ?_
        refine a_ret ?_
        refine retL (rs := [.tmp 6, .tmp 7]) [(6, _), (7, _)] ⟨Weak.rfl, Weak.rfl, trivial⟩ rfl Tryz.results102 (by decide) ⟨by decide, by decide, rfl⟩ (by decide) (by decide) (l2_eq (int_eq ?_) (int_eq ?_)) rfl
        · rw [cp_eq]
        · rw [cp_eq]; dsimp only; rw [if_pos (by simp at ht51; omega)]; rfl
      ·
        skip
        refine a_seq ?_
        refine a_region ?_
        refine rv (v := .bool _) (v_eql il il) ?_
        refine rv (v := .bool _) (v_assign il nf) ?_
        refine r_nil ?_
        refine a_cond rfl (fun ht54 => ?_) (fun ht54 => ?_)
        ·
          skip
          refine a_seq ?_
          refine a_region ?_
          refine rv (v := .int _ _) (v_move il nf) ?_
          refine rv (v := .int _ _) (v_assign il nf) ?_
          refine rv (v := .int _ _) (v_assign il nf) ?_
          refine r_nil ?_
          refine a_ret ?_
          refine retL (rs := [.tmp 6, .tmp 7]) [(6, _), (7, _)] ⟨Weak.rfl, Weak.rfl, trivial⟩ rfl Tryz.results102 (by decide) ⟨by decide, by decide, rfl⟩ (by decide) (by decide) (l2_eq (int_eq ?_) (int_eq ?_)) rfl
          · rw [cp_eq]
          · rw [cp_eq]; dsimp only; rw [if_neg (by simp at ht51; omega), if_pos (by simp at ht54; omega)]; rfl
        ·
          skip
          refine a_seq ?_
          refine a_region ?_
          refine rv (v := .int _ _) (v_move il nf) ?_
          refine rv (v := .int _ _) (v_assign il nf) ?_
          refine rv (v := .int _ _) (v_assign il nf) ?_
          refine r_nil ?_
          refine a_ret ?_
          refine retL (rs := [.tmp 6, .tmp 7]) [(6, _), (7, _)] ⟨Weak.rfl, Weak.rfl, trivial⟩ rfl Tryz.results102 (by decide) ⟨by decide, by decide, rfl⟩ (by decide) (by decide) (l2_eq (int_eq ?_) (int_eq ?_)) rfl
          · rw [cp_eq]
          · rw [cp_eq]; dsimp only; rw [if_neg (by simp at ht51; omega), if_neg (by simp at ht54; omega)]; rfl
    ·
      skip
      refine a_skip ?_
      refine a_region ?_
      refine rv (v := .sl _ _) (v_move il nf) ?_
      refine rv (v := .int _ _) (v_move il nf) ?_
      refine rv (v := .int _ _) (v_move il nf) ?_
      refine rv (v := .int _ _) (v_move il nf) ?_
      refine r_step rfl (o_callIOp (q := (9, [])) (vs := [.sl _ _, .int _ _, .int _ _, .int _ _, .rp _ _]) (args := [.sl _ _, .int .i64 _, .int .i64 _, .int .i64 _, .rp (INH, []) _]) (cs0 := [.int _ _]) (cs1 := [.int _ _]) (res := .int _ _) rfl hb120 rfl (by decide) ⟨.inl rfl, .inl rfl, .inl rfl, .inl rfl, .inl rfl, trivial⟩ rfl rfl (medianQ_c d n _ _ _ _ hd (by omega) hn) rfl rfl rfl rfl rfl (Nat.le_of_ble_eq_true rfl) (by decide) rfl) ?_
      refine rv (v := .int _ _) (v_assign il nf) ?_
      refine r_nil ?_
      refine a_seq ?_
      refine a_pre (ent_look (L := [(6, .int _ _), (7, .int _ _), (9, .op [.int _ _]), (11, .int _ _)]) ⟨Weak.rfl, Weak.rfl, Weak.rfl, Weak.rfl, trivial⟩) ?_
      refine a_pre (ent_eq (t := 11) (v' := .int .i64 (((cpR (ltc cmpI) d a b).1 : Nat) : Int)) (Weak.of_eq (int_eq (congrArg Nat.cast (by unfold cpR; first | (rw [if_pos h8, if_pos h50]; done) | (rw [if_pos h8, if_neg (by simp at ht34; omega)]; done) | (rw [if_neg (by simp at ht32; omega)])))))) ?_
      refine a_pre (ent_eq (t := 9) (v' := .op [.int .i64 (((cpR (ltc cmpI) d a b).2 : Nat) : Int)]) (Weak.of_eq (congrArg (fun z : Nat => AV.op [.int .i64 (z : Int)]) (by unfold cpR; first | (rw [if_pos h8, if_pos h50]; done) | (rw [if_pos h8, if_neg (by simp at ht34; omega)]; done) | (rw [if_neg (by simp at ht32; omega)]))))) ?_
      refine a_region ?_
      refine rv (v := .int _ _) (v_load_rp1 ta3 il rfl (fun _ => rfl) rfl) ?_
      refine r_nil ?_
      refine a_block ?_
      refine a_seq ?_
      refine a_region ?_
      refine rv (v := .bool _) (v_eql il il) ?_
      refine rv (v := .bool _) (v_assign il nf) ?_
      refine r_nil ?_
      refine a_cond rfl (fun ht51 => ?_) (fun ht51 => ?_)
      ·
        skip
        refine a_seq ?_
        refine a_region ?_
        refine rv (v := .int _ _) (v_move il nf) ?_
        refine rv (v := .int _ _) (v_assign il nf) ?_
        refine rv (v := .int _ _) (v_assign il nf) ?_
        refine r_nil ?_
        refine a_ret ?_
        refine retL (rs := [.tmp 6, .tmp 7]) [(6, _), (7, _)] ⟨Weak.rfl, Weak.rfl, trivial⟩ rfl Tryz.results102 (by decide) ⟨by decide, by decide, rfl⟩ (by decide) (by decide) (l2_eq (int_eq ?_) (int_eq ?_)) rfl
        · rw [cp_eq]
        · rw [cp_eq]; dsimp only; rw [if_pos (by simp at ht51; omega)]; rfl
      ·
        skip
        refine a_seq ?_
        refine a_region ?_
        refine rv (v := .bool _) (v_eql il il) ?_
        refine rv (v := .bool _) (v_assign il nf) ?_
        refine r_nil ?_
        refine a_cond rfl (fun ht54 => ?_) (fun ht54 => ?_)
        ·
          skip
          refine a_seq ?_
          refine a_region ?_
          refine rv (v := .int _ _) (v_move il nf) ?_
          refine rv (v := .int _ _) (v_assign il nf) ?_
          refine rv (v := .int _ _) (v_assign il nf) ?_
          refine r_nil ?_
          refine a_ret ?_
          refine retL (rs := [.tmp 6, .tmp 7]) [(6, _), (7, _)] ⟨Weak.rfl, Weak.rfl, trivial⟩ rfl Tryz.results102 (by decide) ⟨by decide, by decide, rfl⟩ (by decide) (by decide) (l2_eq (int_eq ?_) (int_eq ?_)) rfl
          · rw [cp_eq]
          · rw [cp_eq]; dsimp only; rw [if_neg (by simp at ht51; omega), if_pos (by simp at ht54; omega)]; rfl
        ·
          skip
          refine a_seq ?_
          refine a_region ?_
          refine rv (v := .int _ _) (v_move il nf) ?_
          refine rv (v := .int _ _) (v_assign il nf) ?_
          refine rv (v := .int _ _) (v_assign il nf) ?_
          refine r_nil ?_
          refine a_ret ?_
          refine retL (rs := [.tmp 6, .tmp 7]) [(6, _), (7, _)] ⟨Weak.rfl, Weak.rfl, trivial⟩ rfl Tryz.results102 (by decide) ⟨by decide, by decide, rfl⟩ (by decide) (by decide) (l2_eq (int_eq ?_) (int_eq ?_)) rfl
          · rw [cp_eq]
          · rw [cp_eq]; dsimp only; rw [if_neg (by simp at ht51; omega), if_neg (by simp at ht54; omega)]; rfl
  ·
    skip
    refine a_skip ?_
    refine a_seq ?_
    refine a_pre (ent_eq (t := 11) (v' := .int .i64 (((cpR (ltc cmpI) d a b).1 : Nat) : Int)) (Weak.of_eq (int_eq (congrArg Nat.cast (by unfold cpR; first | (rw [if_pos h8, if_pos h50]; done) | (rw [if_pos h8, if_neg (by simp at ht34; omega)]; done) | (rw [if_neg (by simp at ht32; omega)])))))) ?_
    refine a_pre (ent_eq (t := 9) (v' := .op [.int .i64 (((cpR (ltc cmpI) d a b).2 : Nat) : Int)]) (Weak.of_eq (congrArg (fun z : Nat => AV.op [.int .i64 (z : Int)]) (by unfold cpR; first | (rw [if_pos h8, if_pos h50]; done) | (rw [if_pos h8, if_neg (by simp at ht34; omega)]; done) | (rw [if_neg (by simp at ht32; omega)]))))) ?_
    refine a_region ?_
    refine rv (v := .int _ _) (v_load_rp1 ta3 il rfl (fun _ => rfl) rfl) ?_
    refine r_nil ?_
    refine a_block ?_
    refine a_seq ?_
    refine a_region ?_
    refine rv (v := .bool _) (v_eql il il) ?_
    refine rv (v := .bool _) (v_assign il nf) ?_
    refine r_nil ?_
    refine a_cond rfl (fun ht51 => ?_) (fun ht51 => ?_)
    ·
      skip
      refine a_seq ?_
      refine a_pre (ent_look (L := [(6, .int _ _), (7, .int _ _), (11, .int _ _), (49, .int _ _)]) ⟨Weak.rfl, Weak.rfl, Weak.rfl, Weak.rfl, trivial⟩) ?_
      refine a_region ?_
      refine rv (v := .int _ _) (v_move il nf) ?_
      refine rv (v := .int _ _) (v_assign il nf) ?_
      refine rv (v := .int _ _) (v_assign il nf) ?_
      refine r_nil ?_
      refine a_ret ?_
      refine retL (rs := [.tmp 6, .tmp 7]) [(6, _), (7, _)] ⟨Weak.rfl, Weak.rfl, trivial⟩ rfl Tryz.results102 (by decide) ⟨by decide, by decide, rfl⟩ (by decide) (by decide) (l2_eq (int_eq ?_) (int_eq ?_)) rfl
      · rw [cp_eq]
      · rw [cp_eq]; dsimp only; rw [if_pos (by simp at ht51; omega)]; rfl
    ·
      skip
      refine a_seq ?_
      refine a_pre (ent_look (L := [(6, .int _ _), (7, .int _ _), (11, .int _ _), (49, .int _ _)]) ⟨Weak.rfl, Weak.rfl, Weak.rfl, Weak.rfl, trivial⟩) ?_
      refine a_region ?_
      refine rv (v := .bool _) (v_eql il il) ?_
      refine rv (v := .bool _) (v_assign il nf) ?_
      refine r_nil ?_
      refine a_cond rfl (fun ht54 => ?_) (fun ht54 => ?_)
      ·
        skip
        refine a_seq ?_
        refine a_region ?_
        refine rv (v := .int _ _) (v_move il nf) ?_
        refine rv (v := .int _ _) (v_assign il nf) ?_
        refine rv (v := .int _ _) (v_assign il nf) ?_
        refine r_nil ?_
        refine a_ret ?_
        refine retL (rs := [.tmp 6, .tmp 7]) [(6, _), (7, _)] ⟨Weak.rfl, Weak.rfl, trivial⟩ rfl Tryz.results102 (by decide) ⟨by decide, by decide, rfl⟩ (by decide) (by decide) (l2_eq (int_eq ?_) (int_eq ?_)) rfl
        · rw [cp_eq]
        · rw [cp_eq]; dsimp only; rw [if_neg (by simp at ht51; omega), if_pos (by simp at ht54; omega)]; rfl
      ·
        skip
        refine a_seq ?_
        refine a_region ?_
        refine rv (v := .int _ _) (v_move il nf) ?_
        refine rv (v := .int _ _) (v_assign il nf) ?_
        refine rv (v := .int _ _) (v_assign il nf) ?_
        refine r_nil ?_
        refine a_ret ?_
        refine retL (rs := [.tmp 6, .tmp 7]) [(6, _), (7, _)] ⟨Weak.rfl, Weak.rfl, trivial⟩ rfl Tryz.results102 (by decide) ⟨by decide, by decide, rfl⟩ (by decide) (by decide) (l2_eq (int_eq ?_) (int_eq ?_)) rfl
        · rw [cp_eq]
        · rw [cp_eq]; dsimp only; rw [if_neg (by simp at ht51; omega), if_neg (by simp at ht54; omega)]; rfl
end Go.Av
namespace Go.Av
open Go Go.Proofs Go.Sort
set_option maxRecDepth 10000
theorem breakPatternsQ_c (d : Array Int) (n a b : Nat) (hd : d.size = n) (hab : a < b ∧ b ≤ n) (hn : n ≤ 1152921504606846976) : ACall Tryz.prog 101 [.rsl (INH, []) 1 0 n none, .int .i64 ((a : Nat) : Int), .int .i64 ((b : Nat) : Int)] [.osl 1 (acells d) n none] (.tup []) [.osl 1 (acells (breakPatterns d a b)) n none] := by
 have hbl : bitsLen (b - a) ≤ 61 := (bitsLen_le_iff _ _).2 (by omega)
 have hpw : 2 ^ bitsLen (b - a) ≤ 2 ^ 61 := Nat.pow_le_pow_right (by decide) hbl
 have hp0 : 0 < 2 ^ bitsLen (b - a) := Nat.two_pow_pos _
 refine ACall.intro Tryz.func101 rfl (N := 65) rfl (by decide) (by simp) ?_
 refine a_seq ?_
 refine a_region ?_
 refine rv (v := .int _ _) (v_move il nf) ?_
 refine rv (v := .int _ _) (v_move il nf) ?_
 refine rv (v := .int .i64 ((b - a : Nat) : Int)) ((v_sub il il (fun _ => by omega)).cast (int_eq (by omega))) ?_
 refine rv (v := .int _ _) (v_assign il nf) ?_
 refine r_nil ?_
 refine a_seq ?_
 refine a_region ?_
 refine rv (v := .int _ _) (v_move il nf) ?_
 refine rv (v := .bool _) (v_geq il il) ?_
 refine r_nil ?_
 refine a_cond rfl (fun ht15 => ?_) (fun ht15 => ?_)
 ·
  skip
  refine a_seq ?_
  have h8 : b - a ≥ 8 := (by simp at ht15; omega)
  refine a_region ?_
  refine rv (v := .int _ _) (v_move il nf) ?_
  refine rv (v := .int _ _) (v_conv iss3 uni113 il (fun _ => IntWalk.u64_in _ (by omega))) ?_
  refine rn (v := .op [.int _ _]) (q_alloc zc113) ?_
  refine r_step rfl (o_store (v := .int _ _) (y' := .op [.int _ _]) rfl rfl ta113 il il rfl rfl rfl rfl rfl rfl (Nat.le_of_ble_eq_true rfl) (by decide) rfl rfl) ?_
  refine r_nil ?_
  refine a_seq ?_
  refine a_region ?_
  refine rv (v := .int _ _) (v_move il nf) ?_
  refine rn (v := .int _ _) (q_call (vs := [.int _ _]) (args := [.int .i64 ((_ : Nat) : Int)]) hb117 ⟨il, trivial⟩ rfl (fun hA => nextPow_c (b - a) (by omega)) rfl rfl) ?_
  refine rv (v := .int _ _) (v_assign il nf) ?_
  refine r_nil ?_
  refine a_seq ?_
  refine a_region ?_
  refine rv (v := .int _ _) (v_move il nf) ?_
  refine rv (v := .int _ _) (v_move il nf) ?_
  refine rv (v := .int .i64 (((b - a) / 4 : Nat) : Int)) ((v_quo il il (fun _ => by omega)).cast (int_eq (by omega))) ?_
  refine rv (v := .int .i64 (((b - a) / 4 * 2 : Nat) : Int)) ((v_mul il il (fun _ => by omega)).cast (int_eq (by omega))) ?_
  refine rv (v := .int .i64 ((a + (b - a) / 4 * 2 : Nat) : Int)) ((v_add il il (fun _ => by omega)).cast (int_eq (by omega))) ?_
  refine rv (v := .int .i64 ((a + (b - a) / 4 * 2 - 1 : Nat) : Int)) ((v_sub il il (fun _ => by omega)).cast (int_eq (by omega))) ?_
  refine rv (v := .int _ _) (v_assign il nf) ?_
  refine r_nil ?_
  refine a_block ?_
  refine a_loop (X := (Nat × Nat × Array Int)) (fun x => look [(0, .rsl (INH, []) 1 0 n none), (1, .int .i64 ((a : Nat) : Int)), (6, .int .i64 ((b - a : Nat) : Int)), (7, .op [.int .u64 ((x.2.1 : Nat) : Int)]), (8, .int .u64 ((2 ^ bitsLen (b - a) : Nat) : Int)), (9, .int .i64 (((a + (b - a) / 4 * 2 - 1 + x.1) : Nat) : Int)), (INH, .osl 1 (acells x.2.2) n none)]) (fun x => x.1 ≤ 3 ∧ x.2.1 < 18446744073709551616 ∧ x.2.2.size = n ∧ bpN a (b - a) (3 - x.1) (a + (b - a) / 4 * 2 - 1 + x.1) x.2.1 x.2.2 = breakPatterns d a b) (fun x => 3 - x.1) (0, b - a, d) (ent_look ⟨Weak.of_eq rfl, Weak.of_eq rfl, Weak.of_eq rfl, Weak.of_eq rfl, Weak.of_eq rfl, Weak.of_eq (int_eq (by dsimp only; omega)), Weak.of_eq rfl, trivial⟩) ⟨by dsimp only; omega, by dsimp only; omega, hd, (bp_eq h8 (by omega)).symm⟩ (fun x hG => ?_)
  obtain ⟨g1, g2, g3, g4⟩ := hG
  refine a_seq ?_
  refine a_seq ?_
  refine a_region ?_
  refine rv (v := .int _ _) (v_move il nf) ?_
  refine rv (v := .int _ _) (v_move il nf) ?_
  refine rv (v := .int _ _) (v_move il nf) ?_
  refine rv (v := .int .i64 (((b - a) / 4 : Nat) : Int)) ((v_quo il il (fun _ => by omega)).cast (int_eq (by omega))) ?_
  refine rv (v := .int .i64 (((b - a) / 4 * 2 : Nat) : Int)) ((v_mul il il (fun _ => by omega)).cast (int_eq (by omega))) ?_
  refine rv (v := .int .i64 ((a + (b - a) / 4 * 2 : Nat) : Int)) ((v_add il il (fun _ => by omega)).cast (int_eq (by omega))) ?_
  refine rv (v := .int .i64 ((a + (b - a) / 4 * 2 + 1 : Nat) : Int)) ((v_add il il (fun _ => by omega)).cast (int_eq (by omega))) ?_
  refine rv (v := .bool _) (v_leq il il) ?_
  refine r_nil ?_
  refine a_cond rfl (fun ht33 => ?_) (fun ht33 => ?_)
  ·
   skip
   refine a_skip ?_
   refine a_seq ?_
   refine a_block ?_
   refine a_seq ?_
   have hx3 : x.1 < 3 := (by simp at ht33; omega)
   have hmk : xorNextN x.2.1 &&& (2 ^ bitsLen (b - a) - 1) ≤ 2 ^ bitsLen (b - a) - 1 := Nat.and_le_right
   have hnx := xorNextN_lt _ g2
   have hbo := bpO_lt (L := b - a) (r := x.2.1) (by omega)
   refine a_region ?_
   refine r_step rfl (o_callIOp (q := (7, [])) (vs := [.rp _ _]) (args := [.rp (INH, []) _]) (cs0 := [.int _ _]) (cs1 := [.int _ _]) (res := .int _ _) rfl hb118 rfl (by decide) ⟨.inl rfl, trivial⟩ rfl rfl (next_c x.2.1 g2) rfl rfl rfl rfl rfl (Nat.le_of_ble_eq_true rfl) (by decide) rfl) ?_
   refine rv (v := .int _ _) (v_move il nf) ?_
   refine rv (v := .int .u64 ((2 ^ bitsLen (b - a) - 1 : Nat) : Int)) ((v_subu il il (fun _ => by omega)).cast (int_eq (by omega))) ?_
   refine rv (v := .int _ _) (v_andn il il (fun _ => by omega)) ?_
   refine rv (v := .int _ _) (v_conv iss91 uni3 il (fun _ => IntWalk.i64_in _ (by omega))) ?_
   refine rv (v := .int _ _) (v_assign il nf) ?_
   refine r_nil ?_
   refine a_seq ?_
   refine a_seq ?_
   refine a_region ?_
   refine rv (v := .int _ _) (v_move il nf) ?_
   refine rv (v := .int _ _) (v_move il nf) ?_
   refine rv (v := .bool _) (v_geq il il) ?_
   refine r_nil ?_
   refine a_cond rfl (fun ht43 => ?_) (fun ht43 => ?_)
   ·
    skip
    refine a_region ?_
    refine rv (v := .int _ _) (v_move il nf) ?_
    refine rv (v := .int _ _) (v_move il nf) ?_
    refine rv (v := .int _ _) (v_sub il il (fun _ => by omega)) ?_
    refine rv (v := .int _ _) (v_assign il nf) ?_
    refine r_nil ?_
    refine a_pre (ent_eq (t := 10) (v' := .int .i64 ((bpO (b - a) x.2.1 : Nat) : Int)) (Weak.of_eq (int_eq (by first | (have h45 := of_decide_eq_true ht43; rw [show bpO (b - a) x.2.1 = (xorNextN x.2.1 &&& (2 ^ bitsLen (b - a) - 1)) - (b - a) from if_pos (by omega)]; omega) | (have h45 := of_decide_eq_false ht43; rw [show bpO (b - a) x.2.1 = (xorNextN x.2.1 &&& (2 ^ bitsLen (b - a) - 1)) from if_neg (by omega)]))))) ?_
    have hp1 : (a + (b - a) / 4 * 2 - 1 + x.1) * 1 + 1 ≤ (acells x.2.2).length := (by rw [acells_length]; omega)
    have hp2 : (a + bpO (b - a) x.2.1) * 1 + 1 ≤ ((acells x.2.2).set ((a + (b - a) / 4 * 2 - 1 + x.1) * 1) (.int .i64 x.2.2[(a + bpO (b - a) x.2.1)]!)).length := (by rw [List.length_set, acells_length]; omega)
    have hset : ((acells x.2.2).set ((a + (b - a) / 4 * 2 - 1 + x.1) * 1) (.int .i64 x.2.2[(a + bpO (b - a) x.2.1)]!)).set ((a + bpO (b - a) x.2.1) * 1) (.int .i64 x.2.2[(a + (b - a) / 4 * 2 - 1 + x.1)]!) = acells (swp x.2.2 (a + (b - a) / 4 * 2 - 1 + x.1) (a + bpO (b - a) x.2.1)) := (by rw [Nat.mul_one, Nat.mul_one]; exact acells_swp _ _ _)
    refine a_region_w [(47, true), (48, true), (49, true), (50, true), (51, true), (52, true), (53, true), (54, true), (55, true), (56, true), (57, true), (58, true), (59, true), (60, true), (61, true), (62, true), (63, true), (INH, false), (64, true), (INH, false)] mixed (by kernel_rfl) ?_
    refine wv (v := .rsl _ _ _ _ _) (v_move il nf) ?_
    refine wv (v := .int _ _) (v_move il nf) ?_
    refine wv (v := .rsl _ _ _ _ _) (v_move il nf) ?_
    refine wv (v := .int _ _) (v_move il nf) ?_
    refine wv (v := .int _ _) (v_move il nf) ?_
    refine wv (v := .int .i64 (((a + bpO (b - a) x.2.1) : Nat) : Int)) ((v_add il il (fun _ => by omega)).cast (int_eq (by omega))) ?_
    refine wv (v := .rsl _ _ _ _ _) (v_move il nf) ?_
    refine wv (v := .int _ _) (v_move il nf) ?_
    refine wv (v := .int _ _) (v_move il nf) ?_
    refine wv (v := .int .i64 (((a + bpO (b - a) x.2.1) : Nat) : Int)) ((v_add il il (fun _ => by omega)).cast (int_eq (by omega))) ?_
    refine wv (v := .rp _ _) (v_indexAddr_rsl0 es25 il il (fun _ => by omega)) ?_
    refine wv (v := .int .i64 x.2.2[(a + bpO (b - a) x.2.1)]!) (v_load_rp1 ta3 il rfl (fun _ => by rw [Nat.mul_one]; exact acells_get (by omega)) rfl) ?_
    refine wv (v := .rsl _ _ _ _ _) (v_move il nf) ?_
    refine wv (v := .int _ _) (v_move il nf) ?_
    refine wv (v := .rp _ _) (v_indexAddr_rsl0 es25 il il (fun _ => by omega)) ?_
    refine wv (v := .int .i64 x.2.2[(a + (b - a) / 4 * 2 - 1 + x.1)]!) (v_load_rp1 ta3 il rfl (fun _ => by rw [Nat.mul_one]; exact acells_get (by omega)) rfl) ?_
    refine wv (v := .rp _ _) (v_indexAddr_rsl0 es25 il il (fun _ => by omega)) ?_
    refine w_store (v := .int _ _) (y' := .osl _ _ _ _) rfl rfl rfl ta3 (.inl rfl) (.inl rfl) rfl rfl rfl rfl rfl rfl hp1 (by decide) rfl rfl rfl (by kernel_rfl) ?_
    refine wv (v := .rp _ _) (v_indexAddr_rsl0 es25 il il (fun _ => by omega)) ?_
    refine w_store (v := .int _ _) (y' := .osl _ _ _ _) rfl rfl rfl ta3 (.inl rfl) (.inl rfl) rfl rfl rfl rfl rfl rfl hp2 (by decide) rfl (congrArg (fun c => AV.osl 1 c n none) hset) rfl (by kernel_rfl) ?_
    refine w_nil ?_
    refine a_pre (ent_look (L := [(0, .rsl _ _ _ _ _), (1, .int _ _), (6, .int _ _), (7, .op [.int _ _]), (8, .int _ _), (9, .int _ _), (INH, .osl _ _ _ _)]) ⟨Weak.rfl, Weak.rfl, Weak.rfl, Weak.rfl, Weak.rfl, Weak.rfl, Weak.rfl, trivial⟩) ?_
    refine a_region ?_
    refine rv (v := .int _ _) (v_move il nf) ?_
    refine rv (v := .int _ _) (v_add il il (fun _ => by omega)) ?_
    refine rv (v := .int _ _) (v_assign il nf) ?_
    refine r_nil ?_
    refine ⟨(x.1 + 1, xorNextN x.2.1, swp x.2.2 (a + (b - a) / 4 * 2 - 1 + x.1) (a + bpO (b - a) x.2.1)), ent_look ⟨Weak.of_eq rfl, Weak.of_eq rfl, Weak.of_eq rfl, Weak.of_eq rfl, Weak.of_eq rfl, Weak.of_eq (int_eq (by dsimp only; omega)), Weak.of_eq rfl, trivial⟩, ⟨by dsimp only; omega, xorNextN_lt _ g2, by rw [swp_size]; exact g3, by rw [← g4, show 3 - x.1 = (3 - (x.1 + 1)) + 1 by omega]; rfl⟩, by dsimp only; omega⟩
   ·
    skip
    refine a_skip ?_
    refine a_pre (ent_eq (t := 10) (v' := .int .i64 ((bpO (b - a) x.2.1 : Nat) : Int)) (Weak.of_eq (int_eq (by first | (have h45 := of_decide_eq_true ht43; rw [show bpO (b - a) x.2.1 = (xorNextN x.2.1 &&& (2 ^ bitsLen (b - a) - 1)) - (b - a) from if_pos (by omega)]; omega) | (have h45 := of_decide_eq_false ht43; rw [show bpO (b - a) x.2.1 = (xorNextN x.2.1 &&& (2 ^ bitsLen (b - a) - 1)) from if_neg (by omega)]))))) ?_
    have hp1 : (a + (b - a) / 4 * 2 - 1 + x.1) * 1 + 1 ≤ (acells x.2.2).length := (by rw [acells_length]; omega)
    have hp2 : (a + bpO (b - a) x.2.1) * 1 + 1 ≤ ((acells x.2.2).set ((a + (b - a) / 4 * 2 - 1 + x.1) * 1) (.int .i64 x.2.2[(a + bpO (b - a) x.2.1)]!)).length := (by rw [List.length_set, acells_length]; omega)
    have hset : ((acells x.2.2).set ((a + (b - a) / 4 * 2 - 1 + x.1) * 1) (.int .i64 x.2.2[(a + bpO (b - a) x.2.1)]!)).set ((a + bpO (b - a) x.2.1) * 1) (.int .i64 x.2.2[(a + (b - a) / 4 * 2 - 1 + x.1)]!) = acells (swp x.2.2 (a + (b - a) / 4 * 2 - 1 + x.1) (a + bpO (b - a) x.2.1)) := (by rw [Nat.mul_one, Nat.mul_one]; exact acells_swp _ _ _)
    refine a_region_w [(47, true), (48, true), (49, true), (50, true), (51, true), (52, true), (53, true), (54, true), (55, true), (56, true), (57, true), (58, true), (59, true), (60, true), (61, true), (62, true), (63, true), (INH, false), (64, true), (INH, false)] mixed (by kernel_rfl) ?_
    refine wv (v := .rsl _ _ _ _ _) (v_move il nf) ?_
    refine wv (v := .int _ _) (v_move il nf) ?_
    refine wv (v := .rsl _ _ _ _ _) (v_move il nf) ?_
    refine wv (v := .int _ _) (v_move il nf) ?_
    refine wv (v := .int _ _) (v_move il nf) ?_
    refine wv (v := .int .i64 (((a + bpO (b - a) x.2.1) : Nat) : Int)) ((v_add il il (fun _ => by omega)).cast (int_eq (by omega))) ?_
    refine wv (v := .rsl _ _ _ _ _) (v_move il nf) ?_
    refine wv (v := .int _ _) (v_move il nf) ?_
    refine wv (v := .int _ _) (v_move il nf) ?_
    refine wv (v := .int .i64 (((a + bpO (b - a) x.2.1) : Nat) : Int)) ((v_add il il (fun _ => by omega)).cast (int_eq (by omega))) ?_
    refine wv (v := .rp _ _) (v_indexAddr_rsl0 es25 il il (fun _ => by omega)) ?_
    refine wv (v := .int .i64 x.2.2[(a + bpO (b - a) x.2.1)]!) (v_load_rp1 ta3 il rfl (fun _ => by rw [Nat.mul_one]; exact acells_get (by omega)) rfl) ?_
    refine wv (v := .rsl _ _ _ _ _) (v_move il nf) ?_
    refine wv (v := .int _ _) (v_move il nf) ?_
    refine wv (v := .rp _ _) (v_indexAddr_rsl0 es25 il il (fun _ => by omega)) ?_
    refine wv (v := .int .i64 x.2.2[(a + (b - a) / 4 * 2 - 1 + x.1)]!) (v_load_rp1 ta3 il rfl (fun _ => by rw [Nat.mul_one]; exact acells_get (by omega)) rfl) ?_
    refine wv (v := .rp _ _) (v_indexAddr_rsl0 es25 il il (fun _ => by omega)) ?_
    refine w_store (v := .int _ _) (y' := .osl _ _ _ _) rfl rfl rfl ta3 (.inl rfl) (.inl rfl) rfl rfl rfl rfl rfl rfl hp1 (by decide) rfl rfl rfl (by kernel_rfl) ?_
    refine wv (v := .rp _ _) (v_indexAddr_rsl0 es25 il il (fun _ => by omega)) ?_
    refine w_store (v := .int _ _) (y' := .osl _ _ _ _) rfl rfl rfl ta3 (.inl rfl) (.inl rfl) rfl rfl rfl rfl rfl rfl hp2 (by decide) rfl (congrArg (fun c => AV.osl 1 c n none) hset) rfl (by kernel_rfl) ?_
    refine w_nil ?_
    refine a_pre (ent_look (L := [(0, .rsl _ _ _ _ _), (1, .int _ _), (6, .int _ _), (7, .op [.int _ _]), (8, .int _ _), (9, .int _ _), (INH, .osl _ _ _ _)]) ⟨Weak.rfl, Weak.rfl, Weak.rfl, Weak.rfl, Weak.rfl, Weak.rfl, Weak.rfl, trivial⟩) ?_
    refine a_region ?_
    refine rv (v := .int _ _) (v_move il nf) ?_
    refine rv (v := .int _ _) (v_add il il (fun _ => by omega)) ?_
    refine rv (v := .int _ _) (v_assign il nf) ?_
    refine r_nil ?_
    refine ⟨(x.1 + 1, xorNextN x.2.1, swp x.2.2 (a + (b - a) / 4 * 2 - 1 + x.1) (a + bpO (b - a) x.2.1)), ent_look ⟨Weak.of_eq rfl, Weak.of_eq rfl, Weak.of_eq rfl, Weak.of_eq rfl, Weak.of_eq rfl, Weak.of_eq (int_eq (by dsimp only; omega)), Weak.of_eq rfl, trivial⟩, ⟨by dsimp only; omega, xorNextN_lt _ g2, by rw [swp_size]; exact g3, by rw [← g4, show 3 - x.1 = (3 - (x.1 + 1)) + 1 by omega]; rfl⟩, by dsimp only; omega⟩
  ·
   skip
   refine a_exit ?_
   refine ret0_look Tryz.results101 (by decide) ?_ rfl
   exact Weak.of_eq (osl_eq (by rw [← g4, show 3 - x.1 = 0 by simp at ht33; omega]; rfl))
 ·
  skip
  refine a_skip ?_
  refine ret0_look Tryz.results101 (by decide) ?_ rfl
  exact Weak.of_eq (osl_eq (by unfold breakPatterns; simp only []; rw [if_neg (by simp at ht15; omega)]))
end Go.Av
namespace Go.Av
open Go Go.Proofs Go.Sort
set_option maxRecDepth 10000
theorem hb100 : hasBody Tryz.prog 100 = true := by kernel_rfl
theorem hb101 : hasBody Tryz.prog 101 = true := by kernel_rfl
theorem hb102 : hasBody Tryz.prog 102 = true := by kernel_rfl
theorem hb103 : hasBody Tryz.prog 103 = true := by kernel_rfl
theorem hb104 : hasBody Tryz.prog 104 = true := by kernel_rfl
theorem hb106 : hasBody Tryz.prog 106 = true := by kernel_rfl
theorem hb107 : hasBody Tryz.prog 107 = true := by kernel_rfl
theorem pdqQ_step (hS : SWO (ltc cmpI)) (n N : Nat) (hn : n ≤ 1152921504606846976) (ih : ∀ (d' : Array Int) (a' b' l' : Nat), d'.size = n → a' ≤ b' → b' ≤ n → b' - a' < N → l' ≤ 100 → Below (ltc cmpI) a' b' d' → ACall Tryz.prog 83 [.rsl (INH, []) 1 0 n none, .int .i64 ((a' : Nat) : Int), .int .i64 ((b' : Nat) : Int), .int .i64 ((l' : Nat) : Int)] [.osl 1 (acells d') n none] (.tup []) [.osl 1 (acells (pdq (ltc cmpI) d' a' b' l' true true)) n none]) (d : Array Int) (a b limit : Nat) (hd : d.size = n) (hab : a ≤ b ∧ b ≤ n ∧ b - a ≤ N ∧ limit ≤ 100) (hB : Below (ltc cmpI) a b d)  : ACall Tryz.prog 83 [.rsl (INH, []) 1 0 n none, .int .i64 ((a : Nat) : Int), .int .i64 ((b : Nat) : Int), .int .i64 ((limit : Nat) : Int)] [.osl 1 (acells d) n none] (.tup []) [.osl 1 (acells (pdq (ltc cmpI) d a b limit true true)) n none] := by
 refine ACall.intro Tryz.func83 rfl (N := 134) rfl (by decide) (by simp) ?_
 refine a_seq ?_
 refine a_region ?_
 refine rv (v := .bool _) (v_assign il nf) ?_
 refine r_nil ?_
 refine a_seq ?_
 refine a_region ?_
 refine rv (v := .bool _) (v_assign il nf) ?_
 refine r_nil ?_
 refine a_block ?_
 refine a_loop (X := PS) (fun x => look [(0, .rsl (INH, []) 1 0 n none), (1, .int .i64 ((x.a : Nat) : Int)), (2, .int .i64 ((x.b : Nat) : Int)), (3, .int .i64 ((x.lim : Nat) : Int)), (8, .bool x.wb), (9, .bool x.wp), (INH, .osl 1 (acells x.d) n none)]) (fun x => PInv (ltc cmpI) n N (pdq (ltc cmpI) d a b limit true true) x) (fun x => x.b - x.a) ⟨a, b, limit, true, true, d⟩ (ent_look ⟨Weak.of_eq rfl, Weak.of_eq rfl, Weak.of_eq rfl, Weak.of_eq rfl, Weak.of_eq rfl, Weak.of_eq rfl, Weak.of_eq rfl, trivial⟩) ⟨hab.1, hab.2.1, hab.2.2.1, hab.2.2.2, hd, hB, rfl⟩ (fun x hG => ?_)
 have hP := hG
 obtain ⟨g1, g2, g3, g4, g5, g6, g7⟩ := hG
 refine a_block ?_
 refine a_seq ?_
 refine a_region ?_
 refine rv (v := .int _ _) (v_move il nf) ?_
 refine rv (v := .int _ _) (v_move il nf) ?_
 refine rv (v := .int .i64 ((x.b - x.a : Nat) : Int)) ((v_sub il il (fun _ => by omega)).cast (int_eq (by omega))) ?_
 refine rv (v := .int _ _) (v_assign il nf) ?_
 refine r_nil ?_
 refine a_seq ?_
 refine a_seq ?_
 refine a_region ?_
 refine rv (v := .int _ _) (v_move il nf) ?_
 refine rv (v := .bool _) (v_leq il il) ?_
 refine r_nil ?_
 refine a_cond rfl (fun ht23 => ?_) (fun ht23 => ?_)
 ·
  skip
  refine a_seq ?_
  have h12 : x.b - x.a ≤ 12 := (by simp at ht23; omega)
  refine a_region ?_
  refine rv (v := .rsl _ _ _ _ _) (v_move il nf) ?_
  refine rv (v := .int _ _) (v_move il nf) ?_
  refine rv (v := .int _ _) (v_move il nf) ?_
  refine r_step rfl (o_callIO (q := (INH, [])) (vs := [.rsl _ _ _ _ _, .int _ _, .int _ _]) (args := [.rsl (INH, []) _ _ _ _, .int .i64 _, .int .i64 _]) (x0 := .osl _ _ _ _) (x1 := .osl _ _ _ _) (res := .tup []) rfl hb99 rfl (by decide) ⟨.inl rfl, .inl rfl, .inl rfl, trivial⟩ rfl rfl (insertionQ_c x.d n x.a x.b g5 (by omega) (by omega)) rfl rfl rfl (ac_noSh _) (ac_noRef _) (Nat.le_of_ble_eq_true rfl) (by decide) rfl) ?_
  refine r_nil ?_
  refine a_ret ?_
  refine ret0_look Tryz.results83 (by decide) ?_ rfl
  exact Weak.of_eq (osl_eq (by rw [← g7, pdq_small h12]))
 ·
  skip
  refine a_skip ?_
  refine a_seq ?_
  refine a_seq ?_
  refine a_region ?_
  refine rv (v := .int _ _) (v_move il nf) ?_
  refine rv (v := .bool _) (v_eql il il) ?_
  refine r_nil ?_
  refine a_cond rfl (fun ht29 => ?_) (fun ht29 => ?_)
  ·
   skip
   refine a_seq ?_
   have h12 : ¬ x.b - x.a ≤ 12 := (by simp at ht23; omega)
   have h0 : x.lim = 0 := (by simp at ht29; omega)
   refine a_region ?_
   refine rv (v := .rsl _ _ _ _ _) (v_move il nf) ?_
   refine rv (v := .int _ _) (v_move il nf) ?_
   refine rv (v := .int _ _) (v_move il nf) ?_
   refine r_step rfl (o_callIOk (q := (INH, [])) (vs := [.rsl _ _ _ _ _, .int _ _, .int _ _]) (args := [.rsl (INH, []) _ _ _ _, .int .i64 _, .int .i64 _]) (x0 := .osl _ _ _ _) (x1 := .osl _ _ _ _) (res := .tup []) rfl hb100 rfl (by decide) ⟨.inl rfl, .inl rfl, .inl rfl, trivial⟩ rfl rfl (heapSortQ_c x.d n x.a x.b g5 (by omega) hn) (by simp [stays]; omega) rfl rfl rfl (ac_noSh _) (ac_noRef _) (Nat.le_of_ble_eq_true rfl) (by decide) rfl) ?_
   refine r_nil ?_
   refine a_ret ?_
   refine ret0_look Tryz.results83 (by decide) ?_ rfl
   exact Weak.of_eq (osl_eq (by rw [← g7, pdq_heap h12 h0]))
  ·
   skip
   refine a_skip ?_
   refine a_join (X := Unit) (fun _u => look [(0, .rsl (INH, []) 1 0 n none), (1, .int .i64 ((x.a : Nat) : Int)), (2, .int .i64 ((x.b : Nat) : Int)), (3, .int .i64 (((x.rd (ltc cmpI)).lim : Nat) : Int)), (8, .bool x.wb), (9, .bool x.wp), (10, .int .i64 ((x.b - x.a : Nat) : Int)), (INH, .osl 1 (acells (x.rd (ltc cmpI)).d1) n none)]) (fun _u => True) ?_ (fun _u hJ => ?_)
   ·
    skip
    refine a_seq ?_
    have h12 : ¬ x.b - x.a ≤ 12 := (by simp at ht23; omega)
    have h0 : ¬ x.lim = 0 := (by simp at ht29; omega)
    have hf := hP.facts hS h12
    refine a_region ?_
    refine rv (v := .bool _) (v_move il nf) ?_
    refine rv (v := .bool _) (v_not il) ?_
    refine r_nil ?_
    refine a_cond rfl (fun ht35 => ?_) (fun ht35 => ?_)
    ·
     skip
     refine a_seq ?_
     refine a_region ?_
     refine rv (v := .rsl _ _ _ _ _) (v_move il nf) ?_
     refine rv (v := .int _ _) (v_move il nf) ?_
     refine rv (v := .int _ _) (v_move il nf) ?_
     refine r_step rfl (o_callIOk (q := (INH, [])) (vs := [.rsl _ _ _ _ _, .int _ _, .int _ _]) (args := [.rsl (INH, []) _ _ _ _, .int .i64 _, .int .i64 _]) (x0 := .osl _ _ _ _) (x1 := .osl _ _ _ _) (res := .tup []) rfl hb101 rfl (by decide) ⟨.inl rfl, .inl rfl, .inl rfl, trivial⟩ rfl rfl (breakPatternsQ_c x.d n x.a x.b g5 (by omega) hn) (by simp [stays]; omega) rfl rfl rfl (ac_noSh _) (ac_noRef _) (Nat.le_of_ble_eq_true rfl) (by decide) rfl) ?_
     refine r_nil ?_
     refine a_region ?_
     refine rv (v := .int _ _) (v_move il nf) ?_
     refine rv (v := .int _ _) (v_sub il il (fun _ => by omega)) ?_
     refine rv (v := .int _ _) (v_assign il nf) ?_
     refine r_nil ?_
     have hw : x.wb = false := (by simpa using ht35)
     have hl := (rdF (lt := (ltc cmpI)) hw)
     exact ⟨(), ent_look ⟨Weak.of_eq rfl, Weak.of_eq rfl, Weak.of_eq rfl, Weak.of_eq (int_eq (by have := hl.1; omega)), Weak.of_eq rfl, Weak.of_eq rfl, Weak.of_eq rfl, Weak.of_eq (osl_eq (by rw [hl.2])), trivial⟩, trivial⟩
    ·
     skip
     refine a_skip ?_
     have hw : x.wb = true := (by simpa using ht35)
     have hl := (rdT (lt := (ltc cmpI)) hw)
     exact ⟨(), ent_look ⟨Weak.of_eq rfl, Weak.of_eq rfl, Weak.of_eq rfl, Weak.of_eq (int_eq (by have := hl.1; omega)), Weak.of_eq rfl, Weak.of_eq rfl, Weak.of_eq rfl, Weak.of_eq (osl_eq (by rw [hl.2])), trivial⟩, trivial⟩
   ·
    skip
    have h12 : ¬ x.b - x.a ≤ 12 := (by simp at ht23; omega)
    have h0 : ¬ x.lim = 0 := (by simp at ht29; omega)
    have hf := hP.facts hS h12
    refine a_seq ?_
    refine a_region ?_
    refine rv (v := .rsl _ _ _ _ _) (v_move il nf) ?_
    refine rv (v := .int _ _) (v_move il nf) ?_
    refine rv (v := .int _ _) (v_move il nf) ?_
    refine rn (v := .tup [.int _ _, .int _ _]) (q_call (vs := [.rsl _ _ _ _ _, .int _ _, .int _ _]) (args := [.sl _ _, .int .i64 _, .int .i64 _]) hb102 ⟨il, il, il, trivial⟩ (l3_eq (sl_sh (ac_pure _)) rfl rfl) (fun hA => choosePivotQ_c _ n x.a x.b hf.1 (by omega) hn) rfl rfl) ?_
    refine rv (v := .tup [.int _ _, .int _ _]) (v_mv rfl) ?_
    refine rv (v := .int .i64 (((x.rd (ltc cmpI)).c.1 : Nat) : Int)) ((v_extract rfl rfl).cast (int_eq rfl)) ?_
    refine rv (v := .int .i64 ((hintN (x.rd (ltc cmpI)).c.2 : Nat) : Int)) ((v_extract rfl rfl).cast (int_eq rfl)) ?_
    refine rv (v := .int _ _) (v_assign il nf) ?_
    refine rv (v := .int _ _) (v_assign il nf) ?_
    refine r_nil ?_
    refine a_join (X := Unit) (fun _u => look [(0, .rsl (INH, []) 1 0 n none), (1, .int .i64 ((x.a : Nat) : Int)), (2, .int .i64 ((x.b : Nat) : Int)), (3, .int .i64 (((x.rd (ltc cmpI)).lim : Nat) : Int)), (8, .bool x.wb), (9, .bool x.wp), (10, .int .i64 ((x.b - x.a : Nat) : Int)), (11, .int .i64 (((x.rd (ltc cmpI)).pivot : Nat) : Int)), (12, .int .i64 ((hintN (x.rd (ltc cmpI)).hint : Nat) : Int)), (INH, .osl 1 (acells (x.rd (ltc cmpI)).d2) n none)]) (fun _u => True) ?_ (fun _u hJ => ?_)
    ·
     skip
     refine a_seq ?_
     refine a_region ?_
     refine rv (v := .int _ _) (v_move il nf) ?_
     refine rv (v := .bool _) (v_eql il il) ?_
     refine r_nil ?_
     refine a_cond rfl (fun ht50 => ?_) (fun ht50 => ?_)
     ·
      skip
      refine a_seq ?_
      refine a_region ?_
      refine rv (v := .rsl _ _ _ _ _) (v_move il nf) ?_
      refine rv (v := .int _ _) (v_move il nf) ?_
      refine rv (v := .int _ _) (v_move il nf) ?_
      refine r_step rfl (o_callIOk (q := (INH, [])) (vs := [.rsl _ _ _ _ _, .int _ _, .int _ _]) (args := [.rsl (INH, []) _ _ _ _, .int .i64 _, .int .i64 _]) (x0 := .osl _ _ _ _) (x1 := .osl _ _ _ _) (res := .tup []) rfl hb103 rfl (by decide) ⟨.inl rfl, .inl rfl, .inl rfl, trivial⟩ rfl rfl (reverseQ_c _ n x.a x.b hf.1 (by omega) hn) (by simp [stays]; omega) rfl rfl rfl (ac_noSh _) (ac_noRef _) (Nat.le_of_ble_eq_true rfl) (by decide) rfl) ?_
      refine r_nil ?_
      refine a_seq ?_
      refine a_region ?_
      refine rv (v := .int _ _) (v_move il nf) ?_
      refine rv (v := .int _ _) (v_sub il il (fun _ => by omega)) ?_
      refine rv (v := .int _ _) (v_move il nf) ?_
      refine rv (v := .int _ _) (v_move il nf) ?_
      refine rv (v := .int _ _) (v_sub il il (fun _ => by omega)) ?_
      refine rv (v := .int _ _) (v_sub il il (fun _ => by omega)) ?_
      refine rv (v := .int _ _) (v_assign il nf) ?_
      refine r_nil ?_
      refine a_pre (ent_look (L := [(0, .rsl _ _ _ _ _), (1, .int _ _), (2, .int _ _), (3, .int _ _), (8, .bool _), (9, .bool _), (10, .int _ _), (11, .int _ _), (12, .int _ _), (INH, .osl _ _ _ _)]) ⟨Weak.rfl, Weak.rfl, Weak.rfl, Weak.rfl, Weak.rfl, Weak.rfl, Weak.rfl, Weak.rfl, Weak.rfl, Weak.rfl, trivial⟩) ?_
      refine a_region ?_
      refine rv (v := .int _ _) (v_assign il nf) ?_
      refine r_nil ?_
      have hd2 := rd_dec (lt := (ltc cmpI)) (hintN_two.1 (of_decide_eq_true ht50) : (x.rd (ltc cmpI)).c.2 = .decreasing)
      exact ⟨(), ent_look ⟨Weak.of_eq rfl, Weak.of_eq rfl, Weak.of_eq rfl, Weak.of_eq rfl, Weak.of_eq rfl, Weak.of_eq rfl, Weak.of_eq rfl, Weak.of_eq (int_eq (by have h1 := hd2.2.1; have h2 := hf.2.1; dsimp only [PS.rd] at *; omega)), Weak.of_eq (int_eq (by rw [hd2.2.2]; rfl)), Weak.of_eq (osl_eq (by rw [hd2.1])), trivial⟩, trivial⟩
     ·
      skip
      refine a_skip ?_
      have hd2 := rd_not (lt := (ltc cmpI)) (fun h => of_decide_eq_false ht50 (hintN_two.2 h) : (x.rd (ltc cmpI)).c.2 ≠ .decreasing)
      exact ⟨(), ent_look ⟨Weak.of_eq rfl, Weak.of_eq rfl, Weak.of_eq rfl, Weak.of_eq rfl, Weak.of_eq rfl, Weak.of_eq rfl, Weak.of_eq rfl, Weak.of_eq (int_eq (by rw [hd2.2.1])), Weak.of_eq (int_eq (by rw [hd2.2.2])), Weak.of_eq (osl_eq (by rw [hd2.1])), trivial⟩, trivial⟩
    ·
     skip
     refine a_join (X := Unit) (fun _u => look [(0, .rsl (INH, []) 1 0 n none), (1, .int .i64 ((x.a : Nat) : Int)), (2, .int .i64 ((x.b : Nat) : Int)), (3, .int .i64 (((x.rd (ltc cmpI)).lim : Nat) : Int)), (8, .bool x.wb), (9, .bool x.wp), (10, .int .i64 ((x.b - x.a : Nat) : Int)), (11, .int .i64 (((x.rd (ltc cmpI)).pivot : Nat) : Int)), (INH, .osl 1 (acells (x.rd (ltc cmpI)).pi.1) n none)]) (fun _u => (x.rd (ltc cmpI)).pi.2 = false) ?_ (fun _u hJ => ?_)
     ·
      skip
      refine a_seq ?_
      refine a_region ?_
      refine rv (v := .bool _) (v_move il nf) ?_
      refine rv (v := .bool _) (v_move il nf) ?_
      refine r_gval (v := .bool _) (v_move il nf) rfl rfl rfl (by decide) (.inl ⟨_, rfl, rfl⟩) rfl (by decide) ?_
      refine rv (v := .bool _) (v_pick (.inl rfl) (.inr ⟨_, rfl, fun h h2 => by simp_all⟩) (.inl rfl)) ?_
      refine rv (v := .bool _) (v_move il nf) ?_
      refine r_gval (v := .int _ _) (v_move il nf) rfl rfl rfl (by decide) (.inl ⟨_, rfl, rfl⟩) rfl (by decide) ?_
      refine r_gval (v := .bool _) (v_eql (.inr ⟨_, rfl, fun h => h⟩) il) rfl rfl rfl (by decide) (.inl ⟨_, rfl, rfl⟩) rfl (by decide) ?_
      refine rv (v := .bool _) (v_pick (.inl rfl) (.inr ⟨_, rfl, fun h h2 => by simp_all⟩) (.inl rfl)) ?_
      refine r_nil ?_
      refine a_cond rfl (fun ht68 => ?_) (fun ht68 => ?_)
      ·
       skip
       refine a_seq ?_
       have hpi := rd_pi_yes (lt := (ltc cmpI)) (d := x.d) (a := x.a) (b := x.b) (limit := x.lim) (wb := x.wb) (wp := x.wp) (pi_cond ht68)
       refine a_region ?_
       refine rv (v := .rsl _ _ _ _ _) (v_move il nf) ?_
       refine rv (v := .int _ _) (v_move il nf) ?_
       refine rv (v := .int _ _) (v_move il nf) ?_
       refine r_step rfl (o_callIOk (q := (INH, [])) (vs := [.rsl _ _ _ _ _, .int _ _, .int _ _]) (args := [.rsl (INH, []) _ _ _ _, .int .i64 _, .int .i64 _]) (x0 := .osl _ _ _ _) (x1 := .osl _ _ _ _) (res := .bool _) rfl hb104 rfl (by decide) ⟨.inl rfl, .inl rfl, .inl rfl, trivial⟩ rfl rfl (partialInsQ_c _ n x.a x.b hf.2.2.1 (by omega) hn) (by simp [stays]; omega) rfl rfl rfl (ac_noSh _) (ac_noRef _) (Nat.le_of_ble_eq_true rfl) (by decide) rfl) ?_
       refine r_nil ?_
       refine a_cond rfl (fun ht72 => ?_) (fun ht72 => ?_)
       ·
        skip
        refine a_ret ?_
        refine ret0_look Tryz.results83 (by decide) ?_ rfl
        exact Weak.of_eq (osl_eq (by rw [← g7, pdq_done h12 h0 (by rw [hpi]; exact ht72), hpi]))
       ·
        skip
        refine a_skip ?_
        exact ⟨(), ent_look ⟨Weak.of_eq rfl, Weak.of_eq rfl, Weak.of_eq rfl, Weak.of_eq rfl, Weak.of_eq rfl, Weak.of_eq rfl, Weak.of_eq rfl, Weak.of_eq rfl, Weak.of_eq (osl_eq (by rw [hpi])), trivial⟩, (by rw [hpi]; exact ht72)⟩
      ·
       skip
       refine a_skip ?_
       have hpi := rd_pi_no (lt := (ltc cmpI)) (d := x.d) (a := x.a) (b := x.b) (limit := x.lim) (wb := x.wb) (wp := x.wp) (pi_cond ht68)
       exact ⟨(), ent_look ⟨Weak.of_eq rfl, Weak.of_eq rfl, Weak.of_eq rfl, Weak.of_eq rfl, Weak.of_eq rfl, Weak.of_eq rfl, Weak.of_eq rfl, Weak.of_eq rfl, Weak.of_eq (osl_eq (by rw [hpi])), trivial⟩, (by rw [hpi])⟩
     ·
      skip
      have hpf := hJ
      refine a_seq ?_
      refine a_seq ?_
      refine a_region_any mixed (by kernel_rfl) ?_
      refine yv (v := .int _ _) (v_move il nf) ?_
      refine yv (v := .bool _) (v_gtr il il) ?_
      refine yv (v := .bool _) (v_move il nf) ?_
      refine yg (v := .rsl _ _ _ _ _) (v_move il nf).quiet rfl rfl rfl (by decide) (.inl ⟨_, rfl, rfl⟩) ?_
      refine yg (v := .int _ _) (v_move il nf).quiet rfl rfl rfl (by decide) (.inl ⟨_, rfl, rfl⟩) ?_
      refine yg (v := .int _ _) (v_sub (.inr ⟨_, rfl, fun h => h⟩) il (fun _ => by omega)).quiet rfl rfl rfl (by decide) (.inl ⟨_, rfl, rfl⟩) ?_
      refine yg (v := .rp _ _) (v_indexAddr_rsl0 es25 (.inr ⟨_, rfl, fun h => h⟩) (.inr ⟨_, rfl, fun h => h⟩) (fun hA => by simp at hA; omega)).quiet rfl rfl rfl (by decide) (.inl ⟨_, rfl, rfl⟩) ?_
      refine yg (v := .int .i64 (x.rd (ltc cmpI)).pi.1[x.a - 1]!) (v_load_rp1 ta3 (.inr ⟨_, rfl, fun h => h⟩) rfl (fun hA => by simp at hA; rw [show ((x.a : Int) - 1).toNat = x.a - 1 by omega, Nat.mul_one]; exact acells_get (by omega)) rfl).quiet rfl rfl rfl (by decide) (.inl ⟨_, rfl, rfl⟩) ?_
      refine yg (v := .rsl _ _ _ _ _) (v_move il nf).quiet rfl rfl rfl (by decide) (.inl ⟨_, rfl, rfl⟩) ?_
      refine yg (v := .int _ _) (v_move il nf).quiet rfl rfl rfl (by decide) (.inl ⟨_, rfl, rfl⟩) ?_
      refine yg (v := .rp _ _) (v_indexAddr_rsl0 es25 (.inr ⟨_, rfl, fun h => h⟩) (.inr ⟨_, rfl, fun h => h⟩) (fun hA => by simp at hA; omega)).quiet rfl rfl rfl (by decide) (.inl ⟨_, rfl, rfl⟩) ?_
      refine yg (v := .int .i64 (x.rd (ltc cmpI)).pi.1[(x.rd (ltc cmpI)).pivot]!) (v_load_rp1 ta3 (.inr ⟨_, rfl, fun h => h⟩) rfl (fun hA => by simp at hA; rw [Nat.mul_one]; exact acells_get (by omega)) rfl).quiet rfl rfl rfl (by decide) (.inl ⟨_, rfl, rfl⟩) ?_
      refine yg (v := .bool _) (q_call (vs := [.int _ _, .int _ _]) (args := [.int .i64 _, .int .i64 _]) hb105 ⟨.inr ⟨_, rfl, fun h => h⟩, .inr ⟨_, rfl, fun h => h⟩, trivial⟩ rfl (fun hA => lessQ_c _ _) rfl rfl) rfl rfl rfl (by decide) (.inl ⟨_, rfl, rfl⟩) ?_
      refine yg (v := .bool _) (v_not (.inr ⟨_, rfl, fun h => h⟩)).quiet rfl rfl rfl (by decide) (.inl ⟨_, rfl, rfl⟩) ?_
      refine yv (v := .bool _) (v_pick (.inl rfl) (.inr ⟨_, rfl, fun h h2 => by simp_all⟩) (.inl rfl)) ?_
      refine y_nil ?_
      refine a_cond rfl (fun ht87 => ?_) (fun ht87 => ?_)
      ·
       skip
       refine a_seq ?_
       have hts : x.test (ltc cmpI) = true := test_cond ht87
       have hnx := hP.eq hS h12 h0 hpf hts
       refine a_region ?_
       refine rv (v := .rsl _ _ _ _ _) (v_move il nf) ?_
       refine rv (v := .int _ _) (v_move il nf) ?_
       refine rv (v := .int _ _) (v_move il nf) ?_
       refine rv (v := .int _ _) (v_move il nf) ?_
       refine r_step rfl (o_callIOk (q := (INH, [])) (vs := [.rsl _ _ _ _ _, .int _ _, .int _ _, .int _ _]) (args := [.rsl (INH, []) _ _ _ _, .int .i64 _, .int .i64 _, .int .i64 _]) (x0 := .osl _ _ _ _) (x1 := .osl _ _ _ _) (res := .int _ _) rfl hb106 rfl (by decide) ⟨.inl rfl, .inl rfl, .inl rfl, .inl rfl, trivial⟩ rfl rfl (partEqQ_c _ n x.a x.b _ hf.2.2.2.2.1 (by have := hf.2.2.2.1; omega) hn) (by simp [stays]; omega) rfl rfl rfl (ac_noSh _) (ac_noRef _) (Nat.le_of_ble_eq_true rfl) (by decide) rfl) ?_
       refine rv (v := .int _ _) (v_assign il nf) ?_
       refine r_nil ?_
       refine a_seq ?_
       refine a_pre (ent_look (L := [(0, .rsl _ _ _ _ _), (1, .int _ _), (2, .int _ _), (3, .int _ _), (8, .bool _), (9, .bool _), (10, .int _ _), (11, .int _ _), (13, .int _ _), (INH, .osl _ _ _ _)]) ⟨Weak.rfl, Weak.rfl, Weak.rfl, Weak.rfl, Weak.rfl, Weak.rfl, Weak.rfl, Weak.rfl, Weak.rfl, Weak.rfl, trivial⟩) ?_
       refine a_region ?_
       refine rv (v := .int _ _) (v_move il nf) ?_
       refine rv (v := .int _ _) (v_assign il nf) ?_
       refine r_nil ?_
       refine a_exit ?_
       refine ⟨(x.eq (ltc cmpI)), ent_look ⟨Weak.of_eq rfl, Weak.of_eq rfl, Weak.of_eq rfl, Weak.of_eq rfl, Weak.of_eq rfl, Weak.of_eq rfl, Weak.of_eq rfl, trivial⟩, hnx.1, (by have h1 := hnx.2; have h2 := hnx.1.1; have h3 : (x.eq (ltc cmpI)).b = x.b := rfl; omega)⟩
      ·
       skip
       refine a_skip ?_
       refine a_seq ?_
       have hts : x.test (ltc cmpI) = false := test_cond ht87
       have hpt := hP.part hS h12
       refine a_region ?_
       refine rv (v := .rsl _ _ _ _ _) (v_move il nf) ?_
       refine rv (v := .int _ _) (v_move il nf) ?_
       refine rv (v := .int _ _) (v_move il nf) ?_
       refine rv (v := .int _ _) (v_move il nf) ?_
       refine r_step rfl (o_callIOk (q := (INH, [])) (vs := [.rsl _ _ _ _ _, .int _ _, .int _ _, .int _ _]) (args := [.rsl (INH, []) _ _ _ _, .int .i64 _, .int .i64 _, .int .i64 _]) (x0 := .osl _ _ _ _) (x1 := .osl _ _ _ _) (res := .tup [.int _ _, .bool _]) rfl hb107 rfl (by decide) ⟨.inl rfl, .inl rfl, .inl rfl, .inl rfl, trivial⟩ rfl rfl (partitionQ_c _ n x.a x.b _ hf.2.2.2.2.1 (by have := hf.2.2.2.1; omega) hn) (by simp [stays]; omega) rfl rfl rfl (ac_noSh _) (ac_noRef _) (Nat.le_of_ble_eq_true rfl) (by decide) rfl) ?_
       refine rv (v := .tup [.int _ _, .bool _]) (v_mv rfl) ?_
       refine rv (v := .int .i64 (((x.pt (ltc cmpI)).1 : Nat) : Int)) ((v_extract rfl rfl).cast (int_eq rfl)) ?_
       refine rv (v := .bool (x.pt (ltc cmpI)).2.1) ((v_extract rfl rfl).cast (bool_eq rfl)) ?_
       refine rv (v := .int _ _) (v_assign il nf) ?_
       refine rv (v := .bool _) (v_assign il nf) ?_
       refine r_nil ?_
       refine a_seq ?_
       refine a_pre (ent_look (L := [(0, .rsl _ _ _ _ _), (1, .int _ _), (2, .int _ _), (3, .int _ _), (8, .bool _), (9, .bool _), (10, .int _ _), (14, .int _ _), (15, .bool _), (INH, .osl _ _ _ _)]) ⟨Weak.rfl, Weak.rfl, Weak.rfl, Weak.rfl, Weak.rfl, Weak.rfl, Weak.rfl, Weak.rfl, Weak.rfl, Weak.rfl, trivial⟩) ?_
       refine a_region ?_
       refine rv (v := .bool _) (v_move il nf) ?_
       refine rv (v := .bool _) (v_assign il nf) ?_
       refine r_nil ?_
       refine a_seq ?_
       refine a_region ?_
       refine rv (v := .int _ _) (v_move il nf) ?_
       refine rv (v := .int _ _) (v_move il nf) ?_
       refine rv (v := .int .i64 (((x.pt (ltc cmpI)).1 - x.a : Nat) : Int)) ((v_sub il il (fun _ => by omega)).cast (int_eq (by omega))) ?_
       refine rv (v := .int _ _) (v_move il nf) ?_
       refine rv (v := .int _ _) (v_move il nf) ?_
       refine rv (v := .int .i64 ((x.b - (x.pt (ltc cmpI)).1 : Nat) : Int)) ((v_sub il il (fun _ => by omega)).cast (int_eq (by omega))) ?_
       refine rv (v := .int _ _) (v_assign il nf) ?_
       refine rv (v := .int _ _) (v_assign il nf) ?_
       refine r_nil ?_
       refine a_seq ?_
       refine a_region ?_
       refine rv (v := .int _ _) (v_move il nf) ?_
       refine rv (v := .int .i64 (((x.b - x.a) / 8 : Nat) : Int)) ((v_quo il il (fun _ => by omega)).cast (int_eq (by omega))) ?_
       refine rv (v := .int _ _) (v_assign il nf) ?_
       refine r_nil ?_
       refine a_seq ?_
       refine a_region ?_
       refine rv (v := .int _ _) (v_move il nf) ?_
       refine rv (v := .int _ _) (v_move il nf) ?_
       refine rv (v := .bool _) (v_lss il il) ?_
       refine r_nil ?_
       refine a_cond rfl (fun ht113 => ?_) (fun ht113 => ?_)
       ·
        skip
        refine a_seq ?_
        have hll : (x.pt (ltc cmpI)).1 - x.a < x.b - (x.pt (ltc cmpI)).1 := (by simp at ht113; omega)
        have hnx := hP.left hS h12 h0 hpf hts hll
        refine a_region ?_
        refine rv (v := .int _ _) (v_move il nf) ?_
        refine rv (v := .int _ _) (v_move il nf) ?_
        refine rv (v := .bool _) (v_geq il il) ?_
        refine rv (v := .bool _) (v_assign il nf) ?_
        refine r_nil ?_
        refine a_seq ?_
        refine a_pre (ent_look (L := [(0, .rsl _ _ _ _ _), (1, .int _ _), (2, .int _ _), (3, .int _ _), (8, .bool _), (9, .bool _), (14, .int _ _), (17, .int _ _), (18, .int _ _), (INH, .osl _ _ _ _)]) ⟨Weak.rfl, Weak.rfl, Weak.rfl, Weak.rfl, Weak.rfl, Weak.rfl, Weak.rfl, Weak.rfl, Weak.rfl, Weak.rfl, trivial⟩) ?_
        refine a_region ?_
        refine rv (v := .rsl _ _ _ _ _) (v_move il nf) ?_
        refine rv (v := .int _ _) (v_move il nf) ?_
        refine rv (v := .int _ _) (v_move il nf) ?_
        refine rv (v := .int _ _) (v_move il nf) ?_
        refine r_step rfl (o_callIOk (q := (INH, [])) (vs := [.rsl _ _ _ _ _, .int _ _, .int _ _, .int _ _]) (args := [.rsl (INH, []) _ _ _ _, .int .i64 _, .int .i64 _, .int .i64 _]) (x0 := .osl _ _ _ _) (x1 := .osl _ _ _ _) (res := .tup []) rfl hb83 rfl (by decide) ⟨.inl rfl, .inl rfl, .inl rfl, .inl rfl, trivial⟩ rfl rfl (ih _ _ _ _ hpt.2.2.1 hpt.1 (by omega) (by omega) hf.2.2.2.2.2.2 hpt.2.2.2.1) (by simp [stays]; omega) rfl rfl rfl (ac_noSh _) (ac_noRef _) (Nat.le_of_ble_eq_true rfl) (by decide) rfl) ?_
        refine r_nil ?_
        refine a_region ?_
        refine rv (v := .int _ _) (v_move il nf) ?_
        refine rv (v := .int .i64 (((x.pt (ltc cmpI)).1 + 1 : Nat) : Int)) ((v_add il il (fun _ => by omega)).cast (int_eq (by omega))) ?_
        refine rv (v := .int _ _) (v_assign il nf) ?_
        refine r_nil ?_
        refine ⟨(x.left (ltc cmpI)), ent_look ⟨Weak.of_eq rfl, Weak.of_eq rfl, Weak.of_eq rfl, Weak.of_eq rfl, Weak.of_eq (bool_eq (decide_eq_decide.2 (by simp only [ge_iff_le]; omega))), Weak.of_eq rfl, Weak.of_eq rfl, trivial⟩, hnx.1, hnx.2⟩
       ·
        skip
        refine a_seq ?_
        have hll : ¬ (x.pt (ltc cmpI)).1 - x.a < x.b - (x.pt (ltc cmpI)).1 := (by simp at ht113; omega)
        have hnx := hP.right hS h12 h0 hpf hts hll
        refine a_region ?_
        refine rv (v := .int _ _) (v_move il nf) ?_
        refine rv (v := .int _ _) (v_move il nf) ?_
        refine rv (v := .bool _) (v_geq il il) ?_
        refine rv (v := .bool _) (v_assign il nf) ?_
        refine r_nil ?_
        refine a_seq ?_
        refine a_pre (ent_look (L := [(0, .rsl _ _ _ _ _), (1, .int _ _), (2, .int _ _), (3, .int _ _), (8, .bool _), (9, .bool _), (14, .int _ _), (INH, .osl _ _ _ _)]) ⟨Weak.rfl, Weak.rfl, Weak.rfl, Weak.rfl, Weak.rfl, Weak.rfl, Weak.rfl, Weak.rfl, trivial⟩) ?_
        refine a_region ?_
        refine rv (v := .rsl _ _ _ _ _) (v_move il nf) ?_
        refine rv (v := .int _ _) (v_move il nf) ?_
        refine rv (v := .int .i64 (((x.pt (ltc cmpI)).1 + 1 : Nat) : Int)) ((v_add il il (fun _ => by omega)).cast (int_eq (by omega))) ?_
        refine rv (v := .int _ _) (v_move il nf) ?_
        refine rv (v := .int _ _) (v_move il nf) ?_
        refine r_step rfl (o_callIOk (q := (INH, [])) (vs := [.rsl _ _ _ _ _, .int _ _, .int _ _, .int _ _]) (args := [.rsl (INH, []) _ _ _ _, .int .i64 _, .int .i64 _, .int .i64 _]) (x0 := .osl _ _ _ _) (x1 := .osl _ _ _ _) (res := .tup []) rfl hb83 rfl (by decide) ⟨.inl rfl, .inl rfl, .inl rfl, .inl rfl, trivial⟩ rfl rfl (ih _ _ _ _ hpt.2.2.1 (by omega) (by omega) (by omega) hf.2.2.2.2.2.2 hpt.2.2.2.2) (by simp [stays]; omega) rfl rfl rfl (ac_noSh _) (ac_noRef _) (Nat.le_of_ble_eq_true rfl) (by decide) rfl) ?_
        refine r_nil ?_
        refine a_region ?_
        refine rv (v := .int _ _) (v_move il nf) ?_
        refine rv (v := .int _ _) (v_assign il nf) ?_
        refine r_nil ?_
        refine ⟨(x.right (ltc cmpI)), ent_look ⟨Weak.of_eq rfl, Weak.of_eq rfl, Weak.of_eq rfl, Weak.of_eq rfl, Weak.of_eq (bool_eq (decide_eq_decide.2 (by simp only [ge_iff_le]; omega))), Weak.of_eq rfl, Weak.of_eq rfl, trivial⟩, hnx.1, hnx.2⟩
theorem pdqQ_c (hS : SWO (ltc cmpI)) (n : Nat) (hn : n ≤ 1152921504606846976) (d : Array Int) (a b limit : Nat) (hd : d.size = n) (hab : a ≤ b ∧ b ≤ n ∧ limit ≤ 100) (hB : Below (ltc cmpI) a b d) :
  ACall Tryz.prog 83 [.rsl (INH, []) 1 0 n none, .int .i64 ((a : Nat) : Int), .int .i64 ((b : Nat) : Int), .int .i64 ((limit : Nat) : Int)] [.osl 1 (acells d) n none] (.tup []) [.osl 1 (acells (pdq (ltc cmpI) d a b limit true true)) n none] := by
 have key : ∀ (N : Nat) (d : Array Int) (a b limit : Nat), d.size = n → a ≤ b → b ≤ n → b - a < N → limit ≤ 100 → Below (ltc cmpI) a b d → ACall Tryz.prog 83 [.rsl (INH, []) 1 0 n none, .int .i64 ((a : Nat) : Int), .int .i64 ((b : Nat) : Int), .int .i64 ((limit : Nat) : Int)] [.osl 1 (acells d) n none] (.tup []) [.osl 1 (acells (pdq (ltc cmpI) d a b limit true true)) n none] := by
  intro N
  induction N with
  | zero => intro d a b limit _ _ _ h; omega
  | succ N ih => intro d a b limit h1 h2 h3 h4 h5 h6; exact pdqQ_step hS n N hn ih d a b limit h1 ⟨h2, h3, by omega, h5⟩ h6
 exact key (b - a + 1) d a b limit hd hab.1 hab.2.1 (by omega) hab.2.2 hB
end Go.Av
namespace Go.Av
open Go Go.Proofs Go.Sort
set_option maxRecDepth 10000
theorem sortQ_c (hS : SWO (ltc cmpI)) (d : Array Int) (n : Nat) (hd : d.size = n) (hn : n ≤ 1152921504606846976) : ACall Tryz.prog 55 [.rsl (INH, []) 1 0 n none] [.osl 1 (acells d) n none] (.tup []) [.osl 1 (acells (Go.Sort.sort (ltc cmpI) d)) n none] := by
 have hbl : bitsLen n ≤ 61 := (bitsLen_le_iff _ _).2 (by omega)
 refine ACall.intro Tryz.func55 rfl (N := 11) rfl (by decide) (by simp) ?_
 refine a_seq ?_
 refine a_region ?_
 refine rv (v := .rsl _ _ _ _ _) (v_move il nf) ?_
 refine rv (v := .int _ _) (v_len_rsl sl25 il) ?_
 refine rv (v := .int _ _) (v_assign il nf) ?_
 refine r_nil ?_
 refine a_region ?_
 refine rv (v := .rsl _ _ _ _ _) (v_move il nf) ?_
 refine rv (v := .int _ _) (v_move il nf) ?_
 refine rv (v := .int _ _) (v_move il nf) ?_
 refine rv (v := .int .u64 ((n : Nat) : Int)) ((v_conv iss3 uni91 il (fun _ => IntWalk.u64_in _ (by omega))).cast (int_eq rfl)) ?_
 refine rn (v := .int _ _) (q_call (vs := [.int _ _]) (args := [.int .u64 ((_ : Nat) : Int)]) hb84 ⟨il, trivial⟩ rfl (fun hA => len_c n (by omega)) rfl rfl) ?_
 refine r_step rfl (o_callIO (q := (INH, [])) (vs := [.rsl _ _ _ _ _, .int _ _, .int _ _, .int _ _]) (args := [.rsl (INH, []) _ _ _ _, .int .i64 _, .int .i64 _, .int .i64 _]) (x0 := .osl _ _ _ _) (x1 := .osl _ _ _ _) (res := .tup []) rfl hb83 rfl (by decide) ⟨.inl rfl, .inl rfl, .inl rfl, .inl rfl, trivial⟩ rfl rfl (pdqQ_c hS n hn d 0 n (bitsLen n) hd ⟨Nat.zero_le _, Nat.le_refl _, Nat.le_trans hbl (by decide)⟩ (Or.inl rfl)) rfl rfl rfl (ac_noSh _) (ac_noRef _) (Nat.le_of_ble_eq_true rfl) (by decide) rfl) ?_
 refine r_nil ?_
 refine ret0_look Tryz.results55 (by decide) ?_ rfl
 exact Weak.of_eq (osl_eq (by unfold Go.Sort.sort; rw [hd]))
end Go.Av
namespace Go.Av
open Go
def arrPl (P : Program) (t : Nat) : Option (List AV × Nat) :=
  match P.info? t, P.underlying t with
  | some it, some (.array _ e) =>
    match it.zero, P.info? e with
    | some z, some ie => some (z.cells.toList.map cstS, ie.size)
    | _, _ => none
  | _, _ => none
section
variable {P : Program} {N : Nat} {A : Bool} {σ : Sig} {ty : TypeId}
theorem v_buildA {t : Nat} {zs : List AV} {sz : Nat} {parts : List (Nat × Operand)} {cs : List AV} (ht : arrPl P t = some (zs, sz))
    (hf : fillA (fun i => some (i * sz, sz)) zs (parts.map fun x => (x.1, rd N σ x.2)) = some cs) (hn : (cs.all fun c => c.isOwn == false && (kids c).isEmpty) = true) :
    VSem P N A (buildOp t parts) ty σ (slotsL (parts.map (·.2))) (.agg cs) := by
  have hno : NoOwn (.agg cs) := noOwn_agg fun c hc r y hy => by
    simp only [List.all_eq_true, Bool.and_eq_true, beq_iff_eq, List.isEmpty_iff] at hn
    obtain ⟨h1, h2⟩ := hn c hc
    cases r with
    | nil => simp [node] at hy; subst hy; exact h1
    | cons j r => simp [node, h2] at hy
  refine ⟨hno, fun hA σ' hD gv e a w β F hi p o' ho _ => ?_⟩
  unfold arrPl at ht
  cases hit : P.info? t with
  | none => rw [hit] at ht; cases ht
  | some it =>
    cases hu : P.underlying t with
    | none => rw [hit, hu] at ht; cases ht
    | some dsc =>
      rw [hit, hu] at ht
      cases dsc <;> try (simp at ht; done)
      case array m el =>
        dsimp only at ht
        cases hz : it.zero with
        | none => rw [hz] at ht; cases ht
        | some z =>
          cases hm : P.info? el with
          | none => rw [hz, hm] at ht; cases ht
          | some ie =>
            rw [hz, hm] at ht
            simp only [Option.some.injEq, Prod.mk.injEq] at ht
            obtain ⟨rfl, rfl⟩ := ht
            obtain ⟨arr', he, hca⟩ := fill_spec (β := β) (F := F) (w := w) (parts.map fun x => (x.1, rd N σ x.2)) (parts.map fun x => (x.1, a.eval x.2)) _ z.cells cs (cells_zero z.cells) (by simp)
              (fun j i v hj => by
                rw [List.getElem?_map] at hj
                cases hp : parts[j]? with
                | none => rw [hp] at hj; cases hj
                | some x =>
                  rw [hp] at hj
                  simp only [Option.map_some, Option.some.injEq, Prod.mk.injEq] at hj
                  obtain ⟨rfl, rfl⟩ := hj
                  refine ⟨noOwn_rd _, a.eval x.2, (0, []), by rw [List.getElem?_map, hp]; rfl, ?_⟩
                  have := rd_rep hi x.2 (0, [])
                  rwa [rd_agree (fun i hi' => hD i (List.mem_flatMap.2 ⟨x.2, List.mem_map.2 ⟨x, List.mem_of_getElem? hp, rfl⟩, hi'⟩))] at this) hf
            refine ⟨.agg arr', ?_, ?_⟩
            · have hb : P.built t (parts.map fun x => (x.1, a.eval x.2)) = some arr' := by
                unfold Program.built
                simp only [hit, hu, hz, hm]
                simpa using he
              have := run_build w t (parts.map fun x => (x.1, a.eval x.2)).toArray arr' (by simpa using hb)
              simp only [execOp, ho, buildOp, List.map_toArray, this, Sem.run_bind, Sem.run_pure, Result.andThen_ok]
            · obtain ⟨h1, h2, h3⟩ := hca
              have : Rep β F w (.agg cs) (0, []) (.agg arr') := by
                simp only [Rep]
                exact ⟨arr'.toList, by simp, by simpa using h1, h3⟩
              exact this.anywhere hno
end
theorem fn_pp {f : FuncId} {cs : List AV} {n : Nat} (h : pureL cs = true ∧ noNilL cs = true) : AV.fn f [] [.pp [.sl (shL cs) n] 0] = .fn f [] [.pp [.sl cs n] 0] := by rw [shL_id cs h.1 h.2]
end Go.Av
namespace Go.Av
open Go
def cval (c a : List Int) : Int := if c.any (fun l => decide (l ∈ a)) then 1 else if c.all (fun l => decide (-l ∈ a)) then -1 else 0
def cvP (c a : List Int) (i : Nat) : Int := if (c.take i).all (fun l => decide (-l ∈ a)) then -1 else 0
theorem cvP_succ {c a : List Int} {i : Nat} (h : i < c.length) : cvP c a (i + 1) = if -(gd c i) ∈ a then cvP c a i else 0 := by
  unfold cvP
  rw [take_gd h, List.all_append]
  by_cases hx : -(gd c i) ∈ a <;> simp [hx]
theorem cval_one {c a : List Int} {i : Nat} (h : i < c.length) (hx : gd c i ∈ a) : cval c a = 1 := by
  unfold cval
  rw [if_pos]
  rw [List.any_eq_true]; exact ⟨gd c i, gd_mem h, by simpa using hx⟩
theorem cval_end {c a : List Int} {i : Nat} (hi : c.length ≤ i) (h : ∀ j, j < i → ¬ gd c j ∈ a) : cval c a = cvP c a i := by
  unfold cval cvP
  rw [if_neg, List.take_of_length_le hi]
  intro hc
  obtain ⟨x, hx, hxa⟩ := List.any_eq_true.1 hc
  obtain ⟨j, hj, rfl⟩ := mem_gd hx
  exact h j (by omega) (by simpa using hxa)
theorem cval_le (c a : List Int) : -1 ≤ cval c a ∧ cval c a ≤ 1 := by unfold cval; split <;> (try split) <;> omega
def opn (c a : List Int) : List Int := c.filter fun l => !decide (-l ∈ a)
theorem opn_len (c a : List Int) : (opn c a).length ≤ c.length := List.length_filter_le _ _
theorem opn_succ {c a : List Int} {i : Nat} (h : i < c.length) : opn (c.take (i + 1)) a = if -(gd c i) ∈ a then opn (c.take i) a else opn (c.take i) a ++ [gd c i] := by
  unfold opn
  rw [take_gd h, List.filter_append]
  by_cases hx : -(gd c i) ∈ a <;> simp [hx]
def unitL (c a : List Int) : Int := if cval c a = 0 ∧ (opn c a).length = 1 then gd (opn c a) 0 else 0
theorem unit_no {c a : List Int} (h : ¬ (cval c a = 0 ∧ (opn c a).length = 1)) : unitL c a = 0 := if_neg h
theorem unit_yes {c a : List Int} (h : cval c a = 0) (h2 : (opn c a).length = 1) : unitL c a = gd (opn c a) 0 := if_pos ⟨h, h2⟩
theorem unit_open {c a : List Int} (h : unitL c a ≠ 0) : unitL c a ∈ c ∧ ¬ unitL c a ∈ a ∧ ¬ -(unitL c a) ∈ a := by
  unfold unitL at h ⊢
  split at h
  · rename_i h2
    rw [if_pos h2]
    have hm : gd (opn c a) 0 ∈ opn c a := gd_mem (by omega)
    have hm2 := List.mem_filter.1 (show gd (opn c a) 0 ∈ c.filter (fun l => !decide (-l ∈ a)) from hm)
    refine ⟨hm2.1, fun hx => ?_, by simpa using hm2.2⟩
    have := h2.1
    unfold cval at this
    rw [if_pos (List.any_eq_true.2 ⟨_, hm2.1, by simpa using hx⟩)] at this
    omega
  · exact absurd rfl h
theorem unit_bd {c a : List Int} (h : SmI c) : -4611686018427387904 ≤ unitL c a ∧ unitL c a ≤ 4611686018427387904 := by
  by_cases h0 : unitL c a = 0
  · omega
  · exact h.mem (unit_open h0).1
def falP (L : List (List Int)) (a : List Int) (i : Nat) : List Int := ((List.range i).filter fun j => decide (cval (gl L j) a < 0)).map fun j : Nat => (j : Int)
theorem falP_succ {L : List (List Int)} {a : List Int} {i : Nat} : falP L a (i + 1) = if cval (gl L i) a < 0 then falP L a i ++ [(i : Int)] else falP L a i := by
  unfold falP
  rw [List.range_succ, List.filter_append]
  by_cases h : cval (gl L i) a < 0 <;> simp [h]
theorem falP_len (L : List (List Int)) (a : List Int) (i : Nat) : (falP L a i).length ≤ i := by
  unfold falP; rw [List.length_map]; have := List.length_filter_le (fun j => decide (cval (gl L j) a < 0)) (List.range i); simp at this ⊢; exact this
def conf (L : List (List Int)) (a : List Int) : Bool := (List.range L.length).any fun i => decide (cval (gl L i) a < 0)
theorem conf_fal {L : List (List Int)} {a : List Int} : conf L a = decide (((falP L a L.length).length : Int) > 0) := by
  rw [Bool.eq_iff_iff, decide_eq_true_iff]
  unfold conf falP
  rw [List.length_map]
  constructor
  · intro h
    obtain ⟨x, hx, hh⟩ := List.any_eq_true.1 h
    have := List.length_pos_of_mem ((List.mem_filter (p := fun j => decide (cval (gl L j) a < 0))).2 ⟨hx, hh⟩)
    omega
  · intro h
    obtain ⟨x, hx⟩ := List.exists_mem_of_length_pos (l := (List.range L.length).filter fun j => decide (cval (gl L j) a < 0)) (by omega)
    rw [List.mem_filter] at hx
    exact List.any_eq_true.2 ⟨x, hx.1, hx.2⟩
def cnfV (L : List (List Int)) (a : List Int) : Nat → Int
  | 0 => 1
  | i + 1 => min (cnfV L a i) (cval (gl L i) a)
theorem cnfV_le {L : List (List Int)} {a : List Int} : ∀ i, (-1 ≤ cnfV L a i ∧ cnfV L a i ≤ 1) ∧ (0 ≤ cnfV L a i ↔ ∀ j, j < i → 0 ≤ cval (gl L j) a)
  | 0 => ⟨by simp [cnfV], by simp [cnfV]⟩
  | i + 1 => by
    have ih := cnfV_le (L := L) (a := a) i
    have hc := cval_le (gl L i) a
    unfold cnfV
    constructor
    · omega
    · constructor
      · intro h j hj
        have h2 : 0 ≤ cnfV L a i ∧ 0 ≤ cval (gl L i) a := by omega
        rcases Nat.lt_or_ge j i with h3 | h3
        · exact ih.2.1 h2.1 j h3
        · obtain rfl : j = i := by omega
          exact h2.2
      · intro h
        have h1 := ih.2.2 fun j hj => h j (by omega)
        have h2 := h i (by omega)
        omega
theorem cnfV_conf {L : List (List Int)} {a : List Int} : decide (cnfV L a L.length ≥ 0) = !conf L a := by
  rw [Bool.eq_iff_iff, decide_eq_true_iff, ge_iff_le, (cnfV_le L.length).2, Bool.not_eq_true']
  unfold conf
  rw [List.any_eq_false]
  constructor
  · intro h x hx; have := h x (by simpa using hx); simp; omega
  · intro h j hj; have := h j (by simpa using hj); simp at this; omega
def uix (L : List (List Int)) (a : List Int) : Int := fidx (fun i => decide (unitL (gl L i) a ≠ 0)) L.length
theorem uix_bd (L : List (List Int)) (a : List Int) : uix L a = -1 ∨ (0 ≤ uix L a ∧ (uix L a).toNat < L.length ∧ ((uix L a).toNat : Int) = uix L a ∧ unitL (gl L (uix L a).toNat) a ≠ 0) := by
  by_cases h : uix L a = -1
  · exact .inl h
  · obtain ⟨i, h1, h2, h3, _⟩ := fidx_spec (p := fun i => decide (unitL (gl L i) a ≠ 0)) (n := L.length) h
    have h4 : uix L a = i := h2
    right
    rw [h4]
    exact ⟨by omega, by omega, by omega, by simpa using h3⟩
def dwn (p : Nat → Bool) (n : Nat) : Nat → Int
  | 0 => -1
  | k + 1 => if p (n - (k + 1)) then ((n - (k + 1) : Nat) : Int) else dwn p n k
theorem dwn_spec {p : Nat → Bool} {n : Nat} : ∀ k, k ≤ n → (dwn p n k = -1 ∧ ∀ j, n - k ≤ j → j < n → p j = false) ∨ ∃ i : Nat, dwn p n k = i ∧ n - k ≤ i ∧ i < n ∧ p i = true ∧ ∀ j, n - k ≤ j → j < i → p j = false
  | 0, _ => .inl ⟨rfl, fun j h1 h2 => by omega⟩
  | k + 1, hk => by
    unfold dwn
    by_cases hp : p (n - (k + 1)) = true
    · rw [if_pos hp]; exact .inr ⟨n - (k + 1), rfl, Nat.le_refl _, by omega, hp, fun j h1 h2 => by omega⟩
    · rw [if_neg hp]
      have hstep : ∀ j, n - (k + 1) ≤ j → (j = n - (k + 1)) ∨ n - k ≤ j := fun j h => by omega
      rcases dwn_spec (p := p) (n := n) k (by omega) with ⟨h1, h2⟩ | ⟨i, h1, h2, h3, h4, h5⟩
      · refine .inl ⟨h1, fun j h6 h7 => ?_⟩
        rcases hstep j h6 with rfl | h8
        · simpa using hp
        · exact h2 j h8 h7
      · refine .inr ⟨i, h1, by omega, h3, h4, fun j h6 h7 => ?_⟩
        rcases hstep j h6 with rfl | h8
        · simpa using hp
        · exact h5 j h8 h7
theorem dwn_all {p : Nat → Bool} {n : Nat} : dwn p n n = fidx p n := by
  rcases dwn_spec (p := p) (n := n) n (Nat.le_refl _) with ⟨h1, h2⟩ | ⟨i, h1, h2, h3, h4, h5⟩
  · rw [h1, fidx_none fun j hj => h2 j (by omega) hj]
  · rw [h1, fidx_found h3 h4 fun j hj => h5 j (by omega) hj]
def prop (L : List (List Int)) : Nat → List Int → List (Int × Int) → List Int × List (Int × Int) × Bool
  | 0, a, st => (a, st, conf L a)
  | k + 1, a, st => if conf L a then (a, st, true) else if uix L a = -1 then (a, st, false) else
      prop L k (setLit a (unitL (gl L (uix L a).toNat) a)) (st ++ [(unitL (gl L (uix L a).toNat) a, uix L a)])
def propR (L : List (List Int)) (a : List Int) : List Int × List (Int × Int) × Bool := prop L (13 - a.length) a []
theorem clB_of {vars : Int} {c : List Int} (hv : 0 ≤ vars ∧ vars ≤ 12) (hs : Strict c) (hl : ∀ x ∈ c, litB vars x = true) : clB vars c = true := by
  refine clB_true (inR_spec.2 hv) fun j hj => ?_
  unfold okC
  rw [hl _ (gd_mem hj), Bool.true_and, Bool.or_eq_true, decide_eq_true_iff, decide_eq_true_iff]
  rcases Nat.eq_zero_or_pos j with h | h
  · exact .inl h
  · right
    have := List.pairwise_iff_getElem.1 hs (j - 1) j (by omega) hj (by omega)
    unfold gd
    rw [List.getElem?_eq_getElem hj, List.getElem?_eq_getElem (by omega)]
    simpa using this
theorem wo_new {a : List Int} {l : Int} (h1 : ¬ l ∈ a) (h2 : ¬ -l ∈ a) : woS a (vr l) = a := by
  unfold woS
  rw [List.filter_eq_self]
  intro x hx
  simp only [decide_eq_true_eq]
  intro e
  rcases vr_same e with rfl | rfl
  · exact h1 hx
  · exact h2 hx
theorem set_new {vars : Int} {a : List Int} {l : Int} (hc : clB vars a = true) (hl : litB vars l = true) (h1 : ¬ l ∈ a) (h2 : ¬ -l ∈ a) : clB vars (setLit a l) = true ∧ (setLit a l).length = a.length + 1 := by
  unfold setLit
  rw [wo_new h1 h2]
  refine ⟨clB_of (clB_spec hc).1 (strict_put (clB_strict hc) fun y hy e => ?_) fun x hx => ?_, putL_length _ _⟩
  · rcases vr_same e with rfl | rfl
    · exact h1 hy
    · exact h2 hy
  · rcases mem_putL.1 hx with rfl | hx
    · exact hl
    · exact (clB_mem hc hx).1
theorem prop_step {vars : Int} {L : List (List Int)} {a : List Int} (hL : ∀ i, i < L.length → clB vars (gl L i) = true) (hc : clB vars a = true) (h : ¬ uix L a = -1) :
    litB vars (unitL (gl L (uix L a).toNat) a) = true ∧ clB vars (setLit a (unitL (gl L (uix L a).toNat) a)) = true ∧ (setLit a (unitL (gl L (uix L a).toNat) a)).length = a.length + 1 := by
  obtain ⟨h1, h2, h3, h4⟩ := (uix_bd L a).resolve_left h
  obtain ⟨g1, g2, g3⟩ := unit_open h4
  have hl := (clB_mem (hL _ h2) g1).1
  exact ⟨hl, set_new hc hl g2 g3⟩
theorem prop_go {vars : Int} {L : List (List Int)} {a : List Int} {st : List (Int × Int)} (hL : ∀ i, i < L.length → clB vars (gl L i) = true) (hc : clB vars a = true) (h0 : conf L a = false) (h : ¬ uix L a = -1) :
    prop L (13 - (setLit a (unitL (gl L (uix L a).toNat) a)).length) (setLit a (unitL (gl L (uix L a).toNat) a)) (st ++ [(unitL (gl L (uix L a).toNat) a, uix L a)]) = prop L (13 - a.length) a st := by
  have h1 := prop_step hL hc h
  have h2 := clB_len h1.2.1
  rw [h1.2.2, show 13 - a.length = (13 - (a.length + 1)) + 1 by omega]
  conv => rhs; rw [prop]
  rw [h0, if_neg (by simp), if_neg h]
theorem prop_conf {vars : Int} {L : List (List Int)} {a : List Int} {st : List (Int × Int)} (hc : clB vars a = true) (h0 : conf L a = true) : prop L (13 - a.length) a st = (a, st, true) := by
  have h2 := clB_len hc
  rw [show 13 - a.length = (12 - a.length) + 1 by omega, prop, if_pos h0]
theorem prop_none {vars : Int} {L : List (List Int)} {a : List Int} {st : List (Int × Int)} (hc : clB vars a = true) (h0 : conf L a = false) (h : uix L a = -1) : prop L (13 - a.length) a st = (a, st, false) := by
  have h2 := clB_len hc
  rw [show 13 - a.length = (12 - a.length) + 1 by omega, prop, h0, if_neg (by simp), if_pos h]
theorem prop_ok {vars : Int} {L : List (List Int)} (hL : ∀ i, i < L.length → clB vars (gl L i) = true) : ∀ (k : Nat) (a : List Int) (st : List (Int × Int)), clB vars a = true →
    clB vars (prop L k a st).1 = true ∧ (prop L k a st).2.1.length ≤ st.length + k
  | 0, a, st, hc => ⟨hc, by simp [prop]⟩
  | k + 1, a, st, hc => by
    unfold prop
    split
    · exact ⟨hc, by simp⟩
    · split
      · exact ⟨hc, by simp⟩
      · rename_i h
        have h1 := prop_step hL hc h
        obtain ⟨g1, g2⟩ := prop_ok hL k (setLit a (unitL (gl L (uix L a).toNat) a)) (st ++ [(unitL (gl L (uix L a).toNat) a, uix L a)]) h1.2.1
        exact ⟨g1, by simp at g2 ⊢; omega⟩
theorem propR_ok {vars : Int} {L : List (List Int)} {a : List Int} (hL : ∀ i, i < L.length → clB vars (gl L i) = true) (hc : clB vars a = true) :
    clB vars (propR L a).1 = true ∧ (propR L a).1.length ≤ 12 ∧ (propR L a).2.1.length ≤ 13 := by
  obtain ⟨h1, h2⟩ := prop_ok hL (13 - a.length) a [] hc
  exact ⟨h1, clB_len h1, by simp at h2; unfold propR; omega⟩
def ngL (c : List Int) : List Int := c.map fun x => -x
def ngP (c : List Int) (i : Nat) : List Int := ngL (c.take i)
theorem ngP_succ {c : List Int} {i : Nat} (h : i < c.length) : ngP c (i + 1) = ngP c i ++ [-(gd c i)] := by unfold ngP ngL; rw [take_gd h, List.map_append]; rfl
theorem ngP_len {c : List Int} {i : Nat} (h : i ≤ c.length) : (ngP c i).length = i := by simp [ngP, ngL]; omega
theorem ngP_full {c : List Int} {i : Nat} (h : c.length ≤ i) : ngP c i = ngL c := by unfold ngP; rw [List.take_of_length_le h]
theorem ngL_len (c : List Int) : (ngL c).length = c.length := by simp [ngL]
theorem ngL_cl {vars : Int} {c : List Int} (h : clB vars c = true) : clB vars (ngL c) = true := by
  refine clB_of (clB_spec h).1 ?_ fun x hx => ?_
  · unfold Strict ngL
    rw [List.pairwise_map]
    exact (clB_strict h).imp fun h => by rw [vr_neg, vr_neg]; exact h
  · obtain ⟨y, hy, rfl⟩ := List.mem_map.1 hx
    have := (clB_mem h hy).1
    rw [litB_spec] at this ⊢; omega
end Go.Av
namespace Go.Av
open Go
theorem sls_cell (L : List (List Int)) : cellL (sls L) = true := by
  unfold sls cellL; simp [cellV]
theorem sls_append (L M : List (List Int)) : sls (L ++ M) = sls L ++ sls M := by simp [sls]
theorem sls_noRef (L : List (List Int)) : noRefL (sls L) = true := noRefL_pure _ (sls_pureL L)
end Go.Av
namespace Go.Av
open Go
section
variable {P : Program} {N : Nat} {A : Bool} {σ τ : Sig} {ty : TypeId}
variable {e : Ctx} {val : Nat → Value} {w : World} {β : Place → Option (Nat × Nat)} {F : Nat → Prop} {x : AV} {d : Nat}
theorem Inv.freeze (h : Inv e (upd τ d x) val w β F) (hf : ∀ r y b s, node x r = some y → y.isOwn = true → β (d, r) = some (b, s) → e.w0.heap.size ≤ b) :
    Inv e (upd τ d (sh x)) val w β (fun b => F b ∨ ∃ r y s, node x r = some y ∧ y.isOwn = true ∧ β (d, r) = some (b, s)) := by
  have own : ∀ q, OwnAt (upd τ d (sh x)) q → q.1 ≠ d ∧ OwnAt (upd τ d x) q := fun q hq => by
    by_cases hi : q.1 = d
    · obtain ⟨y, hy, ho⟩ := hq
      rw [hi, upd_same] at hy
      rw [pure_own (pure_sh x) hy] at ho; cases ho
    · exact ⟨hi, (own_upd_other hi).2 ((own_upd_other hi).1 hq)⟩
  have hx := h.rep d
  rw [upd_same] at hx
  have ownx : ∀ r y, node x r = some y → y.isOwn = true → OwnAt (upd τ d x) (d, r) := fun r y hy ho => ⟨y, by rw [upd_same]; exact hy, ho⟩
  refine ⟨fun i => ?_, fun q q' b s s' hq hq' => h.disj q q' b s s' (own q hq).2 (own q' hq').2, fun q b s hq hb => ⟨?_, (h.sep q b s (own q hq).2 hb).2⟩, fun b hb => ?_, h.kept, h.grow, h.tame⟩
  · by_cases hi : i = d
    · subst hi
      rw [upd_same]
      exact hx.sh x (fun b hb => .inl hb) (fun r y b s hy ho hb => .inr ⟨r, y, s, hy, ho, by simpa using hb⟩)
    · have := h.rep i
      rw [upd_other _ _ hi] at this ⊢
      exact this.tr _ (fun b hb => ⟨.inl hb, rfl⟩) (fun _ _ _ _ => ⟨rfl, fun _ _ _ => rfl⟩) (fun _ _ => rfl)
  · rintro (hF | ⟨r, y, s', hy, ho, hb'⟩)
    · exact (h.sep q b s (own q hq).2 hb).1 hF
    · have := h.disj q (d, r) b s s' (own q hq).2 (ownx r y hy ho) hb hb'
      exact (own q hq).1 (by rw [this])
  · rcases hb with hb | ⟨r, y, s, hy, ho, hb⟩
    · exact h.fr b hb
    · refine ⟨h.own_lt (ownx r y hy ho) hb, fun hlt => ?_⟩
      have := hf r y b s hy ho hb
      omega
theorem q_sliceLitZ {t n sz : Nat} {zs cs : List AV} {parts : List (Nat × Operand)} (h : litTy P t = some (sz, zs)) (hsm : Nat.ble (n * sz) 16777216 = true)
    (hf : fillA (fun i => some (i * sz, sz)) (rep n zs) (parts.map fun x => (x.1, rd N σ x.2)) = some cs) (hl : Nat.beq cs.length (n * sz) = true) (hp : pureL cs = true) :
    QSem P N A (sliceLit t n parts) ty σ (slotsL (parts.map (·.2))) (.sl (shL cs) n) := by
  intro hA σ' hD gv e a w β F hi d o ho hty K Q hK
  obtain ⟨el, arr0, harr, hrun⟩ := run_lit h (Nat.le_of_ble_eq_true hsm)
  obtain ⟨cells, he, hc1, hc2, hc3⟩ := fill_spec (β := β) (F := F) (w := w) (parts.map fun x => (x.1, rd N σ x.2)) (parts.map fun x => (x.1, a.eval x.2)) _ arr0 cs (harr β F w) (by simp)
      (fun j i v hj => by
        rw [List.getElem?_map] at hj
        cases hp : parts[j]? with
        | none => rw [hp] at hj; cases hj
        | some x =>
          rw [hp] at hj
          simp only [Option.map_some, Option.some.injEq, Prod.mk.injEq] at hj
          obtain ⟨rfl, rfl⟩ := hj
          refine ⟨noOwn_rd _, a.eval x.2, (0, []), by rw [List.getElem?_map, hp]; rfl, ?_⟩
          have := rd_rep hi x.2 (0, [])
          rwa [rd_agree (fun i hi' => hD i (List.mem_flatMap.2 ⟨x.2, List.mem_map.2 ⟨x, List.mem_of_getElem? hp, rfl⟩, hi'⟩))] at this) hf
  have hr := hrun (parts.map fun x => (x.1, a.eval x.2)).toArray cells w (by simpa using he)
  obtain ⟨β', h'⟩ := hi.new_osl (us := cells.toList) (by simpa using hc1) hc3 hp el d (arr := cells) (sz := sz) (n := n) (capv := n) (cap := some n) (fun j x hx => hx) (by rw [hc1]; exact Nat.eq_of_beq_eq_true hl) (Nat.le_refl _) (fun c hc => by cases hc; rfl)
  have hfz := h'.freeze (fun r y b s hy hyo hb => by
    cases r with
    | nil =>
      have hrep := h'.rep d
      rw [upd_same, upd_same] at hrep
      simp only [Rep] at hrep
      rcases hrep with ⟨h1, _⟩ | ⟨_, b', _, _, _, h1, h2, _⟩
      · rw [h1] at hb; cases hb
      · rw [h1] at hb; cases hb
        simp only [Value.slice.injEq, Option.some.injEq, Addr.mk.injEq] at h2
        have := hi.grow
        omega
    | cons j r =>
      simp only [node, kids] at hy
      cases hc : cs[j]? with
      | none => rw [hc] at hy; cases hy
      | some c =>
        rw [hc] at hy
        rw [pure_own (pureL_mem hp (List.mem_of_getElem? hc)) hy] at hyo; cases hyo)
  refine wp_value (v := .slice (some ⟨w.heap.size, 0, none⟩) n n) (w' := w.alloc (.cells cells el)) ?_ (hK _ _ ⟨β', _, hfz⟩)
  simp only [execOp, ho, sliceLit, List.map_toArray, hr, Sem.run_bind, Sem.run_pure, Result.andThen_ok]
end
end Go.Av
namespace Go.Av
open Go
theorem gl_app {L M : List (List Int)} {i : Nat} : gl (L ++ M) i = if i < L.length then gl L i else gl M (i - L.length) := by
  unfold gl
  split
  · rename_i h; rw [List.getElem?_append_left h]
  · rename_i h; rw [List.getElem?_append_right (by omega)]
def sel2 (A B : List (List Int)) (i : Nat) : List (List Int) := if i = 0 then A else B
def P2 (A B : List (List Int)) (i : Nat) : List (List Int) := if i = 0 then [] else if i = 1 then A else A ++ B
theorem P2_succ {A B : List (List Int)} {i : Nat} (h : i < 2) : P2 A B (i + 1) = P2 A B i ++ sel2 A B i := by
  rcases (by omega : i = 0 ∨ i = 1) with rfl | rfl <;> simp [P2, sel2]
theorem P2_len (A B : List (List Int)) (i : Nat) : (P2 A B i).length ≤ A.length + B.length := by
  unfold P2; split
  · simp
  · split
    · omega
    · simp
theorem sel2_len (A B : List (List Int)) (i : Nat) : (sel2 A B i).length ≤ A.length + B.length := by unfold sel2; split <;> omega
end Go.Av
namespace Go.Av
open Go Go.Sort
theorem vr_eq {x y : Int} : vr x = vr y ↔ x = y ∨ x = -y := by unfold vr; split <;> split <;> omega
theorem foldPut_len : ∀ (b out : List Int), (b.foldl putL out).length = out.length + b.length
  | [], out => by simp
  | x :: b, out => by rw [List.foldl_cons, foldPut_len b, putL_length]; simp; omega
theorem join_fold : ∀ {b out : List Int}, ((out ++ b).map vr).Nodup → joinL out b = some (b.foldl putL out)
  | [], out, _ => rfl
  | x :: b, out, h => by
    have hx : ∀ y ∈ out, vr y ≠ vr x := fun y hy e => by
      rw [List.map_append, List.nodup_append] at h
      exact h.2.2 _ (List.mem_map_of_mem hy) _ (by simp) e
    have h1 : ¬ -x ∈ out := fun hm => hx _ hm (vr_eq.2 (.inr rfl))
    have h2 : ¬ x ∈ out := fun hm => hx _ hm rfl
    rw [List.foldl_cons, ← join_fold (b := b) (out := putL out x)]
    · conv => lhs; rw [joinL]
      rw [if_neg h1, if_neg h2]
    · refine List.Perm.nodup ?_ h
      refine List.Perm.map vr ?_
      have hp : ∀ (c : List Int), (putL c x).Perm (x :: c) := fun c => by
        induction c with
        | nil => exact List.Perm.refl _
        | cons a c ih =>
          unfold putL; split
          · exact (List.Perm.cons a ih).trans (List.Perm.swap _ _ _)
          · exact List.Perm.refl _
      exact (List.perm_middle).trans (List.Perm.append_right b (hp out).symm)
end Go.Av
namespace Go.Av
open Go Go.Sort
abbrev TN := Int × Int × Int × Int
end Go.Av
namespace Go.Av
open Go
abbrev PcT := Int × List (Int × Int) × Int × Int × Int × Int
end Go.Av
namespace Go.Av
open Go Go.Proofs Go.Sort
set_option maxRecDepth 10000
end Go.Av
namespace Go.Av
open Go Go.Proofs Go.Sort
set_option maxRecDepth 10000
end Go.Av
namespace Go.Av
open Go Go.Proofs Go.Sort
set_option maxRecDepth 10000
end Go.Av
namespace Go.Av
open Go Go.Proofs Go.Sort
set_option maxRecDepth 10000
end Go.Av
namespace Go.Av
open Go Go.Proofs Go.Sort
set_option maxRecDepth 10000
end Go.Av
namespace Go.Av
open Go Go.Proofs Go.Sort
set_option maxRecDepth 10000
end Go.Av
namespace Go.Av
open Go Go.Proofs Go.Sort
set_option maxRecDepth 10000
end Go.Av
namespace Go.Av
open Go Go.Proofs Go.Sort
set_option maxRecDepth 10000
end Go.Av
namespace Go.Av
open Go Go.Proofs Go.Sort
set_option maxRecDepth 10000
end Go.Av
namespace Go.Av
open Go Go.Proofs Go.Sort
set_option maxRecDepth 10000
end Go.Av
namespace Go.Av
open Go Go.Proofs Go.Sort
set_option maxRecDepth 10000
end Go.Av
namespace Go.Av
open Go Go.Proofs Go.Sort
set_option maxRecDepth 10000
end Go.Av
namespace Go.Av
open Go Go.Proofs Go.Sort
set_option maxRecDepth 10000
end Go.Av
namespace Go.Av
open Go Go.Proofs Go.Sort
set_option maxRecDepth 10000
end Go.Av
namespace Go.Av
open Go Go.Proofs Go.Sort
set_option maxRecDepth 10000
end Go.Av
namespace Go.Av
open Go Go.Proofs Go.Sort
set_option maxRecDepth 10000
end Go.Av
namespace Go.Av
open Go Go.Proofs Go.Sort
set_option maxRecDepth 10000
end Go.Av
namespace Go.Av
open Go Go.Proofs Go.Sort
set_option maxRecDepth 10000
end Go.Av
namespace Go.Av
open Go Go.Proofs Go.Sort
set_option maxRecDepth 10000
end Go.Av
namespace Go.Av
open Go Go.Proofs Go.Sort
set_option maxRecDepth 10000
end Go.Av
namespace Go.Av
open Go Go.Proofs Go.Sort
set_option maxRecDepth 10000
end Go.Av
namespace Go.Av
open Go Go.Proofs Go.Sort
set_option maxRecDepth 10000
end Go.Av
namespace Go.Av
open Go Go.Proofs Go.Sort
set_option maxRecDepth 10000
end Go.Av
namespace Go.Av
open Go Go.Proofs Go.Sort
set_option maxRecDepth 10000
end Go.Av
namespace Go.Av
open Go Go.Proofs Go.Sort
set_option maxRecDepth 10000
end Go.Av
namespace Go.Av
open Go Go.Proofs Go.Sort
set_option maxRecDepth 10000
end Go.Av
namespace Go.Av
open Go Go.Proofs Go.Sort
set_option maxRecDepth 10000
end Go.Av
namespace Go.Av
open Go Go.Proofs Go.Sort
set_option maxRecDepth 10000
end Go.Av
namespace Go.Av
open Go Go.Proofs Go.Sort
set_option maxRecDepth 10000
end Go.Av
namespace Go.Av
open Go Go.Proofs Go.Sort
set_option maxRecDepth 10000
end Go.Av
namespace Go.Av
open Go Go.Proofs Go.Sort
set_option maxRecDepth 10000
end Go.Av
namespace Go.Av
open Go Go.Proofs Go.Sort
set_option maxRecDepth 10000
end Go.Av
namespace Go.Av
open Go Go.Proofs Go.Sort
set_option maxRecDepth 10000
theorem idx_mem (xs : List Int) (v : Int) : decide (fidx (fun i => decide (v = gd xs i)) xs.length ≥ 0) = decide (v ∈ xs) := by
  rw [show decide (fidx (fun i => decide (v = gd xs i)) xs.length ≥ 0) = decide (0 ≤ fidx (fun i => decide (v = gd xs i)) xs.length) from rfl, fidx_any, Bool.eq_iff_iff, decide_eq_true_iff]
  constructor
  · intro h
    obtain ⟨i, hi, hx⟩ := List.any_eq_true.1 h
    rw [of_decide_eq_true hx]; exact gd_mem (by simpa using hi)
  · intro h
    obtain ⟨j, hj, hx⟩ := mem_gd h
    exact List.any_eq_true.2 ⟨j, by simpa using hj, by simp [hx]⟩
theorem hb111 : hasBody Tryz.prog 111 = true := by kernel_rfl
theorem hb59 : hasBody Tryz.prog 59 = true := by kernel_rfl
theorem hb65 : hasBody Tryz.prog 65 = true := by kernel_rfl
theorem hb76 : hasBody Tryz.prog 76 = true := by kernel_rfl
theorem hb86 : hasBody Tryz.prog 86 = true := by kernel_rfl
theorem hb88 : hasBody Tryz.prog 88 = true := by kernel_rfl
theorem hb90 : hasBody Tryz.prog 90 = true := by kernel_rfl
theorem hb91 : hasBody Tryz.prog 91 = true := by kernel_rfl
theorem index_c (xs : List Int) (v : Int) (hl : xs.length ≤ 1048576) : ACall Tryz.prog 86 [.sl (icells xs) xs.length, .int .i64 v] [] (.int .i64 (fidx (fun i => decide (v = gd xs i)) xs.length)) [] := by
  refine ACall.intro Tryz.func86 rfl (N := 19) rfl (by decide) (by simp) ?_
  refine a_seq ?_
  refine a_region ?_
  refine rv (v := .int _ _) (v_assign il nf) ?_
  refine r_nil ?_
  refine a_seq ?_
  refine a_seq ?_
  refine a_region ?_
  refine rv (v := .sl _ _) (v_move il nf) ?_
  refine rv (v := .int _ _) (v_len_sl sl25 il) ?_
  refine rv (v := .int _ _) (v_move il nf) ?_
  refine r_nil ?_
  refine a_block ?_
  refine a_loop (X := Nat) (fun i => look [(0, .sl (icells xs) xs.length), (1, .int .i64 v), (7, .int .i64 ((xs.length : Nat) : Int)), (8, .int .i64 ((i : Nat) : Int))]) (fun i => i ≤ xs.length ∧ ∀ j, j < i → decide (v = gd xs j) = false) (fun i => xs.length - i) 0 (ent_look ⟨Weak.of_eq rfl, Weak.of_eq rfl, Weak.of_eq rfl, Weak.of_eq rfl, trivial⟩) ⟨Nat.zero_le _, fun j h => by omega⟩ (fun i hG => ?_)
  obtain ⟨h1, h2⟩ := hG
  refine a_seq ?_
  refine a_region ?_
  refine rv (v := .bool _) (v_lss il il) ?_
  refine r_nil ?_
  refine a_seq ?_
  refine a_cond rfl (fun ht9 => ?_) (fun ht9 => ?_)
  ·
    skip
    refine a_skip ?_
    refine a_seq ?_
    refine a_block ?_
    refine a_seq ?_
    have hi : i < xs.length := (by simp at ht9; omega)
    refine a_region ?_
    refine rv (v := .int _ _) (v_move il nf) ?_
    refine rv (v := .int _ _) (v_assign il nf) ?_
    refine r_nil ?_
    refine a_seq ?_
    refine a_region ?_
    refine rv (v := .int _ _) (v_move il nf) ?_
    refine rv (v := .sl _ _) (v_move il nf) ?_
    refine rv (v := .int _ _) (v_move il nf) ?_
    refine rv (v := .pp _ _) (v_indexAddr_sl es25 il il (fun _ => ⟨by omega, by omega, icells_ne hi⟩)) ?_
    refine rv (v := .int .i64 (gd xs i)) (v_load_pp ta3 il (fun _ => by rw [Nat.mul_one]; exact icells_get (gd_get hi)) rfl) ?_
    refine rv (v := .bool _) (v_eql il il) ?_
    refine r_nil ?_
    refine a_cond rfl (fun ht16 => ?_) (fun ht16 => ?_)
    ·
      skip
      refine a_seq ?_
      refine a_region ?_
      refine rv (v := .int _ _) (v_move il nf) ?_
      refine rv (v := .int _ _) (v_assign il nf) ?_
      refine r_nil ?_
      refine a_ret ?_
      refine ret1 Tryz.results86 (by decide) (by decide) (Weak.of_eq (int_eq ?_)) rfl Leaves.nil
      exact (fidx_found (p := fun j => decide (v = gd xs j)) hi (by simpa using ht16) h2).symm
    ·
      skip
      refine a_skip ?_
      refine a_region ?_
      refine rv (v := .int _ _) (v_add il il (fun _ => by omega)) ?_
      refine rv (v := .int _ _) (v_move il nf) ?_
      refine r_nil ?_
      refine ⟨i + 1, ent_look ⟨Weak.of_eq rfl, Weak.of_eq rfl, Weak.of_eq rfl, Weak.of_eq (int_eq (by omega)), trivial⟩, ⟨by omega, ok_stepF (p := fun j => decide (v = gd xs j)) h2 (by simpa using ht16)⟩, by omega⟩
  ·
    skip
    refine a_exit ?_
    refine a_seq ?_
    refine a_region ?_
    refine rv (v := .int _ _) (v_assign il nf) ?_
    refine r_nil ?_
    refine a_ret ?_
    refine ret1 Tryz.results86 (by decide) (by decide) (Weak.of_eq (int_eq ?_)) rfl Leaves.nil
    simp at ht9; exact (fidx_none (p := fun j => decide (v = gd xs j)) (fun j hj => h2 j (by omega))).symm
theorem contains_c (xs : List Int) (v : Int) (hl : xs.length ≤ 1048576) : ACall Tryz.prog 59 [.sl (icells xs) xs.length, .int .i64 v] [] (.bool (decide (v ∈ xs))) [] := by
  refine ACall.intro Tryz.func59 rfl (N := 9) rfl (by decide) (by simp) ?_
  refine a_seq ?_
  refine a_region ?_
  refine rv (v := .bool _) (v_assign il nf) ?_
  refine r_nil ?_
  refine a_seq ?_
  refine a_region ?_
  refine rv (v := .sl _ _) (v_move il nf) ?_
  refine rv (v := .int _ _) (v_move il nf) ?_
  refine rn (v := .int _ _) (q_call (vs := [.sl _ _, .int _ _]) (args := [.sl _ _, .int .i64 _]) hb86 ⟨il, il, trivial⟩ rfl (fun hA => index_c xs v hl) rfl rfl) ?_
  refine rv (v := .bool _) (v_geq il il) ?_
  refine rv (v := .bool _) (v_assign il nf) ?_
  refine r_nil ?_
  refine a_ret ?_
  refine ret1 Tryz.results59 (by decide) (by decide) (Weak.of_eq (bool_eq ?_)) rfl Leaves.nil
  exact idx_mem xs v
theorem iClv_c (c a : List Int) (hs : SmI c) (hc : c.length ≤ 1048576) (ha : a.length ≤ 1048576) : ACall Tryz.prog 90 [.sl (icells c) c.length, .sl (icells a) a.length] [] (.int .i64 (cval c a)) [] := by
  refine ACall.intro Tryz.func90 rfl (N := 26) rfl (by decide) (by simp) ?_
  refine a_seq ?_
  refine a_region ?_
  refine rv (v := .int _ _) (v_assign il nf) ?_
  refine r_nil ?_
  refine a_seq ?_
  refine a_region ?_
  refine rv (v := .int _ _) (v_assign il nf) ?_
  refine r_nil ?_
  refine a_seq ?_
  refine a_seq ?_
  refine a_region ?_
  refine rv (v := .sl _ _) (v_move il nf) ?_
  refine rv (v := .int _ _) (v_len_sl sl25 il) ?_
  refine rv (v := .int _ _) (v_move il nf) ?_
  refine r_nil ?_
  refine a_block ?_
  refine a_loop (X := Nat) (fun i => look [(1, .sl (icells a) a.length), (5, .int .i64 (cvP c a i)), (8, .sl (icells c) c.length), (9, .int .i64 ((c.length : Nat) : Int)), (10, .int .i64 ((i : Nat) : Int))]) (fun i => i ≤ c.length ∧ ∀ j, j < i → ¬ gd c j ∈ a) (fun i => c.length - i) 0 (ent_look ⟨Weak.of_eq rfl, Weak.of_eq rfl, Weak.of_eq rfl, Weak.of_eq rfl, Weak.of_eq rfl, trivial⟩) ⟨Nat.zero_le _, fun j h => by omega⟩ (fun i hG => ?_)
  obtain ⟨g1, g2⟩ := hG
  have hsi := hs i
  refine a_seq ?_
  refine a_region ?_
  refine rv (v := .bool _) (v_lss il il) ?_
  refine r_nil ?_
  refine a_seq ?_
  refine a_cond rfl (fun ht11 => ?_) (fun ht11 => ?_)
  ·
    skip
    refine a_skip ?_
    refine a_seq ?_
    refine a_block ?_
    refine a_seq ?_
    have hi : i < c.length := (by simp at ht11; omega)
    refine a_region ?_
    refine rv (v := .pp _ _) (v_indexAddr_sl es25 il il (fun _ => ⟨by omega, by omega, icells_ne hi⟩)) ?_
    refine rv (v := .int .i64 (gd c i)) (v_load_pp ta3 il (fun _ => by rw [Nat.mul_one]; exact icells_get (gd_get hi)) rfl) ?_
    refine rv (v := .int _ _) (v_assign il nf) ?_
    refine r_nil ?_
    refine a_block ?_
    refine a_seq ?_
    refine a_region ?_
    refine rv (v := .sl _ _) (v_move il nf) ?_
    refine rv (v := .int _ _) (v_move il nf) ?_
    refine rn (v := .bool _) (q_call (vs := [.sl _ _, .int _ _]) (args := [.sl _ _, .int .i64 _]) hb59 ⟨il, il, trivial⟩ rfl (fun hA => contains_c a _ ha) rfl rfl) ?_
    refine rv (v := .bool _) (v_assign il nf) ?_
    refine r_nil ?_
    refine a_cond rfl (fun ht14 => ?_) (fun ht14 => ?_)
    ·
      skip
      refine a_seq ?_
      refine a_region ?_
      refine rv (v := .int _ _) (v_assign il nf) ?_
      refine r_nil ?_
      refine a_ret ?_
      refine ret1 Tryz.results90 (by decide) (by decide) (Weak.of_eq (int_eq ?_)) rfl Leaves.nil
      exact (cval_one hi (by simpa using ht14)).symm
    ·
      skip
      refine a_seq ?_
      refine a_region ?_
      refine rv (v := .sl _ _) (v_move il nf) ?_
      refine rv (v := .int _ _) (v_move il nf) ?_
      refine rv (v := .int _ _) (v_neg il (fun _ => by omega)) ?_
      refine rn (v := .bool _) (q_call (vs := [.sl _ _, .int _ _]) (args := [.sl _ _, .int .i64 _]) hb59 ⟨il, il, trivial⟩ rfl (fun hA => contains_c a _ ha) rfl rfl) ?_
      refine rv (v := .bool _) (v_not il) ?_
      refine rv (v := .bool _) (v_assign il nf) ?_
      refine r_nil ?_
      refine a_cond rfl (fun ht18 => ?_) (fun ht18 => ?_)
      ·
        skip
        refine a_region ?_
        refine rv (v := .int _ _) (v_assign il nf) ?_
        refine r_nil ?_
        refine a_region ?_
        refine rv (v := .int _ _) (v_add il il (fun _ => by omega)) ?_
        refine rv (v := .int _ _) (v_move il nf) ?_
        refine r_nil ?_
        refine ⟨i + 1, ent_look ⟨Weak.of_eq rfl, Weak.of_eq (int_eq (by rw [cvP_succ hi, if_neg (by simpa using ht18)])), Weak.of_eq rfl, Weak.of_eq rfl, Weak.of_eq (int_eq (by omega)), trivial⟩, ⟨by omega, fun j h1 => by rcases Nat.lt_or_ge j i with h | h; exact g2 j h; (obtain rfl : j = i := by omega); simpa using ht14⟩, by omega⟩
      ·
        skip
        refine a_skip ?_
        refine a_region ?_
        refine rv (v := .int _ _) (v_add il il (fun _ => by omega)) ?_
        refine rv (v := .int _ _) (v_move il nf) ?_
        refine r_nil ?_
        refine ⟨i + 1, ent_look ⟨Weak.of_eq rfl, Weak.of_eq (int_eq (by rw [cvP_succ hi, if_pos (by simpa using ht18)])), Weak.of_eq rfl, Weak.of_eq rfl, Weak.of_eq (int_eq (by omega)), trivial⟩, ⟨by omega, fun j h1 => by rcases Nat.lt_or_ge j i with h | h; exact g2 j h; (obtain rfl : j = i := by omega); simpa using ht14⟩, by omega⟩
  ·
    skip
    refine a_exit ?_
    refine a_seq ?_
    have hcv := cval_end (c := c) (a := a) (i := i) (by simp at ht11; omega) g2
    refine a_region ?_
    refine rv (v := .int _ _) (v_move il nf) ?_
    refine rv (v := .int _ _) (v_assign il nf) ?_
    refine r_nil ?_
    refine a_ret ?_
    refine ret1 Tryz.results90 (by decide) (by decide) (Weak.of_eq (int_eq ?_)) rfl Leaves.nil
    exact hcv.symm
theorem sClv_c (c a : List Int) (hs : SmI c) (hc : c.length ≤ 1048576) (ha : a.length ≤ 1048576) : ACall Tryz.prog 76 [.sl (icells c) c.length, .sl (icells a) a.length] [] (.int .i64 (cval c a)) [] := by
  refine ACall.intro Tryz.func76 rfl (N := 28) rfl (by decide) (by simp) ?_
  refine a_seq ?_
  refine a_region ?_
  refine rv (v := .int _ _) (v_assign il nf) ?_
  refine r_nil ?_
  refine a_seq ?_
  refine a_region ?_
  refine rv (v := .int _ _) (v_assign il nf) ?_
  refine r_nil ?_
  refine a_seq ?_
  refine a_seq ?_
  refine a_region ?_
  refine rv (v := .int _ _) (v_assign il nf) ?_
  refine r_nil ?_
  refine a_block ?_
  refine a_loop (X := Nat) (fun i => look [(0, .sl (icells c) c.length), (1, .sl (icells a) a.length), (5, .int .i64 (cvP c a i)), (6, .int .i64 ((i : Nat) : Int))]) (fun i => i ≤ c.length ∧ ∀ j, j < i → ¬ gd c j ∈ a) (fun i => c.length - i) 0 (ent_look ⟨Weak.of_eq rfl, Weak.of_eq rfl, Weak.of_eq rfl, Weak.of_eq rfl, trivial⟩) ⟨Nat.zero_le _, fun j h => by omega⟩ (fun i hG => ?_)
  obtain ⟨g1, g2⟩ := hG
  have hsi := hs i
  refine a_seq ?_
  refine a_seq ?_
  refine a_region ?_
  refine rv (v := .int _ _) (v_move il nf) ?_
  refine rv (v := .sl _ _) (v_move il nf) ?_
  refine rv (v := .int _ _) (v_len_sl sl25 il) ?_
  refine rv (v := .bool _) (v_lss il il) ?_
  refine r_nil ?_
  refine a_cond rfl (fun ht10 => ?_) (fun ht10 => ?_)
  ·
    skip
    refine a_skip ?_
    refine a_seq ?_
    refine a_block ?_
    refine a_seq ?_
    refine a_seq ?_
    have hi : i < c.length := (by simp at ht10; omega)
    refine a_region ?_
    refine rv (v := .sl _ _) (v_move il nf) ?_
    refine rv (v := .sl _ _) (v_move il nf) ?_
    refine rv (v := .int _ _) (v_move il nf) ?_
    refine rv (v := .pp _ _) (v_indexAddr_sl es25 il il (fun _ => ⟨by omega, by omega, icells_ne hi⟩)) ?_
    refine rv (v := .int .i64 (gd c i)) (v_load_pp ta3 il (fun _ => by rw [Nat.mul_one]; exact icells_get (gd_get hi)) rfl) ?_
    refine rn (v := .bool _) (q_call (vs := [.sl _ _, .int _ _]) (args := [.sl _ _, .int .i64 _]) hb65 ⟨il, il, trivial⟩ rfl (fun hA => has2_c _ _ _ ⟨rfl, by omega⟩) rfl rfl) ?_
    refine r_nil ?_
    refine a_cond rfl (fun ht18 => ?_) (fun ht18 => ?_)
    ·
      skip
      refine a_seq ?_
      refine a_region ?_
      refine rv (v := .int _ _) (v_assign il nf) ?_
      refine r_nil ?_
      refine a_ret ?_
      refine ret1 Tryz.results76 (by decide) (by decide) (Weak.of_eq (int_eq ?_)) rfl Leaves.nil
      exact (cval_one hi (by simpa using ht18)).symm
    ·
      skip
      refine a_skip ?_
      refine a_seq ?_
      refine a_region ?_
      refine rv (v := .sl _ _) (v_move il nf) ?_
      refine rv (v := .sl _ _) (v_move il nf) ?_
      refine rv (v := .int _ _) (v_move il nf) ?_
      refine rv (v := .pp _ _) (v_indexAddr_sl es25 il il (fun _ => ⟨by omega, by omega, icells_ne hi⟩)) ?_
      refine rv (v := .int .i64 (gd c i)) (v_load_pp ta3 il (fun _ => by rw [Nat.mul_one]; exact icells_get (gd_get hi)) rfl) ?_
      refine rv (v := .int _ _) (v_neg il (fun _ => by omega)) ?_
      refine rn (v := .bool _) (q_call (vs := [.sl _ _, .int _ _]) (args := [.sl _ _, .int .i64 _]) hb65 ⟨il, il, trivial⟩ rfl (fun hA => has2_c _ _ _ ⟨rfl, by omega⟩) rfl rfl) ?_
      refine rv (v := .bool _) (v_not il) ?_
      refine r_nil ?_
      refine a_cond rfl (fun ht26 => ?_) (fun ht26 => ?_)
      ·
        skip
        refine a_region ?_
        refine rv (v := .int _ _) (v_assign il nf) ?_
        refine r_nil ?_
        refine a_region ?_
        refine rv (v := .int _ _) (v_move il nf) ?_
        refine rv (v := .int _ _) (v_add il il (fun _ => by omega)) ?_
        refine rv (v := .int _ _) (v_assign il nf) ?_
        refine r_nil ?_
        refine ⟨i + 1, ent_look ⟨Weak.of_eq rfl, Weak.of_eq rfl, Weak.of_eq (int_eq (by rw [cvP_succ hi, if_neg (by simpa using ht26)])), Weak.of_eq (int_eq (by omega)), trivial⟩, ⟨by omega, fun j h1 => by rcases Nat.lt_or_ge j i with h | h; exact g2 j h; (obtain rfl : j = i := by omega); simpa using ht18⟩, by omega⟩
      ·
        skip
        refine a_skip ?_
        refine a_region ?_
        refine rv (v := .int _ _) (v_move il nf) ?_
        refine rv (v := .int _ _) (v_add il il (fun _ => by omega)) ?_
        refine rv (v := .int _ _) (v_assign il nf) ?_
        refine r_nil ?_
        refine ⟨i + 1, ent_look ⟨Weak.of_eq rfl, Weak.of_eq rfl, Weak.of_eq (int_eq (by rw [cvP_succ hi, if_pos (by simpa using ht26)])), Weak.of_eq (int_eq (by omega)), trivial⟩, ⟨by omega, fun j h1 => by rcases Nat.lt_or_ge j i with h | h; exact g2 j h; (obtain rfl : j = i := by omega); simpa using ht18⟩, by omega⟩
  ·
    skip
    refine a_exit ?_
    refine a_seq ?_
    have hcv := cval_end (c := c) (a := a) (i := i) (by simp at ht10; omega) g2
    refine a_region ?_
    refine rv (v := .int _ _) (v_move il nf) ?_
    refine rv (v := .int _ _) (v_assign il nf) ?_
    refine r_nil ?_
    refine a_ret ?_
    refine ret1 Tryz.results76 (by decide) (by decide) (Weak.of_eq (int_eq ?_)) rfl Leaves.nil
    exact hcv.symm
theorem open1_c (l : Int) (a : List Int) (hl : -4611686018427387904 ≤ l ∧ l ≤ 4611686018427387904) (ha : a.length ≤ 1048576) : ACall Tryz.prog 111 [.int .i64 l, .pp [.sl (icells a) a.length] 0] [] (.bool (decide (-l ∈ a))) [] := by
  refine ACall.intro Tryz.func111 rfl (N := 8) rfl (by decide) (by simp) ?_
  refine a_seq ?_
  refine a_region ?_
  refine rv (v := .bool _) (v_assign il nf) ?_
  refine r_nil ?_
  refine a_seq ?_
  refine a_region ?_
  refine rv (v := .sl _ _) (v_load_pp ta25 il (fun _ => rfl) rfl) ?_
  refine rv (v := .int _ _) (v_move il nf) ?_
  refine rv (v := .int _ _) (v_neg il (fun _ => by omega)) ?_
  refine rn (v := .bool _) (q_call (vs := [.sl _ _, .int _ _]) (args := [.sl _ _, .int .i64 _]) hb59 ⟨il, il, trivial⟩ rfl (fun hA => contains_c a _ ha) rfl rfl) ?_
  refine rv (v := .bool _) (v_assign il nf) ?_
  refine r_nil ?_
  refine a_ret ?_
  refine ret1 Tryz.results111 (by decide) (by decide) (Weak.of_eq (bool_eq ?_)) rfl Leaves.nil
  rfl
theorem iOpen_c (c a : List Int) (hs : SmI c) (hc : c.length ≤ 1048576) (ha : a.length ≤ 1048576) : ACall Tryz.prog 91 [.sl (icells c) c.length, .sl (icells a) a.length] [] (.osl 1 (icells (opn c a)) (opn c a).length none) [] := by
  have hbO := hb111
  refine ACall.intro Tryz.func91 rfl (N := 9) rfl (by decide) (by simp) ?_
  refine a_seq ?_
  refine a_region ?_
  refine rn (v := .op [.sl _ _]) (q_box il rfl rfl) ?_
  refine rv (v := .nils) (v_assign il nf) ?_
  refine r_nil ?_
  refine a_seq ?_
  refine a_region ?_
  refine rv (v := .sl _ _) (v_move il nf) ?_
  refine rn (v := .osl _ _ _ _) (q_call (vs := [.sl _ _]) (args := [.sl _ _]) hb54 ⟨il, trivial⟩ rfl (fun hA => cloneI_c _ _ ⟨rfl, by omega⟩) (ic_noSh _) (ic_noRef _)) ?_
  refine rv (v := .fn _ _ _) (v_makeFunc (first := []) (caps := [.tmp 3]) rfl rfl) ?_
  refine r_step rfl (o_callIO (q := (6, [])) (vs := [.rsl _ _ _ _ _, .fn _ _ _]) (args := [.rsl (INH, []) _ _ _ _, .fn _ _ _]) (x0 := .osl _ _ _ _) (x1 := .undef) (res := .osl _ _ _ _) rfl hb110 rfl (by decide) ⟨.inl rfl, .inl rfl, trivial⟩ rfl rfl (del_c 111 [.pp [.sl (icells a) a.length] 0] hbO rfl c _ (fun l => decide (-l ∈ a)) ⟨rfl, by omega⟩ (fun i hi => open1_c _ a (hs i) ha)) rfl (ic_noSh _) (ic_noRef _) rfl rfl (Nat.le_of_ble_eq_true rfl) (by decide) rfl) ?_
  refine rv (v := .rsl _ _ _ _ _) (v_assign il nf) ?_
  refine r_pre (ent_reloc_sl (t := 4) rfl rfl) ?_
  refine r_nil ?_
  refine a_ret ?_
  refine ret1 Tryz.results91 (by decide) (by decide) (Weak.osl ?_ ?_) rfl Leaves.nil
  · rfl
  · rfl
theorem sOpen_c (c a : List Int) (hs : SmI c) (hc : c.length ≤ 1048576) (ha : a.length ≤ 1048576) : ACall Tryz.prog 88 [.sl (icells c) c.length, .sl (icells a) a.length] [] (.osl 1 (icells (opn c a)) (opn c a).length none) [] := by
  refine ACall.intro Tryz.func88 rfl (N := 30) rfl (by decide) (by simp) ?_
  refine a_seq ?_
  refine a_region ?_
  refine rv (v := .nils) (v_assign il nf) ?_
  refine r_nil ?_
  refine a_seq ?_
  refine a_region ?_
  refine rn (v := .osl _ _ _ _) (q_sliceLit (n := 0) (parts := []) lt25 rfl rfl rfl rfl) ?_
  refine rv (v := .rsl _ _ _ _ _) (v_assign il nf) ?_
  refine r_pre (ent_reloc_sl (t := 5) rfl rfl) ?_
  refine r_nil ?_
  refine a_seq ?_
  refine a_seq ?_
  refine a_region ?_
  refine rv (v := .int _ _) (v_assign il nf) ?_
  refine r_nil ?_
  refine a_block ?_
  refine a_loop (X := Nat) (fun i => look [(0, .sl (icells c) c.length), (1, .sl (icells a) a.length), (5, .osl 1 (icells (opn (c.take i) a)) (opn (c.take i) a).length none), (6, .int .i64 ((i : Nat) : Int))]) (fun i => i ≤ c.length) (fun i => c.length - i) 0 (ent_look ⟨Weak.of_eq rfl, Weak.of_eq rfl, Weak.osl rfl rfl, Weak.of_eq rfl, trivial⟩) (Nat.zero_le _) (fun i hG => ?_)
  have hsi := hs i
  have hwl := opn_len (c.take i) a
  have htk : (c.take i).length ≤ c.length := (by rw [List.length_take]; omega)
  refine a_seq ?_
  refine a_seq ?_
  refine a_region ?_
  refine rv (v := .int _ _) (v_move il nf) ?_
  refine rv (v := .sl _ _) (v_move il nf) ?_
  refine rv (v := .int _ _) (v_len_sl sl25 il) ?_
  refine rv (v := .bool _) (v_lss il il) ?_
  refine r_nil ?_
  refine a_cond rfl (fun ht11 => ?_) (fun ht11 => ?_)
  ·
    skip
    refine a_skip ?_
    refine a_seq ?_
    refine a_block ?_
    refine a_seq ?_
    have hi : i < c.length := (by simp at ht11; omega)
    refine a_region ?_
    refine rv (v := .sl _ _) (v_move il nf) ?_
    refine rv (v := .sl _ _) (v_move il nf) ?_
    refine rv (v := .int _ _) (v_move il nf) ?_
    refine rv (v := .pp _ _) (v_indexAddr_sl es25 il il (fun _ => ⟨by omega, by omega, icells_ne hi⟩)) ?_
    refine rv (v := .int .i64 (gd c i)) (v_load_pp ta3 il (fun _ => by rw [Nat.mul_one]; exact icells_get (gd_get hi)) rfl) ?_
    refine rv (v := .int _ _) (v_neg il (fun _ => by omega)) ?_
    refine rn (v := .bool _) (q_call (vs := [.sl _ _, .int _ _]) (args := [.sl _ _, .int .i64 _]) hb65 ⟨il, il, trivial⟩ rfl (fun hA => has2_c _ _ _ ⟨rfl, by omega⟩) rfl rfl) ?_
    refine rv (v := .bool _) (v_not il) ?_
    refine r_nil ?_
    refine a_cond rfl (fun ht21 => ?_) (fun ht21 => ?_)
    ·
      skip
      refine a_region ?_
      refine rv (v := .rsl _ _ _ _ _) (v_move il nf) ?_
      refine rv (v := .sl _ _) (v_move il nf) ?_
      refine rv (v := .int _ _) (v_move il nf) ?_
      refine rv (v := .pp _ _) (v_indexAddr_sl es25 il il (fun _ => ⟨by omega, by omega, icells_ne hi⟩)) ?_
      refine rv (v := .int .i64 (gd c i)) (v_load_pp ta3 il (fun _ => by rw [Nat.mul_one]; exact icells_get (gd_get hi)) rfl) ?_
      refine rn (v := .osl 1 (icells [gd c i]) 1 (some 1)) (q_sliceLit (n := 1) (parts := [(0, .tmp 26)]) lt25 rfl rfl rfl rfl) ?_
      refine r_pre (ent_reloc_sl (t := 22) rfl rfl) ?_
      refine r_step rfl (o_append rfl ap25 rfl (by decide) (by decide) rfl (src_lit (.inl rfl) rfl rfl (ic_pureL _)) (ic_cell _) (by rw [icells_length]; omega) (by omega)) ?_
      refine rv (v := .rsl _ _ _ _ _) (v_assign il nf) ?_
      refine r_pre (ent_reloc_sl (t := 5) rfl rfl) ?_
      refine r_nil ?_
      refine a_region ?_
      refine rv (v := .int _ _) (v_move il nf) ?_
      refine rv (v := .int _ _) (v_add il il (fun _ => by omega)) ?_
      refine rv (v := .int _ _) (v_assign il nf) ?_
      refine r_nil ?_
      refine ⟨i + 1, ent_look ⟨Weak.of_eq rfl, Weak.of_eq rfl, Weak.osl (by rw [opn_succ hi, if_neg (by simpa using ht21), icells_append]) (by rw [opn_succ hi, if_neg (by simpa using ht21)]; simp), Weak.of_eq (int_eq (by omega)), trivial⟩, by omega, by omega⟩
    ·
      skip
      refine a_skip ?_
      refine a_region ?_
      refine rv (v := .int _ _) (v_move il nf) ?_
      refine rv (v := .int _ _) (v_add il il (fun _ => by omega)) ?_
      refine rv (v := .int _ _) (v_assign il nf) ?_
      refine r_nil ?_
      refine ⟨i + 1, ent_look ⟨Weak.of_eq rfl, Weak.of_eq rfl, Weak.osl (by rw [opn_succ hi, if_pos (by simpa using ht21)]) (by rw [opn_succ hi, if_pos (by simpa using ht21)]), Weak.of_eq (int_eq (by omega)), trivial⟩, by omega, by omega⟩
  ·
    skip
    refine a_exit ?_
    refine a_seq ?_
    refine a_region ?_
    refine rv (v := .rsl _ _ _ _ _) (v_move il nf) ?_
    refine rv (v := .rsl _ _ _ _ _) (v_assign il nf) ?_
    refine r_pre (ent_reloc_sl (t := 4) rfl rfl) ?_
    refine r_nil ?_
    refine a_ret ?_
    refine ret1 Tryz.results88 (by decide) (by decide) (Weak.osl ?_ ?_) rfl Leaves.nil
    · simp at ht11; rw [List.take_of_length_le (by omega)]
    · simp at ht11; rw [List.take_of_length_le (by omega)]
theorem iUnit_c (c a : List Int) (hs : SmI c) (hc : c.length ≤ 1048576) (ha : a.length ≤ 1048576) : ACall Tryz.prog 69 [.sl (icells c) c.length, .sl (icells a) a.length] [] (.int .i64 (unitL c a)) [] := by
  refine ACall.intro Tryz.func69 rfl (N := 19) rfl (by decide) (by simp) ?_
  refine a_seq ?_
  refine a_region ?_
  refine rv (v := .int _ _) (v_assign il nf) ?_
  refine r_nil ?_
  refine a_seq ?_
  refine a_seq ?_
  refine a_region ?_
  refine rv (v := .sl _ _) (v_move il nf) ?_
  refine rv (v := .sl _ _) (v_move il nf) ?_
  refine rn (v := .int _ _) (q_call (vs := [.sl _ _, .sl _ _]) (args := [.sl _ _, .sl _ _]) hb90 ⟨il, il, trivial⟩ rfl (fun hA => iClv_c c a hs hc ha) rfl rfl) ?_
  refine rv (v := .bool _) (v_neq il il) ?_
  refine r_nil ?_
  refine a_cond rfl (fun ht9 => ?_) (fun ht9 => ?_)
  ·
    skip
    refine a_seq ?_
    refine a_region ?_
    refine rv (v := .int _ _) (v_assign il nf) ?_
    refine r_nil ?_
    refine a_ret ?_
    refine ret1 Tryz.results69 (by decide) (by decide) (Weak.of_eq (int_eq ?_)) rfl Leaves.nil
    rw [unit_no (by simp at ht9; omega)]
  ·
    skip
    refine a_skip ?_
    refine a_seq ?_
    refine a_seq ?_
    refine a_region ?_
    refine rv (v := .sl _ _) (v_move il nf) ?_
    refine rv (v := .sl _ _) (v_move il nf) ?_
    refine rn (v := .osl _ _ _ _) (q_call (vs := [.sl _ _, .sl _ _]) (args := [.sl _ _, .sl _ _]) hb91 ⟨il, il, trivial⟩ rfl (fun hA => iOpen_c c a hs hc ha) (ic_noSh _) (ic_noRef _)) ?_
    refine rv (v := .rsl _ _ _ _ _) (v_assign il nf) ?_
    refine r_pre (ent_reloc_sl (t := 5) rfl rfl) ?_
    refine r_nil ?_
    refine a_seq ?_
    refine a_region ?_
    refine rv (v := .rsl _ _ _ _ _) (v_move il nf) ?_
    refine rv (v := .int _ _) (v_len_rsl sl25 il) ?_
    refine rv (v := .bool _) (v_eql il il) ?_
    refine r_nil ?_
    refine a_cond rfl (fun ht15 => ?_) (fun ht15 => ?_)
    ·
      skip
      refine a_seq ?_
      refine a_region ?_
      refine rv (v := .rsl _ _ _ _ _) (v_move il nf) ?_
      refine rv (v := .rp _ _) (v_indexAddr_rsl0 es25 il il (fun _ => ⟨by omega, by simp at ht15; omega⟩)) ?_
      refine rv (v := .int .i64 (gd (opn c a) 0)) (v_load_rp1 ta3 il rfl (fun _ => icells_get (gd_get (show 0 < (opn c a).length by simp at ht15; omega))) rfl) ?_
      refine rv (v := .int _ _) (v_assign il nf) ?_
      refine r_nil ?_
      refine a_ret ?_
      refine ret1 Tryz.results69 (by decide) (by decide) (Weak.of_eq (int_eq ?_)) rfl Leaves.nil
      rw [unit_yes (by simpa using ht9) (by simp at ht15; omega)]
    ·
      skip
      refine a_skip ?_
      refine a_seq ?_
      refine a_region ?_
      refine rv (v := .int _ _) (v_assign il nf) ?_
      refine r_nil ?_
      refine a_ret ?_
      refine ret1 Tryz.results69 (by decide) (by decide) (Weak.of_eq (int_eq ?_)) rfl Leaves.nil
      rw [unit_no (by simp at ht15; omega)]
theorem sUnit_c (c a : List Int) (hs : SmI c) (hc : c.length ≤ 1048576) (ha : a.length ≤ 1048576) : ACall Tryz.prog 63 [.sl (icells c) c.length, .sl (icells a) a.length] [] (.int .i64 (unitL c a)) [] := by
  refine ACall.intro Tryz.func63 rfl (N := 21) rfl (by decide) (by simp) ?_
  refine a_seq ?_
  refine a_region ?_
  refine rv (v := .int _ _) (v_assign il nf) ?_
  refine r_nil ?_
  refine a_seq ?_
  refine a_region ?_
  refine rv (v := .sl _ _) (v_move il nf) ?_
  refine rv (v := .sl _ _) (v_move il nf) ?_
  refine rn (v := .osl _ _ _ _) (q_call (vs := [.sl _ _, .sl _ _]) (args := [.sl _ _, .sl _ _]) hb88 ⟨il, il, trivial⟩ rfl (fun hA => sOpen_c c a hs hc ha) (ic_noSh _) (ic_noRef _)) ?_
  refine rv (v := .rsl _ _ _ _ _) (v_assign il nf) ?_
  refine r_pre (ent_reloc_sl (t := 5) rfl rfl) ?_
  refine r_nil ?_
  refine a_seq ?_
  refine a_seq ?_
  refine a_region ?_
  refine rv (v := .sl _ _) (v_move il nf) ?_
  refine rv (v := .sl _ _) (v_move il nf) ?_
  refine rn (v := .int _ _) (q_call (vs := [.sl _ _, .sl _ _]) (args := [.sl _ _, .sl _ _]) hb76 ⟨il, il, trivial⟩ rfl (fun hA => sClv_c c a hs hc ha) rfl rfl) ?_
  refine rv (v := .bool _) (v_neq il il) ?_
  refine rv (v := .bool _) (v_move il nf) ?_
  refine r_gval (v := .rsl _ _ _ _ _) (v_move il nf) rfl rfl rfl (by decide) (.inl ⟨_, rfl, rfl⟩) rfl (by decide) ?_
  refine r_gval (v := .int _ _) (v_len_rsl sl25 (.inr ⟨_, rfl, fun h => h⟩)) rfl rfl rfl (by decide) (.inl ⟨_, rfl, rfl⟩) rfl (by decide) ?_
  refine r_gval (v := .bool _) (v_neq (.inr ⟨_, rfl, fun h => h⟩) il) rfl rfl rfl (by decide) (.inl ⟨_, rfl, rfl⟩) rfl (by decide) ?_
  refine rv (v := .bool _) (v_pick (.inl rfl) (.inl rfl) (.inr ⟨_, rfl, fun h h2 => by simp_all⟩)) ?_
  refine r_nil ?_
  refine a_cond rfl (fun ht17 => ?_) (fun ht17 => ?_)
  ·
    skip
    refine a_seq ?_
    refine a_region ?_
    refine rv (v := .int _ _) (v_assign il nf) ?_
    refine r_nil ?_
    refine a_ret ?_
    refine ret1 Tryz.results63 (by decide) (by decide) (Weak.of_eq (int_eq ?_)) rfl Leaves.nil
    rw [unit_no (by intro hu; simp [hu.1, hu.2] at ht17)]
  ·
    skip
    refine a_skip ?_
    refine a_seq ?_
    have hu : cval c a = 0 ∧ (opn c a).length = 1 := (by by_cases h1 : cval c a = 0 <;> simp_all <;> omega)
    refine a_region ?_
    refine rv (v := .rsl _ _ _ _ _) (v_move il nf) ?_
    refine rv (v := .rp _ _) (v_indexAddr_rsl0 es25 il il (fun _ => ⟨by omega, by omega⟩)) ?_
    refine rv (v := .int .i64 (gd (opn c a) 0)) (v_load_rp1 ta3 il rfl (fun _ => icells_get (gd_get (show 0 < (opn c a).length by omega))) rfl) ?_
    refine rv (v := .int _ _) (v_assign il nf) ?_
    refine r_nil ?_
    refine a_ret ?_
    refine ret1 Tryz.results63 (by decide) (by decide) (Weak.of_eq (int_eq ?_)) rfl Leaves.nil
    rw [unit_yes hu.1 hu.2]
end Go.Av
namespace Go.Av
open Go Go.Proofs Go.Sort
set_option maxRecDepth 10000
end Go.Av
namespace Go.Av
open Go Go.Proofs Go.Sort
set_option maxRecDepth 10000
end Go.Av
namespace Go.Av
open Go Go.Proofs Go.Sort
set_option maxRecDepth 10000
end Go.Av
namespace Go.Av
open Go Go.Proofs Go.Sort
set_option maxRecDepth 10000
end Go.Av
namespace Go.Av
open Go Go.Proofs Go.Sort
set_option maxRecDepth 10000
end Go.Av
namespace Go.Av
open Go Go.Proofs Go.Sort
set_option maxRecDepth 10000
end Go.Av
namespace Go.Av
open Go Go.Proofs Go.Sort
set_option maxRecDepth 10000
end Go.Av
namespace Go.Av
open Go Go.Proofs Go.Sort
set_option maxRecDepth 10000
theorem ap58 : appTy Tryz.prog 58 = some (2, 16) := by kernel_rfl
theorem arp78 : arrPl Tryz.prog 78 = some ([.int .i64 0, .int .i64 0], 1) := by kernel_rfl
theorem hb66 : hasBody Tryz.prog 66 = true := by kernel_rfl
theorem hb67 : hasBody Tryz.prog 67 = true := by kernel_rfl
theorem hb68 : hasBody Tryz.prog 68 = true := by kernel_rfl
theorem hb69 : hasBody Tryz.prog 69 = true := by kernel_rfl
theorem hb70 : hasBody Tryz.prog 70 = true := by kernel_rfl
theorem hb87 : hasBody Tryz.prog 87 = true := by kernel_rfl
theorem lt58 : litTy Tryz.prog 58 = some (2, [.int .i64 0, .int .i64 0]) := by kernel_rfl
theorem idxL_c (f : Nat) (caps : List AV) (hb : hasBody Tryz.prog f = true) (hcap : capOk caps = true) (xs : List (List Int)) (p : Nat → Bool) (hl : (xs.length : Int) ≤ 9223372036854775807) (hc : ∀ i, i < xs.length → ACall Tryz.prog f (.sl (icells (gl xs i)) (gl xs i).length :: caps) [] (.bool (p i)) []) : ACall Tryz.prog 67 [.sl (sls xs) xs.length, .fn f [] caps] [] (.int .i64 (fidx p xs.length)) [] := by
  refine ACall.intro Tryz.func67 rfl (N := 19) rfl (by decide) (by simp) ?_
  refine a_seq ?_
  refine a_region ?_
  refine rv (v := .int _ _) (v_assign il nf) ?_
  refine r_nil ?_
  refine a_seq ?_
  refine a_seq ?_
  refine a_region ?_
  refine rv (v := .sl _ _) (v_move il nf) ?_
  refine rv (v := .int _ _) (v_len_sl sl22 il) ?_
  refine rv (v := .int _ _) (v_move il nf) ?_
  refine r_nil ?_
  refine a_block ?_
  refine a_loop (X := Nat) (fun i => look [(0, .sl (sls xs) xs.length), (1, .fn f [] caps), (7, .int .i64 (xs.length : Int)), (8, .int .i64 (i : Int))]) (fun i => i ≤ xs.length ∧ ∀ j, j < i → p j = false) (fun i => xs.length - i) 0 (ent_look ⟨Weak.of_eq rfl, Weak.of_eq rfl, Weak.of_eq rfl, Weak.of_eq rfl, trivial⟩) ⟨Nat.zero_le _, fun j h => by omega⟩ (fun i hG => ?_)
  obtain ⟨h1, h2⟩ := hG
  refine a_seq ?_
  refine a_region ?_
  refine rv (v := .bool _) (v_lss il il) ?_
  refine r_nil ?_
  refine a_seq ?_
  refine a_cond rfl (fun ht9 => ?_) (fun ht9 => ?_)
  ·
    skip
    refine a_skip ?_
    refine a_seq ?_
    refine a_block ?_
    refine a_seq ?_
    refine a_region ?_
    have hi : i < xs.length := (by simp at ht9; omega)
    refine rv (v := .int _ _) (v_move il nf) ?_
    refine rv (v := .int _ _) (v_assign il nf) ?_
    refine r_nil ?_
    refine a_seq ?_
    refine a_region ?_
    refine rv (v := .fn _ _ _) (v_mv rfl) ?_
    refine rv (v := .sl _ _) (v_move il nf) ?_
    refine rv (v := .int _ _) (v_move il nf) ?_
    refine rv (v := .pp _ _) (v_indexAddr_sl es22 il il (fun _ => ⟨by omega, by omega, sls_ne hi⟩)) ?_
    refine rv (v := .sl (icells (gl xs i)) (gl xs i).length) (v_load_pp ta25 il (fun _ => by rw [Nat.mul_one]; exact sls_get hi) rfl) ?_
    refine rn (v := .bool _) (q_clo (vs := [.sl _ _]) (args := (.sl _ _ :: caps)) hb il ⟨il, trivial⟩ (snap_clo1 hcap rfl) (fun hA => hc i hi) rfl rfl) ?_
    refine r_nil ?_
    refine a_cond rfl (fun ht16 => ?_) (fun ht16 => ?_)
    ·
      skip
      refine a_seq ?_
      refine a_region ?_
      refine rv (v := .int _ _) (v_move il nf) ?_
      refine rv (v := .int _ _) (v_assign il nf) ?_
      refine r_nil ?_
      refine a_ret ?_
      refine ret1 Tryz.results67 (by decide) (by decide) (Weak.of_eq (int_eq ?_)) rfl Leaves.nil
      exact (fidx_found hi ht16 h2).symm
    ·
      skip
      refine a_skip ?_
      refine a_region ?_
      refine rv (v := .int _ _) (v_add il il (fun _ => by omega)) ?_
      refine rv (v := .int _ _) (v_move il nf) ?_
      refine r_nil ?_
      refine ⟨i + 1, ent_look ⟨Weak.of_eq rfl, (Weak.of_eq (purge_fn hcap)), Weak.of_eq rfl, Weak.of_eq (int_eq (by omega)), trivial⟩, ⟨by omega, ok_stepF h2 ht16⟩, by omega⟩
  ·
    skip
    refine a_exit ?_
    refine a_seq ?_
    refine a_region ?_
    refine rv (v := .int _ _) (v_assign il nf) ?_
    refine r_nil ?_
    refine a_ret ?_
    refine ret1 Tryz.results67 (by decide) (by decide) (Weak.of_eq (int_eq ?_)) rfl Leaves.nil
    simp at ht9; exact (fidx_none (fun j hj => h2 j (by omega))).symm
theorem iFal_c (vars : Int) (L : List (List Int)) (a : List Int) (hcl : ∀ i, i < L.length → clB vars (gl L i) = true) (hL : L.length ≤ 1048576) (ha : a.length ≤ 1048576) : ACall Tryz.prog 66 [.sl (sls L) L.length, .sl (icells a) a.length] [] (.osl 1 (icells (falP L a L.length)) (falP L a L.length).length none) [] := by
  refine ACall.intro Tryz.func66 rfl (N := 25) rfl (by decide) (by simp) ?_
  refine a_seq ?_
  refine a_region ?_
  refine rv (v := .nils) (v_assign il nf) ?_
  refine r_nil ?_
  refine a_seq ?_
  refine a_region ?_
  refine rv (v := .nils) (v_assign il nf) ?_
  refine r_nil ?_
  refine a_seq ?_
  refine a_seq ?_
  refine a_region ?_
  refine rv (v := .sl _ _) (v_move il nf) ?_
  refine rv (v := .int _ _) (v_len_sl sl22 il) ?_
  refine rv (v := .int _ _) (v_move il nf) ?_
  refine r_nil ?_
  refine a_block ?_
  refine a_pre (ent_nil (t := 5) (sz := 1) (cap := none) (.inl rfl) (fun _ h => by cases h)) ?_
  refine a_loop (X := Nat) (fun i => look [(1, .sl (icells a) a.length), (5, .osl 1 (icells (falP L a i)) (falP L a i).length none), (8, .sl (sls L) L.length), (9, .int .i64 (L.length : Int)), (10, .int .i64 ((i : Nat) : Int))]) (fun i => i ≤ L.length) (fun i => L.length - i) 0 (ent_look ⟨Weak.of_eq rfl, Weak.osl rfl rfl, Weak.of_eq rfl, Weak.of_eq rfl, Weak.of_eq rfl, trivial⟩) (Nat.zero_le _) (fun i hG => ?_)
  have hfl := falP_len L a i
  refine a_seq ?_
  refine a_region ?_
  refine rv (v := .bool _) (v_lss il il) ?_
  refine r_nil ?_
  refine a_seq ?_
  refine a_cond rfl (fun ht11 => ?_) (fun ht11 => ?_)
  ·
    skip
    refine a_skip ?_
    refine a_seq ?_
    refine a_block ?_
    refine a_seq ?_
    have hi : i < L.length := (by simp at ht11; omega)
    have hci := hcl i hi
    have hln := clB_len hci
    refine a_region ?_
    refine rv (v := .int _ _) (v_move il nf) ?_
    refine rv (v := .pp _ _) (v_indexAddr_sl es22 il il (fun _ => ⟨by omega, by omega, sls_ne hi⟩)) ?_
    refine rv (v := .sl (icells (gl L i)) (gl L i).length) (v_load_pp ta25 il (fun _ => by rw [Nat.mul_one]; exact sls_get hi) rfl) ?_
    refine rv (v := .int _ _) (v_assign il nf) ?_
    refine rv (v := .sl _ _) (v_assign il nf) ?_
    refine r_nil ?_
    refine a_seq ?_
    refine a_region ?_
    refine rv (v := .sl _ _) (v_move il nf) ?_
    refine rv (v := .sl _ _) (v_move il nf) ?_
    refine rn (v := .int _ _) (q_call (vs := [.sl _ _, .sl _ _]) (args := [.sl _ _, .sl _ _]) hb90 ⟨il, il, trivial⟩ rfl (fun hA => iClv_c (gl L i) a (clB_sm hci) (by omega) ha) rfl rfl) ?_
    refine rv (v := .bool _) (v_lss il il) ?_
    refine r_nil ?_
    refine a_cond rfl (fun ht18 => ?_) (fun ht18 => ?_)
    ·
      skip
      refine a_region ?_
      refine rv (v := .rsl _ _ _ _ _) (v_move il nf) ?_
      refine rv (v := .int _ _) (v_move il nf) ?_
      refine rn (v := .osl 1 (icells [(i : Int)]) 1 (some 1)) (q_sliceLit (n := 1) (parts := [(0, .tmp 20)]) lt25 rfl rfl rfl rfl) ?_
      refine r_pre (ent_reloc_sl (t := 19) rfl rfl) ?_
      refine r_step rfl (o_append rfl ap25 rfl (by decide) (by decide) rfl (src_lit (.inl rfl) rfl rfl (ic_pureL _)) (ic_cell _) (by rw [icells_length]; omega) (by omega)) ?_
      refine rv (v := .rsl _ _ _ _ _) (v_assign il nf) ?_
      refine r_pre (ent_reloc_sl (t := 5) rfl rfl) ?_
      refine r_nil ?_
      refine a_region ?_
      refine rv (v := .int _ _) (v_add il il (fun _ => by omega)) ?_
      refine rv (v := .int _ _) (v_move il nf) ?_
      refine r_nil ?_
      refine ⟨i + 1, ent_look ⟨Weak.of_eq rfl, Weak.osl (by rw [falP_succ, if_pos (by simpa using ht18), icells_append] <;> rfl) (by rw [falP_succ, if_pos (by simpa using ht18)]; simp), Weak.of_eq rfl, Weak.of_eq rfl, Weak.of_eq (int_eq (by omega)), trivial⟩, by omega, by omega⟩
    ·
      skip
      refine a_skip ?_
      refine a_region ?_
      refine rv (v := .int _ _) (v_add il il (fun _ => by omega)) ?_
      refine rv (v := .int _ _) (v_move il nf) ?_
      refine r_nil ?_
      refine ⟨i + 1, ent_look ⟨Weak.of_eq rfl, Weak.osl (by rw [falP_succ, if_neg (by simpa using ht18)]) (by rw [falP_succ, if_neg (by simpa using ht18)]), Weak.of_eq rfl, Weak.of_eq rfl, Weak.of_eq (int_eq (by omega)), trivial⟩, by omega, by omega⟩
  ·
    skip
    refine a_exit ?_
    refine a_seq ?_
    refine a_region ?_
    refine rv (v := .rsl _ _ _ _ _) (v_move il nf) ?_
    refine rv (v := .rsl _ _ _ _ _) (v_assign il nf) ?_
    refine r_pre (ent_reloc_sl (t := 4) rfl rfl) ?_
    refine r_nil ?_
    refine a_ret ?_
    refine ret1 Tryz.results66 (by decide) (by decide) (Weak.osl ?_ ?_) rfl Leaves.nil
    · simp at ht11; rw [show i = L.length by omega]
    · simp at ht11; rw [show i = L.length by omega]
theorem cnfV_c (vars : Int) (L : List (List Int)) (a : List Int) (hcl : ∀ i, i < L.length → clB vars (gl L i) = true) (hL : L.length ≤ 1048576) (ha : a.length ≤ 1048576) : ACall Tryz.prog 62 [.agg [.int .i64 vars, .sl (sls L) L.length], .sl (icells a) a.length] [] (.int .i64 (cnfV L a L.length)) [] := by
  refine ACall.intro Tryz.func62 rfl (N := 24) rfl (by decide) (by simp) ?_
  refine a_seq ?_
  refine a_region ?_
  refine rn (v := .op [.int _ _, .sl _ _]) (q_box il rfl rfl) ?_
  refine rv (v := .int _ _) (v_assign il nf) ?_
  refine r_nil ?_
  refine a_seq ?_
  refine a_region ?_
  refine rv (v := .int _ _) (v_assign il nf) ?_
  refine r_nil ?_
  refine a_seq ?_
  refine a_seq ?_
  refine a_region ?_
  refine rv (v := .int _ _) (v_assign il nf) ?_
  refine r_nil ?_
  refine a_block ?_
  refine a_loop (X := Nat) (fun i => look [(1, .sl (icells a) a.length), (2, .op [.int .i64 vars, .sl (sls L) L.length]), (5, .int .i64 (cnfV L a i)), (6, .int .i64 ((i : Nat) : Int))]) (fun i => i ≤ L.length) (fun i => L.length - i) 0 (ent_look ⟨Weak.of_eq rfl, Weak.of_eq rfl, Weak.of_eq rfl, Weak.of_eq rfl, trivial⟩) (Nat.zero_le _) (fun i hG => ?_)
  refine a_seq ?_
  refine a_seq ?_
  refine a_region ?_
  refine rv (v := .int _ _) (v_move il nf) ?_
  refine rv (v := .rp _ _) (v_fieldAddr_rp fo30_1 il) ?_
  refine rv (v := .sl _ _) (v_load_rp1 ta22 il rfl (fun _ => rfl) rfl) ?_
  refine rv (v := .int _ _) (v_len_sl sl22 il) ?_
  refine rv (v := .bool _) (v_lss il il) ?_
  refine r_nil ?_
  refine a_cond rfl (fun ht11 => ?_) (fun ht11 => ?_)
  ·
    skip
    refine a_skip ?_
    refine a_seq ?_
    refine a_block ?_
    have hi : i < L.length := (by simp at ht11; omega)
    have hci := hcl i hi
    have hln := clB_len hci
    refine a_region ?_
    refine rv (v := .int _ _) (v_move il nf) ?_
    refine rv (v := .rp _ _) (v_fieldAddr_rp fo30_1 il) ?_
    refine rv (v := .sl _ _) (v_load_rp1 ta22 il rfl (fun _ => rfl) rfl) ?_
    refine rv (v := .int _ _) (v_move il nf) ?_
    refine rv (v := .pp _ _) (v_indexAddr_sl es22 il il (fun _ => ⟨by omega, by omega, sls_ne hi⟩)) ?_
    refine rv (v := .sl (icells (gl L i)) (gl L i).length) (v_load_pp ta25 il (fun _ => by rw [Nat.mul_one]; exact sls_get hi) rfl) ?_
    refine rv (v := .sl _ _) (v_move il nf) ?_
    refine rn (v := .int _ _) (q_call (vs := [.sl _ _, .sl _ _]) (args := [.sl _ _, .sl _ _]) hb76 ⟨il, il, trivial⟩ rfl (fun hA => sClv_c (gl L i) a (clB_sm hci) (by omega) ha) rfl rfl) ?_
    refine rn (v := .int .i64 (cnfV L a (i + 1))) (q_call (vs := [.int _ _, .int _ _]) (args := [.int .i64 _, .int .i64 _]) hb87 ⟨il, il, trivial⟩ rfl (fun hA => l1Least_c _ _) rfl rfl) ?_
    refine rv (v := .int _ _) (v_assign il nf) ?_
    refine r_nil ?_
    refine a_region ?_
    refine rv (v := .int _ _) (v_move il nf) ?_
    refine rv (v := .int _ _) (v_add il il (fun _ => by omega)) ?_
    refine rv (v := .int _ _) (v_assign il nf) ?_
    refine r_nil ?_
    refine ⟨i + 1, ent_look ⟨Weak.of_eq rfl, Weak.of_eq rfl, Weak.of_eq rfl, Weak.of_eq (int_eq (by omega)), trivial⟩, by omega, by omega⟩
  ·
    skip
    refine a_exit ?_
    refine a_seq ?_
    refine a_region ?_
    refine rv (v := .int _ _) (v_move il nf) ?_
    refine rv (v := .int _ _) (v_assign il nf) ?_
    refine r_nil ?_
    refine a_ret ?_
    refine ret1 Tryz.results62 (by decide) (by decide) (Weak.of_eq (int_eq ?_)) rfl Leaves.nil
    simp at ht11; rw [show i = L.length by omega]
theorem prop1_c (c a : List Int) (hs : SmI c) (hc : c.length ≤ 1048576) (ha : a.length ≤ 1048576) : ACall Tryz.prog 68 [.sl (icells c) c.length, .pp [.sl (icells a) a.length] 0] [] (.bool (decide (unitL c a ≠ 0))) [] := by
  refine ACall.intro Tryz.func68 rfl (N := 8) rfl (by decide) (by simp) ?_
  refine a_seq ?_
  refine a_region ?_
  refine rv (v := .bool _) (v_assign il nf) ?_
  refine r_nil ?_
  refine a_seq ?_
  refine a_region ?_
  refine rv (v := .sl _ _) (v_move il nf) ?_
  refine rv (v := .sl _ _) (v_load_pp ta25 il (fun _ => rfl) rfl) ?_
  refine rn (v := .int _ _) (q_call (vs := [.sl _ _, .sl _ _]) (args := [.sl _ _, .sl _ _]) hb69 ⟨il, il, trivial⟩ rfl (fun hA => iUnit_c c a hs hc ha) rfl rfl) ?_
  refine rv (v := .bool _) (v_neq il il) ?_
  refine rv (v := .bool _) (v_assign il nf) ?_
  refine r_nil ?_
  refine a_ret ?_
  refine ret1 Tryz.results68 (by decide) (by decide) (Weak.of_eq (bool_eq ?_)) rfl Leaves.nil
  rfl
theorem iProp_c (vars : Int) (L : List (List Int)) (a : List Int) (hcl : ∀ i, i < L.length → clB vars (gl L i) = true) (hL : L.length ≤ 1048576) (ha : a.length ≤ 1048576) (hca : clB vars a = true) : ACall Tryz.prog 40 [.sl (sls L) L.length, .sl (icells a) a.length] [] (.tup [.osl 1 (icells (propR L a).1) (propR L a).1.length none, .osl 2 (tcells (propR L a).2.1) (propR L a).2.1.length none, .bool (propR L a).2.2]) [] := by
  have hbP := hb68
  have hla0 := clB_len hca
  refine ACall.intro Tryz.func40 rfl (N := 41) rfl (by decide) (by simp) ?_
  refine a_seq ?_
  refine a_region ?_
  refine rn (v := .op [.sl _ _]) (q_box il rfl rfl) ?_
  refine rv (v := .nils) (v_assign il nf) ?_
  refine rv (v := .nils) (v_assign il nf) ?_
  refine rv (v := .bool _) (v_assign il nf) ?_
  refine r_nil ?_
  refine a_seq ?_
  refine a_region ?_
  refine rv (v := .sl _ _) (v_load_rp1 ta25 il rfl (fun _ => rfl) rfl) ?_
  refine rn (v := .osl _ _ _ _) (q_call (vs := [.sl _ _]) (args := [.sl _ _]) hb54 ⟨il, trivial⟩ rfl (fun hA => cloneI_c _ _ ⟨rfl, by omega⟩) (ic_noSh _) (ic_noRef _)) ?_
  refine r_step rfl (o_store_own (v := .osl _ _ _ _) (y' := .op [.osl _ _ _ _]) rfl rfl ta25 (.inl rfl) (by decide) rfl (by decide) rfl (by simp [cellsOf, noRefL, noRef, ic_noRef]) rfl rfl rfl rfl rfl (Nat.le_of_ble_eq_true rfl) rfl rfl) ?_
  refine r_nil ?_
  refine a_seq ?_
  refine a_region ?_
  refine rv (v := .nils) (v_assign il nf) ?_
  refine r_nil ?_
  refine a_block ?_
  refine a_pre (ent_nil (t := 7) (sz := 2) (cap := none) (.inl rfl) (fun _ h => by cases h)) ?_
  refine a_loop (X := (List Int × List (Int × Int))) (fun x => look [(0, .sl (sls L) L.length), (3, .op [.osl 1 (icells x.1) x.1.length none]), (7, .osl 2 (tcells x.2) x.2.length none)]) (fun x => clB vars x.1 = true ∧ prop L (13 - x.1.length) x.1 x.2 = propR L a ∧ x.2.length ≤ x.1.length) (fun x => 13 - x.1.length) (a, []) (ent_look ⟨Weak.of_eq rfl, Weak.of_eq rfl, Weak.osl rfl rfl, trivial⟩) ⟨hca, rfl, Nat.zero_le _⟩ (fun x hG => ?_)
  obtain ⟨g1, g2, g3⟩ := hG
  have hla := clB_len g1
  refine a_block ?_
  refine a_seq ?_
  refine a_seq ?_
  refine a_region ?_
  refine rv (v := .sl _ _) (v_move il nf) ?_
  refine rv (v := .rsl _ _ _ _ _) (v_load_rp (c := .osl _ _ _ _) ta25 il rfl (fun _ => rfl)) ?_
  refine rn (v := .osl _ _ _ _) (q_call (vs := [.sl _ _, .rsl _ _ _ _ _]) (args := [.sl _ _, .sl _ _]) hb66 ⟨il, il, trivial⟩ (l2_eq rfl (sl_sh (ic_pure _))) (fun hA => iFal_c vars L x.1 hcl hL (by omega)) (ic_noSh _) (ic_noRef _)) ?_
  refine rv (v := .int _ _) (v_len_rsl sl25 il) ?_
  refine rv (v := .bool _) (v_gtr il il) ?_
  refine r_nil ?_
  refine a_cond rfl (fun ht16 => ?_) (fun ht16 => ?_)
  ·
    skip
    refine a_seq ?_
    have hcf : conf L x.1 = true := (by rw [conf_fal]; simpa using ht16)
    have hres : propR L a = (x.1, x.2, true) := (by rw [← g2, prop_conf g1 hcf])
    refine a_region ?_
    refine rv (v := .rsl _ _ _ _ _) (v_load_rp (c := .osl _ _ _ _) ta25 il rfl (fun _ => rfl)) ?_
    refine rv (v := .rsl _ _ _ _ _) (v_move il nf) ?_
    refine rv (v := .rsl _ _ _ _ _) (v_assign il nf) ?_
    refine r_pre (ent_reloc_sl (t := 4) rfl rfl) ?_
    refine rv (v := .rsl _ _ _ _ _) (v_assign il nf) ?_
    refine r_pre (ent_reloc_sl (t := 5) rfl rfl) ?_
    refine rv (v := .bool _) (v_assign il nf) ?_
    refine r_nil ?_
    refine a_ret ?_
    refine retL (rs := [.tmp 4, .tmp 5, .tmp 6]) [(4, .osl _ _ _ none), (5, .osl _ _ _ none), (6, _)] ⟨Weak.osl rfl rfl, Weak.osl rfl rfl, Weak.rfl, trivial⟩ rfl Tryz.results40 (by decide) ⟨by decide, by decide, by decide, rfl⟩ (by decide) (by decide) (l3_eq (osl_eq2 ?_ ?_) (osl_eq2 ?_ ?_) (bool_eq ?_)) (by simp [refsL, refs])
    all_goals (rw [hres])
  ·
    skip
    refine a_skip ?_
    refine a_seq ?_
    have hcf : conf L x.1 = false := (by rw [conf_fal]; simpa using ht16)
    refine a_region ?_
    refine rv (v := .sl _ _) (v_move il nf) ?_
    refine rv (v := .fn _ _ _) (v_makeFunc (first := []) (caps := [.tmp 3]) rfl rfl) ?_
    refine rn (v := .int .i64 (uix L x.1)) (q_call (vs := [.sl _ _, .fn _ _ _]) (args := [.sl _ _, .fn _ _ _]) hb67 ⟨il, il, trivial⟩ (l2_eq rfl (fn_pp (ic_pure _))) (fun hA => idxL_c 68 [.pp [.sl (icells x.1) x.1.length] 0] hbP rfl L (fun i => decide (unitL (gl L i) x.1 ≠ 0)) (by omega) (fun i hi => prop1_c (gl L i) x.1 (clB_sm (hcl i hi)) (by have := clB_len (hcl i hi); omega) (by omega))) rfl rfl) ?_
    refine rv (v := .int _ _) (v_assign il nf) ?_
    refine r_nil ?_
    refine a_seq ?_
    refine a_seq ?_
    refine a_region ?_
    refine rv (v := .int _ _) (v_move il nf) ?_
    refine rv (v := .bool _) (v_lss il il) ?_
    refine r_nil ?_
    refine a_cond rfl (fun ht23 => ?_) (fun ht23 => ?_)
    ·
      skip
      refine a_seq ?_
      have huu : uix L x.1 = -1 := (by have h1 := uix_bd L x.1; simp at ht23; omega)
      have hres : propR L a = (x.1, x.2, false) := (by rw [← g2, prop_none g1 hcf huu])
      refine a_region ?_
      refine rv (v := .rsl _ _ _ _ _) (v_load_rp (c := .osl _ _ _ _) ta25 il rfl (fun _ => rfl)) ?_
      refine rv (v := .rsl _ _ _ _ _) (v_move il nf) ?_
      refine rv (v := .rsl _ _ _ _ _) (v_assign il nf) ?_
      refine r_pre (ent_reloc_sl (t := 4) rfl rfl) ?_
      refine rv (v := .rsl _ _ _ _ _) (v_assign il nf) ?_
      refine r_pre (ent_reloc_sl (t := 5) rfl rfl) ?_
      refine rv (v := .bool _) (v_assign il nf) ?_
      refine r_nil ?_
      refine a_ret ?_
      refine retL (rs := [.tmp 4, .tmp 5, .tmp 6]) [(4, .osl _ _ _ none), (5, .osl _ _ _ none), (6, _)] ⟨Weak.osl rfl rfl, Weak.osl rfl rfl, Weak.rfl, trivial⟩ rfl Tryz.results40 (by decide) ⟨by decide, by decide, by decide, rfl⟩ (by decide) (by decide) (l3_eq (osl_eq2 ?_ ?_) (osl_eq2 ?_ ?_) (bool_eq ?_)) (by simp [refsL, refs])
      all_goals (rw [hres])
    ·
      skip
      refine a_skip ?_
      refine a_seq ?_
      have hne : ¬ uix L x.1 = -1 := (by simp at ht23; omega)
      have hu := (uix_bd L x.1).resolve_left hne
      have hcu := hcl _ hu.2.1
      have hsu := clB_sm hcu
      have hlu := clB_len hcu
      have hub := unit_bd (a := x.1) hsu
      have hst := prop_step hcl g1 hne
      have hgo := prop_go (st := x.2) hcl g1 hcf hne
      refine a_region_any mixed (by kernel_rfl) ?_
      refine yv (v := .sl _ _) (v_move il nf) ?_
      refine yv (v := .int _ _) (v_move il nf) ?_
      refine yv (v := .pp _ _) (v_indexAddr_sl es22 il il (fun _ => ⟨by omega, by omega, sls_ne hu.2.1⟩)) ?_
      refine yv (v := .sl (icells (gl L (uix L x.1).toNat)) (gl L (uix L x.1).toNat).length) (v_load_pp ta25 il (fun _ => by rw [Nat.mul_one]; exact sls_get hu.2.1) rfl) ?_
      refine yv (v := .rsl _ _ _ _ _) (v_load_rp (c := .osl _ _ _ _) ta25 il rfl (fun _ => rfl)) ?_
      refine y_new (v := .int _ _) (q_call (vs := [.sl _ _, .rsl _ _ _ _ _]) (args := [.sl _ _, .sl _ _]) hb69 ⟨.inl rfl, .inl rfl, trivial⟩ (l2_eq rfl (sl_sh (ic_pure _))) (fun hA => iUnit_c _ x.1 hsu (by omega) (by omega)) rfl rfl) rfl rfl (by decide) (by kernel_rfl) ?_
      refine yv (v := .int _ _) (v_assign il nf) ?_
      refine y_nil ?_
      refine a_seq ?_
      refine a_region ?_
      refine rv (v := .rsl _ _ _ _ _) (v_load_rp (c := .osl _ _ _ _) ta25 il rfl (fun _ => rfl)) ?_
      refine rv (v := .int _ _) (v_move il nf) ?_
      refine rn (v := .osl _ _ _ _) (q_call (vs := [.rsl _ _ _ _ _, .int _ _]) (args := [.sl _ _, .int .i64 _]) hb70 ⟨il, il, trivial⟩ (l2_eq (sl_sh (ic_pure _)) rfl) (fun hA => set_c vars x.1 _ g1 hst.1) (ic_noSh _) (ic_noRef _)) ?_
      refine r_step rfl (o_store_own (v := .osl _ _ _ _) (y' := .op [.osl _ _ _ _]) rfl rfl ta25 (.inl rfl) (by decide) rfl (by decide) rfl (by simp [cellsOf, noRefL, noRef, ic_noRef]) rfl rfl rfl rfl rfl (Nat.le_of_ble_eq_true rfl) rfl rfl) ?_
      refine r_nil ?_
      refine a_region ?_
      refine rv (v := .rsl _ _ _ _ _) (v_move il nf) ?_
      refine rv (v := .int _ _) (v_move il nf) ?_
      refine rv (v := .int _ _) (v_move il nf) ?_
      refine rv (v := .agg [.int _ _, .int _ _]) (v_buildA arp78 rfl rfl) ?_
      refine rn (v := .osl 2 (tcells [((unitL (gl L (uix L x.1).toNat) x.1), uix L x.1)]) 1 (some 1)) (q_sliceLit (n := 1) (parts := [(0, .tmp 38)]) lt58 rfl rfl rfl rfl) ?_
      refine r_pre (ent_reloc_sl (t := 35) rfl rfl) ?_
      refine r_step rfl (o_append rfl ap58 rfl (by decide) (by decide) rfl (src_lit (.inl rfl) rfl rfl rfl) rfl (by rw [tcells_length]) (by omega)) ?_
      refine rv (v := .rsl _ _ _ _ _) (v_assign il nf) ?_
      refine r_pre (ent_reloc_sl (t := 7) rfl rfl) ?_
      refine r_nil ?_
      refine ⟨(setLit x.1 (unitL (gl L (uix L x.1).toNat) x.1), x.2 ++ [((unitL (gl L (uix L x.1).toNat) x.1), uix L x.1)]), ent_look ⟨Weak.of_eq rfl, Weak.of_eq (by unfold setLit; rfl), Weak.osl tcells_app (by simp), trivial⟩, ⟨hst.2.1, by rw [← g2]; exact hgo, by dsimp only; rw [hst.2.2]; simp; omega⟩, by dsimp only; have := clB_len hst.2.1; rw [hst.2.2] at this ⊢; omega⟩
end Go.Av
namespace Go.Av
open Go Go.Proofs Go.Sort
set_option maxRecDepth 10000
theorem hb62 : hasBody Tryz.prog 62 = true := by kernel_rfl
theorem hb63 : hasBody Tryz.prog 63 = true := by kernel_rfl
theorem hb64 : hasBody Tryz.prog 64 = true := by kernel_rfl
theorem sProp_c (vars : Int) (L : List (List Int)) (a : List Int) (hcl : ∀ i, i < L.length → clB vars (gl L i) = true) (hL : L.length ≤ 1048576) (ha : a.length ≤ 1048576) (hca : clB vars a = true) : ACall Tryz.prog 36 [.agg [.int .i64 vars, .sl (sls L) L.length], .sl (icells a) a.length] [] (.tup [.osl 2 (tcells (propR L a).2.1) (propR L a).2.1.length none, .osl 1 (icells (propR L a).1) (propR L a).1.length none, .bool (propR L a).2.2]) [] := by
 have hla0 := clB_len hca
 refine ACall.intro Tryz.func36 rfl (N := 58) rfl (by decide) (by simp) ?_
 refine a_seq ?_
 refine a_region ?_
 refine rn (v := .op [.int _ _, .sl _ _]) (q_box il rfl rfl) ?_
 refine rv (v := .nils) (v_assign il nf) ?_
 refine rv (v := .nils) (v_assign il nf) ?_
 refine rv (v := .bool _) (v_assign il nf) ?_
 refine r_nil ?_
 refine a_seq ?_
 refine a_region ?_
 refine rn (v := .osl _ _ _ _) (q_sliceLit (n := 0) (parts := []) lt58 rfl rfl rfl rfl) ?_
 refine rv (v := .sl _ _) (v_move il nf) ?_
 refine rn (v := .osl _ _ _ _) (q_call (vs := [.sl _ _]) (args := [.sl _ _]) hb61 ⟨il, trivial⟩ rfl (fun hA => l1Own_c a _ ⟨rfl, by omega⟩) (ic_noSh _) (ic_noRef _)) ?_
 refine rv (v := .rsl _ _ _ _ _) (v_assign il nf) ?_
 refine r_pre (ent_reloc_sl (t := 7) rfl rfl) ?_
 refine rv (v := .rsl _ _ _ _ _) (v_assign il nf) ?_
 refine r_pre (ent_reloc_sl (t := 8) rfl rfl) ?_
 refine r_nil ?_
 refine a_seq ?_
 refine a_block ?_
 refine a_loop (X := (List Int × List (Int × Int))) (fun x => look [(2, .op [.int .i64 vars, .sl (sls L) L.length]), (7, .osl 2 (tcells x.2) x.2.length none), (8, .osl 1 (icells x.1) x.1.length none)]) (fun x => clB vars x.1 = true ∧ prop L (13 - x.1.length) x.1 x.2 = propR L a ∧ x.2.length ≤ x.1.length) (fun x => 13 - x.1.length) (a, []) (ent_look ⟨Weak.of_eq rfl, Weak.osl rfl rfl, Weak.osl rfl rfl, trivial⟩) ⟨hca, rfl, Nat.zero_le _⟩ (fun x hG => ?_)
 obtain ⟨g1, g2, g3⟩ := hG
 have hla := clB_len g1
 refine a_seq ?_
 refine a_seq ?_
 refine a_region ?_
 refine rv (v := .agg [.int _ _, .sl _ _]) (v_load_rpa1 ta30 il rfl rfl (fun _ => rfl) rfl) ?_
 refine rv (v := .rsl _ _ _ _ _) (v_move il nf) ?_
 refine rn (v := .int _ _) (q_call (vs := [.agg [.int _ _, .sl _ _], .rsl _ _ _ _ _]) (args := [.agg [.int .i64 _, .sl _ _], .sl _ _]) hb62 ⟨il, il, trivial⟩ (l2_eq rfl (sl_sh (ic_pure _))) (fun hA => cnfV_c vars L x.1 hcl hL (by omega)) rfl rfl) ?_
 refine rv (v := .bool _) (v_geq il il) ?_
 refine r_nil ?_
 refine a_cond rfl (fun ht18 => ?_) (fun ht18 => ?_)
 ·
  skip
  refine a_skip ?_
  refine a_block ?_
  refine a_seq ?_
  have hcf : conf L x.1 = false := (by have h9 := cnfV_conf (L := L) (a := x.1); rw [h9] at ht18; simpa using ht18)
  refine a_region ?_
  refine rv (v := .int _ _) (v_assign il nf) ?_
  refine r_nil ?_
  refine a_seq ?_
  refine a_seq ?_
  refine a_region ?_
  refine rv (v := .rp _ _) (v_fieldAddr_rp fo30_1 il) ?_
  refine rv (v := .sl _ _) (v_load_rp1 ta22 il rfl (fun _ => rfl) rfl) ?_
  refine rv (v := .int _ _) (v_len_sl sl22 il) ?_
  refine rv (v := .int _ _) (v_sub il il (fun _ => by omega)) ?_
  refine rv (v := .int _ _) (v_assign il nf) ?_
  refine r_nil ?_
  refine a_block ?_
  refine a_loop (X := Nat) (fun k => look [(2, .op [.int .i64 vars, .sl (sls L) L.length]), (7, .osl 2 (tcells x.2) x.2.length none), (8, .osl 1 (icells x.1) x.1.length none), (9, .int .i64 (dwn (fun i => decide (unitL (gl L i) x.1 ≠ 0)) L.length k)), (10, .int .i64 ((L.length : Int) - 1 - (k : Nat)))]) (fun k => k ≤ L.length) (fun k => L.length - k) 0 (ent_look ⟨Weak.of_eq rfl, Weak.of_eq rfl, Weak.of_eq rfl, Weak.of_eq rfl, Weak.of_eq (int_eq (by omega)), trivial⟩) (Nat.zero_le _) (fun k hG => ?_)
  refine a_seq ?_
  refine a_seq ?_
  refine a_region ?_
  refine rv (v := .int _ _) (v_move il nf) ?_
  refine rv (v := .bool _) (v_geq il il) ?_
  refine r_nil ?_
  refine a_cond rfl (fun ht24 => ?_) (fun ht24 => ?_)
  ·
   skip
   refine a_skip ?_
   refine a_seq ?_
   refine a_block ?_
   refine a_seq ?_
   have hk : k < L.length := (by simp at ht24; omega)
   have hck := hcl (L.length - (k + 1)) (by omega)
   have hlk := clB_len hck
   refine a_region ?_
   refine rv (v := .rp _ _) (v_fieldAddr_rp fo30_1 il) ?_
   refine rv (v := .sl _ _) (v_load_rp1 ta22 il rfl (fun _ => rfl) rfl) ?_
   refine rv (v := .int _ _) (v_move il nf) ?_
   refine rv (v := .pp _ _) (v_indexAddr_sl es22 il il (fun _ => ⟨by omega, by omega, sls_ne (L := L) (i := (L.length - (k + 1))) (by omega)⟩)) ?_
   refine rv (v := .sl (icells (gl L (L.length - (k + 1)))) (gl L (L.length - (k + 1))).length) (v_load_pp ta25 il (fun _ => by rw [show ((L.length : Int) - 1 - (k : Nat)).toNat = (L.length - (k + 1)) by omega, Nat.mul_one]; exact sls_get (by omega)) rfl) ?_
   refine rv (v := .rsl _ _ _ _ _) (v_move il nf) ?_
   refine rn (v := .int _ _) (q_call (vs := [.sl _ _, .rsl _ _ _ _ _]) (args := [.sl _ _, .sl _ _]) hb63 ⟨il, il, trivial⟩ (l2_eq rfl (sl_sh (ic_pure _))) (fun hA => sUnit_c (gl L (L.length - (k + 1))) x.1 (clB_sm hck) (by omega) (by omega)) rfl rfl) ?_
   refine rv (v := .bool _) (v_neq il il) ?_
   refine r_nil ?_
   refine a_cond rfl (fun ht34 => ?_) (fun ht34 => ?_)
   ·
    skip
    refine a_region ?_
    refine rv (v := .int _ _) (v_move il nf) ?_
    refine rv (v := .int _ _) (v_assign il nf) ?_
    refine r_nil ?_
    refine a_region ?_
    refine rv (v := .int _ _) (v_move il nf) ?_
    refine rv (v := .int _ _) (v_sub il il (fun _ => by omega)) ?_
    refine rv (v := .int _ _) (v_assign il nf) ?_
    refine r_nil ?_
    refine ⟨k + 1, ent_look ⟨Weak.of_eq rfl, Weak.of_eq rfl, Weak.of_eq rfl, Weak.of_eq (int_eq (by rw [dwn, if_pos (by simpa using ht34)]; omega)), Weak.of_eq (int_eq (by omega)), trivial⟩, by omega, by omega⟩
   ·
    skip
    refine a_skip ?_
    refine a_region ?_
    refine rv (v := .int _ _) (v_move il nf) ?_
    refine rv (v := .int _ _) (v_sub il il (fun _ => by omega)) ?_
    refine rv (v := .int _ _) (v_assign il nf) ?_
    refine r_nil ?_
    refine ⟨k + 1, ent_look ⟨Weak.of_eq rfl, Weak.of_eq rfl, Weak.of_eq rfl, Weak.of_eq (int_eq (by rw [dwn, if_neg (by simpa using ht34)])), Weak.of_eq (int_eq (by omega)), trivial⟩, by omega, by omega⟩
  ·
   skip
   refine a_exit ?_
   refine a_seq ?_
   refine a_seq ?_
   have hkn : k = L.length := (by simp at ht24; omega)
   refine a_pre (ent_eq (t := 9) (v' := .int .i64 (uix L x.1)) (Weak.of_eq (int_eq (by rw [hkn, dwn_all]; rfl)))) ?_
   refine a_region ?_
   refine rv (v := .int _ _) (v_move il nf) ?_
   refine rv (v := .bool _) (v_lss il il) ?_
   refine r_nil ?_
   refine a_cond rfl (fun ht37 => ?_) (fun ht37 => ?_)
   ·
    skip
    refine a_seq ?_
    have huu : uix L x.1 = -1 := (by have h1 := uix_bd L x.1; simp at ht37; omega)
    have hres : propR L a = (x.1, x.2, false) := (by rw [← g2, prop_none g1 hcf huu])
    refine a_region ?_
    refine rv (v := .rsl _ _ _ _ _) (v_move il nf) ?_
    refine rv (v := .rsl _ _ _ _ _) (v_move il nf) ?_
    refine rv (v := .rsl _ _ _ _ _) (v_assign il nf) ?_
    refine r_pre (ent_reloc_sl (t := 4) rfl rfl) ?_
    refine rv (v := .rsl _ _ _ _ _) (v_assign il nf) ?_
    refine r_pre (ent_reloc_sl (t := 5) rfl rfl) ?_
    refine rv (v := .bool _) (v_assign il nf) ?_
    refine r_nil ?_
    refine a_ret ?_
    refine retL (rs := [.tmp 4, .tmp 5, .tmp 6]) [(4, .osl _ _ _ none), (5, .osl _ _ _ none), (6, _)] ⟨Weak.osl rfl rfl, Weak.osl rfl rfl, Weak.rfl, trivial⟩ rfl Tryz.results36 (by decide) ⟨by decide, by decide, by decide, rfl⟩ (by decide) (by decide) (l3_eq (osl_eq2 ?_ ?_) (osl_eq2 ?_ ?_) (bool_eq ?_)) (by simp [refsL, refs])
    all_goals (rw [hres])
   ·
    skip
    refine a_skip ?_
    refine a_seq ?_
    have hne : ¬ uix L x.1 = -1 := (by simp at ht37; omega)
    have hu := (uix_bd L x.1).resolve_left hne
    have hcu := hcl _ hu.2.1
    have hsu := clB_sm hcu
    have hlu := clB_len hcu
    have hub := unit_bd (a := x.1) hsu
    have hst := prop_step hcl g1 hne
    have hgo := prop_go (st := x.2) hcl g1 hcf hne
    refine a_region ?_
    refine rv (v := .rp _ _) (v_fieldAddr_rp fo30_1 il) ?_
    refine rv (v := .sl _ _) (v_load_rp1 ta22 il rfl (fun _ => rfl) rfl) ?_
    refine rv (v := .int _ _) (v_move il nf) ?_
    refine rv (v := .pp _ _) (v_indexAddr_sl es22 il il (fun _ => ⟨by omega, by omega, sls_ne hu.2.1⟩)) ?_
    refine rv (v := .sl (icells (gl L (uix L x.1).toNat)) (gl L (uix L x.1).toNat).length) (v_load_pp ta25 il (fun _ => by rw [Nat.mul_one]; exact sls_get hu.2.1) rfl) ?_
    refine rv (v := .rsl _ _ _ _ _) (v_move il nf) ?_
    refine rn (v := .int _ _) (q_call (vs := [.sl _ _, .rsl _ _ _ _ _]) (args := [.sl _ _, .sl _ _]) hb63 ⟨il, il, trivial⟩ (l2_eq rfl (sl_sh (ic_pure _))) (fun hA => sUnit_c _ x.1 hsu (by omega) (by omega)) rfl rfl) ?_
    refine rv (v := .int _ _) (v_assign il nf) ?_
    refine r_nil ?_
    refine a_seq ?_
    refine a_region ?_
    refine rv (v := .rsl _ _ _ _ _) (v_move il nf) ?_
    refine rv (v := .int _ _) (v_move il nf) ?_
    refine rv (v := .int _ _) (v_move il nf) ?_
    refine rv (v := .agg [.int _ _, .int _ _]) (v_buildA arp78 rfl rfl) ?_
    refine rn (v := .osl 2 (tcells [((unitL (gl L (uix L x.1).toNat) x.1), uix L x.1)]) 1 (some 1)) (q_sliceLit (n := 1) (parts := [(0, .tmp 50)]) lt58 rfl rfl rfl rfl) ?_
    refine r_pre (ent_reloc_sl (t := 47) rfl rfl) ?_
    refine r_step rfl (o_append rfl ap58 rfl (by decide) (by decide) rfl (src_lit (.inl rfl) rfl rfl rfl) rfl (by rw [tcells_length]) (by omega)) ?_
    refine rv (v := .rsl _ _ _ _ _) (v_assign il nf) ?_
    refine r_pre (ent_reloc_sl (t := 7) rfl rfl) ?_
    refine r_nil ?_
    refine a_region ?_
    refine rv (v := .rsl _ _ _ _ _) (v_move il nf) ?_
    refine rv (v := .int _ _) (v_move il nf) ?_
    refine rn (v := .osl _ _ _ _) (q_call (vs := [.rsl _ _ _ _ _, .int _ _]) (args := [.sl _ _, .int .i64 _]) hb64 ⟨il, il, trivial⟩ (l2_eq (sl_sh (ic_pure _)) rfl) (fun hA => l3Set_c x.1 _ (by omega) (clB_sm g1) hub) (ic_noSh _) (ic_noRef _)) ?_
    refine rv (v := .rsl _ _ _ _ _) (v_assign il nf) ?_
    refine r_pre (ent_reloc_sl (t := 8) rfl rfl) ?_
    refine r_nil ?_
    refine ⟨(setLit x.1 (unitL (gl L (uix L x.1).toNat) x.1), x.2 ++ [((unitL (gl L (uix L x.1).toNat) x.1), uix L x.1)]), ent_look ⟨Weak.of_eq rfl, Weak.osl tcells_app (by simp), Weak.of_eq (by unfold setLit; rfl), trivial⟩, ⟨hst.2.1, by rw [← g2]; exact hgo, by dsimp only; rw [hst.2.2]; simp; omega⟩, by dsimp only; have := clB_len hst.2.1; rw [hst.2.2] at this ⊢; omega⟩
 ·
  skip
  refine a_exit ?_
  refine a_seq ?_
  have hcf : conf L x.1 = true := (by have h9 := cnfV_conf (L := L) (a := x.1); rw [h9] at ht18; simpa using ht18)
  have hres : propR L a = (x.1, x.2, true) := (by rw [← g2, prop_conf g1 hcf])
  refine a_region ?_
  refine rv (v := .rsl _ _ _ _ _) (v_move il nf) ?_
  refine rv (v := .rsl _ _ _ _ _) (v_move il nf) ?_
  refine rv (v := .rsl _ _ _ _ _) (v_assign il nf) ?_
  refine r_pre (ent_reloc_sl (t := 4) rfl rfl) ?_
  refine rv (v := .rsl _ _ _ _ _) (v_assign il nf) ?_
  refine r_pre (ent_reloc_sl (t := 5) rfl rfl) ?_
  refine rv (v := .bool _) (v_assign il nf) ?_
  refine r_nil ?_
  refine a_ret ?_
  refine retL (rs := [.tmp 4, .tmp 5, .tmp 6]) [(4, .osl _ _ _ none), (5, .osl _ _ _ none), (6, _)] ⟨Weak.osl rfl rfl, Weak.osl rfl rfl, Weak.rfl, trivial⟩ rfl Tryz.results36 (by decide) ⟨by decide, by decide, by decide, rfl⟩ (by decide) (by decide) (l3_eq (osl_eq2 ?_ ?_) (osl_eq2 ?_ ?_) (bool_eq ?_)) (by simp [refsL, refs])
  all_goals (rw [hres])
end Go.Av
namespace Go.Av
open Go Go.Proofs Go.Sort
set_option maxRecDepth 10000
theorem negated_c (c : List Int) (hs : SmI c) (hc : c.length ≤ 1048576) : ACall Tryz.prog 43 [.sl (icells c) c.length] [] (.osl 1 (icells (ngL c)) (ngL c).length none) [] := by
 refine ACall.intro Tryz.func43 rfl (N := 19) rfl (by decide) (by simp) ?_
 refine a_seq ?_
 refine a_region ?_
 refine rv (v := .nils) (v_assign il nf) ?_
 refine r_nil ?_
 refine a_seq ?_
 refine a_region ?_
 refine rv (v := .nils) (v_assign il nf) ?_
 refine r_nil ?_
 refine a_seq ?_
 refine a_seq ?_
 refine a_region ?_
 refine rv (v := .sl _ _) (v_move il nf) ?_
 refine rv (v := .int _ _) (v_len_sl sl25 il) ?_
 refine rv (v := .int _ _) (v_move il nf) ?_
 refine r_nil ?_
 refine a_block ?_
 refine a_pre (ent_nil (t := 3) (sz := 1) (cap := none) (.inl rfl) (fun _ h => by cases h)) ?_
 refine a_loop (X := Nat) (fun i => look [(3, .osl 1 (icells (ngP c i)) (ngP c i).length none), (6, .sl (icells c) c.length), (7, .int .i64 ((c.length : Nat) : Int)), (8, .int .i64 ((i : Nat) : Int))]) (fun i => i ≤ c.length) (fun i => c.length - i) 0 (ent_look ⟨Weak.osl rfl rfl, Weak.of_eq rfl, Weak.of_eq rfl, Weak.of_eq rfl, trivial⟩) (Nat.zero_le _) (fun i hG => ?_)
 have hsi := hs i
 refine a_seq ?_
 refine a_region ?_
 refine rv (v := .bool _) (v_lss il il) ?_
 refine r_nil ?_
 refine a_seq ?_
 refine a_cond rfl (fun ht9 => ?_) (fun ht9 => ?_)
 ·
  skip
  refine a_skip ?_
  refine a_seq ?_
  refine a_block ?_
  refine a_seq ?_
  have hi : i < c.length := (by simp at ht9; omega)
  have hnl := ngP_len (c := c) (i := i) (by omega)
  refine a_region ?_
  refine rv (v := .pp _ _) (v_indexAddr_sl es25 il il (fun _ => ⟨by omega, by omega, icells_ne hi⟩)) ?_
  refine rv (v := .int .i64 (gd c i)) (v_load_pp ta3 il (fun _ => by rw [Nat.mul_one]; exact icells_get (gd_get hi)) rfl) ?_
  refine rv (v := .int _ _) (v_assign il nf) ?_
  refine r_nil ?_
  refine a_region ?_
  refine rv (v := .rsl _ _ _ _ _) (v_move il nf) ?_
  refine rv (v := .int _ _) (v_move il nf) ?_
  refine rv (v := .int _ _) (v_neg il (fun _ => by omega)) ?_
  refine rn (v := .osl 1 (icells [-(gd c i)]) 1 (some 1)) (q_sliceLit (n := 1) (parts := [(0, .tmp 14)]) lt25 rfl rfl rfl rfl) ?_
  refine r_pre (ent_reloc_sl (t := 12) rfl rfl) ?_
  refine r_step rfl (o_append rfl ap25 rfl (by decide) (by decide) rfl (src_lit (.inl rfl) rfl rfl (ic_pureL _)) (ic_cell _) (by rw [icells_length]; omega) (by omega)) ?_
  refine rv (v := .rsl _ _ _ _ _) (v_assign il nf) ?_
  refine r_pre (ent_reloc_sl (t := 3) rfl rfl) ?_
  refine r_nil ?_
  refine a_region ?_
  refine rv (v := .int _ _) (v_add il il (fun _ => by omega)) ?_
  refine rv (v := .int _ _) (v_move il nf) ?_
  refine r_nil ?_
  refine ⟨i + 1, ent_look ⟨Weak.osl (by rw [ngP_succ hi, icells_append] <;> rfl) (by rw [ngP_succ hi]; simp), Weak.of_eq rfl, Weak.of_eq rfl, Weak.of_eq (int_eq (by omega)), trivial⟩, by omega, by omega⟩
 ·
  skip
  refine a_exit ?_
  refine a_seq ?_
  refine a_region ?_
  refine rv (v := .rsl _ _ _ _ _) (v_move il nf) ?_
  refine rv (v := .rsl _ _ _ _ _) (v_assign il nf) ?_
  refine r_pre (ent_reloc_sl (t := 2) rfl rfl) ?_
  refine r_nil ?_
  refine a_ret ?_
  refine ret1 Tryz.results43 (by decide) (by decide) (Weak.osl ?_ ?_) rfl Leaves.nil
  all_goals (rw [ngP_full (by simp at ht9; omega)])
theorem deny_c (c : List Int) (hs : SmI c) (hc : c.length ≤ 1048576) : ACall Tryz.prog 39 [.sl (icells c) c.length] [] (.osl 1 (icells (ngL c)) (ngL c).length none) [] := by
 refine ACall.intro Tryz.func39 rfl (N := 21) rfl (by decide) (by simp) ?_
 refine a_seq ?_
 refine a_region ?_
 refine rv (v := .nils) (v_assign il nf) ?_
 refine r_nil ?_
 refine a_seq ?_
 refine a_region ?_
 refine rn (v := .osl _ _ _ _) (q_sliceLit (n := 0) (parts := []) lt25 rfl rfl rfl rfl) ?_
 refine rv (v := .rsl _ _ _ _ _) (v_assign il nf) ?_
 refine r_pre (ent_reloc_sl (t := 3) rfl rfl) ?_
 refine r_nil ?_
 refine a_seq ?_
 refine a_seq ?_
 refine a_region ?_
 refine rv (v := .int _ _) (v_assign il nf) ?_
 refine r_nil ?_
 refine a_block ?_
 refine a_loop (X := Nat) (fun i => look [(0, .sl (icells c) c.length), (3, .osl 1 (icells (ngP c i)) (ngP c i).length none), (4, .int .i64 ((i : Nat) : Int))]) (fun i => i ≤ c.length) (fun i => c.length - i) 0 (ent_look ⟨Weak.of_eq rfl, Weak.osl rfl rfl, Weak.of_eq rfl, trivial⟩) (Nat.zero_le _) (fun i hG => ?_)
 have hsi := hs i
 refine a_seq ?_
 refine a_seq ?_
 refine a_region ?_
 refine rv (v := .int _ _) (v_move il nf) ?_
 refine rv (v := .sl _ _) (v_move il nf) ?_
 refine rv (v := .int _ _) (v_len_sl sl25 il) ?_
 refine rv (v := .bool _) (v_lss il il) ?_
 refine r_nil ?_
 refine a_cond rfl (fun ht9 => ?_) (fun ht9 => ?_)
 ·
  skip
  refine a_skip ?_
  refine a_seq ?_
  refine a_block ?_
  have hi : i < c.length := (by simp at ht9; omega)
  have hnl := ngP_len (c := c) (i := i) (by omega)
  refine a_region ?_
  refine rv (v := .rsl _ _ _ _ _) (v_move il nf) ?_
  refine rv (v := .sl _ _) (v_move il nf) ?_
  refine rv (v := .int _ _) (v_move il nf) ?_
  refine rv (v := .pp _ _) (v_indexAddr_sl es25 il il (fun _ => ⟨by omega, by omega, icells_ne hi⟩)) ?_
  refine rv (v := .int .i64 (gd c i)) (v_load_pp ta3 il (fun _ => by rw [Nat.mul_one]; exact icells_get (gd_get hi)) rfl) ?_
  refine rv (v := .int _ _) (v_neg il (fun _ => by omega)) ?_
  refine rn (v := .osl 1 (icells [-(gd c i)]) 1 (some 1)) (q_sliceLit (n := 1) (parts := [(0, .tmp 17)]) lt25 rfl rfl rfl rfl) ?_
  refine r_pre (ent_reloc_sl (t := 12) rfl rfl) ?_
  refine r_step rfl (o_append rfl ap25 rfl (by decide) (by decide) rfl (src_lit (.inl rfl) rfl rfl (ic_pureL _)) (ic_cell _) (by rw [icells_length]; omega) (by omega)) ?_
  refine rv (v := .rsl _ _ _ _ _) (v_assign il nf) ?_
  refine r_pre (ent_reloc_sl (t := 3) rfl rfl) ?_
  refine r_nil ?_
  refine a_region ?_
  refine rv (v := .int _ _) (v_move il nf) ?_
  refine rv (v := .int _ _) (v_add il il (fun _ => by omega)) ?_
  refine rv (v := .int _ _) (v_assign il nf) ?_
  refine r_nil ?_
  refine ⟨i + 1, ent_look ⟨Weak.of_eq rfl, Weak.osl (by rw [ngP_succ hi, icells_append] <;> rfl) (by rw [ngP_succ hi]; simp), Weak.of_eq (int_eq (by omega)), trivial⟩, by omega, by omega⟩
 ·
  skip
  refine a_exit ?_
  refine a_seq ?_
  refine a_region ?_
  refine rv (v := .rsl _ _ _ _ _) (v_move il nf) ?_
  refine rv (v := .rsl _ _ _ _ _) (v_assign il nf) ?_
  refine r_pre (ent_reloc_sl (t := 2) rfl rfl) ?_
  refine r_nil ?_
  refine a_ret ?_
  refine ret1 Tryz.results39 (by decide) (by decide) (Weak.osl ?_ ?_) rfl Leaves.nil
  all_goals (rw [ngP_full (by simp at ht9; omega)])
end Go.Av
namespace Go.Av
open Go Go.Proofs Go.Sort
set_option maxRecDepth 10000
end Go.Av
namespace Go.Av
open Go Go.Proofs Go.Sort
set_option maxRecDepth 10000
end Go.Av
namespace Go.Av
open Go Go.Proofs Go.Sort
set_option maxRecDepth 10000
end Go.Av
namespace Go.Av
open Go Go.Proofs Go.Sort
set_option maxRecDepth 10000
theorem ap22 : appTy Tryz.prog 22 = some (1, 24) := by kernel_rfl
theorem es95 : elemSize Tryz.prog 95 = some 1 := by kernel_rfl
theorem hb71 : hasBody Tryz.prog 71 = true := by kernel_rfl
theorem hb93 : hasBody Tryz.prog 93 = true := by kernel_rfl
theorem lt22 : litTy Tryz.prog 22 = some (1, [.nils]) := by kernel_rfl
theorem lt95 : litTy Tryz.prog 95 = some (1, [.nils]) := by kernel_rfl
theorem sl95 : isSlice Tryz.prog 95 = true := by kernel_rfl
theorem sp30 : structPl Tryz.prog 30 = some ([.int .i64 0, .nils], [(0, 1), (1, 1)]) := by kernel_rfl
theorem growL_c (m : Nat) (h : m ≤ 8388608) : ACall Tryz.prog 93 [.nils, .int .i64 ((m : Nat) : Int)] [] (.osl 1 [] 0 none) [] := by
  refine ACall.intro Tryz.func93 rfl (N := 27) rfl (by decide) (by simp) ?_
  refine a_seq ?_
  refine a_region ?_
  refine rv (v := .nils) (v_assign il nf) ?_
  refine r_nil ?_
  refine a_seq ?_
  refine a_seq ?_
  refine a_region ?_
  refine rv (v := .int _ _) (v_move il nf) ?_
  refine rv (v := .bool _) (v_lss il il) ?_
  refine r_nil ?_
  refine a_cond rfl (fun ht6 => ?_) (fun ht6 => ?_)
  ·
    skip
    exfalso
    simp at ht6; omega
  ·
    skip
    refine a_skip ?_
    refine a_seq ?_
    refine a_seq ?_
    refine a_region ?_
    refine rv (v := .int _ _) (v_move il nf) ?_
    refine rv (v := .nils) (v_move il nf) ?_
    refine rv (v := .int _ _) (v_cap_nils sl22 il) ?_
    refine rv (v := .nils) (v_move il nf) ?_
    refine rv (v := .int _ _) (v_len_nils sl22 il) ?_
    refine rv (v := .int _ _) (v_sub il il (fun _ => by omega)) ?_
    refine rv (v := .int .i64 ((m : Nat) : Int)) ((v_sub il il (fun _ => by omega)).cast (int_eq (by omega))) ?_
    refine rv (v := .int _ _) (v_assign il nf) ?_
    refine r_nil ?_
    refine a_seq ?_
    refine a_region ?_
    refine rv (v := .int _ _) (v_move il nf) ?_
    refine rv (v := .bool _) (v_gtr il il) ?_
    refine r_nil ?_
    refine a_cond rfl (fun ht16 => ?_) (fun ht16 => ?_)
    ·
      skip
      refine a_region ?_
      refine rv (v := .nils) (v_move il nf) ?_
      refine rv (v := .nils) (v_move il nf) ?_
      refine rv (v := .int _ _) (v_cap_nils sl22 il) ?_
      refine rv (v := .nils) (v_slice_nils (h := 0) es22 il (.inr ⟨_, _, rfl, il⟩) (fun _ => rfl)) ?_
      refine rv (v := .int _ _) (v_move il nf) ?_
      refine rn (v := .osl _ _ _ _) (q_append_make ap22 uni3 (.inl il) il (fun _ => by simp at ht16; omega)) ?_
      refine rv (v := .nils) (v_move il nf) ?_
      refine rv (v := .int _ _) (v_len_nils sl22 il) ?_
      refine rv (v := .rsl (22, []) 1 0 0 none) ((v_slice_rsl (l := 0) (h := 0) es22 il (.inl ⟨rfl, rfl⟩) (.inr ⟨_, _, rfl, il⟩) (fun _ => by omega)).cast (rfl)) ?_
      refine rv (v := .rsl _ _ _ _ _) (v_assign il nf) ?_
      refine r_pre (ent_reloc_sl (t := 0) rfl rfl) ?_
      refine r_nil ?_
      refine a_seq ?_
      refine a_region ?_
      refine rv (v := .rsl _ _ _ _ _) (v_move il nf) ?_
      refine rv (v := .rsl _ _ _ _ _) (v_assign il nf) ?_
      refine r_pre (ent_reloc_sl (t := 4) rfl rfl) ?_
      refine r_nil ?_
      refine a_ret ?_
      refine ret1 Tryz.results93 (by decide) (by decide) (Weak.osl ?_ ?_) rfl Leaves.nil
      · rfl
      · rfl
    ·
      skip
      refine a_skip ?_
      refine a_seq ?_
      refine a_region ?_
      refine rv (v := .nils) (v_move il nf) ?_
      refine rv (v := .nils) (v_assign il nf) ?_
      refine r_nil ?_
      refine a_pre (ent_nil (t := 4) (sz := 1) (cap := none) (.inl rfl) (fun _ h => by cases h)) ?_
      refine a_ret ?_
      refine ret1 Tryz.results93 (by decide) (by decide) (Weak.osl ?_ ?_) rfl Leaves.nil
      · rfl
      · rfl
theorem concat2_c (A B : List (List Int)) (h : A.length + B.length ≤ 1048576) : ACall Tryz.prog 71 [.sl [.sl (sls A) A.length, .sl (sls B) B.length] 2] [] (.osl 1 (sls (A ++ B)) (A ++ B).length none) [] := by
  refine ACall.intro Tryz.func71 rfl (N := 36) rfl (by decide) (by simp) ?_
  refine a_seq ?_
  refine a_region ?_
  refine rv (v := .nils) (v_assign il nf) ?_
  refine r_nil ?_
  refine a_seq ?_
  refine a_region ?_
  refine rv (v := .int _ _) (v_assign il nf) ?_
  refine r_nil ?_
  refine a_seq ?_
  refine a_seq ?_
  refine a_region ?_
  refine rv (v := .sl _ _) (v_move il nf) ?_
  refine rv (v := .int _ _) (v_len_sl sl95 il) ?_
  refine rv (v := .int _ _) (v_move il nf) ?_
  refine r_nil ?_
  refine a_block ?_
  refine a_loop (X := Nat) (fun i => look [(0, .sl [.sl (sls A) A.length, .sl (sls B) B.length] 2), (3, .int .i64 (((P2 A B i).length : Nat) : Int)), (9, .sl [.sl (sls A) A.length, .sl (sls B) B.length] 2), (10, .int .i64 ((2 : Nat) : Int)), (11, .int .i64 ((i : Nat) : Int))]) (fun i => i ≤ 2) (fun i => 2 - i) 0 (ent_look ⟨Weak.of_eq rfl, Weak.of_eq rfl, Weak.of_eq rfl, Weak.of_eq rfl, Weak.of_eq rfl, trivial⟩) (Nat.zero_le _) (fun i hG => ?_)
  have hpl := P2_len A B i
  have hsl := sel2_len A B i
  refine a_seq ?_
  refine a_region ?_
  refine rv (v := .bool _) (v_lss il il) ?_
  refine r_nil ?_
  refine a_seq ?_
  refine a_cond rfl (fun ht12 => ?_) (fun ht12 => ?_)
  ·
    skip
    refine a_skip ?_
    refine a_seq ?_
    refine a_block ?_
    refine a_seq ?_
    have hi : i < 2 := (by simp at ht12; omega)
    refine a_region ?_
    refine rv (v := .pp _ _) (v_indexAddr_sl es95 il il (fun _ => ⟨by omega, by omega, by simp⟩)) ?_
    refine rv (v := .sl (sls (sel2 A B i)) (sel2 A B i).length) (v_load_pp ta22 il (fun _ => by rcases (by omega : i = 0 ∨ i = 1) with rfl | rfl <;> rfl) rfl) ?_
    refine rv (v := .sl _ _) (v_assign il nf) ?_
    refine r_nil ?_
    refine a_seq ?_
    refine a_region ?_
    refine rv (v := .int _ _) (v_move il nf) ?_
    refine rv (v := .sl _ _) (v_move il nf) ?_
    refine rv (v := .int _ _) (v_len_sl sl22 il) ?_
    refine rv (v := .int .i64 (((P2 A B (i + 1)).length : Nat) : Int)) ((v_add il il (fun _ => by omega)).cast (int_eq (by rw [P2_succ hi, List.length_append]; omega))) ?_
    refine rv (v := .int _ _) (v_assign il nf) ?_
    refine r_nil ?_
    refine a_seq ?_
    refine a_region ?_
    refine rv (v := .int _ _) (v_move il nf) ?_
    refine rv (v := .bool _) (v_lss il il) ?_
    refine r_nil ?_
    refine a_cond rfl (fun ht20 => ?_) (fun ht20 => ?_)
    ·
      skip
      exfalso
      first | (simp at ht20; done) | (simp at ht20; omega)
    ·
      skip
      refine a_skip ?_
      refine a_region ?_
      refine rv (v := .int _ _) (v_add il il (fun _ => by omega)) ?_
      refine rv (v := .int _ _) (v_move il nf) ?_
      refine r_nil ?_
      refine ⟨i + 1, ent_look ⟨Weak.of_eq rfl, Weak.of_eq rfl, Weak.of_eq rfl, Weak.of_eq rfl, Weak.of_eq (int_eq (by omega)), trivial⟩, by omega, by omega⟩
  ·
    skip
    refine a_exit ?_
    refine a_seq ?_
    have hie : i = 2 := (by simp at ht12; omega)
    refine a_region ?_
    refine rv (v := .int _ _) (v_move il nf) ?_
    refine rn (v := .osl _ _ _ _) (q_callP (vs := [.nils, .int .i64 (((P2 A B i).length : Nat) : Int)]) hb93 ⟨il, il, trivial⟩ rfl (fun hA => growL_c (P2 A B i).length (by omega)) rfl rfl) ?_
    refine rv (v := .rsl _ _ _ _ _) (v_assign il nf) ?_
    refine r_pre (ent_reloc_sl (t := 6) rfl rfl) ?_
    refine r_nil ?_
    refine a_seq ?_
    refine a_seq ?_
    refine a_region ?_
    refine rv (v := .sl _ _) (v_move il nf) ?_
    refine rv (v := .int _ _) (v_len_sl sl95 il) ?_
    refine rv (v := .int _ _) (v_move il nf) ?_
    refine r_nil ?_
    refine a_block ?_
    refine a_loop (X := Nat) (fun i => look [(6, .osl 1 (sls (P2 A B i)) (P2 A B i).length none), (25, .sl [.sl (sls A) A.length, .sl (sls B) B.length] 2), (26, .int .i64 ((2 : Nat) : Int)), (27, .int .i64 ((i : Nat) : Int))]) (fun i => i ≤ 2) (fun i => 2 - i) 0 (ent_look ⟨Weak.osl rfl rfl, Weak.of_eq rfl, Weak.of_eq rfl, Weak.of_eq rfl, trivial⟩) (Nat.zero_le _) (fun i hG => ?_)
    have hpl := P2_len A B i
    have hsl := sel2_len A B i
    refine a_seq ?_
    refine a_region ?_
    refine rv (v := .bool _) (v_lss il il) ?_
    refine r_nil ?_
    refine a_seq ?_
    refine a_cond rfl (fun ht28 => ?_) (fun ht28 => ?_)
    ·
      skip
      refine a_skip ?_
      refine a_seq ?_
      refine a_block ?_
      refine a_seq ?_
      have hi : i < 2 := (by simp at ht28; omega)
      refine a_region ?_
      refine rv (v := .pp _ _) (v_indexAddr_sl es95 il il (fun _ => ⟨by omega, by omega, by simp⟩)) ?_
      refine rv (v := .sl (sls (sel2 A B i)) (sel2 A B i).length) (v_load_pp ta22 il (fun _ => by rcases (by omega : i = 0 ∨ i = 1) with rfl | rfl <;> rfl) rfl) ?_
      refine rv (v := .sl _ _) (v_assign il nf) ?_
      refine r_nil ?_
      refine a_region ?_
      refine rv (v := .rsl _ _ _ _ _) (v_move il nf) ?_
      refine rv (v := .sl _ _) (v_move il nf) ?_
      refine r_pre (ent_reloc_sl (t := 31) rfl rfl) ?_
      refine r_step rfl (o_append rfl ap22 rfl (by decide) (by decide) rfl (src_sl (.inl rfl) (fun _ => by rw [sls_length]; omega) (sls_pureL _)) (sls_cell _) (by rw [sls_length]; omega) (by omega)) ?_
      refine rv (v := .rsl _ _ _ _ _) (v_assign il nf) ?_
      refine r_pre (ent_reloc_sl (t := 6) rfl rfl) ?_
      refine r_nil ?_
      refine a_region ?_
      refine rv (v := .int _ _) (v_add il il (fun _ => by omega)) ?_
      refine rv (v := .int _ _) (v_move il nf) ?_
      refine r_nil ?_
      refine ⟨i + 1, ent_look ⟨Weak.osl (by rw [P2_succ hi, sls_append]) (by rw [P2_succ hi]; simp), Weak.of_eq rfl, Weak.of_eq rfl, Weak.of_eq (int_eq (by omega)), trivial⟩, by omega, by omega⟩
    ·
      skip
      refine a_exit ?_
      refine a_seq ?_
      refine a_region ?_
      refine rv (v := .rsl _ _ _ _ _) (v_move il nf) ?_
      refine rv (v := .rsl _ _ _ _ _) (v_assign il nf) ?_
      refine r_pre (ent_reloc_sl (t := 2) rfl rfl) ?_
      refine r_nil ?_
      refine a_ret ?_
      refine ret1 Tryz.results71 (by decide) (by decide) (Weak.osl ?_ ?_) rfl Leaves.nil
      · simp at ht28; rw [show i = 2 by omega]; rfl
      · simp at ht28; rw [show i = 2 by omega]; rfl
theorem before_c (vars : Int) (L M : List (List Int)) (k : Nat) (hk : k ≤ M.length) (h : L.length + M.length ≤ 1048576) : ACall Tryz.prog 41 [.agg [.int .i64 vars, .sl (sls L) L.length], .sl (sls M) M.length, .int .i64 ((k : Nat) : Int)] [] (.osl 1 (sls (L ++ M.take k)) (L ++ M.take k).length none) [] := by
  have htl : (M.take k).length = k := (by rw [List.length_take]; omega)
  refine ACall.intro Tryz.func41 rfl (N := 14) rfl (by decide) (by simp) ?_
  refine a_seq ?_
  refine a_region ?_
  refine rn (v := .op [.int _ _, .sl _ _]) (q_box il rfl rfl) ?_
  refine rv (v := .nils) (v_assign il nf) ?_
  refine r_nil ?_
  refine a_seq ?_
  refine a_region_any mixed (by kernel_rfl) ?_
  refine yv (v := .rp _ _) (v_fieldAddr_rp fo30_1 il) ?_
  refine yv (v := .sl _ _) (v_load_rp1 ta22 il rfl (fun _ => rfl) rfl) ?_
  refine yv (v := .sl _ _) (v_move il nf) ?_
  refine yv (v := .int _ _) (v_move il nf) ?_
  refine yv (v := .sl (sls (M.take k)) (M.take k).length) ((v_slice_sl (l := 0) (h := k) es22 il (.inl ⟨rfl, rfl⟩) (.inr ⟨_, _, rfl, il⟩) (fun _ => by omega)).cast (sl_eq2 (by simp [sls]) (by omega))) ?_
  refine y_new (v := .sl [.sl (sls L) L.length, .sl (sls (M.take k)) (M.take k).length] 2) ((q_sliceLitZ (cs := [.sl (sls L) L.length, .sl (sls (M.take k)) (M.take k).length]) (n := 2) (parts := [(0, .tmp 8), (1, .tmp 11)]) lt95 rfl rfl rfl rfl).cast (by first | rfl | rw [shL_id _ (ic_pure _).1 (ic_pure _).2])) rfl rfl (by decide) (by kernel_rfl) ?_
  refine y_new (v := .osl _ _ _ _) (q_callF (vs := [.sl _ _]) (args := [.sl _ _]) hb71 ⟨.inl rfl, trivial⟩ rfl (fun hA => concat2_c L (M.take k) (by omega)) rfl (sls_noRef _)) rfl rfl (by decide) (by kernel_rfl) ?_
  refine yv (v := .rsl _ _ _ _ _) (v_assign il nf) ?_
  refine y_nil ?_
  refine a_pre (ent_reloc_sl (t := 6) rfl rfl) ?_
  refine a_ret ?_
  refine ret1 Tryz.results41 (by decide) (by decide) (Weak.osl ?_ ?_) rfl Leaves.nil
  all_goals rfl
theorem with_c (vars : Int) (L M : List (List Int)) (nm : Nat) (hn : M.length = nm) (h : L.length + nm ≤ 1048576) : ACall Tryz.prog 37 [.agg [.int .i64 vars, .sl (sls L) L.length], .sl (sls M) nm] [] (.agg [.int .i64 vars, .osl 1 (sls (L ++ M)) (L ++ M).length none]) [] := by
  refine ACall.intro Tryz.func37 rfl (N := 14) rfl (by decide) (by simp) ?_
  refine a_seq ?_
  refine a_region ?_
  refine rn (v := .op [.int _ _, .sl _ _]) (q_box il rfl rfl) ?_
  refine rn (v := .op [.int _ _, .nils]) (q_alloc zc30) ?_
  refine r_nil ?_
  refine a_seq ?_
  refine a_region_z (n := 8) [[(5, true)], [(6, true)], [(7, true)], [(8, true)], [(9, true)], [(7, false), (10, true)], [(11, true)], [(10, false), (12, true)]] mixed (by kernel_rfl) ?_
  refine z_val (v := .rp _ _) (v_fieldAddr_rp fo30_0 il) rfl rfl (by decide) rfl (by kernel_rfl) ?_
  refine z_val (v := .int _ _) (v_load_rp1 ta3 il rfl (fun _ => rfl) rfl) rfl rfl (by decide) rfl (by kernel_rfl) ?_
  refine z_new (v := .osl _ _ _ _) (q_sliceLit (n := 0) (parts := []) lt22 rfl rfl rfl rfl) rfl rfl (by decide) rfl (by kernel_rfl) ?_
  refine z_val (v := .rp _ _) (v_fieldAddr_rp fo30_1 il) rfl rfl (by decide) rfl (by kernel_rfl) ?_
  refine z_val (v := .sl _ _) (v_load_rp1 ta22 il rfl (fun _ => rfl) rfl) rfl rfl (by decide) rfl (by kernel_rfl) ?_
  refine z_append rfl rfl ap22 rfl (by decide) (by decide) (by decide) rfl (src_sl (.inl rfl) (fun _ => by rw [sls_length]; omega) (sls_pureL _)) (sls_cell _) rfl (by omega) rfl (by kernel_rfl) ?_
  refine z_val (v := .sl _ _) (v_move il nf) rfl rfl (by decide) rfl (by kernel_rfl) ?_
  refine z_append rfl rfl ap22 rfl (by decide) (by decide) (by decide) rfl (src_sl (.inl rfl) (fun _ => by rw [sls_length]; omega) (sls_pureL _)) (sls_cell _) (by simp [sls_length, rep]) (by omega) rfl (by kernel_rfl) ?_
  refine z_nil ?_
  refine r_pre (ent_eq (t := 12) (v' := .osl 1 (sls (L ++ M)) (L ++ M).length none) (Weak.osl (by rw [sls_append]; rfl) (by simp; omega))) ?_
  refine rv (v := .agg [.int _ _, .rsl _ _ _ _ _]) (v_build sp30 rfl rfl) ?_
  refine r_pre (ent_reloc_at_sl (t := 13) (r := [1]) rfl (by decide) rfl rfl) ?_
  refine r_step rfl (o_store_own (v := .agg [.int _ _, .osl _ _ _ _]) (y' := .op [.int _ _, .osl _ _ _ _]) rfl rfl ta30 (.inl rfl) (by decide) rfl (by decide) rfl (by simp [cellsOf, noRefL, noRef, sls_noRef]) rfl rfl rfl rfl rfl (Nat.le_of_ble_eq_true rfl) rfl rfl) ?_
  refine r_nil ?_
  refine a_ret ?_
  refine retC1 (r := .cell 4 30) Tryz.results37 ⟨by decide, _, cell_agg rfl ta30, rfl⟩ (by decide) (Weak.of_eq (agg_eq (l2_eq (int_eq ?_) (osl_eq2 ?_ ?_)))) rfl Leaves.nil
  all_goals rfl
end Go.Av
namespace Go.Av
open Go Go.Proofs Go.Sort
set_option maxRecDepth 10000
end Go.Av
namespace Go.Av
open Go Go.Proofs Go.Sort
set_option maxRecDepth 10000
end Go.Av
namespace Go.Av
open Go
section
variable {e : Ctx} {σ σ' : Sig} {val val' : Nat → Value} {w w' : World} {β β' : Place → Option (Nat × Nat)} {F F' : Nat → Prop} {ds : List Deferred}
theorem Inv.own_cells (h : Inv e σ val w β F) {q : Place} {b s : Nat} (ho : OwnAt σ q) (hb : β q = some (b, s)) : ∃ arr t fz, w.heap[b]? = some (.cells arr t fz) := by
  obtain ⟨x, hx, ho⟩ := ho
  obtain ⟨u, hu⟩ := (h.rep q.1).sub hx
  have hb' : β (q.1, [] ++ q.2) = some (b, s) := by simpa using hb
  cases x <;> simp [AV.isOwn] at ho <;> simp only [Rep] at hu
  · rcases hu with ⟨h0, _⟩ | ⟨_, b', _, _, _, h0, _, _, _, hh, _⟩
    · rw [h0] at hb'; cases hb'
    · rw [h0] at hb'; cases hb'; exact ⟨_, _, _, hh⟩
  · obtain ⟨_, b', _, _, h0, _, hh, _⟩ := hu
    rw [h0] at hb'; cases hb'; exact ⟨_, _, _, hh⟩
def nonCells : Obj → Prop
  | .cells .. => False
  | _ => True
theorem Inv.putObj (h : Inv e σ val w β F) {l : Nat} {o o' : Obj} (hl : w.heap[l]? = some o) (hc : nonCells o) (hc' : nonCells o') (hF : ¬ F l) (hk : e.w0.heap.size ≤ l) : Inv e σ val (w.putObj l o') β F := by
  have hlt : l < w.heap.size := (Array.getElem?_eq_some_iff.1 hl).1
  refine h.ext (fun b hb => World.putObj_heap_other (fun e => by subst e; exact hF hb)) (fun q b s hq hb => World.putObj_heap_other fun e => ?_) (fun b hb _ => World.putObj_heap_other (by omega)) (by simp) ?_
  · subst e
    obtain ⟨arr, t, fz, hh⟩ := h.own_cells hq hb
    rw [hl] at hh; cases hh; exact hc
  · refine ⟨h.tame.1, h.tame.2.1, fun b arr t fz hb hh => ?_⟩
    by_cases hbl : b = l
    · subst hbl
      rw [World.putObj_heap_same hlt] at hh
      cases hh; exact hc'.elim
    · rw [World.putObj_heap_other hbl] at hh
      exact h.tame.2.2 b arr t fz hb hh
end
def LND : Nat := 2000000
section
variable {N : Nat} {e : Ctx} {σ σ' : Sig} {w w' : World} {β β' : Place → Option (Nat × Nat)} {F F' : Nat → Prop} {gv : Nat → Value} {a a' : Act}
def BaseOk (N : Nat) (τ : Sig) : List (Nat × AV) → Prop
  | [] => True
  | (i, v) :: L => (i < N ∧ (pureV v = true ∨ v = refd (LND + i, []) (τ (LND + i)))) ∧ BaseOk N τ L
def keysFrom (N : Nat) : List (Nat × AV) → Bool
  | [] => true
  | (i, _) :: L => decide (N ≤ i) && keysFrom N L
end
end Go.Av
namespace Go.Av
open Go
def MkOk (e : Ctx) (ds : List Deferred) (w : World) (F : Nat → Prop) : Prop :=
  ds = [] ∨ ∃ D, ds = [{ target := .collected D, args := #[] }] ∧ w.heap[D]? = some (.deferred (some [])) ∧ e.w0.heap.size ≤ D ∧ ¬ F D
structure AllM (N : Nat) (gv : Nat → Value) (e : Ctx) (σ : Sig) (a : Act) (w : World) : Prop where
  size : a.tmps.size = N
  inv : ∃ β F, MkOk e a.defers w F ∧ Inv e σ (valOf N gv a) w β F
def BCode (P : Program) (N : Nat) (m : Bool) (c : Code) (σ : Sig) (Φ : Exit → Sig → Prop) : Prop :=
  ∀ (gv : Nat → Value) (e : Ctx) (a : Act) (w : World), (m = false → a.defers = []) → AllM N gv e σ a w → ∀ Q : Exit → Act → World → Prop, (∀ x a' w' σ', Φ x σ' → AllM N gv e σ' a' w' → Q x a' w') → c.wp P Q a w
section
variable {P : Program} {N : Nat} {m : Bool} {σ σ' : Sig} {Φ : Exit → Sig → Prop} {c c' : Code}
theorem BCall.intro {f : FuncId} {fn : Func} {args objs objs2 : List AV} {res : AV} (hf : P.funcs[f]? = some fn) (hb : fn.body = some c) (hN : fn.ntmps = N) (hNI : N < INH) (ha : args.length ≤ N)
    (h : BCode P N false c (argSig args objs) (fun x s => match x with | .normal => Returns P fn N s res objs2 | .ret => Returns P fn N s res objs2 | _ => False)) : ACall P f args objs res objs2 := by
  intro e vs val w β F hl hval hi
  refine (callsIn_wide (n := 1)).1 (callsIn_of_wp_marks hf hb trivial (wpIn_wide.2 ?_))
  have hsz : (vs.toArray ++ Array.replicate (fn.ntmps - vs.toArray.size) undef).size = N := by simp [hN]; omega
  refine h (fun i => val i) e _ w (fun _ => rfl) ⟨hsz, β, F, .inl rfl, ?_⟩ _ fun x a' w' s hx ha' => ?_
  · refine ⟨fun i => ?_, hi.disj, hi.sep, hi.fr, hi.kept, hi.grow, hi.tame⟩
    by_cases hlt : i < vs.length
    · have := hi.rep i
      rw [hval i hlt] at this
      have e1 : valOf N (fun i => val i) { tmps := vs.toArray ++ Array.replicate (fn.ntmps - vs.toArray.size) undef, defers := [] } i = vs.getD i undef := by
        have : i < N := by omega
        simp only [valOf, this, if_true]
        rw [Array.getD_eq_getD_getElem?, Array.getElem?_append_left (by simpa using hlt)]
        simp
      rw [e1]; exact this
    · by_cases hN' : i < N
      · have : argSig args objs i = .undef := by
          have h1 : i < INH := by omega
          have h2 : args[i]? = none := List.getElem?_eq_none (by omega)
          simp [argSig, h1, h2]
        rw [this]; simp [Rep]
      · have := hi.rep i
        simpa [valOf, hN'] using this
  · have key : ∀ (_ : Returns P fn N s res objs2), LeavesInM Fence.wide 1 P fn a'.tmps (fun en w' => ∃ v β' F', en = .returned v ∧ Inv e (argSig [res] objs2) (upd val 0 v) w' β' F') a'.defers .returning w' := by
      intro hret
      obtain ⟨hsz', β', F', hk, hi'⟩ := ha'
      rcases hk with hk | ⟨D, h1, h2, h3, h4⟩
      · obtain ⟨v, hr, β'', F'', hi''⟩ := hret (fun i => val i) { e with ds := [] } a' w' ⟨hk, hsz', β', F', ⟨hi'.rep, hi'.disj, hi'.sep, hi'.fr, hi'.kept, hi'.grow, hi'.tame⟩⟩
        rw [hk]
        exact ⟨v, hr, v, β'', F'', rfl, ⟨hi''.rep, hi''.disj, hi''.sep, hi''.fr, hi''.kept, hi''.grow, hi''.tame⟩⟩
      · rw [h1]
        have hi2 : Inv e s (valOf N (fun i => val i) a') (w'.putObj D (.deferred none)) β' F' := hi'.putObj h2 trivial trivial h4 h3
        obtain ⟨v, hr, β'', F'', hi''⟩ := hret (fun i => val i) { e with ds := a'.defers } a' _ ⟨rfl, hsz', β', F', ⟨hi2.rep, hi2.disj, hi2.sep, hi2.fr, hi2.kept, hi2.grow, hi2.tame⟩⟩
        refine ⟨by simp, .inl ⟨D, _, rfl, run_takeDeferred h2, ?_⟩⟩
        exact ⟨v, hr, v, β'', F'', rfl, ⟨hi''.rep, hi''.disj, hi''.sep, hi''.fr, hi''.kept, hi''.grow, hi''.tame⟩⟩
    cases x <;> simp only at hx
    · exact key hx
    · exact key hx
end
end Go.Av
namespace Go.Av
open Go
def NrAll (τ : Sig) : List Nat → Prop
 | [] => True
 | s :: S => noRef (τ (LND + s)) = true ∧ NrAll τ S
structure LpOk (N : Nat) (S : List Nat) (LB LP : List (Nat × AV)) : Prop where
 keys : keysFrom N LP = true
 base : BaseOk N (look LP) LB
 nr : NrAll (look LP) S
end Go.Av
namespace Go.Av
open Go Go.Sort
theorem falP_fidx {L : List (List Int)} {a : List Int} : ∀ (n : Nat), (falP L a n = [] ∧ ∀ c, c < n → ¬ cval (gl L c) a < 0) ∨ ∃ c : Nat, c < n ∧ cval (gl L c) a < 0 ∧ (∀ d, d < c → ¬ cval (gl L d) a < 0) ∧ gd (falP L a n) 0 = c ∧ 0 < (falP L a n).length
  | 0 => .inl ⟨rfl, fun c h => by omega⟩
  | n + 1 => by
    rcases falP_fidx (L := L) (a := a) n with ⟨h1, h2⟩ | ⟨c, h1, h2, h3, h4, h5⟩
    · by_cases h : cval (gl L n) a < 0
      · refine .inr ⟨n, by omega, h, h2, ?_, ?_⟩
        · rw [falP_succ, if_pos h, h1]; rfl
        · rw [falP_succ, if_pos h, h1]; simp
      · refine .inl ⟨by rw [falP_succ, if_neg h, h1], fun c hc => ?_⟩
        rcases Nat.lt_or_ge c n with hlt | hge
        · exact h2 c hlt
        · obtain rfl : c = n := by omega
          exact h
    · refine .inr ⟨c, by omega, h2, h3, ?_, ?_⟩
      · rw [falP_succ]; split
        · unfold gd at h4 ⊢; rw [List.getElem?_append_left h5]; exact h4
        · exact h4
      · rw [falP_succ]; split
        · simp
        · exact h5
end Go.Av
namespace Go.Av
open Go
set_option maxRecDepth 10000
def AskOk (vars : Int) (ask : List Int → Int) : Prop := ∀ a, clB vars a = true → ask a = 0 ∨ (1 ≤ ask a ∧ ask a ≤ vars ∧ ¬ ask a ∈ a ∧ ¬ -(ask a) ∈ a)
end Go.Av
namespace Go.Av
open Go
def opB (a : List Int) (v : Int) : Bool := !decide (v ∈ a) && !decide (-v ∈ a)
theorem opB_spec {a : List Int} {v : Int} : opB a v = true ↔ ¬ v ∈ a ∧ ¬ -v ∈ a := by simp [opB]
def fopen (vs a : List Int) : Int := (vs.find? fun v => opB a v).getD 0
theorem fopen_found {vs a : List Int} {i : Nat} (hi : i < vs.length) (h : opB a (gd vs i) = true) (hn : ∀ j, j < i → opB a (gd vs j) = false) : fopen vs a = gd vs i := by
  unfold fopen
  have : vs.find? (fun v => opB a v) = some (gd vs i) := by
    rw [List.find?_eq_some_iff_getElem]
    refine ⟨h, i, hi, ?_, fun j hj => ?_⟩
    · have := gd_get hi; rw [List.getElem?_eq_getElem hi] at this; exact Option.some.inj this
    · have h2 := hn j hj
      have hjl : j < vs.length := by omega
      have := gd_get hjl; rw [List.getElem?_eq_getElem hjl] at this
      rw [Option.some.inj this, h2]; rfl
  rw [this]; rfl
theorem fopen_none {vs a : List Int} (hn : ∀ j, j < vs.length → opB a (gd vs j) = false) : fopen vs a = 0 := by
  unfold fopen
  have : vs.find? (fun v => opB a v) = none := by
    rw [List.find?_eq_none]
    intro x hx
    obtain ⟨j, hj, rfl⟩ := mem_gd hx
    rw [hn j hj]; simp
  rw [this]; rfl
theorem fopen_ways (vs a : List Int) : (fopen vs a = 0 ∧ ∀ v ∈ vs, opB a v = false) ∨ (fopen vs a ∈ vs ∧ opB a (fopen vs a) = true) := by
  unfold fopen
  cases h : vs.find? (fun v => opB a v) with
  | none => exact .inl ⟨rfl, fun v hv => by have := List.find?_eq_none.1 h v hv; simpa using this⟩
  | some v => exact .inr ⟨List.mem_of_find?_eq_some h, List.find?_some h⟩
def upL (n : Int) : List Int := (List.range n.toNat).map fun i : Nat => (i : Int) + 1
def upP (k : Nat) : List Int := (List.range k).map fun i : Nat => (i : Int) + 1
theorem upP_len (k : Nat) : (upP k).length = k := by simp [upP]
theorem upP_succ (k : Nat) : upP (k + 1) = upP k ++ [(k : Int) + 1] := by unfold upP; rw [List.range_succ, List.map_append]; rfl
theorem upL_eq {n : Int} {k : Nat} (h : (k : Int) = n ∨ (n ≤ 0 ∧ k = 0)) : upP k = upL n := by
  unfold upL upP
  rcases h with h | ⟨h, rfl⟩
  · rw [show n.toNat = k by omega]
  · rw [show n.toNat = 0 by omega]
theorem mem_upL {n v : Int} : v ∈ upL n ↔ 1 ≤ v ∧ v ≤ n := by
  unfold upL
  rw [List.mem_map]
  constructor
  · rintro ⟨i, hi, rfl⟩; have := List.mem_range.1 hi; omega
  · rintro ⟨h1, h2⟩; exact ⟨(v - 1).toNat, List.mem_range.2 (by omega), by omega⟩
theorem unit_gd {c a : List Int} (h : unitL c a ≠ 0) : unitL c a = gd (opn c a) 0 := by
  unfold unitL at h ⊢
  split at h
  · rename_i h2; rw [if_pos h2]
  · exact absurd rfl h
theorem upL_len {n : Int} (h : 0 ≤ n ∧ n ≤ 12) : (upL n).length ≤ 12 := by simp [upL]; omega
end Go.Av
namespace Go.Av
open Go Go.Proofs Go.Sort
set_option maxRecDepth 10000
theorem fopen_c (vs a : List Int) (hs : SmI vs) (hvl : vs.length ≤ 1048576) (ha : a.length ≤ 1048576) : ACall Tryz.prog 33 [.sl (icells vs) vs.length, .sl (icells a) a.length] [] (.int .i64 (fopen vs a)) [] := by
 refine ACall.intro Tryz.func33 rfl (N := 26) rfl (by decide) (by simp) ?_
 refine a_seq ?_
 refine a_region ?_
 refine rv (v := .int _ _) (v_assign il nf) ?_
 refine r_nil ?_
 refine a_seq ?_
 refine a_seq ?_
 refine a_region ?_
 refine rv (v := .sl _ _) (v_move il nf) ?_
 refine rv (v := .int _ _) (v_len_sl sl25 il) ?_
 refine rv (v := .int _ _) (v_move il nf) ?_
 refine r_nil ?_
 refine a_block ?_
 refine a_loop (X := Nat) (fun i => look [(1, .sl (icells a) a.length), (7, .sl (icells vs) vs.length), (8, .int .i64 ((vs.length : Nat) : Int)), (9, .int .i64 ((i : Nat) : Int))]) (fun i => i ≤ vs.length ∧ ∀ j, j < i → opB a (gd vs j) = false) (fun i => vs.length - i) 0 (ent_look ⟨Weak.of_eq rfl, Weak.of_eq rfl, Weak.of_eq rfl, Weak.of_eq rfl, trivial⟩) ⟨Nat.zero_le _, fun j h => by omega⟩ (fun i hG => ?_)
 obtain ⟨g1, g2⟩ := hG
 have hsi := hs i
 refine a_seq ?_
 refine a_region ?_
 refine rv (v := .bool _) (v_lss il il) ?_
 refine r_nil ?_
 refine a_seq ?_
 refine a_cond rfl (fun ht10 => ?_) (fun ht10 => ?_)
 ·
  skip
  refine a_skip ?_
  refine a_seq ?_
  refine a_block ?_
  refine a_seq ?_
  have hi : i < vs.length := (by simp at ht10; omega)
  refine a_region ?_
  refine rv (v := .pp _ _) (v_indexAddr_sl es25 il il (fun _ => ⟨by omega, by omega, icells_ne hi⟩)) ?_
  refine rv (v := .int .i64 (gd vs i)) (v_load_pp ta3 il (fun _ => by rw [Nat.mul_one]; exact icells_get (gd_get hi)) rfl) ?_
  refine rv (v := .int _ _) (v_assign il nf) ?_
  refine r_nil ?_
  refine a_seq ?_
  have hob : (bif !decide ((gd vs i) ∈ a) then !decide (-(gd vs i) ∈ a) else false) = opB a (gd vs i) := (by unfold opB; cases decide ((gd vs i) ∈ a) <;> simp)
  refine a_region ?_
  refine rv (v := .sl _ _) (v_move il nf) ?_
  refine rv (v := .int _ _) (v_move il nf) ?_
  refine rn (v := .bool _) (q_call (vs := [.sl _ _, .int _ _]) (args := [.sl _ _, .int .i64 _]) hb59 ⟨il, il, trivial⟩ rfl (fun hA => contains_c _ _ (by omega)) rfl rfl) ?_
  refine rv (v := .bool _) (v_not il) ?_
  refine rv (v := .bool _) (v_move il nf) ?_
  refine r_gval (v := .sl _ _) (v_move il nf) rfl rfl rfl (by decide) (.inl ⟨_, rfl, rfl⟩) rfl (by decide) ?_
  refine r_gval (v := .int _ _) (v_move il nf) rfl rfl rfl (by decide) (.inl ⟨_, rfl, rfl⟩) rfl (by decide) ?_
  refine r_gval (v := .int _ _) (v_neg (.inr ⟨_, rfl, fun h => h⟩) (fun _ => by omega)) rfl rfl rfl (by decide) (.inl ⟨_, rfl, rfl⟩) rfl (by decide) ?_
  refine r_guard (v := .bool _) (q_call (vs := [.sl _ _, .int _ _]) (args := [.sl _ _, .int .i64 _]) hb59 ⟨.inr ⟨_, rfl, fun h => h⟩, .inr ⟨_, rfl, fun h => h⟩, trivial⟩ rfl (fun hA => contains_c _ _ (by omega)) rfl rfl) rfl rfl rfl (by decide) (.inl ⟨_, rfl, rfl⟩) rfl (by decide) ?_
  refine r_gval (v := .bool _) (v_not (.inr ⟨_, rfl, fun h => h⟩)) rfl rfl rfl (by decide) (.inl ⟨_, rfl, rfl⟩) rfl (by decide) ?_
  refine rv (v := .bool _) (v_pick (.inl rfl) (.inr ⟨_, rfl, fun h h2 => by simp_all⟩) (.inl rfl)) ?_
  refine r_nil ?_
  refine a_cond rfl (fun ht23 => ?_) (fun ht23 => ?_)
  ·
   skip
   refine a_seq ?_
   refine a_region ?_
   refine rv (v := .int _ _) (v_move il nf) ?_
   refine rv (v := .int _ _) (v_assign il nf) ?_
   refine r_nil ?_
   refine a_ret ?_
   refine ret1 Tryz.results33 (by decide) (by decide) (Weak.of_eq (int_eq ?_)) rfl Leaves.nil
   exact (fopen_found hi (by rw [← hob]; exact ht23) g2).symm
  ·
   skip
   refine a_skip ?_
   refine a_region ?_
   refine rv (v := .int _ _) (v_add il il (fun _ => by omega)) ?_
   refine rv (v := .int _ _) (v_move il nf) ?_
   refine r_nil ?_
   refine ⟨i + 1, ent_look ⟨Weak.of_eq rfl, Weak.of_eq rfl, Weak.of_eq rfl, Weak.of_eq (int_eq (by omega)), trivial⟩, ⟨by omega, ok_stepF (p := fun j => opB a (gd vs j)) g2 (by rw [← hob]; exact ht23)⟩, by omega⟩
 ·
  skip
  refine a_exit ?_
  refine a_seq ?_
  refine a_region ?_
  refine rv (v := .int _ _) (v_assign il nf) ?_
  refine r_nil ?_
  refine a_ret ?_
  refine ret1 Tryz.results33 (by decide) (by decide) (Weak.of_eq (int_eq ?_)) rfl Leaves.nil
  simp at ht10; exact (fopen_none (fun j hj => g2 j (by omega))).symm
theorem upTo9_c (n : Int) (hn : 0 ≤ n ∧ n ≤ 12) : ACall Tryz.prog 57 [.int .i64 n] [] (.osl 1 (icells (upL n)) (upL n).length none) [] := by
 refine ACall.intro Tryz.func57 rfl (N := 15) rfl (by decide) (by simp) ?_
 refine a_seq ?_
 refine a_region ?_
 refine rv (v := .nils) (v_assign il nf) ?_
 refine r_nil ?_
 refine a_seq ?_
 refine a_region ?_
 refine rv (v := .nils) (v_assign il nf) ?_
 refine r_nil ?_
 refine a_seq ?_
 refine a_seq ?_
 refine a_region ?_
 refine rv (v := .int _ _) (v_assign il nf) ?_
 refine r_nil ?_
 refine a_block ?_
 refine a_pre (ent_nil (t := 3) (sz := 1) (cap := none) (.inl rfl) (fun _ h => by cases h)) ?_
 refine a_loop (X := Nat) (fun k => look [(0, .int .i64 n), (3, .osl 1 (icells (upP k)) (upP k).length none), (4, .int .i64 ((k + 1 : Nat) : Int))]) (fun k => (k : Int) ≤ n) (fun k => n.toNat - k) 0 (ent_look ⟨Weak.of_eq rfl, Weak.osl rfl rfl, Weak.of_eq rfl, trivial⟩) (by omega) (fun k hG => ?_)
 have hul := upP_len k
 refine a_seq ?_
 refine a_seq ?_
 refine a_region ?_
 refine rv (v := .int _ _) (v_move il nf) ?_
 refine rv (v := .int _ _) (v_move il nf) ?_
 refine rv (v := .bool _) (v_leq il il) ?_
 refine r_nil ?_
 refine a_cond rfl (fun ht7 => ?_) (fun ht7 => ?_)
 ·
  skip
  refine a_skip ?_
  refine a_seq ?_
  refine a_block ?_
  have hi : ((k + 1 : Nat) : Int) ≤ n := (by simpa using ht7)
  refine a_region ?_
  refine rv (v := .rsl _ _ _ _ _) (v_move il nf) ?_
  refine rv (v := .int _ _) (v_move il nf) ?_
  refine rn (v := .osl 1 (icells [((k + 1 : Nat) : Int)]) 1 (some 1)) (q_sliceLit (n := 1) (parts := [(0, .tmp 11)]) lt25 rfl rfl rfl rfl) ?_
  refine r_pre (ent_reloc_sl (t := 10) rfl rfl) ?_
  refine r_step rfl (o_append rfl ap25 rfl (by decide) (by decide) rfl (src_lit (.inl rfl) rfl rfl (ic_pureL _)) (ic_cell _) (by rw [icells_length]; omega) (by omega)) ?_
  refine rv (v := .rsl _ _ _ _ _) (v_assign il nf) ?_
  refine r_pre (ent_reloc_sl (t := 3) rfl rfl) ?_
  refine r_nil ?_
  refine a_region ?_
  refine rv (v := .int _ _) (v_move il nf) ?_
  refine rv (v := .int _ _) (v_add il il (fun _ => by omega)) ?_
  refine rv (v := .int _ _) (v_assign il nf) ?_
  refine r_nil ?_
  refine ⟨k + 1, ent_look ⟨Weak.of_eq rfl, Weak.osl (by rw [upP_succ, icells_append] <;> rfl) (by rw [upP_succ]; simp), Weak.of_eq (int_eq (by omega)), trivial⟩, by omega, by omega⟩
 ·
  skip
  refine a_exit ?_
  refine a_seq ?_
  refine a_region ?_
  refine rv (v := .rsl _ _ _ _ _) (v_move il nf) ?_
  refine rv (v := .rsl _ _ _ _ _) (v_assign il nf) ?_
  refine r_pre (ent_reloc_sl (t := 2) rfl rfl) ?_
  refine r_nil ?_
  refine a_ret ?_
  refine ret1 Tryz.results57 (by decide) (by decide) (Weak.osl ?_ ?_) rfl Leaves.nil
  all_goals (rw [upL_eq (n := n) (.inl (by simp at ht7; omega))])
end Go.Av
namespace Go.Av
open Go Go.Proofs Go.Sort
set_option maxRecDepth 10000
theorem open9_c (a : List Int) (v : Int) (ha : a.length ≤ 1048576) (hv : -4611686018427387904 ≤ v ∧ v ≤ 4611686018427387904) : ACall Tryz.prog 38 [.sl (icells a) a.length, .int .i64 v] [] (.bool (opB a v)) [] := by
 refine ACall.intro Tryz.func38 rfl (N := 16) rfl (by decide) (by simp) ?_
 refine a_seq ?_
 refine a_region ?_
 refine rv (v := .bool _) (v_assign il nf) ?_
 refine r_nil ?_
 refine a_seq ?_
 refine a_region ?_
 refine rv (v := .sl _ _) (v_move il nf) ?_
 refine rv (v := .int _ _) (v_move il nf) ?_
 refine rn (v := .bool _) (q_call (vs := [.sl _ _, .int _ _]) (args := [.sl _ _, .int .i64 _]) hb65 ⟨il, il, trivial⟩ rfl (fun hA => has2_c _ _ _ ⟨rfl, by omega⟩) rfl rfl) ?_
 refine rv (v := .bool _) (v_not il) ?_
 refine rv (v := .bool _) (v_move il nf) ?_
 refine r_gval (v := .sl _ _) (v_move il nf) rfl rfl rfl (by decide) (.inl ⟨_, rfl, rfl⟩) rfl (by decide) ?_
 refine r_gval (v := .int _ _) (v_move il nf) rfl rfl rfl (by decide) (.inl ⟨_, rfl, rfl⟩) rfl (by decide) ?_
 refine r_gval (v := .int _ _) (v_neg (.inr ⟨_, rfl, fun h => h⟩) (fun _ => by omega)) rfl rfl rfl (by decide) (.inl ⟨_, rfl, rfl⟩) rfl (by decide) ?_
 refine r_guard (v := .bool _) (q_call (vs := [.sl _ _, .int _ _]) (args := [.sl _ _, .int .i64 _]) hb65 ⟨.inr ⟨_, rfl, fun h => h⟩, .inr ⟨_, rfl, fun h => h⟩, trivial⟩ rfl (fun hA => has2_c _ _ _ ⟨rfl, by omega⟩) rfl rfl) rfl rfl rfl (by decide) (.inl ⟨_, rfl, rfl⟩) rfl (by decide) ?_
 refine r_gval (v := .bool _) (v_not (.inr ⟨_, rfl, fun h => h⟩)) rfl rfl rfl (by decide) (.inl ⟨_, rfl, rfl⟩) rfl (by decide) ?_
 refine rv (v := .bool _) (v_pick (.inl rfl) (.inr ⟨_, rfl, fun h h2 => by simp_all⟩) (.inl rfl)) ?_
 refine rv (v := .bool _) (v_assign il nf) ?_
 refine r_nil ?_
 refine a_ret ?_
 refine ret1 Tryz.results38 (by decide) (by decide) (Weak.of_eq (bool_eq ?_)) rfl Leaves.nil
 unfold opB; cases decide (v ∈ a) <;> simp
end Go.Av
namespace Go.Av
open Go Go.Proofs Go.Sort
set_option maxRecDepth 10000
theorem hb38 : hasBody Tryz.prog 38 = true := by kernel_rfl
end Go.Av
namespace Go.Av
open Go Go.Proofs Go.Sort
set_option maxRecDepth 10000
end Go.Av
namespace Go.Av
open Go
set_option maxRecDepth 10000
def bT (w : Nat) (v : Int) : Bool := decide ((((((w : Nat) : Int) / 2 ^ (v - 1).toNat).toNat &&& (1 : Int).toNat : Nat) : Int) = 1)
theorem bT_bit {w : Nat} {v : Int} : bT w v = w.testBit (v - 1).toNat := by
  unfold bT
  have h : (((w : Nat) : Int) / 2 ^ (v - 1).toNat).toNat = w / 2 ^ (v - 1).toNat := by
    rw [show ((w : Nat) : Int) / 2 ^ (v - 1).toNat = ((w / 2 ^ (v - 1).toNat : Nat) : Int) by push_cast; rfl]; rfl
  rw [h, show (1 : Int).toNat = 1 from rfl, Nat.and_one_is_mod, Nat.testBit_eq_decide_div_mod_eq, Bool.eq_iff_iff, decide_eq_true_iff, decide_eq_true_iff]
  omega
def litT (w : Nat) (x : Int) : Bool := bT w (vr x) == decide (x > 0)
theorem litT_neg {w : Nat} {x : Int} (h : x ≠ 0) : litT w (-x) = !litT w x := by
  unfold litT
  rw [vr_neg]
  have : decide (-x > 0) = !decide (x > 0) := by
    by_cases hx : x > 0
    · rw [decide_eq_true hx, decide_eq_false (by omega)]; rfl
    · rw [decide_eq_false hx, decide_eq_true (by omega)]; rfl
  rw [this]
  cases bT w (vr x) <;> cases decide (x > 0) <;> rfl
theorem bits_of (p : Nat → Bool) : ∀ n, ∃ w : Nat, w < 2 ^ n ∧ ∀ i, i < n → w.testBit i = p i
  | 0 => ⟨0, by simp, fun i h => by omega⟩
  | n + 1 => by
    obtain ⟨w, h1, h2⟩ := bits_of p n
    have hp : 2 ^ (n + 1) = 2 ^ n + 2 ^ n := by rw [Nat.pow_succ]; omega
    by_cases hb : p n = true
    · refine ⟨2 ^ n + w, by omega, fun i hi => ?_⟩
      by_cases h : i = n
      · subst h; rw [Nat.testBit_two_pow_add_eq, Nat.testBit_lt_two_pow h1, hb]; rfl
      · rw [Nat.testBit_two_pow_add_gt (by omega)]; exact h2 i (by omega)
    · refine ⟨w, by omega, fun i hi => ?_⟩
      by_cases h : i = n
      · subst h; rw [Nat.testBit_lt_two_pow h1]; simpa using hb
      · exact h2 i (by omega)
def tW (w : Nat) (c : List Int) : Bool := (List.range c.length).any fun i => litT w (gd c i)
def aW (L : List (List Int)) (w : Nat) : Bool := !(List.range L.length).any fun j => !tW w (gl L j)
def fW (vars : Int) (L : List (List Int)) : Int := fidx (fun w => aW L w) (2 ^ vars.toNat)
theorem aW_spec {L : List (List Int)} {w : Nat} : aW L w = true ↔ ∀ j, j < L.length → ∃ l ∈ gl L j, litT w l = true := by
  unfold aW tW
  rw [Bool.not_eq_true', List.any_eq_false]
  constructor
  · intro h j hj
    have h1 := h j (List.mem_range.2 hj)
    rw [Bool.not_eq_true'] at h1
    have h2 : ((List.range (gl L j).length).any fun i => litT w (gd (gl L j) i)) = true := by simpa only [Bool.not_eq_false] using h1
    obtain ⟨i, hi, ht⟩ := List.any_eq_true.1 h2
    exact ⟨gd (gl L j) i, gd_mem (List.mem_range.1 hi), ht⟩
  · intro h j hj
    obtain ⟨l, hl, ht⟩ := h j (List.mem_range.1 hj)
    obtain ⟨i, hi, rfl⟩ := mem_gd hl
    have : ((List.range (gl L j).length).any fun i => litT w (gd (gl L j) i)) = true := List.any_eq_true.2 ⟨i, List.mem_range.2 hi, ht⟩
    rw [this]; simp
theorem fW_sat {vars : Int} {L : List (List Int)} (h : 0 ≤ fW vars L) : ∃ w, aW L w = true := by
  unfold fW fidx at h
  split at h
  · rename_i w hw
    exact ⟨w, List.find?_some hw⟩
  · omega
theorem fW_no {vars : Int} {L : List (List Int)} (h : ¬ 0 ≤ fW vars L) : ∀ w, w < 2 ^ vars.toNat → aW L w = false := fun w hw => by
  unfold fW fidx at h
  split at h
  · omega
  · rename_i hn
    have := List.find?_eq_none.1 hn w (List.mem_range.2 hw)
    simpa using this
section
variable {vars : Int} {L : List (List Int)}
theorem un_ask {ask : List Int → Int} (hcl : ∀ i, i < L.length → clB vars (gl L i) = true) (hall : ∀ a, clB vars a = true → ask a = 0 → ∀ v, 1 ≤ v → v ≤ vars → v ∈ a ∨ -v ∈ a) (h : ¬ 0 ≤ fW vars L) :
    ∀ a, clB vars a = true → ¬ 0 < (falP L a L.length).length → ask a ≠ 0 := fun a hc hf h0 => by
  have hset := hall a hc h0
  obtain ⟨w, hw1, hw2⟩ := bits_of (fun i => decide (((i : Nat) : Int) + 1 ∈ a)) vars.toNat
  have hbit : ∀ v, 1 ≤ v → v ≤ vars → bT w v = decide (v ∈ a) := fun v h1 h2 => by
    rw [bT_bit, hw2 _ (by omega), show (((v - 1).toNat : Nat) : Int) + 1 = v by omega]
  have hlit : ∀ l ∈ a, litT w l = true := fun l hl => by
    have hb := litB_spec.1 (clB_mem hc hl).1
    unfold litT
    by_cases hp : l > 0
    · rw [show vr l = l by unfold vr; rw [if_neg (by omega)], hbit l (by omega) (by omega), decide_eq_true hl, decide_eq_true hp]; rfl
    · rw [show vr l = -l by unfold vr; rw [if_pos (by omega)], hbit (-l) (by omega) (by omega), decide_eq_false hp, decide_eq_false (fun hn => strict_opp (clB_strict hc) hb.2 hl hn)]; rfl
  have hsat : aW L w = true := aW_spec.2 fun j hj => by
    have hcj := hcl j hj
    have hv : ¬ cval (gl L j) a < 0 := fun hv => by
      rcases falP_fidx (L := L) (a := a) L.length with ⟨_, g2⟩ | ⟨c, _, _, _, _, g5⟩
      · exact g2 j hj hv
      · exact hf g5
    unfold cval at hv
    split at hv
    · rename_i hany
      obtain ⟨l, hl1, hl2⟩ := List.any_eq_true.1 hany
      exact ⟨l, hl1, hlit l (by simpa using hl2)⟩
    · split at hv
      · omega
      · rename_i hno hnall
        exfalso
        apply hnall
        rw [List.all_eq_true]
        intro l hl
        have hb := litB_spec.1 (clB_mem hcj hl).1
        have hnl : ¬ l ∈ a := fun hla => hno (List.any_eq_true.2 ⟨l, hl, by simpa using hla⟩)
        rcases hset (vr l) (by unfold vr; split <;> omega) (by unfold vr; split <;> omega) with h5 | h5
        · unfold vr at h5; split at h5
          · simpa using h5
          · exact absurd h5 hnl
        · unfold vr at h5; split at h5
          · rw [Int.neg_neg] at h5; exact absurd h5 hnl
          · simpa using h5
  rw [fW_no h w hw1] at hsat; cases hsat
end
theorem cl_vr {vars : Int} {c : List Int} (h : clB vars c = true) {j : Nat} (hj : j < c.length) : 1 ≤ vr (gd c j) ∧ vr (gd c j) ≤ 12 := by
  have h1 := litB_spec.1 (clB_mem h (gd_mem hj)).1
  have h2 := (clB_spec h).1
  unfold vr; split <;> omega
theorem pow12 {v : Int} (h : 0 ≤ v ∧ v ≤ 12) : 2 ^ v.toNat ≤ 4096 ∧ (2 : Int) ^ v.toNat = ((2 ^ v.toNat : Nat) : Int) := by
  have : 2 ^ v.toNat ≤ 2 ^ 12 := Nat.pow_le_pow_right (by decide) (by omega)
  refine ⟨this, by push_cast; rfl⟩
theorem div_bd {w : Nat} (hw : w ≤ 4096) (k : Nat) : 0 ≤ ((w : Nat) : Int) / 2 ^ k ∧ ((w : Nat) : Int) / 2 ^ k ≤ 4096 := by
  have h : ((w : Nat) : Int) / 2 ^ k = ((w / 2 ^ k : Nat) : Int) := by push_cast; rfl
  rw [h]
  exact ⟨Int.natCast_nonneg _, Int.ofNat_le.2 (Nat.le_trans (Nat.div_le_self _ _) hw)⟩
end Go.Av
namespace Go.Av
open Go Go.Proofs Go.Sort
set_option maxRecDepth 10000
theorem hb49 : hasBody Tryz.prog 49 = true := by kernel_rfl
theorem hb75 : hasBody Tryz.prog 75 = true := by kernel_rfl
theorem hb97 : hasBody Tryz.prog 97 = true := by kernel_rfl
theorem un4 : Tryz.prog.underlying 4 = some .bool := by kernel_rfl
theorem true5_c (c : List Int) (w : Nat) (hw : w ≤ 4096) (hs : ∀ i, i < c.length → 1 ≤ vr (gd c i) ∧ vr (gd c i) ≤ 12) (hsm : SmI c) (hc : c.length ≤ 1048576) : ACall Tryz.prog 97 [.sl (icells c) c.length, .int .i64 ((w : Nat) : Int)] [] (.bool (tW w c)) [] := by
 refine ACall.intro Tryz.func97 rfl (N := 28) rfl (by decide) (by simp) ?_
 refine a_seq ?_
 refine a_region ?_
 refine rv (v := .bool _) (v_assign il nf) ?_
 refine r_nil ?_
 refine a_seq ?_
 refine a_seq ?_
 refine a_region ?_
 refine rv (v := .int _ _) (v_assign il nf) ?_
 refine r_nil ?_
 refine a_block ?_
 refine a_loop (X := Nat) (fun i => look [(0, .sl (icells c) c.length), (1, .int .i64 ((w : Nat) : Int)), (5, .int .i64 ((i : Nat) : Int))]) (fun i => i ≤ c.length ∧ ∀ j, j < i → litT w (gd c j) = false) (fun i => c.length - i) 0 (ent_look ⟨Weak.of_eq rfl, Weak.of_eq rfl, Weak.of_eq rfl, trivial⟩) ⟨Nat.zero_le _, fun j h => by omega⟩ (fun i hG => ?_)
 obtain ⟨g1, g2⟩ := hG
 have hsi := hsm i
 refine a_seq ?_
 refine a_seq ?_
 refine a_region ?_
 refine rv (v := .int _ _) (v_move il nf) ?_
 refine rv (v := .sl _ _) (v_move il nf) ?_
 refine rv (v := .int _ _) (v_len_sl sl25 il) ?_
 refine rv (v := .bool _) (v_lss il il) ?_
 refine r_nil ?_
 refine a_cond rfl (fun ht9 => ?_) (fun ht9 => ?_)
 ·
  skip
  refine a_skip ?_
  refine a_seq ?_
  refine a_block ?_
  refine a_seq ?_
  have hi : i < c.length := (by simp at ht9; omega)
  have hvi := hs i hi
  have hdv := div_bd hw ((vr (gd c i)) - 1).toNat
  refine a_region_any mixed (by kernel_rfl) ?_
  refine yv (v := .int _ _) (v_move il nf) ?_
  refine yv (v := .sl _ _) (v_move il nf) ?_
  refine yv (v := .int _ _) (v_move il nf) ?_
  refine yv (v := .pp _ _) (v_indexAddr_sl es25 il il (fun _ => ⟨by omega, by omega, icells_ne hi⟩)) ?_
  refine yv (v := .int .i64 (gd c i)) (v_load_pp ta3 il (fun _ => by rw [Nat.mul_one]; exact icells_get (gd_get hi)) rfl) ?_
  refine y_new (v := .int _ _) (q_call (vs := [.int _ _]) (args := [.int .i64 _]) hb60 ⟨.inl rfl, trivial⟩ rfl (fun hA => l2Var_c _ (by omega)) rfl rfl) rfl rfl (by decide) (by kernel_rfl) ?_
  refine yv (v := .int _ _) (v_sub il il (fun _ => by omega)) ?_
  refine yv (v := .int _ _) (v_shr il il (fun _ => by omega)) ?_
  refine yv (v := .int _ _) (v_and il il (fun _ => by omega)) ?_
  refine yv (v := .bool _) (v_eql il il) ?_
  refine yv (v := .sl _ _) (v_move il nf) ?_
  refine yv (v := .int _ _) (v_move il nf) ?_
  refine yv (v := .pp _ _) (v_indexAddr_sl es25 il il (fun _ => ⟨by omega, by omega, icells_ne hi⟩)) ?_
  refine yv (v := .int .i64 (gd c i)) (v_load_pp ta3 il (fun _ => by rw [Nat.mul_one]; exact icells_get (gd_get hi)) rfl) ?_
  refine yv (v := .bool _) (v_gtr il il) ?_
  refine yv (v := .bool _) (v_beq un4 il il) ?_
  refine y_nil ?_
  refine a_cond rfl (fun ht27 => ?_) (fun ht27 => ?_)
  ·
   skip
   refine a_seq ?_
   refine a_region ?_
   refine rv (v := .bool _) (v_assign il nf) ?_
   refine r_nil ?_
   refine a_ret ?_
   refine ret1 Tryz.results97 (by decide) (by decide) (Weak.of_eq (bool_eq ?_)) rfl Leaves.nil
   exact (List.any_eq_true.2 ⟨i, List.mem_range.2 hi, ht27⟩).symm
  ·
   skip
   refine a_skip ?_
   refine a_region ?_
   refine rv (v := .int _ _) (v_move il nf) ?_
   refine rv (v := .int _ _) (v_add il il (fun _ => by omega)) ?_
   refine rv (v := .int _ _) (v_assign il nf) ?_
   refine r_nil ?_
   refine ⟨i + 1, ent_look ⟨Weak.of_eq rfl, Weak.of_eq rfl, Weak.of_eq (int_eq (by omega)), trivial⟩, ⟨by omega, ok_stepF (p := fun j => litT w (gd c j)) g2 ht27⟩, by omega⟩
 ·
  skip
  refine a_exit ?_
  refine a_seq ?_
  refine a_region ?_
  refine rv (v := .bool _) (v_assign il nf) ?_
  refine r_nil ?_
  refine a_ret ?_
  refine ret1 Tryz.results97 (by decide) (by decide) (Weak.of_eq (bool_eq ?_)) rfl Leaves.nil
  simp at ht9; exact (List.any_eq_false.2 (fun j hj => by rw [g2 j (by have := List.mem_range.1 hj; omega)]; simp)).symm
theorem all5_c (L : List (List Int)) (w : Nat) (hw : w ≤ 4096) (vars : Int) (hcl : ∀ i, i < L.length → clB vars (gl L i) = true) (hL : L.length ≤ 1048576) : ACall Tryz.prog 75 [.sl (sls L) L.length, .int .i64 ((w : Nat) : Int)] [] (.bool (aW L w)) [] := by
 refine ACall.intro Tryz.func75 rfl (N := 19) rfl (by decide) (by simp) ?_
 refine a_seq ?_
 refine a_region ?_
 refine rv (v := .bool _) (v_assign il nf) ?_
 refine r_nil ?_
 refine a_seq ?_
 refine a_seq ?_
 refine a_region ?_
 refine rv (v := .int _ _) (v_assign il nf) ?_
 refine r_nil ?_
 refine a_block ?_
 refine a_loop (X := Nat) (fun i => look [(0, .sl (sls L) L.length), (1, .int .i64 ((w : Nat) : Int)), (5, .int .i64 ((i : Nat) : Int))]) (fun i => i ≤ L.length ∧ ∀ j, j < i → (!tW w (gl L j)) = false) (fun i => L.length - i) 0 (ent_look ⟨Weak.of_eq rfl, Weak.of_eq rfl, Weak.of_eq rfl, trivial⟩) ⟨Nat.zero_le _, fun j h => by omega⟩ (fun i hG => ?_)
 obtain ⟨g1, g2⟩ := hG
 refine a_seq ?_
 refine a_seq ?_
 refine a_region ?_
 refine rv (v := .int _ _) (v_move il nf) ?_
 refine rv (v := .sl _ _) (v_move il nf) ?_
 refine rv (v := .int _ _) (v_len_sl sl22 il) ?_
 refine rv (v := .bool _) (v_lss il il) ?_
 refine r_nil ?_
 refine a_cond rfl (fun ht9 => ?_) (fun ht9 => ?_)
 ·
  skip
  refine a_skip ?_
  refine a_seq ?_
  refine a_block ?_
  refine a_seq ?_
  have hi : i < L.length := (by simp at ht9; omega)
  have hci := hcl i hi
  have hlc := clB_len hci
  refine a_region ?_
  refine rv (v := .sl _ _) (v_move il nf) ?_
  refine rv (v := .int _ _) (v_move il nf) ?_
  refine rv (v := .pp _ _) (v_indexAddr_sl es22 il il (fun _ => ⟨by omega, by omega, sls_ne hi⟩)) ?_
  refine rv (v := .sl (icells (gl L i)) (gl L i).length) (v_load_pp ta25 il (fun _ => by rw [Nat.mul_one]; exact sls_get hi) rfl) ?_
  refine rv (v := .int _ _) (v_move il nf) ?_
  refine rn (v := .bool _) (q_call (vs := [.sl _ _, .int _ _]) (args := [.sl _ _, .int .i64 _]) hb97 ⟨il, il, trivial⟩ rfl (fun hA => true5_c (gl L i) w hw (fun j hj => cl_vr hci hj) (clB_sm hci) (by omega)) rfl rfl) ?_
  refine rv (v := .bool _) (v_not il) ?_
  refine r_nil ?_
  refine a_cond rfl (fun ht18 => ?_) (fun ht18 => ?_)
  ·
   skip
   refine a_seq ?_
   refine a_region ?_
   refine rv (v := .bool _) (v_assign il nf) ?_
   refine r_nil ?_
   refine a_ret ?_
   refine ret1 Tryz.results75 (by decide) (by decide) (Weak.of_eq (bool_eq ?_)) rfl Leaves.nil
   unfold aW; rw [List.any_eq_true.2 ⟨i, List.mem_range.2 hi, ht18⟩]; rfl
  ·
   skip
   refine a_skip ?_
   refine a_region ?_
   refine rv (v := .int _ _) (v_move il nf) ?_
   refine rv (v := .int _ _) (v_add il il (fun _ => by omega)) ?_
   refine rv (v := .int _ _) (v_assign il nf) ?_
   refine r_nil ?_
   refine ⟨i + 1, ent_look ⟨Weak.of_eq rfl, Weak.of_eq rfl, Weak.of_eq (int_eq (by omega)), trivial⟩, ⟨by omega, ok_stepF (p := fun j => !tW w (gl L j)) g2 ht18⟩, by omega⟩
 ·
  skip
  refine a_exit ?_
  refine a_seq ?_
  refine a_region ?_
  refine rv (v := .bool _) (v_assign il nf) ?_
  refine r_nil ?_
  refine a_ret ?_
  refine ret1 Tryz.results75 (by decide) (by decide) (Weak.of_eq (bool_eq ?_)) rfl Leaves.nil
  simp at ht9; unfold aW; rw [List.any_eq_false.2 (fun j hj => by rw [g2 j (by have := List.mem_range.1 hj; omega)]; simp)]; rfl
theorem first5_c (vars : Int) (L : List (List Int)) (hcl : ∀ i, i < L.length → clB vars (gl L i) = true) (hL : L.length ≤ 1048576) (hv : 0 ≤ vars ∧ vars ≤ 12) : ACall Tryz.prog 49 [.int .i64 vars, .sl (sls L) L.length] [] (.int .i64 (fW vars L)) [] := by
 have hp12 := pow12 hv
 refine ACall.intro Tryz.func49 rfl (N := 16) rfl (by decide) (by simp) ?_
 refine a_seq ?_
 refine a_region ?_
 refine rv (v := .int _ _) (v_assign il nf) ?_
 refine r_nil ?_
 refine a_seq ?_
 refine a_seq ?_
 refine a_region ?_
 refine rv (v := .int _ _) (v_assign il nf) ?_
 refine r_nil ?_
 refine a_block ?_
 refine a_loop (X := Nat) (fun w => look [(0, .int .i64 vars), (1, .sl (sls L) L.length), (5, .int .i64 ((w : Nat) : Int))]) (fun w => w ≤ 2 ^ vars.toNat ∧ ∀ j, j < w → aW L j = false) (fun w => 2 ^ vars.toNat - w) 0 (ent_look ⟨Weak.of_eq rfl, Weak.of_eq rfl, Weak.of_eq rfl, trivial⟩) ⟨Nat.zero_le _, fun j h => by omega⟩ (fun w hG => ?_)
 obtain ⟨g1, g2⟩ := hG
 refine a_seq ?_
 refine a_seq ?_
 refine a_region ?_
 refine rv (v := .int _ _) (v_move il nf) ?_
 refine rv (v := .int _ _) (v_move il nf) ?_
 refine rv (v := .int .i64 (((2 ^ vars.toNat : Nat) : Nat) : Int)) ((v_shl il il (fun _ => by omega)).cast (int_eq (by push_cast; omega))) ?_
 refine rv (v := .bool _) (v_lss il il) ?_
 refine r_nil ?_
 refine a_cond rfl (fun ht9 => ?_) (fun ht9 => ?_)
 ·
  skip
  refine a_skip ?_
  refine a_seq ?_
  refine a_block ?_
  refine a_seq ?_
  have hi : w < 2 ^ vars.toNat := (by simp at ht9; omega)
  refine a_region ?_
  refine rv (v := .sl _ _) (v_move il nf) ?_
  refine rv (v := .int _ _) (v_move il nf) ?_
  refine rn (v := .bool _) (q_call (vs := [.sl _ _, .int _ _]) (args := [.sl _ _, .int .i64 _]) hb75 ⟨il, il, trivial⟩ rfl (fun hA => all5_c L w (by omega) vars hcl hL) rfl rfl) ?_
  refine r_nil ?_
  refine a_cond rfl (fun ht14 => ?_) (fun ht14 => ?_)
  ·
   skip
   refine a_seq ?_
   refine a_region ?_
   refine rv (v := .int _ _) (v_move il nf) ?_
   refine rv (v := .int _ _) (v_assign il nf) ?_
   refine r_nil ?_
   refine a_ret ?_
   refine ret1 Tryz.results49 (by decide) (by decide) (Weak.of_eq (int_eq ?_)) rfl Leaves.nil
   exact (fidx_found (p := fun w => aW L w) hi ht14 g2).symm
  ·
   skip
   refine a_skip ?_
   refine a_region ?_
   refine rv (v := .int _ _) (v_move il nf) ?_
   refine rv (v := .int _ _) (v_add il il (fun _ => by omega)) ?_
   refine rv (v := .int _ _) (v_assign il nf) ?_
   refine r_nil ?_
   refine ⟨w + 1, ent_look ⟨Weak.of_eq rfl, Weak.of_eq rfl, Weak.of_eq (int_eq (by omega)), trivial⟩, ⟨by omega, ok_stepF (p := fun j => aW L j) g2 ht14⟩, by omega⟩
 ·
  skip
  refine a_exit ?_
  refine a_seq ?_
  refine a_region ?_
  refine rv (v := .int _ _) (v_assign il nf) ?_
  refine r_nil ?_
  refine a_ret ?_
  refine ret1 Tryz.results49 (by decide) (by decide) (Weak.of_eq (int_eq ?_)) rfl Leaves.nil
  simp at ht9; exact (fidx_none (p := fun w => aW L w) (fun j hj => g2 j (by omega))).symm
theorem sat5_c (vars : Int) (L : List (List Int)) (hcf : cnfB vars L = true) : ACall Tryz.prog 25 [.agg [.int .i64 vars, .sl (sls L) L.length]] [] (.bool (decide (0 ≤ fW vars L))) [] := by
 have hcs := cnfB_spec hcf
 refine ACall.intro Tryz.func25 rfl (N := 9) rfl (by decide) (by simp) ?_
 refine a_seq ?_
 refine a_region ?_
 refine rn (v := .op [.int _ _, .sl _ _]) (q_box il rfl rfl) ?_
 refine rv (v := .bool _) (v_assign il nf) ?_
 refine r_nil ?_
 refine a_seq ?_
 refine a_region ?_
 refine rv (v := .rp _ _) (v_fieldAddr_rp fo30_0 il) ?_
 refine rv (v := .int _ _) (v_load_rp1 ta3 il rfl (fun _ => rfl) rfl) ?_
 refine rv (v := .rp _ _) (v_fieldAddr_rp fo30_1 il) ?_
 refine rv (v := .sl _ _) (v_load_rp1 ta22 il rfl (fun _ => rfl) rfl) ?_
 refine rn (v := .int _ _) (q_call (vs := [.int _ _, .sl _ _]) (args := [.int .i64 _, .sl _ _]) hb49 ⟨il, il, trivial⟩ rfl (fun hA => first5_c vars L hcs.2.2 (by omega) hcs.1) rfl rfl) ?_
 refine rv (v := .bool _) (v_geq il il) ?_
 refine rv (v := .bool _) (v_assign il nf) ?_
 refine r_nil ?_
 refine a_ret ?_
 refine ret1 Tryz.results25 (by decide) (by decide) (Weak.of_eq (bool_eq ?_)) rfl Leaves.nil
 rfl
end Go.Av
namespace Go.Av
open Go Go.Sort
theorem cmpI_lt (a b : Int) : (cmpI a b < 0) ↔ a < b := by unfold cmpI; split <;> (try split) <;> omega
theorem cmpI_swo : SWO (ltc cmpI) where
  irrefl x := by unfold ltc; rw [decide_eq_false_iff_not, cmpI_lt]; omega
  trans x y z h1 h2 := by unfold ltc at *; rw [decide_eq_true_iff, cmpI_lt] at *; omega
  ntrans x y z h1 h2 := by unfold ltc at *; rw [decide_eq_false_iff_not, cmpI_lt] at *; omega
def srtL (vs : List Int) : List Int := (Go.Sort.sort (ltc cmpI) vs.toArray).toList
theorem srtL_len (vs : List Int) : (srtL vs).length = vs.length := by
  have := (sort_facts cmpI_swo vs).2.2
  unfold srtL; simpa using this
theorem srtL_mem {vs : List Int} {x : Int} : x ∈ srtL vs ↔ x ∈ vs := (sort_facts cmpI_swo vs).1 x
theorem srtL_le {vs : List Int} {i j : Nat} (hij : i < j) (hj : j < vs.length) : gd (srtL vs) i ≤ gd (srtL vs) j := by
  have h := (sort_facts cmpI_swo vs).2
  have h2 := h.1 i j (by omega) hij hj
  have h3 : ¬ (Go.Sort.sort (ltc cmpI) vs.toArray)[j]! < (Go.Sort.sort (ltc cmpI) vs.toArray)[i]! := fun hlt => by
    have h4 : ltc cmpI (Go.Sort.sort (ltc cmpI) vs.toArray)[j]! (Go.Sort.sort (ltc cmpI) vs.toArray)[i]! = true := decide_eq_true ((cmpI_lt _ _).2 hlt)
    rw [h2] at h4; cases h4
  have e : ∀ k, k < vs.length → gd (srtL vs) k = (Go.Sort.sort (ltc cmpI) vs.toArray)[k]! := fun k hk => by
    unfold gd srtL
    rw [getElem!_pos _ k (by rw [h.2]; exact hk)]
    rw [Array.getElem?_toList, Array.getElem?_eq_getElem (by rw [h.2]; exact hk)]; rfl
  rw [e i (by omega), e j hj]; omega
def ordB (vars : Int) (vs : List Int) : Bool := decide (srtL vs = upL vars)
theorem upL_length (n : Int) : (upL n).length = n.toNat := by simp [upL]
theorem upL_at {n : Int} {i : Nat} (h : i < n.toNat) : gd (upL n) i = (i : Int) + 1 := by unfold gd upL; simp [h]
theorem idx_all {n : Nat} {f : Nat → Nat} (hlt : ∀ i, i < n → f i < n) (hs : ∀ i j, i < j → j < n → f i < f j) : ∀ i, i < n → f i = i := by
  have lo : ∀ i, i < n → i ≤ f i := fun i => by
    induction i with
    | zero => intro _; omega
    | succ i ih => intro h; have h1 := ih (by omega); have h2 := hs i (i + 1) (by omega) h; omega
  have hi : ∀ k i, i + k + 1 = n → f i ≤ i := fun k => by
    induction k with
    | zero => intro i h; have := hlt i (by omega); omega
    | succ k ih => intro i h; have h1 := ih (i + 1) (by omega); have h2 := hs i (i + 1) (by omega) (by omega); omega
  intro i h
  have h1 := lo i h
  have h2 := hi (n - i - 1) i (by omega)
  omega
theorem ord_iff {vars : Int} {vs : List Int} : srtL vs = upL vars ↔ vs.length = vars.toNat ∧ ∀ v, 1 ≤ v → v ≤ vars → v ∈ vs := by
  constructor
  · intro h
    refine ⟨by rw [← srtL_len, h, upL_length], fun v h1 h2 => ?_⟩
    rw [← srtL_mem, h]; exact mem_upL.2 ⟨h1, h2⟩
  · rintro ⟨hl, hm⟩
    have hx : ∀ i : Nat, i < vars.toNat → ∃ j, j < vars.toNat ∧ gd (srtL vs) j = (i : Int) + 1 := fun i hi => by
      obtain ⟨j, hj, he⟩ := mem_gd (srtL_mem.2 (hm ((i : Int) + 1) (by omega) (by omega)))
      rw [srtL_len] at hj
      exact ⟨j, by omega, he⟩
    let f : Nat → Nat := fun i => if h : i < vars.toNat then Classical.choose (hx i h) else 0
    have hf : ∀ i (h : i < vars.toNat), f i < vars.toNat ∧ gd (srtL vs) (f i) = (i : Int) + 1 := fun i h => by
      show (if h : i < vars.toNat then Classical.choose (hx i h) else 0) < _ ∧ gd (srtL vs) (if h : i < vars.toNat then Classical.choose (hx i h) else 0) = _
      rw [dif_pos h]; exact Classical.choose_spec (hx i h)
    have hid := idx_all (fun i h => (hf i h).1) (fun i j hij hj => by
      have h1 := hf i (by omega)
      have h2 := hf j hj
      rcases Nat.lt_or_ge (f i) (f j) with h | h
      · exact h
      · exfalso
        rcases Nat.eq_or_lt_of_le h with h3 | h3
        · rw [h3, h1.2] at h2; omega
        · have h4 := srtL_le (vs := vs) h3 (by omega)
          rw [h1.2, h2.2] at h4; omega)
    apply List.ext_getElem?
    intro i
    by_cases hi : i < vars.toNat
    · rw [gd_get (show i < (srtL vs).length by rw [srtL_len]; omega), gd_get (show i < (upL vars).length by rw [upL_length]; exact hi), upL_at hi]
      have := (hf i hi).2
      rw [hid i hi] at this; rw [this]
    · rw [List.getElem?_eq_none (by rw [srtL_len]; omega), List.getElem?_eq_none (by rw [upL_length]; omega)]
theorem ordB_len {vars : Int} {vs : List Int} (hv : 0 ≤ vars) (h : ¬ (vs.length : Int) = vars) : ordB vars vs = false := decide_eq_false fun he => h (by have := (ord_iff.1 he).1; omega)
theorem ordB_no {vars : Int} {vs : List Int} {v : Int} (h : 1 ≤ v ∧ v ≤ vars) (hn : ¬ v ∈ vs) : ordB vars vs = false := decide_eq_false fun he => hn ((ord_iff.1 he).2 v h.1 h.2)
theorem ordB_yes {vars : Int} {vs : List Int} (hl : (vs.length : Int) = vars) (h : ∀ v, 1 ≤ v → v ≤ vars → v ∈ vs) : ordB vars vs = true := decide_eq_true (ord_iff.2 ⟨by omega, h⟩)
theorem ordB_mem {vars : Int} {vs : List Int} (h : ordB vars vs = true) {v : Int} : v ∈ vs ↔ 1 ≤ v ∧ v ≤ vars := by
  rw [← srtL_mem, of_decide_eq_true h]; exact mem_upL
theorem ord_ok {vars : Int} {vs : List Int} (h : ordB vars vs = true) : AskOk vars (fopen vs) := fun a _ => by
  rcases fopen_ways vs a with ⟨h1, _⟩ | ⟨h1, h2⟩
  · exact .inl h1
  · have h3 := (ordB_mem h).1 h1
    have h4 := opB_spec.1 h2
    exact .inr ⟨h3.1, h3.2, h4.1, h4.2⟩
theorem ord_all {vars : Int} {vs : List Int} (h : ordB vars vs = true) {a : List Int} (h0 : fopen vs a = 0) : ∀ v, 1 ≤ v → v ≤ vars → v ∈ a ∨ -v ∈ a := fun v h1 h2 => by
  rcases fopen_ways vs a with ⟨_, g2⟩ | ⟨g1, _⟩
  · have g3 := g2 v ((ordB_mem h).2 ⟨h1, h2⟩)
    by_cases hv : v ∈ a
    · exact .inl hv
    · by_cases hv2 : -v ∈ a
      · exact .inr hv2
      · rw [opB_spec.2 ⟨hv, hv2⟩] at g3; cases g3
  · have := (ordB_mem h).1 g1; omega
theorem ord_sm {vars : Int} {vs : List Int} (hv : 0 ≤ vars ∧ vars ≤ 12) (h : ordB vars vs = true) : SmI vs := SmI.of fun x hx => by have := (ordB_mem h).1 hx; omega
def toOk (vars : Int) (L : List (List Int)) (vs : List Int) : Bool := cnfB vars L && ordB vars vs
end Go.Av
namespace Go.Av
open Go
theorem ext_gdA {a b : List Int} (hl : a.length = b.length) (h : ∀ j, j < a.length → gd a j = gd b j) : a = b := by
  apply List.ext_getElem? 
  intro j
  by_cases hj : j < a.length
  · rw [gd_get hj, gd_get (show j < b.length by omega), h j hj]
  · rw [List.getElem?_eq_none (by omega), List.getElem?_eq_none (by omega)]
end Go.Av
namespace Go.Av
open Go Go.Proofs Go.Sort
set_option maxRecDepth 10000
theorem hb55 : hasBody Tryz.prog 55 = true := by kernel_rfl
theorem hb56 : hasBody Tryz.prog 56 = true := by kernel_rfl
theorem hb57 : hasBody Tryz.prog 57 = true := by kernel_rfl
theorem equalI_c (a b : List Int) (ha : a.length ≤ 1048576) (hb : b.length ≤ 1048576) : ACall Tryz.prog 56 [.sl (icells a) a.length, .sl (icells b) b.length] [] (.bool (decide (a = b))) [] := by
 refine ACall.intro Tryz.func56 rfl (N := 26) rfl (by decide) (by simp) ?_
 refine a_seq ?_
 refine a_region ?_
 refine rv (v := .bool _) (v_assign il nf) ?_
 refine r_nil ?_
 refine a_seq ?_
 refine a_seq ?_
 refine a_region ?_
 refine rv (v := .sl _ _) (v_move il nf) ?_
 refine rv (v := .int _ _) (v_len_sl sl25 il) ?_
 refine rv (v := .sl _ _) (v_move il nf) ?_
 refine rv (v := .int _ _) (v_len_sl sl25 il) ?_
 refine rv (v := .bool _) (v_neq il il) ?_
 refine r_nil ?_
 refine a_cond rfl (fun ht10 => ?_) (fun ht10 => ?_)
 ·
  skip
  refine a_seq ?_
  refine a_region ?_
  refine rv (v := .bool _) (v_assign il nf) ?_
  refine r_nil ?_
  refine a_ret ?_
  refine ret1 Tryz.results56 (by decide) (by decide) (Weak.of_eq (bool_eq ?_)) rfl Leaves.nil
  exact (decide_eq_false (fun h => by subst h; simp at ht10)).symm
 ·
  skip
  refine a_skip ?_
  refine a_seq ?_
  refine a_seq ?_
  have hlen : a.length = b.length := (by simp at ht10; omega)
  refine a_region ?_
  refine rv (v := .sl _ _) (v_move il nf) ?_
  refine rv (v := .int _ _) (v_len_sl sl25 il) ?_
  refine rv (v := .int _ _) (v_move il nf) ?_
  refine r_nil ?_
  refine a_block ?_
  refine a_loop (X := Nat) (fun i => look [(0, .sl (icells a) a.length), (1, .sl (icells b) b.length), (12, .int .i64 ((a.length : Nat) : Int)), (13, .int .i64 ((i : Nat) : Int))]) (fun i => i ≤ a.length ∧ ∀ j, j < i → gd a j = gd b j) (fun i => a.length - i) 0 (ent_look ⟨Weak.of_eq rfl, Weak.of_eq rfl, Weak.of_eq rfl, Weak.of_eq rfl, trivial⟩) ⟨Nat.zero_le _, fun j h => by omega⟩ (fun i hG => ?_)
  obtain ⟨g1, g2⟩ := hG
  refine a_seq ?_
  refine a_region ?_
  refine rv (v := .bool _) (v_lss il il) ?_
  refine r_nil ?_
  refine a_seq ?_
  refine a_cond rfl (fun ht14 => ?_) (fun ht14 => ?_)
  ·
   skip
   refine a_skip ?_
   refine a_seq ?_
   refine a_block ?_
   refine a_seq ?_
   have hi : i < a.length := (by simp at ht14; omega)
   have hib : i < b.length := (by omega)
   refine a_region ?_
   refine rv (v := .int _ _) (v_move il nf) ?_
   refine rv (v := .int _ _) (v_assign il nf) ?_
   refine r_nil ?_
   refine a_seq ?_
   refine a_region_any mixed (by kernel_rfl) ?_
   refine yv (v := .sl _ _) (v_move il nf) ?_
   refine yv (v := .int _ _) (v_move il nf) ?_
   refine yv (v := .pp _ _) (v_indexAddr_sl es25 il il (fun _ => ⟨by omega, by omega, icells_ne hi⟩)) ?_
   refine yv (v := .int .i64 (gd a i)) (v_load_pp ta3 il (fun _ => by rw [Nat.mul_one]; exact icells_get (gd_get hi)) rfl) ?_
   refine yv (v := .sl _ _) (v_move il nf) ?_
   refine yv (v := .int _ _) (v_move il nf) ?_
   refine yv (v := .pp _ _) (v_indexAddr_sl es25 il il (fun _ => ⟨by omega, by omega, icells_ne hib⟩)) ?_
   refine yv (v := .int .i64 (gd b i)) (v_load_pp ta3 il (fun _ => by rw [Nat.mul_one]; exact icells_get (gd_get hib)) rfl) ?_
   refine yv (v := .bool _) (v_neq il il) ?_
   refine y_nil ?_
   refine a_cond rfl (fun ht24 => ?_) (fun ht24 => ?_)
   ·
    skip
    refine a_seq ?_
    refine a_region ?_
    refine rv (v := .bool _) (v_assign il nf) ?_
    refine r_nil ?_
    refine a_ret ?_
    refine ret1 Tryz.results56 (by decide) (by decide) (Weak.of_eq (bool_eq ?_)) rfl Leaves.nil
    exact (decide_eq_false (fun h => by subst h; simp at ht24)).symm
   ·
    skip
    refine a_skip ?_
    refine a_region ?_
    refine rv (v := .int _ _) (v_add il il (fun _ => by omega)) ?_
    refine rv (v := .int _ _) (v_move il nf) ?_
    refine r_nil ?_
    refine ⟨i + 1, ent_look ⟨Weak.of_eq rfl, Weak.of_eq rfl, Weak.of_eq rfl, Weak.of_eq (int_eq (by omega)), trivial⟩, ⟨by omega, fun j h1 => by rcases Nat.lt_or_ge j i with h | h; exact g2 j h; (obtain rfl : j = i := by omega); simpa using ht24⟩, by omega⟩
  ·
   skip
   refine a_exit ?_
   refine a_seq ?_
   refine a_region ?_
   refine rv (v := .bool _) (v_assign il nf) ?_
   refine r_nil ?_
   refine a_ret ?_
   refine ret1 Tryz.results56 (by decide) (by decide) (Weak.of_eq (bool_eq ?_)) rfl Leaves.nil
   simp at ht14; exact (decide_eq_true (ext_gdA hlen (fun j hj => g2 j (by omega)))).symm
theorem orderOk_c (n : Int) (vs : List Int) (hn : 0 ≤ n ∧ n ≤ 12) (hvl : vs.length ≤ 1048576) : ACall Tryz.prog 30 [.int .i64 n, .sl (icells vs) vs.length] [] (.bool (ordB n vs)) [] := by
 have hul := upL_len hn
 have hsl := srtL_len vs
 refine ACall.intro Tryz.func30 rfl (N := 14) rfl (by decide) (by simp) ?_
 refine a_seq ?_
 refine a_region ?_
 refine rv (v := .bool _) (v_assign il nf) ?_
 refine r_nil ?_
 refine a_seq ?_
 refine a_region ?_
 refine rv (v := .sl _ _) (v_move il nf) ?_
 refine rn (v := .osl _ _ _ _) (q_call (vs := [.sl _ _]) (args := [.sl _ _]) hb54 ⟨il, trivial⟩ rfl (fun hA => cloneI_c _ _ ⟨rfl, by omega⟩) (ic_noSh _) (ic_noRef _)) ?_
 refine rv (v := .rsl _ _ _ _ _) (v_assign il nf) ?_
 refine r_pre (ent_reloc_sl (t := 5) rfl rfl) ?_
 refine r_nil ?_
 refine a_seq ?_
 refine a_region ?_
 refine rv (v := .rsl _ _ _ _ _) (v_move il nf) ?_
 refine r_step rfl (o_callIO (q := (5, [])) (vs := [.rsl _ _ _ _ _]) (args := [.rsl (INH, []) _ _ _ _]) (x0 := .osl _ _ _ _) (x1 := .osl _ _ _ _) (res := .tup []) rfl hb55 rfl (by decide) ⟨.inl rfl, trivial⟩ rfl rfl (sortQ_c cmpI_swo vs.toArray vs.length (by simp) (by omega)) rfl rfl rfl (ac_noSh _) (ac_noRef _) (Nat.le_of_ble_eq_true rfl) (by decide) rfl) ?_
 refine r_nil ?_
 refine a_seq ?_
 refine a_pre (ent_eq (t := 5) (v' := .osl 1 (icells (srtL vs)) (srtL vs).length none) (Weak.osl rfl hsl.symm)) ?_
 refine a_region ?_
 refine rv (v := .rsl _ _ _ _ _) (v_move il nf) ?_
 refine rv (v := .int _ _) (v_move il nf) ?_
 refine rn (v := .osl _ _ _ _) (q_call (vs := [.int _ _]) (args := [.int .i64 _]) hb57 ⟨il, trivial⟩ rfl (fun hA => upTo9_c n hn) (ic_noSh _) (ic_noRef _)) ?_
 refine rn (v := .bool _) (q_call (vs := [.rsl _ _ _ _ _, .rsl _ _ _ _ _]) (args := [.sl _ _, .sl _ _]) hb56 ⟨il, il, trivial⟩ (l2_eq (sl_sh (ic_pure _)) (sl_sh (ic_pure _))) (fun hA => equalI_c (srtL vs) (upL n) (by omega) (by omega)) rfl rfl) ?_
 refine rv (v := .bool _) (v_assign il nf) ?_
 refine r_nil ?_
 refine a_ret ?_
 refine ret1 Tryz.results30 (by decide) (by decide) (Weak.of_eq (bool_eq ?_)) rfl Leaves.nil
 rfl
theorem order8_c (n : Int) (vs : List Int) (hn : 0 ≤ n ∧ n ≤ 12) (hvl : vs.length ≤ 1048576) : ACall Tryz.prog 24 [.int .i64 n, .sl (icells vs) vs.length] [] (.bool (ordB n vs)) [] := by
 refine ACall.intro Tryz.func24 rfl (N := 19) rfl (by decide) (by simp) ?_
 refine a_seq ?_
 refine a_region ?_
 refine rv (v := .bool _) (v_assign il nf) ?_
 refine r_nil ?_
 refine a_seq ?_
 refine a_seq ?_
 refine a_region ?_
 refine rv (v := .sl _ _) (v_move il nf) ?_
 refine rv (v := .int _ _) (v_len_sl sl25 il) ?_
 refine rv (v := .int _ _) (v_move il nf) ?_
 refine rv (v := .bool _) (v_neq il il) ?_
 refine r_nil ?_
 refine a_cond rfl (fun ht9 => ?_) (fun ht9 => ?_)
 ·
  skip
  refine a_seq ?_
  refine a_region ?_
  refine rv (v := .bool _) (v_assign il nf) ?_
  refine r_nil ?_
  refine a_ret ?_
  refine ret1 Tryz.results24 (by decide) (by decide) (Weak.of_eq (bool_eq ?_)) rfl Leaves.nil
  exact (ordB_len hn.1 (by simpa using ht9)).symm
 ·
  skip
  refine a_skip ?_
  refine a_seq ?_
  refine a_seq ?_
  refine a_region ?_
  refine rv (v := .int _ _) (v_assign il nf) ?_
  refine r_nil ?_
  refine a_block ?_
  refine a_loop (X := Nat) (fun k => look [(0, .int .i64 n), (1, .sl (icells vs) vs.length), (5, .int .i64 ((k + 1 : Nat) : Int))]) (fun k => (k : Int) ≤ n ∧ ∀ v, 1 ≤ v → v ≤ (k : Int) → v ∈ vs) (fun k => n.toNat - k) 0 (ent_look ⟨Weak.of_eq rfl, Weak.of_eq rfl, Weak.of_eq rfl, trivial⟩) ⟨by omega, fun v h1 h2 => by omega⟩ (fun k hG => ?_)
  obtain ⟨g1, g2⟩ := hG
  refine a_seq ?_
  refine a_seq ?_
  refine a_region ?_
  refine rv (v := .int _ _) (v_move il nf) ?_
  refine rv (v := .int _ _) (v_move il nf) ?_
  refine rv (v := .bool _) (v_leq il il) ?_
  refine r_nil ?_
  refine a_cond rfl (fun ht12 => ?_) (fun ht12 => ?_)
  ·
   skip
   refine a_skip ?_
   refine a_seq ?_
   refine a_block ?_
   refine a_seq ?_
   have hi : ((k + 1 : Nat) : Int) ≤ n := (by simpa using ht12)
   refine a_region ?_
   refine rv (v := .sl _ _) (v_move il nf) ?_
   refine rv (v := .int _ _) (v_move il nf) ?_
   refine rn (v := .bool _) (q_call (vs := [.sl _ _, .int _ _]) (args := [.sl _ _, .int .i64 _]) hb48 ⟨il, il, trivial⟩ rfl (fun hA => has_c vs vs.length _ ⟨rfl, by omega⟩) rfl rfl) ?_
   refine rv (v := .bool _) (v_not il) ?_
   refine r_nil ?_
   refine a_cond rfl (fun ht18 => ?_) (fun ht18 => ?_)
   ·
    skip
    refine a_seq ?_
    refine a_region ?_
    refine rv (v := .bool _) (v_assign il nf) ?_
    refine r_nil ?_
    refine a_ret ?_
    refine ret1 Tryz.results24 (by decide) (by decide) (Weak.of_eq (bool_eq ?_)) rfl Leaves.nil
    exact (ordB_no (v := ((k + 1 : Nat) : Int)) ⟨by omega, hi⟩ (by simpa using ht18)).symm
   ·
    skip
    refine a_skip ?_
    refine a_region ?_
    refine rv (v := .int _ _) (v_move il nf) ?_
    refine rv (v := .int _ _) (v_add il il (fun _ => by omega)) ?_
    refine rv (v := .int _ _) (v_assign il nf) ?_
    refine r_nil ?_
    refine ⟨k + 1, ent_look ⟨Weak.of_eq rfl, Weak.of_eq rfl, Weak.of_eq (int_eq (by omega)), trivial⟩, ⟨by omega, fun v h1 h2 => by rcases Int.lt_or_le (k : Int) v with h | h; (obtain rfl : v = ((k + 1 : Nat) : Int) := by omega); (simpa using ht18); exact g2 v h1 h⟩, by omega⟩
  ·
   skip
   refine a_exit ?_
   refine a_seq ?_
   refine a_region ?_
   refine rv (v := .bool _) (v_assign il nf) ?_
   refine r_nil ?_
   refine a_ret ?_
   refine ret1 Tryz.results24 (by decide) (by decide) (Weak.of_eq (bool_eq ?_)) rfl Leaves.nil
   exact (ordB_yes (by simpa using ht9) (fun v h1 h2 => g2 v h1 (by simp at ht12; omega))).symm
end Go.Av
namespace Go.Av
open Go Go.Proofs Go.Sort
set_option maxRecDepth 10000
theorem hb29 : hasBody Tryz.prog 29 = true := by kernel_rfl
theorem hb30 : hasBody Tryz.prog 30 = true := by kernel_rfl
theorem hb33 : hasBody Tryz.prog 33 = true := by kernel_rfl
end Go.Av
namespace Go.Av
open Go
mutual
theorem passV_congr {q : Place} {σ σ0 : Sig} : ∀ (x : AV), (∀ p ∈ refs x, σ p.1 = σ0 p.1) → passV q σ x = passV q σ0 x
  | .rsl p sz off n cap, h => by
    simp only [passV]; split
    · rfl
    · exact snapV_congr _ h
  | .rp p off, h => by
    simp only [passV]; split
    · rfl
    · exact snapV_congr _ h
  | .agg cs, h => by simp only [passV, passL_congr cs (fun p hp => h p (by simpa [refs] using hp))]
  | .fn f us cs, h => by simp only [passV, passL_congr us (fun p hp => h p (by simp [refs, hp])), passL_congr cs (fun p hp => h p (by simp [refs, hp]))]
  | .undef, h | .int .., h | .bool _, h | .str _, h | .nilp, h | .nils, h | .emp, h | .sl .., h | .pp .., h | .tup _, h | .when .., h | .osl .., h | .op _, h => by simp only [passV]; exact snapV_congr _ h
theorem passL_congr {q : Place} {σ σ0 : Sig} : ∀ (cs : List AV), (∀ p ∈ refsL cs, σ p.1 = σ0 p.1) → passL q σ cs = passL q σ0 cs
  | [], _ => rfl
  | c :: cs, h => by simp only [passL, passV_congr c (fun p hp => h p (by simp [refsL, hp])), passL_congr cs (fun p hp => h p (by simp [refsL, hp]))]
end
end Go.Av
