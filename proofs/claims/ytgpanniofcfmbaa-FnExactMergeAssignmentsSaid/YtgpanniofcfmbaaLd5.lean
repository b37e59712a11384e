/- Lemmas, part 5. -/
import Derived.Test.YtgpanniofcfmbaaLd4
import Derived.Test.YtgpanniofcfmbaaRows
set_option linter.unusedVariables false
set_option linter.unusedSimpArgs false
namespace Go.Av
open Go Go.Proofs Go.Sort
set_option maxRecDepth 10000
theorem hb134 : hasBody Try.prog 134 = true := by kernel_rfl
theorem hb155 : hasBody Try.prog 155 = true := by kernel_rfl

theorem has_c (c : List Int) (n : Nat) (l : Int) (hl : c.length = n ∧ n ≤ 9223372036854775807) : ACall Try.prog 155 [.sl (icells c) n, .int .i64 l] [] (.bool (decide (l ∈ c))) [] := by
  refine ACall.intro Try.func155 rfl (N := 18) rfl (by decide) (by simp) ?_
  refine a_seq ?_
  refine a_region ?_
  refine r_val (v := .bool _) (v_assign (.inl rfl) (noOwn_flat rfl)) rfl rfl (by decide) ?_
  refine r_nil ?_
  refine a_seq ?_
  refine a_seq ?_
  refine a_region ?_
  refine r_val (v := .int _ _) (v_assign (.inl rfl) (noOwn_flat rfl)) rfl rfl (by decide) ?_
  refine r_nil ?_
  refine a_block ?_
  refine a_loop (X := Nat) (fun i => look [(0, .sl (icells c) n), (1, .int .i64 l), (5, .int .i64 ((i : Nat) : Int))]) (fun i => i ≤ n ∧ ∀ j, j < i → gd c j ≠ l) (fun i => n - i) 0 (ent_look ⟨Weak.of_eq rfl, Weak.of_eq rfl, Weak.of_eq rfl, trivial⟩) ⟨Nat.zero_le _, fun j h => by omega⟩ (fun i hG => ?_)
  obtain ⟨g1, g2⟩ := hG
  refine a_seq ?_
  refine a_seq ?_
  refine a_region ?_
  refine r_val (v := .int _ _) (v_move (.inl rfl) (noOwn_flat rfl)) rfl rfl (by decide) ?_
  refine r_val (v := .sl _ _) (v_move (.inl rfl) (noOwn_flat rfl)) rfl rfl (by decide) ?_
  refine r_val (v := .int _ _) (v_len_sl sl25 (.inl rfl)) rfl rfl (by decide) ?_
  refine r_val (v := .bool _) (v_lss (.inl rfl) (.inl rfl)) rfl rfl (by decide) ?_
  refine r_nil ?_
  refine a_cond rfl (fun ht9 => ?_) (fun ht9 => ?_)
  ·
    skip
    refine a_skip ?_
    refine a_seq ?_
    refine a_block ?_
    refine a_seq ?_
    have hi : i < c.length := (by simp at ht9; omega)
    refine a_region ?_
    refine r_val (v := .sl _ _) (v_move (.inl rfl) (noOwn_flat rfl)) rfl rfl (by decide) ?_
    refine r_val (v := .int _ _) (v_move (.inl rfl) (noOwn_flat rfl)) rfl rfl (by decide) ?_
    refine r_val (v := .pp _ _) (v_indexAddr_sl es25 (.inl rfl) (.inl rfl) (fun _ => ⟨by omega, by omega, icells_ne hi⟩)) rfl rfl (by decide) ?_
    refine r_val (v := .int .i64 (gd c i)) (v_load_pp ta3 (.inl rfl) (fun _ => by rw [Nat.mul_one]; exact icells_get (gd_get hi)) rfl) rfl rfl (by decide) ?_
    refine r_val (v := .int _ _) (v_move (.inl rfl) (noOwn_flat rfl)) rfl rfl (by decide) ?_
    refine r_val (v := .bool _) (v_eql (.inl rfl) (.inl rfl)) rfl rfl (by decide) ?_
    refine r_nil ?_
    refine a_cond rfl (fun ht17 => ?_) (fun ht17 => ?_)
    ·
      skip
      refine a_seq ?_
      refine a_region ?_
      refine r_val (v := .bool _) (v_assign (.inl rfl) (noOwn_flat rfl)) rfl rfl (by decide) ?_
      refine r_nil ?_
      refine a_ret ?_
      refine ret1 Try.results155 (by decide) (by decide) (Weak.of_eq (bool_eq ?_)) rfl Leaves.nil
      rw [decide_eq_true]; rw [← of_decide_eq_true ht17]; exact gd_mem hi
    ·
      skip
      refine a_skip ?_
      refine a_region ?_
      refine r_val (v := .int _ _) (v_move (.inl rfl) (noOwn_flat rfl)) rfl rfl (by decide) ?_
      refine r_val (v := .int _ _) (v_add (.inl rfl) (.inl rfl) (fun _ => by omega)) rfl rfl (by decide) ?_
      refine r_val (v := .int _ _) (v_assign (.inl rfl) (noOwn_flat rfl)) rfl rfl (by decide) ?_
      refine r_nil ?_
      refine ⟨i + 1, ent_look ⟨Weak.of_eq rfl, Weak.of_eq rfl, Weak.of_eq (int_eq (by omega)), trivial⟩, ⟨by omega, fun j h1 => by rcases Nat.lt_or_ge j i with h | h; exact g2 j h; (obtain rfl : j = i := by omega); simpa using ht17⟩, by omega⟩
  ·
    skip
    refine a_exit ?_
    refine a_seq ?_
    refine a_region ?_
    refine r_val (v := .bool _) (v_assign (.inl rfl) (noOwn_flat rfl)) rfl rfl (by decide) ?_
    refine r_nil ?_
    refine a_ret ?_
    refine ret1 Try.results155 (by decide) (by decide) (Weak.of_eq (bool_eq ?_)) rfl Leaves.nil
    simp; intro h; obtain ⟨j, hj, hx⟩ := mem_gd h; exact g2 j (by simp at ht9; omega) hx

theorem has2_c (c : List Int) (n : Nat) (l : Int) (hl : c.length = n ∧ n ≤ 9223372036854775807) : ACall Try.prog 135 [.sl (icells c) n, .int .i64 l] [] (.bool (decide (l ∈ c))) [] := by
  refine ACall.intro Try.func135 rfl (N := 8) rfl (by decide) (by simp) ?_
  refine a_seq ?_
  refine a_region ?_
  refine r_val (v := .bool _) (v_assign (.inl rfl) (noOwn_flat rfl)) rfl rfl (by decide) ?_
  refine r_nil ?_
  refine a_seq ?_
  refine a_region ?_
  refine r_val (v := .sl _ _) (v_move (.inl rfl) (noOwn_flat rfl)) rfl rfl (by decide) ?_
  refine r_val (v := .int _ _) (v_move (.inl rfl) (noOwn_flat rfl)) rfl rfl (by decide) ?_
  refine r_new (v := .bool _) (q_call (vs := [.sl _ _, .int _ _]) (args := [.sl _ _, .int .i64 _]) hb155 ⟨.inl rfl, .inl rfl, trivial⟩ rfl (fun hA => has_c _ _ _ hl) rfl rfl) rfl rfl (by decide) ?_
  refine r_val (v := .bool _) (v_assign (.inl rfl) (noOwn_flat rfl)) rfl rfl (by decide) ?_
  refine r_nil ?_
  refine a_ret ?_
  refine ret1 Try.results135 (by decide) (by decide) (Weak.of_eq (bool_eq ?_)) rfl Leaves.nil
  rfl

theorem put_c (c : List Int) (n : Nat) (l : Int) (hl : c.length = n ∧ n ≤ 1048576) (hs : SmI c) (hb : -4611686018427387904 ≤ l ∧ l ≤ 4611686018427387904) : ACall Try.prog 136 [.sl (icells c) n, .int .i64 l] [] (.osl 1 (icells (putL c l)) (n + 1) none) [] := by
  refine ACall.intro Try.func136 rfl (N := 33) rfl (by decide) (by simp) ?_
  refine a_seq ?_
  refine a_region ?_
  refine r_val (v := .nils) (v_assign (.inl rfl) (noOwn_flat rfl)) rfl rfl (by decide) ?_
  refine r_nil ?_
  refine a_seq ?_
  refine a_region ?_
  refine r_val (v := .int _ _) (v_assign (.inl rfl) (noOwn_flat rfl)) rfl rfl (by decide) ?_
  refine r_nil ?_
  refine a_seq ?_
  refine a_block ?_
  refine a_loop (X := Nat) (fun i => look [(0, .sl (icells c) n), (1, .int .i64 l), (5, .int .i64 ((i : Nat) : Int))]) (fun i => i ≤ n ∧ c.take i ++ putL (c.drop i) l = putL c l) (fun i => n - i) 0 (ent_look ⟨Weak.of_eq rfl, Weak.of_eq rfl, Weak.of_eq rfl, trivial⟩) ⟨Nat.zero_le _, rfl⟩ (fun i hG => ?_)
  obtain ⟨g1, g2⟩ := hG
  have hsi := hs i
  refine a_seq ?_
  refine a_seq ?_
  refine a_region ?_
  refine r_val (v := .int _ _) (v_move (.inl rfl) (noOwn_flat rfl)) rfl rfl (by decide) ?_
  refine r_val (v := .sl _ _) (v_move (.inl rfl) (noOwn_flat rfl)) rfl rfl (by decide) ?_
  refine r_val (v := .int _ _) (v_len_sl sl25 (.inl rfl)) rfl rfl (by decide) ?_
  refine r_val (v := .bool _) (v_lss (.inl rfl) (.inl rfl)) rfl rfl (by decide) ?_
  refine r_val (v := .bool _) (v_move (.inl rfl) (noOwn_flat rfl)) rfl rfl (by decide) ?_
  refine r_gval (v := .sl _ _) (v_move (.inl rfl) (noOwn_flat rfl)) rfl rfl rfl (by decide) (.inl ⟨_, rfl, rfl⟩) rfl (by decide) ?_
  refine r_gval (v := .int _ _) (v_move (.inl rfl) (noOwn_flat rfl)) rfl rfl rfl (by decide) (.inl ⟨_, rfl, rfl⟩) rfl (by decide) ?_
  refine r_gval (v := .pp _ _) (v_indexAddr_sl es25 (.inr ⟨_, rfl, fun h => h⟩) (.inr ⟨_, rfl, fun h => h⟩) (fun hA => by simp at hA; exact ⟨by omega, by omega, icells_ne (show i < c.length by omega)⟩)) rfl rfl rfl (by decide) (.inl ⟨_, rfl, rfl⟩) rfl (by decide) ?_
  refine r_gval (v := .int .i64 (gd c i)) (v_load_pp ta3 (.inr ⟨_, rfl, fun h => h⟩) (fun hA => by simp at hA; rw [Nat.mul_one]; exact icells_get (gd_get (by omega))) rfl) rfl rfl rfl (by decide) (.inl ⟨_, rfl, rfl⟩) rfl (by decide) ?_
  refine r_guard (v := .int _ _) (q_call (vs := [.int _ _]) (args := [.int .i64 _]) hb133 ⟨.inr ⟨_, rfl, fun h => h⟩, trivial⟩ rfl (fun hA => l2Var_c _ (by omega)) rfl rfl) rfl rfl rfl (by decide) (.inl ⟨_, rfl, rfl⟩) rfl (by decide) ?_
  refine r_gval (v := .int _ _) (v_move (.inl rfl) (noOwn_flat rfl)) rfl rfl rfl (by decide) (.inl ⟨_, rfl, rfl⟩) rfl (by decide) ?_
  refine r_guard (v := .int _ _) (q_call (vs := [.int _ _]) (args := [.int .i64 _]) hb133 ⟨.inr ⟨_, rfl, fun h => h⟩, trivial⟩ rfl (fun hA => l2Var_c _ (by omega)) rfl rfl) rfl rfl rfl (by decide) (.inl ⟨_, rfl, rfl⟩) rfl (by decide) ?_
  refine r_gval (v := .bool _) (v_lss (.inr ⟨_, rfl, fun h => h⟩) (.inr ⟨_, rfl, fun h => h⟩)) rfl rfl rfl (by decide) (.inl ⟨_, rfl, rfl⟩) rfl (by decide) ?_
  refine r_val (v := .bool _) (v_pick (.inl rfl) (.inr ⟨_, rfl, fun h h2 => by simp_all⟩) (.inl rfl)) rfl rfl (by decide) ?_
  refine r_nil ?_
  refine a_cond rfl (fun ht19 => ?_) (fun ht19 => ?_)
  ·
    skip
    refine a_skip ?_
    refine a_block ?_
    refine a_region ?_
    refine r_val (v := .int _ _) (v_move (.inl rfl) (noOwn_flat rfl)) rfl rfl (by decide) ?_
    refine r_val (v := .int _ _) (v_add (.inl rfl) (.inl rfl) (fun _ => by omega)) rfl rfl (by decide) ?_
    refine r_val (v := .int _ _) (v_assign (.inl rfl) (noOwn_flat rfl)) rfl rfl (by decide) ?_
    refine r_nil ?_
    refine ⟨i + 1, ent_look ⟨Weak.of_eq rfl, Weak.of_eq rfl, Weak.of_eq (int_eq (by omega)), trivial⟩, ⟨by simp at ht19; omega, by simp at ht19; rw [put_more (by omega) ht19.2, g2]⟩, by simp at ht19; omega⟩
  ·
    skip
    refine a_exit ?_
    refine a_seq ?_
    have hst : putL (c.drop i) l = l :: c.drop i := put_stop (fun h => by simp at ht19; exact Int.not_lt.2 (ht19 (by omega)))
    refine a_region_x [[(22, true)], [(23, true)], [(24, true)], [(25, true)], [(26, true)], [(27, true)], [(25, false), (28, true)], [(29, true)], [(30, true)], [(31, true)], [(28, false), (32, true)], [(4, true)]] mixed (by kernel_rfl) ?_
    refine x_val (v := .sl _ _) (v_move (.inl rfl) (noOwn_flat rfl)) rfl rfl (by decide) rfl (by kernel_rfl) ?_
    refine x_val (v := .int _ _) (v_move (.inl rfl) (noOwn_flat rfl)) rfl rfl (by decide) rfl (by kernel_rfl) ?_
    refine x_val (v := .sl (icells (c.take i)) i) ((v_slice_sl (l := 0) (h := i) es25 (.inl rfl) (.inl ⟨rfl, rfl⟩) (.inr ⟨_, _, rfl, .inl rfl⟩) (fun _ => by omega)).cast (sl_eq2 (by simp [icells]) rfl)) rfl rfl (by decide) rfl (by kernel_rfl) ?_
    refine x_new (v := .osl _ _ _ _) (q_call (vs := [.sl _ _]) (args := [.sl _ _]) hb134 ⟨.inl rfl, trivial⟩ rfl (fun hA => l1Own_c (c.take i) i ⟨by rw [List.length_take]; omega, by omega⟩) (ic_noSh _) (ic_noRef _)) rfl rfl (by decide) rfl (by kernel_rfl) ?_
    refine x_val (v := .int _ _) (v_move (.inl rfl) (noOwn_flat rfl)) rfl rfl (by decide) rfl (by kernel_rfl) ?_
    refine x_new (v := .osl 1 (icells [l]) 1 (some 1)) (q_sliceLit (n := 1) (parts := [(0, .tmp 26)]) lt25 rfl rfl rfl rfl) rfl rfl (by decide) rfl (by kernel_rfl) ?_
    refine x_append rfl rfl ap25 rfl (by decide) (by decide) (by decide) rfl (src_lit (.inl rfl) rfl rfl (ic_pureL _)) (ic_cell _) (by rw [icells_length, List.length_take]; omega) (by omega) rfl (by kernel_rfl) ?_
    refine x_val (v := .sl _ _) (v_move (.inl rfl) (noOwn_flat rfl)) rfl rfl (by decide) rfl (by kernel_rfl) ?_
    refine x_val (v := .int _ _) (v_move (.inl rfl) (noOwn_flat rfl)) rfl rfl (by decide) rfl (by kernel_rfl) ?_
    refine x_val (v := .sl (icells (c.drop i)) (n - i)) ((v_slice_sl (l := i) (h := n) es25 (.inl rfl) (.inr ⟨_, _, rfl, .inl rfl⟩) (.inl ⟨rfl, rfl⟩) (fun _ => by omega)).cast (sl_eq2 (by rw [Nat.mul_one, Nat.mul_one, icells_drop, List.take_of_length_le (by rw [icells_length, List.length_drop]; omega)]) rfl)) rfl rfl (by decide) rfl (by kernel_rfl) ?_
    refine x_append rfl rfl ap25 rfl (by decide) (by decide) (by decide) rfl (src_sl (.inl rfl) (fun _ => by rw [icells_length, List.length_drop]; omega) (ic_pureL _)) (ic_cell _) (by rw [List.length_append, icells_length, icells_length, List.length_take]; simp; omega) (by omega) rfl (by kernel_rfl) ?_
    refine x_val (v := .rsl _ _ _ _ _) (v_assign (.inl rfl) (noOwn_flat rfl)) rfl rfl (by decide) rfl (by kernel_rfl) ?_
    refine x_nil ?_
    refine a_pre (ent_reloc_sl (t := 4) rfl rfl) ?_
    refine a_ret ?_
    refine ret1 Try.results136 (by decide) (by decide) (Weak.osl ?_ ?_) rfl Leaves.nil
    · rw [← g2, hst]; simp [icells]
    · omega
end Go.Av
namespace Go.Av
open Go Go.Proofs Go.Sort
set_option maxRecDepth 10000
theorem hb135 : hasBody Try.prog 135 = true := by kernel_rfl
theorem hb136 : hasBody Try.prog 136 = true := by kernel_rfl

theorem join_c (a b : List Int) (na nb : Nat) (ha : a.length = na ∧ na ≤ 524288) (hb : b.length = nb ∧ nb ≤ 524288) (sa : SmI a) (sb : SmI b) : ACall Try.prog 90 [.sl (icells a) na, .sl (icells b) nb] [] (.tup [.osl 1 (icells ((joinL a b).getD [])) ((joinL a b).getD []).length none, .bool (joinL a b).isSome]) [] := by
  refine ACall.intro Try.func90 rfl (N := 38) rfl (by decide) (by simp) ?_
  refine a_seq ?_
  refine a_region ?_
  refine r_val (v := .nils) (v_assign (.inl rfl) (noOwn_flat rfl)) rfl rfl (by decide) ?_
  refine r_val (v := .bool _) (v_assign (.inl rfl) (noOwn_flat rfl)) rfl rfl (by decide) ?_
  refine r_nil ?_
  refine a_seq ?_
  refine a_region ?_
  refine r_val (v := .sl _ _) (v_move (.inl rfl) (noOwn_flat rfl)) rfl rfl (by decide) ?_
  refine r_new (v := .osl _ _ _ _) (q_call (vs := [.sl _ _]) (args := [.sl _ _]) hb134 ⟨.inl rfl, trivial⟩ rfl (fun hA => l1Own_c a na ⟨ha.1, by omega⟩) (ic_noSh _) (ic_noRef _)) rfl rfl (by decide) ?_
  refine r_val (v := .rsl _ _ _ _ _) (v_assign (.inl rfl) (noOwn_flat rfl)) rfl rfl (by decide) ?_
  refine r_pre (ent_reloc_sl (t := 6) rfl rfl) ?_
  refine r_nil ?_
  refine a_seq ?_
  refine a_seq ?_
  refine a_region ?_
  refine r_val (v := .int _ _) (v_assign (.inl rfl) (noOwn_flat rfl)) rfl rfl (by decide) ?_
  refine r_nil ?_
  refine a_block ?_
  refine a_loop (X := (Nat × List Int)) (fun x => look [(1, .sl (icells b) nb), (6, .osl 1 (icells x.2) x.2.length none), (7, .int .i64 ((x.1 : Nat) : Int))]) (fun x => x.1 ≤ nb ∧ joinL x.2 (b.drop x.1) = joinL a b ∧ SmI x.2 ∧ x.2.length ≤ na + x.1) (fun x => nb - x.1) (0, a) (ent_look ⟨Weak.of_eq rfl, Weak.osl rfl ha.1.symm, Weak.of_eq rfl, trivial⟩) ⟨Nat.zero_le _, rfl, sa, by dsimp only; omega⟩ (fun x hG => ?_)
  obtain ⟨g1, g2, g3, g4⟩ := hG
  have hsb := sb x.1
  refine a_seq ?_
  refine a_seq ?_
  refine a_region ?_
  refine r_val (v := .int _ _) (v_move (.inl rfl) (noOwn_flat rfl)) rfl rfl (by decide) ?_
  refine r_val (v := .sl _ _) (v_move (.inl rfl) (noOwn_flat rfl)) rfl rfl (by decide) ?_
  refine r_val (v := .int _ _) (v_len_sl sl25 (.inl rfl)) rfl rfl (by decide) ?_
  refine r_val (v := .bool _) (v_lss (.inl rfl) (.inl rfl)) rfl rfl (by decide) ?_
  refine r_nil ?_
  refine a_cond rfl (fun ht13 => ?_) (fun ht13 => ?_)
  ·
    skip
    refine a_skip ?_
    refine a_seq ?_
    refine a_block ?_
    refine a_seq ?_
    refine a_seq ?_
    have hi : x.1 < b.length := (by simp at ht13; omega)
    refine a_region ?_
    refine r_val (v := .rsl _ _ _ _ _) (v_move (.inl rfl) (noOwn_flat rfl)) rfl rfl (by decide) ?_
    refine r_val (v := .sl _ _) (v_move (.inl rfl) (noOwn_flat rfl)) rfl rfl (by decide) ?_
    refine r_val (v := .int _ _) (v_move (.inl rfl) (noOwn_flat rfl)) rfl rfl (by decide) ?_
    refine r_val (v := .pp _ _) (v_indexAddr_sl es25 (.inl rfl) (.inl rfl) (fun _ => ⟨by omega, by omega, icells_ne hi⟩)) rfl rfl (by decide) ?_
    refine r_val (v := .int .i64 (gd b x.1)) (v_load_pp ta3 (.inl rfl) (fun _ => by rw [Nat.mul_one]; exact icells_get (gd_get hi)) rfl) rfl rfl (by decide) ?_
    refine r_val (v := .int _ _) (v_neg (.inl rfl) (fun _ => by omega)) rfl rfl (by decide) ?_
    refine r_new (v := .bool _) (q_call (vs := [.rsl _ _ _ _ _, .int _ _]) (args := [.sl _ _, .int .i64 _]) hb135 ⟨.inl rfl, .inl rfl, trivial⟩ (l2_eq (sl_sh (ic_pure _)) rfl) (fun hA => has2_c _ _ _ ⟨rfl, by omega⟩) rfl rfl) rfl rfl (by decide) ?_
    refine r_nil ?_
    refine a_cond rfl (fun ht22 => ?_) (fun ht22 => ?_)
    ·
      skip
      refine a_seq ?_
      refine a_region ?_
      refine r_new (v := .osl _ _ _ _) (q_sliceLit (n := 0) (parts := []) lt25 rfl rfl rfl rfl) rfl rfl (by decide) ?_
      refine r_val (v := .rsl _ _ _ _ _) (v_assign (.inl rfl) (noOwn_flat rfl)) rfl rfl (by decide) ?_
      refine r_pre (ent_reloc_sl (t := 4) rfl rfl) ?_
      refine r_val (v := .bool _) (v_assign (.inl rfl) (noOwn_flat rfl)) rfl rfl (by decide) ?_
      refine r_nil ?_
      refine a_ret ?_
      refine retL (rs := [.tmp 4, .tmp 5]) [(4, .osl _ _ _ none), (5, _)] ⟨Weak.osl rfl rfl, Weak.rfl, trivial⟩ rfl Try.results90 (by decide) ⟨by decide, by decide, rfl⟩ (by decide) (by decide) (l2_eq (osl_eq2 ?_ ?_) (bool_eq ?_)) (by simp [refsL, refs])
      all_goals (have hz : joinL a b = none := (by rw [← g2]; exact join_no hi (by simpa using ht22))); simp [hz, icells, rep]
    ·
      skip
      refine a_skip ?_
      refine a_seq ?_
      have hno : ¬ -(gd b x.1) ∈ x.2 := (by simpa using ht22)
      refine a_region ?_
      refine r_val (v := .rsl _ _ _ _ _) (v_move (.inl rfl) (noOwn_flat rfl)) rfl rfl (by decide) ?_
      refine r_val (v := .sl _ _) (v_move (.inl rfl) (noOwn_flat rfl)) rfl rfl (by decide) ?_
      refine r_val (v := .int _ _) (v_move (.inl rfl) (noOwn_flat rfl)) rfl rfl (by decide) ?_
      refine r_val (v := .pp _ _) (v_indexAddr_sl es25 (.inl rfl) (.inl rfl) (fun _ => ⟨by omega, by omega, icells_ne hi⟩)) rfl rfl (by decide) ?_
      refine r_val (v := .int .i64 (gd b x.1)) (v_load_pp ta3 (.inl rfl) (fun _ => by rw [Nat.mul_one]; exact icells_get (gd_get hi)) rfl) rfl rfl (by decide) ?_
      refine r_new (v := .bool _) (q_call (vs := [.rsl _ _ _ _ _, .int _ _]) (args := [.sl _ _, .int .i64 _]) hb135 ⟨.inl rfl, .inl rfl, trivial⟩ (l2_eq (sl_sh (ic_pure _)) rfl) (fun hA => has2_c _ _ _ ⟨rfl, by omega⟩) rfl rfl) rfl rfl (by decide) ?_
      refine r_val (v := .bool _) (v_not (.inl rfl)) rfl rfl (by decide) ?_
      refine r_nil ?_
      refine a_cond rfl (fun ht30 => ?_) (fun ht30 => ?_)
      ·
        skip
        refine a_region ?_
        refine r_val (v := .rsl _ _ _ _ _) (v_move (.inl rfl) (noOwn_flat rfl)) rfl rfl (by decide) ?_
        refine r_val (v := .sl _ _) (v_move (.inl rfl) (noOwn_flat rfl)) rfl rfl (by decide) ?_
        refine r_val (v := .int _ _) (v_move (.inl rfl) (noOwn_flat rfl)) rfl rfl (by decide) ?_
        refine r_val (v := .pp _ _) (v_indexAddr_sl es25 (.inl rfl) (.inl rfl) (fun _ => ⟨by omega, by omega, icells_ne hi⟩)) rfl rfl (by decide) ?_
        refine r_val (v := .int .i64 (gd b x.1)) (v_load_pp ta3 (.inl rfl) (fun _ => by rw [Nat.mul_one]; exact icells_get (gd_get hi)) rfl) rfl rfl (by decide) ?_
        refine r_new (v := .osl _ _ _ _) (q_call (vs := [.rsl _ _ _ _ _, .int _ _]) (args := [.sl _ _, .int .i64 _]) hb136 ⟨.inl rfl, .inl rfl, trivial⟩ (l2_eq (sl_sh (ic_pure _)) rfl) (fun hA => put_c x.2 _ _ ⟨rfl, by omega⟩ g3 hsb) (ic_noSh _) (ic_noRef _)) rfl rfl (by decide) ?_
        refine r_val (v := .rsl _ _ _ _ _) (v_assign (.inl rfl) (noOwn_flat rfl)) rfl rfl (by decide) ?_
        refine r_pre (ent_reloc_sl (t := 6) rfl rfl) ?_
        refine r_nil ?_
        refine a_region ?_
        refine r_val (v := .int _ _) (v_move (.inl rfl) (noOwn_flat rfl)) rfl rfl (by decide) ?_
        refine r_val (v := .int _ _) (v_add (.inl rfl) (.inl rfl) (fun _ => by omega)) rfl rfl (by decide) ?_
        refine r_val (v := .int _ _) (v_assign (.inl rfl) (noOwn_flat rfl)) rfl rfl (by decide) ?_
        refine r_nil ?_
        refine ⟨(x.1 + 1, putL x.2 (gd b x.1)), ent_look ⟨Weak.of_eq rfl, Weak.osl rfl (putL_length _ _).symm, Weak.of_eq (int_eq (by dsimp only; omega)), trivial⟩, ⟨by dsimp only; omega, by rw [← g2]; exact join_new (by omega) hno (by simpa using ht30), g3.put hsb, by dsimp only; rw [putL_length]; omega⟩, by dsimp only; omega⟩
      ·
        skip
        refine a_skip ?_
        refine a_region ?_
        refine r_val (v := .int _ _) (v_move (.inl rfl) (noOwn_flat rfl)) rfl rfl (by decide) ?_
        refine r_val (v := .int _ _) (v_add (.inl rfl) (.inl rfl) (fun _ => by omega)) rfl rfl (by decide) ?_
        refine r_val (v := .int _ _) (v_assign (.inl rfl) (noOwn_flat rfl)) rfl rfl (by decide) ?_
        refine r_nil ?_
        refine ⟨(x.1 + 1, x.2), ent_look ⟨Weak.of_eq rfl, Weak.of_eq rfl, Weak.of_eq (int_eq (by dsimp only; omega)), trivial⟩, ⟨by dsimp only; omega, by rw [← g2]; exact join_old (by omega) hno (by simpa using ht30), g3, by dsimp only; omega⟩, by dsimp only; omega⟩
  ·
    skip
    refine a_exit ?_
    refine a_seq ?_
    refine a_region ?_
    refine r_val (v := .rsl _ _ _ _ _) (v_move (.inl rfl) (noOwn_flat rfl)) rfl rfl (by decide) ?_
    refine r_val (v := .rsl _ _ _ _ _) (v_assign (.inl rfl) (noOwn_flat rfl)) rfl rfl (by decide) ?_
    refine r_pre (ent_reloc_sl (t := 4) rfl rfl) ?_
    refine r_val (v := .bool _) (v_assign (.inl rfl) (noOwn_flat rfl)) rfl rfl (by decide) ?_
    refine r_nil ?_
    refine a_ret ?_
    refine retL (rs := [.tmp 4, .tmp 5]) [(4, .osl _ _ _ none), (5, _)] ⟨Weak.osl rfl rfl, Weak.rfl, trivial⟩ rfl Try.results90 (by decide) ⟨by decide, by decide, rfl⟩ (by decide) (by decide) (l2_eq (osl_eq2 ?_ ?_) (bool_eq ?_)) (by simp [refsL, refs])
    all_goals (have hz : joinL a b = some x.2 := (by rw [← g2]; exact join_end (by simp at ht13; omega))); simp [hz]
end Go.Av
namespace Go.Av
open Go Go.Proofs Go.Sort
set_option maxRecDepth 10000
theorem hb88 : hasBody Try.prog 88 = true := by kernel_rfl
theorem hb90 : hasBody Try.prog 90 = true := by kernel_rfl
theorem hb91 : hasBody Try.prog 91 = true := by kernel_rfl
theorem hb93 : hasBody Try.prog 93 = true := by kernel_rfl

end Go.Av
namespace Go.Av
open Go
section
variable {P : Program} {N : Nat} {A : Bool} {σ : Sig} {ty : TypeId}
theorem q_callP {f : FuncId} {xs : List Operand} {tys : Array TypeId} {vs : List AV} {res : AV} (hf : hasBody P f = true) (hx : RdL N A σ xs vs) (hp : pureL vs = true) (hc : A = true → ACall P f vs [] res [])
    (hn : noSh res = true) (hr : noRef res = true) : QSem P N A (fnCall f xs tys) ty σ (slotsL xs) res := by
  intro hA σ' hD gv e a w β F hi d o ho hty K Q hK
  obtain ⟨hrep, hlen, hno⟩ := RdL.rep hA hi (0, []) (j := 0) hx hD
  have hl : (xs.map a.eval).length = vs.length := hlen
  have hsn : RepL (fun _ => none) (lent σ' β F) w vs (0, []) 0 (xs.map a.eval) := hrep.tr _ (fun b hb => ⟨.inl hb, rfl⟩) (fun i c r y hc hy ho => by
    rw [noOwn_pure (pureL_mem hp (List.mem_of_getElem? hc)) hy] at ho; cases ho) (fun c hc q hq => by
    have := refs_pure (pureL_mem hp hc); rw [this] at hq; cases hq)
  refine upon_enter' (f := f) (args := (xs.map a.eval).toArray) ?_ ((call_core (hc hA) hp hn hr hi hl hsn d).mono fun en w' ⟨v, β', he, hi'⟩ => ⟨v, he, hK _ _ ⟨β', F, hi'⟩⟩)
  simp [execOp, ho, fnCall, resolve, Deferred.ofValue, Act.eval, invoke, run_callFunc_body hf]
end
end Go.Av
namespace Go.Av
open Go Go.Proofs Go.Sort
set_option maxRecDepth 10000


end Go.Av
namespace Go.Av
open Go Go.Proofs Go.Sort
set_option maxRecDepth 10000
theorem es22 : elemSize Try.prog 22 = some 1 := by kernel_rfl
theorem hb144 : hasBody Try.prog 144 = true := by kernel_rfl
theorem sl22 : isSlice Try.prog 22 = true := by kernel_rfl
theorem ta25 : tyAgg Try.prog 25 = some (false, 1) := by kernel_rfl

theorem grow_c (m : Nat) (h : m ≤ 8388608) : ACall Try.prog 144 [.nils, .int .i64 ((m : Nat) : Int)] [] (.osl 1 [] 0 none) [] := by
  refine ACall.intro Try.func144 rfl (N := 27) rfl (by decide) (by simp) ?_
  refine a_seq ?_
  refine a_region ?_
  refine r_val (v := .nils) (v_assign (.inl rfl) (noOwn_flat rfl)) rfl rfl (by decide) ?_
  refine r_nil ?_
  refine a_seq ?_
  refine a_seq ?_
  refine a_region ?_
  refine r_val (v := .int _ _) (v_move (.inl rfl) (noOwn_flat rfl)) rfl rfl (by decide) ?_
  refine r_val (v := .bool _) (v_lss (.inl rfl) (.inl rfl)) rfl rfl (by decide) ?_
  refine r_nil ?_
  refine a_cond rfl (fun ht6 => ?_) (fun ht6 => ?_)
  ·
    skip
    exfalso
    simp at ht6; omega
  ·
    skip
    refine a_skip ?_
    refine a_seq ?_
    refine a_seq ?_
    refine a_region ?_
    refine r_val (v := .int _ _) (v_move (.inl rfl) (noOwn_flat rfl)) rfl rfl (by decide) ?_
    refine r_val (v := .nils) (v_move (.inl rfl) (noOwn_flat rfl)) rfl rfl (by decide) ?_
    refine r_val (v := .int _ _) (v_cap_nils sl25 (.inl rfl)) rfl rfl (by decide) ?_
    refine r_val (v := .nils) (v_move (.inl rfl) (noOwn_flat rfl)) rfl rfl (by decide) ?_
    refine r_val (v := .int _ _) (v_len_nils sl25 (.inl rfl)) rfl rfl (by decide) ?_
    refine r_val (v := .int _ _) (v_sub (.inl rfl) (.inl rfl) (fun _ => by omega)) rfl rfl (by decide) ?_
    refine r_val (v := .int .i64 ((m : Nat) : Int)) ((v_sub (.inl rfl) (.inl rfl) (fun _ => by omega)).cast (int_eq (by omega))) rfl rfl (by decide) ?_
    refine r_val (v := .int _ _) (v_assign (.inl rfl) (noOwn_flat rfl)) rfl rfl (by decide) ?_
    refine r_nil ?_
    refine a_seq ?_
    refine a_region ?_
    refine r_val (v := .int _ _) (v_move (.inl rfl) (noOwn_flat rfl)) rfl rfl (by decide) ?_
    refine r_val (v := .bool _) (v_gtr (.inl rfl) (.inl rfl)) rfl rfl (by decide) ?_
    refine r_nil ?_
    refine a_cond rfl (fun ht16 => ?_) (fun ht16 => ?_)
    ·
      skip
      refine a_region ?_
      refine r_val (v := .nils) (v_move (.inl rfl) (noOwn_flat rfl)) rfl rfl (by decide) ?_
      refine r_val (v := .nils) (v_move (.inl rfl) (noOwn_flat rfl)) rfl rfl (by decide) ?_
      refine r_val (v := .int _ _) (v_cap_nils sl25 (.inl rfl)) rfl rfl (by decide) ?_
      refine r_val (v := .nils) (v_slice_nils (h := 0) es25 (.inl rfl) (.inr ⟨_, _, rfl, .inl rfl⟩) (fun _ => rfl)) rfl rfl (by decide) ?_
      refine r_val (v := .int _ _) (v_move (.inl rfl) (noOwn_flat rfl)) rfl rfl (by decide) ?_
      refine r_new (v := .osl _ _ _ _) (q_append_make ap25 uni3 (.inl (.inl rfl)) (.inl rfl) (fun _ => by simp at ht16; omega)) rfl rfl (by decide) ?_
      refine r_val (v := .nils) (v_move (.inl rfl) (noOwn_flat rfl)) rfl rfl (by decide) ?_
      refine r_val (v := .int _ _) (v_len_nils sl25 (.inl rfl)) rfl rfl (by decide) ?_
      refine r_val (v := .rsl (22, []) 1 0 0 none) ((v_slice_rsl (l := 0) (h := 0) es25 (.inl rfl) (.inl ⟨rfl, rfl⟩) (.inr ⟨_, _, rfl, .inl rfl⟩) (fun _ => by omega)).cast (rfl)) rfl rfl (by decide) ?_
      refine r_val (v := .rsl _ _ _ _ _) (v_assign (.inl rfl) (noOwn_flat rfl)) rfl rfl (by decide) ?_
      refine r_pre (ent_reloc_sl (t := 0) rfl rfl) ?_
      refine r_nil ?_
      refine a_seq ?_
      refine a_region ?_
      refine r_val (v := .rsl _ _ _ _ _) (v_move (.inl rfl) (noOwn_flat rfl)) rfl rfl (by decide) ?_
      refine r_val (v := .rsl _ _ _ _ _) (v_assign (.inl rfl) (noOwn_flat rfl)) rfl rfl (by decide) ?_
      refine r_pre (ent_reloc_sl (t := 4) rfl rfl) ?_
      refine r_nil ?_
      refine a_ret ?_
      refine ret1 Try.results144 (by decide) (by decide) (Weak.osl ?_ ?_) rfl Leaves.nil
      · rfl
      · rfl
    ·
      skip
      refine a_skip ?_
      refine a_seq ?_
      refine a_region ?_
      refine r_val (v := .nils) (v_move (.inl rfl) (noOwn_flat rfl)) rfl rfl (by decide) ?_
      refine r_val (v := .nils) (v_assign (.inl rfl) (noOwn_flat rfl)) rfl rfl (by decide) ?_
      refine r_nil ?_
      refine a_pre (ent_nil (t := 4) (sz := 1) (cap := none) (.inl rfl) (fun _ h => by cases h)) ?_
      refine a_ret ?_
      refine ret1 Try.results144 (by decide) (by decide) (Weak.osl ?_ ?_) rfl Leaves.nil
      · rfl
      · rfl

theorem concat_c (L : List (List Int)) (h : tot L L.length ≤ 8388608) (h2 : L.length ≤ 8388608) : ACall Try.prog 104 [.sl (sls L) L.length] [] (.osl 1 (icells L.flatten) L.flatten.length none) [] := by
  refine ACall.intro Try.func104 rfl (N := 36) rfl (by decide) (by simp) ?_
  refine a_seq ?_
  refine a_region ?_
  refine r_val (v := .nils) (v_assign (.inl rfl) (noOwn_flat rfl)) rfl rfl (by decide) ?_
  refine r_nil ?_
  refine a_seq ?_
  refine a_region ?_
  refine r_val (v := .int _ _) (v_assign (.inl rfl) (noOwn_flat rfl)) rfl rfl (by decide) ?_
  refine r_nil ?_
  refine a_seq ?_
  refine a_seq ?_
  refine a_region ?_
  refine r_val (v := .sl _ _) (v_move (.inl rfl) (noOwn_flat rfl)) rfl rfl (by decide) ?_
  refine r_val (v := .int _ _) (v_len_sl sl22 (.inl rfl)) rfl rfl (by decide) ?_
  refine r_val (v := .int _ _) (v_move (.inl rfl) (noOwn_flat rfl)) rfl rfl (by decide) ?_
  refine r_nil ?_
  refine a_block ?_
  refine a_loop (X := Nat) (fun i => look [(0, .sl (sls L) L.length), (3, .int .i64 ((tot L i : Nat) : Int)), (9, .sl (sls L) L.length), (10, .int .i64 (L.length : Int)), (11, .int .i64 ((i : Nat) : Int))]) (fun i => i ≤ L.length) (fun i => L.length - i) 0 (ent_look ⟨Weak.of_eq rfl, Weak.of_eq rfl, Weak.of_eq rfl, Weak.of_eq rfl, Weak.of_eq rfl, trivial⟩) (Nat.zero_le _) (fun i hG => ?_)
  have htl := tot_le L i
  have htl1 := tot_le L (i + 1)
  refine a_seq ?_
  refine a_region ?_
  refine r_val (v := .bool _) (v_lss (.inl rfl) (.inl rfl)) rfl rfl (by decide) ?_
  refine r_nil ?_
  refine a_seq ?_
  refine a_cond rfl (fun ht12 => ?_) (fun ht12 => ?_)
  ·
    skip
    refine a_skip ?_
    refine a_seq ?_
    refine a_block ?_
    refine a_seq ?_
    have hi : i < L.length := (by simp at ht12; omega)
    have hgt := tot_more hi
    refine a_region ?_
    refine r_val (v := .pp _ _) (v_indexAddr_sl es22 (.inl rfl) (.inl rfl) (fun _ => ⟨by omega, by omega, sls_ne hi⟩)) rfl rfl (by decide) ?_
    refine r_val (v := .sl (icells (gl L i)) (gl L i).length) (v_load_pp ta25 (.inl rfl) (fun _ => by rw [Nat.mul_one]; exact sls_get hi) rfl) rfl rfl (by decide) ?_
    refine r_val (v := .sl _ _) (v_assign (.inl rfl) (noOwn_flat rfl)) rfl rfl (by decide) ?_
    refine r_nil ?_
    refine a_seq ?_
    refine a_region ?_
    refine r_val (v := .int _ _) (v_move (.inl rfl) (noOwn_flat rfl)) rfl rfl (by decide) ?_
    refine r_val (v := .sl _ _) (v_move (.inl rfl) (noOwn_flat rfl)) rfl rfl (by decide) ?_
    refine r_val (v := .int _ _) (v_len_sl sl25 (.inl rfl)) rfl rfl (by decide) ?_
    refine r_val (v := .int .i64 ((tot L (i + 1) : Nat) : Int)) ((v_add (.inl rfl) (.inl rfl) (fun _ => by omega)).cast (int_eq (by omega))) rfl rfl (by decide) ?_
    refine r_val (v := .int _ _) (v_assign (.inl rfl) (noOwn_flat rfl)) rfl rfl (by decide) ?_
    refine r_nil ?_
    refine a_seq ?_
    refine a_region ?_
    refine r_val (v := .int _ _) (v_move (.inl rfl) (noOwn_flat rfl)) rfl rfl (by decide) ?_
    refine r_val (v := .bool _) (v_lss (.inl rfl) (.inl rfl)) rfl rfl (by decide) ?_
    refine r_nil ?_
    refine a_cond rfl (fun ht20 => ?_) (fun ht20 => ?_)
    ·
      skip
      exfalso
      first | (simp at ht20; done) | (simp at ht20; omega)
    ·
      skip
      refine a_skip ?_
      refine a_region ?_
      refine r_val (v := .int _ _) (v_add (.inl rfl) (.inl rfl) (fun _ => by omega)) rfl rfl (by decide) ?_
      refine r_val (v := .int _ _) (v_move (.inl rfl) (noOwn_flat rfl)) rfl rfl (by decide) ?_
      refine r_nil ?_
      refine ⟨i + 1, ent_look ⟨Weak.of_eq rfl, Weak.of_eq rfl, Weak.of_eq rfl, Weak.of_eq rfl, Weak.of_eq (int_eq (by omega)), trivial⟩, by omega, by omega⟩
  ·
    skip
    refine a_exit ?_
    refine a_seq ?_
    have hie : i = L.length := (by simp at ht12; omega)
    refine a_region ?_
    refine r_val (v := .int _ _) (v_move (.inl rfl) (noOwn_flat rfl)) rfl rfl (by decide) ?_
    refine r_new (v := .osl _ _ _ _) (q_callP (vs := [.nils, .int .i64 ((tot L i : Nat) : Int)]) hb144 ⟨.inl rfl, .inl rfl, trivial⟩ rfl (fun hA => grow_c (tot L i) (by omega)) rfl rfl) rfl rfl (by decide) ?_
    refine r_val (v := .rsl _ _ _ _ _) (v_assign (.inl rfl) (noOwn_flat rfl)) rfl rfl (by decide) ?_
    refine r_pre (ent_reloc_sl (t := 6) rfl rfl) ?_
    refine r_nil ?_
    refine a_seq ?_
    refine a_seq ?_
    refine a_region ?_
    refine r_val (v := .sl _ _) (v_move (.inl rfl) (noOwn_flat rfl)) rfl rfl (by decide) ?_
    refine r_val (v := .int _ _) (v_len_sl sl22 (.inl rfl)) rfl rfl (by decide) ?_
    refine r_val (v := .int _ _) (v_move (.inl rfl) (noOwn_flat rfl)) rfl rfl (by decide) ?_
    refine r_nil ?_
    refine a_block ?_
    refine a_loop (X := Nat) (fun i => look [(6, .osl 1 (icells (L.take i).flatten) (tot L i) none), (25, .sl (sls L) L.length), (26, .int .i64 (L.length : Int)), (27, .int .i64 ((i : Nat) : Int))]) (fun i => i ≤ L.length) (fun i => L.length - i) 0 (ent_look ⟨Weak.osl rfl rfl, Weak.of_eq rfl, Weak.of_eq rfl, Weak.of_eq rfl, trivial⟩) (Nat.zero_le _) (fun i hG => ?_)
    have htl := tot_le L i
    have htl1 := tot_le L (i + 1)
    refine a_seq ?_
    refine a_region ?_
    refine r_val (v := .bool _) (v_lss (.inl rfl) (.inl rfl)) rfl rfl (by decide) ?_
    refine r_nil ?_
    refine a_seq ?_
    refine a_cond rfl (fun ht28 => ?_) (fun ht28 => ?_)
    ·
      skip
      refine a_skip ?_
      refine a_seq ?_
      refine a_block ?_
      refine a_seq ?_
      have hi : i < L.length := (by simp at ht28; omega)
      have hgt := tot_more hi
      refine a_region ?_
      refine r_val (v := .pp _ _) (v_indexAddr_sl es22 (.inl rfl) (.inl rfl) (fun _ => ⟨by omega, by omega, sls_ne hi⟩)) rfl rfl (by decide) ?_
      refine r_val (v := .sl (icells (gl L i)) (gl L i).length) (v_load_pp ta25 (.inl rfl) (fun _ => by rw [Nat.mul_one]; exact sls_get hi) rfl) rfl rfl (by decide) ?_
      refine r_val (v := .sl _ _) (v_assign (.inl rfl) (noOwn_flat rfl)) rfl rfl (by decide) ?_
      refine r_nil ?_
      refine a_region ?_
      refine r_val (v := .rsl _ _ _ _ _) (v_move (.inl rfl) (noOwn_flat rfl)) rfl rfl (by decide) ?_
      refine r_val (v := .sl _ _) (v_move (.inl rfl) (noOwn_flat rfl)) rfl rfl (by decide) ?_
      refine r_pre (ent_reloc_sl (t := 31) rfl rfl) ?_
      refine r_step rfl (o_append rfl ap25 rfl (by decide) (by decide) rfl (src_sl (.inl rfl) (fun _ => by rw [icells_length]; omega) (ic_pureL _)) (ic_cell _) (by rw [icells_length, flat_len]; omega) (by omega)) ?_
      refine r_val (v := .rsl _ _ _ _ _) (v_assign (.inl rfl) (noOwn_flat rfl)) rfl rfl (by decide) ?_
      refine r_pre (ent_reloc_sl (t := 6) rfl rfl) ?_
      refine r_nil ?_
      refine a_region ?_
      refine r_val (v := .int _ _) (v_add (.inl rfl) (.inl rfl) (fun _ => by omega)) rfl rfl (by decide) ?_
      refine r_val (v := .int _ _) (v_move (.inl rfl) (noOwn_flat rfl)) rfl rfl (by decide) ?_
      refine r_nil ?_
      refine ⟨i + 1, ent_look ⟨Weak.osl (by rw [flat_more hi, icells_append]) (by rw [tot_more hi]), Weak.of_eq rfl, Weak.of_eq rfl, Weak.of_eq (int_eq (by omega)), trivial⟩, by omega, by omega⟩
    ·
      skip
      refine a_exit ?_
      refine a_seq ?_
      refine a_region ?_
      refine r_val (v := .rsl _ _ _ _ _) (v_move (.inl rfl) (noOwn_flat rfl)) rfl rfl (by decide) ?_
      refine r_val (v := .rsl _ _ _ _ _) (v_assign (.inl rfl) (noOwn_flat rfl)) rfl rfl (by decide) ?_
      refine r_pre (ent_reloc_sl (t := 2) rfl rfl) ?_
      refine r_nil ?_
      refine a_ret ?_
      refine ret1 Try.results104 (by decide) (by decide) (Weak.osl ?_ ?_) rfl Leaves.nil
      · simp at ht28; rw [List.take_of_length_le (by omega)]
      · simp at ht28; rw [← flat_len, List.take_of_length_le (by omega)]

end Go.Av
namespace Go.Av
open Go Go.Proofs Go.Sort
set_option maxRecDepth 10000
theorem hb100 : hasBody Try.prog 100 = true := by kernel_rfl
theorem hb102 : hasBody Try.prog 102 = true := by kernel_rfl
theorem hb104 : hasBody Try.prog 104 = true := by kernel_rfl
theorem lt22 : litTy Try.prog 22 = some (1, [.nils]) := by kernel_rfl

theorem l3Good_c (vars : Int) (c : List Int) (hv : -9223372036854775808 ≤ vars ∧ vars ≤ 9223372036854775807) (hl : (c.length : Int) ≤ 9223372036854775807) (hb : ∀ j, -9223372036854775808 ≤ gd c j ∧ gd c j ≤ 9223372036854775807) : ACall Try.prog 100 [.int .i64 vars, .sl (icells c) c.length] [] (.bool (clB vars c)) [] := by
  refine ACall.intro Try.func100 rfl (N := 8) rfl (by decide) (by simp) ?_
  refine a_seq ?_
  refine a_region ?_
  refine r_val (v := .bool _) (v_assign (.inl rfl) (noOwn_flat rfl)) rfl rfl (by decide) ?_
  refine r_nil ?_
  refine a_seq ?_
  refine a_region ?_
  refine r_val (v := .int _ _) (v_move (.inl rfl) (noOwn_flat rfl)) rfl rfl (by decide) ?_
  refine r_val (v := .sl _ _) (v_move (.inl rfl) (noOwn_flat rfl)) rfl rfl (by decide) ?_
  refine r_new (v := .bool _) (q_call (vs := [.int _ _, .sl _ _]) (args := [.int .i64 _, .sl _ _]) hb88 ⟨.inl rfl, .inl rfl, trivial⟩ rfl (fun hA => l2Clause_c _ _ hv hl hb) rfl rfl) rfl rfl (by decide) ?_
  refine r_val (v := .bool _) (v_assign (.inl rfl) (noOwn_flat rfl)) rfl rfl (by decide) ?_
  refine r_nil ?_
  refine a_ret ?_
  refine ret1 Try.results100 (by decide) (by decide) (Weak.of_eq (bool_eq ?_)) rfl Leaves.nil
  rfl

theorem isAsg_c (vars : Int) (c : List Int) (hv : -9223372036854775808 ≤ vars ∧ vars ≤ 9223372036854775807) (hl : (c.length : Int) ≤ 9223372036854775807) (hb : ∀ j, -9223372036854775808 ≤ gd c j ∧ gd c j ≤ 9223372036854775807) : ACall Try.prog 102 [.int .i64 vars, .sl (icells c) c.length] [] (.bool (clB vars c)) [] := by
  refine ACall.intro Try.func102 rfl (N := 8) rfl (by decide) (by simp) ?_
  refine a_seq ?_
  refine a_region ?_
  refine r_val (v := .bool _) (v_assign (.inl rfl) (noOwn_flat rfl)) rfl rfl (by decide) ?_
  refine r_nil ?_
  refine a_seq ?_
  refine a_region ?_
  refine r_val (v := .int _ _) (v_move (.inl rfl) (noOwn_flat rfl)) rfl rfl (by decide) ?_
  refine r_val (v := .sl _ _) (v_move (.inl rfl) (noOwn_flat rfl)) rfl rfl (by decide) ?_
  refine r_new (v := .bool _) (q_call (vs := [.int _ _, .sl _ _]) (args := [.int .i64 _, .sl _ _]) hb91 ⟨.inl rfl, .inl rfl, trivial⟩ rfl (fun hA => isClause_c _ _ hv hl hb) rfl rfl) rfl rfl (by decide) ?_
  refine r_val (v := .bool _) (v_assign (.inl rfl) (noOwn_flat rfl)) rfl rfl (by decide) ?_
  refine r_nil ?_
  refine a_ret ?_
  refine ret1 Try.results102 (by decide) (by decide) (Weak.of_eq (bool_eq ?_)) rfl Leaves.nil
  rfl

theorem sMerge_c (vars : Int) (a b : List Int) (hl : (a.length : Int) ≤ 1048576) (hl2 : (b.length : Int) ≤ 1048576) (hv : -9223372036854775808 ≤ vars ∧ vars ≤ 9223372036854775807) (hb : ∀ j, -9223372036854775808 ≤ gd a j ∧ gd a j ≤ 9223372036854775807) (hb2 : ∀ j, -9223372036854775808 ≤ gd b j ∧ gd b j ≤ 9223372036854775807) : ACall Try.prog 50 [.int .i64 vars, .sl (icells a) a.length, .sl (icells b) b.length] [] (.tup [.osl 1 (icells ((mergeA vars a b).getD [])) ((mergeA vars a b).getD []).length none, .bool (mergeA vars a b).isSome]) [] := by
  refine ACall.intro Try.func50 rfl (N := 24) rfl (by decide) (by simp) ?_
  refine a_seq ?_
  refine a_region ?_
  refine r_val (v := .nils) (v_assign (.inl rfl) (noOwn_flat rfl)) rfl rfl (by decide) ?_
  refine r_val (v := .bool _) (v_assign (.inl rfl) (noOwn_flat rfl)) rfl rfl (by decide) ?_
  refine r_nil ?_
  refine a_seq ?_
  refine a_seq ?_
  refine a_region ?_
  refine r_val (v := .int _ _) (v_move (.inl rfl) (noOwn_flat rfl)) rfl rfl (by decide) ?_
  refine r_val (v := .sl _ _) (v_move (.inl rfl) (noOwn_flat rfl)) rfl rfl (by decide) ?_
  refine r_new (v := .bool _) (q_call (vs := [.int _ _, .sl _ _]) (args := [.int .i64 _, .sl _ _]) hb100 ⟨.inl rfl, .inl rfl, trivial⟩ rfl (fun hA => l3Good_c _ _ (by omega) (by omega) hb) rfl rfl) rfl rfl (by decide) ?_
  refine r_val (v := .bool _) (v_not (.inl rfl)) rfl rfl (by decide) ?_
  refine r_val (v := .bool _) (v_move (.inl rfl) (noOwn_flat rfl)) rfl rfl (by decide) ?_
  refine r_gval (v := .int _ _) (v_move (.inl rfl) (noOwn_flat rfl)) rfl rfl rfl (by decide) (.inl ⟨_, rfl, rfl⟩) rfl (by decide) ?_
  refine r_gval (v := .sl _ _) (v_move (.inl rfl) (noOwn_flat rfl)) rfl rfl rfl (by decide) (.inl ⟨_, rfl, rfl⟩) rfl (by decide) ?_
  refine r_guard (v := .bool _) (q_call (vs := [.int _ _, .sl _ _]) (args := [.int .i64 _, .sl _ _]) hb100 ⟨.inr ⟨_, rfl, fun h => h⟩, .inr ⟨_, rfl, fun h => h⟩, trivial⟩ rfl (fun hA => l3Good_c _ _ (by omega) (by omega) hb2) rfl rfl) rfl rfl rfl (by decide) (.inl ⟨_, rfl, rfl⟩) rfl (by decide) ?_
  refine r_gval (v := .bool _) (v_not (.inr ⟨_, rfl, fun h => h⟩)) rfl rfl rfl (by decide) (.inl ⟨_, rfl, rfl⟩) rfl (by decide) ?_
  refine r_val (v := .bool _) (v_pick (.inl rfl) (.inl rfl) (.inr ⟨_, rfl, fun h h2 => by simp_all⟩)) rfl rfl (by decide) ?_
  refine r_nil ?_
  refine a_cond rfl (fun ht17 => ?_) (fun ht17 => ?_)
  ·
    skip
    refine a_seq ?_
    refine a_region ?_
    refine r_new (v := .osl _ _ _ _) (q_sliceLit (n := 0) (parts := []) lt25 rfl rfl rfl rfl) rfl rfl (by decide) ?_
    refine r_val (v := .rsl _ _ _ _ _) (v_assign (.inl rfl) (noOwn_flat rfl)) rfl rfl (by decide) ?_
    refine r_pre (ent_reloc_sl (t := 6) rfl rfl) ?_
    refine r_val (v := .bool _) (v_assign (.inl rfl) (noOwn_flat rfl)) rfl rfl (by decide) ?_
    refine r_nil ?_
    refine a_ret ?_
    refine retL (rs := [.tmp 6, .tmp 7]) [(6, .osl _ _ _ none), (7, _)] ⟨Weak.osl rfl rfl, Weak.rfl, trivial⟩ rfl Try.results50 (by decide) ⟨by decide, by decide, rfl⟩ (by decide) (by decide) (l2_eq (osl_eq2 ?_ ?_) (bool_eq ?_)) (by simp [refsL, refs])
    all_goals (have hno : mergeA vars a b = none := (by unfold mergeA; rw [if_neg]; cases h1 : clB vars a <;> cases h2 : clB vars b <;> simp_all); simp [hno, icells, rep])
  ·
    skip
    refine a_skip ?_
    refine a_seq ?_
    have hok : clB vars a = true ∧ clB vars b = true := (by cases h1 : clB vars a <;> cases h2 : clB vars b <;> simp_all)
    refine a_region ?_
    refine r_val (v := .sl _ _) (v_move (.inl rfl) (noOwn_flat rfl)) rfl rfl (by decide) ?_
    refine r_val (v := .sl _ _) (v_move (.inl rfl) (noOwn_flat rfl)) rfl rfl (by decide) ?_
    refine r_new (v := .tup [.osl _ _ _ _, .bool _]) (q_call (vs := [.sl _ _, .sl _ _]) (args := [.sl _ _, .sl _ _]) hb90 ⟨.inl rfl, .inl rfl, trivial⟩ rfl (fun hA => join_c a b _ _ ⟨rfl, by have := clB_len hok.1; omega⟩ ⟨rfl, by have := clB_len hok.2; omega⟩ (clB_sm hok.1) (clB_sm hok.2)) (by simp [noSh, noShL, ic_noSh]) (by simp [noRef, noRefL, ic_noRef])) rfl rfl (by decide) ?_
    refine r_val (v := .rsl _ _ _ _ _) (v_extract rfl rfl) rfl rfl (by decide) ?_
    refine r_val (v := .bool _) (v_extract rfl rfl) rfl rfl (by decide) ?_
    refine r_val (v := .rsl _ _ _ _ _) (v_assign (.inl rfl) (noOwn_flat rfl)) rfl rfl (by decide) ?_
    refine r_pre (ent_reloc_sl (t := 6) rfl rfl) ?_
    refine r_val (v := .bool _) (v_assign (.inl rfl) (noOwn_flat rfl)) rfl rfl (by decide) ?_
    refine r_nil ?_
    refine a_ret ?_
    refine retL (rs := [.tmp 6, .tmp 7]) [(6, .osl _ _ _ none), (7, _)] ⟨Weak.osl rfl rfl, Weak.rfl, trivial⟩ rfl Try.results50 (by decide) ⟨by decide, by decide, rfl⟩ (by decide) (by decide) (l2_eq (osl_eq2 ?_ ?_) (bool_eq ?_)) (by simp [refsL, refs])
    all_goals (unfold mergeA; rw [hok.1, hok.2]; rfl)

theorem iMerge_c (vars : Int) (a b : List Int) (hl : (a.length : Int) ≤ 1048576) (hl2 : (b.length : Int) ≤ 1048576) (hv : -9223372036854775808 ≤ vars ∧ vars ≤ 9223372036854775807) (hb : ∀ j, -9223372036854775808 ≤ gd a j ∧ gd a j ≤ 9223372036854775807) (hb2 : ∀ j, -9223372036854775808 ≤ gd b j ∧ gd b j ≤ 9223372036854775807) : ACall Try.prog 51 [.int .i64 vars, .sl (icells a) a.length, .sl (icells b) b.length] [] (.tup [.osl 1 (icells ((mergeA vars a b).getD [])) ((mergeA vars a b).getD []).length none, .bool (mergeA vars a b).isSome]) [] := by
  refine ACall.intro Try.func51 rfl (N := 25) rfl (by decide) (by simp) ?_
  refine a_seq ?_
  refine a_region ?_
  refine r_val (v := .nils) (v_assign (.inl rfl) (noOwn_flat rfl)) rfl rfl (by decide) ?_
  refine r_val (v := .bool _) (v_assign (.inl rfl) (noOwn_flat rfl)) rfl rfl (by decide) ?_
  refine r_nil ?_
  refine a_seq ?_
  refine a_seq ?_
  refine a_region ?_
  refine r_val (v := .int _ _) (v_move (.inl rfl) (noOwn_flat rfl)) rfl rfl (by decide) ?_
  refine r_val (v := .sl _ _) (v_move (.inl rfl) (noOwn_flat rfl)) rfl rfl (by decide) ?_
  refine r_new (v := .bool _) (q_call (vs := [.int _ _, .sl _ _]) (args := [.int .i64 _, .sl _ _]) hb102 ⟨.inl rfl, .inl rfl, trivial⟩ rfl (fun hA => isAsg_c _ _ (by omega) (by omega) hb) rfl rfl) rfl rfl (by decide) ?_
  refine r_val (v := .bool _) (v_not (.inl rfl)) rfl rfl (by decide) ?_
  refine r_val (v := .bool _) (v_move (.inl rfl) (noOwn_flat rfl)) rfl rfl (by decide) ?_
  refine r_gval (v := .int _ _) (v_move (.inl rfl) (noOwn_flat rfl)) rfl rfl rfl (by decide) (.inl ⟨_, rfl, rfl⟩) rfl (by decide) ?_
  refine r_gval (v := .sl _ _) (v_move (.inl rfl) (noOwn_flat rfl)) rfl rfl rfl (by decide) (.inl ⟨_, rfl, rfl⟩) rfl (by decide) ?_
  refine r_guard (v := .bool _) (q_call (vs := [.int _ _, .sl _ _]) (args := [.int .i64 _, .sl _ _]) hb102 ⟨.inr ⟨_, rfl, fun h => h⟩, .inr ⟨_, rfl, fun h => h⟩, trivial⟩ rfl (fun hA => isAsg_c _ _ (by omega) (by omega) hb2) rfl rfl) rfl rfl rfl (by decide) (.inl ⟨_, rfl, rfl⟩) rfl (by decide) ?_
  refine r_gval (v := .bool _) (v_not (.inr ⟨_, rfl, fun h => h⟩)) rfl rfl rfl (by decide) (.inl ⟨_, rfl, rfl⟩) rfl (by decide) ?_
  refine r_val (v := .bool _) (v_pick (.inl rfl) (.inl rfl) (.inr ⟨_, rfl, fun h h2 => by simp_all⟩)) rfl rfl (by decide) ?_
  refine r_nil ?_
  refine a_cond rfl (fun ht17 => ?_) (fun ht17 => ?_)
  ·
    skip
    refine a_seq ?_
    refine a_region ?_
    refine r_val (v := .nils) (v_assign (.inl rfl) (noOwn_flat rfl)) rfl rfl (by decide) ?_
    refine r_val (v := .bool _) (v_assign (.inl rfl) (noOwn_flat rfl)) rfl rfl (by decide) ?_
    refine r_nil ?_
    refine a_pre (ent_nil (t := 6) (sz := 1) (cap := none) (.inl rfl) (fun _ h => by cases h)) ?_
    refine a_ret ?_
    refine retL (rs := [.tmp 6, .tmp 7]) [(6, .osl _ _ _ none), (7, _)] ⟨Weak.osl rfl rfl, Weak.rfl, trivial⟩ rfl Try.results51 (by decide) ⟨by decide, by decide, rfl⟩ (by decide) (by decide) (l2_eq (osl_eq2 ?_ ?_) (bool_eq ?_)) (by simp [refsL, refs])
    all_goals (have hno : mergeA vars a b = none := (by unfold mergeA; rw [if_neg]; cases h1 : clB vars a <;> cases h2 : clB vars b <;> simp_all); simp [hno, icells, rep])
  ·
    skip
    refine a_skip ?_
    refine a_seq ?_
    have hok : clB vars a = true ∧ clB vars b = true := (by cases h1 : clB vars a <;> cases h2 : clB vars b <;> simp_all)
    refine a_region ?_
    refine r_val (v := .sl _ _) (v_move (.inl rfl) (noOwn_flat rfl)) rfl rfl (by decide) ?_
    refine r_val (v := .sl _ _) (v_move (.inl rfl) (noOwn_flat rfl)) rfl rfl (by decide) ?_
    refine r_new (v := .osl 1 (sls [a, b]) 2 (some 2)) (q_sliceLit (n := 2) (parts := [(0, .tmp 18), (1, .tmp 19)]) lt22 rfl rfl rfl rfl) rfl rfl (by decide) ?_
    refine r_new (v := .osl _ _ _ _) (q_call (vs := [.rsl _ _ _ _ _]) (args := [.sl _ _]) hb104 ⟨.inl rfl, trivial⟩ (l1_eq (sl_sh (sls_pure [a, b]))) (fun hA => concat_c [a, b] (by have := clB_len hok.1; have := clB_len hok.2; simp [tot]; omega) (by simp)) (ic_noSh _) (ic_noRef _)) rfl rfl (by decide) ?_
    refine r_new (v := .tup [.osl _ _ _ _, .bool _]) (q_call (vs := [.rsl _ _ _ _ _]) (args := [.sl _ _]) hb93 ⟨.inl rfl, trivial⟩ (l1_eq (sl_sh (ic_pure ([a, b].flatten)))) (fun hA => clause_c ([a, b].flatten) (by have := clB_len hok.1; have := clB_len hok.2; simp; omega)) (by simp [noSh, noShL, ic_noSh]) (by simp [noRef, noRefL, ic_noRef])) rfl rfl (by decide) ?_
    refine r_val (v := .rsl _ _ _ _ _) (v_extract rfl rfl) rfl rfl (by decide) ?_
    refine r_val (v := .bool _) (v_extract rfl rfl) rfl rfl (by decide) ?_
    refine r_val (v := .rsl _ _ _ _ _) (v_assign (.inl rfl) (noOwn_flat rfl)) rfl rfl (by decide) ?_
    refine r_pre (ent_reloc_sl (t := 6) rfl rfl) ?_
    refine r_val (v := .bool _) (v_assign (.inl rfl) (noOwn_flat rfl)) rfl rfl (by decide) ?_
    refine r_nil ?_
    refine a_ret ?_
    refine retL (rs := [.tmp 6, .tmp 7]) [(6, .osl _ _ _ none), (7, _)] ⟨Weak.osl rfl rfl, Weak.rfl, trivial⟩ rfl Try.results51 (by decide) ⟨by decide, by decide, rfl⟩ (by decide) (by decide) (l2_eq (osl_eq2 ?_ ?_) (bool_eq ?_)) (by simp [refsL, refs])
    all_goals (unfold mergeA; rw [show [a, b].flatten = a ++ b by simp, merge_impl hok.1 hok.2, hok.1, hok.2]; rfl)
end Go.Av
namespace Go.Av
open Go Go.Proofs Go.Sort
set_option maxRecDepth 10000
theorem hb18 : hasBody Try.prog 18 = true := by kernel_rfl
theorem hb22 : hasBody Try.prog 22 = true := by kernel_rfl
theorem hb42 : hasBody Try.prog 42 = true := by kernel_rfl
theorem hb43 : hasBody Try.prog 43 = true := by kernel_rfl
theorem un4 : Try.prog.underlying 4 = some .bool := by kernel_rfl

end Go.Av
namespace Go.Av
open Go Go.Proofs Go.Sort
set_option maxRecDepth 10000
theorem hb50 : hasBody Try.prog 50 = true := by kernel_rfl
theorem hb51 : hasBody Try.prog 51 = true := by kernel_rfl

theorem lawMergeAssignments_c (vars : Int) (a b : List Int) (hl : (a.length : Int) ≤ 9223372036854775807) (hl2 : (b.length : Int) ≤ 9223372036854775807) (hv : -9223372036854775808 ≤ vars ∧ vars ≤ 9223372036854775807) (hb : ∀ j, -9223372036854775808 ≤ gd a j ∧ gd a j ≤ 9223372036854775807) (hb2 : ∀ j, -9223372036854775808 ≤ gd b j ∧ gd b j ≤ 9223372036854775807) : ACall Try.prog 13 [.int .i64 vars, .sl (icells a) a.length, .sl (icells b) b.length] [] (.bool true) [] := by
  have hr := merge_len vars a b
  refine ACall.intro Try.func13 rfl (N := 119) rfl (by decide) (by simp) ?_
  refine a_seq ?_
  refine a_region ?_
  refine r_val (v := .bool _) (v_assign (.inl rfl) (noOwn_flat rfl)) rfl rfl (by decide) ?_
  refine r_nil ?_
  refine a_seq ?_
  refine a_seq ?_
  refine a_region ?_
  refine r_val (v := .sl _ _) (v_move (.inl rfl) (noOwn_flat rfl)) rfl rfl (by decide) ?_
  refine r_val (v := .int _ _) (v_len_sl sl25 (.inl rfl)) rfl rfl (by decide) ?_
  refine r_val (v := .bool _) (v_gtr (.inl rfl) (.inl rfl)) rfl rfl (by decide) ?_
  refine r_nil ?_
  refine a_cond rfl (fun ht20 => ?_) (fun ht20 => ?_)
  ·
    skip
    refine a_seq ?_
    refine a_region ?_
    refine r_val (v := .bool _) (v_assign (.inl rfl) (noOwn_flat rfl)) rfl rfl (by decide) ?_
    refine r_nil ?_
    refine a_ret ?_
    refine ret1 Try.results13 (by decide) (by decide) (Weak.of_eq (bool_eq ?_)) rfl Leaves.nil
    first | rfl | (exfalso; simp at ht20; done) | (exfalso; simp at ht20; omega)
  ·
    skip
    refine a_skip ?_
    refine a_seq ?_
    refine a_seq ?_
    refine a_region ?_
    refine r_val (v := .sl _ _) (v_move (.inl rfl) (noOwn_flat rfl)) rfl rfl (by decide) ?_
    refine r_val (v := .int _ _) (v_len_sl sl25 (.inl rfl)) rfl rfl (by decide) ?_
    refine r_val (v := .bool _) (v_gtr (.inl rfl) (.inl rfl)) rfl rfl (by decide) ?_
    refine r_nil ?_
    refine a_cond rfl (fun ht23 => ?_) (fun ht23 => ?_)
    ·
      skip
      refine a_seq ?_
      refine a_region ?_
      refine r_val (v := .bool _) (v_assign (.inl rfl) (noOwn_flat rfl)) rfl rfl (by decide) ?_
      refine r_nil ?_
      refine a_ret ?_
      refine ret1 Try.results13 (by decide) (by decide) (Weak.of_eq (bool_eq ?_)) rfl Leaves.nil
      first | rfl | (exfalso; simp at ht23; done) | (exfalso; simp at ht23; omega)
    ·
      skip
      refine a_skip ?_
      refine a_seq ?_
      have hle0 : (a.length : Int) ≤ 1048576 := by simpa using ht20
      have hle1 : (b.length : Int) ≤ 1048576 := by simpa using ht23
      refine a_region ?_
      refine r_val (v := .int _ _) (v_move (.inl rfl) (noOwn_flat rfl)) rfl rfl (by decide) ?_
      refine r_val (v := .sl _ _) (v_move (.inl rfl) (noOwn_flat rfl)) rfl rfl (by decide) ?_
      refine r_new (v := .osl _ _ _ _) (q_call (vs := [.sl _ _]) (args := [.sl _ _]) hb18 ⟨.inl rfl, trivial⟩ rfl (fun hA => toIntS_c _ (by omega)) (ic_noSh _) (ic_noRef _)) rfl rfl (by decide) ?_
      refine r_val (v := .sl _ _) (v_move (.inl rfl) (noOwn_flat rfl)) rfl rfl (by decide) ?_
      refine r_new (v := .osl _ _ _ _) (q_call (vs := [.sl _ _]) (args := [.sl _ _]) hb18 ⟨.inl rfl, trivial⟩ rfl (fun hA => toIntS_c _ (by omega)) (ic_noSh _) (ic_noRef _)) rfl rfl (by decide) ?_
      refine r_new (v := .tup [.osl _ _ _ _, .bool _]) (q_call (vs := [.int _ _, .rsl _ _ _ _ _, .rsl _ _ _ _ _]) (args := [.int .i64 _, .sl _ _, .sl _ _]) hb50 ⟨.inl rfl, .inl rfl, .inl rfl, trivial⟩ (l3_eq rfl (sl_sh (ic_pure _)) (sl_sh (ic_pure _))) (fun hA => sMerge_c _ _ _ (by omega) (by omega) (by omega) hb hb2) (by simp [noSh, noShL, ic_noSh]) (by simp [noRef, noRefL, ic_noRef])) rfl rfl (by decide) ?_
      refine r_val (v := .tup [.rsl _ _ _ _ _, .bool _]) (v_mv rfl) rfl rfl (by decide) ?_
      refine r_val (v := .rsl _ _ _ _ _) (v_extract rfl rfl) rfl rfl (by decide) ?_
      refine r_val (v := .bool _) (v_extract rfl rfl) rfl rfl (by decide) ?_
      refine r_val (v := .rsl _ _ _ _ _) (v_assign (.inl rfl) (noOwn_flat rfl)) rfl rfl (by decide) ?_
      refine r_pre (ent_reloc_sl (t := 7) rfl rfl) ?_
      refine r_val (v := .bool _) (v_assign (.inl rfl) (noOwn_flat rfl)) rfl rfl (by decide) ?_
      refine r_nil ?_
      refine a_seq ?_
      refine a_region ?_
      refine r_val (v := .sl _ _) (v_move (.inl rfl) (noOwn_flat rfl)) rfl rfl (by decide) ?_
      refine r_new (v := .osl _ _ _ _) (q_call (vs := [.sl _ _]) (args := [.sl _ _]) hb18 ⟨.inl rfl, trivial⟩ rfl (fun hA => toIntS_c _ (by omega)) (ic_noSh _) (ic_noRef _)) rfl rfl (by decide) ?_
      refine r_val (v := .rsl _ _ _ _ _) (v_assign (.inl rfl) (noOwn_flat rfl)) rfl rfl (by decide) ?_
      refine r_pre (ent_reloc_sl (t := 9) rfl rfl) ?_
      refine r_nil ?_
      refine a_seq ?_
      refine a_region ?_
      refine r_val (v := .sl _ _) (v_move (.inl rfl) (noOwn_flat rfl)) rfl rfl (by decide) ?_
      refine r_new (v := .osl _ _ _ _) (q_call (vs := [.sl _ _]) (args := [.sl _ _]) hb18 ⟨.inl rfl, trivial⟩ rfl (fun hA => toIntS_c _ (by omega)) (ic_noSh _) (ic_noRef _)) rfl rfl (by decide) ?_
      refine r_val (v := .rsl _ _ _ _ _) (v_assign (.inl rfl) (noOwn_flat rfl)) rfl rfl (by decide) ?_
      refine r_pre (ent_reloc_sl (t := 10) rfl rfl) ?_
      refine r_nil ?_
      refine a_seq ?_
      refine a_region ?_
      refine r_val (v := .int _ _) (v_move (.inl rfl) (noOwn_flat rfl)) rfl rfl (by decide) ?_
      refine r_val (v := .rsl _ _ _ _ _) (v_move (.inl rfl) (noOwn_flat rfl)) rfl rfl (by decide) ?_
      refine r_val (v := .rsl _ _ _ _ _) (v_move (.inl rfl) (noOwn_flat rfl)) rfl rfl (by decide) ?_
      refine r_new (v := .tup [.osl _ _ _ _, .bool _]) (q_call (vs := [.int _ _, .rsl _ _ _ _ _, .rsl _ _ _ _ _]) (args := [.int .i64 _, .sl _ _, .sl _ _]) hb51 ⟨.inl rfl, .inl rfl, .inl rfl, trivial⟩ (l3_eq rfl (sl_sh (ic_pure _)) (sl_sh (ic_pure _))) (fun hA => iMerge_c _ _ _ (by omega) (by omega) (by omega) hb hb2) (by simp [noSh, noShL, ic_noSh]) (by simp [noRef, noRefL, ic_noRef])) rfl rfl (by decide) ?_
      refine r_val (v := .tup [.rsl _ _ _ _ _, .bool _]) (v_mv rfl) rfl rfl (by decide) ?_
      refine r_val (v := .rsl _ _ _ _ _) (v_extract rfl rfl) rfl rfl (by decide) ?_
      refine r_val (v := .bool _) (v_extract rfl rfl) rfl rfl (by decide) ?_
      refine r_val (v := .rsl _ _ _ _ _) (v_assign (.inl rfl) (noOwn_flat rfl)) rfl rfl (by decide) ?_
      refine r_pre (ent_reloc_sl (t := 11) rfl rfl) ?_
      refine r_val (v := .bool _) (v_assign (.inl rfl) (noOwn_flat rfl)) rfl rfl (by decide) ?_
      refine r_nil ?_
      refine a_seq ?_
      refine a_seq ?_
      refine a_pre (ent_look (L := [(0, .int _ _), (1, .sl _ _), (2, .sl _ _), (6, .bool _), (7, .osl _ _ _ _), (8, .bool _), (9, .osl _ _ _ _), (10, .osl _ _ _ _), (11, .osl _ _ _ _), (12, .bool _)]) ⟨Weak.rfl, Weak.rfl, Weak.rfl, Weak.rfl, Weak.rfl, Weak.rfl, Weak.rfl, Weak.rfl, Weak.rfl, Weak.rfl, trivial⟩) ?_
      refine a_region ?_
      refine r_val (v := .rsl _ _ _ _ _) (v_move (.inl rfl) (noOwn_flat rfl)) rfl rfl (by decide) ?_
      refine r_val (v := .rsl _ _ _ _ _) (v_move (.inl rfl) (noOwn_flat rfl)) rfl rfl (by decide) ?_
      refine r_new (v := .bool _) (q_call (vs := [.rsl _ _ _ _ _, .rsl _ _ _ _ _]) (args := [.sl _ _, .sl _ _]) hb22 ⟨.inl rfl, .inl rfl, trivial⟩ (l2_eq (sl_sh (ic_pure _)) (sl_sh (ic_pure _))) (fun hA => eqIntS_c _ _ (by omega)) rfl rfl) rfl rfl (by decide) ?_
      refine r_val (v := .bool _) (v_not (.inl rfl)) rfl rfl (by decide) ?_
      refine r_val (v := .bool _) (v_move (.inl rfl) (noOwn_flat rfl)) rfl rfl (by decide) ?_
      refine r_gval (v := .bool _) (v_move (.inl rfl) (noOwn_flat rfl)) rfl rfl rfl (by decide) (.inl ⟨_, rfl, rfl⟩) rfl (by decide) ?_
      refine r_gval (v := .bool _) (v_move (.inl rfl) (noOwn_flat rfl)) rfl rfl rfl (by decide) (.inl ⟨_, rfl, rfl⟩) rfl (by decide) ?_
      refine r_gval (v := .bool _) (v_bne un4 (.inr ⟨_, rfl, fun h => h⟩) (.inr ⟨_, rfl, fun h => h⟩)) rfl rfl rfl (by decide) (.inl ⟨_, rfl, rfl⟩) rfl (by decide) ?_
      refine r_val (v := .bool _) (v_pick (.inl rfl) (.inl rfl) (.inr ⟨_, rfl, fun h h2 => by simp_all⟩)) rfl rfl (by decide) ?_
      refine r_nil ?_
      refine a_cond rfl (fun ht52 => ?_) (fun ht52 => ?_)
      ·
        skip
        refine a_seq ?_
        refine a_region ?_
        refine r_val (v := .bool _) (v_assign (.inl rfl) (noOwn_flat rfl)) rfl rfl (by decide) ?_
        refine r_nil ?_
        refine a_ret ?_
        refine ret1 Try.results13 (by decide) (by decide) (Weak.of_eq (bool_eq ?_)) rfl Leaves.nil
        first | rfl | (exfalso; simp at ht52; done) | (exfalso; simp at ht52; omega)
      ·
        skip
        refine a_skip ?_
        refine a_seq ?_
        refine a_seq ?_
        refine a_region ?_
        refine r_val (v := .rsl _ _ _ _ _) (v_move (.inl rfl) (noOwn_flat rfl)) rfl rfl (by decide) ?_
        refine r_val (v := .sl _ _) (v_move (.inl rfl) (noOwn_flat rfl)) rfl rfl (by decide) ?_
        refine r_new (v := .osl _ _ _ _) (q_call (vs := [.sl _ _]) (args := [.sl _ _]) hb18 ⟨.inl rfl, trivial⟩ rfl (fun hA => toIntS_c _ (by omega)) (ic_noSh _) (ic_noRef _)) rfl rfl (by decide) ?_
        refine r_new (v := .bool _) (q_call (vs := [.rsl _ _ _ _ _, .rsl _ _ _ _ _]) (args := [.sl _ _, .sl _ _]) hb22 ⟨.inl rfl, .inl rfl, trivial⟩ (l2_eq (sl_sh (ic_pure _)) (sl_sh (ic_pure _))) (fun hA => eqIntS_c _ _ (by omega)) rfl rfl) rfl rfl (by decide) ?_
        refine r_val (v := .bool _) (v_not (.inl rfl)) rfl rfl (by decide) ?_
        refine r_nil ?_
        refine a_cond rfl (fun ht57 => ?_) (fun ht57 => ?_)
        ·
          skip
          refine a_seq ?_
          refine a_region ?_
          refine r_val (v := .bool _) (v_assign (.inl rfl) (noOwn_flat rfl)) rfl rfl (by decide) ?_
          refine r_nil ?_
          refine a_ret ?_
          refine ret1 Try.results13 (by decide) (by decide) (Weak.of_eq (bool_eq ?_)) rfl Leaves.nil
          first | rfl | (exfalso; simp at ht57; done) | (exfalso; simp at ht57; omega)
        ·
          skip
          refine a_skip ?_
          refine a_seq ?_
          refine a_seq ?_
          refine a_region ?_
          refine r_val (v := .rsl _ _ _ _ _) (v_move (.inl rfl) (noOwn_flat rfl)) rfl rfl (by decide) ?_
          refine r_val (v := .sl _ _) (v_move (.inl rfl) (noOwn_flat rfl)) rfl rfl (by decide) ?_
          refine r_new (v := .osl _ _ _ _) (q_call (vs := [.sl _ _]) (args := [.sl _ _]) hb18 ⟨.inl rfl, trivial⟩ rfl (fun hA => toIntS_c _ (by omega)) (ic_noSh _) (ic_noRef _)) rfl rfl (by decide) ?_
          refine r_new (v := .bool _) (q_call (vs := [.rsl _ _ _ _ _, .rsl _ _ _ _ _]) (args := [.sl _ _, .sl _ _]) hb22 ⟨.inl rfl, .inl rfl, trivial⟩ (l2_eq (sl_sh (ic_pure _)) (sl_sh (ic_pure _))) (fun hA => eqIntS_c _ _ (by omega)) rfl rfl) rfl rfl (by decide) ?_
          refine r_val (v := .bool _) (v_not (.inl rfl)) rfl rfl (by decide) ?_
          refine r_nil ?_
          refine a_cond rfl (fun ht62 => ?_) (fun ht62 => ?_)
          ·
            skip
            refine a_seq ?_
            refine a_region ?_
            refine r_val (v := .bool _) (v_assign (.inl rfl) (noOwn_flat rfl)) rfl rfl (by decide) ?_
            refine r_nil ?_
            refine a_ret ?_
            refine ret1 Try.results13 (by decide) (by decide) (Weak.of_eq (bool_eq ?_)) rfl Leaves.nil
            first | rfl | (exfalso; simp at ht62; done) | (exfalso; simp at ht62; omega)
          ·
            skip
            refine a_skip ?_
            refine a_seq ?_
            refine a_region ?_
            refine r_val (v := .int _ _) (v_assign (.inl rfl) (noOwn_flat rfl)) rfl rfl (by decide) ?_
            refine r_nil ?_
            refine a_seq ?_
            refine a_pre (ent_look (L := [(0, .int _ _), (1, .sl _ _), (2, .sl _ _), (6, .bool _), (7, .osl _ _ _ _), (8, .bool _), (9, .osl _ _ _ _), (10, .osl _ _ _ _), (11, .osl _ _ _ _), (12, .bool _), (13, .int _ _)]) ⟨Weak.rfl, Weak.rfl, Weak.rfl, Weak.rfl, Weak.rfl, Weak.rfl, Weak.rfl, Weak.rfl, Weak.rfl, Weak.rfl, Weak.rfl, trivial⟩) ?_
            refine a_region ?_
            refine r_val (v := .rsl _ _ _ _ _) (v_move (.inl rfl) (noOwn_flat rfl)) rfl rfl (by decide) ?_
            refine r_val (v := .int _ _) (v_move (.inl rfl) (noOwn_flat rfl)) rfl rfl (by decide) ?_
            refine r_step rfl (o_callIO (q := (9, [])) (vs := [.rsl _ _ _ _ _, .int _ _]) (args := [.rsl (INH, []) _ _ _ _, .int .i64 _]) (x0 := .osl _ _ _ _) (x1 := .osl _ _ _ _) (res := .int _ _) rfl hb42 rfl (by decide) ⟨.inl rfl, .inl rfl, trivial⟩ rfl rfl (markIntS_c _ _ (by omega)) rfl rfl rfl (ic_noSh _) (ic_noRef _) (Nat.le_of_ble_eq_true rfl) (by decide) rfl) ?_
            refine r_val (v := .int _ _) (v_assign (.inl rfl) (noOwn_flat rfl)) rfl rfl (by decide) ?_
            refine r_nil ?_
            refine a_seq ?_
            refine a_region ?_
            refine r_val (v := .rsl _ _ _ _ _) (v_move (.inl rfl) (noOwn_flat rfl)) rfl rfl (by decide) ?_
            refine r_val (v := .int _ _) (v_move (.inl rfl) (noOwn_flat rfl)) rfl rfl (by decide) ?_
            refine r_step rfl (o_callIO (q := (10, [])) (vs := [.rsl _ _ _ _ _, .int _ _]) (args := [.rsl (INH, []) _ _ _ _, .int .i64 _]) (x0 := .osl _ _ _ _) (x1 := .osl _ _ _ _) (res := .int _ _) rfl hb42 rfl (by decide) ⟨.inl rfl, .inl rfl, trivial⟩ rfl rfl (markIntS_c _ _ (by omega)) rfl rfl rfl (ic_noSh _) (ic_noRef _) (Nat.le_of_ble_eq_true rfl) (by decide) rfl) ?_
            refine r_val (v := .int _ _) (v_assign (.inl rfl) (noOwn_flat rfl)) rfl rfl (by decide) ?_
            refine r_nil ?_
            refine a_seq ?_
            refine a_seq ?_
            refine a_region ?_
            refine r_val (v := .int _ _) (v_move (.inl rfl) (noOwn_flat rfl)) rfl rfl (by decide) ?_
            refine r_val (v := .bool _) (v_lss (.inl rfl) (.inl rfl)) rfl rfl (by decide) ?_
            refine r_val (v := .bool _) (v_move (.inl rfl) (noOwn_flat rfl)) rfl rfl (by decide) ?_
            refine r_gval (v := .rsl _ _ _ _ _) (v_move (.inl rfl) (noOwn_flat rfl)) rfl rfl rfl (by decide) (.inl ⟨_, rfl, rfl⟩) rfl (by decide) ?_
            refine r_gval (v := .rsl _ _ _ _ _) (v_move (.inl rfl) (noOwn_flat rfl)) rfl rfl rfl (by decide) (.inl ⟨_, rfl, rfl⟩) rfl (by decide) ?_
            refine r_guard (v := .bool _) (q_call (vs := [.rsl _ _ _ _ _, .rsl _ _ _ _ _]) (args := [.sl _ _, .sl _ _]) hb22 ⟨.inr ⟨_, rfl, fun h => h⟩, .inr ⟨_, rfl, fun h => h⟩, trivial⟩ (l2_eq (sl_sh (ic_pure _)) (sl_sh (ic_pure _))) (fun hA => eqIntS_c _ _ (by omega)) rfl rfl) rfl rfl rfl (by decide) (.inl ⟨_, rfl, rfl⟩) rfl (by decide) ?_
            refine r_gval (v := .bool _) (v_not (.inr ⟨_, rfl, fun h => h⟩)) rfl rfl rfl (by decide) (.inl ⟨_, rfl, rfl⟩) rfl (by decide) ?_
            refine r_val (v := .bool _) (v_pick (.inl rfl) (.inl rfl) (.inr ⟨_, rfl, fun h h2 => by simp_all⟩)) rfl rfl (by decide) ?_
            refine r_val (v := .bool _) (v_move (.inl rfl) (noOwn_flat rfl)) rfl rfl (by decide) ?_
            refine r_gval (v := .bool _) (v_move (.inl rfl) (noOwn_flat rfl)) rfl rfl rfl (by decide) (.inl ⟨_, rfl, rfl⟩) rfl (by decide) ?_
            refine r_gval (v := .bool _) (v_move (.inl rfl) (noOwn_flat rfl)) rfl rfl rfl (by decide) (.inl ⟨_, rfl, rfl⟩) rfl (by decide) ?_
            refine r_gval (v := .bool _) (v_bne un4 (.inr ⟨_, rfl, fun h => h⟩) (.inr ⟨_, rfl, fun h => h⟩)) rfl rfl rfl (by decide) (.inl ⟨_, rfl, rfl⟩) rfl (by decide) ?_
            refine r_val (v := .bool _) (v_pick (.inl rfl) (.inl rfl) (.inr ⟨_, rfl, fun h h2 => by simp_all⟩)) rfl rfl (by decide) ?_
            refine r_nil ?_
            refine a_cond rfl (fun ht81 => ?_) (fun ht81 => ?_)
            ·
              skip
              refine a_seq ?_
              refine a_pre (ent_look (L := [(0, .int _ _), (1, .sl _ _), (2, .sl _ _), (6, .bool _), (7, .osl _ _ _ _), (8, .bool _), (11, .osl _ _ _ _)]) ⟨Weak.rfl, Weak.rfl, Weak.rfl, Weak.rfl, Weak.rfl, Weak.rfl, Weak.rfl, trivial⟩) ?_
              refine a_region ?_
              refine r_val (v := .bool _) (v_assign (.inl rfl) (noOwn_flat rfl)) rfl rfl (by decide) ?_
              refine r_nil ?_
              refine a_ret ?_
              refine ret1 Try.results13 (by decide) (by decide) (Weak.of_eq (bool_eq ?_)) rfl Leaves.nil
              first | rfl | (exfalso; simp at ht81; done) | (exfalso; simp at ht81; omega)
            ·
              skip
              refine a_skip ?_
              refine a_seq ?_
              refine a_pre (ent_look (L := [(0, .int _ _), (1, .sl _ _), (2, .sl _ _), (6, .bool _), (7, .osl _ _ _ _), (8, .bool _), (11, .osl _ _ _ _)]) ⟨Weak.rfl, Weak.rfl, Weak.rfl, Weak.rfl, Weak.rfl, Weak.rfl, Weak.rfl, trivial⟩) ?_
              refine a_region ?_
              refine r_val (v := .int _ _) (v_assign (.inl rfl) (noOwn_flat rfl)) rfl rfl (by decide) ?_
              refine r_nil ?_
              refine a_seq ?_
              refine a_region ?_
              refine r_val (v := .rsl _ _ _ _ _) (v_move (.inl rfl) (noOwn_flat rfl)) rfl rfl (by decide) ?_
              refine r_val (v := .int _ _) (v_move (.inl rfl) (noOwn_flat rfl)) rfl rfl (by decide) ?_
              refine r_step rfl (o_callIO (q := (11, [])) (vs := [.rsl _ _ _ _ _, .int _ _]) (args := [.rsl (INH, []) _ _ _ _, .int .i64 _]) (x0 := .osl _ _ _ _) (x1 := .osl _ _ _ _) (res := .int _ _) rfl hb42 rfl (by decide) ⟨.inl rfl, .inl rfl, trivial⟩ rfl rfl (markIntS_c _ _ (by omega)) rfl rfl rfl (ic_noSh _) (ic_noRef _) (Nat.le_of_ble_eq_true rfl) (by decide) rfl) ?_
              refine r_val (v := .int _ _) (v_assign (.inl rfl) (noOwn_flat rfl)) rfl rfl (by decide) ?_
              refine r_nil ?_
              refine a_seq ?_
              refine a_region ?_
              refine r_val (v := .int _ _) (v_assign (.inl rfl) (noOwn_flat rfl)) rfl rfl (by decide) ?_
              refine r_nil ?_
              refine a_seq ?_
              refine a_region ?_
              refine r_val (v := .rsl _ _ _ _ _) (v_move (.inl rfl) (noOwn_flat rfl)) rfl rfl (by decide) ?_
              refine r_val (v := .int _ _) (v_move (.inl rfl) (noOwn_flat rfl)) rfl rfl (by decide) ?_
              refine r_new (v := .int _ _) (q_call (vs := [.rsl _ _ _ _ _, .int _ _]) (args := [.sl _ _, .int .i64 _]) hb43 ⟨.inl rfl, .inl rfl, trivial⟩ (l2_eq (sl_sh (ic_pure _)) rfl) (fun hA => heldIntS_c _ _ (by omega)) rfl rfl) rfl rfl (by decide) ?_
              refine r_val (v := .int _ _) (v_assign (.inl rfl) (noOwn_flat rfl)) rfl rfl (by decide) ?_
              refine r_nil ?_
              refine a_seq ?_
              refine a_seq ?_
              refine a_region ?_
              refine r_val (v := .int _ _) (v_move (.inl rfl) (noOwn_flat rfl)) rfl rfl (by decide) ?_
              refine r_val (v := .bool _) (v_lss (.inl rfl) (.inl rfl)) rfl rfl (by decide) ?_
              refine r_nil ?_
              refine a_cond rfl (fun ht89 => ?_) (fun ht89 => ?_)
              ·
                skip
                refine a_seq ?_
                refine a_region ?_
                refine r_val (v := .bool _) (v_assign (.inl rfl) (noOwn_flat rfl)) rfl rfl (by decide) ?_
                refine r_nil ?_
                refine a_ret ?_
                refine ret1 Try.results13 (by decide) (by decide) (Weak.of_eq (bool_eq ?_)) rfl Leaves.nil
                first | rfl | (exfalso; simp at ht89; done) | (exfalso; simp at ht89; omega)
              ·
                skip
                refine a_skip ?_
                refine a_seq ?_
                refine a_seq ?_
                refine a_region ?_
                refine r_val (v := .int _ _) (v_move (.inl rfl) (noOwn_flat rfl)) rfl rfl (by decide) ?_
                refine r_val (v := .int _ _) (v_move (.inl rfl) (noOwn_flat rfl)) rfl rfl (by decide) ?_
                refine r_val (v := .bool _) (v_neq (.inl rfl) (.inl rfl)) rfl rfl (by decide) ?_
                refine r_nil ?_
                refine a_cond rfl (fun ht92 => ?_) (fun ht92 => ?_)
                ·
                  skip
                  refine a_seq ?_
                  refine a_region ?_
                  refine r_val (v := .bool _) (v_assign (.inl rfl) (noOwn_flat rfl)) rfl rfl (by decide) ?_
                  refine r_nil ?_
                  refine a_ret ?_
                  refine ret1 Try.results13 (by decide) (by decide) (Weak.of_eq (bool_eq ?_)) rfl Leaves.nil
                  first | rfl | (exfalso; simp at ht92; done) | (exfalso; simp at ht92; omega)
                ·
                  skip
                  refine a_skip ?_
                  refine a_seq ?_
                  refine a_region ?_
                  refine r_val (v := .int _ _) (v_move (.inl rfl) (noOwn_flat rfl)) rfl rfl (by decide) ?_
                  refine r_val (v := .sl _ _) (v_move (.inl rfl) (noOwn_flat rfl)) rfl rfl (by decide) ?_
                  refine r_new (v := .osl _ _ _ _) (q_call (vs := [.sl _ _]) (args := [.sl _ _]) hb18 ⟨.inl rfl, trivial⟩ rfl (fun hA => toIntS_c _ (by omega)) (ic_noSh _) (ic_noRef _)) rfl rfl (by decide) ?_
                  refine r_val (v := .sl _ _) (v_move (.inl rfl) (noOwn_flat rfl)) rfl rfl (by decide) ?_
                  refine r_new (v := .osl _ _ _ _) (q_call (vs := [.sl _ _]) (args := [.sl _ _]) hb18 ⟨.inl rfl, trivial⟩ rfl (fun hA => toIntS_c _ (by omega)) (ic_noSh _) (ic_noRef _)) rfl rfl (by decide) ?_
                  refine r_new (v := .tup [.osl _ _ _ _, .bool _]) (q_call (vs := [.int _ _, .rsl _ _ _ _ _, .rsl _ _ _ _ _]) (args := [.int .i64 _, .sl _ _, .sl _ _]) hb51 ⟨.inl rfl, .inl rfl, .inl rfl, trivial⟩ (l3_eq rfl (sl_sh (ic_pure _)) (sl_sh (ic_pure _))) (fun hA => iMerge_c _ _ _ (by omega) (by omega) (by omega) hb hb2) (by simp [noSh, noShL, ic_noSh]) (by simp [noRef, noRefL, ic_noRef])) rfl rfl (by decide) ?_
                  refine r_val (v := .tup [.rsl _ _ _ _ _, .bool _]) (v_mv rfl) rfl rfl (by decide) ?_
                  refine r_val (v := .rsl _ _ _ _ _) (v_extract rfl rfl) rfl rfl (by decide) ?_
                  refine r_val (v := .bool _) (v_extract rfl rfl) rfl rfl (by decide) ?_
                  refine r_val (v := .rsl _ _ _ _ _) (v_assign (.inl rfl) (noOwn_flat rfl)) rfl rfl (by decide) ?_
                  refine r_pre (ent_reloc_sl (t := 16) rfl rfl) ?_
                  refine r_val (v := .bool _) (v_assign (.inl rfl) (noOwn_flat rfl)) rfl rfl (by decide) ?_
                  refine r_nil ?_
                  refine a_seq ?_
                  refine a_seq ?_
                  refine a_pre (ent_look (L := [(6, .bool _), (7, .osl _ _ _ _), (8, .bool _), (11, .osl _ _ _ _), (14, .int _ _), (15, .int _ _), (16, .osl _ _ _ _), (17, .bool _)]) ⟨Weak.rfl, Weak.rfl, Weak.rfl, Weak.rfl, Weak.rfl, Weak.rfl, Weak.rfl, Weak.rfl, trivial⟩) ?_
                  refine a_region ?_
                  refine r_val (v := .rsl _ _ _ _ _) (v_move (.inl rfl) (noOwn_flat rfl)) rfl rfl (by decide) ?_
                  refine r_val (v := .rsl _ _ _ _ _) (v_move (.inl rfl) (noOwn_flat rfl)) rfl rfl (by decide) ?_
                  refine r_new (v := .bool _) (q_call (vs := [.rsl _ _ _ _ _, .rsl _ _ _ _ _]) (args := [.sl _ _, .sl _ _]) hb22 ⟨.inl rfl, .inl rfl, trivial⟩ (l2_eq (sl_sh (ic_pure _)) (sl_sh (ic_pure _))) (fun hA => eqIntS_c _ _ (by omega)) rfl rfl) rfl rfl (by decide) ?_
                  refine r_val (v := .bool _) (v_not (.inl rfl)) rfl rfl (by decide) ?_
                  refine r_val (v := .bool _) (v_move (.inl rfl) (noOwn_flat rfl)) rfl rfl (by decide) ?_
                  refine r_gval (v := .bool _) (v_move (.inl rfl) (noOwn_flat rfl)) rfl rfl rfl (by decide) (.inl ⟨_, rfl, rfl⟩) rfl (by decide) ?_
                  refine r_gval (v := .bool _) (v_move (.inl rfl) (noOwn_flat rfl)) rfl rfl rfl (by decide) (.inl ⟨_, rfl, rfl⟩) rfl (by decide) ?_
                  refine r_gval (v := .bool _) (v_bne un4 (.inr ⟨_, rfl, fun h => h⟩) (.inr ⟨_, rfl, fun h => h⟩)) rfl rfl rfl (by decide) (.inl ⟨_, rfl, rfl⟩) rfl (by decide) ?_
                  refine r_val (v := .bool _) (v_pick (.inl rfl) (.inl rfl) (.inr ⟨_, rfl, fun h h2 => by simp_all⟩)) rfl rfl (by decide) ?_
                  refine r_nil ?_
                  refine a_cond rfl (fun ht110 => ?_) (fun ht110 => ?_)
                  ·
                    skip
                    refine a_seq ?_
                    refine a_region ?_
                    refine r_val (v := .bool _) (v_assign (.inl rfl) (noOwn_flat rfl)) rfl rfl (by decide) ?_
                    refine r_nil ?_
                    refine a_ret ?_
                    refine ret1 Try.results13 (by decide) (by decide) (Weak.of_eq (bool_eq ?_)) rfl Leaves.nil
                    first | rfl | (exfalso; simp at ht110; done) | (exfalso; simp at ht110; omega)
                  ·
                    skip
                    refine a_skip ?_
                    refine a_seq ?_
                    refine a_region ?_
                    refine r_val (v := .int _ _) (v_assign (.inl rfl) (noOwn_flat rfl)) rfl rfl (by decide) ?_
                    refine r_nil ?_
                    refine a_seq ?_
                    refine a_region ?_
                    refine r_val (v := .rsl _ _ _ _ _) (v_move (.inl rfl) (noOwn_flat rfl)) rfl rfl (by decide) ?_
                    refine r_val (v := .int _ _) (v_move (.inl rfl) (noOwn_flat rfl)) rfl rfl (by decide) ?_
                    refine r_new (v := .int _ _) (q_call (vs := [.rsl _ _ _ _ _, .int _ _]) (args := [.sl _ _, .int .i64 _]) hb43 ⟨.inl rfl, .inl rfl, trivial⟩ (l2_eq (sl_sh (ic_pure _)) rfl) (fun hA => heldIntS_c _ _ (by omega)) rfl rfl) rfl rfl (by decide) ?_
                    refine r_val (v := .int _ _) (v_assign (.inl rfl) (noOwn_flat rfl)) rfl rfl (by decide) ?_
                    refine r_nil ?_
                    refine a_seq ?_
                    refine a_seq ?_
                    refine a_region ?_
                    refine r_val (v := .int _ _) (v_move (.inl rfl) (noOwn_flat rfl)) rfl rfl (by decide) ?_
                    refine r_val (v := .bool _) (v_lss (.inl rfl) (.inl rfl)) rfl rfl (by decide) ?_
                    refine r_nil ?_
                    refine a_cond rfl (fun ht115 => ?_) (fun ht115 => ?_)
                    ·
                      skip
                      refine a_seq ?_
                      refine a_region ?_
                      refine r_val (v := .bool _) (v_assign (.inl rfl) (noOwn_flat rfl)) rfl rfl (by decide) ?_
                      refine r_nil ?_
                      refine a_ret ?_
                      refine ret1 Try.results13 (by decide) (by decide) (Weak.of_eq (bool_eq ?_)) rfl Leaves.nil
                      first | rfl | (exfalso; simp at ht115; done) | (exfalso; simp at ht115; omega)
                    ·
                      skip
                      refine a_skip ?_
                      refine a_seq ?_
                      refine a_seq ?_
                      refine a_region ?_
                      refine r_val (v := .int _ _) (v_move (.inl rfl) (noOwn_flat rfl)) rfl rfl (by decide) ?_
                      refine r_val (v := .int _ _) (v_move (.inl rfl) (noOwn_flat rfl)) rfl rfl (by decide) ?_
                      refine r_val (v := .bool _) (v_neq (.inl rfl) (.inl rfl)) rfl rfl (by decide) ?_
                      refine r_nil ?_
                      refine a_cond rfl (fun ht118 => ?_) (fun ht118 => ?_)
                      ·
                        skip
                        refine a_seq ?_
                        refine a_region ?_
                        refine r_val (v := .bool _) (v_assign (.inl rfl) (noOwn_flat rfl)) rfl rfl (by decide) ?_
                        refine r_nil ?_
                        refine a_ret ?_
                        refine ret1 Try.results13 (by decide) (by decide) (Weak.of_eq (bool_eq ?_)) rfl Leaves.nil
                        first | rfl | (exfalso; simp at ht118; done) | (exfalso; simp at ht118; omega)
                      ·
                        skip
                        refine a_skip ?_
                        refine a_seq ?_
                        refine a_region ?_
                        refine r_val (v := .bool _) (v_assign (.inl rfl) (noOwn_flat rfl)) rfl rfl (by decide) ?_
                        refine r_nil ?_
                        refine a_ret ?_
                        refine ret1 Try.results13 (by decide) (by decide) (Weak.of_eq (bool_eq ?_)) rfl Leaves.nil
                        first | rfl | (exfalso; simp at ht118; done) | (exfalso; simp at ht118; omega)
end Go.Av
namespace Go.Av
open Go
theorem bd64 {n : Int} (h : (Lit.int .i64 n).wf = true) : -9223372036854775808 ≤ n ∧ n ≤ 9223372036854775807 := bounds_i64 h
theorem len64 {n : Nat} (h : n ≤ maxLen) : (n : Int) ≤ 9223372036854775807 := by unfold maxLen at h; omega
theorem icells_flat (xs : List Int) : xs.flatMap (fun n => [AV.int .i64 n]) = icells xs := by
  induction xs with
  | nil => rfl
  | cons x xs ih => rw [List.flatMap_cons, ih]; rfl
end Go.Av
namespace Go.Av
open Go Go.Proofs Go.Proofs.Ytgpanniofcfmbaa
set_option maxRecDepth 100000
theorem arg3 : OpensV Try.prog 3 (fun x : Int => AV.int .i64 x) (fun x => (Lit.int .i64 x).wf = true) :=
  opensV_one (ok_scalar (by rw [Try.underlying3])) (opens_int Try.underlying3) (fun _ => rfl)
theorem arg25 : OpensV Try.prog 25 (fun x : List (Int) => AV.sl (x.flatMap fun y => [AV.int .i64 y]) x.length) (fun x => (x.length ≤ maxLen ∧ ∀ y ∈ x, (Lit.int .i64 y).wf = true ∧ ([AV.int .i64 y]).length = 1)) :=
  opensV_one (ok_scalar (by rw [Try.underlying25])) (opens_slice (k := 1) Try.underlying25 (by kernel_rfl) (by decide) (opens_int Try.underlying3) (fun _ => rfl)) (fun _ => rfl)
theorem rowOwn : ownKnob Try.prog.godebug = none := by kernel_rfl
theorem rowLaid : laidOutB Try.prog = true := by kernel_rfl
end Go.Av
