/- Lemmas, part 6. -/
import Derived.Test.YtjnfagmhjjedoaaB5
import Derived.Test.YtjnfagmhjjedoaaRows
set_option linter.unusedVariables false
set_option linter.unusedSimpArgs false
namespace Go.Av
open Go Go.Proofs Go.Sort
set_option maxRecDepth 10000
theorem idx_mem (xs : List Int) (v : Int) : decide (fidx (fun i => decide (v = gd xs i)) xs.length ≥ 0) = decide (v ∈ xs) := by
  rw [show decide (fidx (fun i => decide (v = gd xs i)) xs.length ≥ 0) = decide (0 ≤ fidx (fun i => decide (v = gd xs i)) xs.length) from rfl, fidx_any, Bool.eq_iff_iff, decide_eq_true_iff]
  constructor
  · intro h
    obtain ⟨i, hi, hx⟩ := List.any_eq_true.1 h
    rw [of_decide_eq_true hx]; exact gd_mem (by simpa using hi)
  · intro h
    obtain ⟨j, hj, hx⟩ := mem_gd h
    exact List.any_eq_true.2 ⟨j, by simpa using hj, by simp [hx]⟩
theorem hb116 : hasBody Try.prog 116 = true := by kernel_rfl
theorem hb120 : hasBody Try.prog 120 = true := by kernel_rfl
theorem hb122 : hasBody Try.prog 122 = true := by kernel_rfl
theorem hb126 : hasBody Try.prog 126 = true := by kernel_rfl
theorem hb128 : hasBody Try.prog 128 = true := by kernel_rfl
theorem hb129 : hasBody Try.prog 129 = true := by kernel_rfl
theorem hb138 : hasBody Try.prog 138 = true := by kernel_rfl
theorem hb82 : hasBody Try.prog 82 = true := by kernel_rfl

theorem index_c (xs : List Int) (v : Int) (hl : xs.length ≤ 1048576) : ACall Try.prog 82 [.sl (icells xs) xs.length, .int .i64 v] [] (.int .i64 (fidx (fun i => decide (v = gd xs i)) xs.length)) [] := by
  refine ACall.intro Try.func82 rfl (N := 19) rfl (by decide) (by simp) ?_
  refine a_seq ?_
  refine a_region ?_
  refine r_val (v := .int _ _) (v_assign (.inl rfl) (noOwn_flat rfl)) rfl rfl (by decide) ?_
  refine r_nil ?_
  refine a_seq ?_
  refine a_seq ?_
  refine a_region ?_
  refine r_val (v := .sl _ _) (v_move (.inl rfl) (noOwn_flat rfl)) rfl rfl (by decide) ?_
  refine r_val (v := .int _ _) (v_len_sl sl25 (.inl rfl)) rfl rfl (by decide) ?_
  refine r_val (v := .int _ _) (v_move (.inl rfl) (noOwn_flat rfl)) rfl rfl (by decide) ?_
  refine r_nil ?_
  refine a_block ?_
  refine a_loop (X := Nat) (fun i => look [(0, .sl (icells xs) xs.length), (1, .int .i64 v), (7, .int .i64 ((xs.length : Nat) : Int)), (8, .int .i64 ((i : Nat) : Int))]) (fun i => i ≤ xs.length ∧ ∀ j, j < i → decide (v = gd xs j) = false) (fun i => xs.length - i) 0 (ent_look ⟨Weak.of_eq rfl, Weak.of_eq rfl, Weak.of_eq rfl, Weak.of_eq rfl, trivial⟩) ⟨Nat.zero_le _, fun j h => by omega⟩ (fun i hG => ?_)
  obtain ⟨h1, h2⟩ := hG
  refine a_seq ?_
  refine a_region ?_
  refine r_val (v := .bool _) (v_lss (.inl rfl) (.inl rfl)) rfl rfl (by decide) ?_
  refine r_nil ?_
  refine a_seq ?_
  refine a_cond rfl (fun ht9 => ?_) (fun ht9 => ?_)
  ·
    skip
    refine a_skip ?_
    refine a_seq ?_
    refine a_block ?_
    refine a_seq ?_
    have hi : i < xs.length := (by simp at ht9; omega)
    refine a_region ?_
    refine r_val (v := .int _ _) (v_move (.inl rfl) (noOwn_flat rfl)) rfl rfl (by decide) ?_
    refine r_val (v := .int _ _) (v_assign (.inl rfl) (noOwn_flat rfl)) rfl rfl (by decide) ?_
    refine r_nil ?_
    refine a_seq ?_
    refine a_region ?_
    refine r_val (v := .int _ _) (v_move (.inl rfl) (noOwn_flat rfl)) rfl rfl (by decide) ?_
    refine r_val (v := .sl _ _) (v_move (.inl rfl) (noOwn_flat rfl)) rfl rfl (by decide) ?_
    refine r_val (v := .int _ _) (v_move (.inl rfl) (noOwn_flat rfl)) rfl rfl (by decide) ?_
    refine r_val (v := .pp _ _) (v_indexAddr_sl es25 (.inl rfl) (.inl rfl) (fun _ => ⟨by omega, by omega, icells_ne hi⟩)) rfl rfl (by decide) ?_
    refine r_val (v := .int .i64 (gd xs i)) (v_load_pp ta3 (.inl rfl) (fun _ => by rw [Nat.mul_one]; exact icells_get (gd_get hi)) rfl) rfl rfl (by decide) ?_
    refine r_val (v := .bool _) (v_eql (.inl rfl) (.inl rfl)) rfl rfl (by decide) ?_
    refine r_nil ?_
    refine a_cond rfl (fun ht16 => ?_) (fun ht16 => ?_)
    ·
      skip
      refine a_seq ?_
      refine a_region ?_
      refine r_val (v := .int _ _) (v_move (.inl rfl) (noOwn_flat rfl)) rfl rfl (by decide) ?_
      refine r_val (v := .int _ _) (v_assign (.inl rfl) (noOwn_flat rfl)) rfl rfl (by decide) ?_
      refine r_nil ?_
      refine a_ret ?_
      refine ret1 Try.results82 (by decide) (by decide) (Weak.of_eq (int_eq ?_)) rfl Leaves.nil
      exact (fidx_found (p := fun j => decide (v = gd xs j)) hi (by simpa using ht16) h2).symm
    ·
      skip
      refine a_skip ?_
      refine a_region ?_
      refine r_val (v := .int _ _) (v_add (.inl rfl) (.inl rfl) (fun _ => by omega)) rfl rfl (by decide) ?_
      refine r_val (v := .int _ _) (v_move (.inl rfl) (noOwn_flat rfl)) rfl rfl (by decide) ?_
      refine r_nil ?_
      refine ⟨i + 1, ent_look ⟨Weak.of_eq rfl, Weak.of_eq rfl, Weak.of_eq rfl, Weak.of_eq (int_eq (by omega)), trivial⟩, ⟨by omega, ok_stepF (p := fun j => decide (v = gd xs j)) h2 (by simpa using ht16)⟩, by omega⟩
  ·
    skip
    refine a_exit ?_
    refine a_seq ?_
    refine a_region ?_
    refine r_val (v := .int _ _) (v_assign (.inl rfl) (noOwn_flat rfl)) rfl rfl (by decide) ?_
    refine r_nil ?_
    refine a_ret ?_
    refine ret1 Try.results82 (by decide) (by decide) (Weak.of_eq (int_eq ?_)) rfl Leaves.nil
    simp at ht9; exact (fidx_none (p := fun j => decide (v = gd xs j)) (fun j hj => h2 j (by omega))).symm

theorem contains_c (xs : List Int) (v : Int) (hl : xs.length ≤ 1048576) : ACall Try.prog 120 [.sl (icells xs) xs.length, .int .i64 v] [] (.bool (decide (v ∈ xs))) [] := by
  refine ACall.intro Try.func120 rfl (N := 9) rfl (by decide) (by simp) ?_
  refine a_seq ?_
  refine a_region ?_
  refine r_val (v := .bool _) (v_assign (.inl rfl) (noOwn_flat rfl)) rfl rfl (by decide) ?_
  refine r_nil ?_
  refine a_seq ?_
  refine a_region ?_
  refine r_val (v := .sl _ _) (v_move (.inl rfl) (noOwn_flat rfl)) rfl rfl (by decide) ?_
  refine r_val (v := .int _ _) (v_move (.inl rfl) (noOwn_flat rfl)) rfl rfl (by decide) ?_
  refine r_new (v := .int _ _) (q_call (vs := [.sl _ _, .int _ _]) (args := [.sl _ _, .int .i64 _]) hb82 ⟨.inl rfl, .inl rfl, trivial⟩ rfl (fun hA => index_c xs v hl) rfl rfl) rfl rfl (by decide) ?_
  refine r_val (v := .bool _) (v_geq (.inl rfl) (.inl rfl)) rfl rfl (by decide) ?_
  refine r_val (v := .bool _) (v_assign (.inl rfl) (noOwn_flat rfl)) rfl rfl (by decide) ?_
  refine r_nil ?_
  refine a_ret ?_
  refine ret1 Try.results120 (by decide) (by decide) (Weak.of_eq (bool_eq ?_)) rfl Leaves.nil
  exact idx_mem xs v

theorem iClv_c (c a : List Int) (hs : SmI c) (hc : c.length ≤ 1048576) (ha : a.length ≤ 1048576) : ACall Try.prog 126 [.sl (icells c) c.length, .sl (icells a) a.length] [] (.int .i64 (cval c a)) [] := by
  refine ACall.intro Try.func126 rfl (N := 26) rfl (by decide) (by simp) ?_
  refine a_seq ?_
  refine a_region ?_
  refine r_val (v := .int _ _) (v_assign (.inl rfl) (noOwn_flat rfl)) rfl rfl (by decide) ?_
  refine r_nil ?_
  refine a_seq ?_
  refine a_region ?_
  refine r_val (v := .int _ _) (v_assign (.inl rfl) (noOwn_flat rfl)) rfl rfl (by decide) ?_
  refine r_nil ?_
  refine a_seq ?_
  refine a_seq ?_
  refine a_region ?_
  refine r_val (v := .sl _ _) (v_move (.inl rfl) (noOwn_flat rfl)) rfl rfl (by decide) ?_
  refine r_val (v := .int _ _) (v_len_sl sl25 (.inl rfl)) rfl rfl (by decide) ?_
  refine r_val (v := .int _ _) (v_move (.inl rfl) (noOwn_flat rfl)) rfl rfl (by decide) ?_
  refine r_nil ?_
  refine a_block ?_
  refine a_loop (X := Nat) (fun i => look [(1, .sl (icells a) a.length), (5, .int .i64 (cvP c a i)), (8, .sl (icells c) c.length), (9, .int .i64 ((c.length : Nat) : Int)), (10, .int .i64 ((i : Nat) : Int))]) (fun i => i ≤ c.length ∧ ∀ j, j < i → ¬ gd c j ∈ a) (fun i => c.length - i) 0 (ent_look ⟨Weak.of_eq rfl, Weak.of_eq rfl, Weak.of_eq rfl, Weak.of_eq rfl, Weak.of_eq rfl, trivial⟩) ⟨Nat.zero_le _, fun j h => by omega⟩ (fun i hG => ?_)
  obtain ⟨g1, g2⟩ := hG
  have hsi := hs i
  refine a_seq ?_
  refine a_region ?_
  refine r_val (v := .bool _) (v_lss (.inl rfl) (.inl rfl)) rfl rfl (by decide) ?_
  refine r_nil ?_
  refine a_seq ?_
  refine a_cond rfl (fun ht11 => ?_) (fun ht11 => ?_)
  ·
    skip
    refine a_skip ?_
    refine a_seq ?_
    refine a_block ?_
    refine a_seq ?_
    have hi : i < c.length := (by simp at ht11; omega)
    refine a_region ?_
    refine r_val (v := .pp _ _) (v_indexAddr_sl es25 (.inl rfl) (.inl rfl) (fun _ => ⟨by omega, by omega, icells_ne hi⟩)) rfl rfl (by decide) ?_
    refine r_val (v := .int .i64 (gd c i)) (v_load_pp ta3 (.inl rfl) (fun _ => by rw [Nat.mul_one]; exact icells_get (gd_get hi)) rfl) rfl rfl (by decide) ?_
    refine r_val (v := .int _ _) (v_assign (.inl rfl) (noOwn_flat rfl)) rfl rfl (by decide) ?_
    refine r_nil ?_
    refine a_block ?_
    refine a_seq ?_
    refine a_region ?_
    refine r_val (v := .sl _ _) (v_move (.inl rfl) (noOwn_flat rfl)) rfl rfl (by decide) ?_
    refine r_val (v := .int _ _) (v_move (.inl rfl) (noOwn_flat rfl)) rfl rfl (by decide) ?_
    refine r_new (v := .bool _) (q_call (vs := [.sl _ _, .int _ _]) (args := [.sl _ _, .int .i64 _]) hb120 ⟨.inl rfl, .inl rfl, trivial⟩ rfl (fun hA => contains_c a _ ha) rfl rfl) rfl rfl (by decide) ?_
    refine r_val (v := .bool _) (v_assign (.inl rfl) (noOwn_flat rfl)) rfl rfl (by decide) ?_
    refine r_nil ?_
    refine a_cond rfl (fun ht14 => ?_) (fun ht14 => ?_)
    ·
      skip
      refine a_seq ?_
      refine a_region ?_
      refine r_val (v := .int _ _) (v_assign (.inl rfl) (noOwn_flat rfl)) rfl rfl (by decide) ?_
      refine r_nil ?_
      refine a_ret ?_
      refine ret1 Try.results126 (by decide) (by decide) (Weak.of_eq (int_eq ?_)) rfl Leaves.nil
      exact (cval_one hi (by simpa using ht14)).symm
    ·
      skip
      refine a_seq ?_
      refine a_region ?_
      refine r_val (v := .sl _ _) (v_move (.inl rfl) (noOwn_flat rfl)) rfl rfl (by decide) ?_
      refine r_val (v := .int _ _) (v_move (.inl rfl) (noOwn_flat rfl)) rfl rfl (by decide) ?_
      refine r_val (v := .int _ _) (v_neg (.inl rfl) (fun _ => by omega)) rfl rfl (by decide) ?_
      refine r_new (v := .bool _) (q_call (vs := [.sl _ _, .int _ _]) (args := [.sl _ _, .int .i64 _]) hb120 ⟨.inl rfl, .inl rfl, trivial⟩ rfl (fun hA => contains_c a _ ha) rfl rfl) rfl rfl (by decide) ?_
      refine r_val (v := .bool _) (v_not (.inl rfl)) rfl rfl (by decide) ?_
      refine r_val (v := .bool _) (v_assign (.inl rfl) (noOwn_flat rfl)) rfl rfl (by decide) ?_
      refine r_nil ?_
      refine a_cond rfl (fun ht18 => ?_) (fun ht18 => ?_)
      ·
        skip
        refine a_region ?_
        refine r_val (v := .int _ _) (v_assign (.inl rfl) (noOwn_flat rfl)) rfl rfl (by decide) ?_
        refine r_nil ?_
        refine a_region ?_
        refine r_val (v := .int _ _) (v_add (.inl rfl) (.inl rfl) (fun _ => by omega)) rfl rfl (by decide) ?_
        refine r_val (v := .int _ _) (v_move (.inl rfl) (noOwn_flat rfl)) rfl rfl (by decide) ?_
        refine r_nil ?_
        refine ⟨i + 1, ent_look ⟨Weak.of_eq rfl, Weak.of_eq (int_eq (by rw [cvP_succ hi, if_neg (by simpa using ht18)])), Weak.of_eq rfl, Weak.of_eq rfl, Weak.of_eq (int_eq (by omega)), trivial⟩, ⟨by omega, fun j h1 => by rcases Nat.lt_or_ge j i with h | h; exact g2 j h; (obtain rfl : j = i := by omega); simpa using ht14⟩, by omega⟩
      ·
        skip
        refine a_skip ?_
        refine a_region ?_
        refine r_val (v := .int _ _) (v_add (.inl rfl) (.inl rfl) (fun _ => by omega)) rfl rfl (by decide) ?_
        refine r_val (v := .int _ _) (v_move (.inl rfl) (noOwn_flat rfl)) rfl rfl (by decide) ?_
        refine r_nil ?_
        refine ⟨i + 1, ent_look ⟨Weak.of_eq rfl, Weak.of_eq (int_eq (by rw [cvP_succ hi, if_pos (by simpa using ht18)])), Weak.of_eq rfl, Weak.of_eq rfl, Weak.of_eq (int_eq (by omega)), trivial⟩, ⟨by omega, fun j h1 => by rcases Nat.lt_or_ge j i with h | h; exact g2 j h; (obtain rfl : j = i := by omega); simpa using ht14⟩, by omega⟩
  ·
    skip
    refine a_exit ?_
    refine a_seq ?_
    have hcv := cval_end (c := c) (a := a) (i := i) (by simp at ht11; omega) g2
    refine a_region ?_
    refine r_val (v := .int _ _) (v_move (.inl rfl) (noOwn_flat rfl)) rfl rfl (by decide) ?_
    refine r_val (v := .int _ _) (v_assign (.inl rfl) (noOwn_flat rfl)) rfl rfl (by decide) ?_
    refine r_nil ?_
    refine a_ret ?_
    refine ret1 Try.results126 (by decide) (by decide) (Weak.of_eq (int_eq ?_)) rfl Leaves.nil
    exact hcv.symm

theorem sClv_c (c a : List Int) (hs : SmI c) (hc : c.length ≤ 1048576) (ha : a.length ≤ 1048576) : ACall Try.prog 122 [.sl (icells c) c.length, .sl (icells a) a.length] [] (.int .i64 (cval c a)) [] := by
  refine ACall.intro Try.func122 rfl (N := 28) rfl (by decide) (by simp) ?_
  refine a_seq ?_
  refine a_region ?_
  refine r_val (v := .int _ _) (v_assign (.inl rfl) (noOwn_flat rfl)) rfl rfl (by decide) ?_
  refine r_nil ?_
  refine a_seq ?_
  refine a_region ?_
  refine r_val (v := .int _ _) (v_assign (.inl rfl) (noOwn_flat rfl)) rfl rfl (by decide) ?_
  refine r_nil ?_
  refine a_seq ?_
  refine a_seq ?_
  refine a_region ?_
  refine r_val (v := .int _ _) (v_assign (.inl rfl) (noOwn_flat rfl)) rfl rfl (by decide) ?_
  refine r_nil ?_
  refine a_block ?_
  refine a_loop (X := Nat) (fun i => look [(0, .sl (icells c) c.length), (1, .sl (icells a) a.length), (5, .int .i64 (cvP c a i)), (6, .int .i64 ((i : Nat) : Int))]) (fun i => i ≤ c.length ∧ ∀ j, j < i → ¬ gd c j ∈ a) (fun i => c.length - i) 0 (ent_look ⟨Weak.of_eq rfl, Weak.of_eq rfl, Weak.of_eq rfl, Weak.of_eq rfl, trivial⟩) ⟨Nat.zero_le _, fun j h => by omega⟩ (fun i hG => ?_)
  obtain ⟨g1, g2⟩ := hG
  have hsi := hs i
  refine a_seq ?_
  refine a_seq ?_
  refine a_region ?_
  refine r_val (v := .int _ _) (v_move (.inl rfl) (noOwn_flat rfl)) rfl rfl (by decide) ?_
  refine r_val (v := .sl _ _) (v_move (.inl rfl) (noOwn_flat rfl)) rfl rfl (by decide) ?_
  refine r_val (v := .int _ _) (v_len_sl sl25 (.inl rfl)) rfl rfl (by decide) ?_
  refine r_val (v := .bool _) (v_lss (.inl rfl) (.inl rfl)) rfl rfl (by decide) ?_
  refine r_nil ?_
  refine a_cond rfl (fun ht10 => ?_) (fun ht10 => ?_)
  ·
    skip
    refine a_skip ?_
    refine a_seq ?_
    refine a_block ?_
    refine a_seq ?_
    refine a_seq ?_
    have hi : i < c.length := (by simp at ht10; omega)
    refine a_region ?_
    refine r_val (v := .sl _ _) (v_move (.inl rfl) (noOwn_flat rfl)) rfl rfl (by decide) ?_
    refine r_val (v := .sl _ _) (v_move (.inl rfl) (noOwn_flat rfl)) rfl rfl (by decide) ?_
    refine r_val (v := .int _ _) (v_move (.inl rfl) (noOwn_flat rfl)) rfl rfl (by decide) ?_
    refine r_val (v := .pp _ _) (v_indexAddr_sl es25 (.inl rfl) (.inl rfl) (fun _ => ⟨by omega, by omega, icells_ne hi⟩)) rfl rfl (by decide) ?_
    refine r_val (v := .int .i64 (gd c i)) (v_load_pp ta3 (.inl rfl) (fun _ => by rw [Nat.mul_one]; exact icells_get (gd_get hi)) rfl) rfl rfl (by decide) ?_
    refine r_new (v := .bool _) (q_call (vs := [.sl _ _, .int _ _]) (args := [.sl _ _, .int .i64 _]) hb116 ⟨.inl rfl, .inl rfl, trivial⟩ rfl (fun hA => has2_c _ _ _ ⟨rfl, by omega⟩) rfl rfl) rfl rfl (by decide) ?_
    refine r_nil ?_
    refine a_cond rfl (fun ht18 => ?_) (fun ht18 => ?_)
    ·
      skip
      refine a_seq ?_
      refine a_region ?_
      refine r_val (v := .int _ _) (v_assign (.inl rfl) (noOwn_flat rfl)) rfl rfl (by decide) ?_
      refine r_nil ?_
      refine a_ret ?_
      refine ret1 Try.results122 (by decide) (by decide) (Weak.of_eq (int_eq ?_)) rfl Leaves.nil
      exact (cval_one hi (by simpa using ht18)).symm
    ·
      skip
      refine a_skip ?_
      refine a_seq ?_
      refine a_region ?_
      refine r_val (v := .sl _ _) (v_move (.inl rfl) (noOwn_flat rfl)) rfl rfl (by decide) ?_
      refine r_val (v := .sl _ _) (v_move (.inl rfl) (noOwn_flat rfl)) rfl rfl (by decide) ?_
      refine r_val (v := .int _ _) (v_move (.inl rfl) (noOwn_flat rfl)) rfl rfl (by decide) ?_
      refine r_val (v := .pp _ _) (v_indexAddr_sl es25 (.inl rfl) (.inl rfl) (fun _ => ⟨by omega, by omega, icells_ne hi⟩)) rfl rfl (by decide) ?_
      refine r_val (v := .int .i64 (gd c i)) (v_load_pp ta3 (.inl rfl) (fun _ => by rw [Nat.mul_one]; exact icells_get (gd_get hi)) rfl) rfl rfl (by decide) ?_
      refine r_val (v := .int _ _) (v_neg (.inl rfl) (fun _ => by omega)) rfl rfl (by decide) ?_
      refine r_new (v := .bool _) (q_call (vs := [.sl _ _, .int _ _]) (args := [.sl _ _, .int .i64 _]) hb116 ⟨.inl rfl, .inl rfl, trivial⟩ rfl (fun hA => has2_c _ _ _ ⟨rfl, by omega⟩) rfl rfl) rfl rfl (by decide) ?_
      refine r_val (v := .bool _) (v_not (.inl rfl)) rfl rfl (by decide) ?_
      refine r_nil ?_
      refine a_cond rfl (fun ht26 => ?_) (fun ht26 => ?_)
      ·
        skip
        refine a_region ?_
        refine r_val (v := .int _ _) (v_assign (.inl rfl) (noOwn_flat rfl)) rfl rfl (by decide) ?_
        refine r_nil ?_
        refine a_region ?_
        refine r_val (v := .int _ _) (v_move (.inl rfl) (noOwn_flat rfl)) rfl rfl (by decide) ?_
        refine r_val (v := .int _ _) (v_add (.inl rfl) (.inl rfl) (fun _ => by omega)) rfl rfl (by decide) ?_
        refine r_val (v := .int _ _) (v_assign (.inl rfl) (noOwn_flat rfl)) rfl rfl (by decide) ?_
        refine r_nil ?_
        refine ⟨i + 1, ent_look ⟨Weak.of_eq rfl, Weak.of_eq rfl, Weak.of_eq (int_eq (by rw [cvP_succ hi, if_neg (by simpa using ht26)])), Weak.of_eq (int_eq (by omega)), trivial⟩, ⟨by omega, fun j h1 => by rcases Nat.lt_or_ge j i with h | h; exact g2 j h; (obtain rfl : j = i := by omega); simpa using ht18⟩, by omega⟩
      ·
        skip
        refine a_skip ?_
        refine a_region ?_
        refine r_val (v := .int _ _) (v_move (.inl rfl) (noOwn_flat rfl)) rfl rfl (by decide) ?_
        refine r_val (v := .int _ _) (v_add (.inl rfl) (.inl rfl) (fun _ => by omega)) rfl rfl (by decide) ?_
        refine r_val (v := .int _ _) (v_assign (.inl rfl) (noOwn_flat rfl)) rfl rfl (by decide) ?_
        refine r_nil ?_
        refine ⟨i + 1, ent_look ⟨Weak.of_eq rfl, Weak.of_eq rfl, Weak.of_eq (int_eq (by rw [cvP_succ hi, if_pos (by simpa using ht26)])), Weak.of_eq (int_eq (by omega)), trivial⟩, ⟨by omega, fun j h1 => by rcases Nat.lt_or_ge j i with h | h; exact g2 j h; (obtain rfl : j = i := by omega); simpa using ht18⟩, by omega⟩
  ·
    skip
    refine a_exit ?_
    refine a_seq ?_
    have hcv := cval_end (c := c) (a := a) (i := i) (by simp at ht10; omega) g2
    refine a_region ?_
    refine r_val (v := .int _ _) (v_move (.inl rfl) (noOwn_flat rfl)) rfl rfl (by decide) ?_
    refine r_val (v := .int _ _) (v_assign (.inl rfl) (noOwn_flat rfl)) rfl rfl (by decide) ?_
    refine r_nil ?_
    refine a_ret ?_
    refine ret1 Try.results122 (by decide) (by decide) (Weak.of_eq (int_eq ?_)) rfl Leaves.nil
    exact hcv.symm

theorem open1_c (l : Int) (a : List Int) (hl : -4611686018427387904 ≤ l ∧ l ≤ 4611686018427387904) (ha : a.length ≤ 1048576) : ACall Try.prog 138 [.int .i64 l, .pp [.sl (icells a) a.length] 0] [] (.bool (decide (-l ∈ a))) [] := by
  refine ACall.intro Try.func138 rfl (N := 8) rfl (by decide) (by simp) ?_
  refine a_seq ?_
  refine a_region ?_
  refine r_val (v := .bool _) (v_assign (.inl rfl) (noOwn_flat rfl)) rfl rfl (by decide) ?_
  refine r_nil ?_
  refine a_seq ?_
  refine a_region ?_
  refine r_val (v := .sl _ _) (v_load_pp ta25 (.inl rfl) (fun _ => rfl) rfl) rfl rfl (by decide) ?_
  refine r_val (v := .int _ _) (v_move (.inl rfl) (noOwn_flat rfl)) rfl rfl (by decide) ?_
  refine r_val (v := .int _ _) (v_neg (.inl rfl) (fun _ => by omega)) rfl rfl (by decide) ?_
  refine r_new (v := .bool _) (q_call (vs := [.sl _ _, .int _ _]) (args := [.sl _ _, .int .i64 _]) hb120 ⟨.inl rfl, .inl rfl, trivial⟩ rfl (fun hA => contains_c a _ ha) rfl rfl) rfl rfl (by decide) ?_
  refine r_val (v := .bool _) (v_assign (.inl rfl) (noOwn_flat rfl)) rfl rfl (by decide) ?_
  refine r_nil ?_
  refine a_ret ?_
  refine ret1 Try.results138 (by decide) (by decide) (Weak.of_eq (bool_eq ?_)) rfl Leaves.nil
  rfl

theorem iOpen_c (c a : List Int) (hs : SmI c) (hc : c.length ≤ 1048576) (ha : a.length ≤ 1048576) : ACall Try.prog 129 [.sl (icells c) c.length, .sl (icells a) a.length] [] (.osl 1 (icells (opn c a)) (opn c a).length none) [] := by
  have hbO := hb138
  refine ACall.intro Try.func129 rfl (N := 9) rfl (by decide) (by simp) ?_
  refine a_seq ?_
  refine a_region ?_
  refine r_new (v := .op [.sl _ _]) (q_box (.inl rfl) rfl rfl) rfl rfl (by decide) ?_
  refine r_val (v := .nils) (v_assign (.inl rfl) (noOwn_flat rfl)) rfl rfl (by decide) ?_
  refine r_nil ?_
  refine a_seq ?_
  refine a_region ?_
  refine r_val (v := .sl _ _) (v_move (.inl rfl) (noOwn_flat rfl)) rfl rfl (by decide) ?_
  refine r_new (v := .osl _ _ _ _) (q_call (vs := [.sl _ _]) (args := [.sl _ _]) hb80 ⟨.inl rfl, trivial⟩ rfl (fun hA => cloneI_c _ _ ⟨rfl, by omega⟩) (ic_noSh _) (ic_noRef _)) rfl rfl (by decide) ?_
  refine r_val (v := .fn _ _ _) (v_makeFunc (first := []) (caps := [.tmp 3]) rfl rfl) rfl rfl (by decide) ?_
  refine r_step rfl (o_callIO (q := (6, [])) (vs := [.rsl _ _ _ _ _, .fn _ _ _]) (args := [.rsl (INH, []) _ _ _ _, .fn _ _ _]) (x0 := .osl _ _ _ _) (x1 := .undef) (res := .osl _ _ _ _) rfl hb137 rfl (by decide) ⟨.inl rfl, .inl rfl, trivial⟩ rfl rfl (del_c 138 [.pp [.sl (icells a) a.length] 0] hbO rfl c _ (fun l => decide (-l ∈ a)) ⟨rfl, by omega⟩ (fun i hi => open1_c _ a (hs i) ha)) rfl (ic_noSh _) (ic_noRef _) rfl rfl (Nat.le_of_ble_eq_true rfl) (by decide) rfl) ?_
  refine r_val (v := .rsl _ _ _ _ _) (v_assign (.inl rfl) (noOwn_flat rfl)) rfl rfl (by decide) ?_
  refine r_pre (ent_reloc_sl (t := 4) rfl rfl) ?_
  refine r_nil ?_
  refine a_ret ?_
  refine ret1 Try.results129 (by decide) (by decide) (Weak.osl ?_ ?_) rfl Leaves.nil
  · rfl
  · rfl

theorem sOpen_c (c a : List Int) (hs : SmI c) (hc : c.length ≤ 1048576) (ha : a.length ≤ 1048576) : ACall Try.prog 128 [.sl (icells c) c.length, .sl (icells a) a.length] [] (.osl 1 (icells (opn c a)) (opn c a).length none) [] := by
  refine ACall.intro Try.func128 rfl (N := 30) rfl (by decide) (by simp) ?_
  refine a_seq ?_
  refine a_region ?_
  refine r_val (v := .nils) (v_assign (.inl rfl) (noOwn_flat rfl)) rfl rfl (by decide) ?_
  refine r_nil ?_
  refine a_seq ?_
  refine a_region ?_
  refine r_new (v := .osl _ _ _ _) (q_sliceLit (n := 0) (parts := []) lt25 rfl rfl rfl rfl) rfl rfl (by decide) ?_
  refine r_val (v := .rsl _ _ _ _ _) (v_assign (.inl rfl) (noOwn_flat rfl)) rfl rfl (by decide) ?_
  refine r_pre (ent_reloc_sl (t := 5) rfl rfl) ?_
  refine r_nil ?_
  refine a_seq ?_
  refine a_seq ?_
  refine a_region ?_
  refine r_val (v := .int _ _) (v_assign (.inl rfl) (noOwn_flat rfl)) rfl rfl (by decide) ?_
  refine r_nil ?_
  refine a_block ?_
  refine a_loop (X := Nat) (fun i => look [(0, .sl (icells c) c.length), (1, .sl (icells a) a.length), (5, .osl 1 (icells (opn (c.take i) a)) (opn (c.take i) a).length none), (6, .int .i64 ((i : Nat) : Int))]) (fun i => i ≤ c.length) (fun i => c.length - i) 0 (ent_look ⟨Weak.of_eq rfl, Weak.of_eq rfl, Weak.osl rfl rfl, Weak.of_eq rfl, trivial⟩) (Nat.zero_le _) (fun i hG => ?_)
  have hsi := hs i
  have hwl := opn_len (c.take i) a
  have htk : (c.take i).length ≤ c.length := (by rw [List.length_take]; omega)
  refine a_seq ?_
  refine a_seq ?_
  refine a_region ?_
  refine r_val (v := .int _ _) (v_move (.inl rfl) (noOwn_flat rfl)) rfl rfl (by decide) ?_
  refine r_val (v := .sl _ _) (v_move (.inl rfl) (noOwn_flat rfl)) rfl rfl (by decide) ?_
  refine r_val (v := .int _ _) (v_len_sl sl25 (.inl rfl)) rfl rfl (by decide) ?_
  refine r_val (v := .bool _) (v_lss (.inl rfl) (.inl rfl)) rfl rfl (by decide) ?_
  refine r_nil ?_
  refine a_cond rfl (fun ht11 => ?_) (fun ht11 => ?_)
  ·
    skip
    refine a_skip ?_
    refine a_seq ?_
    refine a_block ?_
    refine a_seq ?_
    have hi : i < c.length := (by simp at ht11; omega)
    refine a_region ?_
    refine r_val (v := .sl _ _) (v_move (.inl rfl) (noOwn_flat rfl)) rfl rfl (by decide) ?_
    refine r_val (v := .sl _ _) (v_move (.inl rfl) (noOwn_flat rfl)) rfl rfl (by decide) ?_
    refine r_val (v := .int _ _) (v_move (.inl rfl) (noOwn_flat rfl)) rfl rfl (by decide) ?_
    refine r_val (v := .pp _ _) (v_indexAddr_sl es25 (.inl rfl) (.inl rfl) (fun _ => ⟨by omega, by omega, icells_ne hi⟩)) rfl rfl (by decide) ?_
    refine r_val (v := .int .i64 (gd c i)) (v_load_pp ta3 (.inl rfl) (fun _ => by rw [Nat.mul_one]; exact icells_get (gd_get hi)) rfl) rfl rfl (by decide) ?_
    refine r_val (v := .int _ _) (v_neg (.inl rfl) (fun _ => by omega)) rfl rfl (by decide) ?_
    refine r_new (v := .bool _) (q_call (vs := [.sl _ _, .int _ _]) (args := [.sl _ _, .int .i64 _]) hb116 ⟨.inl rfl, .inl rfl, trivial⟩ rfl (fun hA => has2_c _ _ _ ⟨rfl, by omega⟩) rfl rfl) rfl rfl (by decide) ?_
    refine r_val (v := .bool _) (v_not (.inl rfl)) rfl rfl (by decide) ?_
    refine r_nil ?_
    refine a_cond rfl (fun ht21 => ?_) (fun ht21 => ?_)
    ·
      skip
      refine a_region ?_
      refine r_val (v := .rsl _ _ _ _ _) (v_move (.inl rfl) (noOwn_flat rfl)) rfl rfl (by decide) ?_
      refine r_val (v := .sl _ _) (v_move (.inl rfl) (noOwn_flat rfl)) rfl rfl (by decide) ?_
      refine r_val (v := .int _ _) (v_move (.inl rfl) (noOwn_flat rfl)) rfl rfl (by decide) ?_
      refine r_val (v := .pp _ _) (v_indexAddr_sl es25 (.inl rfl) (.inl rfl) (fun _ => ⟨by omega, by omega, icells_ne hi⟩)) rfl rfl (by decide) ?_
      refine r_val (v := .int .i64 (gd c i)) (v_load_pp ta3 (.inl rfl) (fun _ => by rw [Nat.mul_one]; exact icells_get (gd_get hi)) rfl) rfl rfl (by decide) ?_
      refine r_new (v := .osl 1 (icells [gd c i]) 1 (some 1)) (q_sliceLit (n := 1) (parts := [(0, .tmp 26)]) lt25 rfl rfl rfl rfl) rfl rfl (by decide) ?_
      refine r_pre (ent_reloc_sl (t := 22) rfl rfl) ?_
      refine r_step rfl (o_append rfl ap25 rfl (by decide) (by decide) rfl (src_lit (.inl rfl) rfl rfl (ic_pureL _)) (ic_cell _) (by rw [icells_length]; omega) (by omega)) ?_
      refine r_val (v := .rsl _ _ _ _ _) (v_assign (.inl rfl) (noOwn_flat rfl)) rfl rfl (by decide) ?_
      refine r_pre (ent_reloc_sl (t := 5) rfl rfl) ?_
      refine r_nil ?_
      refine a_region ?_
      refine r_val (v := .int _ _) (v_move (.inl rfl) (noOwn_flat rfl)) rfl rfl (by decide) ?_
      refine r_val (v := .int _ _) (v_add (.inl rfl) (.inl rfl) (fun _ => by omega)) rfl rfl (by decide) ?_
      refine r_val (v := .int _ _) (v_assign (.inl rfl) (noOwn_flat rfl)) rfl rfl (by decide) ?_
      refine r_nil ?_
      refine ⟨i + 1, ent_look ⟨Weak.of_eq rfl, Weak.of_eq rfl, Weak.osl (by rw [opn_succ hi, if_neg (by simpa using ht21), icells_append]) (by rw [opn_succ hi, if_neg (by simpa using ht21)]; simp), Weak.of_eq (int_eq (by omega)), trivial⟩, by omega, by omega⟩
    ·
      skip
      refine a_skip ?_
      refine a_region ?_
      refine r_val (v := .int _ _) (v_move (.inl rfl) (noOwn_flat rfl)) rfl rfl (by decide) ?_
      refine r_val (v := .int _ _) (v_add (.inl rfl) (.inl rfl) (fun _ => by omega)) rfl rfl (by decide) ?_
      refine r_val (v := .int _ _) (v_assign (.inl rfl) (noOwn_flat rfl)) rfl rfl (by decide) ?_
      refine r_nil ?_
      refine ⟨i + 1, ent_look ⟨Weak.of_eq rfl, Weak.of_eq rfl, Weak.osl (by rw [opn_succ hi, if_pos (by simpa using ht21)]) (by rw [opn_succ hi, if_pos (by simpa using ht21)]), Weak.of_eq (int_eq (by omega)), trivial⟩, by omega, by omega⟩
  ·
    skip
    refine a_exit ?_
    refine a_seq ?_
    refine a_region ?_
    refine r_val (v := .rsl _ _ _ _ _) (v_move (.inl rfl) (noOwn_flat rfl)) rfl rfl (by decide) ?_
    refine r_val (v := .rsl _ _ _ _ _) (v_assign (.inl rfl) (noOwn_flat rfl)) rfl rfl (by decide) ?_
    refine r_pre (ent_reloc_sl (t := 4) rfl rfl) ?_
    refine r_nil ?_
    refine a_ret ?_
    refine ret1 Try.results128 (by decide) (by decide) (Weak.osl ?_ ?_) rfl Leaves.nil
    · simp at ht11; rw [List.take_of_length_le (by omega)]
    · simp at ht11; rw [List.take_of_length_le (by omega)]

theorem iUnit_c (c a : List Int) (hs : SmI c) (hc : c.length ≤ 1048576) (ha : a.length ≤ 1048576) : ACall Try.prog 108 [.sl (icells c) c.length, .sl (icells a) a.length] [] (.int .i64 (unitL c a)) [] := by
  refine ACall.intro Try.func108 rfl (N := 19) rfl (by decide) (by simp) ?_
  refine a_seq ?_
  refine a_region ?_
  refine r_val (v := .int _ _) (v_assign (.inl rfl) (noOwn_flat rfl)) rfl rfl (by decide) ?_
  refine r_nil ?_
  refine a_seq ?_
  refine a_seq ?_
  refine a_region ?_
  refine r_val (v := .sl _ _) (v_move (.inl rfl) (noOwn_flat rfl)) rfl rfl (by decide) ?_
  refine r_val (v := .sl _ _) (v_move (.inl rfl) (noOwn_flat rfl)) rfl rfl (by decide) ?_
  refine r_new (v := .int _ _) (q_call (vs := [.sl _ _, .sl _ _]) (args := [.sl _ _, .sl _ _]) hb126 ⟨.inl rfl, .inl rfl, trivial⟩ rfl (fun hA => iClv_c c a hs hc ha) rfl rfl) rfl rfl (by decide) ?_
  refine r_val (v := .bool _) (v_neq (.inl rfl) (.inl rfl)) rfl rfl (by decide) ?_
  refine r_nil ?_
  refine a_cond rfl (fun ht9 => ?_) (fun ht9 => ?_)
  ·
    skip
    refine a_seq ?_
    refine a_region ?_
    refine r_val (v := .int _ _) (v_assign (.inl rfl) (noOwn_flat rfl)) rfl rfl (by decide) ?_
    refine r_nil ?_
    refine a_ret ?_
    refine ret1 Try.results108 (by decide) (by decide) (Weak.of_eq (int_eq ?_)) rfl Leaves.nil
    rw [unit_no (by simp at ht9; omega)]
  ·
    skip
    refine a_skip ?_
    refine a_seq ?_
    refine a_seq ?_
    refine a_region ?_
    refine r_val (v := .sl _ _) (v_move (.inl rfl) (noOwn_flat rfl)) rfl rfl (by decide) ?_
    refine r_val (v := .sl _ _) (v_move (.inl rfl) (noOwn_flat rfl)) rfl rfl (by decide) ?_
    refine r_new (v := .osl _ _ _ _) (q_call (vs := [.sl _ _, .sl _ _]) (args := [.sl _ _, .sl _ _]) hb129 ⟨.inl rfl, .inl rfl, trivial⟩ rfl (fun hA => iOpen_c c a hs hc ha) (ic_noSh _) (ic_noRef _)) rfl rfl (by decide) ?_
    refine r_val (v := .rsl _ _ _ _ _) (v_assign (.inl rfl) (noOwn_flat rfl)) rfl rfl (by decide) ?_
    refine r_pre (ent_reloc_sl (t := 5) rfl rfl) ?_
    refine r_nil ?_
    refine a_seq ?_
    refine a_region ?_
    refine r_val (v := .rsl _ _ _ _ _) (v_move (.inl rfl) (noOwn_flat rfl)) rfl rfl (by decide) ?_
    refine r_val (v := .int _ _) (v_len_rsl sl25 (.inl rfl)) rfl rfl (by decide) ?_
    refine r_val (v := .bool _) (v_eql (.inl rfl) (.inl rfl)) rfl rfl (by decide) ?_
    refine r_nil ?_
    refine a_cond rfl (fun ht15 => ?_) (fun ht15 => ?_)
    ·
      skip
      refine a_seq ?_
      refine a_region ?_
      refine r_val (v := .rsl _ _ _ _ _) (v_move (.inl rfl) (noOwn_flat rfl)) rfl rfl (by decide) ?_
      refine r_val (v := .rp _ _) (v_indexAddr_rsl0 es25 (.inl rfl) (.inl rfl) (fun _ => ⟨by omega, by simp at ht15; omega⟩)) rfl rfl (by decide) ?_
      refine r_val (v := .int .i64 (gd (opn c a) 0)) (v_load_rp1 ta3 (.inl rfl) rfl (fun _ => icells_get (gd_get (show 0 < (opn c a).length by simp at ht15; omega))) rfl) rfl rfl (by decide) ?_
      refine r_val (v := .int _ _) (v_assign (.inl rfl) (noOwn_flat rfl)) rfl rfl (by decide) ?_
      refine r_nil ?_
      refine a_ret ?_
      refine ret1 Try.results108 (by decide) (by decide) (Weak.of_eq (int_eq ?_)) rfl Leaves.nil
      rw [unit_yes (by simpa using ht9) (by simp at ht15; omega)]
    ·
      skip
      refine a_skip ?_
      refine a_seq ?_
      refine a_region ?_
      refine r_val (v := .int _ _) (v_assign (.inl rfl) (noOwn_flat rfl)) rfl rfl (by decide) ?_
      refine r_nil ?_
      refine a_ret ?_
      refine ret1 Try.results108 (by decide) (by decide) (Weak.of_eq (int_eq ?_)) rfl Leaves.nil
      rw [unit_no (by simp at ht15; omega)]

theorem sUnit_c (c a : List Int) (hs : SmI c) (hc : c.length ≤ 1048576) (ha : a.length ≤ 1048576) : ACall Try.prog 103 [.sl (icells c) c.length, .sl (icells a) a.length] [] (.int .i64 (unitL c a)) [] := by
  refine ACall.intro Try.func103 rfl (N := 21) rfl (by decide) (by simp) ?_
  refine a_seq ?_
  refine a_region ?_
  refine r_val (v := .int _ _) (v_assign (.inl rfl) (noOwn_flat rfl)) rfl rfl (by decide) ?_
  refine r_nil ?_
  refine a_seq ?_
  refine a_region ?_
  refine r_val (v := .sl _ _) (v_move (.inl rfl) (noOwn_flat rfl)) rfl rfl (by decide) ?_
  refine r_val (v := .sl _ _) (v_move (.inl rfl) (noOwn_flat rfl)) rfl rfl (by decide) ?_
  refine r_new (v := .osl _ _ _ _) (q_call (vs := [.sl _ _, .sl _ _]) (args := [.sl _ _, .sl _ _]) hb128 ⟨.inl rfl, .inl rfl, trivial⟩ rfl (fun hA => sOpen_c c a hs hc ha) (ic_noSh _) (ic_noRef _)) rfl rfl (by decide) ?_
  refine r_val (v := .rsl _ _ _ _ _) (v_assign (.inl rfl) (noOwn_flat rfl)) rfl rfl (by decide) ?_
  refine r_pre (ent_reloc_sl (t := 5) rfl rfl) ?_
  refine r_nil ?_
  refine a_seq ?_
  refine a_seq ?_
  refine a_region ?_
  refine r_val (v := .sl _ _) (v_move (.inl rfl) (noOwn_flat rfl)) rfl rfl (by decide) ?_
  refine r_val (v := .sl _ _) (v_move (.inl rfl) (noOwn_flat rfl)) rfl rfl (by decide) ?_
  refine r_new (v := .int _ _) (q_call (vs := [.sl _ _, .sl _ _]) (args := [.sl _ _, .sl _ _]) hb122 ⟨.inl rfl, .inl rfl, trivial⟩ rfl (fun hA => sClv_c c a hs hc ha) rfl rfl) rfl rfl (by decide) ?_
  refine r_val (v := .bool _) (v_neq (.inl rfl) (.inl rfl)) rfl rfl (by decide) ?_
  refine r_val (v := .bool _) (v_move (.inl rfl) (noOwn_flat rfl)) rfl rfl (by decide) ?_
  refine r_gval (v := .rsl _ _ _ _ _) (v_move (.inl rfl) (noOwn_flat rfl)) rfl rfl rfl (by decide) (.inl ⟨_, rfl, rfl⟩) rfl (by decide) ?_
  refine r_gval (v := .int _ _) (v_len_rsl sl25 (.inr ⟨_, rfl, fun h => h⟩)) rfl rfl rfl (by decide) (.inl ⟨_, rfl, rfl⟩) rfl (by decide) ?_
  refine r_gval (v := .bool _) (v_neq (.inr ⟨_, rfl, fun h => h⟩) (.inl rfl)) rfl rfl rfl (by decide) (.inl ⟨_, rfl, rfl⟩) rfl (by decide) ?_
  refine r_val (v := .bool _) (v_pick (.inl rfl) (.inl rfl) (.inr ⟨_, rfl, fun h h2 => by simp_all⟩)) rfl rfl (by decide) ?_
  refine r_nil ?_
  refine a_cond rfl (fun ht17 => ?_) (fun ht17 => ?_)
  ·
    skip
    refine a_seq ?_
    refine a_region ?_
    refine r_val (v := .int _ _) (v_assign (.inl rfl) (noOwn_flat rfl)) rfl rfl (by decide) ?_
    refine r_nil ?_
    refine a_ret ?_
    refine ret1 Try.results103 (by decide) (by decide) (Weak.of_eq (int_eq ?_)) rfl Leaves.nil
    rw [unit_no (by intro hu; simp [hu.1, hu.2] at ht17)]
  ·
    skip
    refine a_skip ?_
    refine a_seq ?_
    have hu : cval c a = 0 ∧ (opn c a).length = 1 := (by by_cases h1 : cval c a = 0 <;> simp_all <;> omega)
    refine a_region ?_
    refine r_val (v := .rsl _ _ _ _ _) (v_move (.inl rfl) (noOwn_flat rfl)) rfl rfl (by decide) ?_
    refine r_val (v := .rp _ _) (v_indexAddr_rsl0 es25 (.inl rfl) (.inl rfl) (fun _ => ⟨by omega, by omega⟩)) rfl rfl (by decide) ?_
    refine r_val (v := .int .i64 (gd (opn c a) 0)) (v_load_rp1 ta3 (.inl rfl) rfl (fun _ => icells_get (gd_get (show 0 < (opn c a).length by omega))) rfl) rfl rfl (by decide) ?_
    refine r_val (v := .int _ _) (v_assign (.inl rfl) (noOwn_flat rfl)) rfl rfl (by decide) ?_
    refine r_nil ?_
    refine a_ret ?_
    refine ret1 Try.results103 (by decide) (by decide) (Weak.of_eq (int_eq ?_)) rfl Leaves.nil
    rw [unit_yes hu.1 hu.2]
end Go.Av
namespace Go.Av
open Go Go.Proofs Go.Sort
set_option maxRecDepth 10000
theorem ap39 : appTy Try.prog 39 = some (2, 16) := by kernel_rfl
theorem arp75 : arrPl Try.prog 75 = some ([.int .i64 0, .int .i64 0], 1) := by kernel_rfl
theorem hb105 : hasBody Try.prog 105 = true := by kernel_rfl
theorem hb106 : hasBody Try.prog 106 = true := by kernel_rfl
theorem hb107 : hasBody Try.prog 107 = true := by kernel_rfl
theorem hb108 : hasBody Try.prog 108 = true := by kernel_rfl
theorem hb109 : hasBody Try.prog 109 = true := by kernel_rfl
theorem hb127 : hasBody Try.prog 127 = true := by kernel_rfl
theorem lt39 : litTy Try.prog 39 = some (2, [.int .i64 0, .int .i64 0]) := by kernel_rfl

theorem idxL_c (f : Nat) (caps : List AV) (hb : hasBody Try.prog f = true) (hcap : capOk caps = true) (xs : List (List Int)) (p : Nat → Bool) (hl : (xs.length : Int) ≤ 9223372036854775807) (hc : ∀ i, i < xs.length → ACall Try.prog f (.sl (icells (gl xs i)) (gl xs i).length :: caps) [] (.bool (p i)) []) : ACall Try.prog 106 [.sl (sls xs) xs.length, .fn f [] caps] [] (.int .i64 (fidx p xs.length)) [] := by
  refine ACall.intro Try.func106 rfl (N := 19) rfl (by decide) (by simp) ?_
  refine a_seq ?_
  refine a_region ?_
  refine r_val (v := .int _ _) (v_assign (.inl rfl) (noOwn_flat rfl)) rfl rfl (by decide) ?_
  refine r_nil ?_
  refine a_seq ?_
  refine a_seq ?_
  refine a_region ?_
  refine r_val (v := .sl _ _) (v_move (.inl rfl) (noOwn_flat rfl)) rfl rfl (by decide) ?_
  refine r_val (v := .int _ _) (v_len_sl sl22 (.inl rfl)) rfl rfl (by decide) ?_
  refine r_val (v := .int _ _) (v_move (.inl rfl) (noOwn_flat rfl)) rfl rfl (by decide) ?_
  refine r_nil ?_
  refine a_block ?_
  refine a_loop (X := Nat) (fun i => look [(0, .sl (sls xs) xs.length), (1, .fn f [] caps), (7, .int .i64 (xs.length : Int)), (8, .int .i64 (i : Int))]) (fun i => i ≤ xs.length ∧ ∀ j, j < i → p j = false) (fun i => xs.length - i) 0 (ent_look ⟨Weak.of_eq rfl, Weak.of_eq rfl, Weak.of_eq rfl, Weak.of_eq rfl, trivial⟩) ⟨Nat.zero_le _, fun j h => by omega⟩ (fun i hG => ?_)
  obtain ⟨h1, h2⟩ := hG
  refine a_seq ?_
  refine a_region ?_
  refine r_val (v := .bool _) (v_lss (.inl rfl) (.inl rfl)) rfl rfl (by decide) ?_
  refine r_nil ?_
  refine a_seq ?_
  refine a_cond rfl (fun ht9 => ?_) (fun ht9 => ?_)
  ·
    skip
    refine a_skip ?_
    refine a_seq ?_
    refine a_block ?_
    refine a_seq ?_
    refine a_region ?_
    have hi : i < xs.length := (by simp at ht9; omega)
    refine r_val (v := .int _ _) (v_move (.inl rfl) (noOwn_flat rfl)) rfl rfl (by decide) ?_
    refine r_val (v := .int _ _) (v_assign (.inl rfl) (noOwn_flat rfl)) rfl rfl (by decide) ?_
    refine r_nil ?_
    refine a_seq ?_
    refine a_region ?_
    refine r_val (v := .fn _ _ _) (v_mv rfl) rfl rfl (by decide) ?_
    refine r_val (v := .sl _ _) (v_move (.inl rfl) (noOwn_flat rfl)) rfl rfl (by decide) ?_
    refine r_val (v := .int _ _) (v_move (.inl rfl) (noOwn_flat rfl)) rfl rfl (by decide) ?_
    refine r_val (v := .pp _ _) (v_indexAddr_sl es22 (.inl rfl) (.inl rfl) (fun _ => ⟨by omega, by omega, sls_ne hi⟩)) rfl rfl (by decide) ?_
    refine r_val (v := .sl (icells (gl xs i)) (gl xs i).length) (v_load_pp ta25 (.inl rfl) (fun _ => by rw [Nat.mul_one]; exact sls_get hi) rfl) rfl rfl (by decide) ?_
    refine r_new (v := .bool _) (q_clo (vs := [.sl _ _]) (args := (.sl _ _ :: caps)) hb (.inl rfl) ⟨.inl rfl, trivial⟩ (snap_clo1 hcap rfl) (fun hA => hc i hi) rfl rfl) rfl rfl (by decide) ?_
    refine r_nil ?_
    refine a_cond rfl (fun ht16 => ?_) (fun ht16 => ?_)
    ·
      skip
      refine a_seq ?_
      refine a_region ?_
      refine r_val (v := .int _ _) (v_move (.inl rfl) (noOwn_flat rfl)) rfl rfl (by decide) ?_
      refine r_val (v := .int _ _) (v_assign (.inl rfl) (noOwn_flat rfl)) rfl rfl (by decide) ?_
      refine r_nil ?_
      refine a_ret ?_
      refine ret1 Try.results106 (by decide) (by decide) (Weak.of_eq (int_eq ?_)) rfl Leaves.nil
      exact (fidx_found hi ht16 h2).symm
    ·
      skip
      refine a_skip ?_
      refine a_region ?_
      refine r_val (v := .int _ _) (v_add (.inl rfl) (.inl rfl) (fun _ => by omega)) rfl rfl (by decide) ?_
      refine r_val (v := .int _ _) (v_move (.inl rfl) (noOwn_flat rfl)) rfl rfl (by decide) ?_
      refine r_nil ?_
      refine ⟨i + 1, ent_look ⟨Weak.of_eq rfl, (Weak.of_eq (purge_fn hcap)), Weak.of_eq rfl, Weak.of_eq (int_eq (by omega)), trivial⟩, ⟨by omega, ok_stepF h2 ht16⟩, by omega⟩
  ·
    skip
    refine a_exit ?_
    refine a_seq ?_
    refine a_region ?_
    refine r_val (v := .int _ _) (v_assign (.inl rfl) (noOwn_flat rfl)) rfl rfl (by decide) ?_
    refine r_nil ?_
    refine a_ret ?_
    refine ret1 Try.results106 (by decide) (by decide) (Weak.of_eq (int_eq ?_)) rfl Leaves.nil
    simp at ht9; exact (fidx_none (fun j hj => h2 j (by omega))).symm

theorem iFal_c (vars : Int) (L : List (List Int)) (a : List Int) (hcl : ∀ i, i < L.length → clB vars (gl L i) = true) (hL : L.length ≤ 1048576) (ha : a.length ≤ 1048576) : ACall Try.prog 105 [.sl (sls L) L.length, .sl (icells a) a.length] [] (.osl 1 (icells (falP L a L.length)) (falP L a L.length).length none) [] := by
  refine ACall.intro Try.func105 rfl (N := 25) rfl (by decide) (by simp) ?_
  refine a_seq ?_
  refine a_region ?_
  refine r_val (v := .nils) (v_assign (.inl rfl) (noOwn_flat rfl)) rfl rfl (by decide) ?_
  refine r_nil ?_
  refine a_seq ?_
  refine a_region ?_
  refine r_val (v := .nils) (v_assign (.inl rfl) (noOwn_flat rfl)) rfl rfl (by decide) ?_
  refine r_nil ?_
  refine a_seq ?_
  refine a_seq ?_
  refine a_region ?_
  refine r_val (v := .sl _ _) (v_move (.inl rfl) (noOwn_flat rfl)) rfl rfl (by decide) ?_
  refine r_val (v := .int _ _) (v_len_sl sl22 (.inl rfl)) rfl rfl (by decide) ?_
  refine r_val (v := .int _ _) (v_move (.inl rfl) (noOwn_flat rfl)) rfl rfl (by decide) ?_
  refine r_nil ?_
  refine a_block ?_
  refine a_pre (ent_nil (t := 5) (sz := 1) (cap := none) (.inl rfl) (fun _ h => by cases h)) ?_
  refine a_loop (X := Nat) (fun i => look [(1, .sl (icells a) a.length), (5, .osl 1 (icells (falP L a i)) (falP L a i).length none), (8, .sl (sls L) L.length), (9, .int .i64 (L.length : Int)), (10, .int .i64 ((i : Nat) : Int))]) (fun i => i ≤ L.length) (fun i => L.length - i) 0 (ent_look ⟨Weak.of_eq rfl, Weak.osl rfl rfl, Weak.of_eq rfl, Weak.of_eq rfl, Weak.of_eq rfl, trivial⟩) (Nat.zero_le _) (fun i hG => ?_)
  have hfl := falP_len L a i
  refine a_seq ?_
  refine a_region ?_
  refine r_val (v := .bool _) (v_lss (.inl rfl) (.inl rfl)) rfl rfl (by decide) ?_
  refine r_nil ?_
  refine a_seq ?_
  refine a_cond rfl (fun ht11 => ?_) (fun ht11 => ?_)
  ·
    skip
    refine a_skip ?_
    refine a_seq ?_
    refine a_block ?_
    refine a_seq ?_
    have hi : i < L.length := (by simp at ht11; omega)
    have hci := hcl i hi
    have hln := clB_len hci
    refine a_region ?_
    refine r_val (v := .int _ _) (v_move (.inl rfl) (noOwn_flat rfl)) rfl rfl (by decide) ?_
    refine r_val (v := .pp _ _) (v_indexAddr_sl es22 (.inl rfl) (.inl rfl) (fun _ => ⟨by omega, by omega, sls_ne hi⟩)) rfl rfl (by decide) ?_
    refine r_val (v := .sl (icells (gl L i)) (gl L i).length) (v_load_pp ta25 (.inl rfl) (fun _ => by rw [Nat.mul_one]; exact sls_get hi) rfl) rfl rfl (by decide) ?_
    refine r_val (v := .int _ _) (v_assign (.inl rfl) (noOwn_flat rfl)) rfl rfl (by decide) ?_
    refine r_val (v := .sl _ _) (v_assign (.inl rfl) (noOwn_flat rfl)) rfl rfl (by decide) ?_
    refine r_nil ?_
    refine a_seq ?_
    refine a_region ?_
    refine r_val (v := .sl _ _) (v_move (.inl rfl) (noOwn_flat rfl)) rfl rfl (by decide) ?_
    refine r_val (v := .sl _ _) (v_move (.inl rfl) (noOwn_flat rfl)) rfl rfl (by decide) ?_
    refine r_new (v := .int _ _) (q_call (vs := [.sl _ _, .sl _ _]) (args := [.sl _ _, .sl _ _]) hb126 ⟨.inl rfl, .inl rfl, trivial⟩ rfl (fun hA => iClv_c (gl L i) a (clB_sm hci) (by omega) ha) rfl rfl) rfl rfl (by decide) ?_
    refine r_val (v := .bool _) (v_lss (.inl rfl) (.inl rfl)) rfl rfl (by decide) ?_
    refine r_nil ?_
    refine a_cond rfl (fun ht18 => ?_) (fun ht18 => ?_)
    ·
      skip
      refine a_region ?_
      refine r_val (v := .rsl _ _ _ _ _) (v_move (.inl rfl) (noOwn_flat rfl)) rfl rfl (by decide) ?_
      refine r_val (v := .int _ _) (v_move (.inl rfl) (noOwn_flat rfl)) rfl rfl (by decide) ?_
      refine r_new (v := .osl 1 (icells [(i : Int)]) 1 (some 1)) (q_sliceLit (n := 1) (parts := [(0, .tmp 20)]) lt25 rfl rfl rfl rfl) rfl rfl (by decide) ?_
      refine r_pre (ent_reloc_sl (t := 19) rfl rfl) ?_
      refine r_step rfl (o_append rfl ap25 rfl (by decide) (by decide) rfl (src_lit (.inl rfl) rfl rfl (ic_pureL _)) (ic_cell _) (by rw [icells_length]; omega) (by omega)) ?_
      refine r_val (v := .rsl _ _ _ _ _) (v_assign (.inl rfl) (noOwn_flat rfl)) rfl rfl (by decide) ?_
      refine r_pre (ent_reloc_sl (t := 5) rfl rfl) ?_
      refine r_nil ?_
      refine a_region ?_
      refine r_val (v := .int _ _) (v_add (.inl rfl) (.inl rfl) (fun _ => by omega)) rfl rfl (by decide) ?_
      refine r_val (v := .int _ _) (v_move (.inl rfl) (noOwn_flat rfl)) rfl rfl (by decide) ?_
      refine r_nil ?_
      refine ⟨i + 1, ent_look ⟨Weak.of_eq rfl, Weak.osl (by rw [falP_succ, if_pos (by simpa using ht18), icells_append] <;> rfl) (by rw [falP_succ, if_pos (by simpa using ht18)]; simp), Weak.of_eq rfl, Weak.of_eq rfl, Weak.of_eq (int_eq (by omega)), trivial⟩, by omega, by omega⟩
    ·
      skip
      refine a_skip ?_
      refine a_region ?_
      refine r_val (v := .int _ _) (v_add (.inl rfl) (.inl rfl) (fun _ => by omega)) rfl rfl (by decide) ?_
      refine r_val (v := .int _ _) (v_move (.inl rfl) (noOwn_flat rfl)) rfl rfl (by decide) ?_
      refine r_nil ?_
      refine ⟨i + 1, ent_look ⟨Weak.of_eq rfl, Weak.osl (by rw [falP_succ, if_neg (by simpa using ht18)]) (by rw [falP_succ, if_neg (by simpa using ht18)]), Weak.of_eq rfl, Weak.of_eq rfl, Weak.of_eq (int_eq (by omega)), trivial⟩, by omega, by omega⟩
  ·
    skip
    refine a_exit ?_
    refine a_seq ?_
    refine a_region ?_
    refine r_val (v := .rsl _ _ _ _ _) (v_move (.inl rfl) (noOwn_flat rfl)) rfl rfl (by decide) ?_
    refine r_val (v := .rsl _ _ _ _ _) (v_assign (.inl rfl) (noOwn_flat rfl)) rfl rfl (by decide) ?_
    refine r_pre (ent_reloc_sl (t := 4) rfl rfl) ?_
    refine r_nil ?_
    refine a_ret ?_
    refine ret1 Try.results105 (by decide) (by decide) (Weak.osl ?_ ?_) rfl Leaves.nil
    · simp at ht11; rw [show i = L.length by omega]
    · simp at ht11; rw [show i = L.length by omega]

theorem cnfV_c (vars : Int) (L : List (List Int)) (a : List Int) (hcl : ∀ i, i < L.length → clB vars (gl L i) = true) (hL : L.length ≤ 1048576) (ha : a.length ≤ 1048576) : ACall Try.prog 102 [.agg [.int .i64 vars, .sl (sls L) L.length], .sl (icells a) a.length] [] (.int .i64 (cnfV L a L.length)) [] := by
  refine ACall.intro Try.func102 rfl (N := 24) rfl (by decide) (by simp) ?_
  refine a_seq ?_
  refine a_region ?_
  refine r_new (v := .op [.int _ _, .sl _ _]) (q_box (.inl rfl) rfl rfl) rfl rfl (by decide) ?_
  refine r_val (v := .int _ _) (v_assign (.inl rfl) (noOwn_flat rfl)) rfl rfl (by decide) ?_
  refine r_nil ?_
  refine a_seq ?_
  refine a_region ?_
  refine r_val (v := .int _ _) (v_assign (.inl rfl) (noOwn_flat rfl)) rfl rfl (by decide) ?_
  refine r_nil ?_
  refine a_seq ?_
  refine a_seq ?_
  refine a_region ?_
  refine r_val (v := .int _ _) (v_assign (.inl rfl) (noOwn_flat rfl)) rfl rfl (by decide) ?_
  refine r_nil ?_
  refine a_block ?_
  refine a_loop (X := Nat) (fun i => look [(1, .sl (icells a) a.length), (2, .op [.int .i64 vars, .sl (sls L) L.length]), (5, .int .i64 (cnfV L a i)), (6, .int .i64 ((i : Nat) : Int))]) (fun i => i ≤ L.length) (fun i => L.length - i) 0 (ent_look ⟨Weak.of_eq rfl, Weak.of_eq rfl, Weak.of_eq rfl, Weak.of_eq rfl, trivial⟩) (Nat.zero_le _) (fun i hG => ?_)
  refine a_seq ?_
  refine a_seq ?_
  refine a_region ?_
  refine r_val (v := .int _ _) (v_move (.inl rfl) (noOwn_flat rfl)) rfl rfl (by decide) ?_
  refine r_val (v := .rp _ _) (v_fieldAddr_rp fo29_1 (.inl rfl)) rfl rfl (by decide) ?_
  refine r_val (v := .sl _ _) (v_load_rp1 ta22 (.inl rfl) rfl (fun _ => rfl) rfl) rfl rfl (by decide) ?_
  refine r_val (v := .int _ _) (v_len_sl sl22 (.inl rfl)) rfl rfl (by decide) ?_
  refine r_val (v := .bool _) (v_lss (.inl rfl) (.inl rfl)) rfl rfl (by decide) ?_
  refine r_nil ?_
  refine a_cond rfl (fun ht11 => ?_) (fun ht11 => ?_)
  ·
    skip
    refine a_skip ?_
    refine a_seq ?_
    refine a_block ?_
    have hi : i < L.length := (by simp at ht11; omega)
    have hci := hcl i hi
    have hln := clB_len hci
    refine a_region ?_
    refine r_val (v := .int _ _) (v_move (.inl rfl) (noOwn_flat rfl)) rfl rfl (by decide) ?_
    refine r_val (v := .rp _ _) (v_fieldAddr_rp fo29_1 (.inl rfl)) rfl rfl (by decide) ?_
    refine r_val (v := .sl _ _) (v_load_rp1 ta22 (.inl rfl) rfl (fun _ => rfl) rfl) rfl rfl (by decide) ?_
    refine r_val (v := .int _ _) (v_move (.inl rfl) (noOwn_flat rfl)) rfl rfl (by decide) ?_
    refine r_val (v := .pp _ _) (v_indexAddr_sl es22 (.inl rfl) (.inl rfl) (fun _ => ⟨by omega, by omega, sls_ne hi⟩)) rfl rfl (by decide) ?_
    refine r_val (v := .sl (icells (gl L i)) (gl L i).length) (v_load_pp ta25 (.inl rfl) (fun _ => by rw [Nat.mul_one]; exact sls_get hi) rfl) rfl rfl (by decide) ?_
    refine r_val (v := .sl _ _) (v_move (.inl rfl) (noOwn_flat rfl)) rfl rfl (by decide) ?_
    refine r_new (v := .int _ _) (q_call (vs := [.sl _ _, .sl _ _]) (args := [.sl _ _, .sl _ _]) hb122 ⟨.inl rfl, .inl rfl, trivial⟩ rfl (fun hA => sClv_c (gl L i) a (clB_sm hci) (by omega) ha) rfl rfl) rfl rfl (by decide) ?_
    refine r_new (v := .int .i64 (cnfV L a (i + 1))) (q_call (vs := [.int _ _, .int _ _]) (args := [.int .i64 _, .int .i64 _]) hb127 ⟨.inl rfl, .inl rfl, trivial⟩ rfl (fun hA => l1Least_c _ _) rfl rfl) rfl rfl (by decide) ?_
    refine r_val (v := .int _ _) (v_assign (.inl rfl) (noOwn_flat rfl)) rfl rfl (by decide) ?_
    refine r_nil ?_
    refine a_region ?_
    refine r_val (v := .int _ _) (v_move (.inl rfl) (noOwn_flat rfl)) rfl rfl (by decide) ?_
    refine r_val (v := .int _ _) (v_add (.inl rfl) (.inl rfl) (fun _ => by omega)) rfl rfl (by decide) ?_
    refine r_val (v := .int _ _) (v_assign (.inl rfl) (noOwn_flat rfl)) rfl rfl (by decide) ?_
    refine r_nil ?_
    refine ⟨i + 1, ent_look ⟨Weak.of_eq rfl, Weak.of_eq rfl, Weak.of_eq rfl, Weak.of_eq (int_eq (by omega)), trivial⟩, by omega, by omega⟩
  ·
    skip
    refine a_exit ?_
    refine a_seq ?_
    refine a_region ?_
    refine r_val (v := .int _ _) (v_move (.inl rfl) (noOwn_flat rfl)) rfl rfl (by decide) ?_
    refine r_val (v := .int _ _) (v_assign (.inl rfl) (noOwn_flat rfl)) rfl rfl (by decide) ?_
    refine r_nil ?_
    refine a_ret ?_
    refine ret1 Try.results102 (by decide) (by decide) (Weak.of_eq (int_eq ?_)) rfl Leaves.nil
    simp at ht11; rw [show i = L.length by omega]

theorem prop1_c (c a : List Int) (hs : SmI c) (hc : c.length ≤ 1048576) (ha : a.length ≤ 1048576) : ACall Try.prog 107 [.sl (icells c) c.length, .pp [.sl (icells a) a.length] 0] [] (.bool (decide (unitL c a ≠ 0))) [] := by
  refine ACall.intro Try.func107 rfl (N := 8) rfl (by decide) (by simp) ?_
  refine a_seq ?_
  refine a_region ?_
  refine r_val (v := .bool _) (v_assign (.inl rfl) (noOwn_flat rfl)) rfl rfl (by decide) ?_
  refine r_nil ?_
  refine a_seq ?_
  refine a_region ?_
  refine r_val (v := .sl _ _) (v_move (.inl rfl) (noOwn_flat rfl)) rfl rfl (by decide) ?_
  refine r_val (v := .sl _ _) (v_load_pp ta25 (.inl rfl) (fun _ => rfl) rfl) rfl rfl (by decide) ?_
  refine r_new (v := .int _ _) (q_call (vs := [.sl _ _, .sl _ _]) (args := [.sl _ _, .sl _ _]) hb108 ⟨.inl rfl, .inl rfl, trivial⟩ rfl (fun hA => iUnit_c c a hs hc ha) rfl rfl) rfl rfl (by decide) ?_
  refine r_val (v := .bool _) (v_neq (.inl rfl) (.inl rfl)) rfl rfl (by decide) ?_
  refine r_val (v := .bool _) (v_assign (.inl rfl) (noOwn_flat rfl)) rfl rfl (by decide) ?_
  refine r_nil ?_
  refine a_ret ?_
  refine ret1 Try.results107 (by decide) (by decide) (Weak.of_eq (bool_eq ?_)) rfl Leaves.nil
  rfl

theorem iProp_c (vars : Int) (L : List (List Int)) (a : List Int) (hcl : ∀ i, i < L.length → clB vars (gl L i) = true) (hL : L.length ≤ 1048576) (ha : a.length ≤ 1048576) (hca : clB vars a = true) : ACall Try.prog 64 [.sl (sls L) L.length, .sl (icells a) a.length] [] (.tup [.osl 1 (icells (propR L a).1) (propR L a).1.length none, .osl 2 (tcells (propR L a).2.1) (propR L a).2.1.length none, .bool (propR L a).2.2]) [] := by
  have hbP := hb107
  have hla0 := clB_len hca
  refine ACall.intro Try.func64 rfl (N := 41) rfl (by decide) (by simp) ?_
  refine a_seq ?_
  refine a_region ?_
  refine r_new (v := .op [.sl _ _]) (q_box (.inl rfl) rfl rfl) rfl rfl (by decide) ?_
  refine r_val (v := .nils) (v_assign (.inl rfl) (noOwn_flat rfl)) rfl rfl (by decide) ?_
  refine r_val (v := .nils) (v_assign (.inl rfl) (noOwn_flat rfl)) rfl rfl (by decide) ?_
  refine r_val (v := .bool _) (v_assign (.inl rfl) (noOwn_flat rfl)) rfl rfl (by decide) ?_
  refine r_nil ?_
  refine a_seq ?_
  refine a_region ?_
  refine r_val (v := .sl _ _) (v_load_rp1 ta25 (.inl rfl) rfl (fun _ => rfl) rfl) rfl rfl (by decide) ?_
  refine r_new (v := .osl _ _ _ _) (q_call (vs := [.sl _ _]) (args := [.sl _ _]) hb80 ⟨.inl rfl, trivial⟩ rfl (fun hA => cloneI_c _ _ ⟨rfl, by omega⟩) (ic_noSh _) (ic_noRef _)) rfl rfl (by decide) ?_
  refine r_step rfl (o_store_own (v := .osl _ _ _ _) (y' := .op [.osl _ _ _ _]) rfl rfl ta25 (.inl rfl) (by decide) rfl (by decide) rfl (by simp [cellsOf, noRefL, noRef, ic_noRef]) rfl rfl rfl rfl rfl (Nat.le_of_ble_eq_true rfl) rfl rfl) ?_
  refine r_nil ?_
  refine a_seq ?_
  refine a_region ?_
  refine r_val (v := .nils) (v_assign (.inl rfl) (noOwn_flat rfl)) rfl rfl (by decide) ?_
  refine r_nil ?_
  refine a_block ?_
  refine a_pre (ent_nil (t := 7) (sz := 2) (cap := none) (.inl rfl) (fun _ h => by cases h)) ?_
  refine a_loop (X := (List Int × List (Int × Int))) (fun x => look [(0, .sl (sls L) L.length), (3, .op [.osl 1 (icells x.1) x.1.length none]), (7, .osl 2 (tcells x.2) x.2.length none)]) (fun x => clB vars x.1 = true ∧ prop L (13 - x.1.length) x.1 x.2 = propR L a ∧ x.2.length ≤ x.1.length) (fun x => 13 - x.1.length) (a, []) (ent_look ⟨Weak.of_eq rfl, Weak.of_eq rfl, Weak.osl rfl rfl, trivial⟩) ⟨hca, rfl, Nat.zero_le _⟩ (fun x hG => ?_)
  obtain ⟨g1, g2, g3⟩ := hG
  have hla := clB_len g1
  refine a_block ?_
  refine a_seq ?_
  refine a_seq ?_
  refine a_region ?_
  refine r_val (v := .sl _ _) (v_move (.inl rfl) (noOwn_flat rfl)) rfl rfl (by decide) ?_
  refine r_val (v := .rsl _ _ _ _ _) (v_load_rp (c := .osl _ _ _ _) ta25 (.inl rfl) rfl (fun _ => rfl)) rfl rfl (by decide) ?_
  refine r_new (v := .osl _ _ _ _) (q_call (vs := [.sl _ _, .rsl _ _ _ _ _]) (args := [.sl _ _, .sl _ _]) hb105 ⟨.inl rfl, .inl rfl, trivial⟩ (l2_eq rfl (sl_sh (ic_pure _))) (fun hA => iFal_c vars L x.1 hcl hL (by omega)) (ic_noSh _) (ic_noRef _)) rfl rfl (by decide) ?_
  refine r_val (v := .int _ _) (v_len_rsl sl25 (.inl rfl)) rfl rfl (by decide) ?_
  refine r_val (v := .bool _) (v_gtr (.inl rfl) (.inl rfl)) rfl rfl (by decide) ?_
  refine r_nil ?_
  refine a_cond rfl (fun ht16 => ?_) (fun ht16 => ?_)
  ·
    skip
    refine a_seq ?_
    have hcf : conf L x.1 = true := (by rw [conf_fal]; simpa using ht16)
    have hres : propR L a = (x.1, x.2, true) := (by rw [← g2, prop_conf g1 hcf])
    refine a_region ?_
    refine r_val (v := .rsl _ _ _ _ _) (v_load_rp (c := .osl _ _ _ _) ta25 (.inl rfl) rfl (fun _ => rfl)) rfl rfl (by decide) ?_
    refine r_val (v := .rsl _ _ _ _ _) (v_move (.inl rfl) (noOwn_flat rfl)) rfl rfl (by decide) ?_
    refine r_val (v := .rsl _ _ _ _ _) (v_assign (.inl rfl) (noOwn_flat rfl)) rfl rfl (by decide) ?_
    refine r_pre (ent_reloc_sl (t := 4) rfl rfl) ?_
    refine r_val (v := .rsl _ _ _ _ _) (v_assign (.inl rfl) (noOwn_flat rfl)) rfl rfl (by decide) ?_
    refine r_pre (ent_reloc_sl (t := 5) rfl rfl) ?_
    refine r_val (v := .bool _) (v_assign (.inl rfl) (noOwn_flat rfl)) rfl rfl (by decide) ?_
    refine r_nil ?_
    refine a_ret ?_
    refine retL (rs := [.tmp 4, .tmp 5, .tmp 6]) [(4, .osl _ _ _ none), (5, .osl _ _ _ none), (6, _)] ⟨Weak.osl rfl rfl, Weak.osl rfl rfl, Weak.rfl, trivial⟩ rfl Try.results64 (by decide) ⟨by decide, by decide, by decide, rfl⟩ (by decide) (by decide) (l3_eq (osl_eq2 ?_ ?_) (osl_eq2 ?_ ?_) (bool_eq ?_)) (by simp [refsL, refs])
    all_goals (rw [hres])
  ·
    skip
    refine a_skip ?_
    refine a_seq ?_
    have hcf : conf L x.1 = false := (by rw [conf_fal]; simpa using ht16)
    refine a_region ?_
    refine r_val (v := .sl _ _) (v_move (.inl rfl) (noOwn_flat rfl)) rfl rfl (by decide) ?_
    refine r_val (v := .fn _ _ _) (v_makeFunc (first := []) (caps := [.tmp 3]) rfl rfl) rfl rfl (by decide) ?_
    refine r_new (v := .int .i64 (uix L x.1)) (q_call (vs := [.sl _ _, .fn _ _ _]) (args := [.sl _ _, .fn _ _ _]) hb106 ⟨.inl rfl, .inl rfl, trivial⟩ (l2_eq rfl (fn_pp (ic_pure _))) (fun hA => idxL_c 107 [.pp [.sl (icells x.1) x.1.length] 0] hbP rfl L (fun i => decide (unitL (gl L i) x.1 ≠ 0)) (by omega) (fun i hi => prop1_c (gl L i) x.1 (clB_sm (hcl i hi)) (by have := clB_len (hcl i hi); omega) (by omega))) rfl rfl) rfl rfl (by decide) ?_
    refine r_val (v := .int _ _) (v_assign (.inl rfl) (noOwn_flat rfl)) rfl rfl (by decide) ?_
    refine r_nil ?_
    refine a_seq ?_
    refine a_seq ?_
    refine a_region ?_
    refine r_val (v := .int _ _) (v_move (.inl rfl) (noOwn_flat rfl)) rfl rfl (by decide) ?_
    refine r_val (v := .bool _) (v_lss (.inl rfl) (.inl rfl)) rfl rfl (by decide) ?_
    refine r_nil ?_
    refine a_cond rfl (fun ht23 => ?_) (fun ht23 => ?_)
    ·
      skip
      refine a_seq ?_
      have huu : uix L x.1 = -1 := (by have h1 := uix_bd L x.1; simp at ht23; omega)
      have hres : propR L a = (x.1, x.2, false) := (by rw [← g2, prop_none g1 hcf huu])
      refine a_region ?_
      refine r_val (v := .rsl _ _ _ _ _) (v_load_rp (c := .osl _ _ _ _) ta25 (.inl rfl) rfl (fun _ => rfl)) rfl rfl (by decide) ?_
      refine r_val (v := .rsl _ _ _ _ _) (v_move (.inl rfl) (noOwn_flat rfl)) rfl rfl (by decide) ?_
      refine r_val (v := .rsl _ _ _ _ _) (v_assign (.inl rfl) (noOwn_flat rfl)) rfl rfl (by decide) ?_
      refine r_pre (ent_reloc_sl (t := 4) rfl rfl) ?_
      refine r_val (v := .rsl _ _ _ _ _) (v_assign (.inl rfl) (noOwn_flat rfl)) rfl rfl (by decide) ?_
      refine r_pre (ent_reloc_sl (t := 5) rfl rfl) ?_
      refine r_val (v := .bool _) (v_assign (.inl rfl) (noOwn_flat rfl)) rfl rfl (by decide) ?_
      refine r_nil ?_
      refine a_ret ?_
      refine retL (rs := [.tmp 4, .tmp 5, .tmp 6]) [(4, .osl _ _ _ none), (5, .osl _ _ _ none), (6, _)] ⟨Weak.osl rfl rfl, Weak.osl rfl rfl, Weak.rfl, trivial⟩ rfl Try.results64 (by decide) ⟨by decide, by decide, by decide, rfl⟩ (by decide) (by decide) (l3_eq (osl_eq2 ?_ ?_) (osl_eq2 ?_ ?_) (bool_eq ?_)) (by simp [refsL, refs])
      all_goals (rw [hres])
    ·
      skip
      refine a_skip ?_
      refine a_seq ?_
      have hne : ¬ uix L x.1 = -1 := (by simp at ht23; omega)
      have hu := (uix_bd L x.1).resolve_left hne
      have hcu := hcl _ hu.2.1
      have hsu := clB_sm hcu
      have hlu := clB_len hcu
      have hub := unit_bd (a := x.1) hsu
      have hst := prop_step hcl g1 hne
      have hgo := prop_go (st := x.2) hcl g1 hcf hne
      refine a_region_any mixed (by kernel_rfl) ?_
      refine y_val (v := .sl _ _) (v_move (.inl rfl) (noOwn_flat rfl)) rfl rfl (by decide) (by kernel_rfl) ?_
      refine y_val (v := .int _ _) (v_move (.inl rfl) (noOwn_flat rfl)) rfl rfl (by decide) (by kernel_rfl) ?_
      refine y_val (v := .pp _ _) (v_indexAddr_sl es22 (.inl rfl) (.inl rfl) (fun _ => ⟨by omega, by omega, sls_ne hu.2.1⟩)) rfl rfl (by decide) (by kernel_rfl) ?_
      refine y_val (v := .sl (icells (gl L (uix L x.1).toNat)) (gl L (uix L x.1).toNat).length) (v_load_pp ta25 (.inl rfl) (fun _ => by rw [Nat.mul_one]; exact sls_get hu.2.1) rfl) rfl rfl (by decide) (by kernel_rfl) ?_
      refine y_val (v := .rsl _ _ _ _ _) (v_load_rp (c := .osl _ _ _ _) ta25 (.inl rfl) rfl (fun _ => rfl)) rfl rfl (by decide) (by kernel_rfl) ?_
      refine y_new (v := .int _ _) (q_call (vs := [.sl _ _, .rsl _ _ _ _ _]) (args := [.sl _ _, .sl _ _]) hb108 ⟨.inl rfl, .inl rfl, trivial⟩ (l2_eq rfl (sl_sh (ic_pure _))) (fun hA => iUnit_c _ x.1 hsu (by omega) (by omega)) rfl rfl) rfl rfl (by decide) (by kernel_rfl) ?_
      refine y_val (v := .int _ _) (v_assign (.inl rfl) (noOwn_flat rfl)) rfl rfl (by decide) (by kernel_rfl) ?_
      refine y_nil ?_
      refine a_seq ?_
      refine a_region ?_
      refine r_val (v := .rsl _ _ _ _ _) (v_load_rp (c := .osl _ _ _ _) ta25 (.inl rfl) rfl (fun _ => rfl)) rfl rfl (by decide) ?_
      refine r_val (v := .int _ _) (v_move (.inl rfl) (noOwn_flat rfl)) rfl rfl (by decide) ?_
      refine r_new (v := .osl _ _ _ _) (q_call (vs := [.rsl _ _ _ _ _, .int _ _]) (args := [.sl _ _, .int .i64 _]) hb109 ⟨.inl rfl, .inl rfl, trivial⟩ (l2_eq (sl_sh (ic_pure _)) rfl) (fun hA => set_c vars x.1 _ g1 hst.1) (ic_noSh _) (ic_noRef _)) rfl rfl (by decide) ?_
      refine r_step rfl (o_store_own (v := .osl _ _ _ _) (y' := .op [.osl _ _ _ _]) rfl rfl ta25 (.inl rfl) (by decide) rfl (by decide) rfl (by simp [cellsOf, noRefL, noRef, ic_noRef]) rfl rfl rfl rfl rfl (Nat.le_of_ble_eq_true rfl) rfl rfl) ?_
      refine r_nil ?_
      refine a_region ?_
      refine r_val (v := .rsl _ _ _ _ _) (v_move (.inl rfl) (noOwn_flat rfl)) rfl rfl (by decide) ?_
      refine r_val (v := .int _ _) (v_move (.inl rfl) (noOwn_flat rfl)) rfl rfl (by decide) ?_
      refine r_val (v := .int _ _) (v_move (.inl rfl) (noOwn_flat rfl)) rfl rfl (by decide) ?_
      refine r_val (v := .agg [.int _ _, .int _ _]) (v_buildA arp75 rfl rfl) rfl rfl (by decide) ?_
      refine r_new (v := .osl 2 (tcells [((unitL (gl L (uix L x.1).toNat) x.1), uix L x.1)]) 1 (some 1)) (q_sliceLit (n := 1) (parts := [(0, .tmp 38)]) lt39 rfl rfl rfl rfl) rfl rfl (by decide) ?_
      refine r_pre (ent_reloc_sl (t := 35) rfl rfl) ?_
      refine r_step rfl (o_append rfl ap39 rfl (by decide) (by decide) rfl (src_lit (.inl rfl) rfl rfl rfl) rfl (by rw [tcells_length]) (by omega)) ?_
      refine r_val (v := .rsl _ _ _ _ _) (v_assign (.inl rfl) (noOwn_flat rfl)) rfl rfl (by decide) ?_
      refine r_pre (ent_reloc_sl (t := 7) rfl rfl) ?_
      refine r_nil ?_
      refine ⟨(setLit x.1 (unitL (gl L (uix L x.1).toNat) x.1), x.2 ++ [((unitL (gl L (uix L x.1).toNat) x.1), uix L x.1)]), ent_look ⟨Weak.of_eq rfl, Weak.of_eq (by unfold setLit; rfl), Weak.osl tcells_app (by simp), trivial⟩, ⟨hst.2.1, by rw [← g2]; exact hgo, by dsimp only; rw [hst.2.2]; simp; omega⟩, by dsimp only; have := clB_len hst.2.1; rw [hst.2.2] at this ⊢; omega⟩
end Go.Av
namespace Go.Av
open Go Go.Proofs Go.Sort
set_option maxRecDepth 10000
theorem hb102 : hasBody Try.prog 102 = true := by kernel_rfl
theorem hb103 : hasBody Try.prog 103 = true := by kernel_rfl
theorem hb104 : hasBody Try.prog 104 = true := by kernel_rfl

theorem sProp_c (vars : Int) (L : List (List Int)) (a : List Int) (hcl : ∀ i, i < L.length → clB vars (gl L i) = true) (hL : L.length ≤ 1048576) (ha : a.length ≤ 1048576) (hca : clB vars a = true) : ACall Try.prog 62 [.agg [.int .i64 vars, .sl (sls L) L.length], .sl (icells a) a.length] [] (.tup [.osl 2 (tcells (propR L a).2.1) (propR L a).2.1.length none, .osl 1 (icells (propR L a).1) (propR L a).1.length none, .bool (propR L a).2.2]) [] := by
  have hla0 := clB_len hca
  refine ACall.intro Try.func62 rfl (N := 58) rfl (by decide) (by simp) ?_
  refine a_seq ?_
  refine a_region ?_
  refine r_new (v := .op [.int _ _, .sl _ _]) (q_box (.inl rfl) rfl rfl) rfl rfl (by decide) ?_
  refine r_val (v := .nils) (v_assign (.inl rfl) (noOwn_flat rfl)) rfl rfl (by decide) ?_
  refine r_val (v := .nils) (v_assign (.inl rfl) (noOwn_flat rfl)) rfl rfl (by decide) ?_
  refine r_val (v := .bool _) (v_assign (.inl rfl) (noOwn_flat rfl)) rfl rfl (by decide) ?_
  refine r_nil ?_
  refine a_seq ?_
  refine a_region ?_
  refine r_new (v := .osl _ _ _ _) (q_sliceLit (n := 0) (parts := []) lt39 rfl rfl rfl rfl) rfl rfl (by decide) ?_
  refine r_val (v := .sl _ _) (v_move (.inl rfl) (noOwn_flat rfl)) rfl rfl (by decide) ?_
  refine r_new (v := .osl _ _ _ _) (q_call (vs := [.sl _ _]) (args := [.sl _ _]) hb101 ⟨.inl rfl, trivial⟩ rfl (fun hA => l1Own_c a _ ⟨rfl, by omega⟩) (ic_noSh _) (ic_noRef _)) rfl rfl (by decide) ?_
  refine r_val (v := .rsl _ _ _ _ _) (v_assign (.inl rfl) (noOwn_flat rfl)) rfl rfl (by decide) ?_
  refine r_pre (ent_reloc_sl (t := 7) rfl rfl) ?_
  refine r_val (v := .rsl _ _ _ _ _) (v_assign (.inl rfl) (noOwn_flat rfl)) rfl rfl (by decide) ?_
  refine r_pre (ent_reloc_sl (t := 8) rfl rfl) ?_
  refine r_nil ?_
  refine a_seq ?_
  refine a_block ?_
  refine a_loop (X := (List Int × List (Int × Int))) (fun x => look [(2, .op [.int .i64 vars, .sl (sls L) L.length]), (7, .osl 2 (tcells x.2) x.2.length none), (8, .osl 1 (icells x.1) x.1.length none)]) (fun x => clB vars x.1 = true ∧ prop L (13 - x.1.length) x.1 x.2 = propR L a ∧ x.2.length ≤ x.1.length) (fun x => 13 - x.1.length) (a, []) (ent_look ⟨Weak.of_eq rfl, Weak.osl rfl rfl, Weak.osl rfl rfl, trivial⟩) ⟨hca, rfl, Nat.zero_le _⟩ (fun x hG => ?_)
  obtain ⟨g1, g2, g3⟩ := hG
  have hla := clB_len g1
  refine a_seq ?_
  refine a_seq ?_
  refine a_region ?_
  refine r_val (v := .agg [.int _ _, .sl _ _]) (v_load_rpa1 ta29 (.inl rfl) rfl rfl (fun _ => rfl) rfl) rfl rfl (by decide) ?_
  refine r_val (v := .rsl _ _ _ _ _) (v_move (.inl rfl) (noOwn_flat rfl)) rfl rfl (by decide) ?_
  refine r_new (v := .int _ _) (q_call (vs := [.agg [.int _ _, .sl _ _], .rsl _ _ _ _ _]) (args := [.agg [.int .i64 _, .sl _ _], .sl _ _]) hb102 ⟨.inl rfl, .inl rfl, trivial⟩ (l2_eq rfl (sl_sh (ic_pure _))) (fun hA => cnfV_c vars L x.1 hcl hL (by omega)) rfl rfl) rfl rfl (by decide) ?_
  refine r_val (v := .bool _) (v_geq (.inl rfl) (.inl rfl)) rfl rfl (by decide) ?_
  refine r_nil ?_
  refine a_cond rfl (fun ht18 => ?_) (fun ht18 => ?_)
  ·
    skip
    refine a_skip ?_
    refine a_block ?_
    refine a_seq ?_
    have hcf : conf L x.1 = false := (by have h9 := cnfV_conf (L := L) (a := x.1); rw [h9] at ht18; simpa using ht18)
    refine a_region ?_
    refine r_val (v := .int _ _) (v_assign (.inl rfl) (noOwn_flat rfl)) rfl rfl (by decide) ?_
    refine r_nil ?_
    refine a_seq ?_
    refine a_seq ?_
    refine a_region ?_
    refine r_val (v := .rp _ _) (v_fieldAddr_rp fo29_1 (.inl rfl)) rfl rfl (by decide) ?_
    refine r_val (v := .sl _ _) (v_load_rp1 ta22 (.inl rfl) rfl (fun _ => rfl) rfl) rfl rfl (by decide) ?_
    refine r_val (v := .int _ _) (v_len_sl sl22 (.inl rfl)) rfl rfl (by decide) ?_
    refine r_val (v := .int _ _) (v_sub (.inl rfl) (.inl rfl) (fun _ => by omega)) rfl rfl (by decide) ?_
    refine r_val (v := .int _ _) (v_assign (.inl rfl) (noOwn_flat rfl)) rfl rfl (by decide) ?_
    refine r_nil ?_
    refine a_block ?_
    refine a_loop (X := Nat) (fun k => look [(2, .op [.int .i64 vars, .sl (sls L) L.length]), (7, .osl 2 (tcells x.2) x.2.length none), (8, .osl 1 (icells x.1) x.1.length none), (9, .int .i64 (dwn (fun i => decide (unitL (gl L i) x.1 ≠ 0)) L.length k)), (10, .int .i64 ((L.length : Int) - 1 - (k : Nat)))]) (fun k => k ≤ L.length) (fun k => L.length - k) 0 (ent_look ⟨Weak.of_eq rfl, Weak.of_eq rfl, Weak.of_eq rfl, Weak.of_eq rfl, Weak.of_eq (int_eq (by omega)), trivial⟩) (Nat.zero_le _) (fun k hG => ?_)
    refine a_seq ?_
    refine a_seq ?_
    refine a_region ?_
    refine r_val (v := .int _ _) (v_move (.inl rfl) (noOwn_flat rfl)) rfl rfl (by decide) ?_
    refine r_val (v := .bool _) (v_geq (.inl rfl) (.inl rfl)) rfl rfl (by decide) ?_
    refine r_nil ?_
    refine a_cond rfl (fun ht24 => ?_) (fun ht24 => ?_)
    ·
      skip
      refine a_skip ?_
      refine a_seq ?_
      refine a_block ?_
      refine a_seq ?_
      have hk : k < L.length := (by simp at ht24; omega)
      have hck := hcl (L.length - (k + 1)) (by omega)
      have hlk := clB_len hck
      refine a_region ?_
      refine r_val (v := .rp _ _) (v_fieldAddr_rp fo29_1 (.inl rfl)) rfl rfl (by decide) ?_
      refine r_val (v := .sl _ _) (v_load_rp1 ta22 (.inl rfl) rfl (fun _ => rfl) rfl) rfl rfl (by decide) ?_
      refine r_val (v := .int _ _) (v_move (.inl rfl) (noOwn_flat rfl)) rfl rfl (by decide) ?_
      refine r_val (v := .pp _ _) (v_indexAddr_sl es22 (.inl rfl) (.inl rfl) (fun _ => ⟨by omega, by omega, sls_ne (L := L) (i := (L.length - (k + 1))) (by omega)⟩)) rfl rfl (by decide) ?_
      refine r_val (v := .sl (icells (gl L (L.length - (k + 1)))) (gl L (L.length - (k + 1))).length) (v_load_pp ta25 (.inl rfl) (fun _ => by rw [show ((L.length : Int) - 1 - (k : Nat)).toNat = (L.length - (k + 1)) by omega, Nat.mul_one]; exact sls_get (by omega)) rfl) rfl rfl (by decide) ?_
      refine r_val (v := .rsl _ _ _ _ _) (v_move (.inl rfl) (noOwn_flat rfl)) rfl rfl (by decide) ?_
      refine r_new (v := .int _ _) (q_call (vs := [.sl _ _, .rsl _ _ _ _ _]) (args := [.sl _ _, .sl _ _]) hb103 ⟨.inl rfl, .inl rfl, trivial⟩ (l2_eq rfl (sl_sh (ic_pure _))) (fun hA => sUnit_c (gl L (L.length - (k + 1))) x.1 (clB_sm hck) (by omega) (by omega)) rfl rfl) rfl rfl (by decide) ?_
      refine r_val (v := .bool _) (v_neq (.inl rfl) (.inl rfl)) rfl rfl (by decide) ?_
      refine r_nil ?_
      refine a_cond rfl (fun ht34 => ?_) (fun ht34 => ?_)
      ·
        skip
        refine a_region ?_
        refine r_val (v := .int _ _) (v_move (.inl rfl) (noOwn_flat rfl)) rfl rfl (by decide) ?_
        refine r_val (v := .int _ _) (v_assign (.inl rfl) (noOwn_flat rfl)) rfl rfl (by decide) ?_
        refine r_nil ?_
        refine a_region ?_
        refine r_val (v := .int _ _) (v_move (.inl rfl) (noOwn_flat rfl)) rfl rfl (by decide) ?_
        refine r_val (v := .int _ _) (v_sub (.inl rfl) (.inl rfl) (fun _ => by omega)) rfl rfl (by decide) ?_
        refine r_val (v := .int _ _) (v_assign (.inl rfl) (noOwn_flat rfl)) rfl rfl (by decide) ?_
        refine r_nil ?_
        refine ⟨k + 1, ent_look ⟨Weak.of_eq rfl, Weak.of_eq rfl, Weak.of_eq rfl, Weak.of_eq (int_eq (by rw [dwn, if_pos (by simpa using ht34)]; omega)), Weak.of_eq (int_eq (by omega)), trivial⟩, by omega, by omega⟩
      ·
        skip
        refine a_skip ?_
        refine a_region ?_
        refine r_val (v := .int _ _) (v_move (.inl rfl) (noOwn_flat rfl)) rfl rfl (by decide) ?_
        refine r_val (v := .int _ _) (v_sub (.inl rfl) (.inl rfl) (fun _ => by omega)) rfl rfl (by decide) ?_
        refine r_val (v := .int _ _) (v_assign (.inl rfl) (noOwn_flat rfl)) rfl rfl (by decide) ?_
        refine r_nil ?_
        refine ⟨k + 1, ent_look ⟨Weak.of_eq rfl, Weak.of_eq rfl, Weak.of_eq rfl, Weak.of_eq (int_eq (by rw [dwn, if_neg (by simpa using ht34)])), Weak.of_eq (int_eq (by omega)), trivial⟩, by omega, by omega⟩
    ·
      skip
      refine a_exit ?_
      refine a_seq ?_
      refine a_seq ?_
      have hkn : k = L.length := (by simp at ht24; omega)
      refine a_pre (ent_eq (t := 9) (v' := .int .i64 (uix L x.1)) (Weak.of_eq (int_eq (by rw [hkn, dwn_all]; rfl)))) ?_
      refine a_region ?_
      refine r_val (v := .int _ _) (v_move (.inl rfl) (noOwn_flat rfl)) rfl rfl (by decide) ?_
      refine r_val (v := .bool _) (v_lss (.inl rfl) (.inl rfl)) rfl rfl (by decide) ?_
      refine r_nil ?_
      refine a_cond rfl (fun ht37 => ?_) (fun ht37 => ?_)
      ·
        skip
        refine a_seq ?_
        have huu : uix L x.1 = -1 := (by have h1 := uix_bd L x.1; simp at ht37; omega)
        have hres : propR L a = (x.1, x.2, false) := (by rw [← g2, prop_none g1 hcf huu])
        refine a_region ?_
        refine r_val (v := .rsl _ _ _ _ _) (v_move (.inl rfl) (noOwn_flat rfl)) rfl rfl (by decide) ?_
        refine r_val (v := .rsl _ _ _ _ _) (v_move (.inl rfl) (noOwn_flat rfl)) rfl rfl (by decide) ?_
        refine r_val (v := .rsl _ _ _ _ _) (v_assign (.inl rfl) (noOwn_flat rfl)) rfl rfl (by decide) ?_
        refine r_pre (ent_reloc_sl (t := 4) rfl rfl) ?_
        refine r_val (v := .rsl _ _ _ _ _) (v_assign (.inl rfl) (noOwn_flat rfl)) rfl rfl (by decide) ?_
        refine r_pre (ent_reloc_sl (t := 5) rfl rfl) ?_
        refine r_val (v := .bool _) (v_assign (.inl rfl) (noOwn_flat rfl)) rfl rfl (by decide) ?_
        refine r_nil ?_
        refine a_ret ?_
        refine retL (rs := [.tmp 4, .tmp 5, .tmp 6]) [(4, .osl _ _ _ none), (5, .osl _ _ _ none), (6, _)] ⟨Weak.osl rfl rfl, Weak.osl rfl rfl, Weak.rfl, trivial⟩ rfl Try.results62 (by decide) ⟨by decide, by decide, by decide, rfl⟩ (by decide) (by decide) (l3_eq (osl_eq2 ?_ ?_) (osl_eq2 ?_ ?_) (bool_eq ?_)) (by simp [refsL, refs])
        all_goals (rw [hres])
      ·
        skip
        refine a_skip ?_
        refine a_seq ?_
        have hne : ¬ uix L x.1 = -1 := (by simp at ht37; omega)
        have hu := (uix_bd L x.1).resolve_left hne
        have hcu := hcl _ hu.2.1
        have hsu := clB_sm hcu
        have hlu := clB_len hcu
        have hub := unit_bd (a := x.1) hsu
        have hst := prop_step hcl g1 hne
        have hgo := prop_go (st := x.2) hcl g1 hcf hne
        refine a_region ?_
        refine r_val (v := .rp _ _) (v_fieldAddr_rp fo29_1 (.inl rfl)) rfl rfl (by decide) ?_
        refine r_val (v := .sl _ _) (v_load_rp1 ta22 (.inl rfl) rfl (fun _ => rfl) rfl) rfl rfl (by decide) ?_
        refine r_val (v := .int _ _) (v_move (.inl rfl) (noOwn_flat rfl)) rfl rfl (by decide) ?_
        refine r_val (v := .pp _ _) (v_indexAddr_sl es22 (.inl rfl) (.inl rfl) (fun _ => ⟨by omega, by omega, sls_ne hu.2.1⟩)) rfl rfl (by decide) ?_
        refine r_val (v := .sl (icells (gl L (uix L x.1).toNat)) (gl L (uix L x.1).toNat).length) (v_load_pp ta25 (.inl rfl) (fun _ => by rw [Nat.mul_one]; exact sls_get hu.2.1) rfl) rfl rfl (by decide) ?_
        refine r_val (v := .rsl _ _ _ _ _) (v_move (.inl rfl) (noOwn_flat rfl)) rfl rfl (by decide) ?_
        refine r_new (v := .int _ _) (q_call (vs := [.sl _ _, .rsl _ _ _ _ _]) (args := [.sl _ _, .sl _ _]) hb103 ⟨.inl rfl, .inl rfl, trivial⟩ (l2_eq rfl (sl_sh (ic_pure _))) (fun hA => sUnit_c _ x.1 hsu (by omega) (by omega)) rfl rfl) rfl rfl (by decide) ?_
        refine r_val (v := .int _ _) (v_assign (.inl rfl) (noOwn_flat rfl)) rfl rfl (by decide) ?_
        refine r_nil ?_
        refine a_seq ?_
        refine a_region ?_
        refine r_val (v := .rsl _ _ _ _ _) (v_move (.inl rfl) (noOwn_flat rfl)) rfl rfl (by decide) ?_
        refine r_val (v := .int _ _) (v_move (.inl rfl) (noOwn_flat rfl)) rfl rfl (by decide) ?_
        refine r_val (v := .int _ _) (v_move (.inl rfl) (noOwn_flat rfl)) rfl rfl (by decide) ?_
        refine r_val (v := .agg [.int _ _, .int _ _]) (v_buildA arp75 rfl rfl) rfl rfl (by decide) ?_
        refine r_new (v := .osl 2 (tcells [((unitL (gl L (uix L x.1).toNat) x.1), uix L x.1)]) 1 (some 1)) (q_sliceLit (n := 1) (parts := [(0, .tmp 50)]) lt39 rfl rfl rfl rfl) rfl rfl (by decide) ?_
        refine r_pre (ent_reloc_sl (t := 47) rfl rfl) ?_
        refine r_step rfl (o_append rfl ap39 rfl (by decide) (by decide) rfl (src_lit (.inl rfl) rfl rfl rfl) rfl (by rw [tcells_length]) (by omega)) ?_
        refine r_val (v := .rsl _ _ _ _ _) (v_assign (.inl rfl) (noOwn_flat rfl)) rfl rfl (by decide) ?_
        refine r_pre (ent_reloc_sl (t := 7) rfl rfl) ?_
        refine r_nil ?_
        refine a_region ?_
        refine r_val (v := .rsl _ _ _ _ _) (v_move (.inl rfl) (noOwn_flat rfl)) rfl rfl (by decide) ?_
        refine r_val (v := .int _ _) (v_move (.inl rfl) (noOwn_flat rfl)) rfl rfl (by decide) ?_
        refine r_new (v := .osl _ _ _ _) (q_call (vs := [.rsl _ _ _ _ _, .int _ _]) (args := [.sl _ _, .int .i64 _]) hb104 ⟨.inl rfl, .inl rfl, trivial⟩ (l2_eq (sl_sh (ic_pure _)) rfl) (fun hA => l3Set_c x.1 _ (by omega) (clB_sm g1) hub) (ic_noSh _) (ic_noRef _)) rfl rfl (by decide) ?_
        refine r_val (v := .rsl _ _ _ _ _) (v_assign (.inl rfl) (noOwn_flat rfl)) rfl rfl (by decide) ?_
        refine r_pre (ent_reloc_sl (t := 8) rfl rfl) ?_
        refine r_nil ?_
        refine ⟨(setLit x.1 (unitL (gl L (uix L x.1).toNat) x.1), x.2 ++ [((unitL (gl L (uix L x.1).toNat) x.1), uix L x.1)]), ent_look ⟨Weak.of_eq rfl, Weak.osl tcells_app (by simp), Weak.of_eq (by unfold setLit; rfl), trivial⟩, ⟨hst.2.1, by rw [← g2]; exact hgo, by dsimp only; rw [hst.2.2]; simp; omega⟩, by dsimp only; have := clB_len hst.2.1; rw [hst.2.2] at this ⊢; omega⟩
  ·
    skip
    refine a_exit ?_
    refine a_seq ?_
    have hcf : conf L x.1 = true := (by have h9 := cnfV_conf (L := L) (a := x.1); rw [h9] at ht18; simpa using ht18)
    have hres : propR L a = (x.1, x.2, true) := (by rw [← g2, prop_conf g1 hcf])
    refine a_region ?_
    refine r_val (v := .rsl _ _ _ _ _) (v_move (.inl rfl) (noOwn_flat rfl)) rfl rfl (by decide) ?_
    refine r_val (v := .rsl _ _ _ _ _) (v_move (.inl rfl) (noOwn_flat rfl)) rfl rfl (by decide) ?_
    refine r_val (v := .rsl _ _ _ _ _) (v_assign (.inl rfl) (noOwn_flat rfl)) rfl rfl (by decide) ?_
    refine r_pre (ent_reloc_sl (t := 4) rfl rfl) ?_
    refine r_val (v := .rsl _ _ _ _ _) (v_assign (.inl rfl) (noOwn_flat rfl)) rfl rfl (by decide) ?_
    refine r_pre (ent_reloc_sl (t := 5) rfl rfl) ?_
    refine r_val (v := .bool _) (v_assign (.inl rfl) (noOwn_flat rfl)) rfl rfl (by decide) ?_
    refine r_nil ?_
    refine a_ret ?_
    refine retL (rs := [.tmp 4, .tmp 5, .tmp 6]) [(4, .osl _ _ _ none), (5, .osl _ _ _ none), (6, _)] ⟨Weak.osl rfl rfl, Weak.osl rfl rfl, Weak.rfl, trivial⟩ rfl Try.results62 (by decide) ⟨by decide, by decide, by decide, rfl⟩ (by decide) (by decide) (l3_eq (osl_eq2 ?_ ?_) (osl_eq2 ?_ ?_) (bool_eq ?_)) (by simp [refsL, refs])
    all_goals (rw [hres])
end Go.Av
namespace Go.Av
open Go Go.Proofs Go.Sort
set_option maxRecDepth 10000
theorem hb100 : hasBody Try.prog 100 = true := by kernel_rfl
theorem hb55 : hasBody Try.prog 55 = true := by kernel_rfl
theorem hb58 : hasBody Try.prog 58 = true := by kernel_rfl
theorem hb61 : hasBody Try.prog 61 = true := by kernel_rfl
theorem hb62 : hasBody Try.prog 62 = true := by kernel_rfl
theorem hb63 : hasBody Try.prog 63 = true := by kernel_rfl
theorem hb64 : hasBody Try.prog 64 = true := by kernel_rfl
theorem l3Asked_c (vars : Int) (L : List (List Int)) (a : List Int) (hk : CnfOk vars L) (hl : a.length ≤ 1048576) (hb : ∀ j, -9223372036854775808 ≤ gd a j ∧ gd a j ≤ 9223372036854775807) : ACall Try.prog 61 [.agg [.int .i64 vars, .sl (sls L) L.length], .sl (icells a) a.length] [] (.bool (cnfB vars L && clB vars a)) [] := by
  have hk1 := hk.1
  refine ACall.intro Try.func61 rfl (N := 13) rfl (by decide) (by simp) ?_
  refine a_seq ?_
  refine a_region ?_
  refine r_new (v := .op [.int _ _, .sl _ _]) (q_box (.inl rfl) rfl rfl) rfl rfl (by decide) ?_
  refine r_val (v := .bool _) (v_assign (.inl rfl) (noOwn_flat rfl)) rfl rfl (by decide) ?_
  refine r_nil ?_
  refine a_seq ?_
  refine a_region ?_
  refine r_val (v := .agg [.int _ _, .sl _ _]) (v_load_rpa1 ta29 (.inl rfl) rfl rfl (fun _ => rfl) rfl) rfl rfl (by decide) ?_
  refine r_new (v := .bool _) (q_call (vs := [.agg [.int _ _, .sl _ _]]) (args := [.agg [.int .i64 _, .sl _ _]]) hb55 ⟨.inl rfl, trivial⟩ rfl (fun hA => l2Good_c vars L hk) rfl rfl) rfl rfl (by decide) ?_
  refine r_val (v := .bool _) (v_move (.inl rfl) (noOwn_flat rfl)) rfl rfl (by decide) ?_
  refine r_gval (v := .rp _ _) (v_fieldAddr_rp fo29_0 (.inl rfl)) rfl rfl rfl (by decide) (.inl ⟨_, rfl, rfl⟩) rfl (by decide) ?_
  refine r_gval (v := .int _ _) (v_load_rp1 ta3 (.inr ⟨_, rfl, fun h => h⟩) rfl (fun _ => rfl) rfl) rfl rfl rfl (by decide) (.inl ⟨_, rfl, rfl⟩) rfl (by decide) ?_
  refine r_gval (v := .sl _ _) (v_move (.inl rfl) (noOwn_flat rfl)) rfl rfl rfl (by decide) (.inl ⟨_, rfl, rfl⟩) rfl (by decide) ?_
  refine r_guard (v := .bool _) (q_call (vs := [.int _ _, .sl _ _]) (args := [.int .i64 _, .sl _ _]) hb100 ⟨.inr ⟨_, rfl, fun h => h⟩, .inr ⟨_, rfl, fun h => h⟩, trivial⟩ rfl (fun hA => l3Good_c _ _ (by omega) (by omega) hb) rfl rfl) rfl rfl rfl (by decide) (.inl ⟨_, rfl, rfl⟩) rfl (by decide) ?_
  refine r_val (v := .bool _) (v_pick (.inl rfl) (.inr ⟨_, rfl, fun h h2 => by simp_all⟩) (.inl rfl)) rfl rfl (by decide) ?_
  refine r_val (v := .bool _) (v_assign (.inl rfl) (noOwn_flat rfl)) rfl rfl (by decide) ?_
  refine r_nil ?_
  refine a_ret ?_
  refine ret1 Try.results61 (by decide) (by decide) (Weak.of_eq (bool_eq ?_)) rfl Leaves.nil
  cases cnfB vars L <;> simp

theorem sPst_c (vars : Int) (L : List (List Int)) (a : List Int) (hk : CnfOk vars L) (hl : a.length ≤ 1048576) (hb : ∀ j, -9223372036854775808 ≤ gd a j ∧ gd a j ≤ 9223372036854775807) : ACall Try.prog 26 [.agg [.int .i64 vars, .sl (sls L) L.length], .sl (icells a) a.length] [] (.tup [.osl 2 (tcells (ppS (cnfB vars L && clB vars a) L a)) (ppS (cnfB vars L && clB vars a) L a).length none, .bool (cnfB vars L && clB vars a)]) [] := by
  refine ACall.intro Try.func26 rfl (N := 22) rfl (by decide) (by simp) ?_
  refine a_seq ?_
  refine a_region ?_
  refine r_new (v := .op [.int _ _, .sl _ _]) (q_box (.inl rfl) rfl rfl) rfl rfl (by decide) ?_
  refine r_val (v := .nils) (v_assign (.inl rfl) (noOwn_flat rfl)) rfl rfl (by decide) ?_
  refine r_val (v := .bool _) (v_assign (.inl rfl) (noOwn_flat rfl)) rfl rfl (by decide) ?_
  refine r_nil ?_
  refine a_seq ?_
  refine a_seq ?_
  refine a_region ?_
  refine r_val (v := .agg [.int _ _, .sl _ _]) (v_load_rpa1 ta29 (.inl rfl) rfl rfl (fun _ => rfl) rfl) rfl rfl (by decide) ?_
  refine r_val (v := .sl _ _) (v_move (.inl rfl) (noOwn_flat rfl)) rfl rfl (by decide) ?_
  refine r_new (v := .bool _) (q_call (vs := [.agg [.int _ _, .sl _ _], .sl _ _]) (args := [.agg [.int .i64 _, .sl _ _], .sl _ _]) hb61 ⟨.inl rfl, .inl rfl, trivial⟩ rfl (fun hA => l3Asked_c vars L a hk hl hb) rfl rfl) rfl rfl (by decide) ?_
  refine r_val (v := .bool _) (v_not (.inl rfl)) rfl rfl (by decide) ?_
  refine r_nil ?_
  refine a_cond rfl (fun ht12 => ?_) (fun ht12 => ?_)
  ·
    skip
    refine a_seq ?_
    refine a_region ?_
    refine r_new (v := .osl _ _ _ _) (q_sliceLit (n := 0) (parts := []) lt39 rfl rfl rfl rfl) rfl rfl (by decide) ?_
    refine r_val (v := .rsl _ _ _ _ _) (v_assign (.inl rfl) (noOwn_flat rfl)) rfl rfl (by decide) ?_
    refine r_pre (ent_reloc_sl (t := 4) rfl rfl) ?_
    refine r_val (v := .bool _) (v_assign (.inl rfl) (noOwn_flat rfl)) rfl rfl (by decide) ?_
    refine r_nil ?_
    refine a_ret ?_
    refine retL (rs := [.tmp 4, .tmp 5]) [(4, .osl _ _ _ none), (5, _)] ⟨Weak.osl rfl rfl, Weak.rfl, trivial⟩ rfl Try.results26 (by decide) ⟨by decide, by decide, rfl⟩ (by decide) (by decide) (l2_eq (osl_eq2 ?_ ?_) (bool_eq ?_)) (by simp [refsL, refs])
    all_goals (have hf : (cnfB vars L && clB vars a) = false := (by cases h1 : cnfB vars L <;> cases h2 : clB vars a <;> simp_all); rw [hf] <;> simp [ppA, ppC, ppS, icells, tcells, rep])
  ·
    skip
    refine a_skip ?_
    refine a_seq ?_
    have hok : (cnfB vars L && clB vars a) = true := (by simpa using ht12)
    have hok2 := (Bool.and_eq_true _ _).mp hok
    have hcs := cnfB_spec hok2.1
    refine a_region ?_
    refine r_val (v := .agg [.int _ _, .sl _ _]) (v_load_rpa1 ta29 (.inl rfl) rfl rfl (fun _ => rfl) rfl) rfl rfl (by decide) ?_
    refine r_val (v := .sl _ _) (v_move (.inl rfl) (noOwn_flat rfl)) rfl rfl (by decide) ?_
    refine r_new (v := .tup [.osl _ _ _ _, .osl _ _ _ _, .bool _]) (q_call (vs := [.agg [.int _ _, .sl _ _], .sl _ _]) (args := [.agg [.int .i64 _, .sl _ _], .sl _ _]) hb62 ⟨.inl rfl, .inl rfl, trivial⟩ rfl (fun hA => sProp_c vars L a hcs.2.2 (by omega) hl hok2.2) (by simp [noSh, noShL, ic_noSh, tc_noSh]) (by simp [noRef, noRefL, ic_noRef, tc_noRef])) rfl rfl (by decide) ?_
    refine r_val (v := .tup [.rsl _ _ _ _ _, .rsl _ _ _ _ _, .bool _]) (v_mv rfl) rfl rfl (by decide) ?_
    refine r_val (v := .rsl _ _ _ _ _) (v_extract rfl rfl) rfl rfl (by decide) ?_
    refine r_val (v := .rsl _ _ _ _ _) (v_extract rfl rfl) rfl rfl (by decide) ?_
    refine r_val (v := .bool _) (v_extract rfl rfl) rfl rfl (by decide) ?_
    refine r_val (v := .rsl _ _ _ _ _) (v_assign (.inl rfl) (noOwn_flat rfl)) rfl rfl (by decide) ?_
    refine r_pre (ent_reloc_sl (t := 6) rfl rfl) ?_
    refine r_val (v := .rsl _ _ _ _ _) (v_assign (.inl rfl) (noOwn_flat rfl)) rfl rfl (by decide) ?_
    refine r_pre (ent_reloc_sl (t := 7) rfl rfl) ?_
    refine r_val (v := .bool _) (v_assign (.inl rfl) (noOwn_flat rfl)) rfl rfl (by decide) ?_
    refine r_nil ?_
    refine a_seq ?_
    refine a_region ?_
    refine r_val (v := .rsl _ _ _ _ _) (v_move (.inl rfl) (noOwn_flat rfl)) rfl rfl (by decide) ?_
    refine r_val (v := .rsl _ _ _ _ _) (v_assign (.inl rfl) (noOwn_flat rfl)) rfl rfl (by decide) ?_
    refine r_pre (ent_reloc_sl (t := 4) rfl rfl) ?_
    refine r_val (v := .bool _) (v_assign (.inl rfl) (noOwn_flat rfl)) rfl rfl (by decide) ?_
    refine r_nil ?_
    refine a_ret ?_
    refine retL (rs := [.tmp 4, .tmp 5]) [(4, .osl _ _ _ none), (5, _)] ⟨Weak.osl rfl rfl, Weak.rfl, trivial⟩ rfl Try.results26 (by decide) ⟨by decide, by decide, rfl⟩ (by decide) (by decide) (l2_eq (osl_eq2 ?_ ?_) (bool_eq ?_)) (by simp [refsL, refs])
    all_goals (rw [hok] <;> simp [ppA, ppC, ppS])

theorem iPst_c (vars : Int) (L : List (List Int)) (a : List Int) (hk : CnfOk vars L) (hl : a.length ≤ 1048576) (hb : ∀ j, -9223372036854775808 ≤ gd a j ∧ gd a j ≤ 9223372036854775807) : ACall Try.prog 27 [.agg [.int .i64 vars, .sl (sls L) L.length], .sl (icells a) a.length] [] (.tup [.osl 2 (tcells (ppS (cnfB vars L && clB vars a) L a)) (ppS (cnfB vars L && clB vars a) L a).length none, .bool (cnfB vars L && clB vars a)]) [] := by
  have hk1 := hk.1
  refine ACall.intro Try.func27 rfl (N := 28) rfl (by decide) (by simp) ?_
  refine a_seq ?_
  refine a_region ?_
  refine r_new (v := .op [.int _ _, .sl _ _]) (q_box (.inl rfl) rfl rfl) rfl rfl (by decide) ?_
  refine r_val (v := .nils) (v_assign (.inl rfl) (noOwn_flat rfl)) rfl rfl (by decide) ?_
  refine r_val (v := .bool _) (v_assign (.inl rfl) (noOwn_flat rfl)) rfl rfl (by decide) ?_
  refine r_nil ?_
  refine a_seq ?_
  refine a_seq ?_
  refine a_region ?_
  refine r_val (v := .agg [.int _ _, .sl _ _]) (v_load_rpa1 ta29 (.inl rfl) rfl rfl (fun _ => rfl) rfl) rfl rfl (by decide) ?_
  refine r_new (v := .bool _) (q_call (vs := [.agg [.int _ _, .sl _ _]]) (args := [.agg [.int .i64 _, .sl _ _]]) hb58 ⟨.inl rfl, trivial⟩ rfl (fun hA => isCnf_c vars L hk) rfl rfl) rfl rfl (by decide) ?_
  refine r_val (v := .bool _) (v_not (.inl rfl)) rfl rfl (by decide) ?_
  refine r_val (v := .bool _) (v_move (.inl rfl) (noOwn_flat rfl)) rfl rfl (by decide) ?_
  refine r_gval (v := .rp _ _) (v_fieldAddr_rp fo29_0 (.inl rfl)) rfl rfl rfl (by decide) (.inl ⟨_, rfl, rfl⟩) rfl (by decide) ?_
  refine r_gval (v := .int _ _) (v_load_rp1 ta3 (.inr ⟨_, rfl, fun h => h⟩) rfl (fun _ => rfl) rfl) rfl rfl rfl (by decide) (.inl ⟨_, rfl, rfl⟩) rfl (by decide) ?_
  refine r_gval (v := .sl _ _) (v_move (.inl rfl) (noOwn_flat rfl)) rfl rfl rfl (by decide) (.inl ⟨_, rfl, rfl⟩) rfl (by decide) ?_
  refine r_guard (v := .bool _) (q_call (vs := [.int _ _, .sl _ _]) (args := [.int .i64 _, .sl _ _]) hb63 ⟨.inr ⟨_, rfl, fun h => h⟩, .inr ⟨_, rfl, fun h => h⟩, trivial⟩ rfl (fun hA => isAsg_c _ _ (by omega) (by omega) hb) rfl rfl) rfl rfl rfl (by decide) (.inl ⟨_, rfl, rfl⟩) rfl (by decide) ?_
  refine r_gval (v := .bool _) (v_not (.inr ⟨_, rfl, fun h => h⟩)) rfl rfl rfl (by decide) (.inl ⟨_, rfl, rfl⟩) rfl (by decide) ?_
  refine r_val (v := .bool _) (v_pick (.inl rfl) (.inl rfl) (.inr ⟨_, rfl, fun h h2 => by simp_all⟩)) rfl rfl (by decide) ?_
  refine r_nil ?_
  refine a_cond rfl (fun ht18 => ?_) (fun ht18 => ?_)
  ·
    skip
    refine a_seq ?_
    refine a_region ?_
    refine r_val (v := .nils) (v_assign (.inl rfl) (noOwn_flat rfl)) rfl rfl (by decide) ?_
    refine r_val (v := .bool _) (v_assign (.inl rfl) (noOwn_flat rfl)) rfl rfl (by decide) ?_
    refine r_nil ?_
    refine a_pre (ent_nil (t := 4) (sz := 2) (cap := none) (.inl rfl) (fun _ h => by cases h)) ?_
    refine a_ret ?_
    refine retL (rs := [.tmp 4, .tmp 5]) [(4, .osl _ _ _ none), (5, _)] ⟨Weak.osl rfl rfl, Weak.rfl, trivial⟩ rfl Try.results27 (by decide) ⟨by decide, by decide, rfl⟩ (by decide) (by decide) (l2_eq (osl_eq2 ?_ ?_) (bool_eq ?_)) (by simp [refsL, refs])
    all_goals (have hf : (cnfB vars L && clB vars a) = false := (by cases h1 : cnfB vars L <;> cases h2 : clB vars a <;> simp_all); rw [hf] <;> simp [ppA, ppC, ppS, icells, tcells, rep])
  ·
    skip
    refine a_skip ?_
    refine a_seq ?_
    have hok : (cnfB vars L && clB vars a) = true := (by cases h1 : cnfB vars L <;> cases h2 : clB vars a <;> simp_all)
    have hok2 := (Bool.and_eq_true _ _).mp hok
    have hcs := cnfB_spec hok2.1
    refine a_region ?_
    refine r_val (v := .rp _ _) (v_fieldAddr_rp fo29_1 (.inl rfl)) rfl rfl (by decide) ?_
    refine r_val (v := .sl _ _) (v_load_rp1 ta22 (.inl rfl) rfl (fun _ => rfl) rfl) rfl rfl (by decide) ?_
    refine r_val (v := .sl _ _) (v_move (.inl rfl) (noOwn_flat rfl)) rfl rfl (by decide) ?_
    refine r_new (v := .tup [.osl _ _ _ _, .osl _ _ _ _, .bool _]) (q_call (vs := [.sl _ _, .sl _ _]) (args := [.sl _ _, .sl _ _]) hb64 ⟨.inl rfl, .inl rfl, trivial⟩ rfl (fun hA => iProp_c vars L a hcs.2.2 (by omega) hl hok2.2) (by simp [noSh, noShL, ic_noSh, tc_noSh]) (by simp [noRef, noRefL, ic_noRef, tc_noRef])) rfl rfl (by decide) ?_
    refine r_val (v := .tup [.rsl _ _ _ _ _, .rsl _ _ _ _ _, .bool _]) (v_mv rfl) rfl rfl (by decide) ?_
    refine r_val (v := .rsl _ _ _ _ _) (v_extract rfl rfl) rfl rfl (by decide) ?_
    refine r_val (v := .rsl _ _ _ _ _) (v_extract rfl rfl) rfl rfl (by decide) ?_
    refine r_val (v := .bool _) (v_extract rfl rfl) rfl rfl (by decide) ?_
    refine r_val (v := .rsl _ _ _ _ _) (v_assign (.inl rfl) (noOwn_flat rfl)) rfl rfl (by decide) ?_
    refine r_pre (ent_reloc_sl (t := 6) rfl rfl) ?_
    refine r_val (v := .rsl _ _ _ _ _) (v_assign (.inl rfl) (noOwn_flat rfl)) rfl rfl (by decide) ?_
    refine r_pre (ent_reloc_sl (t := 7) rfl rfl) ?_
    refine r_val (v := .bool _) (v_assign (.inl rfl) (noOwn_flat rfl)) rfl rfl (by decide) ?_
    refine r_nil ?_
    refine a_seq ?_
    refine a_region ?_
    refine r_val (v := .rsl _ _ _ _ _) (v_move (.inl rfl) (noOwn_flat rfl)) rfl rfl (by decide) ?_
    refine r_val (v := .rsl _ _ _ _ _) (v_assign (.inl rfl) (noOwn_flat rfl)) rfl rfl (by decide) ?_
    refine r_pre (ent_reloc_sl (t := 4) rfl rfl) ?_
    refine r_val (v := .bool _) (v_assign (.inl rfl) (noOwn_flat rfl)) rfl rfl (by decide) ?_
    refine r_nil ?_
    refine a_ret ?_
    refine retL (rs := [.tmp 4, .tmp 5]) [(4, .osl _ _ _ none), (5, _)] ⟨Weak.osl rfl rfl, Weak.rfl, trivial⟩ rfl Try.results27 (by decide) ⟨by decide, by decide, rfl⟩ (by decide) (by decide) (l2_eq (osl_eq2 ?_ ?_) (bool_eq ?_)) (by simp [refsL, refs])
    all_goals (rw [hok] <;> simp [ppA, ppC, ppS])

end Go.Av
namespace Go.Av
open Go Go.Proofs Go.Sort
set_option maxRecDepth 10000
theorem mkC_full {k : Int} {cs : List AV} {m : Nat} (h : cs.length = m) : mkC k cs m = icells (mkI k m) := by
  subst h
  simp [mkC, mkI, icells]


theorem markA2_c (xs : List (Int × Int)) (k : Int) (h : -9000000000000000000 ≤ k ∧ k + 2 * xs.length ≤ 9223372036854775807) : ACall Try.prog 29 [.rsl (INH, []) 2 0 xs.length none, .int .i64 k] [.osl 2 (tcells xs) xs.length none] (.int .i64 (k + 2 * xs.length)) [.osl 2 (icells (mkI k (xs.length * 2))) xs.length none] := by
  refine ACall.intro Try.func29 rfl (N := 26) rfl (by decide) (by simp) ?_
  refine a_seq ?_
  refine a_region ?_
  refine r_val (v := .int _ _) (v_assign (.inl rfl) (noOwn_flat rfl)) rfl rfl (by decide) ?_
  refine r_nil ?_
  refine a_seq ?_
  refine a_seq ?_
  refine a_region ?_
  refine r_val (v := .int _ _) (v_assign (.inl rfl) (noOwn_flat rfl)) rfl rfl (by decide) ?_
  refine r_nil ?_
  refine a_block ?_
  refine a_loop (X := Nat) (fun i => look [(0, .rsl (INH, []) 2 0 xs.length none), (1, .int .i64 (k + 2 * (i : Nat))), (5, .int .i64 (i : Int)), (INH, .osl 2 (mkC k (tcells xs) (i * 2)) xs.length none)]) (fun i => i ≤ xs.length) (fun i => xs.length - i) 0 (ent_look ⟨Weak.of_eq rfl, Weak.of_eq (int_eq (by omega)), Weak.of_eq rfl, Weak.of_eq (osl_eq (by rw [Nat.zero_mul, mkC_zero])), trivial⟩) (Nat.zero_le _) (fun i hG => ?_)
  refine a_seq ?_
  refine a_seq ?_
  refine a_region ?_
  refine r_val (v := .int _ _) (v_move (.inl rfl) (noOwn_flat rfl)) rfl rfl (by decide) ?_
  refine r_val (v := .rsl _ _ _ _ _) (v_move (.inl rfl) (noOwn_flat rfl)) rfl rfl (by decide) ?_
  refine r_val (v := .int _ _) (v_len_rsl sl39 (.inl rfl)) rfl rfl (by decide) ?_
  refine r_val (v := .bool _) (v_lss (.inl rfl) (.inl rfl)) rfl rfl (by decide) ?_
  refine r_nil ?_
  refine a_cond rfl (fun ht10 => ?_) (fun ht10 => ?_)
  ·
    skip
    refine a_skip ?_
    refine a_seq ?_
    refine a_block ?_
    refine a_seq ?_
    have hi : i < xs.length := (by simp at ht10; omega)
    refine a_region ?_
    refine r_val (v := .int _ _) (v_assign (.inl rfl) (noOwn_flat rfl)) rfl rfl (by decide) ?_
    refine r_nil ?_
    refine a_block ?_
    refine a_loop (X := Nat) (fun j => look [(0, .rsl (INH, []) 2 0 xs.length none), (1, .int .i64 (k + 2 * (i : Nat) + (j : Nat))), (5, .int .i64 (i : Int)), (6, .int .i64 ((j : Nat) : Int)), (INH, .osl 2 (mkC k (tcells xs) (i * 2 + j)) xs.length none)]) (fun j => j ≤ 2) (fun j => 2 - j) 0 (ent_look ⟨Weak.of_eq rfl, Weak.of_eq (int_eq (by omega)), Weak.of_eq rfl, Weak.of_eq rfl, Weak.of_eq (osl_eq (by rw [Nat.add_zero])), trivial⟩) (by omega) (fun j hG => ?_)
    refine a_seq ?_
    refine a_seq ?_
    refine a_region ?_
    refine r_val (v := .int _ _) (v_move (.inl rfl) (noOwn_flat rfl)) rfl rfl (by decide) ?_
    refine r_val (v := .bool _) (v_lss (.inl rfl) (.inl rfl)) rfl rfl (by decide) ?_
    refine r_nil ?_
    refine a_cond rfl (fun ht14 => ?_) (fun ht14 => ?_)
    ·
      skip
      refine a_skip ?_
      refine a_seq ?_
      refine a_block ?_
      refine a_seq ?_
      have hj : j < 2 := (by simp at ht14; omega)
      have hml : (mkC k (tcells xs) (i * 2 + j)).length = xs.length * 2 := (by rw [mkC_length (by rw [tcells_length]; omega), tcells_length])
      have hpl : i * 2 + j * 1 + 1 ≤ (mkC k (tcells xs) (i * 2 + j)).length := (by rw [hml]; omega)
      have hset : (mkC k (tcells xs) (i * 2 + j)).set (i * 2 + j * 1) (.int .i64 (k + 2 * (i : Nat) + (j : Nat))) = mkC k (tcells xs) (i * 2 + (j + 1)) := (by rw [Nat.mul_one, ← Nat.add_assoc, ← mkC_set (by rw [tcells_length]; omega)]; congr 2; omega)
      refine a_region ?_
      refine r_val (v := .rsl _ _ _ _ _) (v_move (.inl rfl) (noOwn_flat rfl)) rfl rfl (by decide) ?_
      refine r_val (v := .int _ _) (v_move (.inl rfl) (noOwn_flat rfl)) rfl rfl (by decide) ?_
      refine r_val (v := .int _ _) (v_move (.inl rfl) (noOwn_flat rfl)) rfl rfl (by decide) ?_
      refine r_val (v := .int _ _) (v_move (.inl rfl) (noOwn_flat rfl)) rfl rfl (by decide) ?_
      refine r_val (v := .rp _ _) (v_indexAddr_rsl0 es39 (.inl rfl) (.inl rfl) (fun _ => by omega)) rfl rfl (by decide) ?_
      refine r_val (v := .rp _ _) (v_indexAddr_rpa az75 (.inl rfl) (.inl rfl) (fun _ => by omega)) rfl rfl (by decide) ?_
      refine r_step rfl (o_store (v := .int _ _) (y' := .osl _ _ _ _) rfl rfl ta3 (.inl rfl) (.inl rfl) rfl rfl rfl rfl rfl rfl hpl (by decide) rfl (congrArg (fun c => AV.osl 2 c xs.length none) hset)) ?_
      refine r_nil ?_
      refine a_region ?_
      refine r_val (v := .int _ _) (v_move (.inl rfl) (noOwn_flat rfl)) rfl rfl (by decide) ?_
      refine r_val (v := .int _ _) (v_add (.inl rfl) (.inl rfl) (fun _ => by omega)) rfl rfl (by decide) ?_
      refine r_val (v := .int _ _) (v_assign (.inl rfl) (noOwn_flat rfl)) rfl rfl (by decide) ?_
      refine r_nil ?_
      refine a_region ?_
      refine r_val (v := .int _ _) (v_move (.inl rfl) (noOwn_flat rfl)) rfl rfl (by decide) ?_
      refine r_val (v := .int _ _) (v_add (.inl rfl) (.inl rfl) (fun _ => by omega)) rfl rfl (by decide) ?_
      refine r_val (v := .int _ _) (v_assign (.inl rfl) (noOwn_flat rfl)) rfl rfl (by decide) ?_
      refine r_nil ?_
      refine ⟨j + 1, ent_look ⟨Weak.of_eq rfl, Weak.of_eq (int_eq (by omega)), Weak.of_eq rfl, Weak.of_eq (int_eq (by omega)), Weak.of_eq rfl, trivial⟩, by omega, by omega⟩
    ·
      skip
      refine a_exit ?_
      refine a_region ?_
      refine r_val (v := .int _ _) (v_move (.inl rfl) (noOwn_flat rfl)) rfl rfl (by decide) ?_
      refine r_val (v := .int _ _) (v_add (.inl rfl) (.inl rfl) (fun _ => by omega)) rfl rfl (by decide) ?_
      refine r_val (v := .int _ _) (v_assign (.inl rfl) (noOwn_flat rfl)) rfl rfl (by decide) ?_
      refine r_nil ?_
      refine ⟨i + 1, ent_look ⟨Weak.of_eq rfl, Weak.of_eq (int_eq (by simp at ht14; omega)), Weak.of_eq (int_eq (by omega)), Weak.of_eq (osl_eq (by rw [show (i + 1) * 2 = i * 2 + j by simp at ht14; omega])), trivial⟩, by omega, by omega⟩
  ·
    skip
    refine a_exit ?_
    refine a_seq ?_
    refine a_region ?_
    refine r_val (v := .int _ _) (v_move (.inl rfl) (noOwn_flat rfl)) rfl rfl (by decide) ?_
    refine r_val (v := .int _ _) (v_assign (.inl rfl) (noOwn_flat rfl)) rfl rfl (by decide) ?_
    refine r_nil ?_
    refine a_ret ?_
    refine ret1 Try.results29 (by decide) (by decide) (Weak.of_eq (int_eq ?_)) rfl (Leaves.one (Weak.of_eq (osl_eq (by simp at ht10; rw [show i = xs.length by omega, mkC_full (tcells_length xs)]))) rfl)
    simp at ht10; omega

theorem heldA2_c (n : Nat) (k : Int) (h : -9000000000000000000 ≤ k ∧ k + 2 * n ≤ 9223372036854775807) : ACall Try.prog 30 [.sl (icells (mkI k (n * 2))) n, .int .i64 k] [] (.int .i64 (k + 2 * n)) [] := by
  refine ACall.intro Try.func30 rfl (N := 28) rfl (by decide) (by simp) ?_
  refine a_seq ?_
  refine a_region ?_
  refine r_val (v := .int _ _) (v_assign (.inl rfl) (noOwn_flat rfl)) rfl rfl (by decide) ?_
  refine r_nil ?_
  refine a_seq ?_
  refine a_seq ?_
  refine a_region ?_
  refine r_val (v := .int _ _) (v_assign (.inl rfl) (noOwn_flat rfl)) rfl rfl (by decide) ?_
  refine r_nil ?_
  refine a_block ?_
  refine a_loop (X := Nat) (fun i => look [(0, .sl (icells (mkI k (n * 2))) n), (1, .int .i64 (k + 2 * (i : Nat))), (5, .int .i64 ((i : Nat) : Int))]) (fun i => i ≤ n) (fun i => n - i) 0 (ent_look ⟨Weak.of_eq rfl, Weak.of_eq (int_eq (by omega)), Weak.of_eq rfl, trivial⟩) (Nat.zero_le _) (fun i hG => ?_)
  refine a_seq ?_
  refine a_seq ?_
  refine a_region ?_
  refine r_val (v := .int _ _) (v_move (.inl rfl) (noOwn_flat rfl)) rfl rfl (by decide) ?_
  refine r_val (v := .sl _ _) (v_move (.inl rfl) (noOwn_flat rfl)) rfl rfl (by decide) ?_
  refine r_val (v := .int _ _) (v_len_sl sl39 (.inl rfl)) rfl rfl (by decide) ?_
  refine r_val (v := .bool _) (v_lss (.inl rfl) (.inl rfl)) rfl rfl (by decide) ?_
  refine r_nil ?_
  refine a_cond rfl (fun ht10 => ?_) (fun ht10 => ?_)
  ·
    skip
    refine a_skip ?_
    refine a_seq ?_
    refine a_block ?_
    refine a_seq ?_
    have hi : i < n := (by simp at ht10; omega)
    refine a_region ?_
    refine r_val (v := .int _ _) (v_assign (.inl rfl) (noOwn_flat rfl)) rfl rfl (by decide) ?_
    refine r_nil ?_
    refine a_block ?_
    refine a_loop (X := Nat) (fun j => look [(0, .sl (icells (mkI k (n * 2))) n), (1, .int .i64 (k + 2 * (i : Nat) + (j : Nat))), (5, .int .i64 ((i : Nat) : Int)), (6, .int .i64 ((j : Nat) : Int))]) (fun j => j ≤ 2) (fun j => 2 - j) 0 (ent_look ⟨Weak.of_eq rfl, Weak.of_eq (int_eq (by omega)), Weak.of_eq rfl, Weak.of_eq rfl, trivial⟩) (by omega) (fun j hG => ?_)
    refine a_seq ?_
    refine a_seq ?_
    refine a_region ?_
    refine r_val (v := .int _ _) (v_move (.inl rfl) (noOwn_flat rfl)) rfl rfl (by decide) ?_
    refine r_val (v := .bool _) (v_lss (.inl rfl) (.inl rfl)) rfl rfl (by decide) ?_
    refine r_nil ?_
    refine a_cond rfl (fun ht14 => ?_) (fun ht14 => ?_)
    ·
      skip
      refine a_skip ?_
      refine a_seq ?_
      refine a_block ?_
      refine a_seq ?_
      refine a_seq ?_
      have hj : j < 2 := (by simp at ht14; omega)
      have hmg := icells_get (gd_get (show i * 2 + j < (mkI k (n * 2)).length by rw [mkI_length]; omega))
      rw [mkI_get (by omega)] at hmg
      refine a_region ?_
      refine r_val (v := .sl _ _) (v_move (.inl rfl) (noOwn_flat rfl)) rfl rfl (by decide) ?_
      refine r_val (v := .int _ _) (v_move (.inl rfl) (noOwn_flat rfl)) rfl rfl (by decide) ?_
      refine r_val (v := .int _ _) (v_move (.inl rfl) (noOwn_flat rfl)) rfl rfl (by decide) ?_
      refine r_val (v := .pp _ _) (v_indexAddr_sl es39 (.inl rfl) (.inl rfl) (fun _ => ⟨by omega, by omega, icells_ne (show i * 2 + j < (mkI k (n * 2)).length by rw [mkI_length]; omega)⟩)) rfl rfl (by decide) ?_
      refine r_val (v := .pp _ _) (v_indexAddr_ppa az75 (.inl rfl) (.inl rfl) (fun _ => by omega)) rfl rfl (by decide) ?_
      refine r_val (v := .int .i64 (k + 2 * (i : Nat) + (j : Nat))) (v_load_pp ta3 (.inl rfl) (fun _ => by rw [show ((i : Nat) : Int).toNat * 2 + ((j : Nat) : Int).toNat * 1 = i * 2 + j by omega]; exact hmg.trans (congrArg (fun z => some (AV.int .i64 z)) (by omega))) rfl) rfl rfl (by decide) ?_
      refine r_val (v := .int _ _) (v_move (.inl rfl) (noOwn_flat rfl)) rfl rfl (by decide) ?_
      refine r_val (v := .bool _) (v_neq (.inl rfl) (.inl rfl)) rfl rfl (by decide) ?_
      refine r_nil ?_
      refine a_cond rfl (fun ht24 => ?_) (fun ht24 => ?_)
      ·
        skip
        refine a_seq ?_
        refine a_region ?_
        refine r_val (v := .int _ _) (v_assign (.inl rfl) (noOwn_flat rfl)) rfl rfl (by decide) ?_
        refine r_nil ?_
        refine a_ret ?_
        refine ret1 Try.results30 (by decide) (by decide) (Weak.of_eq (int_eq ?_)) rfl Leaves.nil
        exfalso; simp at ht24
      ·
        skip
        refine a_skip ?_
        refine a_region ?_
        refine r_val (v := .int _ _) (v_move (.inl rfl) (noOwn_flat rfl)) rfl rfl (by decide) ?_
        refine r_val (v := .int _ _) (v_add (.inl rfl) (.inl rfl) (fun _ => by omega)) rfl rfl (by decide) ?_
        refine r_val (v := .int _ _) (v_assign (.inl rfl) (noOwn_flat rfl)) rfl rfl (by decide) ?_
        refine r_nil ?_
        refine a_region ?_
        refine r_val (v := .int _ _) (v_move (.inl rfl) (noOwn_flat rfl)) rfl rfl (by decide) ?_
        refine r_val (v := .int _ _) (v_add (.inl rfl) (.inl rfl) (fun _ => by omega)) rfl rfl (by decide) ?_
        refine r_val (v := .int _ _) (v_assign (.inl rfl) (noOwn_flat rfl)) rfl rfl (by decide) ?_
        refine r_nil ?_
        refine ⟨j + 1, ent_look ⟨Weak.of_eq rfl, Weak.of_eq (int_eq (by omega)), Weak.of_eq rfl, Weak.of_eq (int_eq (by omega)), trivial⟩, by omega, by omega⟩
    ·
      skip
      refine a_exit ?_
      refine a_region ?_
      refine r_val (v := .int _ _) (v_move (.inl rfl) (noOwn_flat rfl)) rfl rfl (by decide) ?_
      refine r_val (v := .int _ _) (v_add (.inl rfl) (.inl rfl) (fun _ => by omega)) rfl rfl (by decide) ?_
      refine r_val (v := .int _ _) (v_assign (.inl rfl) (noOwn_flat rfl)) rfl rfl (by decide) ?_
      refine r_nil ?_
      refine ⟨i + 1, ent_look ⟨Weak.of_eq rfl, Weak.of_eq (int_eq (by simp at ht14; omega)), Weak.of_eq (int_eq (by omega)), trivial⟩, by omega, by omega⟩
  ·
    skip
    refine a_exit ?_
    refine a_seq ?_
    refine a_region ?_
    refine r_val (v := .int _ _) (v_move (.inl rfl) (noOwn_flat rfl)) rfl rfl (by decide) ?_
    refine r_val (v := .int _ _) (v_assign (.inl rfl) (noOwn_flat rfl)) rfl rfl (by decide) ?_
    refine r_nil ?_
    refine a_ret ?_
    refine ret1 Try.results30 (by decide) (by decide) (Weak.of_eq (int_eq ?_)) rfl Leaves.nil
    simp at ht10; omega
end Go.Av
namespace Go.Av
open Go Go.Proofs Go.Sort
set_option maxRecDepth 10000
theorem hb14 : hasBody Try.prog 14 = true := by kernel_rfl
theorem hb16 : hasBody Try.prog 16 = true := by kernel_rfl
theorem hb19 : hasBody Try.prog 19 = true := by kernel_rfl
theorem hb23 : hasBody Try.prog 23 = true := by kernel_rfl
theorem ta24 : tyAgg Try.prog 24 = some (true, 2) := by kernel_rfl
theorem un4 : Try.prog.underlying 4 = some .bool := by kernel_rfl

end Go.Av
namespace Go.Av
open Go Go.Proofs Go.Sort
set_option maxRecDepth 10000
theorem hb26 : hasBody Try.prog 26 = true := by kernel_rfl
theorem hb27 : hasBody Try.prog 27 = true := by kernel_rfl
theorem hb28 : hasBody Try.prog 28 = true := by kernel_rfl
theorem hb29 : hasBody Try.prog 29 = true := by kernel_rfl
theorem hb30 : hasBody Try.prog 30 = true := by kernel_rfl

theorem lawPropagationSteps_c (vars : Int) (L : List (List Int)) (a : List Int) (hl9 : (a.length : Int) ≤ 9223372036854775807) (hv : -9223372036854775808 ≤ vars ∧ vars ≤ 9223372036854775807) (hlen : ∀ i, ((gl L i).length : Int) ≤ 9223372036854775807) (hL : (L.length : Int) ≤ 9223372036854775807) (hbb : ∀ i j, -9223372036854775808 ≤ gd (gl L i) j ∧ gd (gl L i) j ≤ 9223372036854775807) (hb : ∀ j, -9223372036854775808 ≤ gd a j ∧ gd a j ≤ 9223372036854775807) : ACall Try.prog 5 [.agg [.int .i64 vars, .sl (sls L) L.length], .sl (icells a) a.length] [] (.bool true) [] := by
  have hr := pr_len vars L a
  refine ACall.intro Try.func5 rfl (N := 117) rfl (by decide) (by simp) ?_
  refine a_seq ?_
  refine a_region ?_
  refine r_new (v := .op [.int _ _, .sl _ _]) (q_box (.inl rfl) rfl rfl) rfl rfl (by decide) ?_
  refine r_val (v := .bool _) (v_assign (.inl rfl) (noOwn_flat rfl)) rfl rfl (by decide) ?_
  refine r_nil ?_
  refine a_seq ?_
  refine a_seq ?_
  refine a_region ?_
  refine r_val (v := .sl _ _) (v_move (.inl rfl) (noOwn_flat rfl)) rfl rfl (by decide) ?_
  refine r_val (v := .int _ _) (v_len_sl sl25 (.inl rfl)) rfl rfl (by decide) ?_
  refine r_val (v := .bool _) (v_gtr (.inl rfl) (.inl rfl)) rfl rfl (by decide) ?_
  refine r_nil ?_
  refine a_cond rfl (fun ht19 => ?_) (fun ht19 => ?_)
  ·
    skip
    refine a_seq ?_
    refine a_region ?_
    refine r_val (v := .bool _) (v_assign (.inl rfl) (noOwn_flat rfl)) rfl rfl (by decide) ?_
    refine r_nil ?_
    refine a_ret ?_
    refine ret1 Try.results5 (by decide) (by decide) (Weak.of_eq (bool_eq ?_)) rfl Leaves.nil
    first | rfl | (exfalso; simp at ht19; done) | (exfalso; simp at ht19; omega)
  ·
    skip
    refine a_skip ?_
    refine a_seq ?_
    have hle : (a.length : Int) ≤ 1048576 := (by simpa using ht19)
    refine a_region ?_
    refine r_val (v := .int _ _) (v_assign (.inl rfl) (noOwn_flat rfl)) rfl rfl (by decide) ?_
    refine r_nil ?_
    refine a_seq ?_
    refine a_region ?_
    refine r_val (v := .agg [.int _ _, .sl _ _]) (v_load_rpa1 ta24 (.inl rfl) rfl rfl (fun _ => rfl) rfl) rfl rfl (by decide) ?_
    refine r_val (v := .int _ _) (v_move (.inl rfl) (noOwn_flat rfl)) rfl rfl (by decide) ?_
    refine r_new (v := .int _ _) (q_call (vs := [.agg [.int _ _, .sl _ _], .int _ _]) (args := [.agg [.int .i64 _, .sl _ _], .int .i64 _]) hb14 ⟨.inl rfl, .inl rfl, trivial⟩ rfl (fun hA => szCnf_c _ _ _ (by omega) hlen hL) rfl rfl) rfl rfl (by decide) ?_
    refine r_val (v := .int _ _) (v_assign (.inl rfl) (noOwn_flat rfl)) rfl rfl (by decide) ?_
    refine r_nil ?_
    refine a_seq ?_
    refine a_seq ?_
    refine a_region ?_
    refine r_val (v := .int _ _) (v_move (.inl rfl) (noOwn_flat rfl)) rfl rfl (by decide) ?_
    refine r_val (v := .bool _) (v_lss (.inl rfl) (.inl rfl)) rfl rfl (by decide) ?_
    refine r_nil ?_
    refine a_cond rfl (fun ht24 => ?_) (fun ht24 => ?_)
    ·
      skip
      refine a_seq ?_
      refine a_region ?_
      refine r_val (v := .bool _) (v_assign (.inl rfl) (noOwn_flat rfl)) rfl rfl (by decide) ?_
      refine r_nil ?_
      refine a_ret ?_
      refine ret1 Try.results5 (by decide) (by decide) (Weak.of_eq (bool_eq ?_)) rfl Leaves.nil
      first | rfl | (exfalso; simp at ht24; done) | (exfalso; simp at ht24; omega)
    ·
      skip
      refine a_skip ?_
      refine a_seq ?_
      have hsz : L.length + tot L L.length ≤ 1048576 := (by have h9 := of_decide_eq_false ht24; unfold szR at h9; split at h9 <;> omega)
      have hk : CnfOk vars L := ⟨hv, by omega, by omega, hbb⟩
      have hll := fun i => len_tot (L := L) (i := i)
      refine a_region ?_
      refine r_val (v := .agg [.int _ _, .sl _ _]) (v_load_rpa1 ta24 (.inl rfl) rfl rfl (fun _ => rfl) rfl) rfl rfl (by decide) ?_
      refine r_new (v := .agg [.int _ _, .osl _ _ _ _]) (q_call (vs := [.agg [.int _ _, .sl _ _]]) (args := [.agg [.int .i64 _, .sl _ _]]) hb16 ⟨.inl rfl, trivial⟩ rfl (fun hA => toCnf_c _ _ (by omega) (by omega)) (by simp [noSh, noShL, osls_noSh]) (by simp [noRef, noRefL, osls_noRef])) rfl rfl (by decide) ?_
      refine r_val (v := .sl _ _) (v_move (.inl rfl) (noOwn_flat rfl)) rfl rfl (by decide) ?_
      refine r_new (v := .osl _ _ _ _) (q_call (vs := [.sl _ _]) (args := [.sl _ _]) hb17 ⟨.inl rfl, trivial⟩ rfl (fun hA => toIntS_c _ (by omega)) (ic_noSh _) (ic_noRef _)) rfl rfl (by decide) ?_
      refine r_new (v := .tup [.osl _ _ _ _, .bool _]) (q_call (vs := [.agg [.int _ _, .rsl _ _ _ _ _], .rsl _ _ _ _ _]) (args := [.agg [.int .i64 _, .sl _ _], .sl _ _]) hb26 ⟨.inl rfl, .inl rfl, trivial⟩ (l2_eq (agg_eq (l2_eq rfl sl_osls)) (sl_sh (ic_pure _))) (fun hA => sPst_c _ _ _ hk (by omega) hb) (by simp [noSh, noShL, ic_noSh, tc_noSh]) (by simp [noRef, noRefL, ic_noRef, tc_noRef])) rfl rfl (by decide) ?_
      refine r_val (v := .tup [.rsl _ _ _ _ _, .bool _]) (v_mv rfl) rfl rfl (by decide) ?_
      refine r_val (v := .rsl _ _ _ _ _) (v_extract rfl rfl) rfl rfl (by decide) ?_
      refine r_val (v := .bool _) (v_extract rfl rfl) rfl rfl (by decide) ?_
      refine r_val (v := .rsl _ _ _ _ _) (v_assign (.inl rfl) (noOwn_flat rfl)) rfl rfl (by decide) ?_
      refine r_pre (ent_reloc_sl (t := 6) rfl rfl) ?_
      refine r_val (v := .bool _) (v_assign (.inl rfl) (noOwn_flat rfl)) rfl rfl (by decide) ?_
      refine r_nil ?_
      refine a_seq ?_
      refine a_pre (ent_look (L := [(1, .sl _ _), (2, .op [.int _ _, .sl _ _]), (4, .bool _), (6, .osl _ _ _ _), (7, .bool _)]) ⟨Weak.rfl, Weak.rfl, Weak.rfl, Weak.rfl, Weak.rfl, trivial⟩) ?_
      refine a_region ?_
      refine r_val (v := .agg [.int _ _, .sl _ _]) (v_load_rpa1 ta24 (.inl rfl) rfl rfl (fun _ => rfl) rfl) rfl rfl (by decide) ?_
      refine r_new (v := .agg [.int _ _, .osl _ _ _ _]) (q_call (vs := [.agg [.int _ _, .sl _ _]]) (args := [.agg [.int .i64 _, .sl _ _]]) hb16 ⟨.inl rfl, trivial⟩ rfl (fun hA => toCnf_c _ _ (by omega) (by omega)) (by simp [noSh, noShL, osls_noSh]) (by simp [noRef, noRefL, osls_noRef])) rfl rfl (by decide) ?_
      refine r_new (v := .op [.int _ _, .nils]) (q_alloc zc29) rfl rfl (by decide) ?_
      refine r_step rfl (o_store_own (v := .agg [.int _ _, .osl _ _ _ _]) (y' := .op [.int _ _, .osl _ _ _ _]) rfl rfl ta29 (.inl rfl) (by decide) rfl (by decide) rfl (by simp [cellsOf, noRefL, noRef, osls_noRef]) rfl rfl rfl rfl rfl (Nat.le_of_ble_eq_true rfl) rfl rfl) ?_
      refine r_nil ?_
      refine a_seq ?_
      refine a_region ?_
      refine r_val (v := .sl _ _) (v_move (.inl rfl) (noOwn_flat rfl)) rfl rfl (by decide) ?_
      refine r_new (v := .osl _ _ _ _) (q_call (vs := [.sl _ _]) (args := [.sl _ _]) hb17 ⟨.inl rfl, trivial⟩ rfl (fun hA => toIntS_c _ (by omega)) (ic_noSh _) (ic_noRef _)) rfl rfl (by decide) ?_
      refine r_val (v := .rsl _ _ _ _ _) (v_assign (.inl rfl) (noOwn_flat rfl)) rfl rfl (by decide) ?_
      refine r_pre (ent_reloc_sl (t := 9) rfl rfl) ?_
      refine r_nil ?_
      refine a_seq ?_
      refine a_region ?_
      refine r_val (v := .agg [.int _ _, .rsl _ _ _ _ _]) (v_load_rpa (xs := [.int _ _, .osl _ _ _ _]) ta29 (.inl rfl) rfl rfl (fun _ => take_get rfl)) rfl rfl (by decide) ?_
      refine r_val (v := .rsl _ _ _ _ _) (v_move (.inl rfl) (noOwn_flat rfl)) rfl rfl (by decide) ?_
      refine r_new (v := .tup [.osl _ _ _ _, .bool _]) (q_call (vs := [.agg [.int _ _, .rsl _ _ _ _ _], .rsl _ _ _ _ _]) (args := [.agg [.int .i64 _, .sl _ _], .sl _ _]) hb27 ⟨.inl rfl, .inl rfl, trivial⟩ (l2_eq (agg_eq (l2_eq rfl sl_osls)) (sl_sh (ic_pure _))) (fun hA => iPst_c _ _ _ hk (by omega) hb) (by simp [noSh, noShL, ic_noSh, tc_noSh]) (by simp [noRef, noRefL, ic_noRef, tc_noRef])) rfl rfl (by decide) ?_
      refine r_val (v := .tup [.rsl _ _ _ _ _, .bool _]) (v_mv rfl) rfl rfl (by decide) ?_
      refine r_val (v := .rsl _ _ _ _ _) (v_extract rfl rfl) rfl rfl (by decide) ?_
      refine r_val (v := .bool _) (v_extract rfl rfl) rfl rfl (by decide) ?_
      refine r_val (v := .rsl _ _ _ _ _) (v_assign (.inl rfl) (noOwn_flat rfl)) rfl rfl (by decide) ?_
      refine r_pre (ent_reloc_sl (t := 10) rfl rfl) ?_
      refine r_val (v := .bool _) (v_assign (.inl rfl) (noOwn_flat rfl)) rfl rfl (by decide) ?_
      refine r_nil ?_
      refine a_seq ?_
      refine a_seq ?_
      refine a_pre (ent_look (L := [(1, .sl _ _), (2, .op [.int _ _, .sl _ _]), (4, .bool _), (6, .osl _ _ _ _), (7, .bool _), (8, .op [.int _ _, .osl _ _ _ _]), (9, .osl _ _ _ _), (10, .osl _ _ _ _), (11, .bool _)]) ⟨Weak.rfl, Weak.rfl, Weak.rfl, Weak.rfl, Weak.rfl, Weak.rfl, Weak.rfl, Weak.rfl, Weak.rfl, trivial⟩) ?_
      refine a_region ?_
      refine r_val (v := .rsl _ _ _ _ _) (v_move (.inl rfl) (noOwn_flat rfl)) rfl rfl (by decide) ?_
      refine r_val (v := .rsl _ _ _ _ _) (v_move (.inl rfl) (noOwn_flat rfl)) rfl rfl (by decide) ?_
      refine r_new (v := .bool _) (q_call (vs := [.rsl _ _ _ _ _, .rsl _ _ _ _ _]) (args := [.sl _ _, .sl _ _]) hb28 ⟨.inl rfl, .inl rfl, trivial⟩ (l2_eq (sl_sh (tc_pure _)) (sl_sh (tc_pure _))) (fun hA => eqIntA2S_c _ _ (by omega)) rfl rfl) rfl rfl (by decide) ?_
      refine r_val (v := .bool _) (v_not (.inl rfl)) rfl rfl (by decide) ?_
      refine r_val (v := .bool _) (v_move (.inl rfl) (noOwn_flat rfl)) rfl rfl (by decide) ?_
      refine r_gval (v := .bool _) (v_move (.inl rfl) (noOwn_flat rfl)) rfl rfl rfl (by decide) (.inl ⟨_, rfl, rfl⟩) rfl (by decide) ?_
      refine r_gval (v := .bool _) (v_move (.inl rfl) (noOwn_flat rfl)) rfl rfl rfl (by decide) (.inl ⟨_, rfl, rfl⟩) rfl (by decide) ?_
      refine r_gval (v := .bool _) (v_bne un4 (.inr ⟨_, rfl, fun h => h⟩) (.inr ⟨_, rfl, fun h => h⟩)) rfl rfl rfl (by decide) (.inl ⟨_, rfl, rfl⟩) rfl (by decide) ?_
      refine r_val (v := .bool _) (v_pick (.inl rfl) (.inl rfl) (.inr ⟨_, rfl, fun h h2 => by simp_all⟩)) rfl rfl (by decide) ?_
      refine r_nil ?_
      refine a_cond rfl (fun ht51 => ?_) (fun ht51 => ?_)
      ·
        skip
        refine a_seq ?_
        refine a_pre (ent_look (L := [(1, .sl _ _), (2, .op [.int _ _, .sl _ _]), (4, .bool _), (6, .osl _ _ _ _), (7, .bool _), (8, .op [.int _ _, .osl _ _ _ _]), (9, .osl _ _ _ _), (10, .osl _ _ _ _), (11, .bool _)]) ⟨Weak.rfl, Weak.rfl, Weak.rfl, Weak.rfl, Weak.rfl, Weak.rfl, Weak.rfl, Weak.rfl, Weak.rfl, trivial⟩) ?_
        refine a_region ?_
        refine r_val (v := .bool _) (v_assign (.inl rfl) (noOwn_flat rfl)) rfl rfl (by decide) ?_
        refine r_nil ?_
        refine a_ret ?_
        refine ret1 Try.results5 (by decide) (by decide) (Weak.of_eq (bool_eq ?_)) rfl Leaves.nil
        first | rfl | (exfalso; simp at ht51; done) | (exfalso; simp at ht51; omega)
      ·
        skip
        refine a_skip ?_
        refine a_seq ?_
        refine a_seq ?_
        refine a_pre (ent_look (L := [(1, .sl _ _), (2, .op [.int _ _, .sl _ _]), (4, .bool _), (6, .osl _ _ _ _), (7, .bool _), (8, .op [.int _ _, .osl _ _ _ _]), (9, .osl _ _ _ _), (10, .osl _ _ _ _), (11, .bool _)]) ⟨Weak.rfl, Weak.rfl, Weak.rfl, Weak.rfl, Weak.rfl, Weak.rfl, Weak.rfl, Weak.rfl, Weak.rfl, trivial⟩) ?_
        refine a_region_any mixed (by kernel_rfl) ?_
        refine y_val (v := .agg [.int _ _, .rsl _ _ _ _ _]) (v_load_rpa (xs := [.int _ _, .osl _ _ _ _]) ta29 (.inl rfl) rfl rfl (fun _ => take_get rfl)) rfl rfl (by decide) (by kernel_rfl) ?_
        refine y_val (v := .agg [.int _ _, .sl _ _]) (v_load_rpa1 ta24 (.inl rfl) rfl rfl (fun _ => rfl) rfl) rfl rfl (by decide) (by kernel_rfl) ?_
        refine y_new (v := .agg [.int _ _, .osl _ _ _ _]) (q_call (vs := [.agg [.int _ _, .sl _ _]]) (args := [.agg [.int .i64 _, .sl _ _]]) hb16 ⟨.inl rfl, trivial⟩ rfl (fun hA => toCnf_c _ _ (by omega) (by omega)) (by simp [noSh, noShL, osls_noSh]) (by simp [noRef, noRefL, osls_noRef])) rfl rfl (by decide) (by kernel_rfl) ?_
        refine y_new (v := .bool _) (q_call (vs := [.agg [.int _ _, .rsl _ _ _ _ _], .agg [.int _ _, .rsl _ _ _ _ _]]) (args := [.agg [.int .i64 _, .sl _ _], .agg [.int .i64 _, .sl _ _]]) hb19 ⟨.inl rfl, .inl rfl, trivial⟩ (l2_eq (agg_eq (l2_eq rfl sl_osls)) (agg_eq (l2_eq rfl sl_osls))) (fun hA => eqCnf_c _ _ _ _ (by omega) (by omega) (fun i => by first | (have := hrl i; omega) | (have := hll i; omega))) rfl rfl) rfl rfl (by decide) (by kernel_rfl) ?_
        refine y_val (v := .bool _) (v_not (.inl rfl)) rfl rfl (by decide) (by kernel_rfl) ?_
        refine y_nil ?_
        refine a_cond rfl (fun ht56 => ?_) (fun ht56 => ?_)
        ·
          skip
          refine a_seq ?_
          refine a_pre (ent_look (L := [(1, .sl _ _), (2, .op [.int _ _, .sl _ _]), (4, .bool _), (6, .osl _ _ _ _), (7, .bool _), (8, .op [.int _ _, .osl _ _ _ _]), (9, .osl _ _ _ _), (10, .osl _ _ _ _), (11, .bool _)]) ⟨Weak.rfl, Weak.rfl, Weak.rfl, Weak.rfl, Weak.rfl, Weak.rfl, Weak.rfl, Weak.rfl, Weak.rfl, trivial⟩) ?_
          refine a_region ?_
          refine r_val (v := .bool _) (v_assign (.inl rfl) (noOwn_flat rfl)) rfl rfl (by decide) ?_
          refine r_nil ?_
          refine a_ret ?_
          refine ret1 Try.results5 (by decide) (by decide) (Weak.of_eq (bool_eq ?_)) rfl Leaves.nil
          first | rfl | (exfalso; simp at ht56; done) | (exfalso; simp at ht56; omega)
        ·
          skip
          refine a_skip ?_
          refine a_seq ?_
          refine a_seq ?_
          refine a_pre (ent_look (L := [(1, .sl _ _), (2, .op [.int _ _, .sl _ _]), (4, .bool _), (6, .osl _ _ _ _), (7, .bool _), (8, .op [.int _ _, .osl _ _ _ _]), (9, .osl _ _ _ _), (10, .osl _ _ _ _), (11, .bool _)]) ⟨Weak.rfl, Weak.rfl, Weak.rfl, Weak.rfl, Weak.rfl, Weak.rfl, Weak.rfl, Weak.rfl, Weak.rfl, trivial⟩) ?_
          refine a_region ?_
          refine r_val (v := .rsl _ _ _ _ _) (v_move (.inl rfl) (noOwn_flat rfl)) rfl rfl (by decide) ?_
          refine r_val (v := .sl _ _) (v_move (.inl rfl) (noOwn_flat rfl)) rfl rfl (by decide) ?_
          refine r_new (v := .osl _ _ _ _) (q_call (vs := [.sl _ _]) (args := [.sl _ _]) hb17 ⟨.inl rfl, trivial⟩ rfl (fun hA => toIntS_c _ (by omega)) (ic_noSh _) (ic_noRef _)) rfl rfl (by decide) ?_
          refine r_new (v := .bool _) (q_call (vs := [.rsl _ _ _ _ _, .rsl _ _ _ _ _]) (args := [.sl _ _, .sl _ _]) hb20 ⟨.inl rfl, .inl rfl, trivial⟩ (l2_eq (sl_sh (ic_pure _)) (sl_sh (ic_pure _))) (fun hA => eqIntS_c _ _ (by omega)) rfl rfl) rfl rfl (by decide) ?_
          refine r_val (v := .bool _) (v_not (.inl rfl)) rfl rfl (by decide) ?_
          refine r_nil ?_
          refine a_cond rfl (fun ht61 => ?_) (fun ht61 => ?_)
          ·
            skip
            refine a_seq ?_
            refine a_pre (ent_look (L := [(1, .sl _ _), (2, .op [.int _ _, .sl _ _]), (4, .bool _), (6, .osl _ _ _ _), (7, .bool _), (8, .op [.int _ _, .osl _ _ _ _]), (9, .osl _ _ _ _), (10, .osl _ _ _ _), (11, .bool _)]) ⟨Weak.rfl, Weak.rfl, Weak.rfl, Weak.rfl, Weak.rfl, Weak.rfl, Weak.rfl, Weak.rfl, Weak.rfl, trivial⟩) ?_
            refine a_region ?_
            refine r_val (v := .bool _) (v_assign (.inl rfl) (noOwn_flat rfl)) rfl rfl (by decide) ?_
            refine r_nil ?_
            refine a_ret ?_
            refine ret1 Try.results5 (by decide) (by decide) (Weak.of_eq (bool_eq ?_)) rfl Leaves.nil
            first | rfl | (exfalso; simp at ht61; done) | (exfalso; simp at ht61; omega)
          ·
            skip
            refine a_skip ?_
            refine a_seq ?_
            refine a_pre (ent_look (L := [(1, .sl _ _), (2, .op [.int _ _, .sl _ _]), (4, .bool _), (6, .osl _ _ _ _), (7, .bool _), (8, .op [.int _ _, .osl _ _ _ _]), (9, .osl _ _ _ _), (10, .osl _ _ _ _), (11, .bool _)]) ⟨Weak.rfl, Weak.rfl, Weak.rfl, Weak.rfl, Weak.rfl, Weak.rfl, Weak.rfl, Weak.rfl, Weak.rfl, trivial⟩) ?_
            refine a_region ?_
            refine r_val (v := .int _ _) (v_assign (.inl rfl) (noOwn_flat rfl)) rfl rfl (by decide) ?_
            refine r_nil ?_
            refine a_seq ?_
            refine a_region ?_
            refine r_val (v := .agg [.int _ _, .rsl _ _ _ _ _]) (v_load_rpa (xs := [.int _ _, .osl _ _ _ _]) ta29 (.inl rfl) rfl rfl (fun _ => take_get rfl)) rfl rfl (by decide) ?_
            refine r_val (v := .int _ _) (v_move (.inl rfl) (noOwn_flat rfl)) rfl rfl (by decide) ?_
            refine r_step rfl (o_callIO (q := (8, [1])) (vs := [.agg [.int _ _, .rsl _ _ _ _ _], .int _ _]) (args := [.agg [.int .i64 _, .rsl (INH, []) _ _ _ _], .int .i64 _]) (x0 := .osl _ _ _ _) (x1 := .osl _ _ _ _) (res := .int _ _) rfl hb23 rfl (by decide) ⟨.inl rfl, .inl rfl, trivial⟩ rfl rfl (markCnf_c _ _ _ (by omega) (by omega) (by omega)) rfl rfl rfl (osls_noSh _) (osls_noRef _) (Nat.le_of_ble_eq_true rfl) (by decide) rfl) ?_
            refine r_val (v := .int _ _) (v_assign (.inl rfl) (noOwn_flat rfl)) rfl rfl (by decide) ?_
            refine r_nil ?_
            refine a_seq ?_
            refine a_pre (ent_look (L := [(1, .sl _ _), (2, .op [.int _ _, .sl _ _]), (4, .bool _), (6, .osl _ _ _ _), (7, .bool _), (9, .osl _ _ _ _), (10, .osl _ _ _ _), (11, .bool _), (12, .int _ _)]) ⟨Weak.rfl, Weak.rfl, Weak.rfl, Weak.rfl, Weak.rfl, Weak.rfl, Weak.rfl, Weak.rfl, Weak.rfl, trivial⟩) ?_
            refine a_region ?_
            refine r_val (v := .rsl _ _ _ _ _) (v_move (.inl rfl) (noOwn_flat rfl)) rfl rfl (by decide) ?_
            refine r_val (v := .int _ _) (v_move (.inl rfl) (noOwn_flat rfl)) rfl rfl (by decide) ?_
            refine r_step rfl (o_callIO (q := (9, [])) (vs := [.rsl _ _ _ _ _, .int _ _]) (args := [.rsl (INH, []) _ _ _ _, .int .i64 _]) (x0 := .osl _ _ _ _) (x1 := .osl _ _ _ _) (res := .int _ _) rfl hb24 rfl (by decide) ⟨.inl rfl, .inl rfl, trivial⟩ rfl rfl (markIntS_c _ _ (by omega)) rfl rfl rfl (ic_noSh _) (ic_noRef _) (Nat.le_of_ble_eq_true rfl) (by decide) rfl) ?_
            refine r_val (v := .int _ _) (v_assign (.inl rfl) (noOwn_flat rfl)) rfl rfl (by decide) ?_
            refine r_nil ?_
            refine a_seq ?_
            refine a_seq ?_
            refine a_region ?_
            refine r_val (v := .int _ _) (v_move (.inl rfl) (noOwn_flat rfl)) rfl rfl (by decide) ?_
            refine r_val (v := .bool _) (v_lss (.inl rfl) (.inl rfl)) rfl rfl (by decide) ?_
            refine r_val (v := .bool _) (v_move (.inl rfl) (noOwn_flat rfl)) rfl rfl (by decide) ?_
            refine r_gval (v := .rsl _ _ _ _ _) (v_move (.inl rfl) (noOwn_flat rfl)) rfl rfl rfl (by decide) (.inl ⟨_, rfl, rfl⟩) rfl (by decide) ?_
            refine r_gval (v := .rsl _ _ _ _ _) (v_move (.inl rfl) (noOwn_flat rfl)) rfl rfl rfl (by decide) (.inl ⟨_, rfl, rfl⟩) rfl (by decide) ?_
            refine r_guard (v := .bool _) (q_call (vs := [.rsl _ _ _ _ _, .rsl _ _ _ _ _]) (args := [.sl _ _, .sl _ _]) hb28 ⟨.inr ⟨_, rfl, fun h => h⟩, .inr ⟨_, rfl, fun h => h⟩, trivial⟩ (l2_eq (sl_sh (tc_pure _)) (sl_sh (tc_pure _))) (fun hA => eqIntA2S_c _ _ (by omega)) rfl rfl) rfl rfl rfl (by decide) (.inl ⟨_, rfl, rfl⟩) rfl (by decide) ?_
            refine r_gval (v := .bool _) (v_not (.inr ⟨_, rfl, fun h => h⟩)) rfl rfl rfl (by decide) (.inl ⟨_, rfl, rfl⟩) rfl (by decide) ?_
            refine r_val (v := .bool _) (v_pick (.inl rfl) (.inl rfl) (.inr ⟨_, rfl, fun h h2 => by simp_all⟩)) rfl rfl (by decide) ?_
            refine r_val (v := .bool _) (v_move (.inl rfl) (noOwn_flat rfl)) rfl rfl (by decide) ?_
            refine r_gval (v := .bool _) (v_move (.inl rfl) (noOwn_flat rfl)) rfl rfl rfl (by decide) (.inl ⟨_, rfl, rfl⟩) rfl (by decide) ?_
            refine r_gval (v := .bool _) (v_move (.inl rfl) (noOwn_flat rfl)) rfl rfl rfl (by decide) (.inl ⟨_, rfl, rfl⟩) rfl (by decide) ?_
            refine r_gval (v := .bool _) (v_bne un4 (.inr ⟨_, rfl, fun h => h⟩) (.inr ⟨_, rfl, fun h => h⟩)) rfl rfl rfl (by decide) (.inl ⟨_, rfl, rfl⟩) rfl (by decide) ?_
            refine r_val (v := .bool _) (v_pick (.inl rfl) (.inl rfl) (.inr ⟨_, rfl, fun h h2 => by simp_all⟩)) rfl rfl (by decide) ?_
            refine r_nil ?_
            refine a_cond rfl (fun ht80 => ?_) (fun ht80 => ?_)
            ·
              skip
              refine a_seq ?_
              refine a_pre (ent_look (L := [(1, .sl _ _), (2, .op [.int _ _, .sl _ _]), (4, .bool _), (6, .osl _ _ _ _), (7, .bool _), (10, .osl _ _ _ _)]) ⟨Weak.rfl, Weak.rfl, Weak.rfl, Weak.rfl, Weak.rfl, Weak.rfl, trivial⟩) ?_
              refine a_region ?_
              refine r_val (v := .bool _) (v_assign (.inl rfl) (noOwn_flat rfl)) rfl rfl (by decide) ?_
              refine r_nil ?_
              refine a_ret ?_
              refine ret1 Try.results5 (by decide) (by decide) (Weak.of_eq (bool_eq ?_)) rfl Leaves.nil
              first | rfl | (exfalso; simp at ht80; done) | (exfalso; simp at ht80; omega)
            ·
              skip
              refine a_skip ?_
              refine a_seq ?_
              refine a_pre (ent_look (L := [(1, .sl _ _), (2, .op [.int _ _, .sl _ _]), (4, .bool _), (6, .osl _ _ _ _), (7, .bool _), (10, .osl _ _ _ _)]) ⟨Weak.rfl, Weak.rfl, Weak.rfl, Weak.rfl, Weak.rfl, Weak.rfl, trivial⟩) ?_
              refine a_region ?_
              refine r_val (v := .int _ _) (v_assign (.inl rfl) (noOwn_flat rfl)) rfl rfl (by decide) ?_
              refine r_nil ?_
              refine a_seq ?_
              refine a_region ?_
              refine r_val (v := .rsl _ _ _ _ _) (v_move (.inl rfl) (noOwn_flat rfl)) rfl rfl (by decide) ?_
              refine r_val (v := .int _ _) (v_move (.inl rfl) (noOwn_flat rfl)) rfl rfl (by decide) ?_
              refine r_step rfl (o_callIO (q := (10, [])) (vs := [.rsl _ _ _ _ _, .int _ _]) (args := [.rsl (INH, []) _ _ _ _, .int .i64 _]) (x0 := .osl _ _ _ _) (x1 := .osl _ _ _ _) (res := .int _ _) rfl hb29 rfl (by decide) ⟨.inl rfl, .inl rfl, trivial⟩ rfl rfl (markA2_c _ _ (by omega)) rfl rfl rfl (ic_noSh _) (ic_noRef _) (Nat.le_of_ble_eq_true rfl) (by decide) rfl) ?_
              refine r_val (v := .int _ _) (v_assign (.inl rfl) (noOwn_flat rfl)) rfl rfl (by decide) ?_
              refine r_nil ?_
              refine a_seq ?_
              refine a_region ?_
              refine r_val (v := .int _ _) (v_assign (.inl rfl) (noOwn_flat rfl)) rfl rfl (by decide) ?_
              refine r_nil ?_
              refine a_seq ?_
              refine a_region ?_
              refine r_val (v := .rsl _ _ _ _ _) (v_move (.inl rfl) (noOwn_flat rfl)) rfl rfl (by decide) ?_
              refine r_val (v := .int _ _) (v_move (.inl rfl) (noOwn_flat rfl)) rfl rfl (by decide) ?_
              refine r_new (v := .int _ _) (q_call (vs := [.rsl _ _ _ _ _, .int _ _]) (args := [.sl _ _, .int .i64 _]) hb30 ⟨.inl rfl, .inl rfl, trivial⟩ (l2_eq (sl_sh (ic_pure _)) rfl) (fun hA => heldA2_c _ _ (by omega)) rfl rfl) rfl rfl (by decide) ?_
              refine r_val (v := .int _ _) (v_assign (.inl rfl) (noOwn_flat rfl)) rfl rfl (by decide) ?_
              refine r_nil ?_
              refine a_seq ?_
              refine a_seq ?_
              refine a_pre (ent_look (L := [(1, .sl _ _), (2, .op [.int _ _, .sl _ _]), (4, .bool _), (6, .osl _ _ _ _), (7, .bool _), (10, .osl _ _ _ _), (13, .int _ _), (14, .int _ _)]) ⟨Weak.rfl, Weak.rfl, Weak.rfl, Weak.rfl, Weak.rfl, Weak.rfl, Weak.rfl, Weak.rfl, trivial⟩) ?_
              refine a_region ?_
              refine r_val (v := .int _ _) (v_move (.inl rfl) (noOwn_flat rfl)) rfl rfl (by decide) ?_
              refine r_val (v := .bool _) (v_lss (.inl rfl) (.inl rfl)) rfl rfl (by decide) ?_
              refine r_nil ?_
              refine a_cond rfl (fun ht88 => ?_) (fun ht88 => ?_)
              ·
                skip
                refine a_seq ?_
                refine a_region ?_
                refine r_val (v := .bool _) (v_assign (.inl rfl) (noOwn_flat rfl)) rfl rfl (by decide) ?_
                refine r_nil ?_
                refine a_ret ?_
                refine ret1 Try.results5 (by decide) (by decide) (Weak.of_eq (bool_eq ?_)) rfl Leaves.nil
                first | rfl | (exfalso; simp at ht88; done) | (exfalso; simp at ht88; omega)
              ·
                skip
                refine a_skip ?_
                refine a_seq ?_
                refine a_seq ?_
                refine a_region ?_
                refine r_val (v := .int _ _) (v_move (.inl rfl) (noOwn_flat rfl)) rfl rfl (by decide) ?_
                refine r_val (v := .int _ _) (v_move (.inl rfl) (noOwn_flat rfl)) rfl rfl (by decide) ?_
                refine r_val (v := .bool _) (v_neq (.inl rfl) (.inl rfl)) rfl rfl (by decide) ?_
                refine r_nil ?_
                refine a_cond rfl (fun ht91 => ?_) (fun ht91 => ?_)
                ·
                  skip
                  refine a_seq ?_
                  refine a_region ?_
                  refine r_val (v := .bool _) (v_assign (.inl rfl) (noOwn_flat rfl)) rfl rfl (by decide) ?_
                  refine r_nil ?_
                  refine a_ret ?_
                  refine ret1 Try.results5 (by decide) (by decide) (Weak.of_eq (bool_eq ?_)) rfl Leaves.nil
                  first | rfl | (exfalso; simp at ht91; done) | (exfalso; simp at ht91; omega)
                ·
                  skip
                  refine a_skip ?_
                  refine a_seq ?_
                  refine a_region ?_
                  refine r_val (v := .agg [.int _ _, .sl _ _]) (v_load_rpa1 ta24 (.inl rfl) rfl rfl (fun _ => rfl) rfl) rfl rfl (by decide) ?_
                  refine r_new (v := .agg [.int _ _, .osl _ _ _ _]) (q_call (vs := [.agg [.int _ _, .sl _ _]]) (args := [.agg [.int .i64 _, .sl _ _]]) hb16 ⟨.inl rfl, trivial⟩ rfl (fun hA => toCnf_c _ _ (by omega) (by omega)) (by simp [noSh, noShL, osls_noSh]) (by simp [noRef, noRefL, osls_noRef])) rfl rfl (by decide) ?_
                  refine r_val (v := .sl _ _) (v_move (.inl rfl) (noOwn_flat rfl)) rfl rfl (by decide) ?_
                  refine r_new (v := .osl _ _ _ _) (q_call (vs := [.sl _ _]) (args := [.sl _ _]) hb17 ⟨.inl rfl, trivial⟩ rfl (fun hA => toIntS_c _ (by omega)) (ic_noSh _) (ic_noRef _)) rfl rfl (by decide) ?_
                  refine r_new (v := .tup [.osl _ _ _ _, .bool _]) (q_call (vs := [.agg [.int _ _, .rsl _ _ _ _ _], .rsl _ _ _ _ _]) (args := [.agg [.int .i64 _, .sl _ _], .sl _ _]) hb27 ⟨.inl rfl, .inl rfl, trivial⟩ (l2_eq (agg_eq (l2_eq rfl sl_osls)) (sl_sh (ic_pure _))) (fun hA => iPst_c _ _ _ hk (by omega) hb) (by simp [noSh, noShL, ic_noSh, tc_noSh]) (by simp [noRef, noRefL, ic_noRef, tc_noRef])) rfl rfl (by decide) ?_
                  refine r_val (v := .tup [.rsl _ _ _ _ _, .bool _]) (v_mv rfl) rfl rfl (by decide) ?_
                  refine r_val (v := .rsl _ _ _ _ _) (v_extract rfl rfl) rfl rfl (by decide) ?_
                  refine r_val (v := .bool _) (v_extract rfl rfl) rfl rfl (by decide) ?_
                  refine r_val (v := .rsl _ _ _ _ _) (v_assign (.inl rfl) (noOwn_flat rfl)) rfl rfl (by decide) ?_
                  refine r_pre (ent_reloc_sl (t := 15) rfl rfl) ?_
                  refine r_val (v := .bool _) (v_assign (.inl rfl) (noOwn_flat rfl)) rfl rfl (by decide) ?_
                  refine r_nil ?_
                  refine a_seq ?_
                  refine a_seq ?_
                  refine a_pre (ent_look (L := [(4, .bool _), (6, .osl _ _ _ _), (7, .bool _), (10, .osl _ _ _ _), (13, .int _ _), (14, .int _ _), (15, .osl _ _ _ _), (16, .bool _)]) ⟨Weak.rfl, Weak.rfl, Weak.rfl, Weak.rfl, Weak.rfl, Weak.rfl, Weak.rfl, Weak.rfl, trivial⟩) ?_
                  refine a_region ?_
                  refine r_val (v := .rsl _ _ _ _ _) (v_move (.inl rfl) (noOwn_flat rfl)) rfl rfl (by decide) ?_
                  refine r_val (v := .rsl _ _ _ _ _) (v_move (.inl rfl) (noOwn_flat rfl)) rfl rfl (by decide) ?_
                  refine r_new (v := .bool _) (q_call (vs := [.rsl _ _ _ _ _, .rsl _ _ _ _ _]) (args := [.sl _ _, .sl _ _]) hb28 ⟨.inl rfl, .inl rfl, trivial⟩ (l2_eq (sl_sh (tc_pure _)) (sl_sh (tc_pure _))) (fun hA => eqIntA2S_c _ _ (by omega)) rfl rfl) rfl rfl (by decide) ?_
                  refine r_val (v := .bool _) (v_not (.inl rfl)) rfl rfl (by decide) ?_
                  refine r_val (v := .bool _) (v_move (.inl rfl) (noOwn_flat rfl)) rfl rfl (by decide) ?_
                  refine r_gval (v := .bool _) (v_move (.inl rfl) (noOwn_flat rfl)) rfl rfl rfl (by decide) (.inl ⟨_, rfl, rfl⟩) rfl (by decide) ?_
                  refine r_gval (v := .bool _) (v_move (.inl rfl) (noOwn_flat rfl)) rfl rfl rfl (by decide) (.inl ⟨_, rfl, rfl⟩) rfl (by decide) ?_
                  refine r_gval (v := .bool _) (v_bne un4 (.inr ⟨_, rfl, fun h => h⟩) (.inr ⟨_, rfl, fun h => h⟩)) rfl rfl rfl (by decide) (.inl ⟨_, rfl, rfl⟩) rfl (by decide) ?_
                  refine r_val (v := .bool _) (v_pick (.inl rfl) (.inl rfl) (.inr ⟨_, rfl, fun h h2 => by simp_all⟩)) rfl rfl (by decide) ?_
                  refine r_nil ?_
                  refine a_cond rfl (fun ht108 => ?_) (fun ht108 => ?_)
                  ·
                    skip
                    refine a_seq ?_
                    refine a_pre (ent_look (L := [(4, .bool _), (10, .osl _ _ _ _), (13, .int _ _), (14, .int _ _)]) ⟨Weak.rfl, Weak.rfl, Weak.rfl, Weak.rfl, trivial⟩) ?_
                    refine a_region ?_
                    refine r_val (v := .bool _) (v_assign (.inl rfl) (noOwn_flat rfl)) rfl rfl (by decide) ?_
                    refine r_nil ?_
                    refine a_ret ?_
                    refine ret1 Try.results5 (by decide) (by decide) (Weak.of_eq (bool_eq ?_)) rfl Leaves.nil
                    first | rfl | (exfalso; simp at ht108; done) | (exfalso; simp at ht108; omega)
                  ·
                    skip
                    refine a_skip ?_
                    refine a_seq ?_
                    refine a_pre (ent_look (L := [(4, .bool _), (10, .osl _ _ _ _), (13, .int _ _), (14, .int _ _)]) ⟨Weak.rfl, Weak.rfl, Weak.rfl, Weak.rfl, trivial⟩) ?_
                    refine a_region ?_
                    refine r_val (v := .int _ _) (v_assign (.inl rfl) (noOwn_flat rfl)) rfl rfl (by decide) ?_
                    refine r_nil ?_
                    refine a_seq ?_
                    refine a_region ?_
                    refine r_val (v := .rsl _ _ _ _ _) (v_move (.inl rfl) (noOwn_flat rfl)) rfl rfl (by decide) ?_
                    refine r_val (v := .int _ _) (v_move (.inl rfl) (noOwn_flat rfl)) rfl rfl (by decide) ?_
                    refine r_new (v := .int _ _) (q_call (vs := [.rsl _ _ _ _ _, .int _ _]) (args := [.sl _ _, .int .i64 _]) hb30 ⟨.inl rfl, .inl rfl, trivial⟩ (l2_eq (sl_sh (ic_pure _)) rfl) (fun hA => heldA2_c _ _ (by omega)) rfl rfl) rfl rfl (by decide) ?_
                    refine r_val (v := .int _ _) (v_assign (.inl rfl) (noOwn_flat rfl)) rfl rfl (by decide) ?_
                    refine r_nil ?_
                    refine a_seq ?_
                    refine a_seq ?_
                    refine a_region ?_
                    refine r_val (v := .int _ _) (v_move (.inl rfl) (noOwn_flat rfl)) rfl rfl (by decide) ?_
                    refine r_val (v := .bool _) (v_lss (.inl rfl) (.inl rfl)) rfl rfl (by decide) ?_
                    refine r_nil ?_
                    refine a_cond rfl (fun ht113 => ?_) (fun ht113 => ?_)
                    ·
                      skip
                      refine a_seq ?_
                      refine a_region ?_
                      refine r_val (v := .bool _) (v_assign (.inl rfl) (noOwn_flat rfl)) rfl rfl (by decide) ?_
                      refine r_nil ?_
                      refine a_ret ?_
                      refine ret1 Try.results5 (by decide) (by decide) (Weak.of_eq (bool_eq ?_)) rfl Leaves.nil
                      first | rfl | (exfalso; simp at ht113; done) | (exfalso; simp at ht113; omega)
                    ·
                      skip
                      refine a_skip ?_
                      refine a_seq ?_
                      refine a_seq ?_
                      refine a_region ?_
                      refine r_val (v := .int _ _) (v_move (.inl rfl) (noOwn_flat rfl)) rfl rfl (by decide) ?_
                      refine r_val (v := .int _ _) (v_move (.inl rfl) (noOwn_flat rfl)) rfl rfl (by decide) ?_
                      refine r_val (v := .bool _) (v_neq (.inl rfl) (.inl rfl)) rfl rfl (by decide) ?_
                      refine r_nil ?_
                      refine a_cond rfl (fun ht116 => ?_) (fun ht116 => ?_)
                      ·
                        skip
                        refine a_seq ?_
                        refine a_pre (ent_look (L := [(4, .bool _)]) ⟨Weak.rfl, trivial⟩) ?_
                        refine a_region ?_
                        refine r_val (v := .bool _) (v_assign (.inl rfl) (noOwn_flat rfl)) rfl rfl (by decide) ?_
                        refine r_nil ?_
                        refine a_ret ?_
                        refine ret1 Try.results5 (by decide) (by decide) (Weak.of_eq (bool_eq ?_)) rfl Leaves.nil
                        first | rfl | (exfalso; simp at ht116; done) | (exfalso; simp at ht116; omega)
                      ·
                        skip
                        refine a_skip ?_
                        refine a_seq ?_
                        refine a_pre (ent_look (L := [(4, .bool _)]) ⟨Weak.rfl, trivial⟩) ?_
                        refine a_region ?_
                        refine r_val (v := .bool _) (v_assign (.inl rfl) (noOwn_flat rfl)) rfl rfl (by decide) ?_
                        refine r_nil ?_
                        refine a_ret ?_
                        refine ret1 Try.results5 (by decide) (by decide) (Weak.of_eq (bool_eq ?_)) rfl Leaves.nil
                        first | rfl | (exfalso; simp at ht116; done) | (exfalso; simp at ht116; omega)
end Go.Av
namespace Go.Av
open Go
theorem bd64 {n : Int} (h : (Lit.int .i64 n).wf = true) : -9223372036854775808 ≤ n ∧ n ≤ 9223372036854775807 := bounds_i64 h
theorem len64 {n : Nat} (h : n ≤ maxLen) : (n : Int) ≤ 9223372036854775807 := by unfold maxLen at h; omega
theorem icells_flat (xs : List Int) : xs.flatMap (fun n => [AV.int .i64 n]) = icells xs := by
  induction xs with
  | nil => rfl
  | cons x xs ih => rw [List.flatMap_cons, ih]; rfl
end Go.Av
namespace Go.Av
open Go
theorem sls_flat (L : List (List Int)) : L.flatMap (fun c => [AV.sl (icells c) c.length]) = sls L := by
  induction L with
  | nil => rfl
  | cons c L ih => rw [List.flatMap_cons, ih]; rfl
theorem cnf_hyp {L : List (List Int)} (h : L.length ≤ maxLen ∧ ∀ y ∈ L, (y.length ≤ maxLen ∧ ∀ z ∈ y, (Lit.int .i64 z).wf = true ∧ ([AV.int .i64 z]).length = 1) ∧ ([AV.sl (y.flatMap fun z => [AV.int .i64 z]) y.length]).length = 1) :
    (∀ i, ((gl L i).length : Int) ≤ 9223372036854775807) ∧ (L.length : Int) ≤ 9223372036854775807 ∧ ∀ i j, -9223372036854775808 ≤ gd (gl L i) j ∧ gd (gl L i) j ≤ 9223372036854775807 := by
  refine ⟨fun i => ?_, len64 h.1, fun i => ?_⟩
  · rcases Nat.lt_or_ge i L.length with hi | hi
    · exact len64 (h.2 _ (gl_mem hi)).1.1
    · rw [gl_out hi]; simp
  · rcases Nat.lt_or_ge i L.length with hi | hi
    · exact gd_bd fun x hx => bd64 ((h.2 _ (gl_mem hi)).1.2 x hx).1
    · intro j; rw [gl_out hi]; simp [gd]
end Go.Av
namespace Go.Av
open Go Go.Proofs Go.Proofs.Ytjnfagmhjjedoaa
set_option maxRecDepth 100000
theorem arg24 : OpensV Try.prog 24 (fun x : (Int) × (List (List (Int))) => .agg (([AV.int .i64 x.1] ++ [AV.sl (x.2.flatMap fun y2 => [AV.sl (y2.flatMap fun y1 => [AV.int .i64 y1]) y2.length]) x.2.length]))) (fun x => (((Lit.int .i64 x.1).wf = true) ∧ ((x.2.length ≤ maxLen ∧ ∀ y2 ∈ x.2, (y2.length ≤ maxLen ∧ ∀ y1 ∈ y2, (Lit.int .i64 y1).wf = true ∧ ([AV.int .i64 y1]).length = 1) ∧ ([AV.sl (y2.flatMap fun y1 => [AV.int .i64 y1]) y2.length]).length = 1)))) :=
  opensV_agg (ok_agg (by rw [Try.underlying24])) (opens_struct Try.underlying24 (tot := (1 + 1)) (by kernel_rfl) (opensFs_cons rfl (by kernel_rfl) (opens_int Try.underlying3) (opensFs_one rfl (by kernel_rfl) (opens_slice (k := 1) Try.underlying22 (by kernel_rfl) (by decide) (opens_slice (k := 1) Try.underlying25 (by kernel_rfl) (by decide) (opens_int Try.underlying3) (fun _ => rfl)) (fun _ => rfl)))))
theorem arg25 : OpensV Try.prog 25 (fun x : List (Int) => AV.sl (x.flatMap fun y3 => [AV.int .i64 y3]) x.length) (fun x => (x.length ≤ maxLen ∧ ∀ y3 ∈ x, (Lit.int .i64 y3).wf = true ∧ ([AV.int .i64 y3]).length = 1)) :=
  opensV_one (ok_scalar (by rw [Try.underlying25])) (opens_slice (k := 1) Try.underlying25 (by kernel_rfl) (by decide) (opens_int Try.underlying3) (fun _ => rfl)) (fun _ => rfl)
theorem rowOwn : ownKnob Try.prog.godebug = none := by kernel_rfl
theorem rowLaid : laidOutB Try.prog = true := by kernel_rfl
end Go.Av
