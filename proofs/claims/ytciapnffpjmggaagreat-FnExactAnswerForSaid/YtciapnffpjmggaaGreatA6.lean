/- Lemmas, part 6. -/
import Derived.Test.YtciapnffpjmggaaGreatA5
import Derived.Test.YtciapnffpjmggaaGreatRows
set_option linter.unusedVariables false
set_option linter.unusedSimpArgs false
namespace Go.Av
open Go Go.Proofs Go.Sort
set_option maxRecDepth 10000
theorem hb35 : hasBody Tryz.prog 35 = true := by kernel_rfl
theorem hb36 : hasBody Tryz.prog 36 = true := by kernel_rfl
theorem hb48 : hasBody Tryz.prog 48 = true := by kernel_rfl
theorem hb69 : hasBody Tryz.prog 69 = true := by kernel_rfl
theorem hb79 : hasBody Tryz.prog 79 = true := by kernel_rfl
theorem cmpF_c (f : Nat) (hb : hasBody Tryz.prog f = true) (cf : Int → Int → Int) (hc : ∀ x y, ACall Tryz.prog f [.int .i64 x, .int .i64 y] [] (.int .i64 (cf x y)) []) (a b : List Int) (hla : a.length ≤ 1048576) (hlb : b.length ≤ 1048576) : ACall Tryz.prog 79 [.sl (icells a) a.length, .sl (icells b) b.length, .fn f [] []] [] (.int .i64 (cmpF cf a b)) [] := by
 refine ACall.intro Tryz.func79 rfl (N := 39) rfl (by decide) (by simp) ?_
 refine a_seq ?_
 refine a_region ?_
 refine rv (v := .int _ _) (v_assign (.inl rfl) nf) ?_
 refine r_nil ?_
 refine a_seq ?_
 refine a_seq ?_
 refine a_region ?_
 refine rv (v := .sl _ _) (v_move (.inl rfl) nf) ?_
 refine rv (v := .int _ _) (v_len_sl sl25 (.inl rfl)) ?_
 refine rv (v := .int _ _) (v_move (.inl rfl) nf) ?_
 refine r_nil ?_
 refine a_block ?_
 refine a_loop (X := Nat) (fun i => look [(0, .sl (icells a) a.length), (1, .sl (icells b) b.length), (2, .fn f [] []), (11, .sl (icells a) a.length), (12, .int .i64 ((a.length : Nat) : Int)), (13, .int .i64 ((i : Nat) : Int))]) (fun i => i ≤ a.length ∧ i ≤ b.length ∧ cmpF cf (a.drop i) (b.drop i) = cmpF cf a b) (fun i => a.length - i) 0 (ent_look ⟨Weak.of_eq rfl, Weak.of_eq rfl, Weak.of_eq rfl, Weak.of_eq rfl, Weak.of_eq rfl, Weak.of_eq rfl, trivial⟩) ⟨Nat.zero_le _, Nat.zero_le _, rfl⟩ (fun i hG => ?_)
 obtain ⟨g1, g2, g3⟩ := hG
 refine a_seq ?_
 refine a_region ?_
 refine rv (v := .bool _) (v_lss (.inl rfl) (.inl rfl)) ?_
 refine r_nil ?_
 refine a_seq ?_
 refine a_cond rfl (fun ht14 => ?_) (fun ht14 => ?_)
 ·
  skip
  refine a_skip ?_
  refine a_seq ?_
  refine a_block ?_
  refine a_seq ?_
  have hi : i < a.length := (by simp at ht14; omega)
  refine a_region ?_
  refine rv (v := .int _ _) (v_move (.inl rfl) nf) ?_
  refine rv (v := .pp _ _) (v_indexAddr_sl es25 (.inl rfl) (.inl rfl) (fun _ => ⟨by omega, by omega, icells_ne hi⟩)) ?_
  refine rv (v := .int .i64 (gd a i)) (v_load_pp ta3 (.inl rfl) (fun _ => by rw [Nat.mul_one]; exact icells_get (gd_get hi)) rfl) ?_
  refine rv (v := .int _ _) (v_assign (.inl rfl) nf) ?_
  refine rv (v := .int _ _) (v_assign (.inl rfl) nf) ?_
  refine r_nil ?_
  refine a_seq ?_
  refine a_seq ?_
  refine a_region ?_
  refine rv (v := .int _ _) (v_move (.inl rfl) nf) ?_
  refine rv (v := .sl _ _) (v_move (.inl rfl) nf) ?_
  refine rv (v := .int _ _) (v_len_sl sl25 (.inl rfl)) ?_
  refine rv (v := .bool _) (v_geq (.inl rfl) (.inl rfl)) ?_
  refine r_nil ?_
  refine a_cond rfl (fun ht21 => ?_) (fun ht21 => ?_)
  ·
   skip
   refine a_seq ?_
   refine a_region ?_
   refine rv (v := .int _ _) (v_assign (.inl rfl) nf) ?_
   refine r_nil ?_
   refine a_ret ?_
   refine ret1 Tryz.results79 (by decide) (by decide) (Weak.of_eq (int_eq ?_)) rfl Leaves.nil
   rw [← g3, cmpF_nilr hi (by simp at ht21; omega)]
  ·
   skip
   refine a_skip ?_
   refine a_seq ?_
   have hib : i < b.length := (by simp at ht21; omega)
   refine a_region ?_
   refine rv (v := .sl _ _) (v_move (.inl rfl) nf) ?_
   refine rv (v := .int _ _) (v_move (.inl rfl) nf) ?_
   refine rv (v := .pp _ _) (v_indexAddr_sl es25 (.inl rfl) (.inl rfl) (fun _ => ⟨by omega, by omega, icells_ne hib⟩)) ?_
   refine rv (v := .int .i64 (gd b i)) (v_load_pp ta3 (.inl rfl) (fun _ => by rw [Nat.mul_one]; exact icells_get (gd_get hib)) rfl) ?_
   refine rv (v := .int _ _) (v_assign (.inl rfl) nf) ?_
   refine r_nil ?_
   refine a_seq ?_
   refine a_region ?_
   refine rv (v := .fn _ _ _) (v_mv rfl) ?_
   refine rv (v := .int _ _) (v_move (.inl rfl) nf) ?_
   refine rv (v := .int _ _) (v_move (.inl rfl) nf) ?_
   refine rn (v := .int _ _) (q_clo (vs := [.int _ _, .int _ _]) (args := [.int .i64 _, .int .i64 _]) hb (.inl rfl) ⟨.inl rfl, .inl rfl, trivial⟩ rfl (fun hA => hc _ _) rfl rfl) ?_
   refine rv (v := .int _ _) (v_assign (.inl rfl) nf) ?_
   refine r_nil ?_
   refine a_seq ?_
   refine a_region ?_
   refine rv (v := .int _ _) (v_move (.inl rfl) nf) ?_
   refine rv (v := .bool _) (v_neq (.inl rfl) (.inl rfl)) ?_
   refine r_nil ?_
   refine a_cond rfl (fun ht31 => ?_) (fun ht31 => ?_)
   ·
    skip
    refine a_seq ?_
    refine a_region ?_
    refine rv (v := .int _ _) (v_move (.inl rfl) nf) ?_
    refine rv (v := .int _ _) (v_assign (.inl rfl) nf) ?_
    refine r_nil ?_
    refine a_ret ?_
    refine ret1 Tryz.results79 (by decide) (by decide) (Weak.of_eq (int_eq ?_)) rfl Leaves.nil
    rw [← g3, cmpF_more hi hib, if_pos (by simpa using ht31)]
   ·
    skip
    refine a_skip ?_
    refine a_region ?_
    refine rv (v := .int _ _) (v_add (.inl rfl) (.inl rfl) (fun _ => by omega)) ?_
    refine rv (v := .int _ _) (v_move (.inl rfl) nf) ?_
    refine r_nil ?_
    refine ⟨i + 1, ent_look ⟨Weak.of_eq rfl, Weak.of_eq rfl, Weak.of_eq rfl, Weak.of_eq rfl, Weak.of_eq rfl, Weak.of_eq (int_eq (by omega)), trivial⟩, ⟨by omega, by omega, by rw [← g3, cmpF_more hi hib, if_neg (by simpa using ht31)]⟩, by omega⟩
 ·
  skip
  refine a_exit ?_
  refine a_seq ?_
  refine a_seq ?_
  refine a_region ?_
  refine rv (v := .sl _ _) (v_move (.inl rfl) nf) ?_
  refine rv (v := .int _ _) (v_len_sl sl25 (.inl rfl)) ?_
  refine rv (v := .sl _ _) (v_move (.inl rfl) nf) ?_
  refine rv (v := .int _ _) (v_len_sl sl25 (.inl rfl)) ?_
  refine rv (v := .bool _) (v_lss (.inl rfl) (.inl rfl)) ?_
  refine r_nil ?_
  refine a_cond rfl (fun ht38 => ?_) (fun ht38 => ?_)
  ·
   skip
   refine a_seq ?_
   refine a_region ?_
   refine rv (v := .int _ _) (v_assign (.inl rfl) nf) ?_
   refine r_nil ?_
   refine a_ret ?_
   refine ret1 Tryz.results79 (by decide) (by decide) (Weak.of_eq (int_eq ?_)) rfl Leaves.nil
   have hie : i = a.length := (by simp at ht14; omega); rw [← g3, hie, cmpF_end (by omega), if_pos (by simp at ht38; omega)]
  ·
   skip
   refine a_skip ?_
   refine a_seq ?_
   refine a_region ?_
   refine rv (v := .int _ _) (v_assign (.inl rfl) nf) ?_
   refine r_nil ?_
   refine a_ret ?_
   refine ret1 Tryz.results79 (by decide) (by decide) (Weak.of_eq (int_eq ?_)) rfl Leaves.nil
   have hie : i = a.length := (by simp at ht14; omega); rw [← g3, hie, cmpF_end (by omega), if_neg (by simp at ht38; omega)]
theorem cC_c (a b : List Int) (hla : a.length ≤ 1048576) (hlb : b.length ≤ 1048576) : ACall Tryz.prog 54 [.sl (icells a) a.length, .sl (icells b) b.length] [] (.int .i64 (cC a b)) [] := by
 refine ACall.intro Tryz.func54 rfl (N := 15) rfl (by decide) (by simp) ?_
 refine a_seq ?_
 refine a_region ?_
 refine rv (v := .int _ _) (v_assign (.inl rfl) nf) ?_
 refine r_nil ?_
 refine a_seq ?_
 refine a_region ?_
 refine rv (v := .sl _ _) (v_move (.inl rfl) nf) ?_
 refine rv (v := .int _ _) (v_len_sl sl25 (.inl rfl)) ?_
 refine rv (v := .sl _ _) (v_move (.inl rfl) nf) ?_
 refine rv (v := .int _ _) (v_len_sl sl25 (.inl rfl)) ?_
 refine rn (v := .int _ _) (q_call (vs := [.int _ _, .int _ _]) (args := [.int .i64 _, .int .i64 _]) hb78 ⟨.inl rfl, .inl rfl, trivial⟩ rfl (fun hA => cmp_c _ _) rfl rfl) ?_
 refine rv (v := .sl _ _) (v_move (.inl rfl) nf) ?_
 refine rv (v := .sl _ _) (v_move (.inl rfl) nf) ?_
 refine rn (v := .int _ _) (q_call (vs := [.sl _ _, .sl _ _, .fn _ _ _]) (args := [.sl _ _, .sl _ _, .fn _ _ _]) hb79 ⟨.inl rfl, .inl rfl, .inl rfl, trivial⟩ rfl (fun hA => cmpF_c 80 hb80 cfLit cmpLit_c a b hla hlb) rfl rfl) ?_
 refine rn (v := .osl 1 (icells [cmpI (a.length : Int) (b.length : Int), cmpF cfLit a b]) 2 (some 2)) (q_sliceLit (n := 2) (parts := [(0, .tmp 9), (1, .tmp 12)]) lt25 rfl rfl rfl rfl) ?_
 refine rn (v := .int _ _) (q_call (vs := [.rsl _ _ _ _ _]) (args := [.sl _ _]) hb77 ⟨.inl rfl, trivial⟩ (l1_eq (sl_sh (ic_pure _))) (fun hA => or_c [cmpI (a.length : Int) (b.length : Int), cmpF cfLit a b] (by simp)) rfl rfl) ?_
 refine rv (v := .int _ _) (v_assign (.inl rfl) nf) ?_
 refine r_nil ?_
 refine a_ret ?_
 refine ret1 Tryz.results54 (by decide) (by decide) (Weak.of_eq (int_eq ?_)) rfl Leaves.nil
 rfl
theorem bef2_c (a b : List Int) (hla : a.length ≤ 1048576) (hlb : b.length ≤ 1048576) (hsa : ∀ x ∈ a, -1000000 ≤ x ∧ x ≤ 1000000) (hsb : ∀ x ∈ b, -1000000 ≤ x ∧ x ≤ 1000000) : ACall Tryz.prog 48 [.sl (icells a) a.length, .sl (icells b) b.length] [] (.bool (bfL a b)) [] := by
 refine ACall.intro Tryz.func48 rfl (N := 42) rfl (by decide) (by simp) ?_
 refine a_seq ?_
 refine a_region ?_
 refine rv (v := .bool _) (v_assign (.inl rfl) nf) ?_
 refine r_nil ?_
 refine a_seq ?_
 refine a_seq ?_
 refine a_region ?_
 refine rv (v := .sl _ _) (v_move (.inl rfl) nf) ?_
 refine rv (v := .int _ _) (v_len_sl sl25 (.inl rfl)) ?_
 refine rv (v := .sl _ _) (v_move (.inl rfl) nf) ?_
 refine rv (v := .int _ _) (v_len_sl sl25 (.inl rfl)) ?_
 refine rv (v := .bool _) (v_neq (.inl rfl) (.inl rfl)) ?_
 refine r_nil ?_
 refine a_cond rfl (fun ht10 => ?_) (fun ht10 => ?_)
 ·
  skip
  refine a_seq ?_
  refine a_region ?_
  refine rv (v := .sl _ _) (v_move (.inl rfl) nf) ?_
  refine rv (v := .int _ _) (v_len_sl sl25 (.inl rfl)) ?_
  refine rv (v := .sl _ _) (v_move (.inl rfl) nf) ?_
  refine rv (v := .int _ _) (v_len_sl sl25 (.inl rfl)) ?_
  refine rv (v := .bool _) (v_lss (.inl rfl) (.inl rfl)) ?_
  refine rv (v := .bool _) (v_assign (.inl rfl) nf) ?_
  refine r_nil ?_
  refine a_ret ?_
  refine ret1 Tryz.results48 (by decide) (by decide) (Weak.of_eq (bool_eq ?_)) rfl Leaves.nil
  unfold bfL; rw [if_neg (by simp at ht10; omega)]; exact decide_eq_decide.2 (by omega)
 ·
  skip
  refine a_skip ?_
  refine a_seq ?_
  refine a_seq ?_
  refine a_region ?_
  refine rv (v := .int _ _) (v_assign (.inl rfl) nf) ?_
  refine r_nil ?_
  refine a_block ?_
  refine a_loop (X := Nat) (fun i => look [(0, .sl (icells a) a.length), (1, .sl (icells b) b.length), (5, .int .i64 ((i : Nat) : Int))]) (fun i => i ≤ a.length ∧ a.length = b.length ∧ lexB (a.drop i) (b.drop i) = lexB a b) (fun i => a.length - i) 0 (ent_look ⟨Weak.of_eq rfl, Weak.of_eq rfl, Weak.of_eq rfl, trivial⟩) ⟨Nat.zero_le _, by simp at ht10; omega, rfl⟩ (fun i hG => ?_)
  obtain ⟨g1, g2, g3⟩ := hG
  refine a_seq ?_
  refine a_seq ?_
  refine a_region ?_
  refine rv (v := .int _ _) (v_move (.inl rfl) nf) ?_
  refine rv (v := .sl _ _) (v_move (.inl rfl) nf) ?_
  refine rv (v := .int _ _) (v_len_sl sl25 (.inl rfl)) ?_
  refine rv (v := .bool _) (v_lss (.inl rfl) (.inl rfl)) ?_
  refine r_nil ?_
  refine a_cond rfl (fun ht19 => ?_) (fun ht19 => ?_)
  ·
   skip
   refine a_skip ?_
   refine a_seq ?_
   refine a_block ?_
   refine a_seq ?_
   have hi : i < a.length := (by simp at ht19; omega)
   have hib : i < b.length := (by omega)
   have hxa := hsa _ (gd_mem hi)
   have hxb := hsb _ (gd_mem hib)
   refine a_region_any mixed (by kernel_rfl) ?_
   refine yv (v := .sl _ _) (v_move (.inl rfl) nf) ?_
   refine yv (v := .int _ _) (v_move (.inl rfl) nf) ?_
   refine yv (v := .pp _ _) (v_indexAddr_sl es25 (.inl rfl) (.inl rfl) (fun _ => ⟨by omega, by omega, icells_ne hi⟩)) ?_
   refine yv (v := .int .i64 (gd a i)) (v_load_pp ta3 (.inl rfl) (fun _ => by rw [Nat.mul_one]; exact icells_get (gd_get hi)) rfl) ?_
   refine yv (v := .sl _ _) (v_move (.inl rfl) nf) ?_
   refine yv (v := .int _ _) (v_move (.inl rfl) nf) ?_
   refine yv (v := .pp _ _) (v_indexAddr_sl es25 (.inl rfl) (.inl rfl) (fun _ => ⟨by omega, by omega, icells_ne hib⟩)) ?_
   refine yv (v := .int .i64 (gd b i)) (v_load_pp ta3 (.inl rfl) (fun _ => by rw [Nat.mul_one]; exact icells_get (gd_get hib)) rfl) ?_
   refine yv (v := .bool _) (v_neq (.inl rfl) (.inl rfl)) ?_
   refine y_nil ?_
   refine a_cond rfl (fun ht30 => ?_) (fun ht30 => ?_)
   ·
    skip
    refine a_seq ?_
    refine a_region_any mixed (by kernel_rfl) ?_
    refine yv (v := .sl _ _) (v_move (.inl rfl) nf) ?_
    refine yv (v := .int _ _) (v_move (.inl rfl) nf) ?_
    refine yv (v := .pp _ _) (v_indexAddr_sl es25 (.inl rfl) (.inl rfl) (fun _ => ⟨by omega, by omega, icells_ne hi⟩)) ?_
    refine yv (v := .int .i64 (gd a i)) (v_load_pp ta3 (.inl rfl) (fun _ => by rw [Nat.mul_one]; exact icells_get (gd_get hi)) rfl) ?_
    refine y_new (v := .int _ _) (q_call (vs := [.int _ _]) (args := [.int .i64 _]) hb69 ⟨.inl rfl, trivial⟩ rfl (fun hA => key2_c _ (by omega)) rfl rfl) rfl rfl (by decide) (by kernel_rfl) ?_
    refine yv (v := .sl _ _) (v_move (.inl rfl) nf) ?_
    refine yv (v := .int _ _) (v_move (.inl rfl) nf) ?_
    refine yv (v := .pp _ _) (v_indexAddr_sl es25 (.inl rfl) (.inl rfl) (fun _ => ⟨by omega, by omega, icells_ne hib⟩)) ?_
    refine yv (v := .int .i64 (gd b i)) (v_load_pp ta3 (.inl rfl) (fun _ => by rw [Nat.mul_one]; exact icells_get (gd_get hib)) rfl) ?_
    refine y_new (v := .int _ _) (q_call (vs := [.int _ _]) (args := [.int .i64 _]) hb69 ⟨.inl rfl, trivial⟩ rfl (fun hA => key2_c _ (by omega)) rfl rfl) rfl rfl (by decide) (by kernel_rfl) ?_
    refine yv (v := .bool _) (v_lss (.inl rfl) (.inl rfl)) ?_
    refine yv (v := .bool _) (v_assign (.inl rfl) nf) ?_
    refine y_nil ?_
    refine a_ret ?_
    refine ret1 Tryz.results48 (by decide) (by decide) (Weak.of_eq (bool_eq ?_)) rfl Leaves.nil
    unfold bfL; rw [if_pos g2, ← g3, lexB_more hi hib, if_neg (by simpa using ht30)]
   ·
    skip
    refine a_skip ?_
    refine a_region ?_
    refine rv (v := .int _ _) (v_move (.inl rfl) nf) ?_
    refine rv (v := .int _ _) (v_add (.inl rfl) (.inl rfl) (fun _ => by omega)) ?_
    refine rv (v := .int _ _) (v_assign (.inl rfl) nf) ?_
    refine r_nil ?_
    refine ⟨i + 1, ent_look ⟨Weak.of_eq rfl, Weak.of_eq rfl, Weak.of_eq (int_eq (by omega)), trivial⟩, ⟨by omega, g2, by rw [← g3, lexB_more hi hib, if_pos (by simpa using ht30)]⟩, by omega⟩
  ·
   skip
   refine a_exit ?_
   refine a_seq ?_
   refine a_region ?_
   refine rv (v := .bool _) (v_assign (.inl rfl) nf) ?_
   refine r_nil ?_
   refine a_ret ?_
   refine ret1 Tryz.results48 (by decide) (by decide) (Weak.of_eq (bool_eq ?_)) rfl Leaves.nil
   have hie : i = a.length := (by simp at ht19; omega); unfold bfL; rw [if_pos g2, ← g3, hie, lexB_end]
theorem plc_c (vars : Int) (M : List (List Int)) (c : List Int) (hMl : M.length ≤ 1048576) (hM : AllA vars M) (has : ascM M) (hca : clB vars c = true) : ACall Tryz.prog 35 [.sl (sls M) M.length, .sl (icells c) c.length] [] (.int .i64 (((plc M c) : Nat) : Int)) [] := by
 have hlc := clB_len hca
 refine ACall.intro Tryz.func35 rfl (N := 27) rfl (by decide) (by simp) ?_
 refine a_seq ?_
 refine a_region ?_
 refine rv (v := .int _ _) (v_assign (.inl rfl) nf) ?_
 refine r_nil ?_
 refine a_seq ?_
 refine a_region ?_
 refine rv (v := .sl _ _) (v_move (.inl rfl) nf) ?_
 refine rv (v := .int _ _) (v_len_sl sl22 (.inl rfl)) ?_
 refine rv (v := .int _ _) (v_assign (.inl rfl) nf) ?_
 refine rv (v := .int _ _) (v_assign (.inl rfl) nf) ?_
 refine r_nil ?_
 refine a_seq ?_
 refine a_block ?_
 refine a_loop (X := (Nat × Nat)) (fun x => look [(0, .sl (sls M) M.length), (1, .sl (icells c) c.length), (5, .int .i64 ((x.1 : Nat) : Int)), (6, .int .i64 ((x.2 : Nat) : Int))]) (fun x => x.1 ≤ x.2 ∧ x.2 ≤ M.length ∧ (∀ j, j < x.1 → bfL (gl M j) c = true) ∧ ∀ j, x.2 ≤ j → j < M.length → bfL (gl M j) c = false) (fun x => x.2 - x.1) (0, M.length) (ent_look ⟨Weak.of_eq rfl, Weak.of_eq rfl, Weak.of_eq rfl, Weak.of_eq rfl, trivial⟩) ⟨Nat.zero_le _, Nat.le_refl _, fun j h => by omega, fun j h1 h2 => by omega⟩ (fun x hG => ?_)
 obtain ⟨g1, g2, g3, g4⟩ := hG
 refine a_seq ?_
 refine a_seq ?_
 refine a_region ?_
 refine rv (v := .int _ _) (v_move (.inl rfl) nf) ?_
 refine rv (v := .int _ _) (v_move (.inl rfl) nf) ?_
 refine rv (v := .bool _) (v_lss (.inl rfl) (.inl rfl)) ?_
 refine r_nil ?_
 refine a_cond rfl (fun ht12 => ?_) (fun ht12 => ?_)
 ·
  skip
  refine a_skip ?_
  refine a_block ?_
  refine a_seq ?_
  have hxx : x.1 < x.2 := (by simp at ht12; omega)
  have hml : ((x.1 + x.2) / 2) < M.length := (by omega)
  have hmm := hM _ hml
  have hmc := clB_len hmm
  refine a_region ?_
  refine rv (v := .int _ _) (v_move (.inl rfl) nf) ?_
  refine rv (v := .int _ _) (v_move (.inl rfl) nf) ?_
  refine rv (v := .int _ _) (v_add (.inl rfl) (.inl rfl) (fun _ => by omega)) ?_
  refine rv (v := .int .i64 ((((x.1 + x.2) / 2) : Nat) : Int)) ((v_quo (.inl rfl) (.inl rfl) (fun _ => by omega)).cast (int_eq (by omega))) ?_
  refine rv (v := .int _ _) (v_assign (.inl rfl) nf) ?_
  refine r_nil ?_
  refine a_seq ?_
  refine a_region ?_
  refine rv (v := .sl _ _) (v_move (.inl rfl) nf) ?_
  refine rv (v := .int _ _) (v_move (.inl rfl) nf) ?_
  refine rv (v := .pp _ _) (v_indexAddr_sl es22 (.inl rfl) (.inl rfl) (fun _ => ⟨by omega, by omega, sls_ne hml⟩)) ?_
  refine rv (v := .sl (icells (gl M ((x.1 + x.2) / 2))) (gl M ((x.1 + x.2) / 2)).length) (v_load_pp ta25 (.inl rfl) (fun _ => by rw [Nat.mul_one]; exact sls_get hml) rfl) ?_
  refine rv (v := .sl _ _) (v_move (.inl rfl) nf) ?_
  refine rn (v := .bool _) (q_call (vs := [.sl _ _, .sl _ _]) (args := [.sl _ _, .sl _ _]) hb48 ⟨.inl rfl, .inl rfl, trivial⟩ rfl (fun hA => bef2_c (gl M ((x.1 + x.2) / 2)) c (by omega) (by omega) (cl_sm6 hmm) (cl_sm6 hca)) rfl rfl) ?_
  refine r_nil ?_
  refine a_cond rfl (fun ht22 => ?_) (fun ht22 => ?_)
  ·
   skip
   refine a_region ?_
   refine rv (v := .int _ _) (v_move (.inl rfl) nf) ?_
   refine rv (v := .int _ _) (v_add (.inl rfl) (.inl rfl) (fun _ => by omega)) ?_
   refine rv (v := .int _ _) (v_assign (.inl rfl) nf) ?_
   refine r_nil ?_
   refine ⟨(((x.1 + x.2) / 2) + 1, x.2), ent_look ⟨Weak.of_eq rfl, Weak.of_eq rfl, Weak.of_eq (int_eq (by omega)), Weak.of_eq (int_eq (by omega)), trivial⟩, ⟨by dsimp only; omega, g2, asc_low has hml ht22, g4⟩, by dsimp only; omega⟩
  ·
   skip
   refine a_region ?_
   refine rv (v := .int _ _) (v_move (.inl rfl) nf) ?_
   refine rv (v := .int _ _) (v_assign (.inl rfl) nf) ?_
   refine r_nil ?_
   refine ⟨(x.1, ((x.1 + x.2) / 2)), ent_look ⟨Weak.of_eq rfl, Weak.of_eq rfl, Weak.of_eq (int_eq (by omega)), Weak.of_eq (int_eq (by omega)), trivial⟩, ⟨by dsimp only; omega, by dsimp only; omega, g3, asc_high has ht22⟩, by dsimp only; omega⟩
 ·
  skip
  refine a_exit ?_
  refine a_seq ?_
  refine a_region ?_
  refine rv (v := .int _ _) (v_move (.inl rfl) nf) ?_
  refine rv (v := .int _ _) (v_assign (.inl rfl) nf) ?_
  refine r_nil ?_
  refine a_ret ?_
  refine ret1 Tryz.results35 (by decide) (by decide) (Weak.of_eq (int_eq ?_)) rfl Leaves.nil
  have hxx : x.1 = x.2 := (by simp at ht12; omega); rw [plc_eq (k := x.1) (by omega) g3 (fun j h1 h2 => g4 j (by omega) h2)]
theorem at2_c (vars : Int) (M : List (List Int)) (c : List Int) (hMl : M.length ≤ 1048576) (hM : AllA vars M) (has : ascM M) (hca : clB vars c = true) : ACall Tryz.prog 22 [.sl (sls M) M.length, .sl (icells c) c.length] [] (.int .i64 (atL M c)) [] := by
 have hlc := clB_len hca
 have hpl := plc_le M c
 refine ACall.intro Tryz.func22 rfl (N := 22) rfl (by decide) (by simp) ?_
 refine a_seq ?_
 refine a_region ?_
 refine rv (v := .int _ _) (v_assign (.inl rfl) nf) ?_
 refine r_nil ?_
 refine a_seq ?_
 refine a_region ?_
 refine rv (v := .sl _ _) (v_move (.inl rfl) nf) ?_
 refine rv (v := .sl _ _) (v_move (.inl rfl) nf) ?_
 refine rn (v := .int _ _) (q_call (vs := [.sl _ _, .sl _ _]) (args := [.sl _ _, .sl _ _]) hb35 ⟨.inl rfl, .inl rfl, trivial⟩ rfl (fun hA => plc_c vars M c hMl hM has hca) rfl rfl) ?_
 refine rv (v := .int _ _) (v_assign (.inl rfl) nf) ?_
 refine r_nil ?_
 refine a_seq ?_
 refine a_seq ?_
 refine a_region ?_
 refine rv (v := .int _ _) (v_move (.inl rfl) nf) ?_
 refine rv (v := .sl _ _) (v_move (.inl rfl) nf) ?_
 refine rv (v := .int _ _) (v_len_sl sl22 (.inl rfl)) ?_
 refine rv (v := .bool _) (v_lss (.inl rfl) (.inl rfl)) ?_
 refine rv (v := .bool _) (v_move (.inl rfl) nf) ?_
 refine r_gval (v := .sl _ _) (v_move (.inl rfl) nf) rfl rfl rfl (by decide) (.inl ⟨_, rfl, rfl⟩) rfl (by decide) ?_
 refine r_gval (v := .int _ _) (v_move (.inl rfl) nf) rfl rfl rfl (by decide) (.inl ⟨_, rfl, rfl⟩) rfl (by decide) ?_
 refine r_gval (v := .pp _ _) (v_indexAddr_sl es22 (.inr ⟨_, rfl, fun h => h⟩) (.inr ⟨_, rfl, fun h => h⟩) (fun hA => by have h9 : plc M c < M.length := (by simpa using hA); exact ⟨by omega, by omega, sls_ne h9⟩)) rfl rfl rfl (by decide) (.inl ⟨_, rfl, rfl⟩) rfl (by decide) ?_
 refine r_gval (v := .sl (icells (gl M (plc M c))) (gl M (plc M c)).length) (v_load_pp ta25 (.inr ⟨_, rfl, fun h => h⟩) (fun hA => by rw [Nat.mul_one]; exact sls_get (by simpa using hA)) rfl) rfl rfl rfl (by decide) (.inl ⟨_, rfl, rfl⟩) rfl (by decide) ?_
 refine r_gval (v := .sl _ _) (v_move (.inl rfl) nf) rfl rfl rfl (by decide) (.inl ⟨_, rfl, rfl⟩) rfl (by decide) ?_
 refine r_guard (v := .bool _) (q_call (vs := [.sl _ _, .sl _ _]) (args := [.sl _ _, .sl _ _]) hb36 ⟨.inr ⟨_, rfl, fun h => h⟩, .inr ⟨_, rfl, fun h => h⟩, trivial⟩ rfl (fun hA => same_c (gl M (plc M c)) c (by have := clB_len (hM _ (show plc M c < M.length by simpa using hA)); omega) (by omega)) rfl rfl) rfl rfl rfl (by decide) (.inl ⟨_, rfl, rfl⟩) rfl (by decide) ?_
 refine rv (v := .bool _) (v_pick (.inl rfl) (.inr ⟨_, rfl, fun h h2 => by simp_all⟩) (.inl rfl)) ?_
 refine r_nil ?_
 refine a_cond rfl (fun ht20 => ?_) (fun ht20 => ?_)
 ·
  skip
  refine a_seq ?_
  refine a_region ?_
  refine rv (v := .int _ _) (v_move (.inl rfl) nf) ?_
  refine rv (v := .int _ _) (v_assign (.inl rfl) nf) ?_
  refine r_nil ?_
  refine a_ret ?_
  refine ret1 Tryz.results22 (by decide) (by decide) (Weak.of_eq (int_eq ?_)) rfl Leaves.nil
  unfold atL; rw [if_pos (by simpa using ht20)]
 ·
  skip
  refine a_skip ?_
  refine a_seq ?_
  refine a_region ?_
  refine rv (v := .int _ _) (v_assign (.inl rfl) nf) ?_
  refine r_nil ?_
  refine a_ret ?_
  refine ret1 Tryz.results22 (by decide) (by decide) (Weak.of_eq (int_eq ?_)) rfl Leaves.nil
  unfold atL; rw [if_neg (by simpa using ht20)]
end Go.Av
namespace Go.Av
open Go Go.Proofs Go.Sort
set_option maxRecDepth 10000
end Go.Av
namespace Go.Av
open Go Go.Proofs Go.Sort
set_option maxRecDepth 10000
theorem hb90 : hasBody Tryz.prog 90 = true := by kernel_rfl
theorem delI_c (xs : List Int) (n i : Nat) (hl : xs.length = n ∧ n ≤ 1048576) (hi : i < n) : ACall Tryz.prog 90 [.rsl (INH, []) 1 0 n none, .int .i64 ((i : Nat) : Int), .int .i64 ((i + 1 : Nat) : Int)] [.osl 1 (icells xs) n none] (.osl 1 (icells (xs.eraseIdx i)) (n - 1) none) [.undef] := by
  obtain ⟨hl1, hl2⟩ := hl
  have hmv := setL_move (c := xs) (i := i) (by omega)
  rw [hl1] at hmv
  have hei : (xs.eraseIdx i).length = n - 1 := (by rw [List.length_eraseIdx_of_lt (by omega)]; omega)
  refine ACall.intro Tryz.func90 rfl (N := 33) rfl (by decide) (by simp) ?_
  refine a_seq ?_
  refine a_region ?_
  refine rv (v := .nils) (v_assign (.inl rfl) nf) ?_
  refine r_nil ?_
  refine a_seq ?_
  refine a_region ?_
  refine rv (v := .rsl _ _ _ _ _) (v_move (.inl rfl) nf) ?_
  refine rv (v := .int _ _) (v_move (.inl rfl) nf) ?_
  refine rv (v := .int _ _) (v_move (.inl rfl) nf) ?_
  refine rv (v := .rsl _ _ _ _ _) (v_move (.inl rfl) nf) ?_
  refine rv (v := .int _ _) (v_len_rsl sl25 (.inl rfl)) ?_
  refine rv (v := .undef) (v_slice3 (l := i) (h := i + 1) (m := n) es25 (.inl rfl) (.inl rfl) (.inl rfl) (.inl rfl) (fun _ => by omega)) ?_
  refine r_nil ?_
  refine a_seq ?_
  refine a_seq ?_
  refine a_region ?_
  refine rv (v := .int _ _) (v_move (.inl rfl) nf) ?_
  refine rv (v := .int _ _) (v_move (.inl rfl) nf) ?_
  refine rv (v := .bool _) (v_eql (.inl rfl) (.inl rfl)) ?_
  refine r_nil ?_
  refine a_cond rfl (fun ht16 => ?_) (fun ht16 => ?_)
  ·
    skip
    exfalso
    simp at ht16; omega
  ·
    skip
    refine a_skip ?_
    refine a_seq ?_
    refine a_region ?_
    refine rv (v := .rsl _ _ _ _ _) (v_move (.inl rfl) nf) ?_
    refine rv (v := .int _ _) (v_len_rsl sl25 (.inl rfl)) ?_
    refine rv (v := .int _ _) (v_assign (.inl rfl) nf) ?_
    refine r_nil ?_
    refine a_seq ?_
    rcases (by omega : i + 1 < n ∨ n = i + 1) with hcs | hcs
    ·
      skip
      refine a_region_z (n := 6) [[(20, true)], [(21, true)], [(22, true)], [(23, true)], [(24, true)], [(25, true)]] mixed (by kernel_rfl) ?_
      refine z_val (v := .rsl _ _ _ _ _) (v_move (.inl rfl) nf) rfl rfl (by decide) rfl (by kernel_rfl) ?_
      refine z_val (v := .int _ _) (v_move (.inl rfl) nf) rfl rfl (by decide) rfl (by kernel_rfl) ?_
      refine z_val (v := .rsl (INH, []) 1 0 i none) ((v_slice_rsl (l := 0) (h := i) es25 (.inl rfl) (.inl ⟨rfl, rfl⟩) (.inr ⟨_, _, rfl, .inl rfl⟩) (fun _ => by omega)).cast (rfl)) rfl rfl (by decide) rfl (by kernel_rfl) ?_
      refine z_val (v := .rsl _ _ _ _ _) (v_move (.inl rfl) nf) rfl rfl (by decide) rfl (by kernel_rfl) ?_
      refine z_val (v := .int _ _) (v_move (.inl rfl) nf) rfl rfl (by decide) rfl (by kernel_rfl) ?_
      refine z_val (v := .rsl _ _ _ _ _) (v_slice_rsl (l := i + 1) (h := n) es25 (.inl rfl) (.inr ⟨_, _, rfl, .inl rfl⟩) (.inl ⟨rfl, rfl⟩) (fun _ => by omega)) rfl rfl (by decide) rfl (by kernel_rfl) ?_
      refine z_nil ?_
      refine r_step rfl (o_app_self (i := i) (off := 0 + (i + 1) * 1) (m := n - (i + 1)) (M := n) rfl ap25 rfl (by decide) (by decide) (by decide) (by decide) (by decide) rfl (.inl ⟨_, .inl rfl, by omega⟩) rfl rfl (ic_pureL _) (ic_cell _) (by rw [icells_length]; omega) rfl) ?_
      refine r_pre (ent_eq (t := INH) (v' := .osl 1 (icells (xs.eraseIdx i ++ [gd xs (n - 1)])) n none) (Weak.osl (by rw [Nat.zero_add, Nat.mul_one]; exact hmv) rfl)) ?_
      refine rv (v := .rsl _ _ _ _ _) (v_assign (.inl rfl) nf) ?_
      refine r_nil ?_
      refine a_seq ?_
      refine a_region ?_
      refine rv (v := .rsl _ _ _ _ _) (v_move (.inl rfl) nf) ?_
      refine rv (v := .rsl _ _ _ _ _) (v_move (.inl rfl) nf) ?_
      refine rv (v := .int .i64 ((n - 1 : Nat) : Int)) ((v_len_rsl sl25 (.inl rfl)).cast (int_eq (by omega))) ?_
      refine rv (v := .int _ _) (v_move (.inl rfl) nf) ?_
      refine rv (v := .rsl _ _ _ _ _) (v_slice_over (l := n - 1) (h := n) es25 (.inl rfl) (.inr ⟨_, _, rfl, .inl rfl⟩) (.inr ⟨_, _, rfl, .inl rfl⟩) rfl (by decide) (fun _ => by omega)) ?_
      refine r_step rfl (o_clear rfl rfl us25 zc3 rfl (.inl rfl) rfl (by rw [icells_length, List.length_append, hei]; simp; omega) rfl rfl) ?_
      refine r_nil ?_
      refine a_seq ?_
      refine a_pre (ent_eq (t := INH) (v' := .osl 1 (icells (xs.eraseIdx i) ++ [.int .i64 0]) n none) (Weak.osl (by have h9 := clear_last (xs.eraseIdx i) (gd xs (n - 1)) (n - 1) hei; rw [show 0 + (n - 1) * 1 = n - 1 by omega, show n - (n - 1) = 1 by omega]; exact h9) rfl)) ?_
      refine a_region ?_
      refine rv (v := .rsl _ _ _ _ _) (v_move (.inl rfl) nf) ?_
      refine rv (v := .rsl _ _ _ _ _) (v_assign (.inl rfl) nf) ?_
      refine r_nil ?_
      refine a_pre (ent_reloc_sl (t := 6) rfl rfl) ?_
      refine a_ret ?_
      refine ret1 Tryz.results90 (by decide) (by decide) (Weak.osl_take (ds := [.int .i64 0]) ?_ ?_) rfl (Leaves.one Weak.undef rfl)
      · rfl
      · omega
    ·
      skip
      refine a_region_z (n := 6) [[(20, true)], [(21, true)], [(22, true)], [(23, true)], [(24, true)], [(25, true)]] mixed (by kernel_rfl) ?_
      refine z_val (v := .rsl _ _ _ _ _) (v_move (.inl rfl) nf) rfl rfl (by decide) rfl (by kernel_rfl) ?_
      refine z_val (v := .int _ _) (v_move (.inl rfl) nf) rfl rfl (by decide) rfl (by kernel_rfl) ?_
      refine z_val (v := .rsl (INH, []) 1 0 i none) ((v_slice_rsl (l := 0) (h := i) es25 (.inl rfl) (.inl ⟨rfl, rfl⟩) (.inr ⟨_, _, rfl, .inl rfl⟩) (fun _ => by omega)).cast (rfl)) rfl rfl (by decide) rfl (by kernel_rfl) ?_
      refine z_val (v := .rsl _ _ _ _ _) (v_move (.inl rfl) nf) rfl rfl (by decide) rfl (by kernel_rfl) ?_
      refine z_val (v := .int _ _) (v_move (.inl rfl) nf) rfl rfl (by decide) rfl (by kernel_rfl) ?_
      refine z_val (v := .sl _ _) (v_slice_end (l := i + 1) (h := n) es25 (.inl rfl) (.inr ⟨_, _, rfl, .inl rfl⟩) (.inl ⟨rfl, rfl⟩) (fun _ => by omega)) rfl rfl (by decide) rfl (by kernel_rfl) ?_
      refine z_nil ?_
      refine r_step rfl (o_app_self (i := i) (off := 0) (m := 0) (M := n) rfl ap25 rfl (by decide) (by decide) (by decide) (by decide) (by decide) rfl (.inr ⟨.inl rfl, rfl⟩) rfl rfl (ic_pureL _) (ic_cell _) (by rw [icells_length]; omega) rfl) ?_
      refine r_pre (ent_eq (t := INH) (v' := .osl 1 (icells (xs.eraseIdx i ++ [gd xs (n - 1)])) n none) (Weak.osl (by rw [← hmv, show n - (i + 1) = 0 by omega, List.take_zero, List.take_zero]) rfl)) ?_
      refine rv (v := .rsl _ _ _ _ _) (v_assign (.inl rfl) nf) ?_
      refine r_nil ?_
      refine a_seq ?_
      refine a_region ?_
      refine rv (v := .rsl _ _ _ _ _) (v_move (.inl rfl) nf) ?_
      refine rv (v := .rsl _ _ _ _ _) (v_move (.inl rfl) nf) ?_
      refine rv (v := .int .i64 ((n - 1 : Nat) : Int)) ((v_len_rsl sl25 (.inl rfl)).cast (int_eq (by omega))) ?_
      refine rv (v := .int _ _) (v_move (.inl rfl) nf) ?_
      refine rv (v := .rsl _ _ _ _ _) (v_slice_over (l := n - 1) (h := n) es25 (.inl rfl) (.inr ⟨_, _, rfl, .inl rfl⟩) (.inr ⟨_, _, rfl, .inl rfl⟩) rfl (by decide) (fun _ => by omega)) ?_
      refine r_step rfl (o_clear rfl rfl us25 zc3 rfl (.inl rfl) rfl (by rw [icells_length, List.length_append, hei]; simp; omega) rfl rfl) ?_
      refine r_nil ?_
      refine a_seq ?_
      refine a_pre (ent_eq (t := INH) (v' := .osl 1 (icells (xs.eraseIdx i) ++ [.int .i64 0]) n none) (Weak.osl (by have h9 := clear_last (xs.eraseIdx i) (gd xs (n - 1)) (n - 1) hei; rw [show 0 + (n - 1) * 1 = n - 1 by omega, show n - (n - 1) = 1 by omega]; exact h9) rfl)) ?_
      refine a_region ?_
      refine rv (v := .rsl _ _ _ _ _) (v_move (.inl rfl) nf) ?_
      refine rv (v := .rsl _ _ _ _ _) (v_assign (.inl rfl) nf) ?_
      refine r_nil ?_
      refine a_pre (ent_reloc_sl (t := 6) rfl rfl) ?_
      refine a_ret ?_
      refine ret1 Tryz.results90 (by decide) (by decide) (Weak.osl_take (ds := [.int .i64 0]) ?_ ?_) rfl (Leaves.one Weak.undef rfl)
      · rfl
      · omega
theorem without_c (xs : List Int) (i : Nat) (h : i < xs.length) (hl : xs.length ≤ 1048576) : ACall Tryz.prog 83 [.sl (icells xs) xs.length, .int .i64 ((i : Nat) : Int)] [] (.osl 1 (icells (xs.eraseIdx i)) (xs.length - 1) none) [] := by
  refine ACall.intro Tryz.func83 rfl (N := 11) rfl (by decide) (by simp) ?_
  refine a_seq ?_
  refine a_region ?_
  refine rv (v := .nils) (v_assign (.inl rfl) nf) ?_
  refine r_nil ?_
  refine a_seq ?_
  refine a_region ?_
  refine rv (v := .sl _ _) (v_move (.inl rfl) nf) ?_
  refine rn (v := .osl _ _ _ _) (q_call (vs := [.sl _ _]) (args := [.sl _ _]) hb62 ⟨.inl rfl, trivial⟩ rfl (fun hA => cloneI_c _ _ ⟨rfl, by omega⟩) (ic_noSh _) (ic_noRef _)) ?_
  refine rv (v := .int _ _) (v_move (.inl rfl) nf) ?_
  refine rv (v := .int _ _) (v_move (.inl rfl) nf) ?_
  refine rv (v := .int .i64 ((i + 1 : Nat) : Int)) ((v_add (.inl rfl) (.inl rfl) (fun _ => by omega)).cast (int_eq (by omega))) ?_
  refine r_step rfl (o_callIO (q := (6, [])) (vs := [.rsl _ _ _ _ _, .int _ _, .int _ _]) (args := [.rsl (INH, []) _ _ _ _, .int .i64 _, .int .i64 _]) (x0 := .osl _ _ _ _) (x1 := .undef) (res := .osl _ _ _ _) rfl hb90 rfl (by decide) ⟨.inl rfl, .inl rfl, .inl rfl, trivial⟩ rfl rfl (delI_c xs xs.length i ⟨rfl, hl⟩ h) rfl (ic_noSh _) (ic_noRef _) rfl rfl (Nat.le_of_ble_eq_true rfl) (by decide) rfl) ?_
  refine rv (v := .rsl _ _ _ _ _) (v_assign (.inl rfl) nf) ?_
  refine r_pre (ent_reloc_sl (t := 4) rfl rfl) ?_
  refine r_nil ?_
  refine a_ret ?_
  refine ret1 Tryz.results83 (by decide) (by decide) (Weak.osl ?_ ?_) rfl Leaves.nil
  · rfl
  · rfl
end Go.Av
namespace Go.Av
open Go Go.Proofs Go.Sort
set_option maxRecDepth 10000
theorem hb57 : hasBody Tryz.prog 57 = true := by kernel_rfl
theorem hb58 : hasBody Tryz.prog 58 = true := by kernel_rfl
theorem hb83 : hasBody Tryz.prog 83 = true := by kernel_rfl
theorem hb84 : hasBody Tryz.prog 84 = true := by kernel_rfl
theorem ta57 : tyAgg Tryz.prog 57 = some (false, 1) := by kernel_rfl
theorem closedAt_c (vars : Int) (L M : List (List Int)) (w : Int) (a : List Int) (hv : 0 ≤ vars ∧ vars ≤ 6) (hM : AllA vars M) (hca : clB vars a = true) : ACall Tryz.prog 58 [.agg [.int .i64 vars, .sl (sls L) L.length], .int .i64 w, .sl (blcells (mkB vars.toNat M M.length)) (3 ^ vars.toNat), .sl (icells a) a.length] [] (.bool (keepsB vars w M a)) [] := by
 have hla := clB_len hca
 have hml := mkB_len vars.toNat M M.length
 have hpv := pow3_bd (k := vars.toNat) (by omega)
 have hvL := opens_len (vars := vars) (by omega) a
 refine ACall.intro Tryz.func58 rfl (N := 63) rfl (by decide) (by simp) ?_
 refine a_seq ?_
 refine a_region ?_
 refine rn (v := .op [.int _ _, .sl _ _]) (q_box (.inl rfl) rfl rfl) ?_
 refine rv (v := .bool _) (v_assign (.inl rfl) nf) ?_
 refine r_nil ?_
 refine a_seq ?_
 refine a_seq ?_
 refine a_region ?_
 refine rv (v := .sl _ _) (v_move (.inl rfl) nf) ?_
 refine rv (v := .int _ _) (v_len_sl sl25 (.inl rfl)) ?_
 refine rv (v := .int _ _) (v_move (.inl rfl) nf) ?_
 refine r_nil ?_
 refine a_block ?_
 refine a_loop (X := Nat) (fun i => look [(1, .int .i64 w), (2, .sl (blcells (mkB vars.toNat M M.length)) (3 ^ vars.toNat)), (3, .sl (icells a) a.length), (4, .op [.int .i64 vars, .sl (sls L) L.length]), (12, .sl (icells a) a.length), (13, .int .i64 ((a.length : Nat) : Int)), (14, .int .i64 ((i : Nat) : Int))]) (fun i => i ≤ a.length ∧ ∀ j, j < i → decide (woS a (vr (gd a j)) ∈ M) = true) (fun i => a.length - i) 0 (ent_look ⟨Weak.of_eq rfl, Weak.of_eq rfl, Weak.of_eq rfl, Weak.of_eq rfl, Weak.of_eq rfl, Weak.of_eq rfl, Weak.of_eq rfl, trivial⟩) ⟨Nat.zero_le _, fun j h => by omega⟩ (fun i hG => ?_)
 obtain ⟨g1, g2⟩ := hG
 refine a_seq ?_
 refine a_region ?_
 refine rv (v := .bool _) (v_lss (.inl rfl) (.inl rfl)) ?_
 refine r_nil ?_
 refine a_seq ?_
 refine a_cond rfl (fun ht15 => ?_) (fun ht15 => ?_)
 ·
  skip
  refine a_skip ?_
  refine a_seq ?_
  refine a_block ?_
  refine a_seq ?_
  refine a_region ?_
  refine rv (v := .int _ _) (v_move (.inl rfl) nf) ?_
  refine rv (v := .int _ _) (v_assign (.inl rfl) nf) ?_
  refine r_nil ?_
  refine a_seq ?_
  have hi : i < a.length := (by simp at ht15; omega)
  have hec := erase_cl hca hi
  have hlt := codeA_cl hec
  have hel : (a.eraseIdx i).length = a.length - 1 := List.length_eraseIdx_of_lt hi
  have hmk : (gB (mkB vars.toNat M M.length) (codeA (a.eraseIdx i))) = decide ((woS a (vr (gd a i))) ∈ M) := (by rw [mark_mem hM hec, erase_wo (clB_strict hca) hi])
  refine a_region ?_
  refine rv (v := .sl _ _) (v_move (.inl rfl) nf) ?_
  refine rv (v := .sl _ _) (v_move (.inl rfl) nf) ?_
  refine rv (v := .int _ _) (v_move (.inl rfl) nf) ?_
  refine rn (v := .osl 1 (icells (a.eraseIdx i)) (a.eraseIdx i).length none) (QSem.cast (q_call (vs := [.sl _ _, .int _ _]) (args := [.sl _ _, .int .i64 _]) hb83 ⟨.inl rfl, .inl rfl, trivial⟩ rfl (fun hA => without_c a i hi (by omega)) (ic_noSh _) (ic_noRef _)) (osl_eq2 rfl (by omega))) ?_
  refine rn (v := .int _ _) (q_call (vs := [.rsl _ _ _ _ _]) (args := [.sl _ _]) hb82 ⟨.inl rfl, trivial⟩ (l1_eq (sl_sh (ic_pure _))) (fun hA => codeOf_c vars (a.eraseIdx i) hec) rfl rfl) ?_
  refine rv (v := .pp _ _) (v_indexAddr_sl es57 (.inl rfl) (.inl rfl) (fun _ => ⟨by omega, by omega, bl_ne (by rw [mkB_len]; omega)⟩)) ?_
  refine rv (v := .bool (gB (mkB vars.toNat M M.length) (codeA (a.eraseIdx i)))) (v_load_pp ta4 (.inl rfl) (fun _ => by rw [Nat.mul_one]; exact bl_get (gB_get (by rw [mkB_len]; omega))) rfl) ?_
  refine rv (v := .bool _) (v_not (.inl rfl)) ?_
  refine r_nil ?_
  refine a_cond rfl (fun ht24 => ?_) (fun ht24 => ?_)
  ·
   skip
   refine a_seq ?_
   refine a_region ?_
   refine rv (v := .bool _) (v_assign (.inl rfl) nf) ?_
   refine r_nil ?_
   refine a_ret ?_
   refine ret1 Tryz.results58 (by decide) (by decide) (Weak.of_eq (bool_eq ?_)) rfl Leaves.nil
   unfold keepsB; rw [keepA_f hi (by rw [← hmk]; simpa using ht24)]; rfl
  ·
   skip
   refine a_skip ?_
   refine a_region ?_
   refine rv (v := .int _ _) (v_add (.inl rfl) (.inl rfl) (fun _ => by omega)) ?_
   refine rv (v := .int _ _) (v_move (.inl rfl) nf) ?_
   refine r_nil ?_
   refine ⟨i + 1, ent_look ⟨Weak.of_eq rfl, Weak.of_eq rfl, Weak.of_eq rfl, Weak.of_eq rfl, Weak.of_eq rfl, Weak.of_eq rfl, Weak.of_eq (int_eq (by omega)), trivial⟩, ⟨by omega, fun j h1 => by rcases Nat.lt_or_ge j i with h | h; exact g2 j h; (obtain rfl : j = i := by omega); rw [← hmk]; simpa using ht24⟩, by omega⟩
 ·
  skip
  refine a_exit ?_
  refine a_seq ?_
  refine a_seq ?_
  have hkA : keepA M a = true := keepA_t fun k hk => g2 k (by simp at ht15; omega)
  refine a_region ?_
  refine rv (v := .sl _ _) (v_move (.inl rfl) nf) ?_
  refine rv (v := .int _ _) (v_len_sl sl25 (.inl rfl)) ?_
  refine rv (v := .int _ _) (v_move (.inl rfl) nf) ?_
  refine rv (v := .bool _) (v_gtr (.inl rfl) (.inl rfl)) ?_
  refine r_nil ?_
  refine a_cond rfl (fun ht29 => ?_) (fun ht29 => ?_)
  ·
   skip
   refine a_seq ?_
   refine a_region ?_
   refine rv (v := .bool _) (v_assign (.inl rfl) nf) ?_
   refine r_nil ?_
   refine a_ret ?_
   refine ret1 Tryz.results58 (by decide) (by decide) (Weak.of_eq (bool_eq ?_)) rfl Leaves.nil
   unfold keepsB; rw [hkA, decide_eq_true (by simpa using ht29)]; rfl
  ·
   skip
   refine a_skip ?_
   refine a_seq ?_
   refine a_seq ?_
   refine a_region ?_
   refine rv (v := .rp _ _) (v_fieldAddr_rp fo30_0 (.inl rfl)) ?_
   refine rv (v := .int _ _) (v_load_rp1 ta3 (.inl rfl) rfl (fun _ => rfl) rfl) ?_
   refine rv (v := .sl _ _) (v_move (.inl rfl) nf) ?_
   refine rn (v := .sl _ _) (QSem.cast (q_callZ (vs := [.int _ _, .sl _ _]) (args := [.int .i64 _, .sl _ _]) hb84 ⟨.inl rfl, .inl rfl, trivial⟩ rfl (fun hA => openVars_c vars a (by omega) (by omega)) (ic_noSh _) (ic_noRef _)) (sl_shZ (ic_pure _))) ?_
   refine rv (v := .int _ _) (v_len_sl sl25 (.inl rfl)) ?_
   refine rv (v := .int _ _) (v_move (.inl rfl) nf) ?_
   refine r_nil ?_
   refine a_block ?_
   refine a_loop (X := Nat) (fun k => look [(2, .sl (blcells (mkB vars.toNat M M.length)) (3 ^ vars.toNat)), (3, .sl (icells a) a.length), (33, .sl (icells (opensL vars a)) (opensL vars a).length), (34, .int .i64 (((opensL vars a).length : Nat) : Int)), (35, .int .i64 ((k : Nat) : Int))]) (fun k => k ≤ (opensL vars a).length ∧ ∀ j, j < k → keepV M a (gd (opensL vars a) j) = true) (fun k => (opensL vars a).length - k) 0 (ent_look ⟨Weak.of_eq rfl, Weak.of_eq rfl, Weak.of_eq rfl, Weak.of_eq rfl, Weak.of_eq rfl, trivial⟩) ⟨Nat.zero_le _, fun j h => by omega⟩ (fun k hG => ?_)
   obtain ⟨k1, k2⟩ := hG
   refine a_seq ?_
   refine a_region ?_
   refine rv (v := .bool _) (v_lss (.inl rfl) (.inl rfl)) ?_
   refine r_nil ?_
   refine a_seq ?_
   refine a_cond rfl (fun ht36 => ?_) (fun ht36 => ?_)
   ·
    skip
    refine a_skip ?_
    refine a_seq ?_
    refine a_block ?_
    refine a_seq ?_
    have hk : k < (opensL vars a).length := (by simp at ht36; omega)
    have hov := opens_gd hk
    have hpc := put_cl hca hov.1 hov.2
    have hcd := code_put (a := a) hov.1.1
    have hl1 := codeA_cl hpc.1
    have hl2 := codeA_cl hpc.2
    have hp3 := pow3_bd (k := (((gd (opensL vars a) k) - 1).toNat)) (by omega)
    have hkv : (bif !(gB (mkB vars.toNat M M.length) (codeA (putL a (-(gd (opensL vars a) k))))) then !(gB (mkB vars.toNat M M.length) (codeA (putL a (gd (opensL vars a) k)))) else false) = !keepV M a (gd (opensL vars a) k) := (by rw [mark_mem hM hpc.1, mark_mem hM hpc.2]; unfold keepV; rw [hov.2]; cases decide (putL a (gd (opensL vars a) k) ∈ M) <;> cases decide (putL a (-(gd (opensL vars a) k)) ∈ M) <;> rfl)
    refine a_region ?_
    refine rv (v := .pp _ _) (v_indexAddr_sl es25 (.inl rfl) (.inl rfl) (fun _ => ⟨by omega, by omega, icells_ne hk⟩)) ?_
    refine rv (v := .int .i64 (gd (opensL vars a) k)) (v_load_pp ta3 (.inl rfl) (fun _ => by rw [Nat.mul_one]; exact icells_get (gd_get hk)) rfl) ?_
    refine rv (v := .int _ _) (v_assign (.inl rfl) nf) ?_
    refine r_nil ?_
    refine a_seq ?_
    refine a_region ?_
    refine rv (v := .sl _ _) (v_move (.inl rfl) nf) ?_
    refine rv (v := .sl _ _) (v_move (.inl rfl) nf) ?_
    refine rn (v := .int _ _) (q_call (vs := [.sl _ _]) (args := [.sl _ _]) hb82 ⟨.inl rfl, trivial⟩ rfl (fun hA => codeOf_c vars a hca) rfl rfl) ?_
    refine rv (v := .int _ _) (v_move (.inl rfl) nf) ?_
    refine rv (v := .int .i64 (((((gd (opensL vars a) k) - 1).toNat) : Nat) : Int)) ((v_sub (.inl rfl) (.inl rfl) (fun _ => by omega)).cast (int_eq (by omega))) ?_
    refine rn (v := .int _ _) (q_call (vs := [.int _ _]) (args := [.int .i64 _]) hb81 ⟨.inl rfl, trivial⟩ rfl (fun hA => pow3_c (((gd (opensL vars a) k) - 1).toNat) (by omega)) rfl rfl) ?_
    refine rv (v := .int .i64 (((codeA (putL a (-(gd (opensL vars a) k)))) : Nat) : Int)) ((v_add (.inl rfl) (.inl rfl) (fun _ => by omega)).cast (int_eq (by rw [hcd.2]; push_cast; rfl))) ?_
    refine rv (v := .pp _ _) (v_indexAddr_sl es57 (.inl rfl) (.inl rfl) (fun _ => ⟨by omega, by omega, bl_ne (by rw [mkB_len]; omega)⟩)) ?_
    refine rv (v := .bool (gB (mkB vars.toNat M M.length) (codeA (putL a (-(gd (opensL vars a) k)))))) (v_load_pp ta4 (.inl rfl) (fun _ => by rw [Nat.mul_one]; exact bl_get (gB_get (by rw [mkB_len]; omega))) rfl) ?_
    refine rv (v := .bool _) (v_not (.inl rfl)) ?_
    refine rv (v := .bool _) (v_move (.inl rfl) nf) ?_
    refine r_gval (v := .sl _ _) (v_move (.inl rfl) nf) rfl rfl rfl (by decide) (.inl ⟨_, rfl, rfl⟩) rfl (by decide) ?_
    refine r_gval (v := .sl _ _) (v_move (.inl rfl) nf) rfl rfl rfl (by decide) (.inl ⟨_, rfl, rfl⟩) rfl (by decide) ?_
    refine r_guard (v := .int _ _) (q_call (vs := [.sl _ _]) (args := [.sl _ _]) hb82 ⟨.inr ⟨_, rfl, fun h => h⟩, trivial⟩ rfl (fun hA => codeOf_c vars a hca) rfl rfl) rfl rfl rfl (by decide) (.inl ⟨_, rfl, rfl⟩) rfl (by decide) ?_
    refine r_gval (v := .int _ _) (v_move (.inl rfl) nf) rfl rfl rfl (by decide) (.inl ⟨_, rfl, rfl⟩) rfl (by decide) ?_
    refine r_gval (v := .int .i64 (((((gd (opensL vars a) k) - 1).toNat) : Nat) : Int)) ((v_sub (.inr ⟨_, rfl, fun h => h⟩) (.inl rfl) (fun _ => by omega)).cast (int_eq (by omega))) rfl rfl rfl (by decide) (.inl ⟨_, rfl, rfl⟩) rfl (by decide) ?_
    refine r_guard (v := .int _ _) (q_call (vs := [.int _ _]) (args := [.int .i64 _]) hb81 ⟨.inr ⟨_, rfl, fun h => h⟩, trivial⟩ rfl (fun hA => pow3_c (((gd (opensL vars a) k) - 1).toNat) (by omega)) rfl rfl) rfl rfl rfl (by decide) (.inl ⟨_, rfl, rfl⟩) rfl (by decide) ?_
    refine r_gval (v := .int _ _) (v_mul (.inl rfl) (.inr ⟨_, rfl, fun h => h⟩) (fun _ => by omega)) rfl rfl rfl (by decide) (.inl ⟨_, rfl, rfl⟩) rfl (by decide) ?_
    refine r_gval (v := .int .i64 (((codeA (putL a (gd (opensL vars a) k))) : Nat) : Int)) ((v_add (.inr ⟨_, rfl, fun h => h⟩) (.inr ⟨_, rfl, fun h => h⟩) (fun _ => by omega)).cast (int_eq (by rw [hcd.1]; push_cast; omega))) rfl rfl rfl (by decide) (.inl ⟨_, rfl, rfl⟩) rfl (by decide) ?_
    refine r_gval (v := .pp _ _) (v_indexAddr_sl es57 (.inr ⟨_, rfl, fun h => h⟩) (.inr ⟨_, rfl, fun h => h⟩) (fun _ => ⟨by omega, by omega, bl_ne (by rw [mkB_len]; omega)⟩)) rfl rfl rfl (by decide) (.inl ⟨_, rfl, rfl⟩) rfl (by decide) ?_
    refine r_gval (v := .bool (gB (mkB vars.toNat M M.length) (codeA (putL a (gd (opensL vars a) k))))) (v_load_pp ta4 (.inr ⟨_, rfl, fun h => h⟩) (fun _ => by rw [Nat.mul_one]; exact bl_get (gB_get (by rw [mkB_len]; omega))) rfl) rfl rfl rfl (by decide) (.inl ⟨_, rfl, rfl⟩) rfl (by decide) ?_
    refine r_gval (v := .bool _) (v_not (.inr ⟨_, rfl, fun h => h⟩)) rfl rfl rfl (by decide) (.inl ⟨_, rfl, rfl⟩) rfl (by decide) ?_
    refine rv (v := .bool _) (v_pick (.inl rfl) (.inr ⟨_, rfl, fun h h2 => by simp_all⟩) (.inl rfl)) ?_
    refine r_nil ?_
    refine a_cond rfl (fun ht61 => ?_) (fun ht61 => ?_)
    ·
     skip
     refine a_seq ?_
     refine a_pre (ent_look (L := [(2, .sl _ _), (3, .sl _ _), (33, .sl _ _), (34, .int _ _), (35, .int _ _)]) ⟨Weak.rfl, Weak.rfl, Weak.rfl, Weak.rfl, Weak.rfl, trivial⟩) ?_
     refine a_region ?_
     refine rv (v := .bool _) (v_assign (.inl rfl) nf) ?_
     refine r_nil ?_
     refine a_ret ?_
     refine ret1 Tryz.results58 (by decide) (by decide) (Weak.of_eq (bool_eq ?_)) rfl Leaves.nil
     unfold keepsB; rw [keepV_f hov.1 (by rw [hkv] at ht61; simpa using ht61), show decide (w < (a.length : Int)) = false from decide_eq_false (by simpa using ht29)]; simp
    ·
     skip
     refine a_skip ?_
     refine a_pre (ent_look (L := [(2, .sl _ _), (3, .sl _ _), (33, .sl _ _), (34, .int _ _), (35, .int _ _)]) ⟨Weak.rfl, Weak.rfl, Weak.rfl, Weak.rfl, Weak.rfl, trivial⟩) ?_
     refine a_region ?_
     refine rv (v := .int _ _) (v_add (.inl rfl) (.inl rfl) (fun _ => by omega)) ?_
     refine rv (v := .int _ _) (v_move (.inl rfl) nf) ?_
     refine r_nil ?_
     refine ⟨k + 1, ent_look ⟨Weak.of_eq rfl, Weak.of_eq rfl, Weak.of_eq rfl, Weak.of_eq rfl, Weak.of_eq (int_eq (by omega)), trivial⟩, ⟨by omega, fun j h1 => by rcases Nat.lt_or_ge j k with h | h; exact k2 j h; (obtain rfl : j = k := by omega); rw [hkv] at ht61; simpa using ht61⟩, by omega⟩
   ·
    skip
    refine a_exit ?_
    refine a_seq ?_
    refine a_region ?_
    refine rv (v := .bool _) (v_assign (.inl rfl) nf) ?_
    refine r_nil ?_
    refine a_ret ?_
    refine ret1 Tryz.results58 (by decide) (by decide) (Weak.of_eq (bool_eq ?_)) rfl Leaves.nil
    unfold keepsB; rw [hkA, keepV_open fun j hj => k2 j (by simp at ht36; omega)]; simp
theorem isFam1_c (vars : Int) (L M : List (List Int)) (w : Int) (a : List Int) (hv : 0 ≤ vars ∧ vars ≤ 6) (hM : AllA vars M) (hca : clB vars a = true) : ACall Tryz.prog 57 [.sl (icells a) a.length, .pp [.int .i64 vars, .sl (sls L) L.length] 0, .pp [.int .i64 w] 0, .pp [.sl (blcells (mkB vars.toNat M M.length)) (3 ^ vars.toNat)] 0] [] (.bool (!keepsB vars w M a)) [] := by
 refine ACall.intro Tryz.func57 rfl (N := 12) rfl (by decide) (by simp) ?_
 refine a_seq ?_
 refine a_region ?_
 refine rv (v := .bool _) (v_assign (.inl rfl) nf) ?_
 refine r_nil ?_
 refine a_seq ?_
 refine a_region ?_
 refine rv (v := .agg [.int _ _, .sl _ _]) (v_load_ppa1 ta30 (.inl rfl) rfl (fun _ => rfl) rfl) ?_
 refine rv (v := .int _ _) (v_load_pp ta3 (.inl rfl) (fun _ => rfl) rfl) ?_
 refine rv (v := .sl _ _) (v_load_pp ta57 (.inl rfl) (fun _ => rfl) rfl) ?_
 refine rv (v := .sl _ _) (v_move (.inl rfl) nf) ?_
 refine rn (v := .bool _) (q_call (vs := [.agg [.int _ _, .sl _ _], .int _ _, .sl _ _, .sl _ _]) (args := [.agg [.int .i64 _, .sl _ _], .int .i64 _, .sl _ _, .sl _ _]) hb58 ⟨.inl rfl, .inl rfl, .inl rfl, .inl rfl, trivial⟩ rfl (fun hA => closedAt_c vars L M w a hv hM hca) rfl rfl) ?_
 refine rv (v := .bool _) (v_not (.inl rfl)) ?_
 refine rv (v := .bool _) (v_assign (.inl rfl) nf) ?_
 refine r_nil ?_
 refine a_ret ?_
 refine ret1 Tryz.results57 (by decide) (by decide) (Weak.of_eq (bool_eq ?_)) rfl Leaves.nil
 rfl
end Go.Av
namespace Go.Av
open Go Go.Proofs Go.Sort
set_option maxRecDepth 10000
theorem hb27 : hasBody Tryz.prog 27 = true := by kernel_rfl
theorem hb37 : hasBody Tryz.prog 37 = true := by kernel_rfl
theorem hb38 : hasBody Tryz.prog 38 = true := by kernel_rfl
theorem hb52 : hasBody Tryz.prog 52 = true := by kernel_rfl
theorem hb53 : hasBody Tryz.prog 53 = true := by kernel_rfl
theorem hb54 : hasBody Tryz.prog 54 = true := by kernel_rfl
theorem hb55 : hasBody Tryz.prog 55 = true := by kernel_rfl
theorem zc57 : zeroCells Tryz.prog 57 = some [.nils] := by kernel_rfl
theorem isFam_c (vars : Int) (L M : List (List Int)) (w : Int) (hcl : ∀ i, i < L.length → clB vars (gl L i) = true) (hL : L.length ≤ 1048576) (hm : CnfOk vars M) (hv : 0 ≤ vars ∧ vars ≤ 6) (hw : 0 ≤ w ∧ w ≤ 6) : ACall Tryz.prog 38 [.agg [.int .i64 vars, .sl (sls L) L.length], .int .i64 w, .sl (sls M) M.length] [] (.bool (famB vars L w M)) [] := by
 have hm1 := hm.2.1
 have hm2 := hm.2.2.1
 have hbF := hb57
 refine ACall.intro Tryz.func38 rfl (N := 56) rfl (by decide) (by simp) ?_
 refine a_seq ?_
 refine a_region ?_
 refine rn (v := .op [.int _ _, .sl _ _]) (q_box (.inl rfl) rfl rfl) ?_
 refine rn (v := .op [.int _ _]) (q_box (.inl rfl) rfl rfl) ?_
 refine rv (v := .bool _) (v_assign (.inl rfl) nf) ?_
 refine r_nil ?_
 refine a_seq ?_
 refine a_seq ?_
 refine a_region ?_
 refine rv (v := .sl _ _) (v_move (.inl rfl) nf) ?_
 refine rv (v := .int _ _) (v_len_sl sl22 (.inl rfl)) ?_
 refine rv (v := .int _ _) (v_move (.inl rfl) nf) ?_
 refine r_nil ?_
 refine a_block ?_
 refine a_loop (X := Nat) (fun i => look [(2, .sl (sls M) M.length), (3, .op [.int .i64 vars, .sl (sls L) L.length]), (4, .op [.int .i64 w]), (10, .sl (sls M) M.length), (11, .int .i64 ((M.length : Nat) : Int)), (12, .int .i64 ((i : Nat) : Int))]) (fun i => i ≤ M.length ∧ ∀ j, j < i → famI vars L w M j = true) (fun i => M.length - i) 0 (ent_look ⟨Weak.of_eq rfl, Weak.of_eq rfl, Weak.of_eq rfl, Weak.of_eq rfl, Weak.of_eq rfl, Weak.of_eq rfl, trivial⟩) ⟨Nat.zero_le _, fun j h => by omega⟩ (fun i hG => ?_)
 obtain ⟨g1, g2⟩ := hG
 refine a_seq ?_
 refine a_region ?_
 refine rv (v := .bool _) (v_lss (.inl rfl) (.inl rfl)) ?_
 refine r_nil ?_
 refine a_seq ?_
 refine a_cond rfl (fun ht13 => ?_) (fun ht13 => ?_)
 ·
  skip
  refine a_skip ?_
  refine a_seq ?_
  refine a_block ?_
  refine a_seq ?_
  have hi : i < M.length := (by simp at ht13; omega)
  have hrl := len_tot (L := M) (i := i)
  have hrl1 := len_tot (L := M) (i := i - 1)
  have hfi : (bif (bif !clB vars (gl M i) then true else !alB L w (gl M i)) then true else bif decide (0 < (i : Int)) then decide (0 ≤ (cC (gl M (i - 1)) (gl M i))) else false) = !famI vars L w M i := (by rw [← famI_impl g2]; cases clB vars (gl M i) <;> cases alB L w (gl M i) <;> cases hd : decide ((i : Int) > 0) <;> simp_all)
  refine a_region ?_
  refine rv (v := .int _ _) (v_move (.inl rfl) nf) ?_
  refine rv (v := .pp _ _) (v_indexAddr_sl es22 (.inl rfl) (.inl rfl) (fun _ => ⟨by omega, by omega, sls_ne hi⟩)) ?_
  refine rv (v := .sl (icells (gl M i)) (gl M i).length) (v_load_pp ta25 (.inl rfl) (fun _ => by rw [Nat.mul_one]; exact sls_get hi) rfl) ?_
  refine rv (v := .int _ _) (v_assign (.inl rfl) nf) ?_
  refine rv (v := .sl _ _) (v_assign (.inl rfl) nf) ?_
  refine r_nil ?_
  refine a_seq ?_
  refine a_region ?_
  refine rv (v := .rp _ _) (v_fieldAddr_rp fo30_0 (.inl rfl)) ?_
  refine rv (v := .int _ _) (v_load_rp1 ta3 (.inl rfl) rfl (fun _ => rfl) rfl) ?_
  refine rv (v := .sl _ _) (v_move (.inl rfl) nf) ?_
  refine rn (v := .bool _) (q_call (vs := [.int _ _, .sl _ _]) (args := [.int .i64 _, .sl _ _]) hb52 ⟨.inl rfl, .inl rfl, trivial⟩ rfl (fun hA => isAsg_c _ _ (by omega) (by omega) (fun j => hm.2.2.2 i j)) rfl rfl) ?_
  refine rv (v := .bool _) (v_not (.inl rfl)) ?_
  refine rv (v := .bool _) (v_move (.inl rfl) nf) ?_
  refine r_gval (v := .agg [.int _ _, .sl _ _]) (v_load_rpa1 ta30 (.inl rfl) rfl rfl (fun _ => rfl) rfl) rfl rfl rfl (by decide) (.inl ⟨_, rfl, rfl⟩) rfl (by decide) ?_
  refine r_gval (v := .int _ _) (v_load_rp1 ta3 (.inl rfl) rfl (fun _ => rfl) rfl) rfl rfl rfl (by decide) (.inl ⟨_, rfl, rfl⟩) rfl (by decide) ?_
  refine r_gval (v := .sl _ _) (v_move (.inl rfl) nf) rfl rfl rfl (by decide) (.inl ⟨_, rfl, rfl⟩) rfl (by decide) ?_
  refine r_guard (v := .bool _) (q_call (vs := [.agg [.int _ _, .sl _ _], .int _ _, .sl _ _]) (args := [.agg [.int .i64 _, .sl _ _], .int .i64 _, .sl _ _]) hb53 ⟨.inr ⟨_, rfl, fun h => h⟩, .inr ⟨_, rfl, fun h => h⟩, .inr ⟨_, rfl, fun h => h⟩, trivial⟩ rfl (fun hA => allowed_c vars L (gl M i) w hcl hL (by omega) hw) rfl rfl) rfl rfl rfl (by decide) (.inl ⟨_, rfl, rfl⟩) rfl (by decide) ?_
  refine r_gval (v := .bool _) (v_not (.inr ⟨_, rfl, fun h => h⟩)) rfl rfl rfl (by decide) (.inl ⟨_, rfl, rfl⟩) rfl (by decide) ?_
  refine rv (v := .bool _) (v_pick (.inl rfl) (.inl rfl) (.inr ⟨_, rfl, fun h h2 => by simp_all⟩)) ?_
  refine rv (v := .bool _) (v_move (.inl rfl) nf) ?_
  refine r_gval (v := .int _ _) (v_move (.inl rfl) nf) rfl rfl rfl (by decide) (.inl ⟨_, rfl, rfl⟩) rfl (by decide) ?_
  refine r_gval (v := .bool _) (v_gtr (.inr ⟨_, rfl, fun h => h⟩) (.inl rfl)) rfl rfl rfl (by decide) (.inl ⟨_, rfl, rfl⟩) rfl (by decide) ?_
  refine r_gval (v := .bool _) (v_move (.inr ⟨_, rfl, fun h => h⟩) nf) rfl rfl rfl (by decide) (.inl ⟨_, rfl, rfl⟩) rfl (by decide) ?_
  refine r_gval (v := .sl _ _) (v_move (.inl rfl) nf) rfl rfl rfl (by decide) (.inr ⟨_, _, rfl, rfl⟩) rfl (by decide) ?_
  refine r_gval (v := .int _ _) (v_move (.inl rfl) nf) rfl rfl rfl (by decide) (.inr ⟨_, _, rfl, rfl⟩) rfl (by decide) ?_
  refine r_gval (v := .int _ _) (v_sub (.inr ⟨_, rfl, fun h => h⟩) (.inl rfl) (fun _ => by omega)) rfl rfl rfl (by decide) (.inr ⟨_, _, rfl, rfl⟩) rfl (by decide) ?_
  refine r_gval (v := .pp _ _) (v_indexAddr_sl es22 (.inr ⟨_, rfl, fun h => h⟩) (.inr ⟨_, rfl, fun h => h⟩) (fun hA => by simp at hA; exact ⟨by omega, by omega, sls_ne (by omega)⟩)) rfl rfl rfl (by decide) (.inr ⟨_, _, rfl, rfl⟩) rfl (by decide) ?_
  refine r_gval (v := .sl (icells (gl M (i - 1))) (gl M (i - 1)).length) (v_load_pp ta25 (.inr ⟨_, rfl, fun h => h⟩) (fun hA => by simp at hA; rw [show ((i : Int) - 1).toNat = i - 1 by omega, Nat.mul_one]; exact sls_get (by omega)) rfl) rfl rfl rfl (by decide) (.inr ⟨_, _, rfl, rfl⟩) rfl (by decide) ?_
  refine r_gval (v := .sl _ _) (v_move (.inl rfl) nf) rfl rfl rfl (by decide) (.inr ⟨_, _, rfl, rfl⟩) rfl (by decide) ?_
  refine r_guard (v := .int _ _) (q_call (vs := [.sl _ _, .sl _ _]) (args := [.sl _ _, .sl _ _]) hb54 ⟨.inr ⟨_, rfl, fun h => h⟩, .inr ⟨_, rfl, fun h => h⟩, trivial⟩ rfl (fun hA => cC_c (gl M (i - 1)) (gl M i) (by omega) (by omega)) rfl rfl) rfl rfl rfl (by decide) (.inr ⟨_, _, rfl, rfl⟩) rfl (by decide) ?_
  refine r_gval (v := .bool _) (v_geq (.inr ⟨_, rfl, fun h => h⟩) (.inl rfl)) rfl rfl rfl (by decide) (.inr ⟨_, _, rfl, rfl⟩) rfl (by decide) ?_
  refine r_gval (v := .bool _) (v_pick (.inr ⟨_, rfl, fun h => h⟩) (.inr ⟨_, rfl, fun h h2 => by simp_all⟩) (.inl rfl)) rfl rfl rfl (by decide) (.inl ⟨_, rfl, rfl⟩) rfl (by decide) ?_
  refine rv (v := .bool _) (v_pick (.inl rfl) (.inl rfl) (.inr ⟨_, rfl, fun h h2 => by simp_all⟩)) ?_
  refine r_nil ?_
  refine a_cond rfl (fun ht42 => ?_) (fun ht42 => ?_)
  ·
   skip
   refine a_seq ?_
   refine a_region ?_
   refine rv (v := .bool _) (v_assign (.inl rfl) nf) ?_
   refine r_nil ?_
   refine a_ret ?_
   refine ret1 Tryz.results38 (by decide) (by decide) (Weak.of_eq (bool_eq ?_)) rfl Leaves.nil
   rw [famO_f hi (by rw [hfi] at ht42; simpa using ht42)]
  ·
   skip
   refine a_skip ?_
   refine a_region ?_
   refine rv (v := .int _ _) (v_add (.inl rfl) (.inl rfl) (fun _ => by omega)) ?_
   refine rv (v := .int _ _) (v_move (.inl rfl) nf) ?_
   refine r_nil ?_
   refine ⟨i + 1, ent_look ⟨Weak.of_eq rfl, Weak.of_eq rfl, Weak.of_eq rfl, Weak.of_eq rfl, Weak.of_eq rfl, Weak.of_eq (int_eq (by omega)), trivial⟩, ⟨by omega, fun j h1 => by rcases Nat.lt_or_ge j i with h | h; exact g2 j h; (obtain rfl : j = i := by omega); rw [hfi] at ht42; simpa using ht42⟩, by omega⟩
 ·
  skip
  refine a_exit ?_
  refine a_seq ?_
  have hfo := famO_spec (vars := vars) (L := L) (w := w) (M := M) (fun j hj => g2 j (by simp at ht13; omega))
  refine a_region ?_
  refine rv (v := .agg [.int _ _, .sl _ _]) (v_load_rpa1 ta30 (.inl rfl) rfl rfl (fun _ => rfl) rfl) ?_
  refine rv (v := .sl _ _) (v_move (.inl rfl) nf) ?_
  refine rn (v := .sl _ _) (QSem.cast (q_callZ (vs := [.agg [.int _ _, .sl _ _], .sl _ _]) (args := [.agg [.int .i64 _, .sl _ _], .sl _ _]) hb55 ⟨.inl rfl, .inl rfl, trivial⟩ rfl (fun hA => marks_c vars L M hv hfo.2.1 (by omega)) (bl_noSh _) (bl_noRef _)) (sl_shZ (bl_pure _))) ?_
  refine rn (v := .op [.nils]) (q_alloc zc57) ?_
  refine r_step rfl (o_store (v := .sl _ _) (y' := .op [.sl _ _]) rfl rfl ta57 (.inl rfl) (.inl rfl) rfl rfl rfl rfl rfl rfl (Nat.le_of_ble_eq_true rfl) (by decide) rfl rfl) ?_
  refine r_nil ?_
  refine a_seq ?_
  refine a_region ?_
  refine rv (v := .sl _ _) (v_move (.inl rfl) nf) ?_
  refine rv (v := .int _ _) (v_len_sl sl22 (.inl rfl)) ?_
  refine rv (v := .bool _) (v_gtr (.inl rfl) (.inl rfl)) ?_
  refine rv (v := .bool _) (v_move (.inl rfl) nf) ?_
  refine r_gval (v := .sl _ _) (v_move (.inl rfl) nf) rfl rfl rfl (by decide) (.inl ⟨_, rfl, rfl⟩) rfl (by decide) ?_
  refine r_gval (v := .fn _ _ _) (v_makeFunc (first := []) (caps := [.tmp 3, .tmp 4, .tmp 9]) rfl rfl) rfl rfl rfl (by decide) (.inl ⟨_, rfl, rfl⟩) rfl (by decide) ?_
  refine r_guard (v := .bool _) (q_call (vs := [.sl _ _, .fn _ _ _]) (args := [.sl _ _, .fn _ _ _]) hb56 ⟨.inr ⟨_, rfl, fun h => h⟩, .inr ⟨_, rfl, fun h => h⟩, trivial⟩ rfl (fun hA => contL_c 57 [.pp [.int .i64 vars, .sl (sls L) L.length] 0, .pp [.int .i64 w] 0, .pp [.sl (blcells (mkB vars.toNat M M.length)) (3 ^ vars.toNat)] 0] hbF rfl M (fun i => !keepsB vars w M (gl M i)) (by omega) (fun i hi => isFam1_c vars L M w (gl M i) hv hfo.2.1 (hfo.2.1 i hi))) rfl rfl) rfl rfl rfl (by decide) (.inl ⟨_, rfl, rfl⟩) rfl (by decide) ?_
  refine r_gval (v := .bool _) (v_not (.inr ⟨_, rfl, fun h => h⟩)) rfl rfl rfl (by decide) (.inl ⟨_, rfl, rfl⟩) rfl (by decide) ?_
  refine rv (v := .bool _) (v_pick (.inl rfl) (.inr ⟨_, rfl, fun h h2 => by simp_all⟩) (.inl rfl)) ?_
  refine rv (v := .bool _) (v_assign (.inl rfl) nf) ?_
  refine r_nil ?_
  refine a_ret ?_
  refine ret1 Tryz.results38 (by decide) (by decide) (Weak.of_eq (bool_eq ?_)) rfl Leaves.nil
  unfold famB; rw [hfo.1, famK_any]; cases famK vars w M <;> cases hd : decide (0 < M.length) <;> simp_all
theorem memb_c (vars : Int) (L M : List (List Int)) (hk : CnfOk vars L) (hm : CnfOk vars M) (w : Int) (a : List Int) (hla : a.length ≤ 1048576) : ACall Tryz.prog 23 [.agg [.int .i64 vars, .sl (sls L) L.length], .int .i64 w, .sl (sls M) M.length, .sl (icells a) a.length] [] (.bool (nwB vars L w && (famB vars L w M) && decide (a ∈ M))) [] := by
 have hk1 := hk.1
 have hm1 := hm.2.1
 have hm2 := hm.2.2.1
 have hk2 := hk.2.1
 refine ACall.intro Tryz.func23 rfl (N := 23) rfl (by decide) (by simp) ?_
 refine a_seq ?_
 refine a_region ?_
 refine rn (v := .op [.int _ _, .sl _ _]) (q_box (.inl rfl) rfl rfl) ?_
 refine rv (v := .bool _) (v_assign (.inl rfl) nf) ?_
 refine r_nil ?_
 refine a_seq ?_
 refine a_region ?_
 refine rv (v := .agg [.int _ _, .sl _ _]) (v_load_rpa1 ta30 (.inl rfl) rfl rfl (fun _ => rfl) rfl) ?_
 refine rv (v := .int _ _) (v_move (.inl rfl) nf) ?_
 refine rn (v := .bool _) (q_call (vs := [.agg [.int _ _, .sl _ _], .int _ _]) (args := [.agg [.int .i64 _, .sl _ _], .int .i64 _]) hb37 ⟨.inl rfl, .inl rfl, trivial⟩ rfl (fun hA => narrowOk_c vars L hk w) rfl rfl) ?_
 refine rv (v := .bool _) (v_move (.inl rfl) nf) ?_
 refine r_gval (v := .agg [.int _ _, .sl _ _]) (v_load_rpa1 ta30 (.inl rfl) rfl rfl (fun _ => rfl) rfl) rfl rfl rfl (by decide) (.inl ⟨_, rfl, rfl⟩) rfl (by decide) ?_
 refine r_gval (v := .int _ _) (v_move (.inl rfl) nf) rfl rfl rfl (by decide) (.inl ⟨_, rfl, rfl⟩) rfl (by decide) ?_
 refine r_gval (v := .sl _ _) (v_move (.inl rfl) nf) rfl rfl rfl (by decide) (.inl ⟨_, rfl, rfl⟩) rfl (by decide) ?_
 refine r_guard (v := .bool _) (q_call (vs := [.agg [.int _ _, .sl _ _], .int _ _, .sl _ _]) (args := [.agg [.int .i64 _, .sl _ _], .int .i64 _, .sl _ _]) hb38 ⟨.inr ⟨_, rfl, fun h => h⟩, .inr ⟨_, rfl, fun h => h⟩, .inr ⟨_, rfl, fun h => h⟩, trivial⟩ rfl (fun hA => isFam_c vars L M w (cnfB_spec (nwB_spec (by simpa using hA)).1).2.2 hk2 hm ⟨(cnfB_spec (nwB_spec (by simpa using hA)).1).1.1, (nwB_spec (by simpa using hA)).2.1⟩ (nwB_spec (by simpa using hA)).2.2) rfl rfl) rfl rfl rfl (by decide) (.inl ⟨_, rfl, rfl⟩) rfl (by decide) ?_
 refine rv (v := .bool _) (v_pick (.inl rfl) (.inr ⟨_, rfl, fun h h2 => by simp_all⟩) (.inl rfl)) ?_
 refine rv (v := .bool _) (v_move (.inl rfl) nf) ?_
 refine r_gval (v := .sl _ _) (v_move (.inl rfl) nf) rfl rfl rfl (by decide) (.inl ⟨_, rfl, rfl⟩) rfl (by decide) ?_
 refine r_gval (v := .sl _ _) (v_move (.inl rfl) nf) rfl rfl rfl (by decide) (.inl ⟨_, rfl, rfl⟩) rfl (by decide) ?_
 refine r_guard (v := .bool _) (q_call (vs := [.sl _ _, .sl _ _]) (args := [.sl _ _, .sl _ _]) hb27 ⟨.inr ⟨_, rfl, fun h => h⟩, .inr ⟨_, rfl, fun h => h⟩, trivial⟩ rfl (fun hA => hasList_c M a (fun i => by have := len_tot (L := M) (i := i); omega) (by omega) hla) rfl rfl) rfl rfl rfl (by decide) (.inl ⟨_, rfl, rfl⟩) rfl (by decide) ?_
 refine rv (v := .bool _) (v_pick (.inl rfl) (.inr ⟨_, rfl, fun h h2 => by simp_all⟩) (.inl rfl)) ?_
 refine rv (v := .bool _) (v_assign (.inl rfl) nf) ?_
 refine r_nil ?_
 refine a_ret ?_
 refine ret1 Tryz.results23 (by decide) (by decide) (Weak.of_eq (bool_eq ?_)) rfl Leaves.nil
 rw [fidx_mem]; cases nwB vars L w <;> cases (famB vars L w M) <;> simp
end Go.Av
namespace Go.Av
open Go Go.Proofs Go.Sort
set_option maxRecDepth 10000
theorem hb21 : hasBody Tryz.prog 21 = true := by kernel_rfl
theorem hb22 : hasBody Tryz.prog 22 = true := by kernel_rfl
theorem hb28 : hasBody Tryz.prog 28 = true := by kernel_rfl
theorem hb29 : hasBody Tryz.prog 29 = true := by kernel_rfl
theorem hb30 : hasBody Tryz.prog 30 = true := by kernel_rfl
theorem hb47 : hasBody Tryz.prog 47 = true := by kernel_rfl
theorem hb49 : hasBody Tryz.prog 49 = true := by kernel_rfl
theorem hb70 : hasBody Tryz.prog 70 = true := by kernel_rfl
theorem keeps13_c (vars : Int) (L M : List (List Int)) (w : Int) (a : List Int) (hMl : M.length ≤ 1048576) (hM : AllA vars M) (has : ascM M) (hca : clB vars a = true) : ACall Tryz.prog 49 [.agg [.int .i64 vars, .sl (sls L) L.length], .int .i64 w, .sl (sls M) M.length, .sl (icells a) a.length] [] (.bool (keepsB vars w M a)) [] := by
 have hla := clB_len hca
 have hsm := clB_sm hca
 have hv12 := (clB_spec hca).1
 refine ACall.intro Tryz.func49 rfl (N := 67) rfl (by decide) (by simp) ?_
 refine a_seq ?_
 refine a_region ?_
 refine rn (v := .op [.int _ _, .sl _ _]) (q_box (.inl rfl) rfl rfl) ?_
 refine rv (v := .bool _) (v_assign (.inl rfl) nf) ?_
 refine r_nil ?_
 refine a_seq ?_
 refine a_seq ?_
 refine a_region ?_
 refine rv (v := .int _ _) (v_assign (.inl rfl) nf) ?_
 refine r_nil ?_
 refine a_block ?_
 refine a_loop (X := Nat) (fun i => look [(1, .int .i64 w), (2, .sl (sls M) M.length), (3, .sl (icells a) a.length), (4, .op [.int .i64 vars, .sl (sls L) L.length]), (9, .int .i64 ((i : Nat) : Int))]) (fun i => i ≤ a.length ∧ ∀ j, j < i → decide (woS a (vr (gd a j)) ∈ M) = true) (fun i => a.length - i) 0 (ent_look ⟨Weak.of_eq rfl, Weak.of_eq rfl, Weak.of_eq rfl, Weak.of_eq rfl, Weak.of_eq rfl, trivial⟩) ⟨Nat.zero_le _, fun j h => by omega⟩ (fun i hG => ?_)
 obtain ⟨g1, g2⟩ := hG
 refine a_seq ?_
 refine a_seq ?_
 refine a_region ?_
 refine rv (v := .int _ _) (v_move (.inl rfl) nf) ?_
 refine rv (v := .sl _ _) (v_move (.inl rfl) nf) ?_
 refine rv (v := .int _ _) (v_len_sl sl25 (.inl rfl)) ?_
 refine rv (v := .bool _) (v_lss (.inl rfl) (.inl rfl)) ?_
 refine r_nil ?_
 refine a_cond rfl (fun ht14 => ?_) (fun ht14 => ?_)
 ·
  skip
  refine a_skip ?_
  refine a_seq ?_
  refine a_block ?_
  refine a_seq ?_
  have hi : i < a.length := (by simp at ht14; omega)
  have hsi := hsm i
  have hwc := wo_cl hca (vr (gd a i))
  have hmk := atL_neg has (woS a (vr (gd a i)))
  refine a_region ?_
  refine rv (v := .sl _ _) (v_move (.inl rfl) nf) ?_
  refine rv (v := .sl _ _) (v_move (.inl rfl) nf) ?_
  refine rv (v := .sl _ _) (v_move (.inl rfl) nf) ?_
  refine rv (v := .int _ _) (v_move (.inl rfl) nf) ?_
  refine rv (v := .pp _ _) (v_indexAddr_sl es25 (.inl rfl) (.inl rfl) (fun _ => ⟨by omega, by omega, icells_ne hi⟩)) ?_
  refine rv (v := .int .i64 (gd a i)) (v_load_pp ta3 (.inl rfl) (fun _ => by rw [Nat.mul_one]; exact icells_get (gd_get hi)) rfl) ?_
  refine rn (v := .int _ _) (q_call (vs := [.int _ _]) (args := [.int .i64 _]) hb33 ⟨.inl rfl, trivial⟩ rfl (fun hA => l2Var_c _ (by omega)) rfl rfl) ?_
  refine rn (v := .osl _ _ _ _) (q_call (vs := [.sl _ _, .int _ _]) (args := [.sl _ _, .int .i64 _]) hb70 ⟨.inl rfl, .inl rfl, trivial⟩ rfl (fun hA => l2Without_c a (vr (gd a i)) (by omega) hsm) (ic_noSh _) (ic_noRef _)) ?_
  refine rn (v := .int _ _) (q_call (vs := [.sl _ _, .rsl _ _ _ _ _]) (args := [.sl _ _, .sl _ _]) hb22 ⟨.inl rfl, .inl rfl, trivial⟩ (l2_eq rfl (sl_sh (ic_pure _))) (fun hA => at2_c vars M (woS a (vr (gd a i))) hMl hM has hwc) rfl rfl) ?_
  refine rv (v := .bool _) (v_lss (.inl rfl) (.inl rfl)) ?_
  refine r_nil ?_
  refine a_cond rfl (fun ht26 => ?_) (fun ht26 => ?_)
  ·
   skip
   refine a_seq ?_
   refine a_region ?_
   refine rv (v := .bool _) (v_assign (.inl rfl) nf) ?_
   refine r_nil ?_
   refine a_ret ?_
   refine ret1 Tryz.results49 (by decide) (by decide) (Weak.of_eq (bool_eq ?_)) rfl Leaves.nil
   unfold keepsB; rw [keepA_f hi (by rw [hmk] at ht26; simpa using ht26)]; rfl
  ·
   skip
   refine a_skip ?_
   refine a_region ?_
   refine rv (v := .int _ _) (v_move (.inl rfl) nf) ?_
   refine rv (v := .int _ _) (v_add (.inl rfl) (.inl rfl) (fun _ => by omega)) ?_
   refine rv (v := .int _ _) (v_assign (.inl rfl) nf) ?_
   refine r_nil ?_
   refine ⟨i + 1, ent_look ⟨Weak.of_eq rfl, Weak.of_eq rfl, Weak.of_eq rfl, Weak.of_eq rfl, Weak.of_eq (int_eq (by omega)), trivial⟩, ⟨by omega, fun j h1 => by rcases Nat.lt_or_ge j i with h | h; exact g2 j h; (obtain rfl : j = i := by omega); rw [hmk] at ht26; simpa using ht26⟩, by omega⟩
 ·
  skip
  refine a_exit ?_
  refine a_seq ?_
  refine a_seq ?_
  have hkA : keepA M a = true := keepA_t fun k hk => g2 k (by simp at ht14; omega)
  refine a_region ?_
  refine rv (v := .int _ _) (v_assign (.inl rfl) nf) ?_
  refine r_nil ?_
  refine a_block ?_
  refine a_loop (X := Nat) (fun k => look [(1, .int .i64 w), (2, .sl (sls M) M.length), (3, .sl (icells a) a.length), (4, .op [.int .i64 vars, .sl (sls L) L.length]), (10, .int .i64 ((k : Int) + 1))]) (fun k => (k : Int) ≤ vars ∧ ∀ v, 1 ≤ v → v ≤ (k : Int) → keepV M a v = true) (fun k => vars.toNat - k) 0 (ent_look ⟨Weak.of_eq rfl, Weak.of_eq rfl, Weak.of_eq rfl, Weak.of_eq rfl, Weak.of_eq (int_eq (by omega)), trivial⟩) ⟨by omega, fun j h1 h2 => by omega⟩ (fun k hG => ?_)
  obtain ⟨k1, k2⟩ := hG
  refine a_seq ?_
  refine a_seq ?_
  refine a_region ?_
  refine rv (v := .int _ _) (v_move (.inl rfl) nf) ?_
  refine rv (v := .rp _ _) (v_fieldAddr_rp fo30_0 (.inl rfl)) ?_
  refine rv (v := .int _ _) (v_load_rp1 ta3 (.inl rfl) rfl (fun _ => rfl) rfl) ?_
  refine rv (v := .bool _) (v_leq (.inl rfl) (.inl rfl)) ?_
  refine rv (v := .bool _) (v_move (.inl rfl) nf) ?_
  refine r_gval (v := .sl _ _) (v_move (.inl rfl) nf) rfl rfl rfl (by decide) (.inl ⟨_, rfl, rfl⟩) rfl (by decide) ?_
  refine r_gval (v := .int _ _) (v_len_sl sl25 (.inr ⟨_, rfl, fun h => h⟩)) rfl rfl rfl (by decide) (.inl ⟨_, rfl, rfl⟩) rfl (by decide) ?_
  refine r_gval (v := .int _ _) (v_move (.inl rfl) nf) rfl rfl rfl (by decide) (.inl ⟨_, rfl, rfl⟩) rfl (by decide) ?_
  refine r_gval (v := .bool _) (v_leq (.inr ⟨_, rfl, fun h => h⟩) (.inr ⟨_, rfl, fun h => h⟩)) rfl rfl rfl (by decide) (.inl ⟨_, rfl, rfl⟩) rfl (by decide) ?_
  refine rv (v := .bool _) (v_pick (.inl rfl) (.inr ⟨_, rfl, fun h h2 => by simp_all⟩) (.inl rfl)) ?_
  refine r_nil ?_
  refine a_cond rfl (fun ht36 => ?_) (fun ht36 => ?_)
  ·
   skip
   refine a_skip ?_
   refine a_seq ?_
   refine a_block ?_
   refine a_seq ?_
   have hkk : ((k : Int) + 1) ≤ vars ∧ (a.length : Int) ≤ w := (by simpa using ht36)
   have hpc := fun ho => put_cl hca (v := ((k : Int) + 1)) ⟨by omega, hkk.1⟩ ho
   have hkv : (bif (bif (bif !decide (((k : Int) + 1) ∈ a) then !decide (-((k : Int) + 1) ∈ a) else false) then decide (atL M (putL a ((k : Int) + 1)) < 0) else false) then decide (atL M (putL a (-((k : Int) + 1))) < 0) else false) = !keepV M a ((k : Int) + 1) := (by rw [atL_neg has, atL_neg has]; unfold keepV opB; cases decide (((k : Int) + 1) ∈ a) <;> cases decide (-((k : Int) + 1) ∈ a) <;> cases decide ((putL a ((k : Int) + 1)) ∈ M) <;> cases decide ((putL a (-((k : Int) + 1))) ∈ M) <;> rfl)
   refine a_region ?_
   refine rv (v := .sl _ _) (v_move (.inl rfl) nf) ?_
   refine rv (v := .int _ _) (v_move (.inl rfl) nf) ?_
   refine rn (v := .bool _) (q_call (vs := [.sl _ _, .int _ _]) (args := [.sl _ _, .int .i64 _]) hb20 ⟨.inl rfl, .inl rfl, trivial⟩ rfl (fun hA => has2_c _ _ _ ⟨rfl, by omega⟩) rfl rfl) ?_
   refine rv (v := .bool _) (v_not (.inl rfl)) ?_
   refine rv (v := .bool _) (v_move (.inl rfl) nf) ?_
   refine r_gval (v := .sl _ _) (v_move (.inl rfl) nf) rfl rfl rfl (by decide) (.inl ⟨_, rfl, rfl⟩) rfl (by decide) ?_
   refine r_gval (v := .int _ _) (v_move (.inl rfl) nf) rfl rfl rfl (by decide) (.inl ⟨_, rfl, rfl⟩) rfl (by decide) ?_
   refine r_gval (v := .int _ _) (v_neg (.inr ⟨_, rfl, fun h => h⟩) (fun hA => by simp at hA; omega)) rfl rfl rfl (by decide) (.inl ⟨_, rfl, rfl⟩) rfl (by decide) ?_
   refine r_guard (v := .bool _) (q_call (vs := [.sl _ _, .int _ _]) (args := [.sl _ _, .int .i64 _]) hb20 ⟨.inr ⟨_, rfl, fun h => h⟩, .inr ⟨_, rfl, fun h => h⟩, trivial⟩ rfl (fun hA => has2_c _ _ _ ⟨rfl, by omega⟩) rfl rfl) rfl rfl rfl (by decide) (.inl ⟨_, rfl, rfl⟩) rfl (by decide) ?_
   refine r_gval (v := .bool _) (v_not (.inr ⟨_, rfl, fun h => h⟩)) rfl rfl rfl (by decide) (.inl ⟨_, rfl, rfl⟩) rfl (by decide) ?_
   refine rv (v := .bool _) (v_pick (.inl rfl) (.inr ⟨_, rfl, fun h h2 => by simp_all⟩) (.inl rfl)) ?_
   refine rv (v := .bool _) (v_move (.inl rfl) nf) ?_
   refine r_gval (v := .sl _ _) (v_move (.inl rfl) nf) rfl rfl rfl (by decide) (.inl ⟨_, rfl, rfl⟩) rfl (by decide) ?_
   refine r_gval (v := .sl _ _) (v_move (.inl rfl) nf) rfl rfl rfl (by decide) (.inl ⟨_, rfl, rfl⟩) rfl (by decide) ?_
   refine r_gval (v := .int _ _) (v_move (.inl rfl) nf) rfl rfl rfl (by decide) (.inl ⟨_, rfl, rfl⟩) rfl (by decide) ?_
   refine r_guard (v := .sl (icells (putL a ((k : Int) + 1))) (putL a ((k : Int) + 1)).length) (QSem.cast (QSem.cast (q_callZ (vs := [.sl _ _, .int _ _]) (args := [.sl _ _, .int .i64 _]) hb21 ⟨.inr ⟨_, rfl, fun h => h⟩, .inr ⟨_, rfl, fun h => h⟩, trivial⟩ rfl (fun hA => put_c a a.length _ ⟨rfl, by omega⟩ hsm (by omega)) (ic_noSh _) (ic_noRef _)) (sl_shZ (ic_pure _))) (sl_eq2 rfl (putL_length _ _).symm)) rfl rfl rfl (by decide) (.inl ⟨_, rfl, rfl⟩) rfl (by decide) ?_
   refine r_guard (v := .int _ _) (q_call (vs := [.sl _ _, .sl _ _]) (args := [.sl _ _, .sl _ _]) hb22 ⟨.inr ⟨_, rfl, fun h => h⟩, .inr ⟨_, rfl, fun h => h⟩, trivial⟩ rfl (fun hA => at2_c vars M (putL a ((k : Int) + 1)) hMl hM has (hpc (show opB a ((k : Int) + 1) = true by unfold opB; revert hA; cases decide (((k : Int) + 1) ∈ a) <;> cases decide (-((k : Int) + 1) ∈ a) <;> simp)).1) rfl rfl) rfl rfl rfl (by decide) (.inl ⟨_, rfl, rfl⟩) rfl (by decide) ?_
   refine r_gval (v := .bool _) (v_lss (.inr ⟨_, rfl, fun h => h⟩) (.inl rfl)) rfl rfl rfl (by decide) (.inl ⟨_, rfl, rfl⟩) rfl (by decide) ?_
   refine rv (v := .bool _) (v_pick (.inl rfl) (.inr ⟨_, rfl, fun h h2 => by simp_all⟩) (.inl rfl)) ?_
   refine rv (v := .bool _) (v_move (.inl rfl) nf) ?_
   refine r_gval (v := .sl _ _) (v_move (.inl rfl) nf) rfl rfl rfl (by decide) (.inl ⟨_, rfl, rfl⟩) rfl (by decide) ?_
   refine r_gval (v := .sl _ _) (v_move (.inl rfl) nf) rfl rfl rfl (by decide) (.inl ⟨_, rfl, rfl⟩) rfl (by decide) ?_
   refine r_gval (v := .int _ _) (v_move (.inl rfl) nf) rfl rfl rfl (by decide) (.inl ⟨_, rfl, rfl⟩) rfl (by decide) ?_
   refine r_gval (v := .int _ _) (v_neg (.inr ⟨_, rfl, fun h => h⟩) (fun hA => by simp at hA; omega)) rfl rfl rfl (by decide) (.inl ⟨_, rfl, rfl⟩) rfl (by decide) ?_
   refine r_guard (v := .sl (icells (putL a (-((k : Int) + 1)))) (putL a (-((k : Int) + 1))).length) (QSem.cast (QSem.cast (q_callZ (vs := [.sl _ _, .int _ _]) (args := [.sl _ _, .int .i64 _]) hb21 ⟨.inr ⟨_, rfl, fun h => h⟩, .inr ⟨_, rfl, fun h => h⟩, trivial⟩ rfl (fun hA => put_c a a.length _ ⟨rfl, by omega⟩ hsm (by omega)) (ic_noSh _) (ic_noRef _)) (sl_shZ (ic_pure _))) (sl_eq2 rfl (putL_length _ _).symm)) rfl rfl rfl (by decide) (.inl ⟨_, rfl, rfl⟩) rfl (by decide) ?_
   refine r_guard (v := .int _ _) (q_call (vs := [.sl _ _, .sl _ _]) (args := [.sl _ _, .sl _ _]) hb22 ⟨.inr ⟨_, rfl, fun h => h⟩, .inr ⟨_, rfl, fun h => h⟩, trivial⟩ rfl (fun hA => at2_c vars M (putL a (-((k : Int) + 1))) hMl hM has (hpc (show opB a ((k : Int) + 1) = true by unfold opB; revert hA; cases decide (((k : Int) + 1) ∈ a) <;> cases decide (-((k : Int) + 1) ∈ a) <;> simp)).2) rfl rfl) rfl rfl rfl (by decide) (.inl ⟨_, rfl, rfl⟩) rfl (by decide) ?_
   refine r_gval (v := .bool _) (v_lss (.inr ⟨_, rfl, fun h => h⟩) (.inl rfl)) rfl rfl rfl (by decide) (.inl ⟨_, rfl, rfl⟩) rfl (by decide) ?_
   refine rv (v := .bool _) (v_pick (.inl rfl) (.inr ⟨_, rfl, fun h h2 => by simp_all⟩) (.inl rfl)) ?_
   refine r_nil ?_
   refine a_cond rfl (fun ht66 => ?_) (fun ht66 => ?_)
   ·
    skip
    refine a_seq ?_
    refine a_pre (ent_look (L := [(1, .int _ _), (2, .sl _ _), (3, .sl _ _), (4, .op [.int _ _, .sl _ _]), (10, .int _ _)]) ⟨Weak.rfl, Weak.rfl, Weak.rfl, Weak.rfl, Weak.rfl, trivial⟩) ?_
    refine a_region ?_
    refine rv (v := .bool _) (v_assign (.inl rfl) nf) ?_
    refine r_nil ?_
    refine a_ret ?_
    refine ret1 Tryz.results49 (by decide) (by decide) (Weak.of_eq (bool_eq ?_)) rfl Leaves.nil
    unfold keepsB; rw [keepV_f (v := ((k : Int) + 1)) ⟨by omega, hkk.1⟩ (by rw [hkv] at ht66; simpa using ht66), show decide (w < (a.length : Int)) = false from decide_eq_false (by omega)]; simp
   ·
    skip
    refine a_skip ?_
    refine a_pre (ent_look (L := [(1, .int _ _), (2, .sl _ _), (3, .sl _ _), (4, .op [.int _ _, .sl _ _]), (10, .int _ _)]) ⟨Weak.rfl, Weak.rfl, Weak.rfl, Weak.rfl, Weak.rfl, trivial⟩) ?_
    refine a_region ?_
    refine rv (v := .int _ _) (v_move (.inl rfl) nf) ?_
    refine rv (v := .int _ _) (v_add (.inl rfl) (.inl rfl) (fun _ => by omega)) ?_
    refine rv (v := .int _ _) (v_assign (.inl rfl) nf) ?_
    refine r_nil ?_
    refine ⟨k + 1, ent_look ⟨Weak.of_eq rfl, Weak.of_eq rfl, Weak.of_eq rfl, Weak.of_eq rfl, Weak.of_eq (int_eq (by omega)), trivial⟩, ⟨by omega, fun v h1 h2 => by rcases Int.lt_or_le (k : Int) v with h | h; (obtain rfl : v = (k : Int) + 1 := by omega); (rw [hkv] at ht66; simpa using ht66); exact k2 v h1 h⟩, by omega⟩
  ·
   skip
   refine a_exit ?_
   refine a_seq ?_
   refine a_region ?_
   refine rv (v := .bool _) (v_assign (.inl rfl) nf) ?_
   refine r_nil ?_
   refine a_ret ?_
   refine ret1 Tryz.results49 (by decide) (by decide) (Weak.of_eq (bool_eq ?_)) rfl Leaves.nil
   unfold keepsB; rw [hkA, Bool.true_and]; cases hd : decide (w < (a.length : Int)) with | true => rfl | false => exact (keepV_t fun v h1 h2 => k2 v h1 (by have h8 := of_decide_eq_false hd; simp at ht36; omega)).symm
theorem is13_c (vars : Int) (L M : List (List Int)) (w : Int) (hcl : ∀ i, i < L.length → clB vars (gl L i) = true) (hL : L.length ≤ 1048576) (hm : CnfOk vars M) (hv : 0 ≤ vars ∧ vars ≤ 6) (hw : 0 ≤ w ∧ w ≤ 6) : ACall Tryz.prog 29 [.agg [.int .i64 vars, .sl (sls L) L.length], .int .i64 w, .sl (sls M) M.length] [] (.bool (famB vars L w M)) [] := by
 have hm1 := hm.2.1
 have hm2 := hm.2.2.1
 refine ACall.intro Tryz.func29 rfl (N := 68) rfl (by decide) (by simp) ?_
 refine a_seq ?_
 refine a_region ?_
 refine rn (v := .op [.int _ _, .sl _ _]) (q_box (.inl rfl) rfl rfl) ?_
 refine rv (v := .bool _) (v_assign (.inl rfl) nf) ?_
 refine r_nil ?_
 refine a_seq ?_
 refine a_seq ?_
 refine a_region ?_
 refine rv (v := .int _ _) (v_assign (.inl rfl) nf) ?_
 refine r_nil ?_
 refine a_block ?_
 refine a_loop (X := Nat) (fun i => look [(1, .int .i64 w), (2, .sl (sls M) M.length), (3, .op [.int .i64 vars, .sl (sls L) L.length]), (7, .int .i64 ((i : Nat) : Int))]) (fun i => i ≤ M.length ∧ ∀ j, j < i → famI vars L w M j = true) (fun i => M.length - i) 0 (ent_look ⟨Weak.of_eq rfl, Weak.of_eq rfl, Weak.of_eq rfl, Weak.of_eq rfl, trivial⟩) ⟨Nat.zero_le _, fun j h => by omega⟩ (fun i hG => ?_)
 obtain ⟨g1, g2⟩ := hG
 refine a_seq ?_
 refine a_seq ?_
 refine a_region ?_
 refine rv (v := .int _ _) (v_move (.inl rfl) nf) ?_
 refine rv (v := .sl _ _) (v_move (.inl rfl) nf) ?_
 refine rv (v := .int _ _) (v_len_sl sl22 (.inl rfl)) ?_
 refine rv (v := .bool _) (v_lss (.inl rfl) (.inl rfl)) ?_
 refine r_nil ?_
 refine a_cond rfl (fun ht12 => ?_) (fun ht12 => ?_)
 ·
  skip
  refine a_skip ?_
  refine a_seq ?_
  refine a_block ?_
  refine a_seq ?_
  have hi : i < M.length := (by simp at ht12; omega)
  have hrl := len_tot (L := M) (i := i)
  have hrl1 := len_tot (L := M) (i := i - 1)
  have hpr := fun (h0 : 0 < i) => famI_cl (g2 (i - 1) (by omega))
  have hfi : (bif (bif !clB vars (gl M i) then true else !alB L w (gl M i)) then true else bif decide (0 < (i : Int)) then !bfL (gl M (i - 1)) (gl M i) else false) = !famI vars L w M i := (by rw [← famI_spec]; cases clB vars (gl M i) <;> cases alB L w (gl M i) <;> cases hd : decide ((i : Int) > 0) <;> simp_all)
  refine a_region_any mixed (by kernel_rfl) ?_
  refine yv (v := .rp _ _) (v_fieldAddr_rp fo30_0 (.inl rfl)) ?_
  refine yv (v := .int _ _) (v_load_rp1 ta3 (.inl rfl) rfl (fun _ => rfl) rfl) ?_
  refine yv (v := .sl _ _) (v_move (.inl rfl) nf) ?_
  refine yv (v := .int _ _) (v_move (.inl rfl) nf) ?_
  refine yv (v := .pp _ _) (v_indexAddr_sl es22 (.inl rfl) (.inl rfl) (fun _ => ⟨by omega, by omega, sls_ne hi⟩)) ?_
  refine yv (v := .sl (icells (gl M i)) (gl M i).length) (v_load_pp ta25 (.inl rfl) (fun _ => by rw [Nat.mul_one]; exact sls_get hi) rfl) ?_
  refine y_new (v := .bool _) (q_call (vs := [.int _ _, .sl _ _]) (args := [.int .i64 _, .sl _ _]) hb30 ⟨.inl rfl, .inl rfl, trivial⟩ rfl (fun hA => l3Good_c _ _ (by omega) (by omega) (fun j => hm.2.2.2 i j)) rfl rfl) rfl rfl (by decide) (by kernel_rfl) ?_
  refine yv (v := .bool _) (v_not (.inl rfl)) ?_
  refine yv (v := .bool _) (v_move (.inl rfl) nf) ?_
  refine yg (v := .agg [.int _ _, .sl _ _]) (VSem.quiet (v_load_rpa1 ta30 (.inl rfl) rfl rfl (fun _ => rfl) rfl)) rfl rfl rfl (by decide) (.inl ⟨_, rfl, rfl⟩) ?_
  refine yg (v := .int _ _) (v_move (.inl rfl) nf).quiet rfl rfl rfl (by decide) (.inl ⟨_, rfl, rfl⟩) ?_
  refine yg (v := .sl _ _) (v_move (.inl rfl) nf).quiet rfl rfl rfl (by decide) (.inl ⟨_, rfl, rfl⟩) ?_
  refine yg (v := .int _ _) (v_move (.inl rfl) nf).quiet rfl rfl rfl (by decide) (.inl ⟨_, rfl, rfl⟩) ?_
  refine yg (v := .pp _ _) (v_indexAddr_sl es22 (.inr ⟨_, rfl, fun h => h⟩) (.inr ⟨_, rfl, fun h => h⟩) (fun _ => ⟨by omega, by omega, sls_ne hi⟩)).quiet rfl rfl rfl (by decide) (.inl ⟨_, rfl, rfl⟩) ?_
  refine yg (v := .sl (icells (gl M i)) (gl M i).length) (v_load_pp ta25 (.inr ⟨_, rfl, fun h => h⟩) (fun _ => by rw [Nat.mul_one]; exact sls_get hi) rfl).quiet rfl rfl rfl (by decide) (.inl ⟨_, rfl, rfl⟩) ?_
  refine yg (v := .bool _) (q_call (vs := [.agg [.int _ _, .sl _ _], .int _ _, .sl _ _]) (args := [.agg [.int .i64 _, .sl _ _], .int .i64 _, .sl _ _]) hb47 ⟨.inr ⟨_, rfl, fun h => h⟩, .inr ⟨_, rfl, fun h => h⟩, .inr ⟨_, rfl, fun h => h⟩, trivial⟩ rfl (fun hA => allow13_c vars L (gl M i) w hcl hL (by omega) hw) rfl rfl) rfl rfl rfl (by decide) (.inl ⟨_, rfl, rfl⟩) ?_
  refine yg (v := .bool _) (v_not (.inr ⟨_, rfl, fun h => h⟩)).quiet rfl rfl rfl (by decide) (.inl ⟨_, rfl, rfl⟩) ?_
  refine yv (v := .bool _) (v_pick (.inl rfl) (.inl rfl) (.inr ⟨_, rfl, fun h h2 => by simp_all⟩)) ?_
  refine yv (v := .bool _) (v_move (.inl rfl) nf) ?_
  refine yg (v := .int _ _) (v_move (.inl rfl) nf).quiet rfl rfl rfl (by decide) (.inl ⟨_, rfl, rfl⟩) ?_
  refine yg (v := .bool _) (v_gtr (.inr ⟨_, rfl, fun h => h⟩) (.inl rfl)).quiet rfl rfl rfl (by decide) (.inl ⟨_, rfl, rfl⟩) ?_
  refine yg (v := .bool _) (v_move (.inr ⟨_, rfl, fun h => h⟩) nf).quiet rfl rfl rfl (by decide) (.inl ⟨_, rfl, rfl⟩) ?_
  refine yg (v := .sl _ _) (v_move (.inl rfl) nf).quiet rfl rfl rfl (by decide) (.inr ⟨_, _, rfl, rfl⟩) ?_
  refine yg (v := .int _ _) (v_move (.inl rfl) nf).quiet rfl rfl rfl (by decide) (.inr ⟨_, _, rfl, rfl⟩) ?_
  refine yg (v := .int _ _) (v_sub (.inr ⟨_, rfl, fun h => h⟩) (.inl rfl) (fun _ => by omega)).quiet rfl rfl rfl (by decide) (.inr ⟨_, _, rfl, rfl⟩) ?_
  refine yg (v := .pp _ _) (v_indexAddr_sl es22 (.inr ⟨_, rfl, fun h => h⟩) (.inr ⟨_, rfl, fun h => h⟩) (fun hA => by simp at hA; exact ⟨by omega, by omega, sls_ne (by omega)⟩)).quiet rfl rfl rfl (by decide) (.inr ⟨_, _, rfl, rfl⟩) ?_
  refine yg (v := .sl (icells (gl M (i - 1))) (gl M (i - 1)).length) (v_load_pp ta25 (.inr ⟨_, rfl, fun h => h⟩) (fun hA => by simp at hA; rw [show ((i : Int) - 1).toNat = i - 1 by omega, Nat.mul_one]; exact sls_get (by omega)) rfl).quiet rfl rfl rfl (by decide) (.inr ⟨_, _, rfl, rfl⟩) ?_
  refine yg (v := .sl _ _) (v_move (.inl rfl) nf).quiet rfl rfl rfl (by decide) (.inr ⟨_, _, rfl, rfl⟩) ?_
  refine yg (v := .int _ _) (v_move (.inl rfl) nf).quiet rfl rfl rfl (by decide) (.inr ⟨_, _, rfl, rfl⟩) ?_
  refine yg (v := .pp _ _) (v_indexAddr_sl es22 (.inr ⟨_, rfl, fun h => h⟩) (.inr ⟨_, rfl, fun h => h⟩) (fun _ => ⟨by omega, by omega, sls_ne hi⟩)).quiet rfl rfl rfl (by decide) (.inr ⟨_, _, rfl, rfl⟩) ?_
  refine yg (v := .sl (icells (gl M i)) (gl M i).length) (v_load_pp ta25 (.inr ⟨_, rfl, fun h => h⟩) (fun _ => by rw [Nat.mul_one]; exact sls_get hi) rfl).quiet rfl rfl rfl (by decide) (.inr ⟨_, _, rfl, rfl⟩) ?_
  refine yg (v := .bool _) (q_call (vs := [.sl _ _, .sl _ _]) (args := [.sl _ _, .sl _ _]) hb48 ⟨.inr ⟨_, rfl, fun h => h⟩, .inr ⟨_, rfl, fun h => h⟩, trivial⟩ rfl (fun hA => bef2_c (gl M (i - 1)) (gl M i) (by omega) (by omega) (cl_sm6 (hpr (by simp at hA; omega))) (cl_sm6 (by simp at hA; exact hA.1.1))) rfl rfl) rfl rfl rfl (by decide) (.inr ⟨_, _, rfl, rfl⟩) ?_
  refine yg (v := .bool _) (v_not (.inr ⟨_, rfl, fun h => h⟩)).quiet rfl rfl rfl (by decide) (.inr ⟨_, _, rfl, rfl⟩) ?_
  refine yg (v := .bool _) (v_pick (.inr ⟨_, rfl, fun h => h⟩) (.inr ⟨_, rfl, fun h h2 => by simp_all⟩) (.inl rfl)).quiet rfl rfl rfl (by decide) (.inl ⟨_, rfl, rfl⟩) ?_
  refine yv (v := .bool _) (v_pick (.inl rfl) (.inl rfl) (.inr ⟨_, rfl, fun h h2 => by simp_all⟩)) ?_
  refine y_nil ?_
  refine a_cond rfl (fun ht49 => ?_) (fun ht49 => ?_)
  ·
   skip
   refine a_seq ?_
   refine a_pre (ent_look (L := [(1, .int _ _), (2, .sl _ _), (3, .op [.int _ _, .sl _ _]), (7, .int _ _)]) ⟨Weak.rfl, Weak.rfl, Weak.rfl, Weak.rfl, trivial⟩) ?_
   refine a_region ?_
   refine rv (v := .bool _) (v_assign (.inl rfl) nf) ?_
   refine r_nil ?_
   refine a_ret ?_
   refine ret1 Tryz.results29 (by decide) (by decide) (Weak.of_eq (bool_eq ?_)) rfl Leaves.nil
   rw [famO_f hi (by rw [hfi] at ht49; simpa using ht49)]
  ·
   skip
   refine a_skip ?_
   refine a_pre (ent_look (L := [(1, .int _ _), (2, .sl _ _), (3, .op [.int _ _, .sl _ _]), (7, .int _ _)]) ⟨Weak.rfl, Weak.rfl, Weak.rfl, Weak.rfl, trivial⟩) ?_
   refine a_region ?_
   refine rv (v := .int _ _) (v_move (.inl rfl) nf) ?_
   refine rv (v := .int _ _) (v_add (.inl rfl) (.inl rfl) (fun _ => by omega)) ?_
   refine rv (v := .int _ _) (v_assign (.inl rfl) nf) ?_
   refine r_nil ?_
   refine ⟨i + 1, ent_look ⟨Weak.of_eq rfl, Weak.of_eq rfl, Weak.of_eq rfl, Weak.of_eq (int_eq (by omega)), trivial⟩, ⟨by omega, fun j h1 => by rcases Nat.lt_or_ge j i with h | h; exact g2 j h; (obtain rfl : j = i := by omega); rw [hfi] at ht49; simpa using ht49⟩, by omega⟩
 ·
  skip
  refine a_exit ?_
  refine a_seq ?_
  refine a_seq ?_
  have hfo := famO_spec (vars := vars) (L := L) (w := w) (M := M) (fun j hj => g2 j (by simp at ht12; omega))
  refine a_region ?_
  refine rv (v := .int _ _) (v_assign (.inl rfl) nf) ?_
  refine r_nil ?_
  refine a_block ?_
  refine a_loop (X := Nat) (fun k => look [(1, .int .i64 w), (2, .sl (sls M) M.length), (3, .op [.int .i64 vars, .sl (sls L) L.length]), (8, .int .i64 ((k : Nat) : Int))]) (fun k => k ≤ M.length ∧ ∀ j, j < k → keepsB vars w M (gl M j) = true) (fun k => M.length - k) 0 (ent_look ⟨Weak.of_eq rfl, Weak.of_eq rfl, Weak.of_eq rfl, Weak.of_eq rfl, trivial⟩) ⟨Nat.zero_le _, fun j h => by omega⟩ (fun k hG => ?_)
  obtain ⟨k1, k2⟩ := hG
  refine a_seq ?_
  refine a_seq ?_
  refine a_region ?_
  refine rv (v := .int _ _) (v_move (.inl rfl) nf) ?_
  refine rv (v := .sl _ _) (v_move (.inl rfl) nf) ?_
  refine rv (v := .int _ _) (v_len_sl sl22 (.inl rfl)) ?_
  refine rv (v := .bool _) (v_lss (.inl rfl) (.inl rfl)) ?_
  refine r_nil ?_
  refine a_cond rfl (fun ht53 => ?_) (fun ht53 => ?_)
  ·
   skip
   refine a_skip ?_
   refine a_seq ?_
   refine a_block ?_
   refine a_seq ?_
   have hk : k < M.length := (by simp at ht53; omega)
   refine a_region_any mixed (by kernel_rfl) ?_
   refine yv (v := .agg [.int _ _, .sl _ _]) (v_load_rpa1 ta30 (.inl rfl) rfl rfl (fun _ => rfl) rfl) ?_
   refine yv (v := .int _ _) (v_move (.inl rfl) nf) ?_
   refine yv (v := .sl _ _) (v_move (.inl rfl) nf) ?_
   refine yv (v := .sl _ _) (v_move (.inl rfl) nf) ?_
   refine yv (v := .int _ _) (v_move (.inl rfl) nf) ?_
   refine yv (v := .pp _ _) (v_indexAddr_sl es22 (.inl rfl) (.inl rfl) (fun _ => ⟨by omega, by omega, sls_ne hk⟩)) ?_
   refine yv (v := .sl (icells (gl M k)) (gl M k).length) (v_load_pp ta25 (.inl rfl) (fun _ => by rw [Nat.mul_one]; exact sls_get hk) rfl) ?_
   refine y_new (v := .bool _) (q_call (vs := [.agg [.int _ _, .sl _ _], .int _ _, .sl _ _, .sl _ _]) (args := [.agg [.int .i64 _, .sl _ _], .int .i64 _, .sl _ _, .sl _ _]) hb49 ⟨.inl rfl, .inl rfl, .inl rfl, .inl rfl, trivial⟩ rfl (fun hA => keeps13_c vars L M w (gl M k) (by omega) hfo.2.1 hfo.2.2 (hfo.2.1 k hk)) rfl rfl) rfl rfl (by decide) (by kernel_rfl) ?_
   refine yv (v := .bool _) (v_not (.inl rfl)) ?_
   refine y_nil ?_
   refine a_cond rfl (fun ht64 => ?_) (fun ht64 => ?_)
   ·
    skip
    refine a_seq ?_
    refine a_region ?_
    refine rv (v := .bool _) (v_assign (.inl rfl) nf) ?_
    refine r_nil ?_
    refine a_ret ?_
    refine ret1 Tryz.results29 (by decide) (by decide) (Weak.of_eq (bool_eq ?_)) rfl Leaves.nil
    unfold famB famK; rw [List.all_eq_false.2 ⟨k, List.mem_range.2 hk, by simpa using ht64⟩]; simp
   ·
    skip
    refine a_skip ?_
    refine a_region ?_
    refine rv (v := .int _ _) (v_move (.inl rfl) nf) ?_
    refine rv (v := .int _ _) (v_add (.inl rfl) (.inl rfl) (fun _ => by omega)) ?_
    refine rv (v := .int _ _) (v_assign (.inl rfl) nf) ?_
    refine r_nil ?_
    refine ⟨k + 1, ent_look ⟨Weak.of_eq rfl, Weak.of_eq rfl, Weak.of_eq rfl, Weak.of_eq (int_eq (by omega)), trivial⟩, ⟨by omega, fun j h1 => by rcases Nat.lt_or_ge j k with h | h; exact k2 j h; (obtain rfl : j = k := by omega); simpa using ht64⟩, by omega⟩
  ·
   skip
   refine a_exit ?_
   refine a_seq ?_
   refine a_region ?_
   refine rv (v := .sl _ _) (v_move (.inl rfl) nf) ?_
   refine rv (v := .int _ _) (v_len_sl sl22 (.inl rfl)) ?_
   refine rv (v := .bool _) (v_gtr (.inl rfl) (.inl rfl)) ?_
   refine rv (v := .bool _) (v_assign (.inl rfl) nf) ?_
   refine r_nil ?_
   refine a_ret ?_
   refine ret1 Tryz.results29 (by decide) (by decide) (Weak.of_eq (bool_eq ?_)) rfl Leaves.nil
   unfold famB famK; rw [hfo.1, List.all_eq_true.2 (fun j hj => k2 j (by have := List.mem_range.1 hj; simp at ht53; omega))]; simp
theorem takes13_c (vars : Int) (L M : List (List Int)) (hk : CnfOk vars L) (hm : CnfOk vars M) (w : Int) (a : List Int) (v : Int) (hla : a.length ≤ 1048576) (hba : ∀ j, -9223372036854775808 ≤ gd a j ∧ gd a j ≤ 9223372036854775807) : ACall Tryz.prog 19 [.agg [.int .i64 vars, .sl (sls L) L.length], .int .i64 w, .sl (sls M) M.length, .sl (icells a) a.length, .int .i64 v] [] (.bool (nwB vars L w && (famB vars L w M) && decide (a ∈ M) && inR v 1 vars)) [] := by
 have hk1 := hk.1
 have hm1 := hm.2.1
 have hm2 := hm.2.2.1
 have hk2 := hk.2.1
 refine ACall.intro Tryz.func19 rfl (N := 43) rfl (by decide) (by simp) ?_
 refine a_seq ?_
 refine a_region ?_
 refine rn (v := .op [.int _ _, .sl _ _]) (q_box (.inl rfl) rfl rfl) ?_
 refine rv (v := .bool _) (v_assign (.inl rfl) nf) ?_
 refine r_nil ?_
 refine a_seq ?_
 refine a_region ?_
 refine rv (v := .agg [.int _ _, .sl _ _]) (v_load_rpa1 ta30 (.inl rfl) rfl rfl (fun _ => rfl) rfl) ?_
 refine rv (v := .int _ _) (v_move (.inl rfl) nf) ?_
 refine rn (v := .bool _) (q_call (vs := [.agg [.int _ _, .sl _ _], .int _ _]) (args := [.agg [.int .i64 _, .sl _ _], .int .i64 _]) hb28 ⟨.inl rfl, .inl rfl, trivial⟩ rfl (fun hA => asked13_c vars L hk w) rfl rfl) ?_
 refine rv (v := .bool _) (v_move (.inl rfl) nf) ?_
 refine r_gval (v := .sl _ _) (v_move (.inl rfl) nf) rfl rfl rfl (by decide) (.inl ⟨_, rfl, rfl⟩) rfl (by decide) ?_
 refine r_gval (v := .int _ _) (v_len_sl sl22 (.inr ⟨_, rfl, fun h => h⟩)) rfl rfl rfl (by decide) (.inl ⟨_, rfl, rfl⟩) rfl (by decide) ?_
 refine r_gval (v := .bool _) (v_leq (.inr ⟨_, rfl, fun h => h⟩) (.inl rfl)) rfl rfl rfl (by decide) (.inl ⟨_, rfl, rfl⟩) rfl (by decide) ?_
 refine rv (v := .bool _) (v_pick (.inl rfl) (.inr ⟨_, rfl, fun h h2 => by simp_all⟩) (.inl rfl)) ?_
 refine rv (v := .bool _) (v_move (.inl rfl) nf) ?_
 refine r_gval (v := .agg [.int _ _, .sl _ _]) (v_load_rpa1 ta30 (.inl rfl) rfl rfl (fun _ => rfl) rfl) rfl rfl rfl (by decide) (.inl ⟨_, rfl, rfl⟩) rfl (by decide) ?_
 refine r_gval (v := .int _ _) (v_move (.inl rfl) nf) rfl rfl rfl (by decide) (.inl ⟨_, rfl, rfl⟩) rfl (by decide) ?_
 refine r_gval (v := .sl _ _) (v_move (.inl rfl) nf) rfl rfl rfl (by decide) (.inl ⟨_, rfl, rfl⟩) rfl (by decide) ?_
 refine r_guard (v := .bool _) (q_call (vs := [.agg [.int _ _, .sl _ _], .int _ _, .sl _ _]) (args := [.agg [.int .i64 _, .sl _ _], .int .i64 _, .sl _ _]) hb29 ⟨.inr ⟨_, rfl, fun h => h⟩, .inr ⟨_, rfl, fun h => h⟩, .inr ⟨_, rfl, fun h => h⟩, trivial⟩ rfl (fun hA => is13_c vars L M w (cnfB_spec (nwB_spec (show nwB vars L w = true by simp at hA; exact hA.1)).1).2.2 hk2 hm ⟨(cnfB_spec (nwB_spec (show nwB vars L w = true by simp at hA; exact hA.1)).1).1.1, (nwB_spec (show nwB vars L w = true by simp at hA; exact hA.1)).2.1⟩ (nwB_spec (show nwB vars L w = true by simp at hA; exact hA.1)).2.2) rfl rfl) rfl rfl rfl (by decide) (.inl ⟨_, rfl, rfl⟩) rfl (by decide) ?_
 refine rv (v := .bool _) (v_pick (.inl rfl) (.inr ⟨_, rfl, fun h h2 => by simp_all⟩) (.inl rfl)) ?_
 refine rv (v := .bool _) (v_move (.inl rfl) nf) ?_
 refine r_gval (v := .rp _ _) (v_fieldAddr_rp fo30_0 (.inl rfl)) rfl rfl rfl (by decide) (.inl ⟨_, rfl, rfl⟩) rfl (by decide) ?_
 refine r_gval (v := .int _ _) (v_load_rp1 ta3 (.inr ⟨_, rfl, fun h => h⟩) rfl (fun _ => rfl) rfl) rfl rfl rfl (by decide) (.inl ⟨_, rfl, rfl⟩) rfl (by decide) ?_
 refine r_gval (v := .sl _ _) (v_move (.inl rfl) nf) rfl rfl rfl (by decide) (.inl ⟨_, rfl, rfl⟩) rfl (by decide) ?_
 refine r_guard (v := .bool _) (q_call (vs := [.int _ _, .sl _ _]) (args := [.int .i64 _, .sl _ _]) hb30 ⟨.inr ⟨_, rfl, fun h => h⟩, .inr ⟨_, rfl, fun h => h⟩, trivial⟩ rfl (fun hA => l3Good_c _ _ (by omega) (by omega) hba) rfl rfl) rfl rfl rfl (by decide) (.inl ⟨_, rfl, rfl⟩) rfl (by decide) ?_
 refine rv (v := .bool _) (v_pick (.inl rfl) (.inr ⟨_, rfl, fun h h2 => by simp_all⟩) (.inl rfl)) ?_
 refine rv (v := .bool _) (v_move (.inl rfl) nf) ?_
 refine r_gval (v := .sl _ _) (v_move (.inl rfl) nf) rfl rfl rfl (by decide) (.inl ⟨_, rfl, rfl⟩) rfl (by decide) ?_
 refine r_gval (v := .sl _ _) (v_move (.inl rfl) nf) rfl rfl rfl (by decide) (.inl ⟨_, rfl, rfl⟩) rfl (by decide) ?_
 refine r_guard (v := .int _ _) (q_call (vs := [.sl _ _, .sl _ _]) (args := [.sl _ _, .sl _ _]) hb22 ⟨.inr ⟨_, rfl, fun h => h⟩, .inr ⟨_, rfl, fun h => h⟩, trivial⟩ rfl (fun hA => at2_c vars M a (by omega) (famB_spec (by simp at hA; exact hA.1.2)).1 (famB_spec (by simp at hA; exact hA.1.2)).2 (by simp at hA; exact hA.2)) rfl rfl) rfl rfl rfl (by decide) (.inl ⟨_, rfl, rfl⟩) rfl (by decide) ?_
 refine r_gval (v := .bool _) (v_geq (.inr ⟨_, rfl, fun h => h⟩) (.inl rfl)) rfl rfl rfl (by decide) (.inl ⟨_, rfl, rfl⟩) rfl (by decide) ?_
 refine rv (v := .bool _) (v_pick (.inl rfl) (.inr ⟨_, rfl, fun h h2 => by simp_all⟩) (.inl rfl)) ?_
 refine rv (v := .bool _) (v_move (.inl rfl) nf) ?_
 refine r_gval (v := .int _ _) (v_move (.inl rfl) nf) rfl rfl rfl (by decide) (.inl ⟨_, rfl, rfl⟩) rfl (by decide) ?_
 refine r_gval (v := .rp _ _) (v_fieldAddr_rp fo30_0 (.inl rfl)) rfl rfl rfl (by decide) (.inl ⟨_, rfl, rfl⟩) rfl (by decide) ?_
 refine r_gval (v := .int _ _) (v_load_rp1 ta3 (.inr ⟨_, rfl, fun h => h⟩) rfl (fun _ => rfl) rfl) rfl rfl rfl (by decide) (.inl ⟨_, rfl, rfl⟩) rfl (by decide) ?_
 refine r_guard (v := .bool _) (q_call (vs := [.int _ _, .int _ _, .int _ _]) (args := [.int .i64 _, .int .i64 _, .int .i64 _]) hb31 ⟨.inr ⟨_, rfl, fun h => h⟩, .inl rfl, .inr ⟨_, rfl, fun h => h⟩, trivial⟩ rfl (fun hA => l1In_c _ _ _) rfl rfl) rfl rfl rfl (by decide) (.inl ⟨_, rfl, rfl⟩) rfl (by decide) ?_
 refine rv (v := .bool _) (v_pick (.inl rfl) (.inr ⟨_, rfl, fun h h2 => by simp_all⟩) (.inl rfl)) ?_
 refine rv (v := .bool _) (v_assign (.inl rfl) nf) ?_
 refine r_nil ?_
 refine a_ret ?_
 refine ret1 Tryz.results19 (by decide) (by decide) (Weak.of_eq (bool_eq ?_)) rfl Leaves.nil
 exact takes_eq
end Go.Av
namespace Go.Av
open Go Go.Proofs Go.Sort
set_option maxRecDepth 10000
theorem hb19 : hasBody Tryz.prog 19 = true := by kernel_rfl
theorem hb23 : hasBody Tryz.prog 23 = true := by kernel_rfl
theorem hb24 : hasBody Tryz.prog 24 = true := by kernel_rfl
theorem hb26 : hasBody Tryz.prog 26 = true := by kernel_rfl
theorem iAns_c (vars : Int) (L M : List (List Int)) (hk : CnfOk vars L) (hm : CnfOk vars M) (w : Int) (a : List Int) (v : Int) (hla : a.length ≤ 1048576) (hba : ∀ j, -9223372036854775808 ≤ gd a j ∧ gd a j ≤ 9223372036854775807) (hvv : -9223372036854775808 ≤ v ∧ v ≤ 9223372036854775807) : ACall Tryz.prog 10 [.agg [.int .i64 vars, .sl (sls L) L.length], .int .i64 w, .sl (sls M) M.length, .sl (icells a) a.length, .int .i64 v] [] (.tup [.osl 1 (icells (ansR vars L w M a v)) (ansR vars L w M a v).length none, .bool (ansOk vars L w M a v)]) [] := by
 have hk1 := hk.1
 have hm1 := hm.2.1
 have hm2 := hm.2.2.1
 have hk2 := hk.2.1
 refine ACall.intro Tryz.func10 rfl (N := 50) rfl (by decide) (by simp) ?_
 refine a_seq ?_
 refine a_region ?_
 refine rn (v := .op [.int _ _, .sl _ _]) (q_box (.inl rfl) rfl rfl) ?_
 refine rv (v := .nils) (v_assign (.inl rfl) nf) ?_
 refine rv (v := .bool _) (v_assign (.inl rfl) nf) ?_
 refine r_nil ?_
 refine a_seq ?_
 refine a_seq ?_
 refine a_region ?_
 refine rv (v := .agg [.int _ _, .sl _ _]) (v_load_rpa1 ta30 (.inl rfl) rfl rfl (fun _ => rfl) rfl) ?_
 refine rv (v := .int _ _) (v_move (.inl rfl) nf) ?_
 refine rv (v := .sl _ _) (v_move (.inl rfl) nf) ?_
 refine rv (v := .sl _ _) (v_move (.inl rfl) nf) ?_
 refine rn (v := .bool _) (q_call (vs := [.agg [.int _ _, .sl _ _], .int _ _, .sl _ _, .sl _ _]) (args := [.agg [.int .i64 _, .sl _ _], .int .i64 _, .sl _ _, .sl _ _]) hb23 ⟨.inl rfl, .inl rfl, .inl rfl, .inl rfl, trivial⟩ rfl (fun hA => memb_c vars L M hk hm w a hla) rfl rfl) ?_
 refine rv (v := .bool _) (v_not (.inl rfl)) ?_
 refine rv (v := .bool _) (v_move (.inl rfl) nf) ?_
 refine r_gval (v := .sl _ _) (v_move (.inl rfl) nf) rfl rfl rfl (by decide) (.inl ⟨_, rfl, rfl⟩) rfl (by decide) ?_
 refine r_gval (v := .int _ _) (v_len_sl sl25 (.inr ⟨_, rfl, fun h => h⟩)) rfl rfl rfl (by decide) (.inl ⟨_, rfl, rfl⟩) rfl (by decide) ?_
 refine r_gval (v := .int _ _) (v_move (.inl rfl) nf) rfl rfl rfl (by decide) (.inl ⟨_, rfl, rfl⟩) rfl (by decide) ?_
 refine r_gval (v := .bool _) (v_gtr (.inr ⟨_, rfl, fun h => h⟩) (.inr ⟨_, rfl, fun h => h⟩)) rfl rfl rfl (by decide) (.inl ⟨_, rfl, rfl⟩) rfl (by decide) ?_
 refine rv (v := .bool _) (v_pick (.inl rfl) (.inl rfl) (.inr ⟨_, rfl, fun h h2 => by simp_all⟩)) ?_
 refine rv (v := .bool _) (v_move (.inl rfl) nf) ?_
 refine r_gval (v := .rp _ _) (v_fieldAddr_rp fo30_0 (.inl rfl)) rfl rfl rfl (by decide) (.inl ⟨_, rfl, rfl⟩) rfl (by decide) ?_
 refine r_gval (v := .int _ _) (v_load_rp1 ta3 (.inr ⟨_, rfl, fun h => h⟩) rfl (fun _ => rfl) rfl) rfl rfl rfl (by decide) (.inl ⟨_, rfl, rfl⟩) rfl (by decide) ?_
 refine r_gval (v := .int _ _) (v_move (.inl rfl) nf) rfl rfl rfl (by decide) (.inl ⟨_, rfl, rfl⟩) rfl (by decide) ?_
 refine r_guard (v := .bool _) (q_call (vs := [.int _ _, .int _ _]) (args := [.int .i64 _, .int .i64 _]) hb24 ⟨.inr ⟨_, rfl, fun h => h⟩, .inr ⟨_, rfl, fun h => h⟩, trivial⟩ rfl (fun hA => isVar_c _ _) rfl rfl) rfl rfl rfl (by decide) (.inl ⟨_, rfl, rfl⟩) rfl (by decide) ?_
 refine r_gval (v := .bool _) (v_not (.inr ⟨_, rfl, fun h => h⟩)) rfl rfl rfl (by decide) (.inl ⟨_, rfl, rfl⟩) rfl (by decide) ?_
 refine rv (v := .bool _) (v_pick (.inl rfl) (.inl rfl) (.inr ⟨_, rfl, fun h h2 => by simp_all⟩)) ?_
 refine rv (v := .bool _) (v_move (.inl rfl) nf) ?_
 refine r_gval (v := .int _ _) (v_move (.inl rfl) nf) rfl rfl rfl (by decide) (.inl ⟨_, rfl, rfl⟩) rfl (by decide) ?_
 refine r_guard (v := .sl (icells [v]) [v].length) ((q_sliceLit1Z (v := .int _ _) (.inr ⟨_, rfl, fun h => h⟩) nf lt25 rfl rfl rfl rfl).cast (by first | rfl | rw [shL_id _ (ic_pure _).1 (ic_pure _).2])) rfl rfl rfl (by decide) (.inl ⟨_, rfl, rfl⟩) rfl (by decide) ?_
 refine r_gval (v := .sl _ _) (v_move (.inl rfl) nf) rfl rfl rfl (by decide) (.inl ⟨_, rfl, rfl⟩) rfl (by decide) ?_
 refine r_guard (v := .int _ _) (q_call (vs := [.sl _ _, .sl _ _]) (args := [.sl _ _, .sl _ _]) hb25 ⟨.inr ⟨_, rfl, fun h => h⟩, .inr ⟨_, rfl, fun h => h⟩, trivial⟩ rfl (fun hA => fopen_c [v] a (sm_one (by simp at hA; have h1 := (nwB_spec hA.1.1.1.1).2.1; have h2 := inR_spec.1 hA.2; omega)) (by simp) (by omega)) rfl rfl) rfl rfl rfl (by decide) (.inl ⟨_, rfl, rfl⟩) rfl (by decide) ?_
 refine r_gval (v := .bool _) (v_eql (.inr ⟨_, rfl, fun h => h⟩) (.inl rfl)) rfl rfl rfl (by decide) (.inl ⟨_, rfl, rfl⟩) rfl (by decide) ?_
 refine rv (v := .bool _) (v_pick (.inl rfl) (.inl rfl) (.inr ⟨_, rfl, fun h h2 => by simp_all⟩)) ?_
 refine r_nil ?_
 refine a_cond rfl (fun ht38 => ?_) (fun ht38 => ?_)
 ·
  skip
  refine a_seq ?_
  refine a_region ?_
  refine rv (v := .nils) (v_assign (.inl rfl) nf) ?_
  refine rv (v := .bool _) (v_assign (.inl rfl) nf) ?_
  refine r_nil ?_
  refine a_pre (ent_nil (t := 10) (sz := 1) (cap := none) (.inl rfl) (fun _ h => by cases h)) ?_
  refine a_ret ?_
  refine retL (rs := [.tmp 10, .tmp 11]) [(10, .osl _ _ _ none), (11, _)] ⟨Weak.osl rfl rfl, Weak.rfl, trivial⟩ rfl Tryz.results10 (by decide) ⟨by decide, by decide, rfl⟩ (by decide) (by decide) (l2_eq (osl_eq2 ?_ ?_) (bool_eq ?_)) (by simp [refsL, refs])
  all_goals (have hf : (ansOk vars L w M a v) = false := (by have h9 := ans_impl (vars := vars) (L := L) (w := w) (M := M) (a := a) (v := v); rw [h9] at ht38; simpa using ht38); first | (rw [ans_no hf]; simp [icells, rep]; done) | rw [hf])
 ·
  skip
  refine a_skip ?_
  refine a_seq ?_
  refine a_seq ?_
  have hok : (ansOk vars L w M a v) = true := (by have h9 := ans_impl (vars := vars) (L := L) (w := w) (M := M) (a := a) (v := v); rw [h9] at ht38; simpa using ht38)
  obtain ⟨q1, q2, q3, q4, q5⟩ := ans_spec hok
  obtain ⟨q6, q7⟩ := famB_spec q2
  have q8 := nwB_spec q1
  have hca : clB vars a = true := (by obtain ⟨i, hi, e⟩ := gl_ix q3; rw [← e]; exact q6 i hi)
  have hlc := clB_len hca
  have hsm := clB_sm hca
  have hpc := put_cl hca q4 q5
  have hop := opB_spec.1 q5
  have hv12 := (clB_spec hca).1
  have hs1 : setLit a v = putL a v := set_put hop.1 hop.2
  have hs2 : setLit a (-v) = putL a (-v) := set_put hop.2 (by rw [Int.neg_neg]; exact hop.1)
  refine a_region ?_
  refine rv (v := .sl _ _) (v_move (.inl rfl) nf) ?_
  refine rv (v := .int _ _) (v_move (.inl rfl) nf) ?_
  refine rn (v := .osl 1 (icells (putL a v)) (putL a v).length none) (QSem.cast (q_call (vs := [.sl _ _, .int _ _]) (args := [.sl _ _, .int .i64 _]) hb26 ⟨.inl rfl, .inl rfl, trivial⟩ rfl (fun hA => set_c vars a v hca (litB_spec.2 (by omega))) (ic_noSh _) (ic_noRef _)) (osl_eq2 (by rw [hs1]) (by rw [hs1]))) ?_
  refine rv (v := .rsl _ _ _ _ _) (v_assign (.inl rfl) nf) ?_
  refine r_pre (ent_reloc_sl (t := 12) rfl rfl) ?_
  refine r_nil ?_
  refine a_seq ?_
  refine a_region ?_
  refine rv (v := .sl _ _) (v_move (.inl rfl) nf) ?_
  refine rv (v := .rsl _ _ _ _ _) (v_move (.inl rfl) nf) ?_
  refine rn (v := .bool _) (q_call (vs := [.sl _ _, .rsl _ _ _ _ _]) (args := [.sl _ _, .sl _ _]) hb27 ⟨.inl rfl, .inl rfl, trivial⟩ (l2_eq rfl (sl_sh (ic_pure _))) (fun hA => hasList_c M (putL a v) (fun i => by have := len_tot (L := M) (i := i); omega) (by omega) (by rw [putL_length]; omega)) rfl rfl) ?_
  refine r_nil ?_
  refine a_cond rfl (fun ht44 => ?_) (fun ht44 => ?_)
  ·
   skip
   refine a_seq ?_
   have hm : decide (putL a v ∈ M) = true := (by rw [← fidx_mem]; exact ht44)
   refine a_region ?_
   refine rv (v := .rsl _ _ _ _ _) (v_move (.inl rfl) nf) ?_
   refine rv (v := .rsl _ _ _ _ _) (v_assign (.inl rfl) nf) ?_
   refine r_pre (ent_reloc_sl (t := 10) rfl rfl) ?_
   refine rv (v := .bool _) (v_assign (.inl rfl) nf) ?_
   refine r_nil ?_
   refine a_ret ?_
   refine retL (rs := [.tmp 10, .tmp 11]) [(10, .osl _ _ _ none), (11, _)] ⟨Weak.osl rfl rfl, Weak.rfl, trivial⟩ rfl Tryz.results10 (by decide) ⟨by decide, by decide, rfl⟩ (by decide) (by decide) (l2_eq (osl_eq2 ?_ ?_) (bool_eq ?_)) (by simp [refsL, refs])
   all_goals (first | rw [ans_yes1 hok hm] | rw [hok])
  ·
   skip
   refine a_skip ?_
   refine a_seq ?_
   have hm : decide (putL a v ∈ M) = false := (by rw [← fidx_mem]; exact ht44)
   refine a_region ?_
   refine rv (v := .sl _ _) (v_move (.inl rfl) nf) ?_
   refine rv (v := .int _ _) (v_move (.inl rfl) nf) ?_
   refine rv (v := .int _ _) (v_neg (.inl rfl) (fun _ => by omega)) ?_
   refine rn (v := .osl 1 (icells (putL a (-v))) (putL a (-v)).length none) (QSem.cast (q_call (vs := [.sl _ _, .int _ _]) (args := [.sl _ _, .int .i64 _]) hb26 ⟨.inl rfl, .inl rfl, trivial⟩ rfl (fun hA => set_c vars a (-v) hca (litB_spec.2 (by omega))) (ic_noSh _) (ic_noRef _)) (osl_eq2 (by rw [hs2]) (by rw [hs2]))) ?_
   refine rv (v := .rsl _ _ _ _ _) (v_assign (.inl rfl) nf) ?_
   refine r_pre (ent_reloc_sl (t := 10) rfl rfl) ?_
   refine rv (v := .bool _) (v_assign (.inl rfl) nf) ?_
   refine r_nil ?_
   refine a_ret ?_
   refine retL (rs := [.tmp 10, .tmp 11]) [(10, .osl _ _ _ none), (11, _)] ⟨Weak.osl rfl rfl, Weak.rfl, trivial⟩ rfl Tryz.results10 (by decide) ⟨by decide, by decide, rfl⟩ (by decide) (by decide) (l2_eq (osl_eq2 ?_ ?_) (bool_eq ?_)) (by simp [refsL, refs])
   all_goals (first | rw [ans_yes2 hok hm] | rw [hok])
theorem sAns_c (vars : Int) (L M : List (List Int)) (hk : CnfOk vars L) (hm : CnfOk vars M) (w : Int) (a : List Int) (v : Int) (hla : a.length ≤ 1048576) (hba : ∀ j, -9223372036854775808 ≤ gd a j ∧ gd a j ≤ 9223372036854775807) (hvv : -9223372036854775808 ≤ v ∧ v ≤ 9223372036854775807) : ACall Tryz.prog 6 [.agg [.int .i64 vars, .sl (sls L) L.length], .int .i64 w, .sl (sls M) M.length, .sl (icells a) a.length, .int .i64 v] [] (.tup [.osl 1 (icells (ansR vars L w M a v)) (ansR vars L w M a v).length none, .bool (ansOk vars L w M a v)]) [] := by
 have hk1 := hk.1
 have hm1 := hm.2.1
 have hm2 := hm.2.2.1
 have hk2 := hk.2.1
 refine ACall.intro Tryz.func6 rfl (N := 50) rfl (by decide) (by simp) ?_
 refine a_seq ?_
 refine a_region ?_
 refine rn (v := .op [.int _ _, .sl _ _]) (q_box (.inl rfl) rfl rfl) ?_
 refine rv (v := .nils) (v_assign (.inl rfl) nf) ?_
 refine rv (v := .bool _) (v_assign (.inl rfl) nf) ?_
 refine r_nil ?_
 refine a_seq ?_
 refine a_seq ?_
 refine a_region ?_
 refine rv (v := .agg [.int _ _, .sl _ _]) (v_load_rpa1 ta30 (.inl rfl) rfl rfl (fun _ => rfl) rfl) ?_
 refine rv (v := .int _ _) (v_move (.inl rfl) nf) ?_
 refine rv (v := .sl _ _) (v_move (.inl rfl) nf) ?_
 refine rv (v := .sl _ _) (v_move (.inl rfl) nf) ?_
 refine rv (v := .int _ _) (v_move (.inl rfl) nf) ?_
 refine rn (v := .bool _) (q_call (vs := [.agg [.int _ _, .sl _ _], .int _ _, .sl _ _, .sl _ _, .int _ _]) (args := [.agg [.int .i64 _, .sl _ _], .int .i64 _, .sl _ _, .sl _ _, .int .i64 _]) hb19 ⟨.inl rfl, .inl rfl, .inl rfl, .inl rfl, .inl rfl, trivial⟩ rfl (fun hA => takes13_c vars L M hk hm w a v hla hba) rfl rfl) ?_
 refine rv (v := .bool _) (v_not (.inl rfl)) ?_
 refine rv (v := .bool _) (v_move (.inl rfl) nf) ?_
 refine r_gval (v := .sl _ _) (v_move (.inl rfl) nf) rfl rfl rfl (by decide) (.inl ⟨_, rfl, rfl⟩) rfl (by decide) ?_
 refine r_gval (v := .int _ _) (v_len_sl sl25 (.inr ⟨_, rfl, fun h => h⟩)) rfl rfl rfl (by decide) (.inl ⟨_, rfl, rfl⟩) rfl (by decide) ?_
 refine r_gval (v := .int _ _) (v_move (.inl rfl) nf) rfl rfl rfl (by decide) (.inl ⟨_, rfl, rfl⟩) rfl (by decide) ?_
 refine r_gval (v := .bool _) (v_gtr (.inr ⟨_, rfl, fun h => h⟩) (.inr ⟨_, rfl, fun h => h⟩)) rfl rfl rfl (by decide) (.inl ⟨_, rfl, rfl⟩) rfl (by decide) ?_
 refine rv (v := .bool _) (v_pick (.inl rfl) (.inl rfl) (.inr ⟨_, rfl, fun h h2 => by simp_all⟩)) ?_
 refine rv (v := .bool _) (v_move (.inl rfl) nf) ?_
 refine r_gval (v := .sl _ _) (v_move (.inl rfl) nf) rfl rfl rfl (by decide) (.inl ⟨_, rfl, rfl⟩) rfl (by decide) ?_
 refine r_gval (v := .int _ _) (v_move (.inl rfl) nf) rfl rfl rfl (by decide) (.inl ⟨_, rfl, rfl⟩) rfl (by decide) ?_
 refine r_guard (v := .bool _) (q_call (vs := [.sl _ _, .int _ _]) (args := [.sl _ _, .int .i64 _]) hb20 ⟨.inr ⟨_, rfl, fun h => h⟩, .inr ⟨_, rfl, fun h => h⟩, trivial⟩ rfl (fun hA => has2_c _ _ _ ⟨rfl, by omega⟩) rfl rfl) rfl rfl rfl (by decide) (.inl ⟨_, rfl, rfl⟩) rfl (by decide) ?_
 refine rv (v := .bool _) (v_pick (.inl rfl) (.inl rfl) (.inr ⟨_, rfl, fun h h2 => by simp_all⟩)) ?_
 refine rv (v := .bool _) (v_move (.inl rfl) nf) ?_
 refine r_gval (v := .sl _ _) (v_move (.inl rfl) nf) rfl rfl rfl (by decide) (.inl ⟨_, rfl, rfl⟩) rfl (by decide) ?_
 refine r_gval (v := .int _ _) (v_move (.inl rfl) nf) rfl rfl rfl (by decide) (.inl ⟨_, rfl, rfl⟩) rfl (by decide) ?_
 refine r_gval (v := .int _ _) (v_neg (.inr ⟨_, rfl, fun h => h⟩) (fun hA => by simp [inR] at hA; omega)) rfl rfl rfl (by decide) (.inl ⟨_, rfl, rfl⟩) rfl (by decide) ?_
 refine r_guard (v := .bool _) (q_call (vs := [.sl _ _, .int _ _]) (args := [.sl _ _, .int .i64 _]) hb20 ⟨.inr ⟨_, rfl, fun h => h⟩, .inr ⟨_, rfl, fun h => h⟩, trivial⟩ rfl (fun hA => has2_c _ _ _ ⟨rfl, by omega⟩) rfl rfl) rfl rfl rfl (by decide) (.inl ⟨_, rfl, rfl⟩) rfl (by decide) ?_
 refine rv (v := .bool _) (v_pick (.inl rfl) (.inl rfl) (.inr ⟨_, rfl, fun h h2 => by simp_all⟩)) ?_
 refine r_nil ?_
 refine a_cond rfl (fun ht36 => ?_) (fun ht36 => ?_)
 ·
  skip
  refine a_seq ?_
  refine a_region ?_
  refine rn (v := .osl _ _ _ _) (q_sliceLit (n := 0) (parts := []) lt25 rfl rfl rfl rfl) ?_
  refine rv (v := .rsl _ _ _ _ _) (v_assign (.inl rfl) nf) ?_
  refine r_pre (ent_reloc_sl (t := 10) rfl rfl) ?_
  refine rv (v := .bool _) (v_assign (.inl rfl) nf) ?_
  refine r_nil ?_
  refine a_ret ?_
  refine retL (rs := [.tmp 10, .tmp 11]) [(10, .osl _ _ _ none), (11, _)] ⟨Weak.osl rfl rfl, Weak.rfl, trivial⟩ rfl Tryz.results6 (by decide) ⟨by decide, by decide, rfl⟩ (by decide) (by decide) (l2_eq (osl_eq2 ?_ ?_) (bool_eq ?_)) (by simp [refsL, refs])
  all_goals (have hf : (ansOk vars L w M a v) = false := (by have h9 := ans_refr (vars := vars) (L := L) (w := w) (M := M) (a := a) (v := v); rw [h9] at ht36; simpa using ht36); first | (rw [ans_no hf]; simp [icells, rep]; done) | rw [hf])
 ·
  skip
  refine a_skip ?_
  refine a_seq ?_
  refine a_seq ?_
  have hok : (ansOk vars L w M a v) = true := (by have h9 := ans_refr (vars := vars) (L := L) (w := w) (M := M) (a := a) (v := v); rw [h9] at ht36; simpa using ht36)
  obtain ⟨q1, q2, q3, q4, q5⟩ := ans_spec hok
  obtain ⟨q6, q7⟩ := famB_spec q2
  have q8 := nwB_spec q1
  have hca : clB vars a = true := (by obtain ⟨i, hi, e⟩ := gl_ix q3; rw [← e]; exact q6 i hi)
  have hlc := clB_len hca
  have hsm := clB_sm hca
  have hpc := put_cl hca q4 q5
  have hop := opB_spec.1 q5
  have hv12 := (clB_spec hca).1
  refine a_region ?_
  refine rv (v := .sl _ _) (v_move (.inl rfl) nf) ?_
  refine rv (v := .int _ _) (v_move (.inl rfl) nf) ?_
  refine rn (v := .osl 1 (icells (putL a v)) (putL a v).length none) (QSem.cast (q_call (vs := [.sl _ _, .int _ _]) (args := [.sl _ _, .int .i64 _]) hb21 ⟨.inl rfl, .inl rfl, trivial⟩ rfl (fun hA => put_c a a.length v ⟨rfl, by omega⟩ hsm (by omega)) (ic_noSh _) (ic_noRef _)) (osl_eq2 rfl (by rw [putL_length]))) ?_
  refine rv (v := .rsl _ _ _ _ _) (v_assign (.inl rfl) nf) ?_
  refine r_pre (ent_reloc_sl (t := 12) rfl rfl) ?_
  refine r_nil ?_
  refine a_seq ?_
  refine a_region ?_
  refine rv (v := .sl _ _) (v_move (.inl rfl) nf) ?_
  refine rv (v := .rsl _ _ _ _ _) (v_move (.inl rfl) nf) ?_
  refine rn (v := .int _ _) (q_call (vs := [.sl _ _, .rsl _ _ _ _ _]) (args := [.sl _ _, .sl _ _]) hb22 ⟨.inl rfl, .inl rfl, trivial⟩ (l2_eq rfl (sl_sh (ic_pure _))) (fun hA => at2_c vars M (putL a v) (by omega) q6 q7 hpc.1) rfl rfl) ?_
  refine rv (v := .bool _) (v_geq (.inl rfl) (.inl rfl)) ?_
  refine r_nil ?_
  refine a_cond rfl (fun ht44 => ?_) (fun ht44 => ?_)
  ·
   skip
   refine a_seq ?_
   have hm : decide (putL a v ∈ M) = true := (by rw [← atL_mem q7]; exact ht44)
   refine a_region ?_
   refine rv (v := .rsl _ _ _ _ _) (v_move (.inl rfl) nf) ?_
   refine rv (v := .rsl _ _ _ _ _) (v_assign (.inl rfl) nf) ?_
   refine r_pre (ent_reloc_sl (t := 10) rfl rfl) ?_
   refine rv (v := .bool _) (v_assign (.inl rfl) nf) ?_
   refine r_nil ?_
   refine a_ret ?_
   refine retL (rs := [.tmp 10, .tmp 11]) [(10, .osl _ _ _ none), (11, _)] ⟨Weak.osl rfl rfl, Weak.rfl, trivial⟩ rfl Tryz.results6 (by decide) ⟨by decide, by decide, rfl⟩ (by decide) (by decide) (l2_eq (osl_eq2 ?_ ?_) (bool_eq ?_)) (by simp [refsL, refs])
   all_goals (first | rw [ans_yes1 hok hm] | rw [hok])
  ·
   skip
   refine a_skip ?_
   refine a_seq ?_
   have hm : decide (putL a v ∈ M) = false := (by rw [← atL_mem q7]; exact ht44)
   refine a_region ?_
   refine rv (v := .sl _ _) (v_move (.inl rfl) nf) ?_
   refine rv (v := .int _ _) (v_move (.inl rfl) nf) ?_
   refine rv (v := .int _ _) (v_neg (.inl rfl) (fun _ => by omega)) ?_
   refine rn (v := .osl 1 (icells (putL a (-v))) (putL a (-v)).length none) (QSem.cast (q_call (vs := [.sl _ _, .int _ _]) (args := [.sl _ _, .int .i64 _]) hb21 ⟨.inl rfl, .inl rfl, trivial⟩ rfl (fun hA => put_c a a.length (-v) ⟨rfl, by omega⟩ hsm (by omega)) (ic_noSh _) (ic_noRef _)) (osl_eq2 rfl (by rw [putL_length]))) ?_
   refine rv (v := .rsl _ _ _ _ _) (v_assign (.inl rfl) nf) ?_
   refine r_pre (ent_reloc_sl (t := 10) rfl rfl) ?_
   refine rv (v := .bool _) (v_assign (.inl rfl) nf) ?_
   refine r_nil ?_
   refine a_ret ?_
   refine retL (rs := [.tmp 10, .tmp 11]) [(10, .osl _ _ _ none), (11, _)] ⟨Weak.osl rfl rfl, Weak.rfl, trivial⟩ rfl Tryz.results6 (by decide) ⟨by decide, by decide, rfl⟩ (by decide) (by decide) (l2_eq (osl_eq2 ?_ ?_) (bool_eq ?_)) (by simp [refsL, refs])
   all_goals (first | rw [ans_yes2 hok hm] | rw [hok])
end Go.Av
namespace Go.Av
open Go Go.Proofs Go.Sort
set_option maxRecDepth 10000
end Go.Av
namespace Go.Av
open Go Go.Proofs Go.Sort
set_option maxRecDepth 10000
end Go.Av
namespace Go.Av
open Go Go.Proofs Go.Sort
set_option maxRecDepth 10000
theorem hb10 : hasBody Tryz.prog 10 = true := by kernel_rfl
theorem hb12 : hasBody Tryz.prog 12 = true := by kernel_rfl
theorem hb14 : hasBody Tryz.prog 14 = true := by kernel_rfl
theorem hb17 : hasBody Tryz.prog 17 = true := by kernel_rfl
theorem hb4 : hasBody Tryz.prog 4 = true := by kernel_rfl
theorem hb6 : hasBody Tryz.prog 6 = true := by kernel_rfl
theorem hb7 : hasBody Tryz.prog 7 = true := by kernel_rfl
theorem ta24 : tyAgg Tryz.prog 24 = some (true, 2) := by kernel_rfl
theorem un4 : Tryz.prog.underlying 4 = some .bool := by kernel_rfl
theorem lawAnswerFor_c (vars : Int) (L : List (List Int)) (w : Int) (M : List (List Int)) (a : List Int) (v : Int) (hl9 : (a.length : Int) ≤ 9223372036854775807) (hv : -9223372036854775808 ≤ vars ∧ vars ≤ 9223372036854775807) (hlen : ∀ i, ((gl L i).length : Int) ≤ 9223372036854775807) (hL : (L.length : Int) ≤ 9223372036854775807) (hbb : ∀ i j, -9223372036854775808 ≤ gd (gl L i) j ∧ gd (gl L i) j ≤ 9223372036854775807) (hlenM : ∀ i, ((gl M i).length : Int) ≤ 9223372036854775807) (hLM : (M.length : Int) ≤ 9223372036854775807) (hbM : ∀ i j, -9223372036854775808 ≤ gd (gl M i) j ∧ gd (gl M i) j ≤ 9223372036854775807) (hba : ∀ j, -9223372036854775808 ≤ gd a j ∧ gd a j ≤ 9223372036854775807) (hvv : -9223372036854775808 ≤ v ∧ v ≤ 9223372036854775807) : ACall Tryz.prog 3 [.agg [.int .i64 vars, .sl (sls L) L.length], .int .i64 w, .sl (sls M) M.length, .sl (icells a) a.length, .int .i64 v] [] (.bool true) [] := by
 have hr := ans_len (vars := vars) (L := L) (w := w) (M := M) (a := a) (v := v)
 refine ACall.intro Tryz.func3 rfl (N := 150) rfl (by decide) (by simp) ?_
 refine a_seq ?_
 refine a_region ?_
 refine rn (v := .op [.int _ _, .sl _ _]) (q_box (.inl rfl) rfl rfl) ?_
 refine rv (v := .bool _) (v_assign (.inl rfl) nf) ?_
 refine r_nil ?_
 refine a_seq ?_
 refine a_seq ?_
 refine a_region ?_
 refine rv (v := .sl _ _) (v_move (.inl rfl) nf) ?_
 refine rv (v := .int _ _) (v_len_sl sl25 (.inl rfl)) ?_
 refine rv (v := .bool _) (v_gtr (.inl rfl) (.inl rfl)) ?_
 refine r_nil ?_
 refine a_cond rfl (fun ht26 => ?_) (fun ht26 => ?_)
 ·
  skip
  refine a_seq ?_
  refine a_region ?_
  refine rv (v := .bool _) (v_assign (.inl rfl) nf) ?_
  refine r_nil ?_
  refine a_ret ?_
  refine ret1 Tryz.results3 (by decide) (by decide) (Weak.of_eq (bool_eq ?_)) rfl Leaves.nil
  first | rfl | (exfalso; simp at ht26; done) | (exfalso; simp at ht26; omega)
 ·
  skip
  refine a_skip ?_
  refine a_seq ?_
  have hle : (a.length : Int) ≤ 1048576 := (by simpa using ht26)
  refine a_region ?_
  refine rv (v := .int _ _) (v_assign (.inl rfl) nf) ?_
  refine r_nil ?_
  refine a_seq ?_
  refine a_region ?_
  refine rv (v := .agg [.int _ _, .sl _ _]) (v_load_rpa1 ta24 (.inl rfl) rfl rfl (fun _ => rfl) rfl) ?_
  refine rv (v := .int _ _) (v_move (.inl rfl) nf) ?_
  refine rn (v := .int _ _) (q_call (vs := [.agg [.int _ _, .sl _ _], .int _ _]) (args := [.agg [.int .i64 _, .sl _ _], .int .i64 _]) hb4 ⟨.inl rfl, .inl rfl, trivial⟩ rfl (fun hA => szCnf_c _ _ _ (by omega) hlen hL) rfl rfl) ?_
  refine rv (v := .int _ _) (v_assign (.inl rfl) nf) ?_
  refine r_nil ?_
  refine a_seq ?_
  refine a_seq ?_
  refine a_region ?_
  refine rv (v := .int _ _) (v_move (.inl rfl) nf) ?_
  refine rv (v := .bool _) (v_lss (.inl rfl) (.inl rfl)) ?_
  refine r_nil ?_
  refine a_cond rfl (fun ht31 => ?_) (fun ht31 => ?_)
  ·
   skip
   refine a_seq ?_
   refine a_region ?_
   refine rv (v := .bool _) (v_assign (.inl rfl) nf) ?_
   refine r_nil ?_
   refine a_ret ?_
   refine ret1 Tryz.results3 (by decide) (by decide) (Weak.of_eq (bool_eq ?_)) rfl Leaves.nil
   first | rfl | (exfalso; simp at ht31; done) | (exfalso; simp at ht31; omega)
  ·
   skip
   refine a_skip ?_
   refine a_seq ?_
   have hsz : L.length + tot L L.length ≤ 1048576 := (by have h9 := of_decide_eq_false ht31; unfold szR at h9; split at h9 <;> omega)
   have hk : CnfOk vars L := ⟨hv, by omega, by omega, hbb⟩
   have hll := fun i => len_tot (L := L) (i := i)
   have hsr : szR 1048576 ((L.length + tot L L.length : Nat) : Int) = 1048576 - ((L.length + tot L L.length : Nat) : Int) := (by unfold szR; rw [if_neg (by omega)])
   refine a_region ?_
   refine rv (v := .sl _ _) (v_move (.inl rfl) nf) ?_
   refine rv (v := .int _ _) (v_move (.inl rfl) nf) ?_
   refine rn (v := .int _ _) (q_call (vs := [.sl _ _, .int _ _]) (args := [.sl _ _, .int .i64 _]) hb5 ⟨.inl rfl, .inl rfl, trivial⟩ rfl (fun hA => szIntSS_c _ _ (by omega) hlenM hLM) rfl rfl) ?_
   refine rv (v := .int _ _) (v_assign (.inl rfl) nf) ?_
   refine r_nil ?_
   refine a_seq ?_
   refine a_seq ?_
   refine a_pre (ent_look (L := [(1, .int _ _), (2, .sl _ _), (3, .sl _ _), (4, .int _ _), (5, .op [.int _ _, .sl _ _]), (10, .bool _), (11, .int _ _)]) ⟨Weak.rfl, Weak.rfl, Weak.rfl, Weak.rfl, Weak.rfl, Weak.rfl, Weak.rfl, trivial⟩) ?_
   refine a_region ?_
   refine rv (v := .int _ _) (v_move (.inl rfl) nf) ?_
   refine rv (v := .bool _) (v_lss (.inl rfl) (.inl rfl)) ?_
   refine r_nil ?_
   refine a_cond rfl (fun ht36 => ?_) (fun ht36 => ?_)
   ·
    skip
    refine a_seq ?_
    refine a_region ?_
    refine rv (v := .bool _) (v_assign (.inl rfl) nf) ?_
    refine r_nil ?_
    refine a_ret ?_
    refine ret1 Tryz.results3 (by decide) (by decide) (Weak.of_eq (bool_eq ?_)) rfl Leaves.nil
    first | rfl | (exfalso; simp at ht36; done) | (exfalso; simp at ht36; omega)
   ·
    skip
    refine a_skip ?_
    refine a_seq ?_
    have hszM : M.length + tot M M.length ≤ 1048576 := (by have h9 := of_decide_eq_false ht36; rw [hsr] at h9; unfold szR at h9; split at h9 <;> omega)
    have hm : CnfOk vars M := ⟨hv, by omega, by omega, hbM⟩
    have hllM := fun i => len_tot (L := M) (i := i)
    refine a_region ?_
    refine rv (v := .agg [.int _ _, .sl _ _]) (v_load_rpa1 ta24 (.inl rfl) rfl rfl (fun _ => rfl) rfl) ?_
    refine rn (v := .agg [.int _ _, .osl _ _ _ _]) (q_call (vs := [.agg [.int _ _, .sl _ _]]) (args := [.agg [.int .i64 _, .sl _ _]]) hb7 ⟨.inl rfl, trivial⟩ rfl (fun hA => toCnf_c _ _ (by omega) (by omega)) (by simp [noSh, noShL, osls_noSh]) (by simp [noRef, noRefL, osls_noRef])) ?_
    refine rv (v := .int _ _) (v_move (.inl rfl) nf) ?_
    refine rv (v := .sl _ _) (v_move (.inl rfl) nf) ?_
    refine rn (v := .osl _ _ _ _) (q_call (vs := [.sl _ _]) (args := [.sl _ _]) hb8 ⟨.inl rfl, trivial⟩ rfl (fun hA => toIntSS_c _ (by omega) (by omega)) (osls_noSh _) (osls_noRef _)) ?_
    refine rv (v := .sl _ _) (v_move (.inl rfl) nf) ?_
    refine rn (v := .osl _ _ _ _) (q_call (vs := [.sl _ _]) (args := [.sl _ _]) hb9 ⟨.inl rfl, trivial⟩ rfl (fun hA => toIntS_c _ (by omega)) (ic_noSh _) (ic_noRef _)) ?_
    refine rv (v := .int _ _) (v_move (.inl rfl) nf) ?_
    refine rn (v := .tup [.osl _ _ _ _, .bool _]) (q_call (vs := [.agg [.int _ _, .rsl _ _ _ _ _], .int _ _, .rsl _ _ _ _ _, .rsl _ _ _ _ _, .int _ _]) (args := [.agg [.int .i64 _, .sl _ _], .int .i64 _, .sl _ _, .sl _ _, .int .i64 _]) hb6 ⟨.inl rfl, .inl rfl, .inl rfl, .inl rfl, .inl rfl, trivial⟩ (l5_eq (agg_eq (l2_eq rfl sl_osls)) rfl sl_osls (sl_sh (ic_pure _)) rfl) (fun hA => sAns_c _ _ _ hk hm w a v (by omega) hba hvv) (by simp [noSh, noShL, ic_noSh]) (by simp [noRef, noRefL, ic_noRef])) ?_
    refine rv (v := .tup [.rsl _ _ _ _ _, .bool _]) (v_mv rfl) ?_
    refine rv (v := .rsl _ _ _ _ _) (v_extract rfl rfl) ?_
    refine rv (v := .bool _) (v_extract rfl rfl) ?_
    refine rv (v := .rsl _ _ _ _ _) (v_assign (.inl rfl) nf) ?_
    refine r_pre (ent_reloc_sl (t := 12) rfl rfl) ?_
    refine rv (v := .bool _) (v_assign (.inl rfl) nf) ?_
    refine r_nil ?_
    refine a_seq ?_
    refine a_pre (ent_look (L := [(1, .int _ _), (2, .sl _ _), (3, .sl _ _), (4, .int _ _), (5, .op [.int _ _, .sl _ _]), (10, .bool _), (12, .osl _ _ _ _), (13, .bool _)]) ⟨Weak.rfl, Weak.rfl, Weak.rfl, Weak.rfl, Weak.rfl, Weak.rfl, Weak.rfl, Weak.rfl, trivial⟩) ?_
    refine a_region ?_
    refine rv (v := .agg [.int _ _, .sl _ _]) (v_load_rpa1 ta24 (.inl rfl) rfl rfl (fun _ => rfl) rfl) ?_
    refine rn (v := .agg [.int _ _, .osl _ _ _ _]) (q_call (vs := [.agg [.int _ _, .sl _ _]]) (args := [.agg [.int .i64 _, .sl _ _]]) hb7 ⟨.inl rfl, trivial⟩ rfl (fun hA => toCnf_c _ _ (by omega) (by omega)) (by simp [noSh, noShL, osls_noSh]) (by simp [noRef, noRefL, osls_noRef])) ?_
    refine rn (v := .op [.int _ _, .nils]) (q_alloc zc30) ?_
    refine r_step rfl (o_store_own (v := .agg [.int _ _, .osl _ _ _ _]) (y' := .op [.int _ _, .osl _ _ _ _]) rfl rfl ta30 (.inl rfl) (by decide) rfl (by decide) rfl (by simp [cellsOf, noRefL, noRef, osls_noRef]) rfl rfl rfl rfl rfl (Nat.le_of_ble_eq_true rfl) rfl rfl) ?_
    refine r_nil ?_
    refine a_seq ?_
    refine a_region ?_
    refine rv (v := .sl _ _) (v_move (.inl rfl) nf) ?_
    refine rn (v := .osl _ _ _ _) (q_call (vs := [.sl _ _]) (args := [.sl _ _]) hb8 ⟨.inl rfl, trivial⟩ rfl (fun hA => toIntSS_c _ (by omega) (by omega)) (osls_noSh _) (osls_noRef _)) ?_
    refine rv (v := .rsl _ _ _ _ _) (v_assign (.inl rfl) nf) ?_
    refine r_pre (ent_reloc_sl (t := 15) rfl rfl) ?_
    refine r_nil ?_
    refine a_seq ?_
    refine a_pre (ent_look (L := [(1, .int _ _), (2, .sl _ _), (3, .sl _ _), (4, .int _ _), (5, .op [.int _ _, .sl _ _]), (10, .bool _), (12, .osl _ _ _ _), (13, .bool _), (14, .op [.int _ _, .osl _ _ _ _]), (15, .osl _ _ _ _)]) ⟨Weak.rfl, Weak.rfl, Weak.rfl, Weak.rfl, Weak.rfl, Weak.rfl, Weak.rfl, Weak.rfl, Weak.rfl, Weak.rfl, trivial⟩) ?_
    refine a_region ?_
    refine rv (v := .sl _ _) (v_move (.inl rfl) nf) ?_
    refine rn (v := .osl _ _ _ _) (q_call (vs := [.sl _ _]) (args := [.sl _ _]) hb9 ⟨.inl rfl, trivial⟩ rfl (fun hA => toIntS_c _ (by omega)) (ic_noSh _) (ic_noRef _)) ?_
    refine rv (v := .rsl _ _ _ _ _) (v_assign (.inl rfl) nf) ?_
    refine r_pre (ent_reloc_sl (t := 16) rfl rfl) ?_
    refine r_nil ?_
    refine a_seq ?_
    refine a_region ?_
    refine rv (v := .agg [.int _ _, .rsl _ _ _ _ _]) (v_load_rpa (xs := [.int _ _, .osl _ _ _ _]) ta30 (.inl rfl) rfl rfl (fun _ => take_get rfl)) ?_
    refine rv (v := .int _ _) (v_move (.inl rfl) nf) ?_
    refine rv (v := .rsl _ _ _ _ _) (v_move (.inl rfl) nf) ?_
    refine rv (v := .rsl _ _ _ _ _) (v_move (.inl rfl) nf) ?_
    refine rv (v := .int _ _) (v_move (.inl rfl) nf) ?_
    refine rn (v := .tup [.osl _ _ _ _, .bool _]) (q_call (vs := [.agg [.int _ _, .rsl _ _ _ _ _], .int _ _, .rsl _ _ _ _ _, .rsl _ _ _ _ _, .int _ _]) (args := [.agg [.int .i64 _, .sl _ _], .int .i64 _, .sl _ _, .sl _ _, .int .i64 _]) hb10 ⟨.inl rfl, .inl rfl, .inl rfl, .inl rfl, .inl rfl, trivial⟩ (l5_eq (agg_eq (l2_eq rfl sl_osls)) rfl sl_osls (sl_sh (ic_pure _)) rfl) (fun hA => iAns_c _ _ _ hk hm w a v (by omega) hba hvv) (by simp [noSh, noShL, ic_noSh]) (by simp [noRef, noRefL, ic_noRef])) ?_
    refine rv (v := .tup [.rsl _ _ _ _ _, .bool _]) (v_mv rfl) ?_
    refine rv (v := .rsl _ _ _ _ _) (v_extract rfl rfl) ?_
    refine rv (v := .bool _) (v_extract rfl rfl) ?_
    refine rv (v := .rsl _ _ _ _ _) (v_assign (.inl rfl) nf) ?_
    refine r_pre (ent_reloc_sl (t := 17) rfl rfl) ?_
    refine rv (v := .bool _) (v_assign (.inl rfl) nf) ?_
    refine r_nil ?_
    refine a_seq ?_
    refine a_seq ?_
    refine a_pre (ent_look (L := [(1, .int _ _), (2, .sl _ _), (3, .sl _ _), (4, .int _ _), (5, .op [.int _ _, .sl _ _]), (10, .bool _), (12, .osl _ _ _ _), (13, .bool _), (14, .op [.int _ _, .osl _ _ _ _]), (15, .osl _ _ _ _), (16, .osl _ _ _ _), (17, .osl _ _ _ _), (18, .bool _)]) ⟨Weak.rfl, Weak.rfl, Weak.rfl, Weak.rfl, Weak.rfl, Weak.rfl, Weak.rfl, Weak.rfl, Weak.rfl, Weak.rfl, Weak.rfl, Weak.rfl, Weak.rfl, trivial⟩) ?_
    refine a_region ?_
    refine rv (v := .rsl _ _ _ _ _) (v_move (.inl rfl) nf) ?_
    refine rv (v := .rsl _ _ _ _ _) (v_move (.inl rfl) nf) ?_
    refine rn (v := .bool _) (q_call (vs := [.rsl _ _ _ _ _, .rsl _ _ _ _ _]) (args := [.sl _ _, .sl _ _]) hb11 ⟨.inl rfl, .inl rfl, trivial⟩ (l2_eq (sl_sh (ic_pure _)) (sl_sh (ic_pure _))) (fun hA => eqIntS_c _ _ (by omega)) rfl rfl) ?_
    refine rv (v := .bool _) (v_not (.inl rfl)) ?_
    refine rv (v := .bool _) (v_move (.inl rfl) nf) ?_
    refine r_gval (v := .bool _) (v_move (.inl rfl) nf) rfl rfl rfl (by decide) (.inl ⟨_, rfl, rfl⟩) rfl (by decide) ?_
    refine r_gval (v := .bool _) (v_move (.inl rfl) nf) rfl rfl rfl (by decide) (.inl ⟨_, rfl, rfl⟩) rfl (by decide) ?_
    refine r_gval (v := .bool _) (v_bne un4 (.inr ⟨_, rfl, fun h => h⟩) (.inr ⟨_, rfl, fun h => h⟩)) rfl rfl rfl (by decide) (.inl ⟨_, rfl, rfl⟩) rfl (by decide) ?_
    refine rv (v := .bool _) (v_pick (.inl rfl) (.inl rfl) (.inr ⟨_, rfl, fun h h2 => by simp_all⟩)) ?_
    refine r_nil ?_
    refine a_cond rfl (fun ht72 => ?_) (fun ht72 => ?_)
    ·
     skip
     refine a_seq ?_
     refine a_pre (ent_look (L := [(1, .int _ _), (2, .sl _ _), (3, .sl _ _), (4, .int _ _), (5, .op [.int _ _, .sl _ _]), (10, .bool _), (12, .osl _ _ _ _), (13, .bool _), (14, .op [.int _ _, .osl _ _ _ _]), (15, .osl _ _ _ _), (16, .osl _ _ _ _), (17, .osl _ _ _ _), (18, .bool _)]) ⟨Weak.rfl, Weak.rfl, Weak.rfl, Weak.rfl, Weak.rfl, Weak.rfl, Weak.rfl, Weak.rfl, Weak.rfl, Weak.rfl, Weak.rfl, Weak.rfl, Weak.rfl, trivial⟩) ?_
     refine a_region ?_
     refine rv (v := .bool _) (v_assign (.inl rfl) nf) ?_
     refine r_nil ?_
     refine a_ret ?_
     refine ret1 Tryz.results3 (by decide) (by decide) (Weak.of_eq (bool_eq ?_)) rfl Leaves.nil
     first | rfl | (exfalso; simp at ht72; done) | (exfalso; simp at ht72; omega)
    ·
     skip
     refine a_skip ?_
     refine a_seq ?_
     refine a_seq ?_
     refine a_pre (ent_look (L := [(1, .int _ _), (2, .sl _ _), (3, .sl _ _), (4, .int _ _), (5, .op [.int _ _, .sl _ _]), (10, .bool _), (12, .osl _ _ _ _), (13, .bool _), (14, .op [.int _ _, .osl _ _ _ _]), (15, .osl _ _ _ _), (16, .osl _ _ _ _), (17, .osl _ _ _ _), (18, .bool _)]) ⟨Weak.rfl, Weak.rfl, Weak.rfl, Weak.rfl, Weak.rfl, Weak.rfl, Weak.rfl, Weak.rfl, Weak.rfl, Weak.rfl, Weak.rfl, Weak.rfl, Weak.rfl, trivial⟩) ?_
     refine a_region_any mixed (by kernel_rfl) ?_
     refine yv (v := .agg [.int _ _, .rsl _ _ _ _ _]) (v_load_rpa (xs := [.int _ _, .osl _ _ _ _]) ta30 (.inl rfl) rfl rfl (fun _ => take_get rfl)) ?_
     refine yv (v := .agg [.int _ _, .sl _ _]) (v_load_rpa1 ta24 (.inl rfl) rfl rfl (fun _ => rfl) rfl) ?_
     refine y_new (v := .agg [.int _ _, .osl _ _ _ _]) (q_call (vs := [.agg [.int _ _, .sl _ _]]) (args := [.agg [.int .i64 _, .sl _ _]]) hb7 ⟨.inl rfl, trivial⟩ rfl (fun hA => toCnf_c _ _ (by omega) (by omega)) (by simp [noSh, noShL, osls_noSh]) (by simp [noRef, noRefL, osls_noRef])) rfl rfl (by decide) (by kernel_rfl) ?_
     refine y_new (v := .bool _) (q_call (vs := [.agg [.int _ _, .rsl _ _ _ _ _], .agg [.int _ _, .rsl _ _ _ _ _]]) (args := [.agg [.int .i64 _, .sl _ _], .agg [.int .i64 _, .sl _ _]]) hb12 ⟨.inl rfl, .inl rfl, trivial⟩ (l2_eq (agg_eq (l2_eq rfl sl_osls)) (agg_eq (l2_eq rfl sl_osls))) (fun hA => eqCnf_c _ _ _ _ (by omega) (by omega) (fun i => by first | (have := hrl i; omega) | (have := hll i; omega))) rfl rfl) rfl rfl (by decide) (by kernel_rfl) ?_
     refine yv (v := .bool _) (v_not (.inl rfl)) ?_
     refine y_nil ?_
     refine a_cond rfl (fun ht77 => ?_) (fun ht77 => ?_)
     ·
      skip
      refine a_seq ?_
      refine a_pre (ent_look (L := [(1, .int _ _), (2, .sl _ _), (3, .sl _ _), (4, .int _ _), (5, .op [.int _ _, .sl _ _]), (10, .bool _), (12, .osl _ _ _ _), (13, .bool _), (14, .op [.int _ _, .osl _ _ _ _]), (15, .osl _ _ _ _), (16, .osl _ _ _ _), (17, .osl _ _ _ _), (18, .bool _)]) ⟨Weak.rfl, Weak.rfl, Weak.rfl, Weak.rfl, Weak.rfl, Weak.rfl, Weak.rfl, Weak.rfl, Weak.rfl, Weak.rfl, Weak.rfl, Weak.rfl, Weak.rfl, trivial⟩) ?_
      refine a_region ?_
      refine rv (v := .bool _) (v_assign (.inl rfl) nf) ?_
      refine r_nil ?_
      refine a_ret ?_
      refine ret1 Tryz.results3 (by decide) (by decide) (Weak.of_eq (bool_eq ?_)) rfl Leaves.nil
      first | rfl | (exfalso; simp at ht77; done) | (exfalso; simp at ht77; omega)
     ·
      skip
      refine a_skip ?_
      refine a_seq ?_
      refine a_seq ?_
      refine a_pre (ent_look (L := [(1, .int _ _), (2, .sl _ _), (3, .sl _ _), (4, .int _ _), (5, .op [.int _ _, .sl _ _]), (10, .bool _), (12, .osl _ _ _ _), (13, .bool _), (14, .op [.int _ _, .osl _ _ _ _]), (15, .osl _ _ _ _), (16, .osl _ _ _ _), (17, .osl _ _ _ _), (18, .bool _)]) ⟨Weak.rfl, Weak.rfl, Weak.rfl, Weak.rfl, Weak.rfl, Weak.rfl, Weak.rfl, Weak.rfl, Weak.rfl, Weak.rfl, Weak.rfl, Weak.rfl, Weak.rfl, trivial⟩) ?_
      refine a_region ?_
      refine rv (v := .rsl _ _ _ _ _) (v_move (.inl rfl) nf) ?_
      refine rv (v := .sl _ _) (v_move (.inl rfl) nf) ?_
      refine rn (v := .osl _ _ _ _) (q_call (vs := [.sl _ _]) (args := [.sl _ _]) hb8 ⟨.inl rfl, trivial⟩ rfl (fun hA => toIntSS_c _ (by omega) (by omega)) (osls_noSh _) (osls_noRef _)) ?_
      refine rn (v := .bool _) (q_call (vs := [.rsl _ _ _ _ _, .rsl _ _ _ _ _]) (args := [.sl _ _, .sl _ _]) hb13 ⟨.inl rfl, .inl rfl, trivial⟩ (l2_eq sl_osls sl_osls) (fun hA => eqIntSS_c _ _ (by omega) (by omega) (fun i => by first | (have := hllM i; omega) | (have := hrlM i; omega))) rfl rfl) ?_
      refine rv (v := .bool _) (v_not (.inl rfl)) ?_
      refine r_nil ?_
      refine a_cond rfl (fun ht82 => ?_) (fun ht82 => ?_)
      ·
       skip
       refine a_seq ?_
       refine a_pre (ent_look (L := [(1, .int _ _), (2, .sl _ _), (3, .sl _ _), (4, .int _ _), (5, .op [.int _ _, .sl _ _]), (10, .bool _), (12, .osl _ _ _ _), (13, .bool _), (14, .op [.int _ _, .osl _ _ _ _]), (15, .osl _ _ _ _), (16, .osl _ _ _ _), (17, .osl _ _ _ _), (18, .bool _)]) ⟨Weak.rfl, Weak.rfl, Weak.rfl, Weak.rfl, Weak.rfl, Weak.rfl, Weak.rfl, Weak.rfl, Weak.rfl, Weak.rfl, Weak.rfl, Weak.rfl, Weak.rfl, trivial⟩) ?_
       refine a_region ?_
       refine rv (v := .bool _) (v_assign (.inl rfl) nf) ?_
       refine r_nil ?_
       refine a_ret ?_
       refine ret1 Tryz.results3 (by decide) (by decide) (Weak.of_eq (bool_eq ?_)) rfl Leaves.nil
       first | rfl | (exfalso; simp at ht82; done) | (exfalso; simp at ht82; omega)
      ·
       skip
       refine a_skip ?_
       refine a_seq ?_
       refine a_seq ?_
       refine a_pre (ent_look (L := [(1, .int _ _), (2, .sl _ _), (3, .sl _ _), (4, .int _ _), (5, .op [.int _ _, .sl _ _]), (10, .bool _), (12, .osl _ _ _ _), (13, .bool _), (14, .op [.int _ _, .osl _ _ _ _]), (15, .osl _ _ _ _), (16, .osl _ _ _ _), (17, .osl _ _ _ _), (18, .bool _)]) ⟨Weak.rfl, Weak.rfl, Weak.rfl, Weak.rfl, Weak.rfl, Weak.rfl, Weak.rfl, Weak.rfl, Weak.rfl, Weak.rfl, Weak.rfl, Weak.rfl, Weak.rfl, trivial⟩) ?_
       refine a_region ?_
       refine rv (v := .rsl _ _ _ _ _) (v_move (.inl rfl) nf) ?_
       refine rv (v := .sl _ _) (v_move (.inl rfl) nf) ?_
       refine rn (v := .osl _ _ _ _) (q_call (vs := [.sl _ _]) (args := [.sl _ _]) hb9 ⟨.inl rfl, trivial⟩ rfl (fun hA => toIntS_c _ (by omega)) (ic_noSh _) (ic_noRef _)) ?_
       refine rn (v := .bool _) (q_call (vs := [.rsl _ _ _ _ _, .rsl _ _ _ _ _]) (args := [.sl _ _, .sl _ _]) hb11 ⟨.inl rfl, .inl rfl, trivial⟩ (l2_eq (sl_sh (ic_pure _)) (sl_sh (ic_pure _))) (fun hA => eqIntS_c _ _ (by omega)) rfl rfl) ?_
       refine rv (v := .bool _) (v_not (.inl rfl)) ?_
       refine r_nil ?_
       refine a_cond rfl (fun ht87 => ?_) (fun ht87 => ?_)
       ·
        skip
        refine a_seq ?_
        refine a_pre (ent_look (L := [(1, .int _ _), (2, .sl _ _), (3, .sl _ _), (4, .int _ _), (5, .op [.int _ _, .sl _ _]), (10, .bool _), (12, .osl _ _ _ _), (13, .bool _), (14, .op [.int _ _, .osl _ _ _ _]), (15, .osl _ _ _ _), (16, .osl _ _ _ _), (17, .osl _ _ _ _), (18, .bool _)]) ⟨Weak.rfl, Weak.rfl, Weak.rfl, Weak.rfl, Weak.rfl, Weak.rfl, Weak.rfl, Weak.rfl, Weak.rfl, Weak.rfl, Weak.rfl, Weak.rfl, Weak.rfl, trivial⟩) ?_
        refine a_region ?_
        refine rv (v := .bool _) (v_assign (.inl rfl) nf) ?_
        refine r_nil ?_
        refine a_ret ?_
        refine ret1 Tryz.results3 (by decide) (by decide) (Weak.of_eq (bool_eq ?_)) rfl Leaves.nil
        first | rfl | (exfalso; simp at ht87; done) | (exfalso; simp at ht87; omega)
       ·
        skip
        refine a_skip ?_
        refine a_seq ?_
        refine a_pre (ent_look (L := [(1, .int _ _), (2, .sl _ _), (3, .sl _ _), (4, .int _ _), (5, .op [.int _ _, .sl _ _]), (10, .bool _), (12, .osl _ _ _ _), (13, .bool _), (14, .op [.int _ _, .osl _ _ _ _]), (15, .osl _ _ _ _), (16, .osl _ _ _ _), (17, .osl _ _ _ _), (18, .bool _)]) ⟨Weak.rfl, Weak.rfl, Weak.rfl, Weak.rfl, Weak.rfl, Weak.rfl, Weak.rfl, Weak.rfl, Weak.rfl, Weak.rfl, Weak.rfl, Weak.rfl, Weak.rfl, trivial⟩) ?_
        refine a_region ?_
        refine rv (v := .int _ _) (v_assign (.inl rfl) nf) ?_
        refine r_nil ?_
        refine a_seq ?_
        refine a_pre (ent_look (L := [(1, .int _ _), (2, .sl _ _), (3, .sl _ _), (4, .int _ _), (5, .op [.int _ _, .sl _ _]), (10, .bool _), (12, .osl _ _ _ _), (13, .bool _), (14, .op [.int _ _, .osl _ _ _ _]), (15, .osl _ _ _ _), (16, .osl _ _ _ _), (17, .osl _ _ _ _), (18, .bool _), (19, .int _ _)]) ⟨Weak.rfl, Weak.rfl, Weak.rfl, Weak.rfl, Weak.rfl, Weak.rfl, Weak.rfl, Weak.rfl, Weak.rfl, Weak.rfl, Weak.rfl, Weak.rfl, Weak.rfl, Weak.rfl, trivial⟩) ?_
        refine a_region ?_
        refine rv (v := .agg [.int _ _, .rsl _ _ _ _ _]) (v_load_rpa (xs := [.int _ _, .osl _ _ _ _]) ta30 (.inl rfl) rfl rfl (fun _ => take_get rfl)) ?_
        refine rv (v := .int _ _) (v_move (.inl rfl) nf) ?_
        refine r_step rfl (o_callIO (q := (14, [1])) (vs := [.agg [.int _ _, .rsl _ _ _ _ _], .int _ _]) (args := [.agg [.int .i64 _, .rsl (INH, []) _ _ _ _], .int .i64 _]) (x0 := .osl _ _ _ _) (x1 := .osl _ _ _ _) (res := .int _ _) rfl hb14 rfl (by decide) ⟨.inl rfl, .inl rfl, trivial⟩ rfl rfl (markCnf_c _ _ _ (by omega) (by omega) (by omega)) rfl rfl rfl (osls_noSh _) (osls_noRef _) (Nat.le_of_ble_eq_true rfl) (by decide) rfl) ?_
        refine rv (v := .int _ _) (v_assign (.inl rfl) nf) ?_
        refine r_nil ?_
        refine a_seq ?_
        refine a_pre (ent_look (L := [(1, .int _ _), (2, .sl _ _), (3, .sl _ _), (4, .int _ _), (5, .op [.int _ _, .sl _ _]), (10, .bool _), (12, .osl _ _ _ _), (13, .bool _), (15, .osl _ _ _ _), (16, .osl _ _ _ _), (17, .osl _ _ _ _), (18, .bool _), (19, .int _ _)]) ⟨Weak.rfl, Weak.rfl, Weak.rfl, Weak.rfl, Weak.rfl, Weak.rfl, Weak.rfl, Weak.rfl, Weak.rfl, Weak.rfl, Weak.rfl, Weak.rfl, Weak.rfl, trivial⟩) ?_
        refine a_region ?_
        refine rv (v := .rsl _ _ _ _ _) (v_move (.inl rfl) nf) ?_
        refine rv (v := .int _ _) (v_move (.inl rfl) nf) ?_
        refine r_step rfl (o_callIO (q := (15, [])) (vs := [.rsl _ _ _ _ _, .int _ _]) (args := [.rsl (INH, []) _ _ _ _, .int .i64 _]) (x0 := .osl _ _ _ _) (x1 := .osl _ _ _ _) (res := .int _ _) rfl hb15 rfl (by decide) ⟨.inl rfl, .inl rfl, trivial⟩ rfl rfl (markIntSS_c M _ (by omega) (by omega) (by omega)) rfl rfl rfl (osls_noSh _) (osls_noRef _) (Nat.le_of_ble_eq_true rfl) (by decide) rfl) ?_
        refine rv (v := .int _ _) (v_assign (.inl rfl) nf) ?_
        refine r_nil ?_
        refine a_seq ?_
        refine a_pre (ent_look (L := [(1, .int _ _), (2, .sl _ _), (3, .sl _ _), (4, .int _ _), (5, .op [.int _ _, .sl _ _]), (10, .bool _), (12, .osl _ _ _ _), (13, .bool _), (16, .osl _ _ _ _), (17, .osl _ _ _ _), (18, .bool _), (19, .int _ _)]) ⟨Weak.rfl, Weak.rfl, Weak.rfl, Weak.rfl, Weak.rfl, Weak.rfl, Weak.rfl, Weak.rfl, Weak.rfl, Weak.rfl, Weak.rfl, Weak.rfl, trivial⟩) ?_
        refine a_region ?_
        refine rv (v := .rsl _ _ _ _ _) (v_move (.inl rfl) nf) ?_
        refine rv (v := .int _ _) (v_move (.inl rfl) nf) ?_
        refine r_step rfl (o_callIO (q := (16, [])) (vs := [.rsl _ _ _ _ _, .int _ _]) (args := [.rsl (INH, []) _ _ _ _, .int .i64 _]) (x0 := .osl _ _ _ _) (x1 := .osl _ _ _ _) (res := .int _ _) rfl hb16 rfl (by decide) ⟨.inl rfl, .inl rfl, trivial⟩ rfl rfl (markIntS_c _ _ (by omega)) rfl rfl rfl (ic_noSh _) (ic_noRef _) (Nat.le_of_ble_eq_true rfl) (by decide) rfl) ?_
        refine rv (v := .int _ _) (v_assign (.inl rfl) nf) ?_
        refine r_nil ?_
        refine a_seq ?_
        refine a_seq ?_
        refine a_pre (ent_look (L := [(1, .int _ _), (2, .sl _ _), (3, .sl _ _), (4, .int _ _), (5, .op [.int _ _, .sl _ _]), (10, .bool _), (12, .osl _ _ _ _), (13, .bool _), (17, .osl _ _ _ _), (18, .bool _), (19, .int _ _)]) ⟨Weak.rfl, Weak.rfl, Weak.rfl, Weak.rfl, Weak.rfl, Weak.rfl, Weak.rfl, Weak.rfl, Weak.rfl, Weak.rfl, Weak.rfl, trivial⟩) ?_
        refine a_region ?_
        refine rv (v := .int _ _) (v_move (.inl rfl) nf) ?_
        refine rv (v := .bool _) (v_lss (.inl rfl) (.inl rfl)) ?_
        refine rv (v := .bool _) (v_move (.inl rfl) nf) ?_
        refine r_gval (v := .rsl _ _ _ _ _) (v_move (.inl rfl) nf) rfl rfl rfl (by decide) (.inl ⟨_, rfl, rfl⟩) rfl (by decide) ?_
        refine r_gval (v := .rsl _ _ _ _ _) (v_move (.inl rfl) nf) rfl rfl rfl (by decide) (.inl ⟨_, rfl, rfl⟩) rfl (by decide) ?_
        refine r_guard (v := .bool _) (q_call (vs := [.rsl _ _ _ _ _, .rsl _ _ _ _ _]) (args := [.sl _ _, .sl _ _]) hb11 ⟨.inr ⟨_, rfl, fun h => h⟩, .inr ⟨_, rfl, fun h => h⟩, trivial⟩ (l2_eq (sl_sh (ic_pure _)) (sl_sh (ic_pure _))) (fun hA => eqIntS_c _ _ (by omega)) rfl rfl) rfl rfl rfl (by decide) (.inl ⟨_, rfl, rfl⟩) rfl (by decide) ?_
        refine r_gval (v := .bool _) (v_not (.inr ⟨_, rfl, fun h => h⟩)) rfl rfl rfl (by decide) (.inl ⟨_, rfl, rfl⟩) rfl (by decide) ?_
        refine rv (v := .bool _) (v_pick (.inl rfl) (.inl rfl) (.inr ⟨_, rfl, fun h h2 => by simp_all⟩)) ?_
        refine rv (v := .bool _) (v_move (.inl rfl) nf) ?_
        refine r_gval (v := .bool _) (v_move (.inl rfl) nf) rfl rfl rfl (by decide) (.inl ⟨_, rfl, rfl⟩) rfl (by decide) ?_
        refine r_gval (v := .bool _) (v_move (.inl rfl) nf) rfl rfl rfl (by decide) (.inl ⟨_, rfl, rfl⟩) rfl (by decide) ?_
        refine r_gval (v := .bool _) (v_bne un4 (.inr ⟨_, rfl, fun h => h⟩) (.inr ⟨_, rfl, fun h => h⟩)) rfl rfl rfl (by decide) (.inl ⟨_, rfl, rfl⟩) rfl (by decide) ?_
        refine rv (v := .bool _) (v_pick (.inl rfl) (.inl rfl) (.inr ⟨_, rfl, fun h h2 => by simp_all⟩)) ?_
        refine r_nil ?_
        refine a_cond rfl (fun ht109 => ?_) (fun ht109 => ?_)
        ·
         skip
         refine a_seq ?_
         refine a_pre (ent_look (L := [(1, .int _ _), (2, .sl _ _), (3, .sl _ _), (4, .int _ _), (5, .op [.int _ _, .sl _ _]), (10, .bool _), (12, .osl _ _ _ _), (13, .bool _), (17, .osl _ _ _ _)]) ⟨Weak.rfl, Weak.rfl, Weak.rfl, Weak.rfl, Weak.rfl, Weak.rfl, Weak.rfl, Weak.rfl, Weak.rfl, trivial⟩) ?_
         refine a_region ?_
         refine rv (v := .bool _) (v_assign (.inl rfl) nf) ?_
         refine r_nil ?_
         refine a_ret ?_
         refine ret1 Tryz.results3 (by decide) (by decide) (Weak.of_eq (bool_eq ?_)) rfl Leaves.nil
         first | rfl | (exfalso; simp at ht109; done) | (exfalso; simp at ht109; omega)
        ·
         skip
         refine a_skip ?_
         refine a_seq ?_
         refine a_pre (ent_look (L := [(1, .int _ _), (2, .sl _ _), (3, .sl _ _), (4, .int _ _), (5, .op [.int _ _, .sl _ _]), (10, .bool _), (12, .osl _ _ _ _), (13, .bool _), (17, .osl _ _ _ _)]) ⟨Weak.rfl, Weak.rfl, Weak.rfl, Weak.rfl, Weak.rfl, Weak.rfl, Weak.rfl, Weak.rfl, Weak.rfl, trivial⟩) ?_
         refine a_region ?_
         refine rv (v := .int _ _) (v_assign (.inl rfl) nf) ?_
         refine r_nil ?_
         refine a_seq ?_
         refine a_region ?_
         refine rv (v := .rsl _ _ _ _ _) (v_move (.inl rfl) nf) ?_
         refine rv (v := .int _ _) (v_move (.inl rfl) nf) ?_
         refine r_step rfl (o_callIO (q := (17, [])) (vs := [.rsl _ _ _ _ _, .int _ _]) (args := [.rsl (INH, []) _ _ _ _, .int .i64 _]) (x0 := .osl _ _ _ _) (x1 := .osl _ _ _ _) (res := .int _ _) rfl hb16 rfl (by decide) ⟨.inl rfl, .inl rfl, trivial⟩ rfl rfl (markIntS_c _ _ (by omega)) rfl rfl rfl (ic_noSh _) (ic_noRef _) (Nat.le_of_ble_eq_true rfl) (by decide) rfl) ?_
         refine rv (v := .int _ _) (v_assign (.inl rfl) nf) ?_
         refine r_nil ?_
         refine a_seq ?_
         refine a_pre (ent_look (L := [(1, .int _ _), (2, .sl _ _), (3, .sl _ _), (4, .int _ _), (5, .op [.int _ _, .sl _ _]), (10, .bool _), (12, .osl _ _ _ _), (13, .bool _), (17, .osl _ _ _ _), (20, .int _ _)]) ⟨Weak.rfl, Weak.rfl, Weak.rfl, Weak.rfl, Weak.rfl, Weak.rfl, Weak.rfl, Weak.rfl, Weak.rfl, Weak.rfl, trivial⟩) ?_
         refine a_region ?_
         refine rv (v := .int _ _) (v_assign (.inl rfl) nf) ?_
         refine r_nil ?_
         refine a_seq ?_
         refine a_region ?_
         refine rv (v := .rsl _ _ _ _ _) (v_move (.inl rfl) nf) ?_
         refine rv (v := .int _ _) (v_move (.inl rfl) nf) ?_
         refine rn (v := .int _ _) (q_call (vs := [.rsl _ _ _ _ _, .int _ _]) (args := [.sl _ _, .int .i64 _]) hb17 ⟨.inl rfl, .inl rfl, trivial⟩ (l2_eq (sl_sh (ic_pure _)) rfl) (fun hA => heldIntS_c _ _ (by omega)) rfl rfl) ?_
         refine rv (v := .int _ _) (v_assign (.inl rfl) nf) ?_
         refine r_nil ?_
         refine a_seq ?_
         refine a_seq ?_
         refine a_pre (ent_look (L := [(1, .int _ _), (2, .sl _ _), (3, .sl _ _), (4, .int _ _), (5, .op [.int _ _, .sl _ _]), (10, .bool _), (12, .osl _ _ _ _), (13, .bool _), (17, .osl _ _ _ _), (20, .int _ _), (21, .int _ _)]) ⟨Weak.rfl, Weak.rfl, Weak.rfl, Weak.rfl, Weak.rfl, Weak.rfl, Weak.rfl, Weak.rfl, Weak.rfl, Weak.rfl, Weak.rfl, trivial⟩) ?_
         refine a_region ?_
         refine rv (v := .int _ _) (v_move (.inl rfl) nf) ?_
         refine rv (v := .bool _) (v_lss (.inl rfl) (.inl rfl)) ?_
         refine r_nil ?_
         refine a_cond rfl (fun ht117 => ?_) (fun ht117 => ?_)
         ·
          skip
          refine a_seq ?_
          refine a_region ?_
          refine rv (v := .bool _) (v_assign (.inl rfl) nf) ?_
          refine r_nil ?_
          refine a_ret ?_
          refine ret1 Tryz.results3 (by decide) (by decide) (Weak.of_eq (bool_eq ?_)) rfl Leaves.nil
          first | rfl | (exfalso; simp at ht117; done) | (exfalso; simp at ht117; omega)
         ·
          skip
          refine a_skip ?_
          refine a_seq ?_
          refine a_seq ?_
          refine a_region ?_
          refine rv (v := .int _ _) (v_move (.inl rfl) nf) ?_
          refine rv (v := .int _ _) (v_move (.inl rfl) nf) ?_
          refine rv (v := .bool _) (v_neq (.inl rfl) (.inl rfl)) ?_
          refine r_nil ?_
          refine a_cond rfl (fun ht120 => ?_) (fun ht120 => ?_)
          ·
           skip
           refine a_seq ?_
           refine a_pre (ent_look (L := [(1, .int _ _), (2, .sl _ _), (3, .sl _ _), (4, .int _ _), (5, .op [.int _ _, .sl _ _]), (10, .bool _), (12, .osl _ _ _ _), (13, .bool _), (17, .osl _ _ _ _), (20, .int _ _), (21, .int _ _)]) ⟨Weak.rfl, Weak.rfl, Weak.rfl, Weak.rfl, Weak.rfl, Weak.rfl, Weak.rfl, Weak.rfl, Weak.rfl, Weak.rfl, Weak.rfl, trivial⟩) ?_
           refine a_region ?_
           refine rv (v := .bool _) (v_assign (.inl rfl) nf) ?_
           refine r_nil ?_
           refine a_ret ?_
           refine ret1 Tryz.results3 (by decide) (by decide) (Weak.of_eq (bool_eq ?_)) rfl Leaves.nil
           first | rfl | (exfalso; simp at ht120; done) | (exfalso; simp at ht120; omega)
          ·
           skip
           refine a_skip ?_
           refine a_seq ?_
           refine a_pre (ent_look (L := [(1, .int _ _), (2, .sl _ _), (3, .sl _ _), (4, .int _ _), (5, .op [.int _ _, .sl _ _]), (10, .bool _), (12, .osl _ _ _ _), (13, .bool _), (17, .osl _ _ _ _), (20, .int _ _), (21, .int _ _)]) ⟨Weak.rfl, Weak.rfl, Weak.rfl, Weak.rfl, Weak.rfl, Weak.rfl, Weak.rfl, Weak.rfl, Weak.rfl, Weak.rfl, Weak.rfl, trivial⟩) ?_
           refine a_region ?_
           refine rv (v := .agg [.int _ _, .sl _ _]) (v_load_rpa1 ta24 (.inl rfl) rfl rfl (fun _ => rfl) rfl) ?_
           refine rn (v := .agg [.int _ _, .osl _ _ _ _]) (q_call (vs := [.agg [.int _ _, .sl _ _]]) (args := [.agg [.int .i64 _, .sl _ _]]) hb7 ⟨.inl rfl, trivial⟩ rfl (fun hA => toCnf_c _ _ (by omega) (by omega)) (by simp [noSh, noShL, osls_noSh]) (by simp [noRef, noRefL, osls_noRef])) ?_
           refine rv (v := .int _ _) (v_move (.inl rfl) nf) ?_
           refine rv (v := .sl _ _) (v_move (.inl rfl) nf) ?_
           refine rn (v := .osl _ _ _ _) (q_call (vs := [.sl _ _]) (args := [.sl _ _]) hb8 ⟨.inl rfl, trivial⟩ rfl (fun hA => toIntSS_c _ (by omega) (by omega)) (osls_noSh _) (osls_noRef _)) ?_
           refine rv (v := .sl _ _) (v_move (.inl rfl) nf) ?_
           refine rn (v := .osl _ _ _ _) (q_call (vs := [.sl _ _]) (args := [.sl _ _]) hb9 ⟨.inl rfl, trivial⟩ rfl (fun hA => toIntS_c _ (by omega)) (ic_noSh _) (ic_noRef _)) ?_
           refine rv (v := .int _ _) (v_move (.inl rfl) nf) ?_
           refine rn (v := .tup [.osl _ _ _ _, .bool _]) (q_call (vs := [.agg [.int _ _, .rsl _ _ _ _ _], .int _ _, .rsl _ _ _ _ _, .rsl _ _ _ _ _, .int _ _]) (args := [.agg [.int .i64 _, .sl _ _], .int .i64 _, .sl _ _, .sl _ _, .int .i64 _]) hb10 ⟨.inl rfl, .inl rfl, .inl rfl, .inl rfl, .inl rfl, trivial⟩ (l5_eq (agg_eq (l2_eq rfl sl_osls)) rfl sl_osls (sl_sh (ic_pure _)) rfl) (fun hA => iAns_c _ _ _ hk hm w a v (by omega) hba hvv) (by simp [noSh, noShL, ic_noSh]) (by simp [noRef, noRefL, ic_noRef])) ?_
           refine rv (v := .tup [.rsl _ _ _ _ _, .bool _]) (v_mv rfl) ?_
           refine rv (v := .rsl _ _ _ _ _) (v_extract rfl rfl) ?_
           refine rv (v := .bool _) (v_extract rfl rfl) ?_
           refine rv (v := .rsl _ _ _ _ _) (v_assign (.inl rfl) nf) ?_
           refine r_pre (ent_reloc_sl (t := 22) rfl rfl) ?_
           refine rv (v := .bool _) (v_assign (.inl rfl) nf) ?_
           refine r_nil ?_
           refine a_seq ?_
           refine a_seq ?_
           refine a_pre (ent_look (L := [(10, .bool _), (12, .osl _ _ _ _), (13, .bool _), (17, .osl _ _ _ _), (20, .int _ _), (21, .int _ _), (22, .osl _ _ _ _), (23, .bool _)]) ⟨Weak.rfl, Weak.rfl, Weak.rfl, Weak.rfl, Weak.rfl, Weak.rfl, Weak.rfl, Weak.rfl, trivial⟩) ?_
           refine a_region ?_
           refine rv (v := .rsl _ _ _ _ _) (v_move (.inl rfl) nf) ?_
           refine rv (v := .rsl _ _ _ _ _) (v_move (.inl rfl) nf) ?_
           refine rn (v := .bool _) (q_call (vs := [.rsl _ _ _ _ _, .rsl _ _ _ _ _]) (args := [.sl _ _, .sl _ _]) hb11 ⟨.inl rfl, .inl rfl, trivial⟩ (l2_eq (sl_sh (ic_pure _)) (sl_sh (ic_pure _))) (fun hA => eqIntS_c _ _ (by omega)) rfl rfl) ?_
           refine rv (v := .bool _) (v_not (.inl rfl)) ?_
           refine rv (v := .bool _) (v_move (.inl rfl) nf) ?_
           refine r_gval (v := .bool _) (v_move (.inl rfl) nf) rfl rfl rfl (by decide) (.inl ⟨_, rfl, rfl⟩) rfl (by decide) ?_
           refine r_gval (v := .bool _) (v_move (.inl rfl) nf) rfl rfl rfl (by decide) (.inl ⟨_, rfl, rfl⟩) rfl (by decide) ?_
           refine r_gval (v := .bool _) (v_bne un4 (.inr ⟨_, rfl, fun h => h⟩) (.inr ⟨_, rfl, fun h => h⟩)) rfl rfl rfl (by decide) (.inl ⟨_, rfl, rfl⟩) rfl (by decide) ?_
           refine rv (v := .bool _) (v_pick (.inl rfl) (.inl rfl) (.inr ⟨_, rfl, fun h h2 => by simp_all⟩)) ?_
           refine r_nil ?_
           refine a_cond rfl (fun ht141 => ?_) (fun ht141 => ?_)
           ·
            skip
            refine a_seq ?_
            refine a_pre (ent_look (L := [(10, .bool _), (17, .osl _ _ _ _), (20, .int _ _), (21, .int _ _)]) ⟨Weak.rfl, Weak.rfl, Weak.rfl, Weak.rfl, trivial⟩) ?_
            refine a_region ?_
            refine rv (v := .bool _) (v_assign (.inl rfl) nf) ?_
            refine r_nil ?_
            refine a_ret ?_
            refine ret1 Tryz.results3 (by decide) (by decide) (Weak.of_eq (bool_eq ?_)) rfl Leaves.nil
            first | rfl | (exfalso; simp at ht141; done) | (exfalso; simp at ht141; omega)
           ·
            skip
            refine a_skip ?_
            refine a_seq ?_
            refine a_pre (ent_look (L := [(10, .bool _), (17, .osl _ _ _ _), (20, .int _ _), (21, .int _ _)]) ⟨Weak.rfl, Weak.rfl, Weak.rfl, Weak.rfl, trivial⟩) ?_
            refine a_region ?_
            refine rv (v := .int _ _) (v_assign (.inl rfl) nf) ?_
            refine r_nil ?_
            refine a_seq ?_
            refine a_region ?_
            refine rv (v := .rsl _ _ _ _ _) (v_move (.inl rfl) nf) ?_
            refine rv (v := .int _ _) (v_move (.inl rfl) nf) ?_
            refine rn (v := .int _ _) (q_call (vs := [.rsl _ _ _ _ _, .int _ _]) (args := [.sl _ _, .int .i64 _]) hb17 ⟨.inl rfl, .inl rfl, trivial⟩ (l2_eq (sl_sh (ic_pure _)) rfl) (fun hA => heldIntS_c _ _ (by omega)) rfl rfl) ?_
            refine rv (v := .int _ _) (v_assign (.inl rfl) nf) ?_
            refine r_nil ?_
            refine a_seq ?_
            refine a_seq ?_
            refine a_region ?_
            refine rv (v := .int _ _) (v_move (.inl rfl) nf) ?_
            refine rv (v := .bool _) (v_lss (.inl rfl) (.inl rfl)) ?_
            refine r_nil ?_
            refine a_cond rfl (fun ht146 => ?_) (fun ht146 => ?_)
            ·
             skip
             refine a_seq ?_
             refine a_region ?_
             refine rv (v := .bool _) (v_assign (.inl rfl) nf) ?_
             refine r_nil ?_
             refine a_ret ?_
             refine ret1 Tryz.results3 (by decide) (by decide) (Weak.of_eq (bool_eq ?_)) rfl Leaves.nil
             first | rfl | (exfalso; simp at ht146; done) | (exfalso; simp at ht146; omega)
            ·
             skip
             refine a_skip ?_
             refine a_seq ?_
             refine a_seq ?_
             refine a_region ?_
             refine rv (v := .int _ _) (v_move (.inl rfl) nf) ?_
             refine rv (v := .int _ _) (v_move (.inl rfl) nf) ?_
             refine rv (v := .bool _) (v_neq (.inl rfl) (.inl rfl)) ?_
             refine r_nil ?_
             refine a_cond rfl (fun ht149 => ?_) (fun ht149 => ?_)
             ·
              skip
              refine a_seq ?_
              refine a_pre (ent_look (L := [(10, .bool _)]) ⟨Weak.rfl, trivial⟩) ?_
              refine a_region ?_
              refine rv (v := .bool _) (v_assign (.inl rfl) nf) ?_
              refine r_nil ?_
              refine a_ret ?_
              refine ret1 Tryz.results3 (by decide) (by decide) (Weak.of_eq (bool_eq ?_)) rfl Leaves.nil
              first | rfl | (exfalso; simp at ht149; done) | (exfalso; simp at ht149; omega)
             ·
              skip
              refine a_skip ?_
              refine a_seq ?_
              refine a_pre (ent_look (L := [(10, .bool _)]) ⟨Weak.rfl, trivial⟩) ?_
              refine a_region ?_
              refine rv (v := .bool _) (v_assign (.inl rfl) nf) ?_
              refine r_nil ?_
              refine a_ret ?_
              refine ret1 Tryz.results3 (by decide) (by decide) (Weak.of_eq (bool_eq ?_)) rfl Leaves.nil
              first | rfl | (exfalso; simp at ht149; done) | (exfalso; simp at ht149; omega)
end Go.Av
namespace Go.Av
open Go
theorem bd64 {n : Int} (h : (Lit.int .i64 n).wf = true) : -9223372036854775808 ≤ n ∧ n ≤ 9223372036854775807 := bounds_i64 h
theorem len64 {n : Nat} (h : n ≤ maxLen) : (n : Int) ≤ 9223372036854775807 := by unfold maxLen at h; omega
theorem icells_flat (xs : List Int) : xs.flatMap (fun n => [AV.int .i64 n]) = icells xs := by
 induction xs with
 | nil => rfl
 | cons x xs ih => rw [List.flatMap_cons, ih]; rfl
end Go.Av
namespace Go.Av
open Go
theorem sls_flat (L : List (List Int)) : L.flatMap (fun c => [AV.sl (icells c) c.length]) = sls L := by
  induction L with
  | nil => rfl
  | cons c L ih => rw [List.flatMap_cons, ih]; rfl
theorem cnf_hyp {L : List (List Int)} (h : L.length ≤ maxLen ∧ ∀ y ∈ L, (y.length ≤ maxLen ∧ ∀ z ∈ y, (Lit.int .i64 z).wf = true ∧ ([AV.int .i64 z]).length = 1) ∧ ([AV.sl (y.flatMap fun z => [AV.int .i64 z]) y.length]).length = 1) :
    (∀ i, ((gl L i).length : Int) ≤ 9223372036854775807) ∧ (L.length : Int) ≤ 9223372036854775807 ∧ ∀ i j, -9223372036854775808 ≤ gd (gl L i) j ∧ gd (gl L i) j ≤ 9223372036854775807 := by
  refine ⟨fun i => ?_, len64 h.1, fun i => ?_⟩
  · rcases Nat.lt_or_ge i L.length with hi | hi
    · exact len64 (h.2 _ (gl_mem hi)).1.1
    · rw [gl_out hi]; simp
  · rcases Nat.lt_or_ge i L.length with hi | hi
    · exact gd_bd fun x hx => bd64 ((h.2 _ (gl_mem hi)).1.2 x hx).1
    · intro j; rw [gl_out hi]; simp [gd]
end Go.Av
namespace Go.Av
open Go Go.Proofs Go.Proofs.YtciapnffpjmggaaGreat
set_option maxRecDepth 100000
theorem arg3 : OpensV Tryz.prog 3 (fun x : Int => AV.int .i64 x) (fun x => (Lit.int .i64 x).wf = true) :=
 opensV_one (ok_scalar (by rw [Tryz.underlying3])) (opens_int Tryz.underlying3) (fun _ => rfl)
theorem arg22 : OpensV Tryz.prog 22 (fun x : List (List (Int)) => AV.sl (x.flatMap fun y4 => [AV.sl (y4.flatMap fun y3 => [AV.int .i64 y3]) y4.length]) x.length) (fun x => (x.length ≤ maxLen ∧ ∀ y4 ∈ x, (y4.length ≤ maxLen ∧ ∀ y3 ∈ y4, (Lit.int .i64 y3).wf = true ∧ ([AV.int .i64 y3]).length = 1) ∧ ([AV.sl (y4.flatMap fun y3 => [AV.int .i64 y3]) y4.length]).length = 1)) :=
 opensV_one (ok_scalar (by rw [Tryz.underlying22])) (opens_slice (k := 1) Tryz.underlying22 (by kernel_rfl) (by decide) (opens_slice (k := 1) Tryz.underlying25 (by kernel_rfl) (by decide) (opens_int Tryz.underlying3) (fun _ => rfl)) (fun _ => rfl)) (fun _ => rfl)
theorem arg24 : OpensV Tryz.prog 24 (fun x : (Int) × (List (List (Int))) => .agg (([AV.int .i64 x.1] ++ [AV.sl (x.2.flatMap fun y2 => [AV.sl (y2.flatMap fun y1 => [AV.int .i64 y1]) y2.length]) x.2.length]))) (fun x => (((Lit.int .i64 x.1).wf = true) ∧ ((x.2.length ≤ maxLen ∧ ∀ y2 ∈ x.2, (y2.length ≤ maxLen ∧ ∀ y1 ∈ y2, (Lit.int .i64 y1).wf = true ∧ ([AV.int .i64 y1]).length = 1) ∧ ([AV.sl (y2.flatMap fun y1 => [AV.int .i64 y1]) y2.length]).length = 1)))) :=
 opensV_agg (ok_agg (by rw [Tryz.underlying24])) (opens_struct Tryz.underlying24 (tot := (1 + 1)) (by kernel_rfl) (opensFs_cons rfl (by kernel_rfl) (opens_int Tryz.underlying3) (opensFs_one rfl (by kernel_rfl) (opens_slice (k := 1) Tryz.underlying22 (by kernel_rfl) (by decide) (opens_slice (k := 1) Tryz.underlying25 (by kernel_rfl) (by decide) (opens_int Tryz.underlying3) (fun _ => rfl)) (fun _ => rfl)))))
theorem arg25 : OpensV Tryz.prog 25 (fun x : List (Int) => AV.sl (x.flatMap fun y5 => [AV.int .i64 y5]) x.length) (fun x => (x.length ≤ maxLen ∧ ∀ y5 ∈ x, (Lit.int .i64 y5).wf = true ∧ ([AV.int .i64 y5]).length = 1)) :=
 opensV_one (ok_scalar (by rw [Tryz.underlying25])) (opens_slice (k := 1) Tryz.underlying25 (by kernel_rfl) (by decide) (opens_int Tryz.underlying3) (fun _ => rfl)) (fun _ => rfl)
theorem rowOwn : ownKnob Tryz.prog.godebug = none := by kernel_rfl
theorem rowLaid : laidOutB Tryz.prog = true := by kernel_rfl
end Go.Av
