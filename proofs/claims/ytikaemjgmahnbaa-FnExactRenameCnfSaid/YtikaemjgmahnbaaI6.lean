/- Lemmas, part 6. -/
import Derived.Test.YtikaemjgmahnbaaI5
import Derived.Test.YtikaemjgmahnbaaRows
set_option linter.unusedVariables false
set_option linter.unusedSimpArgs false
namespace Go.Av
open Go Go.Proofs Go.Sort
set_option maxRecDepth 10000


theorem sRen_c (vars : Int) (L : List (List Int)) (p : List Int) (hk : CnfOk vars L) (hl : (p.length : Int) ≤ 1048576) (hb : ∀ j, -9223372036854775808 ≤ gd p j ∧ gd p j ≤ 9223372036854775807) : ACall Try.prog 45 [.agg [.int .i64 vars, .sl (sls L) L.length], .sl (icells p) p.length] [] (.tup [.agg [.int .i64 (resV ((cnfB vars L && permI vars p)) vars), .osl 1 (osls (resL ((cnfB vars L && permI vars p)) (rnF p L L.length))) (resL ((cnfB vars L && permI vars p)) (rnF p L L.length)).length none], .bool ((cnfB vars L && permI vars p))]) [] := by
  refine ACall.intro Try.func45 rfl (N := 110) rfl (by decide) (by simp) ?_
  refine a_seq ?_
  refine a_region ?_
  refine r_new (v := .op [.int _ _, .sl _ _]) (q_box (.inl rfl) rfl rfl) rfl rfl (by decide) ?_
  refine r_new (v := .op [.int _ _, .nils]) (q_alloc zc24) rfl rfl (by decide) ?_
  refine r_val (v := .bool _) (v_assign (.inl rfl) (noOwn_flat rfl)) rfl rfl (by decide) ?_
  refine r_nil ?_
  refine a_seq ?_
  refine a_seq ?_
  refine a_region ?_
  refine r_val (v := .agg [.int _ _, .sl _ _]) (v_load_rpa1 ta24 (.inl rfl) rfl rfl (fun _ => rfl) rfl) rfl rfl (by decide) ?_
  refine r_new (v := .bool _) (q_call (vs := [.agg [.int _ _, .sl _ _]]) (args := [.agg [.int .i64 _, .sl _ _]]) hb79 ⟨.inl rfl, trivial⟩ rfl (fun hA => l2Good_c vars L hk) rfl rfl) rfl rfl (by decide) ?_
  refine r_val (v := .bool _) (v_not (.inl rfl)) rfl rfl (by decide) ?_
  refine r_val (v := .bool _) (v_move (.inl rfl) (noOwn_flat rfl)) rfl rfl (by decide) ?_
  refine r_gval (v := .sl _ _) (v_move (.inl rfl) (noOwn_flat rfl)) rfl rfl rfl (by decide) (.inl ⟨_, rfl, rfl⟩) rfl (by decide) ?_
  refine r_gval (v := .int _ _) (v_len_sl sl39 (.inr ⟨_, rfl, fun h => h⟩)) rfl rfl rfl (by decide) (.inl ⟨_, rfl, rfl⟩) rfl (by decide) ?_
  refine r_gval (v := .rp _ _) (v_fieldAddr_rp fo24_0 (.inl rfl)) rfl rfl rfl (by decide) (.inl ⟨_, rfl, rfl⟩) rfl (by decide) ?_
  refine r_gval (v := .int _ _) (v_load_rp1 ta3 (.inr ⟨_, rfl, fun h => h⟩) rfl (fun _ => rfl) rfl) rfl rfl rfl (by decide) (.inl ⟨_, rfl, rfl⟩) rfl (by decide) ?_
  refine r_gval (v := .bool _) (v_neq (.inr ⟨_, rfl, fun h => h⟩) (.inr ⟨_, rfl, fun h => h⟩)) rfl rfl rfl (by decide) (.inl ⟨_, rfl, rfl⟩) rfl (by decide) ?_
  refine r_val (v := .bool _) (v_pick (.inl rfl) (.inl rfl) (.inr ⟨_, rfl, fun h h2 => by simp_all⟩)) rfl rfl (by decide) ?_
  refine r_nil ?_
  refine a_cond rfl (fun ht22 => ?_) (fun ht22 => ?_)
  ·
    skip
    refine a_seq ?_
    refine a_region ?_
    refine r_val (v := .agg [.int _ _, .nils]) (v_build sp24 rfl rfl) rfl rfl (by decide) ?_
    refine r_step rfl (o_store (v := .agg [.int _ _, .nils]) (y' := .op [.int _ _, .nils]) rfl rfl ta24 (.inl rfl) (.inl rfl) rfl rfl rfl rfl rfl rfl (Nat.le_of_ble_eq_true rfl) (by decide) rfl rfl) ?_
    refine r_val (v := .bool _) (v_assign (.inl rfl) (noOwn_flat rfl)) rfl rfl (by decide) ?_
    refine r_nil ?_
    refine a_pre (ent_nil_at (t := 4) (r := [1]) (sz := 1) rfl (.inl rfl) rfl rfl) ?_
    refine a_ret ?_
    refine retL (rs := [.cell 4 24, .tmp 5]) [(4, _), (5, _)] ⟨Weak.rfl, Weak.rfl, trivial⟩ rfl Try.results45 (by decide) ⟨by decide, _, cell_agg rfl ta24, by decide, rfl⟩ (by decide) (by decide) (l2_eq (agg_eq (l2_eq (int_eq ?_) (osl_eq2 ?_ ?_))) (bool_eq ?_)) (by simp [refsL, refs])
    all_goals (have hf : (cnfB vars L && permI vars p) = false := (by rw [perm_eq]; unfold permS; cases h1 : cnfB vars L <;> simp_all); rw [hf] <;> simp [resV, resL, osls])
  ·
    skip
    refine a_skip ?_
    refine a_seq ?_
    refine a_seq ?_
    have hc : cnfB vars L = true := (by cases h1 : cnfB vars L <;> simp_all)
    have hpl : (p.length : Int) = vars := (by simp only [hc] at ht22; simpa using ht22)
    have hcs := cnfB_spec hc
    refine a_region ?_
    refine r_val (v := .int _ _) (v_assign (.inl rfl) (noOwn_flat rfl)) rfl rfl (by decide) ?_
    refine r_nil ?_
    refine a_block ?_
    refine a_loop (X := Nat) (fun i => look [(1, .sl (icells p) p.length), (2, .op [.int .i64 vars, .sl (sls L) L.length]), (4, .op [.int .i64 0, .nils]), (6, .int .i64 ((i : Nat) : Int))]) (fun i => i ≤ p.length ∧ ∀ j, j < i → prefOk vars p j = true) (fun i => p.length - i) 0 (ent_look ⟨Weak.of_eq rfl, Weak.of_eq rfl, Weak.of_eq rfl, Weak.of_eq rfl, trivial⟩) ⟨Nat.zero_le _, fun j h => by omega⟩ (fun i hG => ?_)
    obtain ⟨g1, g2⟩ := hG
    refine a_seq ?_
    refine a_seq ?_
    refine a_region ?_
    refine r_val (v := .int _ _) (v_move (.inl rfl) (noOwn_flat rfl)) rfl rfl (by decide) ?_
    refine r_val (v := .sl _ _) (v_move (.inl rfl) (noOwn_flat rfl)) rfl rfl (by decide) ?_
    refine r_val (v := .int _ _) (v_len_sl sl39 (.inl rfl)) rfl rfl (by decide) ?_
    refine r_val (v := .bool _) (v_lss (.inl rfl) (.inl rfl)) rfl rfl (by decide) ?_
    refine r_nil ?_
    refine a_cond rfl (fun ht27 => ?_) (fun ht27 => ?_)
    ·
      skip
      refine a_skip ?_
      refine a_seq ?_
      refine a_block ?_
      refine a_seq ?_
      have hi : i < p.length := (by simp at ht27; omega)
      have hbi := hb i
      refine a_region_any mixed (by kernel_rfl) ?_
      refine y_val (v := .rp _ _) (v_fieldAddr_rp fo24_0 (.inl rfl)) rfl rfl (by decide) (by kernel_rfl) ?_
      refine y_val (v := .int _ _) (v_load_rp1 ta3 (.inl rfl) rfl (fun _ => rfl) rfl) rfl rfl (by decide) (by kernel_rfl) ?_
      refine y_val (v := .sl _ _) (v_move (.inl rfl) (noOwn_flat rfl)) rfl rfl (by decide) (by kernel_rfl) ?_
      refine y_val (v := .int _ _) (v_move (.inl rfl) (noOwn_flat rfl)) rfl rfl (by decide) (by kernel_rfl) ?_
      refine y_val (v := .pp _ _) (v_indexAddr_sl es39 (.inl rfl) (.inl rfl) (fun _ => ⟨by omega, by omega, icells_ne hi⟩)) rfl rfl (by decide) (by kernel_rfl) ?_
      refine y_val (v := .int .i64 (gd p i)) (v_load_pp ta3 (.inl rfl) (fun _ => by rw [Nat.mul_one]; exact icells_get (gd_get hi)) rfl) rfl rfl (by decide) (by kernel_rfl) ?_
      refine y_new (v := .bool _) (q_call (vs := [.int _ _, .int _ _]) (args := [.int .i64 _, .int .i64 _]) hb80 ⟨.inl rfl, .inl rfl, trivial⟩ rfl (fun hA => l2Lit_c _ _ (by omega)) rfl rfl) rfl rfl (by decide) (by kernel_rfl) ?_
      refine y_val (v := .bool _) (v_not (.inl rfl)) rfl rfl (by decide) (by kernel_rfl) ?_
      refine y_val (v := .bool _) (v_move (.inl rfl) (noOwn_flat rfl)) rfl rfl (by decide) (by kernel_rfl) ?_
      refine y_guard (v := .sl _ _) (v_move (.inl rfl) (noOwn_flat rfl)).quiet rfl rfl rfl (by decide) (.inl ⟨_, rfl, rfl⟩) rfl (by decide) (by kernel_rfl) ?_
      refine y_guard (v := .int _ _) (v_move (.inl rfl) (noOwn_flat rfl)).quiet rfl rfl rfl (by decide) (.inl ⟨_, rfl, rfl⟩) rfl (by decide) (by kernel_rfl) ?_
      refine y_guard (v := .sl (icells (p.take i)) i) ((v_slice_sl (l := 0) (h := i) es39 (.inr ⟨_, rfl, fun h => h⟩) (.inl ⟨rfl, rfl⟩) (.inr ⟨_, _, rfl, .inr ⟨_, rfl, fun h => h⟩⟩) (fun _ => by omega)).cast (sl_eq2 (by simp [icells]) rfl)).quiet rfl rfl rfl (by decide) (.inl ⟨_, rfl, rfl⟩) rfl (by decide) (by kernel_rfl) ?_
      refine y_guard (v := .sl _ _) (v_move (.inl rfl) (noOwn_flat rfl)).quiet rfl rfl rfl (by decide) (.inl ⟨_, rfl, rfl⟩) rfl (by decide) (by kernel_rfl) ?_
      refine y_guard (v := .int _ _) (v_move (.inl rfl) (noOwn_flat rfl)).quiet rfl rfl rfl (by decide) (.inl ⟨_, rfl, rfl⟩) rfl (by decide) (by kernel_rfl) ?_
      refine y_guard (v := .pp _ _) (v_indexAddr_sl es39 (.inr ⟨_, rfl, fun h => h⟩) (.inr ⟨_, rfl, fun h => h⟩) (fun _ => ⟨by omega, by omega, icells_ne hi⟩)).quiet rfl rfl rfl (by decide) (.inl ⟨_, rfl, rfl⟩) rfl (by decide) (by kernel_rfl) ?_
      refine y_guard (v := .int .i64 (gd p i)) (v_load_pp ta3 (.inr ⟨_, rfl, fun h => h⟩) (fun _ => by rw [Nat.mul_one]; exact icells_get (gd_get hi)) rfl).quiet rfl rfl rfl (by decide) (.inl ⟨_, rfl, rfl⟩) rfl (by decide) (by kernel_rfl) ?_
      refine y_guard (v := .bool _) (q_call (vs := [.sl _ _, .int _ _]) (args := [.sl _ _, .int .i64 _]) hb81 ⟨.inr ⟨_, rfl, fun h => h⟩, .inr ⟨_, rfl, fun h => h⟩, trivial⟩ rfl (fun hA => has2_c (p.take i) i _ ⟨by rw [List.length_take]; omega, by omega⟩) rfl rfl) rfl rfl rfl (by decide) (.inl ⟨_, rfl, rfl⟩) rfl (by decide) (by kernel_rfl) ?_
      refine y_val (v := .bool _) (v_pick (.inl rfl) (.inl rfl) (.inr ⟨_, rfl, fun h h2 => by simp_all⟩)) rfl rfl (by decide) (by kernel_rfl) ?_
      refine y_val (v := .bool _) (v_move (.inl rfl) (noOwn_flat rfl)) rfl rfl (by decide) (by kernel_rfl) ?_
      refine y_guard (v := .sl _ _) (v_move (.inl rfl) (noOwn_flat rfl)).quiet rfl rfl rfl (by decide) (.inl ⟨_, rfl, rfl⟩) rfl (by decide) (by kernel_rfl) ?_
      refine y_guard (v := .int _ _) (v_move (.inl rfl) (noOwn_flat rfl)).quiet rfl rfl rfl (by decide) (.inl ⟨_, rfl, rfl⟩) rfl (by decide) (by kernel_rfl) ?_
      refine y_guard (v := .sl (icells (p.take i)) i) ((v_slice_sl (l := 0) (h := i) es39 (.inr ⟨_, rfl, fun h => h⟩) (.inl ⟨rfl, rfl⟩) (.inr ⟨_, _, rfl, .inr ⟨_, rfl, fun h => h⟩⟩) (fun _ => by omega)).cast (sl_eq2 (by simp [icells]) rfl)).quiet rfl rfl rfl (by decide) (.inl ⟨_, rfl, rfl⟩) rfl (by decide) (by kernel_rfl) ?_
      refine y_guard (v := .sl _ _) (v_move (.inl rfl) (noOwn_flat rfl)).quiet rfl rfl rfl (by decide) (.inl ⟨_, rfl, rfl⟩) rfl (by decide) (by kernel_rfl) ?_
      refine y_guard (v := .int _ _) (v_move (.inl rfl) (noOwn_flat rfl)).quiet rfl rfl rfl (by decide) (.inl ⟨_, rfl, rfl⟩) rfl (by decide) (by kernel_rfl) ?_
      refine y_guard (v := .pp _ _) (v_indexAddr_sl es39 (.inr ⟨_, rfl, fun h => h⟩) (.inr ⟨_, rfl, fun h => h⟩) (fun _ => ⟨by omega, by omega, icells_ne hi⟩)).quiet rfl rfl rfl (by decide) (.inl ⟨_, rfl, rfl⟩) rfl (by decide) (by kernel_rfl) ?_
      refine y_guard (v := .int .i64 (gd p i)) (v_load_pp ta3 (.inr ⟨_, rfl, fun h => h⟩) (fun _ => by rw [Nat.mul_one]; exact icells_get (gd_get hi)) rfl).quiet rfl rfl rfl (by decide) (.inl ⟨_, rfl, rfl⟩) rfl (by decide) (by kernel_rfl) ?_
      refine y_guard (v := .int _ _) (v_neg (.inr ⟨_, rfl, fun h => h⟩) (fun hA => by simp at hA; have := litB_spec.1 hA.1; omega)).quiet rfl rfl rfl (by decide) (.inl ⟨_, rfl, rfl⟩) rfl (by decide) (by kernel_rfl) ?_
      refine y_guard (v := .bool _) (q_call (vs := [.sl _ _, .int _ _]) (args := [.sl _ _, .int .i64 _]) hb81 ⟨.inr ⟨_, rfl, fun h => h⟩, .inr ⟨_, rfl, fun h => h⟩, trivial⟩ rfl (fun hA => has2_c (p.take i) i _ ⟨by rw [List.length_take]; omega, by omega⟩) rfl rfl) rfl rfl rfl (by decide) (.inl ⟨_, rfl, rfl⟩) rfl (by decide) (by kernel_rfl) ?_
      refine y_val (v := .bool _) (v_pick (.inl rfl) (.inl rfl) (.inr ⟨_, rfl, fun h h2 => by simp_all⟩)) rfl rfl (by decide) (by kernel_rfl) ?_
      refine y_nil ?_
      refine a_cond rfl (fun ht58 => ?_) (fun ht58 => ?_)
      ·
        skip
        refine a_seq ?_
        refine a_pre (ent_look (L := [(1, .sl _ _), (2, .op [.int _ _, .sl _ _]), (4, .op [.int _ _, .nils]), (6, .int _ _)]) ⟨Weak.rfl, Weak.rfl, Weak.rfl, Weak.rfl, trivial⟩) ?_
        have hno := permS_no (vars := vars) hi (by unfold prefOk; cases h1 : litB vars (gd p i) <;> simp_all <;> (intro h9; exact ht58.resolve_left h9))
        refine a_region ?_
        refine r_val (v := .agg [.int _ _, .nils]) (v_build sp24 rfl rfl) rfl rfl (by decide) ?_
        refine r_step rfl (o_store (v := .agg [.int _ _, .nils]) (y' := .op [.int _ _, .nils]) rfl rfl ta24 (.inl rfl) (.inl rfl) rfl rfl rfl rfl rfl rfl (Nat.le_of_ble_eq_true rfl) (by decide) rfl rfl) ?_
        refine r_val (v := .bool _) (v_assign (.inl rfl) (noOwn_flat rfl)) rfl rfl (by decide) ?_
        refine r_nil ?_
        refine a_pre (ent_nil_at (t := 4) (r := [1]) (sz := 1) rfl (.inl rfl) rfl rfl) ?_
        refine a_ret ?_
        refine retL (rs := [.cell 4 24, .tmp 5]) [(4, _), (5, _)] ⟨Weak.rfl, Weak.rfl, trivial⟩ rfl Try.results45 (by decide) ⟨by decide, _, cell_agg rfl ta24, by decide, rfl⟩ (by decide) (by decide) (l2_eq (agg_eq (l2_eq (int_eq ?_) (osl_eq2 ?_ ?_))) (bool_eq ?_)) (by simp [refsL, refs])
        all_goals (have hf : (cnfB vars L && permI vars p) = false := (by rw [perm_eq, hno]; simp); rw [hf] <;> simp [resV, resL, osls])
      ·
        skip
        refine a_skip ?_
        refine a_pre (ent_look (L := [(1, .sl _ _), (2, .op [.int _ _, .sl _ _]), (4, .op [.int _ _, .nils]), (6, .int _ _)]) ⟨Weak.rfl, Weak.rfl, Weak.rfl, Weak.rfl, trivial⟩) ?_
        refine a_region ?_
        refine r_val (v := .int _ _) (v_move (.inl rfl) (noOwn_flat rfl)) rfl rfl (by decide) ?_
        refine r_val (v := .int _ _) (v_add (.inl rfl) (.inl rfl) (fun _ => by omega)) rfl rfl (by decide) ?_
        refine r_val (v := .int _ _) (v_assign (.inl rfl) (noOwn_flat rfl)) rfl rfl (by decide) ?_
        refine r_nil ?_
        refine ⟨i + 1, ent_look ⟨Weak.of_eq rfl, Weak.of_eq rfl, Weak.of_eq rfl, Weak.of_eq (int_eq (by omega)), trivial⟩, ⟨by omega, fun j h1 => by rcases Nat.lt_or_ge j i with h | h; exact g2 j h; (obtain rfl : j = i := by omega); unfold prefOk; cases h1 : litB vars (gd p j) <;> simp_all⟩, by omega⟩
    ·
      skip
      refine a_exit ?_
      refine a_seq ?_
      have hps : permS vars p = true := permS_yes hpl (fun j hj => g2 j (by simp at ht27; omega))
      refine a_region ?_
      refine r_val (v := .rp _ _) (v_fieldAddr_rp fo24_0 (.inl rfl)) rfl rfl (by decide) ?_
      refine r_val (v := .int _ _) (v_load_rp1 ta3 (.inl rfl) rfl (fun _ => rfl) rfl) rfl rfl (by decide) ?_
      refine r_new (v := .osl _ _ _ _) (q_sliceLit (n := 0) (parts := []) lt22 rfl rfl rfl rfl) rfl rfl (by decide) ?_
      refine r_pre (ent_eq (t := 62) (v' := .osl 1 [] 0 none) (Weak.osl rfl rfl)) ?_
      refine r_val (v := .agg [.int _ _, .rsl _ _ _ _ _]) (v_build sp24 rfl rfl) rfl rfl (by decide) ?_
      refine r_new (v := .op [.int _ _, .nils]) (q_alloc zc24) rfl rfl (by decide) ?_
      refine r_pre (ent_reloc_at_sl (t := 63) (r := [1]) rfl (by decide) rfl rfl) ?_
      refine r_step rfl (o_store_own (v := .agg [.int _ _, .osl _ _ _ _]) (y' := .op [.int _ _, .osl _ _ _ _]) rfl rfl ta24 (.inl rfl) (by decide) rfl (by decide) rfl (by simp [cellsOf, noRefL, noRef, osls_noRef]) rfl rfl rfl rfl rfl (Nat.le_of_ble_eq_true rfl) rfl rfl) ?_
      refine r_nil ?_
      refine a_seq ?_
      refine a_seq ?_
      refine a_region ?_
      refine r_val (v := .int _ _) (v_assign (.inl rfl) (noOwn_flat rfl)) rfl rfl (by decide) ?_
      refine r_nil ?_
      refine a_block ?_
      refine a_loop (X := Nat) (fun i => look [(1, .sl (icells p) p.length), (2, .op [.int .i64 vars, .sl (sls L) L.length]), (4, .op [.int .i64 0, .nils]), (7, .op [.int .i64 vars, .osl 1 (osls (rnF p L i)) (rnF p L i).length none]), (8, .int .i64 ((i : Nat) : Int))]) (fun i => i ≤ L.length) (fun i => L.length - i) 0 (ent_look ⟨Weak.of_eq rfl, Weak.of_eq rfl, Weak.of_eq rfl, Weak.of_eq rfl, Weak.of_eq rfl, trivial⟩) (Nat.zero_le _) (fun i hG => ?_)
      refine a_seq ?_
      refine a_seq ?_
      refine a_region ?_
      refine r_val (v := .int _ _) (v_move (.inl rfl) (noOwn_flat rfl)) rfl rfl (by decide) ?_
      refine r_val (v := .rp _ _) (v_fieldAddr_rp fo24_1 (.inl rfl)) rfl rfl (by decide) ?_
      refine r_val (v := .sl _ _) (v_load_rp1 ta22 (.inl rfl) rfl (fun _ => rfl) rfl) rfl rfl (by decide) ?_
      refine r_val (v := .int _ _) (v_len_sl sl22 (.inl rfl)) rfl rfl (by decide) ?_
      refine r_val (v := .bool _) (v_lss (.inl rfl) (.inl rfl)) rfl rfl (by decide) ?_
      refine r_nil ?_
      refine a_cond rfl (fun ht68 => ?_) (fun ht68 => ?_)
      ·
        skip
        refine a_skip ?_
        refine a_seq ?_
        refine a_block ?_
        refine a_seq ?_
        have hi : i < L.length := (by simp at ht68; omega)
        have hcl := hcs.2.2 i hi
        have hcn := clB_len hcl
        have hrl := rnF_len (p := p) (L := L) (i := i) (by omega)
        refine a_region ?_
        refine r_new (v := .osl _ _ _ _) (q_sliceLit (n := 0) (parts := []) lt39 rfl rfl rfl rfl) rfl rfl (by decide) ?_
        refine r_val (v := .rsl _ _ _ _ _) (v_assign (.inl rfl) (noOwn_flat rfl)) rfl rfl (by decide) ?_
        refine r_pre (ent_reloc_sl (t := 9) rfl rfl) ?_
        refine r_nil ?_
        refine a_seq ?_
        refine a_seq ?_
        refine a_region ?_
        refine r_val (v := .int _ _) (v_assign (.inl rfl) (noOwn_flat rfl)) rfl rfl (by decide) ?_
        refine r_nil ?_
        refine a_block ?_
        refine a_loop (X := Nat) (fun k => look [(1, .sl (icells p) p.length), (2, .op [.int .i64 vars, .sl (sls L) L.length]), (4, .op [.int .i64 0, .nils]), (7, .op [.int .i64 vars, .osl 1 (osls (rnF p L i)) (rnF p L i).length none]), (8, .int .i64 ((i : Nat) : Int)), (9, .osl 1 (icells (pfP p (gl L i) k)) (pfP p (gl L i) k).length none), (10, .int .i64 ((k : Nat) : Int))]) (fun k => k ≤ (gl L i).length) (fun k => (gl L i).length - k) 0 (ent_look ⟨Weak.of_eq rfl, Weak.of_eq rfl, Weak.of_eq rfl, Weak.of_eq rfl, Weak.of_eq rfl, Weak.osl rfl rfl, Weak.of_eq rfl, trivial⟩) (Nat.zero_le _) (fun k hG => ?_)
        refine a_seq ?_
        refine a_seq ?_
        refine a_region ?_
        refine r_val (v := .int _ _) (v_move (.inl rfl) (noOwn_flat rfl)) rfl rfl (by decide) ?_
        refine r_val (v := .rp _ _) (v_fieldAddr_rp fo24_1 (.inl rfl)) rfl rfl (by decide) ?_
        refine r_val (v := .sl _ _) (v_load_rp1 ta22 (.inl rfl) rfl (fun _ => rfl) rfl) rfl rfl (by decide) ?_
        refine r_val (v := .int _ _) (v_move (.inl rfl) (noOwn_flat rfl)) rfl rfl (by decide) ?_
        refine r_val (v := .pp _ _) (v_indexAddr_sl es22 (.inl rfl) (.inl rfl) (fun _ => ⟨by omega, by omega, sls_ne hi⟩)) rfl rfl (by decide) ?_
        refine r_val (v := .sl (icells (gl L i)) (gl L i).length) (v_load_pp ta39 (.inl rfl) (fun _ => by rw [Nat.mul_one]; exact sls_get hi) rfl) rfl rfl (by decide) ?_
        refine r_val (v := .int _ _) (v_len_sl sl39 (.inl rfl)) rfl rfl (by decide) ?_
        refine r_val (v := .bool _) (v_lss (.inl rfl) (.inl rfl)) rfl rfl (by decide) ?_
        refine r_nil ?_
        refine a_cond rfl (fun ht79 => ?_) (fun ht79 => ?_)
        ·
          skip
          refine a_skip ?_
          refine a_seq ?_
          refine a_block ?_
          refine a_seq ?_
          have hk2 : k < (gl L i).length := (by simp at ht79; omega)
          have hx := litB_spec.1 (clB_lit hcl hk2)
          have hvx : 1 ≤ vr (gd (gl L i) k) ∧ vr (gd (gl L i) k) ≤ vars := (by unfold vr; split <;> omega)
          have hll := (permS_spec hps).2.1 (vr (gd (gl L i) k) - 1).toNat (by omega)
          have hlx := litB_spec.1 hll
          have hsm := pfP_sm (i := k) hcs.1 hps hcl
          have hpfl := pfP_len (p := p) (c := gl L i) (i := k) (by omega)
          refine a_region ?_
          refine r_val (v := .rp _ _) (v_fieldAddr_rp fo24_1 (.inl rfl)) rfl rfl (by decide) ?_
          refine r_val (v := .sl _ _) (v_load_rp1 ta22 (.inl rfl) rfl (fun _ => rfl) rfl) rfl rfl (by decide) ?_
          refine r_val (v := .int _ _) (v_move (.inl rfl) (noOwn_flat rfl)) rfl rfl (by decide) ?_
          refine r_val (v := .pp _ _) (v_indexAddr_sl es22 (.inl rfl) (.inl rfl) (fun _ => ⟨by omega, by omega, sls_ne hi⟩)) rfl rfl (by decide) ?_
          refine r_val (v := .sl (icells (gl L i)) (gl L i).length) (v_load_pp ta39 (.inl rfl) (fun _ => by rw [Nat.mul_one]; exact sls_get hi) rfl) rfl rfl (by decide) ?_
          refine r_val (v := .int _ _) (v_move (.inl rfl) (noOwn_flat rfl)) rfl rfl (by decide) ?_
          refine r_val (v := .pp _ _) (v_indexAddr_sl es39 (.inl rfl) (.inl rfl) (fun _ => ⟨by omega, by omega, icells_ne hk2⟩)) rfl rfl (by decide) ?_
          refine r_val (v := .int .i64 (gd (gl L i) k)) (v_load_pp ta3 (.inl rfl) (fun _ => by rw [Nat.mul_one]; exact icells_get (gd_get hk2)) rfl) rfl rfl (by decide) ?_
          refine r_val (v := .int _ _) (v_assign (.inl rfl) (noOwn_flat rfl)) rfl rfl (by decide) ?_
          refine r_nil ?_
          refine a_seq ?_
          refine a_region ?_
          refine r_val (v := .sl _ _) (v_move (.inl rfl) (noOwn_flat rfl)) rfl rfl (by decide) ?_
          refine r_val (v := .int _ _) (v_move (.inl rfl) (noOwn_flat rfl)) rfl rfl (by decide) ?_
          refine r_new (v := .int _ _) (q_call (vs := [.int _ _]) (args := [.int .i64 _]) hb82 ⟨.inl rfl, trivial⟩ rfl (fun hA => l2Var_c _ (by omega)) rfl rfl) rfl rfl (by decide) ?_
          refine r_val (v := .int _ _) (v_sub (.inl rfl) (.inl rfl) (fun _ => by omega)) rfl rfl (by decide) ?_
          refine r_val (v := .pp _ _) (v_indexAddr_sl es39 (.inl rfl) (.inl rfl) (fun _ => ⟨by omega, by omega, icells_ne (show (vr (gd (gl L i) k) - 1).toNat < p.length by omega)⟩)) rfl rfl (by decide) ?_
          refine r_val (v := .int .i64 (gd p (vr (gd (gl L i) k) - 1).toNat)) (v_load_pp ta3 (.inl rfl) (fun _ => by rw [Nat.mul_one]; exact icells_get (gd_get (show (vr (gd (gl L i) k) - 1).toNat < p.length by omega))) rfl) rfl rfl (by decide) ?_
          refine r_val (v := .int _ _) (v_assign (.inl rfl) (noOwn_flat rfl)) rfl rfl (by decide) ?_
          refine r_nil ?_
          refine a_seq ?_
          refine a_seq ?_
          refine a_pre (ent_look (L := [(1, .sl _ _), (2, .op [.int _ _, .sl _ _]), (4, .op [.int _ _, .nils]), (7, .op [.int _ _, .osl _ _ _ _]), (8, .int _ _), (9, .osl _ _ _ _), (10, .int _ _), (11, .int _ _), (12, .int _ _)]) ⟨Weak.rfl, Weak.rfl, Weak.rfl, Weak.rfl, Weak.rfl, Weak.rfl, Weak.rfl, Weak.rfl, Weak.rfl, trivial⟩) ?_
          refine a_region ?_
          refine r_val (v := .int _ _) (v_move (.inl rfl) (noOwn_flat rfl)) rfl rfl (by decide) ?_
          refine r_val (v := .bool _) (v_lss (.inl rfl) (.inl rfl)) rfl rfl (by decide) ?_
          refine r_nil ?_
          refine a_cond rfl (fun ht97 => ?_) (fun ht97 => ?_)
          ·
            skip
            refine a_region ?_
            refine r_val (v := .int _ _) (v_move (.inl rfl) (noOwn_flat rfl)) rfl rfl (by decide) ?_
            refine r_val (v := .int _ _) (v_neg (.inl rfl) (fun _ => by omega)) rfl rfl (by decide) ?_
            refine r_val (v := .int _ _) (v_assign (.inl rfl) (noOwn_flat rfl)) rfl rfl (by decide) ?_
            refine r_nil ?_
            refine a_region ?_
            refine r_val (v := .rsl _ _ _ _ _) (v_move (.inl rfl) (noOwn_flat rfl)) rfl rfl (by decide) ?_
            refine r_val (v := .int _ _) (v_move (.inl rfl) (noOwn_flat rfl)) rfl rfl (by decide) ?_
            refine r_new (v := .osl _ _ _ _) (q_call (vs := [.rsl _ _ _ _ _, .int _ _]) (args := [.sl _ _, .int .i64 _]) hb83 ⟨.inl rfl, .inl rfl, trivial⟩ (l2_eq (sl_sh (ic_pure _)) rfl) (fun hA => put_c (pfP p (gl L i) k) _ _ ⟨rfl, by omega⟩ hsm (by omega)) (ic_noSh _) (ic_noRef _)) rfl rfl (by decide) ?_
            refine r_val (v := .rsl _ _ _ _ _) (v_assign (.inl rfl) (noOwn_flat rfl)) rfl rfl (by decide) ?_
            refine r_pre (ent_reloc_sl (t := 9) rfl rfl) ?_
            refine r_nil ?_
            refine a_region ?_
            refine r_val (v := .int _ _) (v_move (.inl rfl) (noOwn_flat rfl)) rfl rfl (by decide) ?_
            refine r_val (v := .int _ _) (v_add (.inl rfl) (.inl rfl) (fun _ => by omega)) rfl rfl (by decide) ?_
            refine r_val (v := .int _ _) (v_assign (.inl rfl) (noOwn_flat rfl)) rfl rfl (by decide) ?_
            refine r_nil ?_
            refine ⟨k + 1, ent_look ⟨Weak.of_eq rfl, Weak.of_eq rfl, Weak.of_eq rfl, Weak.of_eq rfl, Weak.of_eq rfl, Weak.osl (by rw [pfP_succ hk2, rnv_neg (by simpa using ht97)]) (by rw [pfP_succ hk2, putL_length]), Weak.of_eq (int_eq (by omega)), trivial⟩, (by omega), by omega⟩
          ·
            skip
            refine a_skip ?_
            refine a_region ?_
            refine r_val (v := .rsl _ _ _ _ _) (v_move (.inl rfl) (noOwn_flat rfl)) rfl rfl (by decide) ?_
            refine r_val (v := .int _ _) (v_move (.inl rfl) (noOwn_flat rfl)) rfl rfl (by decide) ?_
            refine r_new (v := .osl _ _ _ _) (q_call (vs := [.rsl _ _ _ _ _, .int _ _]) (args := [.sl _ _, .int .i64 _]) hb83 ⟨.inl rfl, .inl rfl, trivial⟩ (l2_eq (sl_sh (ic_pure _)) rfl) (fun hA => put_c (pfP p (gl L i) k) _ _ ⟨rfl, by omega⟩ hsm (by omega)) (ic_noSh _) (ic_noRef _)) rfl rfl (by decide) ?_
            refine r_val (v := .rsl _ _ _ _ _) (v_assign (.inl rfl) (noOwn_flat rfl)) rfl rfl (by decide) ?_
            refine r_pre (ent_reloc_sl (t := 9) rfl rfl) ?_
            refine r_nil ?_
            refine a_region ?_
            refine r_val (v := .int _ _) (v_move (.inl rfl) (noOwn_flat rfl)) rfl rfl (by decide) ?_
            refine r_val (v := .int _ _) (v_add (.inl rfl) (.inl rfl) (fun _ => by omega)) rfl rfl (by decide) ?_
            refine r_val (v := .int _ _) (v_assign (.inl rfl) (noOwn_flat rfl)) rfl rfl (by decide) ?_
            refine r_nil ?_
            refine ⟨k + 1, ent_look ⟨Weak.of_eq rfl, Weak.of_eq rfl, Weak.of_eq rfl, Weak.of_eq rfl, Weak.of_eq rfl, Weak.osl (by rw [pfP_succ hk2, rnv_pos (by simpa using ht97) hx.2]) (by rw [pfP_succ hk2, putL_length]), Weak.of_eq (int_eq (by omega)), trivial⟩, (by omega), by omega⟩
        ·
          skip
          refine a_exit ?_
          have hke : k = (gl L i).length := (by simp at ht79; omega)
          have hmc := pfP_mc hcs.1 hps hcl
          refine a_pre (ent_eq (t := 9) (v' := .osl 1 (icells (mc ((gl L i).map (rn p)))) (mc ((gl L i).map (rn p))).length none) (Weak.osl (by rw [hke, hmc]) (by rw [hke, hmc]))) ?_
          refine a_region ?_
          refine r_val (v := .rp _ _) (v_fieldAddr_rp fo24_1 (.inl rfl)) rfl rfl (by decide) ?_
          refine r_val (v := .rsl _ _ _ _ _) (v_load_rp (c := .osl _ _ _ _) ta22 (.inl rfl) rfl (fun _ => rfl)) rfl rfl (by decide) ?_
          refine r_val (v := .rsl _ _ _ _ _) (v_move (.inl rfl) (noOwn_flat rfl)) rfl rfl (by decide) ?_
          refine r_pre (ent_reloc_sl (t := 105) rfl rfl) ?_
          refine r_step rfl (o_sliceLit1 (v := .osl _ _ _ _) rfl lt22 rfl rfl (by decide) (by decide) rfl rfl (by simp [cellsOf, noRefL, noRef, ic_noRef]) rfl rfl) ?_
          refine r_pre (ent_reloc_sl (t := 104) rfl rfl) ?_
          refine r_step rfl (o_append_own rfl ap22 rfl (by decide) (by decide) (by decide) (by decide) rfl rfl rfl (by rw [osls_length]; omega) rfl (by rw [hrl]; omega)) ?_
          refine r_val (v := .rp _ _) (v_fieldAddr_rp fo24_1 (.inl rfl)) rfl rfl (by decide) ?_
          refine r_pre (ent_eq (t := 107) (v' := .osl 1 (osls (rnF p L i ++ [mc ((gl L i).map (rn p))])) (rnF p L i ++ [mc ((gl L i).map (rn p))]).length none) (Weak.osl (by rw [osls_append]; rfl) (by simp))) ?_
          refine r_step rfl (o_store_own (v := .osl _ _ _ _) (y' := .op [.int _ _, .osl _ _ _ _]) rfl rfl ta22 (.inl rfl) (by decide) rfl (by decide) rfl (by simp [cellsOf, noRefL, noRef, osls_noRef]) rfl rfl rfl rfl rfl (Nat.le_of_ble_eq_true rfl) rfl rfl) ?_
          refine r_nil ?_
          refine a_region ?_
          refine r_val (v := .int _ _) (v_move (.inl rfl) (noOwn_flat rfl)) rfl rfl (by decide) ?_
          refine r_val (v := .int _ _) (v_add (.inl rfl) (.inl rfl) (fun _ => by omega)) rfl rfl (by decide) ?_
          refine r_val (v := .int _ _) (v_assign (.inl rfl) (noOwn_flat rfl)) rfl rfl (by decide) ?_
          refine r_nil ?_
          refine ⟨i + 1, ent_look ⟨Weak.of_eq rfl, Weak.of_eq rfl, Weak.of_eq rfl, Weak.of_eq (by rw [rnF_succ hi]; rfl), Weak.of_eq (int_eq (by omega)), trivial⟩, (by omega), by omega⟩
      ·
        skip
        refine a_exit ?_
        refine a_seq ?_
        have hie : i = L.length := (by simp at ht68; omega)
        subst hie
        have hok : (cnfB vars L && permI vars p) = true := (by rw [hc, perm_eq, hps]; rfl)
        refine a_region ?_
        refine r_val (v := .agg [.int _ _, .rsl _ _ _ _ _]) (v_load_rpa (xs := [.int _ _, .osl _ _ _ _]) ta24 (.inl rfl) rfl rfl (fun _ => take_get rfl)) rfl rfl (by decide) ?_
        refine r_pre (ent_reloc_at_sl (t := 109) (r := [1]) rfl (by decide) rfl rfl) ?_
        refine r_step rfl (o_store_own (v := .agg [.int _ _, .osl _ _ _ _]) (y' := .op [.int _ _, .osl _ _ _ _]) rfl rfl ta24 (.inl rfl) (by decide) rfl (by decide) rfl (by simp [cellsOf, noRefL, noRef, osls_noRef]) rfl rfl rfl rfl rfl (Nat.le_of_ble_eq_true rfl) rfl rfl) ?_
        refine r_val (v := .bool _) (v_assign (.inl rfl) (noOwn_flat rfl)) rfl rfl (by decide) ?_
        refine r_nil ?_
        refine a_ret ?_
        refine retL (rs := [.cell 4 24, .tmp 5]) [(4, _), (5, _)] ⟨Weak.rfl, Weak.rfl, trivial⟩ rfl Try.results45 (by decide) ⟨by decide, _, cell_agg rfl ta24, by decide, rfl⟩ (by decide) (by decide) (l2_eq (agg_eq (l2_eq (int_eq ?_) (osl_eq2 ?_ ?_))) (bool_eq ?_)) (by simp [refsL, refs])
        all_goals (rw [hok] <;> simp [resV, resL])
end Go.Av
namespace Go.Av
open Go Go.Proofs Go.Sort
set_option maxRecDepth 10000
theorem hb44 : hasBody Try.prog 44 = true := by kernel_rfl
theorem hb45 : hasBody Try.prog 45 = true := by kernel_rfl
theorem hb46 : hasBody Try.prog 46 = true := by kernel_rfl
theorem hb48 : hasBody Try.prog 48 = true := by kernel_rfl
theorem ta38 : tyAgg Try.prog 38 = some (true, 2) := by kernel_rfl

theorem lawRenameCnf_c (vars : Int) (L : List (List Int)) (p : List Int) (hl9 : (p.length : Int) ≤ 9223372036854775807) (hv : -9223372036854775808 ≤ vars ∧ vars ≤ 9223372036854775807) (hlen : ∀ i, ((gl L i).length : Int) ≤ 9223372036854775807) (hL : (L.length : Int) ≤ 9223372036854775807) (hbb : ∀ i j, -9223372036854775808 ≤ gd (gl L i) j ∧ gd (gl L i) j ≤ 9223372036854775807) (hb : ∀ j, -9223372036854775808 ≤ gd p j ∧ gd p j ≤ 9223372036854775807) : ACall Try.prog 14 [.agg [.int .i64 vars, .sl (sls L) L.length], .sl (icells p) p.length] [] (.bool true) [] := by
  have hr := ren_res (vars := vars) (L := L) (p := p) (q := permI vars p)
  have hrl := fun i => len_tot (L := resL (cnfB vars L && permI vars p) (rnF p L L.length)) (i := i)
  refine ACall.intro Try.func14 rfl (N := 117) rfl (by decide) (by simp) ?_
  refine a_seq ?_
  refine a_region ?_
  refine r_new (v := .op [.int _ _, .sl _ _]) (q_box (.inl rfl) rfl rfl) rfl rfl (by decide) ?_
  refine r_val (v := .bool _) (v_assign (.inl rfl) (noOwn_flat rfl)) rfl rfl (by decide) ?_
  refine r_nil ?_
  refine a_seq ?_
  refine a_seq ?_
  refine a_region ?_
  refine r_val (v := .sl _ _) (v_move (.inl rfl) (noOwn_flat rfl)) rfl rfl (by decide) ?_
  refine r_val (v := .int _ _) (v_len_sl sl39 (.inl rfl)) rfl rfl (by decide) ?_
  refine r_val (v := .bool _) (v_gtr (.inl rfl) (.inl rfl)) rfl rfl (by decide) ?_
  refine r_nil ?_
  refine a_cond rfl (fun ht19 => ?_) (fun ht19 => ?_)
  ·
    skip
    refine a_seq ?_
    refine a_region ?_
    refine r_val (v := .bool _) (v_assign (.inl rfl) (noOwn_flat rfl)) rfl rfl (by decide) ?_
    refine r_nil ?_
    refine a_ret ?_
    refine ret1 Try.results14 (by decide) (by decide) (Weak.of_eq (bool_eq ?_)) rfl Leaves.nil
    first | rfl | (exfalso; simp at ht19; done) | (exfalso; simp at ht19; omega)
  ·
    skip
    refine a_skip ?_
    refine a_seq ?_
    have hle : (p.length : Int) ≤ 1048576 := (by simpa using ht19)
    refine a_region ?_
    refine r_val (v := .int _ _) (v_assign (.inl rfl) (noOwn_flat rfl)) rfl rfl (by decide) ?_
    refine r_nil ?_
    refine a_seq ?_
    refine a_region ?_
    refine r_val (v := .agg [.int _ _, .sl _ _]) (v_load_rpa1 ta38 (.inl rfl) rfl rfl (fun _ => rfl) rfl) rfl rfl (by decide) ?_
    refine r_val (v := .int _ _) (v_move (.inl rfl) (noOwn_flat rfl)) rfl rfl (by decide) ?_
    refine r_new (v := .int _ _) (q_call (vs := [.agg [.int _ _, .sl _ _], .int _ _]) (args := [.agg [.int .i64 _, .sl _ _], .int .i64 _]) hb44 ⟨.inl rfl, .inl rfl, trivial⟩ rfl (fun hA => szCnf_c _ _ _ (by omega) hlen hL) rfl rfl) rfl rfl (by decide) ?_
    refine r_val (v := .int _ _) (v_assign (.inl rfl) (noOwn_flat rfl)) rfl rfl (by decide) ?_
    refine r_nil ?_
    refine a_seq ?_
    refine a_seq ?_
    refine a_region ?_
    refine r_val (v := .int _ _) (v_move (.inl rfl) (noOwn_flat rfl)) rfl rfl (by decide) ?_
    refine r_val (v := .bool _) (v_lss (.inl rfl) (.inl rfl)) rfl rfl (by decide) ?_
    refine r_nil ?_
    refine a_cond rfl (fun ht24 => ?_) (fun ht24 => ?_)
    ·
      skip
      refine a_seq ?_
      refine a_region ?_
      refine r_val (v := .bool _) (v_assign (.inl rfl) (noOwn_flat rfl)) rfl rfl (by decide) ?_
      refine r_nil ?_
      refine a_ret ?_
      refine ret1 Try.results14 (by decide) (by decide) (Weak.of_eq (bool_eq ?_)) rfl Leaves.nil
      first | rfl | (exfalso; simp at ht24; done) | (exfalso; simp at ht24; omega)
    ·
      skip
      refine a_skip ?_
      refine a_seq ?_
      have hsz : L.length + tot L L.length ≤ 1048576 := (by have h9 := of_decide_eq_false ht24; unfold szR at h9; split at h9 <;> omega)
      have hk : CnfOk vars L := ⟨hv, by omega, by omega, hbb⟩
      have hll := fun i => len_tot (L := L) (i := i)
      refine a_region ?_
      refine r_val (v := .agg [.int _ _, .sl _ _]) (v_load_rpa1 ta38 (.inl rfl) rfl rfl (fun _ => rfl) rfl) rfl rfl (by decide) ?_
      refine r_new (v := .agg [.int _ _, .osl _ _ _ _]) (q_call (vs := [.agg [.int _ _, .sl _ _]]) (args := [.agg [.int .i64 _, .sl _ _]]) hb46 ⟨.inl rfl, trivial⟩ rfl (fun hA => toCnf_c _ _ (by omega) (by omega)) (by simp [noSh, noShL, osls_noSh]) (by simp [noRef, noRefL, osls_noRef])) rfl rfl (by decide) ?_
      refine r_val (v := .sl _ _) (v_move (.inl rfl) (noOwn_flat rfl)) rfl rfl (by decide) ?_
      refine r_new (v := .osl _ _ _ _) (q_call (vs := [.sl _ _]) (args := [.sl _ _]) hb47 ⟨.inl rfl, trivial⟩ rfl (fun hA => toIntS_c _ (by omega)) (ic_noSh _) (ic_noRef _)) rfl rfl (by decide) ?_
      refine r_new (v := .tup [.agg [.int _ _, .osl _ _ _ _], .bool _]) (q_call (vs := [.agg [.int _ _, .rsl _ _ _ _ _], .rsl _ _ _ _ _]) (args := [.agg [.int .i64 _, .sl _ _], .sl _ _]) hb45 ⟨.inl rfl, .inl rfl, trivial⟩ (l2_eq (agg_eq (l2_eq rfl sl_osls)) (sl_sh (ic_pure _))) (fun hA => sRen_c _ _ _ hk (by omega) hb) (by simp [noSh, noShL, osls_noSh]) (by simp [noRef, noRefL, osls_noRef])) rfl rfl (by decide) ?_
      refine r_val (v := .tup [.agg [.int _ _, .rsl _ _ _ _ _], .bool _]) (v_mv rfl) rfl rfl (by decide) ?_
      refine r_val (v := .agg [.int _ _, .rsl _ _ _ _ _]) (v_extract rfl rfl) rfl rfl (by decide) ?_
      refine r_val (v := .bool _) (v_extract rfl rfl) rfl rfl (by decide) ?_
      refine r_new (v := .op [.int _ _, .nils]) (q_alloc zc24) rfl rfl (by decide) ?_
      refine r_pre (ent_reloc_at_sl (t := 31) (r := [1]) rfl (by decide) rfl rfl) ?_
      refine r_step rfl (o_store_own (v := .agg [.int _ _, .osl _ _ _ _]) (y' := .op [.int _ _, .osl _ _ _ _]) rfl rfl ta24 (.inl rfl) (by decide) rfl (by decide) rfl (by simp [cellsOf, noRefL, noRef, osls_noRef]) rfl rfl rfl rfl rfl (Nat.le_of_ble_eq_true rfl) rfl rfl) ?_
      refine r_val (v := .bool _) (v_assign (.inl rfl) (noOwn_flat rfl)) rfl rfl (by decide) ?_
      refine r_nil ?_
      refine a_seq ?_
      refine a_pre (ent_look (L := [(1, .sl _ _), (2, .op [.int _ _, .sl _ _]), (4, .bool _), (6, .op [.int _ _, .osl _ _ _ _]), (7, .bool _)]) ⟨Weak.rfl, Weak.rfl, Weak.rfl, Weak.rfl, Weak.rfl, trivial⟩) ?_
      refine a_region ?_
      refine r_val (v := .agg [.int _ _, .sl _ _]) (v_load_rpa1 ta38 (.inl rfl) rfl rfl (fun _ => rfl) rfl) rfl rfl (by decide) ?_
      refine r_new (v := .agg [.int _ _, .osl _ _ _ _]) (q_call (vs := [.agg [.int _ _, .sl _ _]]) (args := [.agg [.int .i64 _, .sl _ _]]) hb46 ⟨.inl rfl, trivial⟩ rfl (fun hA => toCnf_c _ _ (by omega) (by omega)) (by simp [noSh, noShL, osls_noSh]) (by simp [noRef, noRefL, osls_noRef])) rfl rfl (by decide) ?_
      refine r_new (v := .op [.int _ _, .nils]) (q_alloc zc24) rfl rfl (by decide) ?_
      refine r_step rfl (o_store_own (v := .agg [.int _ _, .osl _ _ _ _]) (y' := .op [.int _ _, .osl _ _ _ _]) rfl rfl ta24 (.inl rfl) (by decide) rfl (by decide) rfl (by simp [cellsOf, noRefL, noRef, osls_noRef]) rfl rfl rfl rfl rfl (Nat.le_of_ble_eq_true rfl) rfl rfl) ?_
      refine r_nil ?_
      refine a_seq ?_
      refine a_region ?_
      refine r_val (v := .sl _ _) (v_move (.inl rfl) (noOwn_flat rfl)) rfl rfl (by decide) ?_
      refine r_new (v := .osl _ _ _ _) (q_call (vs := [.sl _ _]) (args := [.sl _ _]) hb47 ⟨.inl rfl, trivial⟩ rfl (fun hA => toIntS_c _ (by omega)) (ic_noSh _) (ic_noRef _)) rfl rfl (by decide) ?_
      refine r_val (v := .rsl _ _ _ _ _) (v_assign (.inl rfl) (noOwn_flat rfl)) rfl rfl (by decide) ?_
      refine r_pre (ent_reloc_sl (t := 9) rfl rfl) ?_
      refine r_nil ?_
      refine a_seq ?_
      refine a_region ?_
      refine r_val (v := .agg [.int _ _, .rsl _ _ _ _ _]) (v_load_rpa (xs := [.int _ _, .osl _ _ _ _]) ta24 (.inl rfl) rfl rfl (fun _ => take_get rfl)) rfl rfl (by decide) ?_
      refine r_val (v := .rsl _ _ _ _ _) (v_move (.inl rfl) (noOwn_flat rfl)) rfl rfl (by decide) ?_
      refine r_new (v := .tup [.agg [.int _ _, .osl _ _ _ _], .bool _]) (q_call (vs := [.agg [.int _ _, .rsl _ _ _ _ _], .rsl _ _ _ _ _]) (args := [.agg [.int .i64 _, .sl _ _], .sl _ _]) hb48 ⟨.inl rfl, .inl rfl, trivial⟩ (l2_eq (agg_eq (l2_eq rfl sl_osls)) (sl_sh (ic_pure _))) (fun hA => iRen_c _ _ _ hk (by omega)) (by simp [noSh, noShL, osls_noSh]) (by simp [noRef, noRefL, osls_noRef])) rfl rfl (by decide) ?_
      refine r_val (v := .tup [.agg [.int _ _, .rsl _ _ _ _ _], .bool _]) (v_mv rfl) rfl rfl (by decide) ?_
      refine r_val (v := .agg [.int _ _, .rsl _ _ _ _ _]) (v_extract rfl rfl) rfl rfl (by decide) ?_
      refine r_val (v := .bool _) (v_extract rfl rfl) rfl rfl (by decide) ?_
      refine r_new (v := .op [.int _ _, .nils]) (q_alloc zc24) rfl rfl (by decide) ?_
      refine r_pre (ent_reloc_at_sl (t := 41) (r := [1]) rfl (by decide) rfl rfl) ?_
      refine r_step rfl (o_store_own (v := .agg [.int _ _, .osl _ _ _ _]) (y' := .op [.int _ _, .osl _ _ _ _]) rfl rfl ta24 (.inl rfl) (by decide) rfl (by decide) rfl (by simp [cellsOf, noRefL, noRef, osls_noRef]) rfl rfl rfl rfl rfl (Nat.le_of_ble_eq_true rfl) rfl rfl) ?_
      refine r_val (v := .bool _) (v_assign (.inl rfl) (noOwn_flat rfl)) rfl rfl (by decide) ?_
      refine r_nil ?_
      refine a_seq ?_
      refine a_seq ?_
      refine a_pre (ent_look (L := [(1, .sl _ _), (2, .op [.int _ _, .sl _ _]), (4, .bool _), (6, .op [.int _ _, .osl _ _ _ _]), (7, .bool _), (8, .op [.int _ _, .osl _ _ _ _]), (9, .osl _ _ _ _), (10, .op [.int _ _, .osl _ _ _ _]), (11, .bool _)]) ⟨Weak.rfl, Weak.rfl, Weak.rfl, Weak.rfl, Weak.rfl, Weak.rfl, Weak.rfl, Weak.rfl, Weak.rfl, trivial⟩) ?_
      refine a_region ?_
      refine r_val (v := .agg [.int _ _, .rsl _ _ _ _ _]) (v_load_rpa (xs := [.int _ _, .osl _ _ _ _]) ta24 (.inl rfl) rfl rfl (fun _ => take_get rfl)) rfl rfl (by decide) ?_
      refine r_val (v := .agg [.int _ _, .rsl _ _ _ _ _]) (v_load_rpa (xs := [.int _ _, .osl _ _ _ _]) ta24 (.inl rfl) rfl rfl (fun _ => take_get rfl)) rfl rfl (by decide) ?_
      refine r_new (v := .bool _) (q_call (vs := [.agg [.int _ _, .rsl _ _ _ _ _], .agg [.int _ _, .rsl _ _ _ _ _]]) (args := [.agg [.int .i64 _, .sl _ _], .agg [.int .i64 _, .sl _ _]]) hb17 ⟨.inl rfl, .inl rfl, trivial⟩ (l2_eq (agg_eq (l2_eq rfl sl_osls)) (agg_eq (l2_eq rfl sl_osls))) (fun hA => eqCnf_c _ _ _ _ (by omega) (by omega) (fun i => by first | (have := hrl i; omega) | (have := hll i; omega))) rfl rfl) rfl rfl (by decide) ?_
      refine r_val (v := .bool _) (v_not (.inl rfl)) rfl rfl (by decide) ?_
      refine r_val (v := .bool _) (v_move (.inl rfl) (noOwn_flat rfl)) rfl rfl (by decide) ?_
      refine r_gval (v := .bool _) (v_move (.inl rfl) (noOwn_flat rfl)) rfl rfl rfl (by decide) (.inl ⟨_, rfl, rfl⟩) rfl (by decide) ?_
      refine r_gval (v := .bool _) (v_move (.inl rfl) (noOwn_flat rfl)) rfl rfl rfl (by decide) (.inl ⟨_, rfl, rfl⟩) rfl (by decide) ?_
      refine r_gval (v := .bool _) (v_bne un4 (.inr ⟨_, rfl, fun h => h⟩) (.inr ⟨_, rfl, fun h => h⟩)) rfl rfl rfl (by decide) (.inl ⟨_, rfl, rfl⟩) rfl (by decide) ?_
      refine r_val (v := .bool _) (v_pick (.inl rfl) (.inl rfl) (.inr ⟨_, rfl, fun h h2 => by simp_all⟩)) rfl rfl (by decide) ?_
      refine r_nil ?_
      refine a_cond rfl (fun ht51 => ?_) (fun ht51 => ?_)
      ·
        skip
        refine a_seq ?_
        refine a_pre (ent_look (L := [(1, .sl _ _), (2, .op [.int _ _, .sl _ _]), (4, .bool _), (6, .op [.int _ _, .osl _ _ _ _]), (7, .bool _), (8, .op [.int _ _, .osl _ _ _ _]), (9, .osl _ _ _ _), (10, .op [.int _ _, .osl _ _ _ _]), (11, .bool _)]) ⟨Weak.rfl, Weak.rfl, Weak.rfl, Weak.rfl, Weak.rfl, Weak.rfl, Weak.rfl, Weak.rfl, Weak.rfl, trivial⟩) ?_
        refine a_region ?_
        refine r_val (v := .bool _) (v_assign (.inl rfl) (noOwn_flat rfl)) rfl rfl (by decide) ?_
        refine r_nil ?_
        refine a_ret ?_
        refine ret1 Try.results14 (by decide) (by decide) (Weak.of_eq (bool_eq ?_)) rfl Leaves.nil
        first | rfl | (exfalso; simp at ht51; done) | (exfalso; simp at ht51; omega)
      ·
        skip
        refine a_skip ?_
        refine a_seq ?_
        refine a_seq ?_
        refine a_pre (ent_look (L := [(1, .sl _ _), (2, .op [.int _ _, .sl _ _]), (4, .bool _), (6, .op [.int _ _, .osl _ _ _ _]), (7, .bool _), (8, .op [.int _ _, .osl _ _ _ _]), (9, .osl _ _ _ _), (10, .op [.int _ _, .osl _ _ _ _]), (11, .bool _)]) ⟨Weak.rfl, Weak.rfl, Weak.rfl, Weak.rfl, Weak.rfl, Weak.rfl, Weak.rfl, Weak.rfl, Weak.rfl, trivial⟩) ?_
        refine a_region_any mixed (by kernel_rfl) ?_
        refine y_val (v := .agg [.int _ _, .rsl _ _ _ _ _]) (v_load_rpa (xs := [.int _ _, .osl _ _ _ _]) ta24 (.inl rfl) rfl rfl (fun _ => take_get rfl)) rfl rfl (by decide) (by kernel_rfl) ?_
        refine y_val (v := .agg [.int _ _, .sl _ _]) (v_load_rpa1 ta38 (.inl rfl) rfl rfl (fun _ => rfl) rfl) rfl rfl (by decide) (by kernel_rfl) ?_
        refine y_new (v := .agg [.int _ _, .osl _ _ _ _]) (q_call (vs := [.agg [.int _ _, .sl _ _]]) (args := [.agg [.int .i64 _, .sl _ _]]) hb46 ⟨.inl rfl, trivial⟩ rfl (fun hA => toCnf_c _ _ (by omega) (by omega)) (by simp [noSh, noShL, osls_noSh]) (by simp [noRef, noRefL, osls_noRef])) rfl rfl (by decide) (by kernel_rfl) ?_
        refine y_new (v := .bool _) (q_call (vs := [.agg [.int _ _, .rsl _ _ _ _ _], .agg [.int _ _, .rsl _ _ _ _ _]]) (args := [.agg [.int .i64 _, .sl _ _], .agg [.int .i64 _, .sl _ _]]) hb17 ⟨.inl rfl, .inl rfl, trivial⟩ (l2_eq (agg_eq (l2_eq rfl sl_osls)) (agg_eq (l2_eq rfl sl_osls))) (fun hA => eqCnf_c _ _ _ _ (by omega) (by omega) (fun i => by first | (have := hrl i; omega) | (have := hll i; omega))) rfl rfl) rfl rfl (by decide) (by kernel_rfl) ?_
        refine y_val (v := .bool _) (v_not (.inl rfl)) rfl rfl (by decide) (by kernel_rfl) ?_
        refine y_nil ?_
        refine a_cond rfl (fun ht56 => ?_) (fun ht56 => ?_)
        ·
          skip
          refine a_seq ?_
          refine a_pre (ent_look (L := [(1, .sl _ _), (2, .op [.int _ _, .sl _ _]), (4, .bool _), (6, .op [.int _ _, .osl _ _ _ _]), (7, .bool _), (8, .op [.int _ _, .osl _ _ _ _]), (9, .osl _ _ _ _), (10, .op [.int _ _, .osl _ _ _ _]), (11, .bool _)]) ⟨Weak.rfl, Weak.rfl, Weak.rfl, Weak.rfl, Weak.rfl, Weak.rfl, Weak.rfl, Weak.rfl, Weak.rfl, trivial⟩) ?_
          refine a_region ?_
          refine r_val (v := .bool _) (v_assign (.inl rfl) (noOwn_flat rfl)) rfl rfl (by decide) ?_
          refine r_nil ?_
          refine a_ret ?_
          refine ret1 Try.results14 (by decide) (by decide) (Weak.of_eq (bool_eq ?_)) rfl Leaves.nil
          first | rfl | (exfalso; simp at ht56; done) | (exfalso; simp at ht56; omega)
        ·
          skip
          refine a_skip ?_
          refine a_seq ?_
          refine a_seq ?_
          refine a_pre (ent_look (L := [(1, .sl _ _), (2, .op [.int _ _, .sl _ _]), (4, .bool _), (6, .op [.int _ _, .osl _ _ _ _]), (7, .bool _), (8, .op [.int _ _, .osl _ _ _ _]), (9, .osl _ _ _ _), (10, .op [.int _ _, .osl _ _ _ _]), (11, .bool _)]) ⟨Weak.rfl, Weak.rfl, Weak.rfl, Weak.rfl, Weak.rfl, Weak.rfl, Weak.rfl, Weak.rfl, Weak.rfl, trivial⟩) ?_
          refine a_region ?_
          refine r_val (v := .rsl _ _ _ _ _) (v_move (.inl rfl) (noOwn_flat rfl)) rfl rfl (by decide) ?_
          refine r_val (v := .sl _ _) (v_move (.inl rfl) (noOwn_flat rfl)) rfl rfl (by decide) ?_
          refine r_new (v := .osl _ _ _ _) (q_call (vs := [.sl _ _]) (args := [.sl _ _]) hb47 ⟨.inl rfl, trivial⟩ rfl (fun hA => toIntS_c _ (by omega)) (ic_noSh _) (ic_noRef _)) rfl rfl (by decide) ?_
          refine r_new (v := .bool _) (q_call (vs := [.rsl _ _ _ _ _, .rsl _ _ _ _ _]) (args := [.sl _ _, .sl _ _]) hb49 ⟨.inl rfl, .inl rfl, trivial⟩ (l2_eq (sl_sh (ic_pure _)) (sl_sh (ic_pure _))) (fun hA => eqIntS_c _ _ (by omega)) rfl rfl) rfl rfl (by decide) ?_
          refine r_val (v := .bool _) (v_not (.inl rfl)) rfl rfl (by decide) ?_
          refine r_nil ?_
          refine a_cond rfl (fun ht61 => ?_) (fun ht61 => ?_)
          ·
            skip
            refine a_seq ?_
            refine a_pre (ent_look (L := [(1, .sl _ _), (2, .op [.int _ _, .sl _ _]), (4, .bool _), (6, .op [.int _ _, .osl _ _ _ _]), (7, .bool _), (8, .op [.int _ _, .osl _ _ _ _]), (9, .osl _ _ _ _), (10, .op [.int _ _, .osl _ _ _ _]), (11, .bool _)]) ⟨Weak.rfl, Weak.rfl, Weak.rfl, Weak.rfl, Weak.rfl, Weak.rfl, Weak.rfl, Weak.rfl, Weak.rfl, trivial⟩) ?_
            refine a_region ?_
            refine r_val (v := .bool _) (v_assign (.inl rfl) (noOwn_flat rfl)) rfl rfl (by decide) ?_
            refine r_nil ?_
            refine a_ret ?_
            refine ret1 Try.results14 (by decide) (by decide) (Weak.of_eq (bool_eq ?_)) rfl Leaves.nil
            first | rfl | (exfalso; simp at ht61; done) | (exfalso; simp at ht61; omega)
          ·
            skip
            refine a_skip ?_
            refine a_seq ?_
            refine a_pre (ent_look (L := [(1, .sl _ _), (2, .op [.int _ _, .sl _ _]), (4, .bool _), (6, .op [.int _ _, .osl _ _ _ _]), (7, .bool _), (8, .op [.int _ _, .osl _ _ _ _]), (9, .osl _ _ _ _), (10, .op [.int _ _, .osl _ _ _ _]), (11, .bool _)]) ⟨Weak.rfl, Weak.rfl, Weak.rfl, Weak.rfl, Weak.rfl, Weak.rfl, Weak.rfl, Weak.rfl, Weak.rfl, trivial⟩) ?_
            refine a_region ?_
            refine r_val (v := .int _ _) (v_assign (.inl rfl) (noOwn_flat rfl)) rfl rfl (by decide) ?_
            refine r_nil ?_
            refine a_seq ?_
            refine a_region ?_
            refine r_val (v := .agg [.int _ _, .rsl _ _ _ _ _]) (v_load_rpa (xs := [.int _ _, .osl _ _ _ _]) ta24 (.inl rfl) rfl rfl (fun _ => take_get rfl)) rfl rfl (by decide) ?_
            refine r_val (v := .int _ _) (v_move (.inl rfl) (noOwn_flat rfl)) rfl rfl (by decide) ?_
            refine r_step rfl (o_callIO (q := (8, [1])) (vs := [.agg [.int _ _, .rsl _ _ _ _ _], .int _ _]) (args := [.agg [.int .i64 _, .rsl (INH, []) _ _ _ _], .int .i64 _]) (x0 := .osl _ _ _ _) (x1 := .osl _ _ _ _) (res := .int _ _) rfl hb18 rfl (by decide) ⟨.inl rfl, .inl rfl, trivial⟩ rfl rfl (markCnf_c _ _ _ (by omega) (by omega) (by omega)) rfl rfl rfl (osls_noSh _) (osls_noRef _) (Nat.le_of_ble_eq_true rfl) (by decide) rfl) ?_
            refine r_val (v := .int _ _) (v_assign (.inl rfl) (noOwn_flat rfl)) rfl rfl (by decide) ?_
            refine r_nil ?_
            refine a_seq ?_
            refine a_pre (ent_look (L := [(1, .sl _ _), (2, .op [.int _ _, .sl _ _]), (4, .bool _), (6, .op [.int _ _, .osl _ _ _ _]), (7, .bool _), (9, .osl _ _ _ _), (10, .op [.int _ _, .osl _ _ _ _]), (11, .bool _), (12, .int _ _)]) ⟨Weak.rfl, Weak.rfl, Weak.rfl, Weak.rfl, Weak.rfl, Weak.rfl, Weak.rfl, Weak.rfl, Weak.rfl, trivial⟩) ?_
            refine a_region ?_
            refine r_val (v := .rsl _ _ _ _ _) (v_move (.inl rfl) (noOwn_flat rfl)) rfl rfl (by decide) ?_
            refine r_val (v := .int _ _) (v_move (.inl rfl) (noOwn_flat rfl)) rfl rfl (by decide) ?_
            refine r_step rfl (o_callIO (q := (9, [])) (vs := [.rsl _ _ _ _ _, .int _ _]) (args := [.rsl (INH, []) _ _ _ _, .int .i64 _]) (x0 := .osl _ _ _ _) (x1 := .osl _ _ _ _) (res := .int _ _) rfl hb50 rfl (by decide) ⟨.inl rfl, .inl rfl, trivial⟩ rfl rfl (markIntS_c _ _ (by omega)) rfl rfl rfl (ic_noSh _) (ic_noRef _) (Nat.le_of_ble_eq_true rfl) (by decide) rfl) ?_
            refine r_val (v := .int _ _) (v_assign (.inl rfl) (noOwn_flat rfl)) rfl rfl (by decide) ?_
            refine r_nil ?_
            refine a_seq ?_
            refine a_seq ?_
            refine a_region ?_
            refine r_val (v := .int _ _) (v_move (.inl rfl) (noOwn_flat rfl)) rfl rfl (by decide) ?_
            refine r_val (v := .bool _) (v_lss (.inl rfl) (.inl rfl)) rfl rfl (by decide) ?_
            refine r_val (v := .bool _) (v_move (.inl rfl) (noOwn_flat rfl)) rfl rfl (by decide) ?_
            refine r_act rfl rfl (by decide) (.inl ⟨_, rfl, (by simp; omega)⟩) (VSem.step (v := .agg [.int _ _, .rsl _ _ _ _ _]) (v_load_rpa (xs := [.int _ _, .osl _ _ _ _]) ta24 (.inl rfl) rfl rfl (fun _ => take_get rfl)) rfl (by decide)) ?_
            refine r_act rfl rfl (by decide) (.inl ⟨_, rfl, (by simp; omega)⟩) (VSem.step (v := .agg [.int _ _, .rsl _ _ _ _ _]) (v_load_rpa (xs := [.int _ _, .osl _ _ _ _]) ta24 (.inl rfl) rfl rfl (fun _ => take_get rfl)) rfl (by decide)) ?_
            refine r_act rfl rfl (by decide) (.inl ⟨_, rfl, (by simp; omega)⟩) (QSem.step (v := .bool _) (q_call (vs := [.agg [.int _ _, .rsl _ _ _ _ _], .agg [.int _ _, .rsl _ _ _ _ _]]) (args := [.agg [.int .i64 _, .sl _ _], .agg [.int .i64 _, .sl _ _]]) hb17 ⟨.inl rfl, .inl rfl, trivial⟩ (l2_eq (agg_eq (l2_eq rfl sl_osls)) (agg_eq (l2_eq rfl sl_osls))) (fun hA => eqCnf_c _ _ _ _ (by omega) (by omega) (fun i => by first | (have := hrl i; omega) | (have := hll i; omega))) rfl rfl) rfl (by decide)) ?_
            refine r_act rfl rfl (by decide) (.inl ⟨_, rfl, (by simp; omega)⟩) (VSem.step (v := .bool _) (v_not (.inl rfl)) rfl (by decide)) ?_
            refine r_val (v := .bool _) (v_pick (.inl rfl) (.inl rfl) (.inl rfl)) rfl rfl (by decide) ?_
            refine r_val (v := .bool _) (v_move (.inl rfl) (noOwn_flat rfl)) rfl rfl (by decide) ?_
            refine r_gval (v := .bool _) (v_move (.inl rfl) (noOwn_flat rfl)) rfl rfl rfl (by decide) (.inl ⟨_, rfl, rfl⟩) rfl (by decide) ?_
            refine r_gval (v := .bool _) (v_move (.inl rfl) (noOwn_flat rfl)) rfl rfl rfl (by decide) (.inl ⟨_, rfl, rfl⟩) rfl (by decide) ?_
            refine r_gval (v := .bool _) (v_bne un4 (.inr ⟨_, rfl, fun h => h⟩) (.inr ⟨_, rfl, fun h => h⟩)) rfl rfl rfl (by decide) (.inl ⟨_, rfl, rfl⟩) rfl (by decide) ?_
            refine r_val (v := .bool _) (v_pick (.inl rfl) (.inl rfl) (.inr ⟨_, rfl, fun h h2 => by simp_all⟩)) rfl rfl (by decide) ?_
            refine r_nil ?_
            refine a_cond rfl (fun ht80 => ?_) (fun ht80 => ?_)
            ·
              skip
              refine a_seq ?_
              refine a_pre (ent_look (L := [(1, .sl _ _), (2, .op [.int _ _, .sl _ _]), (4, .bool _), (6, .op [.int _ _, .osl _ _ _ _]), (7, .bool _), (10, .op [.int _ _, .osl _ _ _ _])]) ⟨Weak.rfl, Weak.rfl, Weak.rfl, Weak.rfl, Weak.rfl, Weak.rfl, trivial⟩) ?_
              refine a_region ?_
              refine r_val (v := .bool _) (v_assign (.inl rfl) (noOwn_flat rfl)) rfl rfl (by decide) ?_
              refine r_nil ?_
              refine a_ret ?_
              refine ret1 Try.results14 (by decide) (by decide) (Weak.of_eq (bool_eq ?_)) rfl Leaves.nil
              first | rfl | (exfalso; simp at ht80; done) | (exfalso; simp at ht80; omega)
            ·
              skip
              refine a_skip ?_
              refine a_seq ?_
              refine a_pre (ent_look (L := [(1, .sl _ _), (2, .op [.int _ _, .sl _ _]), (4, .bool _), (6, .op [.int _ _, .osl _ _ _ _]), (7, .bool _), (10, .op [.int _ _, .osl _ _ _ _])]) ⟨Weak.rfl, Weak.rfl, Weak.rfl, Weak.rfl, Weak.rfl, Weak.rfl, trivial⟩) ?_
              refine a_region ?_
              refine r_val (v := .int _ _) (v_assign (.inl rfl) (noOwn_flat rfl)) rfl rfl (by decide) ?_
              refine r_nil ?_
              refine a_seq ?_
              refine a_region ?_
              refine r_val (v := .agg [.int _ _, .rsl _ _ _ _ _]) (v_load_rpa (xs := [.int _ _, .osl _ _ _ _]) ta24 (.inl rfl) rfl rfl (fun _ => take_get rfl)) rfl rfl (by decide) ?_
              refine r_val (v := .int _ _) (v_move (.inl rfl) (noOwn_flat rfl)) rfl rfl (by decide) ?_
              refine r_step rfl (o_callIO (q := (10, [1])) (vs := [.agg [.int _ _, .rsl _ _ _ _ _], .int _ _]) (args := [.agg [.int .i64 _, .rsl (INH, []) _ _ _ _], .int .i64 _]) (x0 := .osl _ _ _ _) (x1 := .osl _ _ _ _) (res := .int _ _) rfl hb18 rfl (by decide) ⟨.inl rfl, .inl rfl, trivial⟩ rfl rfl (markCnf_c _ _ _ (by omega) (by omega) (by omega)) rfl rfl rfl (osls_noSh _) (osls_noRef _) (Nat.le_of_ble_eq_true rfl) (by decide) rfl) ?_
              refine r_val (v := .int _ _) (v_assign (.inl rfl) (noOwn_flat rfl)) rfl rfl (by decide) ?_
              refine r_nil ?_
              refine a_seq ?_
              refine a_region ?_
              refine r_val (v := .int _ _) (v_assign (.inl rfl) (noOwn_flat rfl)) rfl rfl (by decide) ?_
              refine r_nil ?_
              refine a_seq ?_
              refine a_region ?_
              refine r_val (v := .agg [.int _ _, .rsl _ _ _ _ _]) (v_load_rpa (xs := [.int _ _, .osl _ _ _ _]) ta24 (.inl rfl) rfl rfl (fun _ => take_get rfl)) rfl rfl (by decide) ?_
              refine r_val (v := .int _ _) (v_move (.inl rfl) (noOwn_flat rfl)) rfl rfl (by decide) ?_
              refine r_new (v := .int _ _) (q_call (vs := [.agg [.int _ _, .rsl _ _ _ _ _], .int _ _]) (args := [.agg [.int .i64 _, .sl _ _], .int .i64 _]) hb19 ⟨.inl rfl, .inl rfl, trivial⟩ (l2_eq (agg_eq (l2_eq rfl sl_osls)) rfl) (fun hA => heldCnf_c _ _ _ (by omega) (by omega) (by omega)) rfl rfl) rfl rfl (by decide) ?_
              refine r_val (v := .int _ _) (v_assign (.inl rfl) (noOwn_flat rfl)) rfl rfl (by decide) ?_
              refine r_nil ?_
              refine a_seq ?_
              refine a_seq ?_
              refine a_pre (ent_look (L := [(1, .sl _ _), (2, .op [.int _ _, .sl _ _]), (4, .bool _), (6, .op [.int _ _, .osl _ _ _ _]), (7, .bool _), (10, .op [.int _ _, .osl _ _ _ _]), (13, .int _ _), (14, .int _ _)]) ⟨Weak.rfl, Weak.rfl, Weak.rfl, Weak.rfl, Weak.rfl, Weak.rfl, Weak.rfl, Weak.rfl, trivial⟩) ?_
              refine a_region ?_
              refine r_val (v := .int _ _) (v_move (.inl rfl) (noOwn_flat rfl)) rfl rfl (by decide) ?_
              refine r_val (v := .bool _) (v_lss (.inl rfl) (.inl rfl)) rfl rfl (by decide) ?_
              refine r_nil ?_
              refine a_cond rfl (fun ht88 => ?_) (fun ht88 => ?_)
              ·
                skip
                refine a_seq ?_
                refine a_region ?_
                refine r_val (v := .bool _) (v_assign (.inl rfl) (noOwn_flat rfl)) rfl rfl (by decide) ?_
                refine r_nil ?_
                refine a_ret ?_
                refine ret1 Try.results14 (by decide) (by decide) (Weak.of_eq (bool_eq ?_)) rfl Leaves.nil
                first | rfl | (exfalso; simp at ht88; done) | (exfalso; simp at ht88; omega)
              ·
                skip
                refine a_skip ?_
                refine a_seq ?_
                refine a_seq ?_
                refine a_region ?_
                refine r_val (v := .int _ _) (v_move (.inl rfl) (noOwn_flat rfl)) rfl rfl (by decide) ?_
                refine r_val (v := .int _ _) (v_move (.inl rfl) (noOwn_flat rfl)) rfl rfl (by decide) ?_
                refine r_val (v := .bool _) (v_neq (.inl rfl) (.inl rfl)) rfl rfl (by decide) ?_
                refine r_nil ?_
                refine a_cond rfl (fun ht91 => ?_) (fun ht91 => ?_)
                ·
                  skip
                  refine a_seq ?_
                  refine a_region ?_
                  refine r_val (v := .bool _) (v_assign (.inl rfl) (noOwn_flat rfl)) rfl rfl (by decide) ?_
                  refine r_nil ?_
                  refine a_ret ?_
                  refine ret1 Try.results14 (by decide) (by decide) (Weak.of_eq (bool_eq ?_)) rfl Leaves.nil
                  first | rfl | (exfalso; simp at ht91; done) | (exfalso; simp at ht91; omega)
                ·
                  skip
                  refine a_skip ?_
                  refine a_seq ?_
                  refine a_region ?_
                  refine r_val (v := .agg [.int _ _, .sl _ _]) (v_load_rpa1 ta38 (.inl rfl) rfl rfl (fun _ => rfl) rfl) rfl rfl (by decide) ?_
                  refine r_new (v := .agg [.int _ _, .osl _ _ _ _]) (q_call (vs := [.agg [.int _ _, .sl _ _]]) (args := [.agg [.int .i64 _, .sl _ _]]) hb46 ⟨.inl rfl, trivial⟩ rfl (fun hA => toCnf_c _ _ (by omega) (by omega)) (by simp [noSh, noShL, osls_noSh]) (by simp [noRef, noRefL, osls_noRef])) rfl rfl (by decide) ?_
                  refine r_val (v := .sl _ _) (v_move (.inl rfl) (noOwn_flat rfl)) rfl rfl (by decide) ?_
                  refine r_new (v := .osl _ _ _ _) (q_call (vs := [.sl _ _]) (args := [.sl _ _]) hb47 ⟨.inl rfl, trivial⟩ rfl (fun hA => toIntS_c _ (by omega)) (ic_noSh _) (ic_noRef _)) rfl rfl (by decide) ?_
                  refine r_new (v := .tup [.agg [.int _ _, .osl _ _ _ _], .bool _]) (q_call (vs := [.agg [.int _ _, .rsl _ _ _ _ _], .rsl _ _ _ _ _]) (args := [.agg [.int .i64 _, .sl _ _], .sl _ _]) hb48 ⟨.inl rfl, .inl rfl, trivial⟩ (l2_eq (agg_eq (l2_eq rfl sl_osls)) (sl_sh (ic_pure _))) (fun hA => iRen_c _ _ _ hk (by omega)) (by simp [noSh, noShL, osls_noSh]) (by simp [noRef, noRefL, osls_noRef])) rfl rfl (by decide) ?_
                  refine r_val (v := .tup [.agg [.int _ _, .rsl _ _ _ _ _], .bool _]) (v_mv rfl) rfl rfl (by decide) ?_
                  refine r_val (v := .agg [.int _ _, .rsl _ _ _ _ _]) (v_extract rfl rfl) rfl rfl (by decide) ?_
                  refine r_val (v := .bool _) (v_extract rfl rfl) rfl rfl (by decide) ?_
                  refine r_new (v := .op [.int _ _, .nils]) (q_alloc zc24) rfl rfl (by decide) ?_
                  refine r_pre (ent_reloc_at_sl (t := 98) (r := [1]) rfl (by decide) rfl rfl) ?_
                  refine r_step rfl (o_store_own (v := .agg [.int _ _, .osl _ _ _ _]) (y' := .op [.int _ _, .osl _ _ _ _]) rfl rfl ta24 (.inl rfl) (by decide) rfl (by decide) rfl (by simp [cellsOf, noRefL, noRef, osls_noRef]) rfl rfl rfl rfl rfl (Nat.le_of_ble_eq_true rfl) rfl rfl) ?_
                  refine r_val (v := .bool _) (v_assign (.inl rfl) (noOwn_flat rfl)) rfl rfl (by decide) ?_
                  refine r_nil ?_
                  refine a_seq ?_
                  refine a_seq ?_
                  refine a_pre (ent_look (L := [(4, .bool _), (6, .op [.int _ _, .osl _ _ _ _]), (7, .bool _), (10, .op [.int _ _, .osl _ _ _ _]), (13, .int _ _), (14, .int _ _), (15, .op [.int _ _, .osl _ _ _ _]), (16, .bool _)]) ⟨Weak.rfl, Weak.rfl, Weak.rfl, Weak.rfl, Weak.rfl, Weak.rfl, Weak.rfl, Weak.rfl, trivial⟩) ?_
                  refine a_region ?_
                  refine r_val (v := .agg [.int _ _, .rsl _ _ _ _ _]) (v_load_rpa (xs := [.int _ _, .osl _ _ _ _]) ta24 (.inl rfl) rfl rfl (fun _ => take_get rfl)) rfl rfl (by decide) ?_
                  refine r_val (v := .agg [.int _ _, .rsl _ _ _ _ _]) (v_load_rpa (xs := [.int _ _, .osl _ _ _ _]) ta24 (.inl rfl) rfl rfl (fun _ => take_get rfl)) rfl rfl (by decide) ?_
                  refine r_new (v := .bool _) (q_call (vs := [.agg [.int _ _, .rsl _ _ _ _ _], .agg [.int _ _, .rsl _ _ _ _ _]]) (args := [.agg [.int .i64 _, .sl _ _], .agg [.int .i64 _, .sl _ _]]) hb17 ⟨.inl rfl, .inl rfl, trivial⟩ (l2_eq (agg_eq (l2_eq rfl sl_osls)) (agg_eq (l2_eq rfl sl_osls))) (fun hA => eqCnf_c _ _ _ _ (by omega) (by omega) (fun i => by first | (have := hrl i; omega) | (have := hll i; omega))) rfl rfl) rfl rfl (by decide) ?_
                  refine r_val (v := .bool _) (v_not (.inl rfl)) rfl rfl (by decide) ?_
                  refine r_val (v := .bool _) (v_move (.inl rfl) (noOwn_flat rfl)) rfl rfl (by decide) ?_
                  refine r_gval (v := .bool _) (v_move (.inl rfl) (noOwn_flat rfl)) rfl rfl rfl (by decide) (.inl ⟨_, rfl, rfl⟩) rfl (by decide) ?_
                  refine r_gval (v := .bool _) (v_move (.inl rfl) (noOwn_flat rfl)) rfl rfl rfl (by decide) (.inl ⟨_, rfl, rfl⟩) rfl (by decide) ?_
                  refine r_gval (v := .bool _) (v_bne un4 (.inr ⟨_, rfl, fun h => h⟩) (.inr ⟨_, rfl, fun h => h⟩)) rfl rfl rfl (by decide) (.inl ⟨_, rfl, rfl⟩) rfl (by decide) ?_
                  refine r_val (v := .bool _) (v_pick (.inl rfl) (.inl rfl) (.inr ⟨_, rfl, fun h h2 => by simp_all⟩)) rfl rfl (by decide) ?_
                  refine r_nil ?_
                  refine a_cond rfl (fun ht108 => ?_) (fun ht108 => ?_)
                  ·
                    skip
                    refine a_seq ?_
                    refine a_pre (ent_look (L := [(4, .bool _), (10, .op [.int _ _, .osl _ _ _ _]), (13, .int _ _), (14, .int _ _)]) ⟨Weak.rfl, Weak.rfl, Weak.rfl, Weak.rfl, trivial⟩) ?_
                    refine a_region ?_
                    refine r_val (v := .bool _) (v_assign (.inl rfl) (noOwn_flat rfl)) rfl rfl (by decide) ?_
                    refine r_nil ?_
                    refine a_ret ?_
                    refine ret1 Try.results14 (by decide) (by decide) (Weak.of_eq (bool_eq ?_)) rfl Leaves.nil
                    first | rfl | (exfalso; simp at ht108; done) | (exfalso; simp at ht108; omega)
                  ·
                    skip
                    refine a_skip ?_
                    refine a_seq ?_
                    refine a_pre (ent_look (L := [(4, .bool _), (10, .op [.int _ _, .osl _ _ _ _]), (13, .int _ _), (14, .int _ _)]) ⟨Weak.rfl, Weak.rfl, Weak.rfl, Weak.rfl, trivial⟩) ?_
                    refine a_region ?_
                    refine r_val (v := .int _ _) (v_assign (.inl rfl) (noOwn_flat rfl)) rfl rfl (by decide) ?_
                    refine r_nil ?_
                    refine a_seq ?_
                    refine a_region ?_
                    refine r_val (v := .agg [.int _ _, .rsl _ _ _ _ _]) (v_load_rpa (xs := [.int _ _, .osl _ _ _ _]) ta24 (.inl rfl) rfl rfl (fun _ => take_get rfl)) rfl rfl (by decide) ?_
                    refine r_val (v := .int _ _) (v_move (.inl rfl) (noOwn_flat rfl)) rfl rfl (by decide) ?_
                    refine r_new (v := .int _ _) (q_call (vs := [.agg [.int _ _, .rsl _ _ _ _ _], .int _ _]) (args := [.agg [.int .i64 _, .sl _ _], .int .i64 _]) hb19 ⟨.inl rfl, .inl rfl, trivial⟩ (l2_eq (agg_eq (l2_eq rfl sl_osls)) rfl) (fun hA => heldCnf_c _ _ _ (by omega) (by omega) (by omega)) rfl rfl) rfl rfl (by decide) ?_
                    refine r_val (v := .int _ _) (v_assign (.inl rfl) (noOwn_flat rfl)) rfl rfl (by decide) ?_
                    refine r_nil ?_
                    refine a_seq ?_
                    refine a_seq ?_
                    refine a_region ?_
                    refine r_val (v := .int _ _) (v_move (.inl rfl) (noOwn_flat rfl)) rfl rfl (by decide) ?_
                    refine r_val (v := .bool _) (v_lss (.inl rfl) (.inl rfl)) rfl rfl (by decide) ?_
                    refine r_nil ?_
                    refine a_cond rfl (fun ht113 => ?_) (fun ht113 => ?_)
                    ·
                      skip
                      refine a_seq ?_
                      refine a_region ?_
                      refine r_val (v := .bool _) (v_assign (.inl rfl) (noOwn_flat rfl)) rfl rfl (by decide) ?_
                      refine r_nil ?_
                      refine a_ret ?_
                      refine ret1 Try.results14 (by decide) (by decide) (Weak.of_eq (bool_eq ?_)) rfl Leaves.nil
                      first | rfl | (exfalso; simp at ht113; done) | (exfalso; simp at ht113; omega)
                    ·
                      skip
                      refine a_skip ?_
                      refine a_seq ?_
                      refine a_seq ?_
                      refine a_region ?_
                      refine r_val (v := .int _ _) (v_move (.inl rfl) (noOwn_flat rfl)) rfl rfl (by decide) ?_
                      refine r_val (v := .int _ _) (v_move (.inl rfl) (noOwn_flat rfl)) rfl rfl (by decide) ?_
                      refine r_val (v := .bool _) (v_neq (.inl rfl) (.inl rfl)) rfl rfl (by decide) ?_
                      refine r_nil ?_
                      refine a_cond rfl (fun ht116 => ?_) (fun ht116 => ?_)
                      ·
                        skip
                        refine a_seq ?_
                        refine a_pre (ent_look (L := [(4, .bool _)]) ⟨Weak.rfl, trivial⟩) ?_
                        refine a_region ?_
                        refine r_val (v := .bool _) (v_assign (.inl rfl) (noOwn_flat rfl)) rfl rfl (by decide) ?_
                        refine r_nil ?_
                        refine a_ret ?_
                        refine ret1 Try.results14 (by decide) (by decide) (Weak.of_eq (bool_eq ?_)) rfl Leaves.nil
                        first | rfl | (exfalso; simp at ht116; done) | (exfalso; simp at ht116; omega)
                      ·
                        skip
                        refine a_skip ?_
                        refine a_seq ?_
                        refine a_pre (ent_look (L := [(4, .bool _)]) ⟨Weak.rfl, trivial⟩) ?_
                        refine a_region ?_
                        refine r_val (v := .bool _) (v_assign (.inl rfl) (noOwn_flat rfl)) rfl rfl (by decide) ?_
                        refine r_nil ?_
                        refine a_ret ?_
                        refine ret1 Try.results14 (by decide) (by decide) (Weak.of_eq (bool_eq ?_)) rfl Leaves.nil
                        first | rfl | (exfalso; simp at ht116; done) | (exfalso; simp at ht116; omega)
end Go.Av
namespace Go.Av
open Go
theorem bd64 {n : Int} (h : (Lit.int .i64 n).wf = true) : -9223372036854775808 ≤ n ∧ n ≤ 9223372036854775807 := bounds_i64 h
theorem len64 {n : Nat} (h : n ≤ maxLen) : (n : Int) ≤ 9223372036854775807 := by unfold maxLen at h; omega
theorem icells_flat (xs : List Int) : xs.flatMap (fun n => [AV.int .i64 n]) = icells xs := by
  induction xs with
  | nil => rfl
  | cons x xs ih => rw [List.flatMap_cons, ih]; rfl
end Go.Av
namespace Go.Av
open Go
theorem sls_flat (L : List (List Int)) : L.flatMap (fun c => [AV.sl (icells c) c.length]) = sls L := by
  induction L with
  | nil => rfl
  | cons c L ih => rw [List.flatMap_cons, ih]; rfl
theorem cnf_hyp {L : List (List Int)} (h : L.length ≤ maxLen ∧ ∀ y ∈ L, (y.length ≤ maxLen ∧ ∀ z ∈ y, (Lit.int .i64 z).wf = true ∧ ([AV.int .i64 z]).length = 1) ∧ ([AV.sl (y.flatMap fun z => [AV.int .i64 z]) y.length]).length = 1) :
    (∀ i, ((gl L i).length : Int) ≤ 9223372036854775807) ∧ (L.length : Int) ≤ 9223372036854775807 ∧ ∀ i j, -9223372036854775808 ≤ gd (gl L i) j ∧ gd (gl L i) j ≤ 9223372036854775807 := by
  refine ⟨fun i => ?_, len64 h.1, fun i => ?_⟩
  · rcases Nat.lt_or_ge i L.length with hi | hi
    · exact len64 (h.2 _ (gl_mem hi)).1.1
    · rw [gl_out hi]; simp
  · rcases Nat.lt_or_ge i L.length with hi | hi
    · exact gd_bd fun x hx => bd64 ((h.2 _ (gl_mem hi)).1.2 x hx).1
    · intro j; rw [gl_out hi]; simp [gd]
end Go.Av
namespace Go.Av
open Go Go.Proofs Go.Proofs.Ytikaemjgmahnbaa
set_option maxRecDepth 100000
theorem arg38 : OpensV Try.prog 38 (fun x : (Int) × (List (List (Int))) => .agg (([AV.int .i64 x.1] ++ [AV.sl (x.2.flatMap fun y2 => [AV.sl (y2.flatMap fun y1 => [AV.int .i64 y1]) y2.length]) x.2.length]))) (fun x => (((Lit.int .i64 x.1).wf = true) ∧ ((x.2.length ≤ maxLen ∧ ∀ y2 ∈ x.2, (y2.length ≤ maxLen ∧ ∀ y1 ∈ y2, (Lit.int .i64 y1).wf = true ∧ ([AV.int .i64 y1]).length = 1) ∧ ([AV.sl (y2.flatMap fun y1 => [AV.int .i64 y1]) y2.length]).length = 1)))) :=
  opensV_agg (ok_agg (by rw [Try.underlying38])) (opens_struct Try.underlying38 (tot := (1 + 1)) (by kernel_rfl) (opensFs_cons rfl (by kernel_rfl) (opens_int Try.underlying3) (opensFs_one rfl (by kernel_rfl) (opens_slice (k := 1) Try.underlying22 (by kernel_rfl) (by decide) (opens_slice (k := 1) Try.underlying39 (by kernel_rfl) (by decide) (opens_int Try.underlying3) (fun _ => rfl)) (fun _ => rfl)))))
theorem arg39 : OpensV Try.prog 39 (fun x : List (Int) => AV.sl (x.flatMap fun y3 => [AV.int .i64 y3]) x.length) (fun x => (x.length ≤ maxLen ∧ ∀ y3 ∈ x, (Lit.int .i64 y3).wf = true ∧ ([AV.int .i64 y3]).length = 1)) :=
  opensV_one (ok_scalar (by rw [Try.underlying39])) (opens_slice (k := 1) Try.underlying39 (by kernel_rfl) (by decide) (opens_int Try.underlying3) (fun _ => rfl)) (fun _ => rfl)
theorem rowOwn : ownKnob Try.prog.godebug = none := by kernel_rfl
theorem rowLaid : laidOutB Try.prog = true := by kernel_rfl
end Go.Av
