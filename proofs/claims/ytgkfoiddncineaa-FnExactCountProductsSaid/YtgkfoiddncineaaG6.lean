/- Lemmas, part 6. -/
import Derived.Test.YtgkfoiddncineaaG5
import Derived.Test.YtgkfoiddncineaaRows
set_option linter.unusedVariables false
set_option linter.unusedSimpArgs false
namespace Go.Av
open Go Go.Proofs Go.Sort
set_option maxRecDepth 10000
theorem ap107 : appTy Try.prog 107 = some (3, 40) := by kernel_rfl
theorem fo88_1 : fieldOff Try.prog 88 1 = some 2 := by kernel_rfl
theorem hb120 : hasBody Try.prog 120 = true := by kernel_rfl
theorem lt107 : litTy Try.prog 107 = some (3, [.int .i64 0, .int .i64 0, .nils]) := by kernel_rfl
theorem sp109 : structPl Try.prog 109 = some ([.int .i64 0, .int .i64 0, .nils], [(0, 1), (1, 1), (2, 1)]) := by kernel_rfl

theorem iprods_c (p vars : Int) (L : List (List Int)) (d : Nat) (ha : aOk p vars L = true) (hd6 : d ≤ 6) : ACall Try.prog 72 [.pp [.int .i64 p, .int .i64 vars, .int .i64 vars, .sl (sls L) L.length, .sl (sls (qL p vars L)) L.length] 0, .int .i64 ((d : Nat) : Int)] [] (.osl 3 (prC (prL p vars L d L.length)) (prL p vars L d L.length).length none) [] := by
  obtain ⟨hp, hc⟩ := aOk_spec ha
  have hpp := prime_spec hp
  have hcs := cnfB_spec hc
  have hd := dn_le hpp.2
  have hw := pow6 hpp.2
  have hdn := dn_cast vars
  have hql := qL_len p vars L
  refine ACall.intro Try.func72 rfl (N := 67) rfl (by decide) (by simp) ?_
  refine a_seq ?_
  refine a_region ?_
  refine r_val (v := .nils) (v_assign (.inl rfl) (noOwn_flat rfl)) rfl rfl (by decide) ?_
  refine r_nil ?_
  refine a_seq ?_
  refine a_region ?_
  refine r_val (v := .nils) (v_assign (.inl rfl) (noOwn_flat rfl)) rfl rfl (by decide) ?_
  refine r_nil ?_
  refine a_seq ?_
  refine a_seq ?_
  refine a_region ?_
  refine r_val (v := .pp _ _) (v_move (.inl rfl) (noOwn_flat rfl)) rfl rfl (by decide) ?_
  refine r_val (v := .pp _ _) (v_nilCheck (.inl rfl) rfl) rfl rfl (by decide) ?_
  refine r_val (v := .pp _ _) (v_fieldAddr_pp fo88_1 (.inl rfl)) rfl rfl (by decide) ?_
  refine r_val (v := .pp _ _) (v_fieldAddr_pp fo31_1 (.inl rfl)) rfl rfl (by decide) ?_
  refine r_val (v := .sl _ _) (v_load_pp ta22 (.inl rfl) (fun _ => rfl) rfl) rfl rfl (by decide) ?_
  refine r_val (v := .int _ _) (v_len_sl sl22 (.inl rfl)) rfl rfl (by decide) ?_
  refine r_val (v := .int _ _) (v_move (.inl rfl) (noOwn_flat rfl)) rfl rfl (by decide) ?_
  refine r_nil ?_
  refine a_block ?_
  refine a_pre (ent_nil (t := 5) (sz := 3) (cap := none) (.inl rfl) (fun _ h => by cases h)) ?_
  refine a_loop (X := Nat) (fun i => look [(0, .pp [.int .i64 p, .int .i64 vars, .int .i64 vars, .sl (sls L) L.length, .sl (sls (qL p vars L)) L.length] 0), (1, .int .i64 ((d : Nat) : Int)), (5, .osl 3 (prC (prL p vars L d i)) (prL p vars L d i).length none), (14, .sl (sls L) L.length), (15, .int .i64 (L.length : Int)), (16, .int .i64 ((i : Nat) : Int))]) (fun i => i ≤ L.length) (fun i => L.length - i) 0 (ent_look ⟨Weak.of_eq rfl, Weak.of_eq rfl, Weak.osl rfl rfl, Weak.of_eq rfl, Weak.of_eq rfl, Weak.of_eq rfl, trivial⟩) (Nat.zero_le _) (fun i hG => ?_)
  have hpl := prL_len (p := p) (L := L) hpp.2 hd6 i
  refine a_seq ?_
  refine a_region ?_
  refine r_val (v := .bool _) (v_lss (.inl rfl) (.inl rfl)) rfl rfl (by decide) ?_
  refine r_nil ?_
  refine a_seq ?_
  refine a_cond rfl (fun ht17 => ?_) (fun ht17 => ?_)
  ·
    skip
    refine a_skip ?_
    refine a_seq ?_
    refine a_block ?_
    refine a_seq ?_
    have hi : i < L.length := (by simp at ht17; omega)
    have hcl := hcs.2.2 i hi
    refine a_region ?_
    refine r_val (v := .int _ _) (v_move (.inl rfl) (noOwn_flat rfl)) rfl rfl (by decide) ?_
    refine r_val (v := .pp _ _) (v_indexAddr_sl es22 (.inl rfl) (.inl rfl) (fun _ => ⟨by omega, by omega, sls_ne hi⟩)) rfl rfl (by decide) ?_
    refine r_val (v := .sl (icells (gl L i)) (gl L i).length) (v_load_pp ta25 (.inl rfl) (fun _ => by rw [Nat.mul_one]; exact sls_get hi) rfl) rfl rfl (by decide) ?_
    refine r_val (v := .int _ _) (v_assign (.inl rfl) (noOwn_flat rfl)) rfl rfl (by decide) ?_
    refine r_val (v := .sl _ _) (v_assign (.inl rfl) (noOwn_flat rfl)) rfl rfl (by decide) ?_
    refine r_nil ?_
    refine a_seq ?_
    refine a_seq ?_
    refine a_region ?_
    refine r_val (v := .sl _ _) (v_move (.inl rfl) (noOwn_flat rfl)) rfl rfl (by decide) ?_
    refine r_val (v := .int _ _) (v_len_sl sl25 (.inl rfl)) rfl rfl (by decide) ?_
    refine r_val (v := .int _ _) (v_move (.inl rfl) (noOwn_flat rfl)) rfl rfl (by decide) ?_
    refine r_val (v := .bool _) (v_gtr (.inl rfl) (.inl rfl)) rfl rfl (by decide) ?_
    refine r_nil ?_
    refine a_cond rfl (fun ht24 => ?_) (fun ht24 => ?_)
    ·
      skip
      refine a_exit ?_
      refine a_region ?_
      refine r_val (v := .int _ _) (v_add (.inl rfl) (.inl rfl) (fun _ => by omega)) rfl rfl (by decide) ?_
      refine r_val (v := .int _ _) (v_move (.inl rfl) (noOwn_flat rfl)) rfl rfl (by decide) ?_
      refine r_nil ?_
      refine ⟨i + 1, ent_look ⟨Weak.of_eq rfl, Weak.of_eq rfl, Weak.osl (by rw [prL_skip (by simp at ht24; omega)]) (by rw [prL_skip (by simp at ht24; omega)]), Weak.of_eq rfl, Weak.of_eq rfl, Weak.of_eq (int_eq (by omega)), trivial⟩, by omega, by omega⟩
    ·
      skip
      refine a_skip ?_
      refine a_seq ?_
      have hle : (gl L i).length ≤ d := (by simp at ht24; omega)
      refine a_region ?_
      refine r_val (v := .pp _ _) (v_move (.inl rfl) (noOwn_flat rfl)) rfl rfl (by decide) ?_
      refine r_val (v := .pp _ _) (v_nilCheck (.inl rfl) rfl) rfl rfl (by decide) ?_
      refine r_val (v := .pp _ _) (v_fieldAddr_pp fo88_0 (.inl rfl)) rfl rfl (by decide) ?_
      refine r_val (v := .pp _ _) (v_fieldAddr_pp fo85_1 (.inl rfl)) rfl rfl (by decide) ?_
      refine r_val (v := .int .i64 ((vars.toNat : Nat) : Int)) ((v_load_pp ta3 (.inl rfl) (fun _ => rfl) rfl).cast (int_eq (by omega))) rfl rfl (by decide) ?_
      refine r_val (v := .int _ _) (v_move (.inl rfl) (noOwn_flat rfl)) rfl rfl (by decide) ?_
      refine r_val (v := .sl _ _) (v_move (.inl rfl) (noOwn_flat rfl)) rfl rfl (by decide) ?_
      refine r_val (v := .int _ _) (v_len_sl sl25 (.inl rfl)) rfl rfl (by decide) ?_
      refine r_val (v := .int .i64 (((d - (gl L i).length) : Nat) : Int)) ((v_sub (.inl rfl) (.inl rfl) (fun _ => by omega)).cast (int_eq (by omega))) rfl rfl (by decide) ?_
      refine r_new (v := .osl _ _ _ _) (q_call (vs := [.int _ _, .int _ _]) (args := [.int .i64 _, .int .i64 _]) hb120 ⟨.inl rfl, .inl rfl, trivial⟩ rfl (fun hA => graded_c vars.toNat (d - (gl L i).length) (by omega) (by omega)) (ic_noSh _) (ic_noRef _)) rfl rfl (by decide) ?_
      refine r_val (v := .int _ _) (v_len_rsl sl25 (.inl rfl)) rfl rfl (by decide) ?_
      refine r_val (v := .int _ _) (v_move (.inl rfl) (noOwn_flat rfl)) rfl rfl (by decide) ?_
      refine r_nil ?_
      refine a_block ?_
      refine a_loop (X := Nat) (fun j => look [(0, .pp [.int .i64 p, .int .i64 vars, .int .i64 vars, .sl (sls L) L.length, .sl (sls (qL p vars L)) L.length] 0), (1, .int .i64 ((d : Nat) : Int)), (5, .osl 3 (prC (prP p vars L d i j)) (prP p vars L d i j).length none), (6, .int .i64 ((i : Nat) : Int)), (14, .sl (sls L) L.length), (15, .int .i64 (L.length : Int)), (16, .int .i64 ((i : Nat) : Int)), (34, .osl 1 (icells (prG vars L d i)) (prG vars L d i).length none), (35, .int .i64 ((prG vars L d i).length : Int)), (36, .int .i64 ((j : Nat) : Int))]) (fun j => j ≤ (prG vars L d i).length) (fun j => (prG vars L d i).length - j) 0 (ent_look ⟨Weak.of_eq rfl, Weak.of_eq rfl, Weak.osl (by rw [prP_zero]) (by rw [prP_zero]), Weak.of_eq rfl, Weak.of_eq rfl, Weak.of_eq rfl, Weak.of_eq rfl, Weak.of_eq rfl, Weak.of_eq rfl, Weak.of_eq rfl, trivial⟩) (Nat.zero_le _) (fun j hG => ?_)
      have hpj := prP_len (p := p) (L := L) hpp.2 hd6 i j
      have hgl := prG_len (L := L) (i := i) hpp.2 hd6
      refine a_seq ?_
      refine a_region ?_
      refine r_val (v := .bool _) (v_lss (.inl rfl) (.inl rfl)) rfl rfl (by decide) ?_
      refine r_nil ?_
      refine a_seq ?_
      refine a_cond rfl (fun ht37 => ?_) (fun ht37 => ?_)
      ·
        skip
        refine a_skip ?_
        refine a_seq ?_
        refine a_block ?_
        refine a_seq ?_
        have hj : j < (prG vars L d i).length := (by simp at ht37; omega)
        obtain ⟨hm0, hm1⟩ := prG_rng (L := L) (d := d) (i := i) hpp.2.1 hj
        refine a_region ?_
        refine r_val (v := .rp _ _) (v_indexAddr_rsl0 es25 (.inl rfl) (.inl rfl) (fun _ => by omega)) rfl rfl (by decide) ?_
        refine r_val (v := .int .i64 (gd (prG vars L d i) j)) (v_load_rp1 ta3 (.inl rfl) rfl (fun _ => by rw [Nat.mul_one]; exact icells_get (gd_get hj)) rfl) rfl rfl (by decide) ?_
        refine r_val (v := .int _ _) (v_assign (.inl rfl) (noOwn_flat rfl)) rfl rfl (by decide) ?_
        refine r_nil ?_
        refine a_region_tail (n := 23) mixed (by kernel_rfl) ?_
        refine t_val (v := .rsl _ _ _ _ _) (v_move (.inl rfl) (noOwn_flat rfl)) rfl rfl (by decide) (by kernel_rfl) ?_
        refine t_val (v := .int _ _) (v_move (.inl rfl) (noOwn_flat rfl)) rfl rfl (by decide) (by kernel_rfl) ?_
        refine t_val (v := .int _ _) (v_move (.inl rfl) (noOwn_flat rfl)) rfl rfl (by decide) (by kernel_rfl) ?_
        refine t_val (v := .pp _ _) (v_move (.inl rfl) (noOwn_flat rfl)) rfl rfl (by decide) (by kernel_rfl) ?_
        refine t_val (v := .pp _ _) (v_nilCheck (.inl rfl) rfl) rfl rfl (by decide) (by kernel_rfl) ?_
        refine t_val (v := .pp _ _) (v_fieldAddr_pp fo88_0 (.inl rfl)) rfl rfl (by decide) (by kernel_rfl) ?_
        refine t_val (v := .agg [.int _ _, .int _ _]) (v_load_ppa1 ta85 (.inl rfl) rfl (fun _ => rfl) rfl) rfl rfl (by decide) (by kernel_rfl) ?_
        refine t_val (v := .pp _ _) (v_move (.inl rfl) (noOwn_flat rfl)) rfl rfl (by decide) (by kernel_rfl) ?_
        refine t_val (v := .pp _ _) (v_nilCheck (.inl rfl) rfl) rfl rfl (by decide) (by kernel_rfl) ?_
        refine t_val (v := .pp _ _) (v_fieldAddr_pp fo88_2 (.inl rfl)) rfl rfl (by decide) (by kernel_rfl) ?_
        refine t_val (v := .sl _ _) (v_load_pp ta86 (.inl rfl) (fun _ => rfl) rfl) rfl rfl (by decide) (by kernel_rfl) ?_
        refine t_val (v := .int _ _) (v_move (.inl rfl) (noOwn_flat rfl)) rfl rfl (by decide) (by kernel_rfl) ?_
        refine t_val (v := .pp _ _) (v_indexAddr_sl es86 (.inl rfl) (.inl rfl) (fun _ => ⟨by omega, by omega, sls_ne (i := i) (by omega)⟩)) rfl rfl (by decide) (by kernel_rfl) ?_
        refine t_val (v := .sl (icells (clD p vars (gl L i))) (dn vars)) (v_load_pp ta91 (.inl rfl) (fun _ => by rw [Nat.mul_one]; exact (sls_get (i := i) (by omega)).trans (by rw [qL_get (by omega), clD_len])) rfl) rfl rfl (by decide) (by kernel_rfl) ?_
        refine t_val (v := .pp _ _) (v_move (.inl rfl) (noOwn_flat rfl)) rfl rfl (by decide) (by kernel_rfl) ?_
        refine t_val (v := .pp _ _) (v_nilCheck (.inl rfl) rfl) rfl rfl (by decide) (by kernel_rfl) ?_
        refine t_val (v := .pp _ _) (v_fieldAddr_pp fo88_0 (.inl rfl)) rfl rfl (by decide) (by kernel_rfl) ?_
        refine t_val (v := .agg [.int _ _, .int _ _]) (v_load_ppa1 ta85 (.inl rfl) rfl (fun _ => rfl) rfl) rfl rfl (by decide) (by kernel_rfl) ?_
        refine t_val (v := .int .i64 (((gd (prG vars L d i) j).toNat : Nat) : Int)) ((v_move (.inl rfl) (noOwn_flat rfl)).cast (int_eq (by omega))) rfl rfl (by decide) (by kernel_rfl) ?_
        refine t_new (v := .osl _ _ _ _) (q_call (vs := [.agg [.int _ _, .int _ _], .int _ _]) (args := [.agg [.int .i64 _, .int .i64 _], .int .i64 _]) hb115 ⟨.inl rfl, .inl rfl, trivial⟩ rfl (fun hA => mono_c p vars (gd (prG vars L d i) j).toNat hpp.2 (by omega)) (ic_noSh _) (ic_noRef _)) rfl rfl (by decide) (by kernel_rfl) ?_
        refine t_new (v := .sl (icells (mulp p (dn vars) (clD p vars (gl L i)) (one (dn vars) (gd (prG vars L d i) j).toNat))) (dn vars)) (QSem.cast (q_callZ (vs := [.agg [.int _ _, .int _ _], .sl _ _, .rsl _ _ _ _ _]) (args := [.agg [.int .i64 _, .int .i64 _], .sl _ _, .sl _ _]) hb117 ⟨.inl rfl, .inl rfl, .inl rfl, trivial⟩ (l3_eq rfl rfl (sl_sh (ic_pure _))) (fun hA => times_c p vars (clD p vars (gl L i)) (one (dn vars) (gd (prG vars L d i) j).toNat) _ hp ⟨clD_len _ _ _, one_length _ _, rfl⟩ (clD_bd (by omega) _) (one_bd (by omega) _ _)) (ic_noSh _) (ic_noRef _)) (sl_shZ (ic_pure _))) rfl rfl (by decide) (by kernel_rfl) ?_
        refine t_val (v := .agg [.int _ _, .int _ _, .sl _ _]) (v_build sp109 rfl rfl) rfl rfl (by decide) (by kernel_rfl) ?_
        refine t_new (v := .osl _ _ _ _) (q_sliceLit (n := 1) (parts := [(0, .tmp 61)]) lt107 rfl rfl rfl rfl) rfl rfl (by decide) (by kernel_rfl) ?_
        refine t_nil ?_
        refine r_pre (ent_reloc_sl (t := 40) rfl rfl) ?_
        refine r_step rfl (o_append rfl ap107 rfl (by decide) (by decide) rfl (src_lit (.inl rfl) rfl rfl rfl) rfl (by rw [prC_length]) (by omega)) ?_
        refine r_val (v := .rsl _ _ _ _ _) (v_assign (.inl rfl) (noOwn_flat rfl)) rfl rfl (by decide) ?_
        refine r_pre (ent_reloc_sl (t := 5) rfl rfl) ?_
        refine r_nil ?_
        refine a_pre (ent_look (L := [(0, .pp _ _), (1, .int _ _), (5, .osl _ _ _ _), (6, .int _ _), (14, .sl _ _), (15, .int _ _), (16, .int _ _), (34, .osl _ _ _ _), (35, .int _ _), (36, .int _ _)]) ⟨Weak.rfl, Weak.rfl, Weak.rfl, Weak.rfl, Weak.rfl, Weak.rfl, Weak.rfl, Weak.rfl, Weak.rfl, Weak.rfl, trivial⟩) ?_
        refine a_region ?_
        refine r_val (v := .int _ _) (v_add (.inl rfl) (.inl rfl) (fun _ => by omega)) rfl rfl (by decide) ?_
        refine r_val (v := .int _ _) (v_move (.inl rfl) (noOwn_flat rfl)) rfl rfl (by decide) ?_
        refine r_nil ?_
        refine ⟨j + 1, ent_look ⟨Weak.of_eq rfl, Weak.of_eq rfl, Weak.osl (by rw [prP_more hj, prC_app]; unfold prc prOne; rw [mulp_length]; rfl) (by rw [prP_more hj, List.length_append]; rfl), Weak.of_eq rfl, Weak.of_eq rfl, Weak.of_eq rfl, Weak.of_eq rfl, Weak.of_eq rfl, Weak.of_eq rfl, Weak.of_eq (int_eq (by omega)), trivial⟩, by omega, by omega⟩
      ·
        skip
        refine a_exit ?_
        refine a_region ?_
        refine r_val (v := .int _ _) (v_add (.inl rfl) (.inl rfl) (fun _ => by omega)) rfl rfl (by decide) ?_
        refine r_val (v := .int _ _) (v_move (.inl rfl) (noOwn_flat rfl)) rfl rfl (by decide) ?_
        refine r_nil ?_
        refine ⟨i + 1, ent_look ⟨Weak.of_eq rfl, Weak.of_eq rfl, Weak.osl (by rw [prP_full hle (by simp at ht37; omega)]) (by rw [prP_full hle (by simp at ht37; omega)]), Weak.of_eq rfl, Weak.of_eq rfl, Weak.of_eq (int_eq (by omega)), trivial⟩, by omega, by omega⟩
  ·
    skip
    refine a_exit ?_
    refine a_seq ?_
    refine a_region ?_
    refine r_val (v := .rsl _ _ _ _ _) (v_move (.inl rfl) (noOwn_flat rfl)) rfl rfl (by decide) ?_
    refine r_val (v := .rsl _ _ _ _ _) (v_assign (.inl rfl) (noOwn_flat rfl)) rfl rfl (by decide) ?_
    refine r_pre (ent_reloc_sl (t := 4) rfl rfl) ?_
    refine r_nil ?_
    refine a_ret ?_
    refine ret1 Try.results72 (by decide) (by decide) (Weak.osl ?_ ?_) rfl Leaves.nil
    all_goals (have hie : i = L.length := (by simp at ht17; omega); subst hie; rfl)
end Go.Av
namespace Go.Av
open Go Go.Proofs Go.Sort
set_option maxRecDepth 10000
theorem hb29 : hasBody Try.prog 29 = true := by kernel_rfl
theorem hb30 : hasBody Try.prog 30 = true := by kernel_rfl
theorem hb68 : hasBody Try.prog 68 = true := by kernel_rfl
theorem hb69 : hasBody Try.prog 69 = true := by kernel_rfl
theorem hb70 : hasBody Try.prog 70 = true := by kernel_rfl
theorem hb72 : hasBody Try.prog 72 = true := by kernel_rfl
theorem sl102 : isSlice Try.prog 102 = true := by kernel_rfl
theorem sl107 : isSlice Try.prog 107 = true := by kernel_rfl

theorem deg19_c (d : Int) : ACall Try.prog 68 [.int .i64 d] [] (.bool (inR d 0 6)) [] := by
  refine ACall.intro Try.func68 rfl (N := 5) rfl (by decide) (by simp) ?_
  refine a_seq ?_
  refine a_region ?_
  refine r_val (v := .bool _) (v_assign (.inl rfl) (noOwn_flat rfl)) rfl rfl (by decide) ?_
  refine r_nil ?_
  refine a_seq ?_
  refine a_region ?_
  refine r_val (v := .int _ _) (v_move (.inl rfl) (noOwn_flat rfl)) rfl rfl (by decide) ?_
  refine r_new (v := .bool _) (q_call (vs := [.int _ _, .int _ _, .int _ _]) (args := [.int .i64 _, .int .i64 _, .int .i64 _]) hb77 ⟨.inl rfl, .inl rfl, .inl rfl, trivial⟩ rfl (fun hA => l1In_c d 0 6) rfl rfl) rfl rfl (by decide) ?_
  refine r_val (v := .bool _) (v_assign (.inl rfl) (noOwn_flat rfl)) rfl rfl (by decide) ?_
  refine r_nil ?_
  refine a_ret ?_
  refine ret1 Try.results68 (by decide) (by decide) (Weak.of_eq (bool_eq ?_)) rfl Leaves.nil
  rfl

theorem degOk_c (d : Int) : ACall Try.prog 70 [.int .i64 d] [] (.bool (inR d 0 6)) [] := by
  refine ACall.intro Try.func70 rfl (N := 5) rfl (by decide) (by simp) ?_
  refine a_seq ?_
  refine a_region ?_
  refine r_val (v := .bool _) (v_assign (.inl rfl) (noOwn_flat rfl)) rfl rfl (by decide) ?_
  refine r_nil ?_
  refine a_seq ?_
  refine a_region ?_
  refine r_val (v := .int _ _) (v_move (.inl rfl) (noOwn_flat rfl)) rfl rfl (by decide) ?_
  refine r_new (v := .bool _) (q_call (vs := [.int _ _, .int _ _, .int _ _]) (args := [.int .i64 _, .int .i64 _, .int .i64 _]) hb80 ⟨.inl rfl, .inl rfl, .inl rfl, trivial⟩ rfl (fun hA => within_c d 0 6) rfl rfl) rfl rfl (by decide) ?_
  refine r_val (v := .bool _) (v_assign (.inl rfl) (noOwn_flat rfl)) rfl rfl (by decide) ?_
  refine r_nil ?_
  refine a_ret ?_
  refine ret1 Try.results70 (by decide) (by decide) (Weak.of_eq (bool_eq ?_)) rfl Leaves.nil
  rfl

theorem sCnt_c (p vars : Int) (L : List (List Int)) (d : Int) (hk : CnfOk vars L) : ACall Try.prog 29 [.int .i64 p, .agg [.int .i64 vars, .sl (sls L) L.length], .int .i64 d] [] (.tup [.int .i64 (if (okCnt p vars L d) then ((prL p vars L d.toNat L.length).length : Int) else 0), .bool (okCnt p vars L d)]) [] := by
  refine ACall.intro Try.func29 rfl (N := 22) rfl (by decide) (by simp) ?_
  refine a_seq ?_
  refine a_region ?_
  refine r_new (v := .op [.int _ _, .sl _ _]) (q_box (.inl rfl) rfl rfl) rfl rfl (by decide) ?_
  refine r_val (v := .int _ _) (v_assign (.inl rfl) (noOwn_flat rfl)) rfl rfl (by decide) ?_
  refine r_val (v := .bool _) (v_assign (.inl rfl) (noOwn_flat rfl)) rfl rfl (by decide) ?_
  refine r_nil ?_
  refine a_seq ?_
  refine a_seq ?_
  refine a_region ?_
  refine r_val (v := .int _ _) (v_move (.inl rfl) (noOwn_flat rfl)) rfl rfl (by decide) ?_
  refine r_val (v := .agg [.int _ _, .sl _ _]) (v_load_rpa1 ta31 (.inl rfl) rfl rfl (fun _ => rfl) rfl) rfl rfl (by decide) ?_
  refine r_new (v := .bool _) (q_call (vs := [.int _ _, .agg [.int _ _, .sl _ _]]) (args := [.int .i64 _, .agg [.int .i64 _, .sl _ _]]) hb74 ⟨.inl rfl, .inl rfl, trivial⟩ rfl (fun hA => takes19_c p vars L hk) rfl rfl) rfl rfl (by decide) ?_
  refine r_val (v := .bool _) (v_not (.inl rfl)) rfl rfl (by decide) ?_
  refine r_val (v := .bool _) (v_move (.inl rfl) (noOwn_flat rfl)) rfl rfl (by decide) ?_
  refine r_gval (v := .int _ _) (v_move (.inl rfl) (noOwn_flat rfl)) rfl rfl rfl (by decide) (.inl ⟨_, rfl, rfl⟩) rfl (by decide) ?_
  refine r_guard (v := .bool _) (q_call (vs := [.int _ _]) (args := [.int .i64 _]) hb68 ⟨.inr ⟨_, rfl, fun h => h⟩, trivial⟩ rfl (fun hA => deg19_c d) rfl rfl) rfl rfl rfl (by decide) (.inl ⟨_, rfl, rfl⟩) rfl (by decide) ?_
  refine r_gval (v := .bool _) (v_not (.inr ⟨_, rfl, fun h => h⟩)) rfl rfl rfl (by decide) (.inl ⟨_, rfl, rfl⟩) rfl (by decide) ?_
  refine r_val (v := .bool _) (v_pick (.inl rfl) (.inl rfl) (.inr ⟨_, rfl, fun h h2 => by simp_all⟩)) rfl rfl (by decide) ?_
  refine r_nil ?_
  refine a_cond rfl (fun ht16 => ?_) (fun ht16 => ?_)
  ·
    skip
    refine a_seq ?_
    have hno : (okCnt p vars L d) = false := (by unfold okCnt; cases h1 : aOk p vars L <;> cases h2 : inR d 0 6 <;> simp_all)
    refine a_region ?_
    refine r_val (v := .int _ _) (v_assign (.inl rfl) (noOwn_flat rfl)) rfl rfl (by decide) ?_
    refine r_val (v := .bool _) (v_assign (.inl rfl) (noOwn_flat rfl)) rfl rfl (by decide) ?_
    refine r_nil ?_
    refine a_ret ?_
    refine retL (rs := [.tmp 6, .tmp 7]) [(6, _), (7, _)] ⟨Weak.rfl, Weak.rfl, trivial⟩ rfl Try.results29 (by decide) ⟨by decide, by decide, rfl⟩ (by decide) (by decide) (l2_eq (int_eq ?_) (bool_eq ?_)) rfl
    all_goals (rw [hno] <;> rfl)
  ·
    skip
    refine a_skip ?_
    refine a_seq ?_
    obtain ⟨ha, hdr⟩ : aOk p vars L = true ∧ inR d 0 6 = true := (by cases h1 : aOk p vars L <;> cases h2 : inR d 0 6 <;> simp_all)
    have hd9 := inR_spec.1 hdr
    have hok : (okCnt p vars L d) = true := (by unfold okCnt; rw [ha, hdr]; rfl)
    refine a_region ?_
    refine r_val (v := .int _ _) (v_move (.inl rfl) (noOwn_flat rfl)) rfl rfl (by decide) ?_
    refine r_val (v := .agg [.int _ _, .sl _ _]) (v_load_rpa1 ta31 (.inl rfl) rfl rfl (fun _ => rfl) rfl) rfl rfl (by decide) ?_
    refine r_val (v := .int .i64 ((d.toNat : Nat) : Int)) ((v_move (.inl rfl) (noOwn_flat rfl)).cast (int_eq (by omega))) rfl rfl (by decide) ?_
    refine r_new (v := .osl _ _ _ _) (q_callF (vs := [.int _ _, .agg [.int _ _, .sl _ _], .int _ _]) (args := [.int .i64 _, .agg [.int .i64 _, .sl _ _], .int .i64 _]) hb69 ⟨.inl rfl, .inl rfl, .inl rfl, trivial⟩ rfl (fun hA => prods19_c p vars L d.toNat ha (by omega) hk) rfl (prC_noRef _)) rfl rfl (by decide) ?_
    refine r_val (v := .int _ _) (v_len_rsl sl102 (.inl rfl)) rfl rfl (by decide) ?_
    refine r_val (v := .int _ _) (v_assign (.inl rfl) (noOwn_flat rfl)) rfl rfl (by decide) ?_
    refine r_val (v := .bool _) (v_assign (.inl rfl) (noOwn_flat rfl)) rfl rfl (by decide) ?_
    refine r_nil ?_
    refine a_ret ?_
    refine retL (rs := [.tmp 6, .tmp 7]) [(6, _), (7, _)] ⟨Weak.rfl, Weak.rfl, trivial⟩ rfl Try.results29 (by decide) ⟨by decide, by decide, rfl⟩ (by decide) (by decide) (l2_eq (int_eq ?_) (bool_eq ?_)) rfl
    all_goals (rw [hok] <;> rfl)

theorem iCnt_c (p vars : Int) (L : List (List Int)) (d : Int) (hk : CnfOk vars L) : ACall Try.prog 30 [.int .i64 p, .agg [.int .i64 vars, .sl (sls L) L.length], .int .i64 d] [] (.tup [.int .i64 (if (okCnt p vars L d) then ((prL p vars L d.toNat L.length).length : Int) else 0), .bool (okCnt p vars L d)]) [] := by
  refine ACall.intro Try.func30 rfl (N := 27) rfl (by decide) (by simp) ?_
  refine a_seq ?_
  refine a_region ?_
  refine r_new (v := .op [.int _ _, .sl _ _]) (q_box (.inl rfl) rfl rfl) rfl rfl (by decide) ?_
  refine r_val (v := .int _ _) (v_assign (.inl rfl) (noOwn_flat rfl)) rfl rfl (by decide) ?_
  refine r_val (v := .bool _) (v_assign (.inl rfl) (noOwn_flat rfl)) rfl rfl (by decide) ?_
  refine r_nil ?_
  refine a_seq ?_
  cases ha : aOk p vars L
  ·
    skip
    refine a_region ?_
    refine r_val (v := .int _ _) (v_move (.inl rfl) (noOwn_flat rfl)) rfl rfl (by decide) ?_
    refine r_val (v := .agg [.int _ _, .sl _ _]) (v_load_rpa1 ta31 (.inl rfl) rfl rfl (fun _ => rfl) rfl) rfl rfl (by decide) ?_
    refine r_new (v := .tup [.nilp, .bool _]) (q_call (vs := [.int _ _, .agg [.int _ _, .sl _ _]]) (args := [.int .i64 _, .agg [.int .i64 _, .sl _ _]]) hb55 ⟨.inl rfl, .inl rfl, trivial⟩ rfl (fun hA => algNo_c p vars L hk ha) rfl rfl) rfl rfl (by decide) ?_
    refine r_val (v := .tup [.nilp, .bool _]) (v_mv rfl) rfl rfl (by decide) ?_
    refine r_val (v := .nilp) (v_extract rfl rfl) rfl rfl (by decide) ?_
    refine r_val (v := .bool _) (v_extract rfl rfl) rfl rfl (by decide) ?_
    refine r_val (v := .nilp) (v_assign (.inl rfl) (noOwn_flat rfl)) rfl rfl (by decide) ?_
    refine r_val (v := .bool _) (v_assign (.inl rfl) (noOwn_flat rfl)) rfl rfl (by decide) ?_
    refine r_nil ?_
    refine a_seq ?_
    refine a_seq ?_
    refine a_region ?_
    refine r_val (v := .bool _) (v_move (.inl rfl) (noOwn_flat rfl)) rfl rfl (by decide) ?_
    refine r_val (v := .bool _) (v_not (.inl rfl)) rfl rfl (by decide) ?_
    refine r_val (v := .bool _) (v_move (.inl rfl) (noOwn_flat rfl)) rfl rfl (by decide) ?_
    refine r_gval (v := .int _ _) (v_move (.inl rfl) (noOwn_flat rfl)) rfl rfl rfl (by decide) (.inl ⟨_, rfl, rfl⟩) rfl (by decide) ?_
    refine r_guard (v := .bool _) (q_call (vs := [.int _ _]) (args := [.int .i64 _]) hb70 ⟨.inr ⟨_, rfl, fun h => h⟩, trivial⟩ rfl (fun hA => degOk_c d) rfl rfl) rfl rfl rfl (by decide) (.inl ⟨_, rfl, rfl⟩) rfl (by decide) ?_
    refine r_gval (v := .bool _) (v_not (.inr ⟨_, rfl, fun h => h⟩)) rfl rfl rfl (by decide) (.inl ⟨_, rfl, rfl⟩) rfl (by decide) ?_
    refine r_val (v := .bool _) (v_pick (.inl rfl) (.inl rfl) (.inr ⟨_, rfl, fun h h2 => by simp_all⟩)) rfl rfl (by decide) ?_
    refine r_nil ?_
    refine a_cond rfl (fun ht22 => ?_) (fun ht22 => ?_)
    ·
      skip
      refine a_seq ?_
      have hno : (okCnt p vars L d) = false := (by unfold okCnt; cases h1 : aOk p vars L <;> cases h2 : inR d 0 6 <;> simp_all)
      refine a_region ?_
      refine r_val (v := .int _ _) (v_assign (.inl rfl) (noOwn_flat rfl)) rfl rfl (by decide) ?_
      refine r_val (v := .bool _) (v_assign (.inl rfl) (noOwn_flat rfl)) rfl rfl (by decide) ?_
      refine r_nil ?_
      refine a_ret ?_
      refine retL (rs := [.tmp 6, .tmp 7]) [(6, _), (7, _)] ⟨Weak.rfl, Weak.rfl, trivial⟩ rfl Try.results30 (by decide) ⟨by decide, by decide, rfl⟩ (by decide) (by decide) (l2_eq (int_eq ?_) (bool_eq ?_)) rfl
      all_goals (rw [hno] <;> rfl)
    ·
      skip
      refine a_skip ?_
      refine a_seq ?_
      exfalso
      simp at ht22
  ·
    skip
    refine a_region ?_
    refine r_val (v := .int _ _) (v_move (.inl rfl) (noOwn_flat rfl)) rfl rfl (by decide) ?_
    refine r_val (v := .agg [.int _ _, .sl _ _]) (v_load_rpa1 ta31 (.inl rfl) rfl rfl (fun _ => rfl) rfl) rfl rfl (by decide) ?_
    refine r_new (v := .tup [.pp _ _, .bool _]) (QSem.cast (q_callFZ (vs := [.int _ _, .agg [.int _ _, .sl _ _]]) (args := [.int .i64 _, .agg [.int .i64 _, .sl _ _]]) hb55 ⟨.inl rfl, .inl rfl, trivial⟩ rfl (fun hA => algOk_c p vars L hk ha) rfl (by simp [noRef, noRefL, osls_noRef, sls_noRef])) (alg_shT p vars L)) rfl rfl (by decide) ?_
    refine r_val (v := .tup [.pp _ _, .bool _]) (v_mv rfl) rfl rfl (by decide) ?_
    refine r_val (v := .pp _ _) (v_extract rfl rfl) rfl rfl (by decide) ?_
    refine r_val (v := .bool _) (v_extract rfl rfl) rfl rfl (by decide) ?_
    refine r_val (v := .pp _ _) (v_assign (.inl rfl) (noOwn_flat rfl)) rfl rfl (by decide) ?_
    refine r_val (v := .bool _) (v_assign (.inl rfl) (noOwn_flat rfl)) rfl rfl (by decide) ?_
    refine r_nil ?_
    refine a_seq ?_
    refine a_seq ?_
    refine a_region ?_
    refine r_val (v := .bool _) (v_move (.inl rfl) (noOwn_flat rfl)) rfl rfl (by decide) ?_
    refine r_val (v := .bool _) (v_not (.inl rfl)) rfl rfl (by decide) ?_
    refine r_val (v := .bool _) (v_move (.inl rfl) (noOwn_flat rfl)) rfl rfl (by decide) ?_
    refine r_gval (v := .int _ _) (v_move (.inl rfl) (noOwn_flat rfl)) rfl rfl rfl (by decide) (.inl ⟨_, rfl, rfl⟩) rfl (by decide) ?_
    refine r_guard (v := .bool _) (q_call (vs := [.int _ _]) (args := [.int .i64 _]) hb70 ⟨.inr ⟨_, rfl, fun h => h⟩, trivial⟩ rfl (fun hA => degOk_c d) rfl rfl) rfl rfl rfl (by decide) (.inl ⟨_, rfl, rfl⟩) rfl (by decide) ?_
    refine r_gval (v := .bool _) (v_not (.inr ⟨_, rfl, fun h => h⟩)) rfl rfl rfl (by decide) (.inl ⟨_, rfl, rfl⟩) rfl (by decide) ?_
    refine r_val (v := .bool _) (v_pick (.inl rfl) (.inl rfl) (.inr ⟨_, rfl, fun h h2 => by simp_all⟩)) rfl rfl (by decide) ?_
    refine r_nil ?_
    refine a_cond rfl (fun ht22 => ?_) (fun ht22 => ?_)
    ·
      skip
      refine a_seq ?_
      have hno : (okCnt p vars L d) = false := (by unfold okCnt; cases h1 : aOk p vars L <;> cases h2 : inR d 0 6 <;> simp_all)
      refine a_region ?_
      refine r_val (v := .int _ _) (v_assign (.inl rfl) (noOwn_flat rfl)) rfl rfl (by decide) ?_
      refine r_val (v := .bool _) (v_assign (.inl rfl) (noOwn_flat rfl)) rfl rfl (by decide) ?_
      refine r_nil ?_
      refine a_ret ?_
      refine retL (rs := [.tmp 6, .tmp 7]) [(6, _), (7, _)] ⟨Weak.rfl, Weak.rfl, trivial⟩ rfl Try.results30 (by decide) ⟨by decide, by decide, rfl⟩ (by decide) (by decide) (l2_eq (int_eq ?_) (bool_eq ?_)) rfl
      all_goals (rw [hno] <;> rfl)
    ·
      skip
      refine a_skip ?_
      refine a_seq ?_
      have ha9 := ha
      obtain ⟨_, hdr⟩ : True ∧ inR d 0 6 = true := (by cases h2 : inR d 0 6 <;> simp_all)
      have hd9 := inR_spec.1 hdr
      have hok : (okCnt p vars L d) = true := (by unfold okCnt; rw [ha, hdr]; rfl)
      refine a_region ?_
      refine r_val (v := .pp _ _) (v_move (.inl rfl) (noOwn_flat rfl)) rfl rfl (by decide) ?_
      refine r_val (v := .int .i64 ((d.toNat : Nat) : Int)) ((v_move (.inl rfl) (noOwn_flat rfl)).cast (int_eq (by omega))) rfl rfl (by decide) ?_
      refine r_new (v := .osl _ _ _ _) (q_callF (vs := [.pp _ _, .int _ _]) (args := [.pp _ _, .int .i64 _]) hb72 ⟨.inl rfl, .inl rfl, trivial⟩ rfl (fun hA => iprods_c p vars L d.toNat ha (by omega)) rfl (prC_noRef _)) rfl rfl (by decide) ?_
      refine r_val (v := .int _ _) (v_len_rsl sl107 (.inl rfl)) rfl rfl (by decide) ?_
      refine r_val (v := .int _ _) (v_assign (.inl rfl) (noOwn_flat rfl)) rfl rfl (by decide) ?_
      refine r_val (v := .bool _) (v_assign (.inl rfl) (noOwn_flat rfl)) rfl rfl (by decide) ?_
      refine r_nil ?_
      refine a_ret ?_
      refine retL (rs := [.tmp 6, .tmp 7]) [(6, _), (7, _)] ⟨Weak.rfl, Weak.rfl, trivial⟩ rfl Try.results30 (by decide) ⟨by decide, by decide, rfl⟩ (by decide) (by decide) (l2_eq (int_eq ?_) (bool_eq ?_)) rfl
      all_goals (rw [hok] <;> rfl)

theorem lawCountProducts_c (p vars : Int) (L : List (List Int)) (d : Int) (hv : -9223372036854775808 ≤ vars ∧ vars ≤ 9223372036854775807) (hlen : ∀ i, ((gl L i).length : Int) ≤ 9223372036854775807) (hL : (L.length : Int) ≤ 9223372036854775807) (hbb : ∀ i j, -9223372036854775808 ≤ gd (gl L i) j ∧ gd (gl L i) j ≤ 9223372036854775807) : ACall Try.prog 6 [.int .i64 p, .agg [.int .i64 vars, .sl (sls L) L.length], .int .i64 d] [] (.bool true) [] := by
  refine ACall.intro Try.func6 rfl (N := 48) rfl (by decide) (by simp) ?_
  refine a_seq ?_
  refine a_region ?_
  refine r_new (v := .op [.int _ _, .sl _ _]) (q_box (.inl rfl) rfl rfl) rfl rfl (by decide) ?_
  refine r_val (v := .bool _) (v_assign (.inl rfl) (noOwn_flat rfl)) rfl rfl (by decide) ?_
  refine r_nil ?_
  refine a_seq ?_
  refine a_region ?_
  refine r_val (v := .int _ _) (v_assign (.inl rfl) (noOwn_flat rfl)) rfl rfl (by decide) ?_
  refine r_nil ?_
  refine a_seq ?_
  refine a_region ?_
  refine r_val (v := .agg [.int _ _, .sl _ _]) (v_load_rpa1 ta24 (.inl rfl) rfl rfl (fun _ => rfl) rfl) rfl rfl (by decide) ?_
  refine r_val (v := .int _ _) (v_move (.inl rfl) (noOwn_flat rfl)) rfl rfl (by decide) ?_
  refine r_new (v := .int _ _) (q_call (vs := [.agg [.int _ _, .sl _ _], .int _ _]) (args := [.agg [.int .i64 _, .sl _ _], .int .i64 _]) hb12 ⟨.inl rfl, .inl rfl, trivial⟩ rfl (fun hA => szCnf_c _ _ _ (by omega) hlen hL) rfl rfl) rfl rfl (by decide) ?_
  refine r_val (v := .int _ _) (v_assign (.inl rfl) (noOwn_flat rfl)) rfl rfl (by decide) ?_
  refine r_nil ?_
  refine a_seq ?_
  refine a_seq ?_
  refine a_region ?_
  refine r_val (v := .int _ _) (v_move (.inl rfl) (noOwn_flat rfl)) rfl rfl (by decide) ?_
  refine r_val (v := .bool _) (v_lss (.inl rfl) (.inl rfl)) rfl rfl (by decide) ?_
  refine r_nil ?_
  refine a_cond rfl (fun ht17 => ?_) (fun ht17 => ?_)
  ·
    skip
    refine a_seq ?_
    refine a_region ?_
    refine r_val (v := .bool _) (v_assign (.inl rfl) (noOwn_flat rfl)) rfl rfl (by decide) ?_
    refine r_nil ?_
    refine a_ret ?_
    refine ret1 Try.results6 (by decide) (by decide) (Weak.of_eq (bool_eq ?_)) rfl Leaves.nil
    first | rfl | (exfalso; simp at ht17; done) | (exfalso; simp at ht17; omega)
  ·
    skip
    refine a_skip ?_
    refine a_seq ?_
    have hsz : L.length + tot L L.length ≤ 1048576 := (by have h9 := of_decide_eq_false ht17; unfold szR at h9; split at h9 <;> omega)
    have hk : CnfOk vars L := ⟨hv, by omega, by omega, hbb⟩
    have hll := fun i => len_tot (L := L) (i := i)
    refine a_region ?_
    refine r_val (v := .int _ _) (v_move (.inl rfl) (noOwn_flat rfl)) rfl rfl (by decide) ?_
    refine r_val (v := .agg [.int _ _, .sl _ _]) (v_load_rpa1 ta24 (.inl rfl) rfl rfl (fun _ => rfl) rfl) rfl rfl (by decide) ?_
    refine r_new (v := .agg [.int _ _, .osl _ _ _ _]) (q_call (vs := [.agg [.int _ _, .sl _ _]]) (args := [.agg [.int .i64 _, .sl _ _]]) hb15 ⟨.inl rfl, trivial⟩ rfl (fun hA => toCnf_c _ _ (by omega) (by omega)) (by simp [noSh, noShL, osls_noSh]) (by simp [noRef, noRefL, osls_noRef])) rfl rfl (by decide) ?_
    refine r_val (v := .int _ _) (v_move (.inl rfl) (noOwn_flat rfl)) rfl rfl (by decide) ?_
    refine r_new (v := .tup [.int _ _, .bool _]) (q_call (vs := [.int _ _, .agg [.int _ _, .rsl _ _ _ _ _], .int _ _]) (args := [.int .i64 _, .agg [.int .i64 _, .sl _ _], .int .i64 _]) hb29 ⟨.inl rfl, .inl rfl, .inl rfl, trivial⟩ (l3_eq rfl (agg_eq (l2_eq rfl sl_osls)) rfl) (fun hA => sCnt_c p vars L d hk) rfl rfl) rfl rfl (by decide) ?_
    refine r_val (v := .tup [.int _ _, .bool _]) (v_mv rfl) rfl rfl (by decide) ?_
    refine r_val (v := .int _ _) (v_extract rfl rfl) rfl rfl (by decide) ?_
    refine r_val (v := .bool _) (v_extract rfl rfl) rfl rfl (by decide) ?_
    refine r_val (v := .int _ _) (v_assign (.inl rfl) (noOwn_flat rfl)) rfl rfl (by decide) ?_
    refine r_val (v := .bool _) (v_assign (.inl rfl) (noOwn_flat rfl)) rfl rfl (by decide) ?_
    refine r_nil ?_
    refine a_seq ?_
    refine a_pre (ent_look (L := [(0, .int _ _), (2, .int _ _), (4, .op [.int _ _, .sl _ _]), (6, .bool _), (8, .int _ _), (9, .bool _)]) ⟨Weak.rfl, Weak.rfl, Weak.rfl, Weak.rfl, Weak.rfl, Weak.rfl, trivial⟩) ?_
    refine a_region ?_
    refine r_val (v := .agg [.int _ _, .sl _ _]) (v_load_rpa1 ta24 (.inl rfl) rfl rfl (fun _ => rfl) rfl) rfl rfl (by decide) ?_
    refine r_new (v := .agg [.int _ _, .osl _ _ _ _]) (q_call (vs := [.agg [.int _ _, .sl _ _]]) (args := [.agg [.int .i64 _, .sl _ _]]) hb15 ⟨.inl rfl, trivial⟩ rfl (fun hA => toCnf_c _ _ (by omega) (by omega)) (by simp [noSh, noShL, osls_noSh]) (by simp [noRef, noRefL, osls_noRef])) rfl rfl (by decide) ?_
    refine r_new (v := .op [.int _ _, .nils]) (q_alloc zc31) rfl rfl (by decide) ?_
    refine r_step rfl (o_store_own (v := .agg [.int _ _, .osl _ _ _ _]) (y' := .op [.int _ _, .osl _ _ _ _]) rfl rfl ta31 (.inl rfl) (by decide) rfl (by decide) rfl (by simp [cellsOf, noRefL, noRef, osls_noRef]) rfl rfl rfl rfl rfl (Nat.le_of_ble_eq_true rfl) rfl rfl) ?_
    refine r_nil ?_
    refine a_seq ?_
    refine a_region ?_
    refine r_val (v := .int _ _) (v_move (.inl rfl) (noOwn_flat rfl)) rfl rfl (by decide) ?_
    refine r_val (v := .agg [.int _ _, .rsl _ _ _ _ _]) (v_load_rpa (xs := [.int _ _, .osl _ _ _ _]) ta31 (.inl rfl) rfl rfl (fun _ => take_get rfl)) rfl rfl (by decide) ?_
    refine r_val (v := .int _ _) (v_move (.inl rfl) (noOwn_flat rfl)) rfl rfl (by decide) ?_
    refine r_new (v := .tup [.int _ _, .bool _]) (q_call (vs := [.int _ _, .agg [.int _ _, .rsl _ _ _ _ _], .int _ _]) (args := [.int .i64 _, .agg [.int .i64 _, .sl _ _], .int .i64 _]) hb30 ⟨.inl rfl, .inl rfl, .inl rfl, trivial⟩ (l3_eq rfl (agg_eq (l2_eq rfl sl_osls)) rfl) (fun hA => iCnt_c p vars L d hk) rfl rfl) rfl rfl (by decide) ?_
    refine r_val (v := .tup [.int _ _, .bool _]) (v_mv rfl) rfl rfl (by decide) ?_
    refine r_val (v := .int _ _) (v_extract rfl rfl) rfl rfl (by decide) ?_
    refine r_val (v := .bool _) (v_extract rfl rfl) rfl rfl (by decide) ?_
    refine r_val (v := .int _ _) (v_assign (.inl rfl) (noOwn_flat rfl)) rfl rfl (by decide) ?_
    refine r_val (v := .bool _) (v_assign (.inl rfl) (noOwn_flat rfl)) rfl rfl (by decide) ?_
    refine r_nil ?_
    refine a_seq ?_
    refine a_seq ?_
    refine a_pre (ent_look (L := [(4, .op [.int _ _, .sl _ _]), (6, .bool _), (8, .int _ _), (9, .bool _), (10, .op [.int _ _, .osl _ _ _ _]), (11, .int _ _), (12, .bool _)]) ⟨Weak.rfl, Weak.rfl, Weak.rfl, Weak.rfl, Weak.rfl, Weak.rfl, Weak.rfl, trivial⟩) ?_
    refine a_region ?_
    refine r_val (v := .int _ _) (v_move (.inl rfl) (noOwn_flat rfl)) rfl rfl (by decide) ?_
    refine r_val (v := .int _ _) (v_move (.inl rfl) (noOwn_flat rfl)) rfl rfl (by decide) ?_
    refine r_val (v := .bool _) (v_neq (.inl rfl) (.inl rfl)) rfl rfl (by decide) ?_
    refine r_val (v := .bool _) (v_move (.inl rfl) (noOwn_flat rfl)) rfl rfl (by decide) ?_
    refine r_gval (v := .bool _) (v_move (.inl rfl) (noOwn_flat rfl)) rfl rfl rfl (by decide) (.inl ⟨_, rfl, rfl⟩) rfl (by decide) ?_
    refine r_gval (v := .bool _) (v_move (.inl rfl) (noOwn_flat rfl)) rfl rfl rfl (by decide) (.inl ⟨_, rfl, rfl⟩) rfl (by decide) ?_
    refine r_gval (v := .bool _) (v_bne un4 (.inr ⟨_, rfl, fun h => h⟩) (.inr ⟨_, rfl, fun h => h⟩)) rfl rfl rfl (by decide) (.inl ⟨_, rfl, rfl⟩) rfl (by decide) ?_
    refine r_val (v := .bool _) (v_pick (.inl rfl) (.inl rfl) (.inr ⟨_, rfl, fun h h2 => by simp_all⟩)) rfl rfl (by decide) ?_
    refine r_nil ?_
    refine a_cond rfl (fun ht42 => ?_) (fun ht42 => ?_)
    ·
      skip
      refine a_seq ?_
      refine a_pre (ent_look (L := [(4, .op [.int _ _, .sl _ _]), (6, .bool _), (10, .op [.int _ _, .osl _ _ _ _])]) ⟨Weak.rfl, Weak.rfl, Weak.rfl, trivial⟩) ?_
      refine a_region ?_
      refine r_val (v := .bool _) (v_assign (.inl rfl) (noOwn_flat rfl)) rfl rfl (by decide) ?_
      refine r_nil ?_
      refine a_ret ?_
      refine ret1 Try.results6 (by decide) (by decide) (Weak.of_eq (bool_eq ?_)) rfl Leaves.nil
      first | rfl | (exfalso; simp at ht42; done) | (exfalso; simp at ht42; omega)
    ·
      skip
      refine a_skip ?_
      refine a_seq ?_
      refine a_seq ?_
      refine a_pre (ent_look (L := [(4, .op [.int _ _, .sl _ _]), (6, .bool _), (10, .op [.int _ _, .osl _ _ _ _])]) ⟨Weak.rfl, Weak.rfl, Weak.rfl, trivial⟩) ?_
      refine a_region_any mixed (by kernel_rfl) ?_
      refine y_val (v := .agg [.int _ _, .rsl _ _ _ _ _]) (v_load_rpa (xs := [.int _ _, .osl _ _ _ _]) ta31 (.inl rfl) rfl rfl (fun _ => take_get rfl)) rfl rfl (by decide) (by kernel_rfl) ?_
      refine y_val (v := .agg [.int _ _, .sl _ _]) (v_load_rpa1 ta24 (.inl rfl) rfl rfl (fun _ => rfl) rfl) rfl rfl (by decide) (by kernel_rfl) ?_
      refine y_new (v := .agg [.int _ _, .osl _ _ _ _]) (q_call (vs := [.agg [.int _ _, .sl _ _]]) (args := [.agg [.int .i64 _, .sl _ _]]) hb15 ⟨.inl rfl, trivial⟩ rfl (fun hA => toCnf_c _ _ (by omega) (by omega)) (by simp [noSh, noShL, osls_noSh]) (by simp [noRef, noRefL, osls_noRef])) rfl rfl (by decide) (by kernel_rfl) ?_
      refine y_new (v := .bool _) (q_call (vs := [.agg [.int _ _, .rsl _ _ _ _ _], .agg [.int _ _, .rsl _ _ _ _ _]]) (args := [.agg [.int .i64 _, .sl _ _], .agg [.int .i64 _, .sl _ _]]) hb19 ⟨.inl rfl, .inl rfl, trivial⟩ (l2_eq (agg_eq (l2_eq rfl sl_osls)) (agg_eq (l2_eq rfl sl_osls))) (fun hA => eqCnf_c _ _ _ _ (by omega) (by omega) (fun i => by first | (have := hrl i; omega) | (have := hll i; omega))) rfl rfl) rfl rfl (by decide) (by kernel_rfl) ?_
      refine y_val (v := .bool _) (v_not (.inl rfl)) rfl rfl (by decide) (by kernel_rfl) ?_
      refine y_nil ?_
      refine a_cond rfl (fun ht47 => ?_) (fun ht47 => ?_)
      ·
        skip
        refine a_seq ?_
        refine a_region ?_
        refine r_val (v := .bool _) (v_assign (.inl rfl) (noOwn_flat rfl)) rfl rfl (by decide) ?_
        refine r_nil ?_
        refine a_ret ?_
        refine ret1 Try.results6 (by decide) (by decide) (Weak.of_eq (bool_eq ?_)) rfl Leaves.nil
        first | rfl | (exfalso; simp at ht47; done) | (exfalso; simp at ht47; omega)
      ·
        skip
        refine a_skip ?_
        refine a_seq ?_
        refine a_region ?_
        refine r_val (v := .bool _) (v_assign (.inl rfl) (noOwn_flat rfl)) rfl rfl (by decide) ?_
        refine r_nil ?_
        refine a_ret ?_
        refine ret1 Try.results6 (by decide) (by decide) (Weak.of_eq (bool_eq ?_)) rfl Leaves.nil
        first | rfl | (exfalso; simp at ht47; done) | (exfalso; simp at ht47; omega)
end Go.Av
namespace Go.Av
open Go
theorem bd64 {n : Int} (h : (Lit.int .i64 n).wf = true) : -9223372036854775808 ≤ n ∧ n ≤ 9223372036854775807 := bounds_i64 h
theorem len64 {n : Nat} (h : n ≤ maxLen) : (n : Int) ≤ 9223372036854775807 := by unfold maxLen at h; omega
theorem icells_flat (xs : List Int) : xs.flatMap (fun n => [AV.int .i64 n]) = icells xs := by
  induction xs with
  | nil => rfl
  | cons x xs ih => rw [List.flatMap_cons, ih]; rfl
end Go.Av
namespace Go.Av
open Go
theorem sls_flat (L : List (List Int)) : L.flatMap (fun c => [AV.sl (icells c) c.length]) = sls L := by
  induction L with
  | nil => rfl
  | cons c L ih => rw [List.flatMap_cons, ih]; rfl
theorem cnf_hyp {L : List (List Int)} (h : L.length ≤ maxLen ∧ ∀ y ∈ L, (y.length ≤ maxLen ∧ ∀ z ∈ y, (Lit.int .i64 z).wf = true ∧ ([AV.int .i64 z]).length = 1) ∧ ([AV.sl (y.flatMap fun z => [AV.int .i64 z]) y.length]).length = 1) :
    (∀ i, ((gl L i).length : Int) ≤ 9223372036854775807) ∧ (L.length : Int) ≤ 9223372036854775807 ∧ ∀ i j, -9223372036854775808 ≤ gd (gl L i) j ∧ gd (gl L i) j ≤ 9223372036854775807 := by
  refine ⟨fun i => ?_, len64 h.1, fun i => ?_⟩
  · rcases Nat.lt_or_ge i L.length with hi | hi
    · exact len64 (h.2 _ (gl_mem hi)).1.1
    · rw [gl_out hi]; simp
  · rcases Nat.lt_or_ge i L.length with hi | hi
    · exact gd_bd fun x hx => bd64 ((h.2 _ (gl_mem hi)).1.2 x hx).1
    · intro j; rw [gl_out hi]; simp [gd]
end Go.Av
namespace Go.Av
open Go Go.Proofs Go.Proofs.Ytgkfoiddncineaa
set_option maxRecDepth 100000
theorem arg3 : OpensV Try.prog 3 (fun x : Int => AV.int .i64 x) (fun x => (Lit.int .i64 x).wf = true) :=
  opensV_one (ok_scalar (by rw [Try.underlying3])) (opens_int Try.underlying3) (fun _ => rfl)
theorem arg24 : OpensV Try.prog 24 (fun x : (Int) × (List (List (Int))) => .agg (([AV.int .i64 x.1] ++ [AV.sl (x.2.flatMap fun y2 => [AV.sl (y2.flatMap fun y1 => [AV.int .i64 y1]) y2.length]) x.2.length]))) (fun x => (((Lit.int .i64 x.1).wf = true) ∧ ((x.2.length ≤ maxLen ∧ ∀ y2 ∈ x.2, (y2.length ≤ maxLen ∧ ∀ y1 ∈ y2, (Lit.int .i64 y1).wf = true ∧ ([AV.int .i64 y1]).length = 1) ∧ ([AV.sl (y2.flatMap fun y1 => [AV.int .i64 y1]) y2.length]).length = 1)))) :=
  opensV_agg (ok_agg (by rw [Try.underlying24])) (opens_struct Try.underlying24 (tot := (1 + 1)) (by kernel_rfl) (opensFs_cons rfl (by kernel_rfl) (opens_int Try.underlying3) (opensFs_one rfl (by kernel_rfl) (opens_slice (k := 1) Try.underlying22 (by kernel_rfl) (by decide) (opens_slice (k := 1) Try.underlying25 (by kernel_rfl) (by decide) (opens_int Try.underlying3) (fun _ => rfl)) (fun _ => rfl)))))
theorem rowOwn : ownKnob Try.prog.godebug = none := by kernel_rfl
theorem rowLaid : laidOutB Try.prog = true := by kernel_rfl
end Go.Av
