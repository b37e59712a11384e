/- Lemmas, part 6. -/
import Derived.Test.YtjnfagmhjjedoaaF5
import Derived.Test.YtjnfagmhjjedoaaRows
set_option linter.unusedVariables false
set_option linter.unusedSimpArgs false
namespace Go.Av
open Go Go.Proofs Go.Sort
set_option maxRecDepth 10000
theorem ap39 : appTy Try.prog 39 = some (2, 16) := by kernel_rfl
theorem arp75 : arrPl Try.prog 75 = some ([.int .i64 0, .int .i64 0], 1) := by kernel_rfl
theorem hb105 : hasBody Try.prog 105 = true := by kernel_rfl
theorem hb106 : hasBody Try.prog 106 = true := by kernel_rfl
theorem hb107 : hasBody Try.prog 107 = true := by kernel_rfl
theorem hb108 : hasBody Try.prog 108 = true := by kernel_rfl
theorem hb109 : hasBody Try.prog 109 = true := by kernel_rfl
theorem hb127 : hasBody Try.prog 127 = true := by kernel_rfl
theorem lt39 : litTy Try.prog 39 = some (2, [.int .i64 0, .int .i64 0]) := by kernel_rfl

theorem idxL_c (f : Nat) (caps : List AV) (hb : hasBody Try.prog f = true) (hcap : capOk caps = true) (xs : List (List Int)) (p : Nat → Bool) (hl : (xs.length : Int) ≤ 9223372036854775807) (hc : ∀ i, i < xs.length → ACall Try.prog f (.sl (icells (gl xs i)) (gl xs i).length :: caps) [] (.bool (p i)) []) : ACall Try.prog 106 [.sl (sls xs) xs.length, .fn f [] caps] [] (.int .i64 (fidx p xs.length)) [] := by
  refine ACall.intro Try.func106 rfl (N := 19) rfl (by decide) (by simp) ?_
  refine a_seq ?_
  refine a_region ?_
  refine r_val (v := .int _ _) (v_assign (.inl rfl) (noOwn_flat rfl)) rfl rfl (by decide) ?_
  refine r_nil ?_
  refine a_seq ?_
  refine a_seq ?_
  refine a_region ?_
  refine r_val (v := .sl _ _) (v_move (.inl rfl) (noOwn_flat rfl)) rfl rfl (by decide) ?_
  refine r_val (v := .int _ _) (v_len_sl sl22 (.inl rfl)) rfl rfl (by decide) ?_
  refine r_val (v := .int _ _) (v_move (.inl rfl) (noOwn_flat rfl)) rfl rfl (by decide) ?_
  refine r_nil ?_
  refine a_block ?_
  refine a_loop (X := Nat) (fun i => look [(0, .sl (sls xs) xs.length), (1, .fn f [] caps), (7, .int .i64 (xs.length : Int)), (8, .int .i64 (i : Int))]) (fun i => i ≤ xs.length ∧ ∀ j, j < i → p j = false) (fun i => xs.length - i) 0 (ent_look ⟨Weak.of_eq rfl, Weak.of_eq rfl, Weak.of_eq rfl, Weak.of_eq rfl, trivial⟩) ⟨Nat.zero_le _, fun j h => by omega⟩ (fun i hG => ?_)
  obtain ⟨h1, h2⟩ := hG
  refine a_seq ?_
  refine a_region ?_
  refine r_val (v := .bool _) (v_lss (.inl rfl) (.inl rfl)) rfl rfl (by decide) ?_
  refine r_nil ?_
  refine a_seq ?_
  refine a_cond rfl (fun ht9 => ?_) (fun ht9 => ?_)
  ·
    skip
    refine a_skip ?_
    refine a_seq ?_
    refine a_block ?_
    refine a_seq ?_
    refine a_region ?_
    have hi : i < xs.length := (by simp at ht9; omega)
    refine r_val (v := .int _ _) (v_move (.inl rfl) (noOwn_flat rfl)) rfl rfl (by decide) ?_
    refine r_val (v := .int _ _) (v_assign (.inl rfl) (noOwn_flat rfl)) rfl rfl (by decide) ?_
    refine r_nil ?_
    refine a_seq ?_
    refine a_region ?_
    refine r_val (v := .fn _ _ _) (v_mv rfl) rfl rfl (by decide) ?_
    refine r_val (v := .sl _ _) (v_move (.inl rfl) (noOwn_flat rfl)) rfl rfl (by decide) ?_
    refine r_val (v := .int _ _) (v_move (.inl rfl) (noOwn_flat rfl)) rfl rfl (by decide) ?_
    refine r_val (v := .pp _ _) (v_indexAddr_sl es22 (.inl rfl) (.inl rfl) (fun _ => ⟨by omega, by omega, sls_ne hi⟩)) rfl rfl (by decide) ?_
    refine r_val (v := .sl (icells (gl xs i)) (gl xs i).length) (v_load_pp ta25 (.inl rfl) (fun _ => by rw [Nat.mul_one]; exact sls_get hi) rfl) rfl rfl (by decide) ?_
    refine r_new (v := .bool _) (q_clo (vs := [.sl _ _]) (args := (.sl _ _ :: caps)) hb (.inl rfl) ⟨.inl rfl, trivial⟩ (snap_clo1 hcap rfl) (fun hA => hc i hi) rfl rfl) rfl rfl (by decide) ?_
    refine r_nil ?_
    refine a_cond rfl (fun ht16 => ?_) (fun ht16 => ?_)
    ·
      skip
      refine a_seq ?_
      refine a_region ?_
      refine r_val (v := .int _ _) (v_move (.inl rfl) (noOwn_flat rfl)) rfl rfl (by decide) ?_
      refine r_val (v := .int _ _) (v_assign (.inl rfl) (noOwn_flat rfl)) rfl rfl (by decide) ?_
      refine r_nil ?_
      refine a_ret ?_
      refine ret1 Try.results106 (by decide) (by decide) (Weak.of_eq (int_eq ?_)) rfl Leaves.nil
      exact (fidx_found hi ht16 h2).symm
    ·
      skip
      refine a_skip ?_
      refine a_region ?_
      refine r_val (v := .int _ _) (v_add (.inl rfl) (.inl rfl) (fun _ => by omega)) rfl rfl (by decide) ?_
      refine r_val (v := .int _ _) (v_move (.inl rfl) (noOwn_flat rfl)) rfl rfl (by decide) ?_
      refine r_nil ?_
      refine ⟨i + 1, ent_look ⟨Weak.of_eq rfl, (Weak.of_eq (purge_fn hcap)), Weak.of_eq rfl, Weak.of_eq (int_eq (by omega)), trivial⟩, ⟨by omega, ok_stepF h2 ht16⟩, by omega⟩
  ·
    skip
    refine a_exit ?_
    refine a_seq ?_
    refine a_region ?_
    refine r_val (v := .int _ _) (v_assign (.inl rfl) (noOwn_flat rfl)) rfl rfl (by decide) ?_
    refine r_nil ?_
    refine a_ret ?_
    refine ret1 Try.results106 (by decide) (by decide) (Weak.of_eq (int_eq ?_)) rfl Leaves.nil
    simp at ht9; exact (fidx_none (fun j hj => h2 j (by omega))).symm

theorem contL_c (f : Nat) (caps : List AV) (hb : hasBody Try.prog f = true) (hcap : capOk caps = true) (xs : List (List Int)) (p : Nat → Bool) (hl : (xs.length : Int) ≤ 9223372036854775807) (hc : ∀ i, i < xs.length → ACall Try.prog f (.sl (icells (gl xs i)) (gl xs i).length :: caps) [] (.bool (p i)) []) : ACall Try.prog 110 [.sl (sls xs) xs.length, .fn f [] caps] [] (.bool ((List.range xs.length).any p)) [] := by
  refine ACall.intro Try.func110 rfl (N := 9) rfl (by decide) (by simp) ?_
  refine a_seq ?_
  refine a_region ?_
  refine r_val (v := .bool _) (v_assign (.inl rfl) (noOwn_flat rfl)) rfl rfl (by decide) ?_
  refine r_nil ?_
  refine a_seq ?_
  refine a_region ?_
  refine r_val (v := .sl _ _) (v_move (.inl rfl) (noOwn_flat rfl)) rfl rfl (by decide) ?_
  refine r_val (v := .fn _ _ _) (v_mv rfl) rfl rfl (by decide) ?_
  refine r_new (v := .int _ _) (q_call (vs := [.sl _ _, .fn _ _ _]) (args := [.sl _ _, .fn _ _ _]) hb106 ⟨.inl rfl, .inl rfl, trivial⟩ (l2_eq rfl (snap_fn hcap)) (fun hA => idxL_c f caps hb hcap xs p hl hc) rfl rfl) rfl rfl (by decide) ?_
  refine r_val (v := .bool _) (v_geq (.inl rfl) (.inl rfl)) rfl rfl (by decide) ?_
  refine r_val (v := .bool _) (v_assign (.inl rfl) (noOwn_flat rfl)) rfl rfl (by decide) ?_
  refine r_nil ?_
  refine a_ret ?_
  refine ret1 Try.results110 (by decide) (by decide) (Weak.of_eq (bool_eq ?_)) rfl Leaves.nil
  exact fidx_any

theorem iFal_c (vars : Int) (L : List (List Int)) (a : List Int) (hcl : ∀ i, i < L.length → clB vars (gl L i) = true) (hL : L.length ≤ 1048576) (ha : a.length ≤ 1048576) : ACall Try.prog 105 [.sl (sls L) L.length, .sl (icells a) a.length] [] (.osl 1 (icells (falP L a L.length)) (falP L a L.length).length none) [] := by
  refine ACall.intro Try.func105 rfl (N := 25) rfl (by decide) (by simp) ?_
  refine a_seq ?_
  refine a_region ?_
  refine r_val (v := .nils) (v_assign (.inl rfl) (noOwn_flat rfl)) rfl rfl (by decide) ?_
  refine r_nil ?_
  refine a_seq ?_
  refine a_region ?_
  refine r_val (v := .nils) (v_assign (.inl rfl) (noOwn_flat rfl)) rfl rfl (by decide) ?_
  refine r_nil ?_
  refine a_seq ?_
  refine a_seq ?_
  refine a_region ?_
  refine r_val (v := .sl _ _) (v_move (.inl rfl) (noOwn_flat rfl)) rfl rfl (by decide) ?_
  refine r_val (v := .int _ _) (v_len_sl sl22 (.inl rfl)) rfl rfl (by decide) ?_
  refine r_val (v := .int _ _) (v_move (.inl rfl) (noOwn_flat rfl)) rfl rfl (by decide) ?_
  refine r_nil ?_
  refine a_block ?_
  refine a_pre (ent_nil (t := 5) (sz := 1) (cap := none) (.inl rfl) (fun _ h => by cases h)) ?_
  refine a_loop (X := Nat) (fun i => look [(1, .sl (icells a) a.length), (5, .osl 1 (icells (falP L a i)) (falP L a i).length none), (8, .sl (sls L) L.length), (9, .int .i64 (L.length : Int)), (10, .int .i64 ((i : Nat) : Int))]) (fun i => i ≤ L.length) (fun i => L.length - i) 0 (ent_look ⟨Weak.of_eq rfl, Weak.osl rfl rfl, Weak.of_eq rfl, Weak.of_eq rfl, Weak.of_eq rfl, trivial⟩) (Nat.zero_le _) (fun i hG => ?_)
  have hfl := falP_len L a i
  refine a_seq ?_
  refine a_region ?_
  refine r_val (v := .bool _) (v_lss (.inl rfl) (.inl rfl)) rfl rfl (by decide) ?_
  refine r_nil ?_
  refine a_seq ?_
  refine a_cond rfl (fun ht11 => ?_) (fun ht11 => ?_)
  ·
    skip
    refine a_skip ?_
    refine a_seq ?_
    refine a_block ?_
    refine a_seq ?_
    have hi : i < L.length := (by simp at ht11; omega)
    have hci := hcl i hi
    have hln := clB_len hci
    refine a_region ?_
    refine r_val (v := .int _ _) (v_move (.inl rfl) (noOwn_flat rfl)) rfl rfl (by decide) ?_
    refine r_val (v := .pp _ _) (v_indexAddr_sl es22 (.inl rfl) (.inl rfl) (fun _ => ⟨by omega, by omega, sls_ne hi⟩)) rfl rfl (by decide) ?_
    refine r_val (v := .sl (icells (gl L i)) (gl L i).length) (v_load_pp ta25 (.inl rfl) (fun _ => by rw [Nat.mul_one]; exact sls_get hi) rfl) rfl rfl (by decide) ?_
    refine r_val (v := .int _ _) (v_assign (.inl rfl) (noOwn_flat rfl)) rfl rfl (by decide) ?_
    refine r_val (v := .sl _ _) (v_assign (.inl rfl) (noOwn_flat rfl)) rfl rfl (by decide) ?_
    refine r_nil ?_
    refine a_seq ?_
    refine a_region ?_
    refine r_val (v := .sl _ _) (v_move (.inl rfl) (noOwn_flat rfl)) rfl rfl (by decide) ?_
    refine r_val (v := .sl _ _) (v_move (.inl rfl) (noOwn_flat rfl)) rfl rfl (by decide) ?_
    refine r_new (v := .int _ _) (q_call (vs := [.sl _ _, .sl _ _]) (args := [.sl _ _, .sl _ _]) hb126 ⟨.inl rfl, .inl rfl, trivial⟩ rfl (fun hA => iClv_c (gl L i) a (clB_sm hci) (by omega) ha) rfl rfl) rfl rfl (by decide) ?_
    refine r_val (v := .bool _) (v_lss (.inl rfl) (.inl rfl)) rfl rfl (by decide) ?_
    refine r_nil ?_
    refine a_cond rfl (fun ht18 => ?_) (fun ht18 => ?_)
    ·
      skip
      refine a_region ?_
      refine r_val (v := .rsl _ _ _ _ _) (v_move (.inl rfl) (noOwn_flat rfl)) rfl rfl (by decide) ?_
      refine r_val (v := .int _ _) (v_move (.inl rfl) (noOwn_flat rfl)) rfl rfl (by decide) ?_
      refine r_new (v := .osl 1 (icells [(i : Int)]) 1 (some 1)) (q_sliceLit (n := 1) (parts := [(0, .tmp 20)]) lt25 rfl rfl rfl rfl) rfl rfl (by decide) ?_
      refine r_pre (ent_reloc_sl (t := 19) rfl rfl) ?_
      refine r_step rfl (o_append rfl ap25 rfl (by decide) (by decide) rfl (src_lit (.inl rfl) rfl rfl (ic_pureL _)) (ic_cell _) (by rw [icells_length]; omega) (by omega)) ?_
      refine r_val (v := .rsl _ _ _ _ _) (v_assign (.inl rfl) (noOwn_flat rfl)) rfl rfl (by decide) ?_
      refine r_pre (ent_reloc_sl (t := 5) rfl rfl) ?_
      refine r_nil ?_
      refine a_region ?_
      refine r_val (v := .int _ _) (v_add (.inl rfl) (.inl rfl) (fun _ => by omega)) rfl rfl (by decide) ?_
      refine r_val (v := .int _ _) (v_move (.inl rfl) (noOwn_flat rfl)) rfl rfl (by decide) ?_
      refine r_nil ?_
      refine ⟨i + 1, ent_look ⟨Weak.of_eq rfl, Weak.osl (by rw [falP_succ, if_pos (by simpa using ht18), icells_append] <;> rfl) (by rw [falP_succ, if_pos (by simpa using ht18)]; simp), Weak.of_eq rfl, Weak.of_eq rfl, Weak.of_eq (int_eq (by omega)), trivial⟩, by omega, by omega⟩
    ·
      skip
      refine a_skip ?_
      refine a_region ?_
      refine r_val (v := .int _ _) (v_add (.inl rfl) (.inl rfl) (fun _ => by omega)) rfl rfl (by decide) ?_
      refine r_val (v := .int _ _) (v_move (.inl rfl) (noOwn_flat rfl)) rfl rfl (by decide) ?_
      refine r_nil ?_
      refine ⟨i + 1, ent_look ⟨Weak.of_eq rfl, Weak.osl (by rw [falP_succ, if_neg (by simpa using ht18)]) (by rw [falP_succ, if_neg (by simpa using ht18)]), Weak.of_eq rfl, Weak.of_eq rfl, Weak.of_eq (int_eq (by omega)), trivial⟩, by omega, by omega⟩
  ·
    skip
    refine a_exit ?_
    refine a_seq ?_
    refine a_region ?_
    refine r_val (v := .rsl _ _ _ _ _) (v_move (.inl rfl) (noOwn_flat rfl)) rfl rfl (by decide) ?_
    refine r_val (v := .rsl _ _ _ _ _) (v_assign (.inl rfl) (noOwn_flat rfl)) rfl rfl (by decide) ?_
    refine r_pre (ent_reloc_sl (t := 4) rfl rfl) ?_
    refine r_nil ?_
    refine a_ret ?_
    refine ret1 Try.results105 (by decide) (by decide) (Weak.osl ?_ ?_) rfl Leaves.nil
    · simp at ht11; rw [show i = L.length by omega]
    · simp at ht11; rw [show i = L.length by omega]

theorem cnfV_c (vars : Int) (L : List (List Int)) (a : List Int) (hcl : ∀ i, i < L.length → clB vars (gl L i) = true) (hL : L.length ≤ 1048576) (ha : a.length ≤ 1048576) : ACall Try.prog 102 [.agg [.int .i64 vars, .sl (sls L) L.length], .sl (icells a) a.length] [] (.int .i64 (cnfV L a L.length)) [] := by
  refine ACall.intro Try.func102 rfl (N := 24) rfl (by decide) (by simp) ?_
  refine a_seq ?_
  refine a_region ?_
  refine r_new (v := .op [.int _ _, .sl _ _]) (q_box (.inl rfl) rfl rfl) rfl rfl (by decide) ?_
  refine r_val (v := .int _ _) (v_assign (.inl rfl) (noOwn_flat rfl)) rfl rfl (by decide) ?_
  refine r_nil ?_
  refine a_seq ?_
  refine a_region ?_
  refine r_val (v := .int _ _) (v_assign (.inl rfl) (noOwn_flat rfl)) rfl rfl (by decide) ?_
  refine r_nil ?_
  refine a_seq ?_
  refine a_seq ?_
  refine a_region ?_
  refine r_val (v := .int _ _) (v_assign (.inl rfl) (noOwn_flat rfl)) rfl rfl (by decide) ?_
  refine r_nil ?_
  refine a_block ?_
  refine a_loop (X := Nat) (fun i => look [(1, .sl (icells a) a.length), (2, .op [.int .i64 vars, .sl (sls L) L.length]), (5, .int .i64 (cnfV L a i)), (6, .int .i64 ((i : Nat) : Int))]) (fun i => i ≤ L.length) (fun i => L.length - i) 0 (ent_look ⟨Weak.of_eq rfl, Weak.of_eq rfl, Weak.of_eq rfl, Weak.of_eq rfl, trivial⟩) (Nat.zero_le _) (fun i hG => ?_)
  refine a_seq ?_
  refine a_seq ?_
  refine a_region ?_
  refine r_val (v := .int _ _) (v_move (.inl rfl) (noOwn_flat rfl)) rfl rfl (by decide) ?_
  refine r_val (v := .rp _ _) (v_fieldAddr_rp fo29_1 (.inl rfl)) rfl rfl (by decide) ?_
  refine r_val (v := .sl _ _) (v_load_rp1 ta22 (.inl rfl) rfl (fun _ => rfl) rfl) rfl rfl (by decide) ?_
  refine r_val (v := .int _ _) (v_len_sl sl22 (.inl rfl)) rfl rfl (by decide) ?_
  refine r_val (v := .bool _) (v_lss (.inl rfl) (.inl rfl)) rfl rfl (by decide) ?_
  refine r_nil ?_
  refine a_cond rfl (fun ht11 => ?_) (fun ht11 => ?_)
  ·
    skip
    refine a_skip ?_
    refine a_seq ?_
    refine a_block ?_
    have hi : i < L.length := (by simp at ht11; omega)
    have hci := hcl i hi
    have hln := clB_len hci
    refine a_region ?_
    refine r_val (v := .int _ _) (v_move (.inl rfl) (noOwn_flat rfl)) rfl rfl (by decide) ?_
    refine r_val (v := .rp _ _) (v_fieldAddr_rp fo29_1 (.inl rfl)) rfl rfl (by decide) ?_
    refine r_val (v := .sl _ _) (v_load_rp1 ta22 (.inl rfl) rfl (fun _ => rfl) rfl) rfl rfl (by decide) ?_
    refine r_val (v := .int _ _) (v_move (.inl rfl) (noOwn_flat rfl)) rfl rfl (by decide) ?_
    refine r_val (v := .pp _ _) (v_indexAddr_sl es22 (.inl rfl) (.inl rfl) (fun _ => ⟨by omega, by omega, sls_ne hi⟩)) rfl rfl (by decide) ?_
    refine r_val (v := .sl (icells (gl L i)) (gl L i).length) (v_load_pp ta25 (.inl rfl) (fun _ => by rw [Nat.mul_one]; exact sls_get hi) rfl) rfl rfl (by decide) ?_
    refine r_val (v := .sl _ _) (v_move (.inl rfl) (noOwn_flat rfl)) rfl rfl (by decide) ?_
    refine r_new (v := .int _ _) (q_call (vs := [.sl _ _, .sl _ _]) (args := [.sl _ _, .sl _ _]) hb122 ⟨.inl rfl, .inl rfl, trivial⟩ rfl (fun hA => sClv_c (gl L i) a (clB_sm hci) (by omega) ha) rfl rfl) rfl rfl (by decide) ?_
    refine r_new (v := .int .i64 (cnfV L a (i + 1))) (q_call (vs := [.int _ _, .int _ _]) (args := [.int .i64 _, .int .i64 _]) hb127 ⟨.inl rfl, .inl rfl, trivial⟩ rfl (fun hA => l1Least_c _ _) rfl rfl) rfl rfl (by decide) ?_
    refine r_val (v := .int _ _) (v_assign (.inl rfl) (noOwn_flat rfl)) rfl rfl (by decide) ?_
    refine r_nil ?_
    refine a_region ?_
    refine r_val (v := .int _ _) (v_move (.inl rfl) (noOwn_flat rfl)) rfl rfl (by decide) ?_
    refine r_val (v := .int _ _) (v_add (.inl rfl) (.inl rfl) (fun _ => by omega)) rfl rfl (by decide) ?_
    refine r_val (v := .int _ _) (v_assign (.inl rfl) (noOwn_flat rfl)) rfl rfl (by decide) ?_
    refine r_nil ?_
    refine ⟨i + 1, ent_look ⟨Weak.of_eq rfl, Weak.of_eq rfl, Weak.of_eq rfl, Weak.of_eq (int_eq (by omega)), trivial⟩, by omega, by omega⟩
  ·
    skip
    refine a_exit ?_
    refine a_seq ?_
    refine a_region ?_
    refine r_val (v := .int _ _) (v_move (.inl rfl) (noOwn_flat rfl)) rfl rfl (by decide) ?_
    refine r_val (v := .int _ _) (v_assign (.inl rfl) (noOwn_flat rfl)) rfl rfl (by decide) ?_
    refine r_nil ?_
    refine a_ret ?_
    refine ret1 Try.results102 (by decide) (by decide) (Weak.of_eq (int_eq ?_)) rfl Leaves.nil
    simp at ht11; rw [show i = L.length by omega]

theorem prop1_c (c a : List Int) (hs : SmI c) (hc : c.length ≤ 1048576) (ha : a.length ≤ 1048576) : ACall Try.prog 107 [.sl (icells c) c.length, .pp [.sl (icells a) a.length] 0] [] (.bool (decide (unitL c a ≠ 0))) [] := by
  refine ACall.intro Try.func107 rfl (N := 8) rfl (by decide) (by simp) ?_
  refine a_seq ?_
  refine a_region ?_
  refine r_val (v := .bool _) (v_assign (.inl rfl) (noOwn_flat rfl)) rfl rfl (by decide) ?_
  refine r_nil ?_
  refine a_seq ?_
  refine a_region ?_
  refine r_val (v := .sl _ _) (v_move (.inl rfl) (noOwn_flat rfl)) rfl rfl (by decide) ?_
  refine r_val (v := .sl _ _) (v_load_pp ta25 (.inl rfl) (fun _ => rfl) rfl) rfl rfl (by decide) ?_
  refine r_new (v := .int _ _) (q_call (vs := [.sl _ _, .sl _ _]) (args := [.sl _ _, .sl _ _]) hb108 ⟨.inl rfl, .inl rfl, trivial⟩ rfl (fun hA => iUnit_c c a hs hc ha) rfl rfl) rfl rfl (by decide) ?_
  refine r_val (v := .bool _) (v_neq (.inl rfl) (.inl rfl)) rfl rfl (by decide) ?_
  refine r_val (v := .bool _) (v_assign (.inl rfl) (noOwn_flat rfl)) rfl rfl (by decide) ?_
  refine r_nil ?_
  refine a_ret ?_
  refine ret1 Try.results107 (by decide) (by decide) (Weak.of_eq (bool_eq ?_)) rfl Leaves.nil
  rfl

theorem iProp_c (vars : Int) (L : List (List Int)) (a : List Int) (hcl : ∀ i, i < L.length → clB vars (gl L i) = true) (hL : L.length ≤ 1048576) (ha : a.length ≤ 1048576) (hca : clB vars a = true) : ACall Try.prog 64 [.sl (sls L) L.length, .sl (icells a) a.length] [] (.tup [.osl 1 (icells (propR L a).1) (propR L a).1.length none, .osl 2 (tcells (propR L a).2.1) (propR L a).2.1.length none, .bool (propR L a).2.2]) [] := by
  have hbP := hb107
  have hla0 := clB_len hca
  refine ACall.intro Try.func64 rfl (N := 41) rfl (by decide) (by simp) ?_
  refine a_seq ?_
  refine a_region ?_
  refine r_new (v := .op [.sl _ _]) (q_box (.inl rfl) rfl rfl) rfl rfl (by decide) ?_
  refine r_val (v := .nils) (v_assign (.inl rfl) (noOwn_flat rfl)) rfl rfl (by decide) ?_
  refine r_val (v := .nils) (v_assign (.inl rfl) (noOwn_flat rfl)) rfl rfl (by decide) ?_
  refine r_val (v := .bool _) (v_assign (.inl rfl) (noOwn_flat rfl)) rfl rfl (by decide) ?_
  refine r_nil ?_
  refine a_seq ?_
  refine a_region ?_
  refine r_val (v := .sl _ _) (v_load_rp1 ta25 (.inl rfl) rfl (fun _ => rfl) rfl) rfl rfl (by decide) ?_
  refine r_new (v := .osl _ _ _ _) (q_call (vs := [.sl _ _]) (args := [.sl _ _]) hb80 ⟨.inl rfl, trivial⟩ rfl (fun hA => cloneI_c _ _ ⟨rfl, by omega⟩) (ic_noSh _) (ic_noRef _)) rfl rfl (by decide) ?_
  refine r_step rfl (o_store_own (v := .osl _ _ _ _) (y' := .op [.osl _ _ _ _]) rfl rfl ta25 (.inl rfl) (by decide) rfl (by decide) rfl (by simp [cellsOf, noRefL, noRef, ic_noRef]) rfl rfl rfl rfl rfl (Nat.le_of_ble_eq_true rfl) rfl rfl) ?_
  refine r_nil ?_
  refine a_seq ?_
  refine a_region ?_
  refine r_val (v := .nils) (v_assign (.inl rfl) (noOwn_flat rfl)) rfl rfl (by decide) ?_
  refine r_nil ?_
  refine a_block ?_
  refine a_pre (ent_nil (t := 7) (sz := 2) (cap := none) (.inl rfl) (fun _ h => by cases h)) ?_
  refine a_loop (X := (List Int × List (Int × Int))) (fun x => look [(0, .sl (sls L) L.length), (3, .op [.osl 1 (icells x.1) x.1.length none]), (7, .osl 2 (tcells x.2) x.2.length none)]) (fun x => clB vars x.1 = true ∧ prop L (13 - x.1.length) x.1 x.2 = propR L a ∧ x.2.length ≤ x.1.length) (fun x => 13 - x.1.length) (a, []) (ent_look ⟨Weak.of_eq rfl, Weak.of_eq rfl, Weak.osl rfl rfl, trivial⟩) ⟨hca, rfl, Nat.zero_le _⟩ (fun x hG => ?_)
  obtain ⟨g1, g2, g3⟩ := hG
  have hla := clB_len g1
  refine a_block ?_
  refine a_seq ?_
  refine a_seq ?_
  refine a_region ?_
  refine r_val (v := .sl _ _) (v_move (.inl rfl) (noOwn_flat rfl)) rfl rfl (by decide) ?_
  refine r_val (v := .rsl _ _ _ _ _) (v_load_rp (c := .osl _ _ _ _) ta25 (.inl rfl) rfl (fun _ => rfl)) rfl rfl (by decide) ?_
  refine r_new (v := .osl _ _ _ _) (q_call (vs := [.sl _ _, .rsl _ _ _ _ _]) (args := [.sl _ _, .sl _ _]) hb105 ⟨.inl rfl, .inl rfl, trivial⟩ (l2_eq rfl (sl_sh (ic_pure _))) (fun hA => iFal_c vars L x.1 hcl hL (by omega)) (ic_noSh _) (ic_noRef _)) rfl rfl (by decide) ?_
  refine r_val (v := .int _ _) (v_len_rsl sl25 (.inl rfl)) rfl rfl (by decide) ?_
  refine r_val (v := .bool _) (v_gtr (.inl rfl) (.inl rfl)) rfl rfl (by decide) ?_
  refine r_nil ?_
  refine a_cond rfl (fun ht16 => ?_) (fun ht16 => ?_)
  ·
    skip
    refine a_seq ?_
    have hcf : conf L x.1 = true := (by rw [conf_fal]; simpa using ht16)
    have hres : propR L a = (x.1, x.2, true) := (by rw [← g2, prop_conf g1 hcf])
    refine a_region ?_
    refine r_val (v := .rsl _ _ _ _ _) (v_load_rp (c := .osl _ _ _ _) ta25 (.inl rfl) rfl (fun _ => rfl)) rfl rfl (by decide) ?_
    refine r_val (v := .rsl _ _ _ _ _) (v_move (.inl rfl) (noOwn_flat rfl)) rfl rfl (by decide) ?_
    refine r_val (v := .rsl _ _ _ _ _) (v_assign (.inl rfl) (noOwn_flat rfl)) rfl rfl (by decide) ?_
    refine r_pre (ent_reloc_sl (t := 4) rfl rfl) ?_
    refine r_val (v := .rsl _ _ _ _ _) (v_assign (.inl rfl) (noOwn_flat rfl)) rfl rfl (by decide) ?_
    refine r_pre (ent_reloc_sl (t := 5) rfl rfl) ?_
    refine r_val (v := .bool _) (v_assign (.inl rfl) (noOwn_flat rfl)) rfl rfl (by decide) ?_
    refine r_nil ?_
    refine a_ret ?_
    refine retL (rs := [.tmp 4, .tmp 5, .tmp 6]) [(4, .osl _ _ _ none), (5, .osl _ _ _ none), (6, _)] ⟨Weak.osl rfl rfl, Weak.osl rfl rfl, Weak.rfl, trivial⟩ rfl Try.results64 (by decide) ⟨by decide, by decide, by decide, rfl⟩ (by decide) (by decide) (l3_eq (osl_eq2 ?_ ?_) (osl_eq2 ?_ ?_) (bool_eq ?_)) (by simp [refsL, refs])
    all_goals (rw [hres])
  ·
    skip
    refine a_skip ?_
    refine a_seq ?_
    have hcf : conf L x.1 = false := (by rw [conf_fal]; simpa using ht16)
    refine a_region ?_
    refine r_val (v := .sl _ _) (v_move (.inl rfl) (noOwn_flat rfl)) rfl rfl (by decide) ?_
    refine r_val (v := .fn _ _ _) (v_makeFunc (first := []) (caps := [.tmp 3]) rfl rfl) rfl rfl (by decide) ?_
    refine r_new (v := .int .i64 (uix L x.1)) (q_call (vs := [.sl _ _, .fn _ _ _]) (args := [.sl _ _, .fn _ _ _]) hb106 ⟨.inl rfl, .inl rfl, trivial⟩ (l2_eq rfl (fn_pp (ic_pure _))) (fun hA => idxL_c 107 [.pp [.sl (icells x.1) x.1.length] 0] hbP rfl L (fun i => decide (unitL (gl L i) x.1 ≠ 0)) (by omega) (fun i hi => prop1_c (gl L i) x.1 (clB_sm (hcl i hi)) (by have := clB_len (hcl i hi); omega) (by omega))) rfl rfl) rfl rfl (by decide) ?_
    refine r_val (v := .int _ _) (v_assign (.inl rfl) (noOwn_flat rfl)) rfl rfl (by decide) ?_
    refine r_nil ?_
    refine a_seq ?_
    refine a_seq ?_
    refine a_region ?_
    refine r_val (v := .int _ _) (v_move (.inl rfl) (noOwn_flat rfl)) rfl rfl (by decide) ?_
    refine r_val (v := .bool _) (v_lss (.inl rfl) (.inl rfl)) rfl rfl (by decide) ?_
    refine r_nil ?_
    refine a_cond rfl (fun ht23 => ?_) (fun ht23 => ?_)
    ·
      skip
      refine a_seq ?_
      have huu : uix L x.1 = -1 := (by have h1 := uix_bd L x.1; simp at ht23; omega)
      have hres : propR L a = (x.1, x.2, false) := (by rw [← g2, prop_none g1 hcf huu])
      refine a_region ?_
      refine r_val (v := .rsl _ _ _ _ _) (v_load_rp (c := .osl _ _ _ _) ta25 (.inl rfl) rfl (fun _ => rfl)) rfl rfl (by decide) ?_
      refine r_val (v := .rsl _ _ _ _ _) (v_move (.inl rfl) (noOwn_flat rfl)) rfl rfl (by decide) ?_
      refine r_val (v := .rsl _ _ _ _ _) (v_assign (.inl rfl) (noOwn_flat rfl)) rfl rfl (by decide) ?_
      refine r_pre (ent_reloc_sl (t := 4) rfl rfl) ?_
      refine r_val (v := .rsl _ _ _ _ _) (v_assign (.inl rfl) (noOwn_flat rfl)) rfl rfl (by decide) ?_
      refine r_pre (ent_reloc_sl (t := 5) rfl rfl) ?_
      refine r_val (v := .bool _) (v_assign (.inl rfl) (noOwn_flat rfl)) rfl rfl (by decide) ?_
      refine r_nil ?_
      refine a_ret ?_
      refine retL (rs := [.tmp 4, .tmp 5, .tmp 6]) [(4, .osl _ _ _ none), (5, .osl _ _ _ none), (6, _)] ⟨Weak.osl rfl rfl, Weak.osl rfl rfl, Weak.rfl, trivial⟩ rfl Try.results64 (by decide) ⟨by decide, by decide, by decide, rfl⟩ (by decide) (by decide) (l3_eq (osl_eq2 ?_ ?_) (osl_eq2 ?_ ?_) (bool_eq ?_)) (by simp [refsL, refs])
      all_goals (rw [hres])
    ·
      skip
      refine a_skip ?_
      refine a_seq ?_
      have hne : ¬ uix L x.1 = -1 := (by simp at ht23; omega)
      have hu := (uix_bd L x.1).resolve_left hne
      have hcu := hcl _ hu.2.1
      have hsu := clB_sm hcu
      have hlu := clB_len hcu
      have hub := unit_bd (a := x.1) hsu
      have hst := prop_step hcl g1 hne
      have hgo := prop_go (st := x.2) hcl g1 hcf hne
      refine a_region_any mixed (by kernel_rfl) ?_
      refine y_val (v := .sl _ _) (v_move (.inl rfl) (noOwn_flat rfl)) rfl rfl (by decide) (by kernel_rfl) ?_
      refine y_val (v := .int _ _) (v_move (.inl rfl) (noOwn_flat rfl)) rfl rfl (by decide) (by kernel_rfl) ?_
      refine y_val (v := .pp _ _) (v_indexAddr_sl es22 (.inl rfl) (.inl rfl) (fun _ => ⟨by omega, by omega, sls_ne hu.2.1⟩)) rfl rfl (by decide) (by kernel_rfl) ?_
      refine y_val (v := .sl (icells (gl L (uix L x.1).toNat)) (gl L (uix L x.1).toNat).length) (v_load_pp ta25 (.inl rfl) (fun _ => by rw [Nat.mul_one]; exact sls_get hu.2.1) rfl) rfl rfl (by decide) (by kernel_rfl) ?_
      refine y_val (v := .rsl _ _ _ _ _) (v_load_rp (c := .osl _ _ _ _) ta25 (.inl rfl) rfl (fun _ => rfl)) rfl rfl (by decide) (by kernel_rfl) ?_
      refine y_new (v := .int _ _) (q_call (vs := [.sl _ _, .rsl _ _ _ _ _]) (args := [.sl _ _, .sl _ _]) hb108 ⟨.inl rfl, .inl rfl, trivial⟩ (l2_eq rfl (sl_sh (ic_pure _))) (fun hA => iUnit_c _ x.1 hsu (by omega) (by omega)) rfl rfl) rfl rfl (by decide) (by kernel_rfl) ?_
      refine y_val (v := .int _ _) (v_assign (.inl rfl) (noOwn_flat rfl)) rfl rfl (by decide) (by kernel_rfl) ?_
      refine y_nil ?_
      refine a_seq ?_
      refine a_region ?_
      refine r_val (v := .rsl _ _ _ _ _) (v_load_rp (c := .osl _ _ _ _) ta25 (.inl rfl) rfl (fun _ => rfl)) rfl rfl (by decide) ?_
      refine r_val (v := .int _ _) (v_move (.inl rfl) (noOwn_flat rfl)) rfl rfl (by decide) ?_
      refine r_new (v := .osl _ _ _ _) (q_call (vs := [.rsl _ _ _ _ _, .int _ _]) (args := [.sl _ _, .int .i64 _]) hb109 ⟨.inl rfl, .inl rfl, trivial⟩ (l2_eq (sl_sh (ic_pure _)) rfl) (fun hA => set_c vars x.1 _ g1 hst.1) (ic_noSh _) (ic_noRef _)) rfl rfl (by decide) ?_
      refine r_step rfl (o_store_own (v := .osl _ _ _ _) (y' := .op [.osl _ _ _ _]) rfl rfl ta25 (.inl rfl) (by decide) rfl (by decide) rfl (by simp [cellsOf, noRefL, noRef, ic_noRef]) rfl rfl rfl rfl rfl (Nat.le_of_ble_eq_true rfl) rfl rfl) ?_
      refine r_nil ?_
      refine a_region ?_
      refine r_val (v := .rsl _ _ _ _ _) (v_move (.inl rfl) (noOwn_flat rfl)) rfl rfl (by decide) ?_
      refine r_val (v := .int _ _) (v_move (.inl rfl) (noOwn_flat rfl)) rfl rfl (by decide) ?_
      refine r_val (v := .int _ _) (v_move (.inl rfl) (noOwn_flat rfl)) rfl rfl (by decide) ?_
      refine r_val (v := .agg [.int _ _, .int _ _]) (v_buildA arp75 rfl rfl) rfl rfl (by decide) ?_
      refine r_new (v := .osl 2 (tcells [((unitL (gl L (uix L x.1).toNat) x.1), uix L x.1)]) 1 (some 1)) (q_sliceLit (n := 1) (parts := [(0, .tmp 38)]) lt39 rfl rfl rfl rfl) rfl rfl (by decide) ?_
      refine r_pre (ent_reloc_sl (t := 35) rfl rfl) ?_
      refine r_step rfl (o_append rfl ap39 rfl (by decide) (by decide) rfl (src_lit (.inl rfl) rfl rfl rfl) rfl (by rw [tcells_length]) (by omega)) ?_
      refine r_val (v := .rsl _ _ _ _ _) (v_assign (.inl rfl) (noOwn_flat rfl)) rfl rfl (by decide) ?_
      refine r_pre (ent_reloc_sl (t := 7) rfl rfl) ?_
      refine r_nil ?_
      refine ⟨(setLit x.1 (unitL (gl L (uix L x.1).toNat) x.1), x.2 ++ [((unitL (gl L (uix L x.1).toNat) x.1), uix L x.1)]), ent_look ⟨Weak.of_eq rfl, Weak.of_eq (by unfold setLit; rfl), Weak.osl tcells_app (by simp), trivial⟩, ⟨hst.2.1, by rw [← g2]; exact hgo, by dsimp only; rw [hst.2.2]; simp; omega⟩, by dsimp only; have := clB_len hst.2.1; rw [hst.2.2] at this ⊢; omega⟩
end Go.Av
namespace Go.Av
open Go Go.Proofs Go.Sort
set_option maxRecDepth 10000
theorem hb102 : hasBody Try.prog 102 = true := by kernel_rfl
theorem hb103 : hasBody Try.prog 103 = true := by kernel_rfl
theorem hb104 : hasBody Try.prog 104 = true := by kernel_rfl

theorem sProp_c (vars : Int) (L : List (List Int)) (a : List Int) (hcl : ∀ i, i < L.length → clB vars (gl L i) = true) (hL : L.length ≤ 1048576) (ha : a.length ≤ 1048576) (hca : clB vars a = true) : ACall Try.prog 62 [.agg [.int .i64 vars, .sl (sls L) L.length], .sl (icells a) a.length] [] (.tup [.osl 2 (tcells (propR L a).2.1) (propR L a).2.1.length none, .osl 1 (icells (propR L a).1) (propR L a).1.length none, .bool (propR L a).2.2]) [] := by
  have hla0 := clB_len hca
  refine ACall.intro Try.func62 rfl (N := 58) rfl (by decide) (by simp) ?_
  refine a_seq ?_
  refine a_region ?_
  refine r_new (v := .op [.int _ _, .sl _ _]) (q_box (.inl rfl) rfl rfl) rfl rfl (by decide) ?_
  refine r_val (v := .nils) (v_assign (.inl rfl) (noOwn_flat rfl)) rfl rfl (by decide) ?_
  refine r_val (v := .nils) (v_assign (.inl rfl) (noOwn_flat rfl)) rfl rfl (by decide) ?_
  refine r_val (v := .bool _) (v_assign (.inl rfl) (noOwn_flat rfl)) rfl rfl (by decide) ?_
  refine r_nil ?_
  refine a_seq ?_
  refine a_region ?_
  refine r_new (v := .osl _ _ _ _) (q_sliceLit (n := 0) (parts := []) lt39 rfl rfl rfl rfl) rfl rfl (by decide) ?_
  refine r_val (v := .sl _ _) (v_move (.inl rfl) (noOwn_flat rfl)) rfl rfl (by decide) ?_
  refine r_new (v := .osl _ _ _ _) (q_call (vs := [.sl _ _]) (args := [.sl _ _]) hb101 ⟨.inl rfl, trivial⟩ rfl (fun hA => l1Own_c a _ ⟨rfl, by omega⟩) (ic_noSh _) (ic_noRef _)) rfl rfl (by decide) ?_
  refine r_val (v := .rsl _ _ _ _ _) (v_assign (.inl rfl) (noOwn_flat rfl)) rfl rfl (by decide) ?_
  refine r_pre (ent_reloc_sl (t := 7) rfl rfl) ?_
  refine r_val (v := .rsl _ _ _ _ _) (v_assign (.inl rfl) (noOwn_flat rfl)) rfl rfl (by decide) ?_
  refine r_pre (ent_reloc_sl (t := 8) rfl rfl) ?_
  refine r_nil ?_
  refine a_seq ?_
  refine a_block ?_
  refine a_loop (X := (List Int × List (Int × Int))) (fun x => look [(2, .op [.int .i64 vars, .sl (sls L) L.length]), (7, .osl 2 (tcells x.2) x.2.length none), (8, .osl 1 (icells x.1) x.1.length none)]) (fun x => clB vars x.1 = true ∧ prop L (13 - x.1.length) x.1 x.2 = propR L a ∧ x.2.length ≤ x.1.length) (fun x => 13 - x.1.length) (a, []) (ent_look ⟨Weak.of_eq rfl, Weak.osl rfl rfl, Weak.osl rfl rfl, trivial⟩) ⟨hca, rfl, Nat.zero_le _⟩ (fun x hG => ?_)
  obtain ⟨g1, g2, g3⟩ := hG
  have hla := clB_len g1
  refine a_seq ?_
  refine a_seq ?_
  refine a_region ?_
  refine r_val (v := .agg [.int _ _, .sl _ _]) (v_load_rpa1 ta29 (.inl rfl) rfl rfl (fun _ => rfl) rfl) rfl rfl (by decide) ?_
  refine r_val (v := .rsl _ _ _ _ _) (v_move (.inl rfl) (noOwn_flat rfl)) rfl rfl (by decide) ?_
  refine r_new (v := .int _ _) (q_call (vs := [.agg [.int _ _, .sl _ _], .rsl _ _ _ _ _]) (args := [.agg [.int .i64 _, .sl _ _], .sl _ _]) hb102 ⟨.inl rfl, .inl rfl, trivial⟩ (l2_eq rfl (sl_sh (ic_pure _))) (fun hA => cnfV_c vars L x.1 hcl hL (by omega)) rfl rfl) rfl rfl (by decide) ?_
  refine r_val (v := .bool _) (v_geq (.inl rfl) (.inl rfl)) rfl rfl (by decide) ?_
  refine r_nil ?_
  refine a_cond rfl (fun ht18 => ?_) (fun ht18 => ?_)
  ·
    skip
    refine a_skip ?_
    refine a_block ?_
    refine a_seq ?_
    have hcf : conf L x.1 = false := (by have h9 := cnfV_conf (L := L) (a := x.1); rw [h9] at ht18; simpa using ht18)
    refine a_region ?_
    refine r_val (v := .int _ _) (v_assign (.inl rfl) (noOwn_flat rfl)) rfl rfl (by decide) ?_
    refine r_nil ?_
    refine a_seq ?_
    refine a_seq ?_
    refine a_region ?_
    refine r_val (v := .rp _ _) (v_fieldAddr_rp fo29_1 (.inl rfl)) rfl rfl (by decide) ?_
    refine r_val (v := .sl _ _) (v_load_rp1 ta22 (.inl rfl) rfl (fun _ => rfl) rfl) rfl rfl (by decide) ?_
    refine r_val (v := .int _ _) (v_len_sl sl22 (.inl rfl)) rfl rfl (by decide) ?_
    refine r_val (v := .int _ _) (v_sub (.inl rfl) (.inl rfl) (fun _ => by omega)) rfl rfl (by decide) ?_
    refine r_val (v := .int _ _) (v_assign (.inl rfl) (noOwn_flat rfl)) rfl rfl (by decide) ?_
    refine r_nil ?_
    refine a_block ?_
    refine a_loop (X := Nat) (fun k => look [(2, .op [.int .i64 vars, .sl (sls L) L.length]), (7, .osl 2 (tcells x.2) x.2.length none), (8, .osl 1 (icells x.1) x.1.length none), (9, .int .i64 (dwn (fun i => decide (unitL (gl L i) x.1 ≠ 0)) L.length k)), (10, .int .i64 ((L.length : Int) - 1 - (k : Nat)))]) (fun k => k ≤ L.length) (fun k => L.length - k) 0 (ent_look ⟨Weak.of_eq rfl, Weak.of_eq rfl, Weak.of_eq rfl, Weak.of_eq rfl, Weak.of_eq (int_eq (by omega)), trivial⟩) (Nat.zero_le _) (fun k hG => ?_)
    refine a_seq ?_
    refine a_seq ?_
    refine a_region ?_
    refine r_val (v := .int _ _) (v_move (.inl rfl) (noOwn_flat rfl)) rfl rfl (by decide) ?_
    refine r_val (v := .bool _) (v_geq (.inl rfl) (.inl rfl)) rfl rfl (by decide) ?_
    refine r_nil ?_
    refine a_cond rfl (fun ht24 => ?_) (fun ht24 => ?_)
    ·
      skip
      refine a_skip ?_
      refine a_seq ?_
      refine a_block ?_
      refine a_seq ?_
      have hk : k < L.length := (by simp at ht24; omega)
      have hck := hcl (L.length - (k + 1)) (by omega)
      have hlk := clB_len hck
      refine a_region ?_
      refine r_val (v := .rp _ _) (v_fieldAddr_rp fo29_1 (.inl rfl)) rfl rfl (by decide) ?_
      refine r_val (v := .sl _ _) (v_load_rp1 ta22 (.inl rfl) rfl (fun _ => rfl) rfl) rfl rfl (by decide) ?_
      refine r_val (v := .int _ _) (v_move (.inl rfl) (noOwn_flat rfl)) rfl rfl (by decide) ?_
      refine r_val (v := .pp _ _) (v_indexAddr_sl es22 (.inl rfl) (.inl rfl) (fun _ => ⟨by omega, by omega, sls_ne (L := L) (i := (L.length - (k + 1))) (by omega)⟩)) rfl rfl (by decide) ?_
      refine r_val (v := .sl (icells (gl L (L.length - (k + 1)))) (gl L (L.length - (k + 1))).length) (v_load_pp ta25 (.inl rfl) (fun _ => by rw [show ((L.length : Int) - 1 - (k : Nat)).toNat = (L.length - (k + 1)) by omega, Nat.mul_one]; exact sls_get (by omega)) rfl) rfl rfl (by decide) ?_
      refine r_val (v := .rsl _ _ _ _ _) (v_move (.inl rfl) (noOwn_flat rfl)) rfl rfl (by decide) ?_
      refine r_new (v := .int _ _) (q_call (vs := [.sl _ _, .rsl _ _ _ _ _]) (args := [.sl _ _, .sl _ _]) hb103 ⟨.inl rfl, .inl rfl, trivial⟩ (l2_eq rfl (sl_sh (ic_pure _))) (fun hA => sUnit_c (gl L (L.length - (k + 1))) x.1 (clB_sm hck) (by omega) (by omega)) rfl rfl) rfl rfl (by decide) ?_
      refine r_val (v := .bool _) (v_neq (.inl rfl) (.inl rfl)) rfl rfl (by decide) ?_
      refine r_nil ?_
      refine a_cond rfl (fun ht34 => ?_) (fun ht34 => ?_)
      ·
        skip
        refine a_region ?_
        refine r_val (v := .int _ _) (v_move (.inl rfl) (noOwn_flat rfl)) rfl rfl (by decide) ?_
        refine r_val (v := .int _ _) (v_assign (.inl rfl) (noOwn_flat rfl)) rfl rfl (by decide) ?_
        refine r_nil ?_
        refine a_region ?_
        refine r_val (v := .int _ _) (v_move (.inl rfl) (noOwn_flat rfl)) rfl rfl (by decide) ?_
        refine r_val (v := .int _ _) (v_sub (.inl rfl) (.inl rfl) (fun _ => by omega)) rfl rfl (by decide) ?_
        refine r_val (v := .int _ _) (v_assign (.inl rfl) (noOwn_flat rfl)) rfl rfl (by decide) ?_
        refine r_nil ?_
        refine ⟨k + 1, ent_look ⟨Weak.of_eq rfl, Weak.of_eq rfl, Weak.of_eq rfl, Weak.of_eq (int_eq (by rw [dwn, if_pos (by simpa using ht34)]; omega)), Weak.of_eq (int_eq (by omega)), trivial⟩, by omega, by omega⟩
      ·
        skip
        refine a_skip ?_
        refine a_region ?_
        refine r_val (v := .int _ _) (v_move (.inl rfl) (noOwn_flat rfl)) rfl rfl (by decide) ?_
        refine r_val (v := .int _ _) (v_sub (.inl rfl) (.inl rfl) (fun _ => by omega)) rfl rfl (by decide) ?_
        refine r_val (v := .int _ _) (v_assign (.inl rfl) (noOwn_flat rfl)) rfl rfl (by decide) ?_
        refine r_nil ?_
        refine ⟨k + 1, ent_look ⟨Weak.of_eq rfl, Weak.of_eq rfl, Weak.of_eq rfl, Weak.of_eq (int_eq (by rw [dwn, if_neg (by simpa using ht34)])), Weak.of_eq (int_eq (by omega)), trivial⟩, by omega, by omega⟩
    ·
      skip
      refine a_exit ?_
      refine a_seq ?_
      refine a_seq ?_
      have hkn : k = L.length := (by simp at ht24; omega)
      refine a_pre (ent_eq (t := 9) (v' := .int .i64 (uix L x.1)) (Weak.of_eq (int_eq (by rw [hkn, dwn_all]; rfl)))) ?_
      refine a_region ?_
      refine r_val (v := .int _ _) (v_move (.inl rfl) (noOwn_flat rfl)) rfl rfl (by decide) ?_
      refine r_val (v := .bool _) (v_lss (.inl rfl) (.inl rfl)) rfl rfl (by decide) ?_
      refine r_nil ?_
      refine a_cond rfl (fun ht37 => ?_) (fun ht37 => ?_)
      ·
        skip
        refine a_seq ?_
        have huu : uix L x.1 = -1 := (by have h1 := uix_bd L x.1; simp at ht37; omega)
        have hres : propR L a = (x.1, x.2, false) := (by rw [← g2, prop_none g1 hcf huu])
        refine a_region ?_
        refine r_val (v := .rsl _ _ _ _ _) (v_move (.inl rfl) (noOwn_flat rfl)) rfl rfl (by decide) ?_
        refine r_val (v := .rsl _ _ _ _ _) (v_move (.inl rfl) (noOwn_flat rfl)) rfl rfl (by decide) ?_
        refine r_val (v := .rsl _ _ _ _ _) (v_assign (.inl rfl) (noOwn_flat rfl)) rfl rfl (by decide) ?_
        refine r_pre (ent_reloc_sl (t := 4) rfl rfl) ?_
        refine r_val (v := .rsl _ _ _ _ _) (v_assign (.inl rfl) (noOwn_flat rfl)) rfl rfl (by decide) ?_
        refine r_pre (ent_reloc_sl (t := 5) rfl rfl) ?_
        refine r_val (v := .bool _) (v_assign (.inl rfl) (noOwn_flat rfl)) rfl rfl (by decide) ?_
        refine r_nil ?_
        refine a_ret ?_
        refine retL (rs := [.tmp 4, .tmp 5, .tmp 6]) [(4, .osl _ _ _ none), (5, .osl _ _ _ none), (6, _)] ⟨Weak.osl rfl rfl, Weak.osl rfl rfl, Weak.rfl, trivial⟩ rfl Try.results62 (by decide) ⟨by decide, by decide, by decide, rfl⟩ (by decide) (by decide) (l3_eq (osl_eq2 ?_ ?_) (osl_eq2 ?_ ?_) (bool_eq ?_)) (by simp [refsL, refs])
        all_goals (rw [hres])
      ·
        skip
        refine a_skip ?_
        refine a_seq ?_
        have hne : ¬ uix L x.1 = -1 := (by simp at ht37; omega)
        have hu := (uix_bd L x.1).resolve_left hne
        have hcu := hcl _ hu.2.1
        have hsu := clB_sm hcu
        have hlu := clB_len hcu
        have hub := unit_bd (a := x.1) hsu
        have hst := prop_step hcl g1 hne
        have hgo := prop_go (st := x.2) hcl g1 hcf hne
        refine a_region ?_
        refine r_val (v := .rp _ _) (v_fieldAddr_rp fo29_1 (.inl rfl)) rfl rfl (by decide) ?_
        refine r_val (v := .sl _ _) (v_load_rp1 ta22 (.inl rfl) rfl (fun _ => rfl) rfl) rfl rfl (by decide) ?_
        refine r_val (v := .int _ _) (v_move (.inl rfl) (noOwn_flat rfl)) rfl rfl (by decide) ?_
        refine r_val (v := .pp _ _) (v_indexAddr_sl es22 (.inl rfl) (.inl rfl) (fun _ => ⟨by omega, by omega, sls_ne hu.2.1⟩)) rfl rfl (by decide) ?_
        refine r_val (v := .sl (icells (gl L (uix L x.1).toNat)) (gl L (uix L x.1).toNat).length) (v_load_pp ta25 (.inl rfl) (fun _ => by rw [Nat.mul_one]; exact sls_get hu.2.1) rfl) rfl rfl (by decide) ?_
        refine r_val (v := .rsl _ _ _ _ _) (v_move (.inl rfl) (noOwn_flat rfl)) rfl rfl (by decide) ?_
        refine r_new (v := .int _ _) (q_call (vs := [.sl _ _, .rsl _ _ _ _ _]) (args := [.sl _ _, .sl _ _]) hb103 ⟨.inl rfl, .inl rfl, trivial⟩ (l2_eq rfl (sl_sh (ic_pure _))) (fun hA => sUnit_c _ x.1 hsu (by omega) (by omega)) rfl rfl) rfl rfl (by decide) ?_
        refine r_val (v := .int _ _) (v_assign (.inl rfl) (noOwn_flat rfl)) rfl rfl (by decide) ?_
        refine r_nil ?_
        refine a_seq ?_
        refine a_region ?_
        refine r_val (v := .rsl _ _ _ _ _) (v_move (.inl rfl) (noOwn_flat rfl)) rfl rfl (by decide) ?_
        refine r_val (v := .int _ _) (v_move (.inl rfl) (noOwn_flat rfl)) rfl rfl (by decide) ?_
        refine r_val (v := .int _ _) (v_move (.inl rfl) (noOwn_flat rfl)) rfl rfl (by decide) ?_
        refine r_val (v := .agg [.int _ _, .int _ _]) (v_buildA arp75 rfl rfl) rfl rfl (by decide) ?_
        refine r_new (v := .osl 2 (tcells [((unitL (gl L (uix L x.1).toNat) x.1), uix L x.1)]) 1 (some 1)) (q_sliceLit (n := 1) (parts := [(0, .tmp 50)]) lt39 rfl rfl rfl rfl) rfl rfl (by decide) ?_
        refine r_pre (ent_reloc_sl (t := 47) rfl rfl) ?_
        refine r_step rfl (o_append rfl ap39 rfl (by decide) (by decide) rfl (src_lit (.inl rfl) rfl rfl rfl) rfl (by rw [tcells_length]) (by omega)) ?_
        refine r_val (v := .rsl _ _ _ _ _) (v_assign (.inl rfl) (noOwn_flat rfl)) rfl rfl (by decide) ?_
        refine r_pre (ent_reloc_sl (t := 7) rfl rfl) ?_
        refine r_nil ?_
        refine a_region ?_
        refine r_val (v := .rsl _ _ _ _ _) (v_move (.inl rfl) (noOwn_flat rfl)) rfl rfl (by decide) ?_
        refine r_val (v := .int _ _) (v_move (.inl rfl) (noOwn_flat rfl)) rfl rfl (by decide) ?_
        refine r_new (v := .osl _ _ _ _) (q_call (vs := [.rsl _ _ _ _ _, .int _ _]) (args := [.sl _ _, .int .i64 _]) hb104 ⟨.inl rfl, .inl rfl, trivial⟩ (l2_eq (sl_sh (ic_pure _)) rfl) (fun hA => l3Set_c x.1 _ (by omega) (clB_sm g1) hub) (ic_noSh _) (ic_noRef _)) rfl rfl (by decide) ?_
        refine r_val (v := .rsl _ _ _ _ _) (v_assign (.inl rfl) (noOwn_flat rfl)) rfl rfl (by decide) ?_
        refine r_pre (ent_reloc_sl (t := 8) rfl rfl) ?_
        refine r_nil ?_
        refine ⟨(setLit x.1 (unitL (gl L (uix L x.1).toNat) x.1), x.2 ++ [((unitL (gl L (uix L x.1).toNat) x.1), uix L x.1)]), ent_look ⟨Weak.of_eq rfl, Weak.osl tcells_app (by simp), Weak.of_eq (by unfold setLit; rfl), trivial⟩, ⟨hst.2.1, by rw [← g2]; exact hgo, by dsimp only; rw [hst.2.2]; simp; omega⟩, by dsimp only; have := clB_len hst.2.1; rw [hst.2.2] at this ⊢; omega⟩
  ·
    skip
    refine a_exit ?_
    refine a_seq ?_
    have hcf : conf L x.1 = true := (by have h9 := cnfV_conf (L := L) (a := x.1); rw [h9] at ht18; simpa using ht18)
    have hres : propR L a = (x.1, x.2, true) := (by rw [← g2, prop_conf g1 hcf])
    refine a_region ?_
    refine r_val (v := .rsl _ _ _ _ _) (v_move (.inl rfl) (noOwn_flat rfl)) rfl rfl (by decide) ?_
    refine r_val (v := .rsl _ _ _ _ _) (v_move (.inl rfl) (noOwn_flat rfl)) rfl rfl (by decide) ?_
    refine r_val (v := .rsl _ _ _ _ _) (v_assign (.inl rfl) (noOwn_flat rfl)) rfl rfl (by decide) ?_
    refine r_pre (ent_reloc_sl (t := 4) rfl rfl) ?_
    refine r_val (v := .rsl _ _ _ _ _) (v_assign (.inl rfl) (noOwn_flat rfl)) rfl rfl (by decide) ?_
    refine r_pre (ent_reloc_sl (t := 5) rfl rfl) ?_
    refine r_val (v := .bool _) (v_assign (.inl rfl) (noOwn_flat rfl)) rfl rfl (by decide) ?_
    refine r_nil ?_
    refine a_ret ?_
    refine retL (rs := [.tmp 4, .tmp 5, .tmp 6]) [(4, .osl _ _ _ none), (5, .osl _ _ _ none), (6, _)] ⟨Weak.osl rfl rfl, Weak.osl rfl rfl, Weak.rfl, trivial⟩ rfl Try.results62 (by decide) ⟨by decide, by decide, by decide, rfl⟩ (by decide) (by decide) (l3_eq (osl_eq2 ?_ ?_) (osl_eq2 ?_ ?_) (bool_eq ?_)) (by simp [refsL, refs])
    all_goals (rw [hres])
end Go.Av
namespace Go.Av
open Go Go.Proofs Go.Sort
set_option maxRecDepth 10000
theorem hb55 : hasBody Try.prog 55 = true := by kernel_rfl
theorem hb57 : hasBody Try.prog 57 = true := by kernel_rfl
theorem hb58 : hasBody Try.prog 58 = true := by kernel_rfl
theorem hb60 : hasBody Try.prog 60 = true := by kernel_rfl
theorem hb62 : hasBody Try.prog 62 = true := by kernel_rfl
theorem hb64 : hasBody Try.prog 64 = true := by kernel_rfl
theorem hb95 : hasBody Try.prog 95 = true := by kernel_rfl
theorem hb99 : hasBody Try.prog 99 = true := by kernel_rfl

theorem negated_c (c : List Int) (hs : SmI c) (hc : c.length ≤ 1048576) : ACall Try.prog 99 [.sl (icells c) c.length] [] (.osl 1 (icells (ngL c)) (ngL c).length none) [] := by
  refine ACall.intro Try.func99 rfl (N := 19) rfl (by decide) (by simp) ?_
  refine a_seq ?_
  refine a_region ?_
  refine r_val (v := .nils) (v_assign (.inl rfl) (noOwn_flat rfl)) rfl rfl (by decide) ?_
  refine r_nil ?_
  refine a_seq ?_
  refine a_region ?_
  refine r_val (v := .nils) (v_assign (.inl rfl) (noOwn_flat rfl)) rfl rfl (by decide) ?_
  refine r_nil ?_
  refine a_seq ?_
  refine a_seq ?_
  refine a_region ?_
  refine r_val (v := .sl _ _) (v_move (.inl rfl) (noOwn_flat rfl)) rfl rfl (by decide) ?_
  refine r_val (v := .int _ _) (v_len_sl sl25 (.inl rfl)) rfl rfl (by decide) ?_
  refine r_val (v := .int _ _) (v_move (.inl rfl) (noOwn_flat rfl)) rfl rfl (by decide) ?_
  refine r_nil ?_
  refine a_block ?_
  refine a_pre (ent_nil (t := 3) (sz := 1) (cap := none) (.inl rfl) (fun _ h => by cases h)) ?_
  refine a_loop (X := Nat) (fun i => look [(3, .osl 1 (icells (ngP c i)) (ngP c i).length none), (6, .sl (icells c) c.length), (7, .int .i64 ((c.length : Nat) : Int)), (8, .int .i64 ((i : Nat) : Int))]) (fun i => i ≤ c.length) (fun i => c.length - i) 0 (ent_look ⟨Weak.osl rfl rfl, Weak.of_eq rfl, Weak.of_eq rfl, Weak.of_eq rfl, trivial⟩) (Nat.zero_le _) (fun i hG => ?_)
  have hsi := hs i
  refine a_seq ?_
  refine a_region ?_
  refine r_val (v := .bool _) (v_lss (.inl rfl) (.inl rfl)) rfl rfl (by decide) ?_
  refine r_nil ?_
  refine a_seq ?_
  refine a_cond rfl (fun ht9 => ?_) (fun ht9 => ?_)
  ·
    skip
    refine a_skip ?_
    refine a_seq ?_
    refine a_block ?_
    refine a_seq ?_
    have hi : i < c.length := (by simp at ht9; omega)
    have hnl := ngP_len (c := c) (i := i) (by omega)
    refine a_region ?_
    refine r_val (v := .pp _ _) (v_indexAddr_sl es25 (.inl rfl) (.inl rfl) (fun _ => ⟨by omega, by omega, icells_ne hi⟩)) rfl rfl (by decide) ?_
    refine r_val (v := .int .i64 (gd c i)) (v_load_pp ta3 (.inl rfl) (fun _ => by rw [Nat.mul_one]; exact icells_get (gd_get hi)) rfl) rfl rfl (by decide) ?_
    refine r_val (v := .int _ _) (v_assign (.inl rfl) (noOwn_flat rfl)) rfl rfl (by decide) ?_
    refine r_nil ?_
    refine a_region ?_
    refine r_val (v := .rsl _ _ _ _ _) (v_move (.inl rfl) (noOwn_flat rfl)) rfl rfl (by decide) ?_
    refine r_val (v := .int _ _) (v_move (.inl rfl) (noOwn_flat rfl)) rfl rfl (by decide) ?_
    refine r_val (v := .int _ _) (v_neg (.inl rfl) (fun _ => by omega)) rfl rfl (by decide) ?_
    refine r_new (v := .osl 1 (icells [-(gd c i)]) 1 (some 1)) (q_sliceLit (n := 1) (parts := [(0, .tmp 14)]) lt25 rfl rfl rfl rfl) rfl rfl (by decide) ?_
    refine r_pre (ent_reloc_sl (t := 12) rfl rfl) ?_
    refine r_step rfl (o_append rfl ap25 rfl (by decide) (by decide) rfl (src_lit (.inl rfl) rfl rfl (ic_pureL _)) (ic_cell _) (by rw [icells_length]; omega) (by omega)) ?_
    refine r_val (v := .rsl _ _ _ _ _) (v_assign (.inl rfl) (noOwn_flat rfl)) rfl rfl (by decide) ?_
    refine r_pre (ent_reloc_sl (t := 3) rfl rfl) ?_
    refine r_nil ?_
    refine a_region ?_
    refine r_val (v := .int _ _) (v_add (.inl rfl) (.inl rfl) (fun _ => by omega)) rfl rfl (by decide) ?_
    refine r_val (v := .int _ _) (v_move (.inl rfl) (noOwn_flat rfl)) rfl rfl (by decide) ?_
    refine r_nil ?_
    refine ⟨i + 1, ent_look ⟨Weak.osl (by rw [ngP_succ hi, icells_append] <;> rfl) (by rw [ngP_succ hi]; simp), Weak.of_eq rfl, Weak.of_eq rfl, Weak.of_eq (int_eq (by omega)), trivial⟩, by omega, by omega⟩
  ·
    skip
    refine a_exit ?_
    refine a_seq ?_
    refine a_region ?_
    refine r_val (v := .rsl _ _ _ _ _) (v_move (.inl rfl) (noOwn_flat rfl)) rfl rfl (by decide) ?_
    refine r_val (v := .rsl _ _ _ _ _) (v_assign (.inl rfl) (noOwn_flat rfl)) rfl rfl (by decide) ?_
    refine r_pre (ent_reloc_sl (t := 2) rfl rfl) ?_
    refine r_nil ?_
    refine a_ret ?_
    refine ret1 Try.results99 (by decide) (by decide) (Weak.osl ?_ ?_) rfl Leaves.nil
    all_goals (rw [ngP_full (by simp at ht9; omega)])

theorem deny_c (c : List Int) (hs : SmI c) (hc : c.length ≤ 1048576) : ACall Try.prog 95 [.sl (icells c) c.length] [] (.osl 1 (icells (ngL c)) (ngL c).length none) [] := by
  refine ACall.intro Try.func95 rfl (N := 21) rfl (by decide) (by simp) ?_
  refine a_seq ?_
  refine a_region ?_
  refine r_val (v := .nils) (v_assign (.inl rfl) (noOwn_flat rfl)) rfl rfl (by decide) ?_
  refine r_nil ?_
  refine a_seq ?_
  refine a_region ?_
  refine r_new (v := .osl _ _ _ _) (q_sliceLit (n := 0) (parts := []) lt25 rfl rfl rfl rfl) rfl rfl (by decide) ?_
  refine r_val (v := .rsl _ _ _ _ _) (v_assign (.inl rfl) (noOwn_flat rfl)) rfl rfl (by decide) ?_
  refine r_pre (ent_reloc_sl (t := 3) rfl rfl) ?_
  refine r_nil ?_
  refine a_seq ?_
  refine a_seq ?_
  refine a_region ?_
  refine r_val (v := .int _ _) (v_assign (.inl rfl) (noOwn_flat rfl)) rfl rfl (by decide) ?_
  refine r_nil ?_
  refine a_block ?_
  refine a_loop (X := Nat) (fun i => look [(0, .sl (icells c) c.length), (3, .osl 1 (icells (ngP c i)) (ngP c i).length none), (4, .int .i64 ((i : Nat) : Int))]) (fun i => i ≤ c.length) (fun i => c.length - i) 0 (ent_look ⟨Weak.of_eq rfl, Weak.osl rfl rfl, Weak.of_eq rfl, trivial⟩) (Nat.zero_le _) (fun i hG => ?_)
  have hsi := hs i
  refine a_seq ?_
  refine a_seq ?_
  refine a_region ?_
  refine r_val (v := .int _ _) (v_move (.inl rfl) (noOwn_flat rfl)) rfl rfl (by decide) ?_
  refine r_val (v := .sl _ _) (v_move (.inl rfl) (noOwn_flat rfl)) rfl rfl (by decide) ?_
  refine r_val (v := .int _ _) (v_len_sl sl25 (.inl rfl)) rfl rfl (by decide) ?_
  refine r_val (v := .bool _) (v_lss (.inl rfl) (.inl rfl)) rfl rfl (by decide) ?_
  refine r_nil ?_
  refine a_cond rfl (fun ht9 => ?_) (fun ht9 => ?_)
  ·
    skip
    refine a_skip ?_
    refine a_seq ?_
    refine a_block ?_
    have hi : i < c.length := (by simp at ht9; omega)
    have hnl := ngP_len (c := c) (i := i) (by omega)
    refine a_region ?_
    refine r_val (v := .rsl _ _ _ _ _) (v_move (.inl rfl) (noOwn_flat rfl)) rfl rfl (by decide) ?_
    refine r_val (v := .sl _ _) (v_move (.inl rfl) (noOwn_flat rfl)) rfl rfl (by decide) ?_
    refine r_val (v := .int _ _) (v_move (.inl rfl) (noOwn_flat rfl)) rfl rfl (by decide) ?_
    refine r_val (v := .pp _ _) (v_indexAddr_sl es25 (.inl rfl) (.inl rfl) (fun _ => ⟨by omega, by omega, icells_ne hi⟩)) rfl rfl (by decide) ?_
    refine r_val (v := .int .i64 (gd c i)) (v_load_pp ta3 (.inl rfl) (fun _ => by rw [Nat.mul_one]; exact icells_get (gd_get hi)) rfl) rfl rfl (by decide) ?_
    refine r_val (v := .int _ _) (v_neg (.inl rfl) (fun _ => by omega)) rfl rfl (by decide) ?_
    refine r_new (v := .osl 1 (icells [-(gd c i)]) 1 (some 1)) (q_sliceLit (n := 1) (parts := [(0, .tmp 17)]) lt25 rfl rfl rfl rfl) rfl rfl (by decide) ?_
    refine r_pre (ent_reloc_sl (t := 12) rfl rfl) ?_
    refine r_step rfl (o_append rfl ap25 rfl (by decide) (by decide) rfl (src_lit (.inl rfl) rfl rfl (ic_pureL _)) (ic_cell _) (by rw [icells_length]; omega) (by omega)) ?_
    refine r_val (v := .rsl _ _ _ _ _) (v_assign (.inl rfl) (noOwn_flat rfl)) rfl rfl (by decide) ?_
    refine r_pre (ent_reloc_sl (t := 3) rfl rfl) ?_
    refine r_nil ?_
    refine a_region ?_
    refine r_val (v := .int _ _) (v_move (.inl rfl) (noOwn_flat rfl)) rfl rfl (by decide) ?_
    refine r_val (v := .int _ _) (v_add (.inl rfl) (.inl rfl) (fun _ => by omega)) rfl rfl (by decide) ?_
    refine r_val (v := .int _ _) (v_assign (.inl rfl) (noOwn_flat rfl)) rfl rfl (by decide) ?_
    refine r_nil ?_
    refine ⟨i + 1, ent_look ⟨Weak.of_eq rfl, Weak.osl (by rw [ngP_succ hi, icells_append] <;> rfl) (by rw [ngP_succ hi]; simp), Weak.of_eq (int_eq (by omega)), trivial⟩, by omega, by omega⟩
  ·
    skip
    refine a_exit ?_
    refine a_seq ?_
    refine a_region ?_
    refine r_val (v := .rsl _ _ _ _ _) (v_move (.inl rfl) (noOwn_flat rfl)) rfl rfl (by decide) ?_
    refine r_val (v := .rsl _ _ _ _ _) (v_assign (.inl rfl) (noOwn_flat rfl)) rfl rfl (by decide) ?_
    refine r_pre (ent_reloc_sl (t := 2) rfl rfl) ?_
    refine r_nil ?_
    refine a_ret ?_
    refine ret1 Try.results95 (by decide) (by decide) (Weak.osl ?_ ?_) rfl Leaves.nil
    all_goals (rw [ngP_full (by simp at ht9; omega)])

theorem iFol_c (vars : Int) (L : List (List Int)) (c : List Int) (hcl : ∀ i, i < L.length → clB vars (gl L i) = true) (hL : L.length ≤ 1048576) (hcc : clB vars c = true) : ACall Try.prog 60 [.sl (sls L) L.length, .sl (icells c) c.length] [] (.bool (folB L c)) [] := by
  have hlc := clB_len hcc
  have hnl := ngL_len c
  have hnc := ngL_cl hcc
  have hsc := clB_sm hcc
  refine ACall.intro Try.func60 rfl (N := 17) rfl (by decide) (by simp) ?_
  refine a_seq ?_
  refine a_region ?_
  refine r_val (v := .bool _) (v_assign (.inl rfl) (noOwn_flat rfl)) rfl rfl (by decide) ?_
  refine r_nil ?_
  refine a_seq ?_
  refine a_region ?_
  refine r_val (v := .sl _ _) (v_move (.inl rfl) (noOwn_flat rfl)) rfl rfl (by decide) ?_
  refine r_val (v := .sl _ _) (v_move (.inl rfl) (noOwn_flat rfl)) rfl rfl (by decide) ?_
  refine r_new (v := .osl _ _ _ _) (q_call (vs := [.sl _ _]) (args := [.sl _ _]) hb99 ⟨.inl rfl, trivial⟩ rfl (fun hA => negated_c c hsc (by omega)) (ic_noSh _) (ic_noRef _)) rfl rfl (by decide) ?_
  refine r_new (v := .tup [.osl _ _ _ _, .osl _ _ _ _, .bool _]) (q_call (vs := [.sl _ _, .rsl _ _ _ _ _]) (args := [.sl _ _, .sl _ _]) hb64 ⟨.inl rfl, .inl rfl, trivial⟩ (l2_eq rfl (sl_sh (ic_pure _))) (fun hA => iProp_c vars L (ngL c) hcl hL (by omega) hnc) (by simp [noSh, noShL, ic_noSh, tc_noSh]) (by simp [noRef, noRefL, ic_noRef, tc_noRef])) rfl rfl (by decide) ?_
  refine r_val (v := .tup [.rsl _ _ _ _ _, .rsl _ _ _ _ _, .bool _]) (v_mv rfl) rfl rfl (by decide) ?_
  refine r_val (v := .rsl _ _ _ _ _) (v_extract rfl rfl) rfl rfl (by decide) ?_
  refine r_val (v := .rsl _ _ _ _ _) (v_extract rfl rfl) rfl rfl (by decide) ?_
  refine r_val (v := .bool _) (v_extract rfl rfl) rfl rfl (by decide) ?_
  refine r_val (v := .rsl _ _ _ _ _) (v_assign (.inl rfl) (noOwn_flat rfl)) rfl rfl (by decide) ?_
  refine r_pre (ent_reloc_sl (t := 5) rfl rfl) ?_
  refine r_val (v := .rsl _ _ _ _ _) (v_assign (.inl rfl) (noOwn_flat rfl)) rfl rfl (by decide) ?_
  refine r_pre (ent_reloc_sl (t := 6) rfl rfl) ?_
  refine r_val (v := .bool _) (v_assign (.inl rfl) (noOwn_flat rfl)) rfl rfl (by decide) ?_
  refine r_nil ?_
  refine a_seq ?_
  refine a_region ?_
  refine r_val (v := .bool _) (v_move (.inl rfl) (noOwn_flat rfl)) rfl rfl (by decide) ?_
  refine r_val (v := .bool _) (v_assign (.inl rfl) (noOwn_flat rfl)) rfl rfl (by decide) ?_
  refine r_nil ?_
  refine a_ret ?_
  refine ret1 Try.results60 (by decide) (by decide) (Weak.of_eq (bool_eq ?_)) rfl Leaves.nil
  rfl

theorem sFol_c (vars : Int) (L : List (List Int)) (c : List Int) (hcl : ∀ i, i < L.length → clB vars (gl L i) = true) (hL : L.length ≤ 1048576) (hcc : clB vars c = true) : ACall Try.prog 57 [.agg [.int .i64 vars, .sl (sls L) L.length], .sl (icells c) c.length] [] (.bool (folB L c)) [] := by
  have hlc := clB_len hcc
  have hnl := ngL_len c
  have hnc := ngL_cl hcc
  have hsc := clB_sm hcc
  refine ACall.intro Try.func57 rfl (N := 17) rfl (by decide) (by simp) ?_
  refine a_seq ?_
  refine a_region ?_
  refine r_new (v := .op [.int _ _, .sl _ _]) (q_box (.inl rfl) rfl rfl) rfl rfl (by decide) ?_
  refine r_val (v := .bool _) (v_assign (.inl rfl) (noOwn_flat rfl)) rfl rfl (by decide) ?_
  refine r_nil ?_
  refine a_seq ?_
  refine a_region_any mixed (by kernel_rfl) ?_
  refine y_val (v := .agg [.int _ _, .sl _ _]) (v_load_rpa1 ta29 (.inl rfl) rfl rfl (fun _ => rfl) rfl) rfl rfl (by decide) (by kernel_rfl) ?_
  refine y_val (v := .sl _ _) (v_move (.inl rfl) (noOwn_flat rfl)) rfl rfl (by decide) (by kernel_rfl) ?_
  refine y_new (v := .osl _ _ _ _) (q_call (vs := [.sl _ _]) (args := [.sl _ _]) hb95 ⟨.inl rfl, trivial⟩ rfl (fun hA => deny_c c hsc (by omega)) (ic_noSh _) (ic_noRef _)) rfl rfl (by decide) (by kernel_rfl) ?_
  refine y_new (v := .tup [.osl _ _ _ _, .osl _ _ _ _, .bool _]) (q_call (vs := [.agg [.int _ _, .sl _ _], .rsl _ _ _ _ _]) (args := [.agg [.int .i64 _, .sl _ _], .sl _ _]) hb62 ⟨.inl rfl, .inl rfl, trivial⟩ (l2_eq rfl (sl_sh (ic_pure _))) (fun hA => sProp_c vars L (ngL c) hcl hL (by omega) hnc) (by simp [noSh, noShL, ic_noSh, tc_noSh]) (by simp [noRef, noRefL, ic_noRef, tc_noRef])) rfl rfl (by decide) (by kernel_rfl) ?_
  refine y_val (v := .tup [.rsl _ _ _ _ _, .rsl _ _ _ _ _, .bool _]) (v_mv rfl) rfl rfl (by decide) (by kernel_rfl) ?_
  refine y_val (v := .rsl _ _ _ _ _) (v_extract rfl rfl) rfl rfl (by decide) (by kernel_rfl) ?_
  refine y_val (v := .rsl _ _ _ _ _) (v_extract rfl rfl) rfl rfl (by decide) (by kernel_rfl) ?_
  refine y_val (v := .bool _) (v_extract rfl rfl) rfl rfl (by decide) (by kernel_rfl) ?_
  refine y_val (v := .rsl _ _ _ _ _) (v_assign (.inl rfl) (noOwn_flat rfl)) rfl rfl (by decide) (by kernel_rfl) ?_
  refine y_val (v := .rsl _ _ _ _ _) (v_assign (.inl rfl) (noOwn_flat rfl)) rfl rfl (by decide) (by kernel_rfl) ?_
  refine y_val (v := .bool _) (v_assign (.inl rfl) (noOwn_flat rfl)) rfl rfl (by decide) (by kernel_rfl) ?_
  refine y_nil ?_
  refine a_seq ?_
  refine a_pre (ent_reloc_sl (t := 5) rfl rfl) ?_
  refine a_pre (ent_reloc_sl (t := 6) rfl rfl) ?_
  refine a_region ?_
  refine r_val (v := .bool _) (v_move (.inl rfl) (noOwn_flat rfl)) rfl rfl (by decide) ?_
  refine r_val (v := .bool _) (v_assign (.inl rfl) (noOwn_flat rfl)) rfl rfl (by decide) ?_
  refine r_nil ?_
  refine a_ret ?_
  refine ret1 Try.results57 (by decide) (by decide) (Weak.of_eq (bool_eq ?_)) rfl Leaves.nil
  rfl

end Go.Av
namespace Go.Av
open Go Go.Proofs Go.Sort
set_option maxRecDepth 10000
theorem hb14 : hasBody Try.prog 14 = true := by kernel_rfl
theorem hb16 : hasBody Try.prog 16 = true := by kernel_rfl
theorem hb19 : hasBody Try.prog 19 = true := by kernel_rfl
theorem hb23 : hasBody Try.prog 23 = true := by kernel_rfl
theorem hb25 : hasBody Try.prog 25 = true := by kernel_rfl
theorem ta24 : tyAgg Try.prog 24 = some (true, 2) := by kernel_rfl
theorem un4 : Try.prog.underlying 4 = some .bool := by kernel_rfl

end Go.Av
namespace Go.Av
open Go
section
variable {P : Program} {N : Nat} {A : Bool} {σ τ : Sig} {ty : TypeId}
variable {e : Ctx} {val : Nat → Value} {w : World} {β : Place → Option (Nat × Nat)} {F : Nat → Prop} {x : AV} {d : Nat}

/-- A slot's owned memory is frozen, where it is new. -/
theorem Inv.freeze (h : Inv e (upd τ d x) val w β F) (hf : ∀ r y b s, node x r = some y → y.isOwn = true → β (d, r) = some (b, s) → e.w0.heap.size ≤ b) :
    Inv e (upd τ d (sh x)) val w β (fun b => F b ∨ ∃ r y s, node x r = some y ∧ y.isOwn = true ∧ β (d, r) = some (b, s)) := by
  have own : ∀ q, OwnAt (upd τ d (sh x)) q → q.1 ≠ d ∧ OwnAt (upd τ d x) q := fun q hq => by
    by_cases hi : q.1 = d
    · obtain ⟨y, hy, ho⟩ := hq
      rw [hi, upd_same] at hy
      rw [pure_own (pure_sh x) hy] at ho; cases ho
    · exact ⟨hi, (own_upd_other hi).2 ((own_upd_other hi).1 hq)⟩
  have hx := h.rep d
  rw [upd_same] at hx
  have ownx : ∀ r y, node x r = some y → y.isOwn = true → OwnAt (upd τ d x) (d, r) := fun r y hy ho => ⟨y, by rw [upd_same]; exact hy, ho⟩
  refine ⟨fun i => ?_, fun q q' b s s' hq hq' => h.disj q q' b s s' (own q hq).2 (own q' hq').2, fun q b s hq hb => ⟨?_, (h.sep q b s (own q hq).2 hb).2⟩, fun b hb => ?_, h.kept, h.grow, h.tame⟩
  · by_cases hi : i = d
    · subst hi
      rw [upd_same]
      exact hx.sh x (fun b hb => .inl hb) (fun r y b s hy ho hb => .inr ⟨r, y, s, hy, ho, by simpa using hb⟩)
    · have := h.rep i
      rw [upd_other _ _ hi] at this ⊢
      exact this.tr _ (fun b hb => ⟨.inl hb, rfl⟩) (fun _ _ _ _ => ⟨rfl, fun _ _ _ => rfl⟩) (fun _ _ => rfl)
  · rintro (hF | ⟨r, y, s', hy, ho, hb'⟩)
    · exact (h.sep q b s (own q hq).2 hb).1 hF
    · have := h.disj q (d, r) b s s' (own q hq).2 (ownx r y hy ho) hb hb'
      exact (own q hq).1 (by rw [this])
  · rcases hb with hb | ⟨r, y, s, hy, ho, hb⟩
    · exact h.fr b hb
    · refine ⟨h.own_lt (ownx r y hy ho) hb, fun hlt => ?_⟩
      have := hf r y b s hy ho hb
      omega

/-- A slice literal, frozen. -/
theorem q_sliceLitZ {t n sz : Nat} {zs cs : List AV} {parts : List (Nat × Operand)} (h : litTy P t = some (sz, zs)) (hsm : Nat.ble (n * sz) 16777216 = true)
    (hf : fillA (fun i => some (i * sz, sz)) (rep n zs) (parts.map fun x => (x.1, rd N σ x.2)) = some cs) (hl : Nat.beq cs.length (n * sz) = true) (hp : pureL cs = true) :
    QSem P N A (sliceLit t n parts) ty σ (slotsL (parts.map (·.2))) (.sl (shL cs) n) := by
  intro hA σ' hD gv e a w β F hi d o ho hty K Q hK
  obtain ⟨el, arr0, harr, hrun⟩ := run_lit h (Nat.le_of_ble_eq_true hsm)
  obtain ⟨cells, he, hc1, hc2, hc3⟩ := fill_spec (β := β) (F := F) (w := w) (parts.map fun x => (x.1, rd N σ x.2)) (parts.map fun x => (x.1, a.eval x.2)) _ arr0 cs (harr β F w) (by simp)
      (fun j i v hj => by
        rw [List.getElem?_map] at hj
        cases hp : parts[j]? with
        | none => rw [hp] at hj; cases hj
        | some x =>
          rw [hp] at hj
          simp only [Option.map_some, Option.some.injEq, Prod.mk.injEq] at hj
          obtain ⟨rfl, rfl⟩ := hj
          refine ⟨noOwn_rd _, a.eval x.2, (0, []), by rw [List.getElem?_map, hp]; rfl, ?_⟩
          have := rd_rep hi x.2 (0, [])
          rwa [rd_agree (fun i hi' => hD i (List.mem_flatMap.2 ⟨x.2, List.mem_map.2 ⟨x, List.mem_of_getElem? hp, rfl⟩, hi'⟩))] at this) hf
  have hr := hrun (parts.map fun x => (x.1, a.eval x.2)).toArray cells w (by simpa using he)
  obtain ⟨β', h'⟩ := hi.new_osl (us := cells.toList) (by simpa using hc1) hc3 hp el d (arr := cells) (sz := sz) (n := n) (capv := n) (cap := some n) (fun j x hx => hx) (by rw [hc1]; exact Nat.eq_of_beq_eq_true hl) (Nat.le_refl _) (fun c hc => by cases hc; rfl)
  have hfz := h'.freeze (fun r y b s hy hyo hb => by
    cases r with
    | nil =>
      have hrep := h'.rep d
      rw [upd_same, upd_same] at hrep
      simp only [Rep] at hrep
      rcases hrep with ⟨h1, _⟩ | ⟨_, b', _, _, _, h1, h2, _⟩
      · rw [h1] at hb; cases hb
      · rw [h1] at hb; cases hb
        simp only [Value.slice.injEq, Option.some.injEq, Addr.mk.injEq] at h2
        have := hi.grow
        omega
    | cons j r =>
      simp only [node, kids] at hy
      cases hc : cs[j]? with
      | none => rw [hc] at hy; cases hy
      | some c =>
        rw [hc] at hy
        rw [pure_own (pureL_mem hp (List.mem_of_getElem? hc)) hy] at hyo; cases hyo)
  refine wp_value (v := .slice (some ⟨w.heap.size, 0, none⟩) n n) (w' := w.alloc (.cells cells el)) ?_ (hK _ _ ⟨β', _, hfz⟩)
  simp only [execOp, ho, sliceLit, List.map_toArray, hr, Sem.run_bind, Sem.run_pure, Result.andThen_ok]

end
end Go.Av
namespace Go.Av
open Go
def listB (vars : Int) (L M : List (List Int)) : Bool := cnfB vars L && (decide ((M.length : Int) ≤ 60) && !(List.range M.length).any fun i => !clB vars (gl M i))
theorem listB_spec {vars : Int} {L M : List (List Int)} (h : listB vars L M = true) : cnfB vars L = true ∧ M.length ≤ 60 ∧ ∀ i, i < M.length → clB vars (gl M i) = true := by
  simp only [listB, Bool.and_eq_true, decide_eq_true_eq, Bool.not_eq_true', List.any_eq_false] at h
  exact ⟨h.1, by omega, fun i hi => by have := h.2.2 i (by simpa using hi); simpa using this⟩
theorem listB_no {vars : Int} {L M : List (List Int)} {i : Nat} (hi : i < M.length) (h : clB vars (gl M i) = false) : listB vars L M = false := by
  unfold listB
  rw [show ((List.range M.length).any fun i => !clB vars (gl M i)) = true from List.any_eq_true.2 ⟨i, by simpa using hi, by simp [h]⟩]; simp
theorem listB_yes {vars : Int} {L M : List (List Int)} (hc : cnfB vars L = true) (hM : (M.length : Int) ≤ 60) (h : ∀ i, i < M.length → clB vars (gl M i) = true) : listB vars L M = true := by
  unfold listB
  rw [hc, decide_eq_true hM, show ((List.range M.length).any fun i => !clB vars (gl M i)) = false from List.any_eq_false.2 fun i hi => by simp [h i (by simpa using hi)]]; rfl
theorem gl_app {L M : List (List Int)} {i : Nat} : gl (L ++ M) i = if i < L.length then gl L i else gl M (i - L.length) := by
  unfold gl
  split
  · rename_i h; rw [List.getElem?_append_left h]
  · rename_i h; rw [List.getElem?_append_right (by omega)]
theorem gl_tk {M : List (List Int)} {k i : Nat} (h : i < k) : gl (M.take k) i = gl M i := by unfold gl; rw [List.getElem?_take_of_lt h]
/-- The clauses of a formula, and behind them those of a list ahead of k. -/
theorem bef_cl {vars : Int} {L M : List (List Int)} (h : listB vars L M = true) (k : Nat) : ∀ i, i < (L ++ M.take k).length → clB vars (gl (L ++ M.take k) i) = true := fun i hi => by
  obtain ⟨h1, h2, h3⟩ := listB_spec h
  rw [gl_app]
  rw [List.length_append, List.length_take] at hi
  split
  · rename_i hl; exact (cnfB_spec h1).2.2 i hl
  · rw [gl_tk (by omega)]; exact h3 _ (by omega)
theorem bef_len (L M : List (List Int)) (k : Nat) : (L ++ M.take k).length ≤ L.length + M.length := by rw [List.length_append, List.length_take]; omega
def folU (L M : List (List Int)) (k : Nat) : Bool := folB (L ++ M.take k) (gl M k)
def fstU (L M : List (List Int)) : Int := fidx (fun k => !folU L M k) M.length
theorem fstU_found {L M : List (List Int)} {k : Nat} (hk : k < M.length) (h : folU L M k = false) (hn : ∀ j, j < k → folU L M j = true) : fstU L M = k := fidx_found (p := fun k => !folU L M k) hk (by simp [h]) (fun j hj => by simp [hn j hj])
theorem fstU_none {L M : List (List Int)} (hn : ∀ j, j < M.length → folU L M j = true) : fstU L M = -1 := fidx_none (p := fun k => !folU L M k) (fun j hj => by simp [hn j hj])
def sel2 (A B : List (List Int)) (i : Nat) : List (List Int) := if i = 0 then A else B
def P2 (A B : List (List Int)) (i : Nat) : List (List Int) := if i = 0 then [] else if i = 1 then A else A ++ B
theorem P2_succ {A B : List (List Int)} {i : Nat} (h : i < 2) : P2 A B (i + 1) = P2 A B i ++ sel2 A B i := by
  rcases (by omega : i = 0 ∨ i = 1) with rfl | rfl <;> simp [P2, sel2]
theorem P2_len (A B : List (List Int)) (i : Nat) : (P2 A B i).length ≤ A.length + B.length := by
  unfold P2; split
  · simp
  · split
    · omega
    · simp
theorem sel2_len (A B : List (List Int)) (i : Nat) : (sel2 A B i).length ≤ A.length + B.length := by unfold sel2; split <;> omega
end Go.Av
namespace Go.Av
open Go Go.Proofs Go.Sort
set_option maxRecDepth 10000
theorem ap22 : appTy Try.prog 22 = some (1, 24) := by kernel_rfl
theorem es120 : elemSize Try.prog 120 = some 1 := by kernel_rfl
theorem hb110 : hasBody Try.prog 110 = true := by kernel_rfl
theorem hb111 : hasBody Try.prog 111 = true := by kernel_rfl
theorem hb112 : hasBody Try.prog 112 = true := by kernel_rfl
theorem hb132 : hasBody Try.prog 132 = true := by kernel_rfl
theorem hb74 : hasBody Try.prog 74 = true := by kernel_rfl
theorem hb79 : hasBody Try.prog 79 = true := by kernel_rfl
theorem lt120 : litTy Try.prog 120 = some (1, [.nils]) := by kernel_rfl
theorem lt22 : litTy Try.prog 22 = some (1, [.nils]) := by kernel_rfl
theorem sl120 : isSlice Try.prog 120 = true := by kernel_rfl
theorem sp29 : structPl Try.prog 29 = some ([.int .i64 0, .nils], [(0, 1), (1, 1)]) := by kernel_rfl

theorem listOk1_c (vars : Int) (L : List (List Int)) (c : List Int) (hv : -9223372036854775808 ≤ vars ∧ vars ≤ 9223372036854775807) (hl : (c.length : Int) ≤ 9223372036854775807) (hb : ∀ j, -9223372036854775808 ≤ gd c j ∧ gd c j ≤ 9223372036854775807) : ACall Try.prog 111 [.sl (icells c) c.length, .pp [.int .i64 vars, .sl (sls L) L.length] 0] [] (.bool (!clB vars c)) [] := by
  refine ACall.intro Try.func111 rfl (N := 9) rfl (by decide) (by simp) ?_
  refine a_seq ?_
  refine a_region ?_
  refine r_val (v := .bool _) (v_assign (.inl rfl) (noOwn_flat rfl)) rfl rfl (by decide) ?_
  refine r_nil ?_
  refine a_seq ?_
  refine a_region ?_
  refine r_val (v := .pp _ _) (v_fieldAddr_pp fo29_0 (.inl rfl)) rfl rfl (by decide) ?_
  refine r_val (v := .int _ _) (v_load_pp ta3 (.inl rfl) (fun _ => rfl) rfl) rfl rfl (by decide) ?_
  refine r_val (v := .sl _ _) (v_move (.inl rfl) (noOwn_flat rfl)) rfl rfl (by decide) ?_
  refine r_new (v := .bool _) (q_call (vs := [.int _ _, .sl _ _]) (args := [.int .i64 _, .sl _ _]) hb59 ⟨.inl rfl, .inl rfl, trivial⟩ rfl (fun hA => isClause_c vars c hv hl hb) rfl rfl) rfl rfl (by decide) ?_
  refine r_val (v := .bool _) (v_not (.inl rfl)) rfl rfl (by decide) ?_
  refine r_val (v := .bool _) (v_assign (.inl rfl) (noOwn_flat rfl)) rfl rfl (by decide) ?_
  refine r_nil ?_
  refine a_ret ?_
  refine ret1 Try.results111 (by decide) (by decide) (Weak.of_eq (bool_eq ?_)) rfl Leaves.nil
  rfl

theorem listOk_c (vars : Int) (L M : List (List Int)) (hk : CnfOk vars L) (hm : CnfOk vars M) : ACall Try.prog 69 [.agg [.int .i64 vars, .sl (sls L) L.length], .sl (sls M) M.length] [] (.bool (listB vars L M)) [] := by
  have hbL := hb111
  have hk1 := hk.1
  have hm1 := hm.2.1
  have hm2 := hm.2.2.1
  refine ACall.intro Try.func69 rfl (N := 18) rfl (by decide) (by simp) ?_
  refine a_seq ?_
  refine a_region ?_
  refine r_new (v := .op [.int _ _, .sl _ _]) (q_box (.inl rfl) rfl rfl) rfl rfl (by decide) ?_
  refine r_val (v := .bool _) (v_assign (.inl rfl) (noOwn_flat rfl)) rfl rfl (by decide) ?_
  refine r_nil ?_
  refine a_seq ?_
  refine a_region ?_
  refine r_val (v := .agg [.int _ _, .sl _ _]) (v_load_rpa1 ta29 (.inl rfl) rfl rfl (fun _ => rfl) rfl) rfl rfl (by decide) ?_
  refine r_new (v := .bool _) (q_call (vs := [.agg [.int _ _, .sl _ _]]) (args := [.agg [.int .i64 _, .sl _ _]]) hb58 ⟨.inl rfl, trivial⟩ rfl (fun hA => isCnf_c vars L hk) rfl rfl) rfl rfl (by decide) ?_
  refine r_val (v := .bool _) (v_move (.inl rfl) (noOwn_flat rfl)) rfl rfl (by decide) ?_
  refine r_gval (v := .sl _ _) (v_move (.inl rfl) (noOwn_flat rfl)) rfl rfl rfl (by decide) (.inl ⟨_, rfl, rfl⟩) rfl (by decide) ?_
  refine r_gval (v := .int _ _) (v_len_sl sl22 (.inr ⟨_, rfl, fun h => h⟩)) rfl rfl rfl (by decide) (.inl ⟨_, rfl, rfl⟩) rfl (by decide) ?_
  refine r_gval (v := .bool _) (v_leq (.inr ⟨_, rfl, fun h => h⟩) (.inl rfl)) rfl rfl rfl (by decide) (.inl ⟨_, rfl, rfl⟩) rfl (by decide) ?_
  refine r_val (v := .bool _) (v_pick (.inl rfl) (.inr ⟨_, rfl, fun h h2 => by simp_all⟩) (.inl rfl)) rfl rfl (by decide) ?_
  refine r_val (v := .bool _) (v_move (.inl rfl) (noOwn_flat rfl)) rfl rfl (by decide) ?_
  refine r_gval (v := .sl _ _) (v_move (.inl rfl) (noOwn_flat rfl)) rfl rfl rfl (by decide) (.inl ⟨_, rfl, rfl⟩) rfl (by decide) ?_
  refine r_gval (v := .fn _ _ _) (v_makeFunc (first := []) (caps := [.tmp 2]) rfl rfl) rfl rfl rfl (by decide) (.inl ⟨_, rfl, rfl⟩) rfl (by decide) ?_
  refine r_guard (v := .bool _) (q_call (vs := [.sl _ _, .fn _ _ _]) (args := [.sl _ _, .fn _ _ _]) hb110 ⟨.inr ⟨_, rfl, fun h => h⟩, .inr ⟨_, rfl, fun h => h⟩, trivial⟩ rfl (fun hA => contL_c 111 [.pp [.int .i64 vars, .sl (sls L) L.length] 0] hbL rfl M (fun i => !clB vars (gl M i)) (by omega) (fun i hi => listOk1_c vars L (gl M i) hk1 (by have := len_tot (L := M) (i := i); omega) (fun j => hm.2.2.2 i j))) rfl rfl) rfl rfl rfl (by decide) (.inl ⟨_, rfl, rfl⟩) rfl (by decide) ?_
  refine r_gval (v := .bool _) (v_not (.inr ⟨_, rfl, fun h => h⟩)) rfl rfl rfl (by decide) (.inl ⟨_, rfl, rfl⟩) rfl (by decide) ?_
  refine r_val (v := .bool _) (v_pick (.inl rfl) (.inr ⟨_, rfl, fun h h2 => by simp_all⟩) (.inl rfl)) rfl rfl (by decide) ?_
  refine r_val (v := .bool _) (v_assign (.inl rfl) (noOwn_flat rfl)) rfl rfl (by decide) ?_
  refine r_nil ?_
  refine a_ret ?_
  refine ret1 Try.results69 (by decide) (by decide) (Weak.of_eq (bool_eq ?_)) rfl Leaves.nil
  unfold listB; cases cnfB vars L <;> cases decide ((M.length : Int) ≤ 60) <;> simp

theorem takes_c (vars : Int) (L M : List (List Int)) (hk : CnfOk vars L) (hm : CnfOk vars M) : ACall Try.prog 67 [.agg [.int .i64 vars, .sl (sls L) L.length], .sl (sls M) M.length] [] (.bool (listB vars L M)) [] := by
  have hk1 := hk.1
  have hm1 := hm.2.1
  have hm2 := hm.2.2.1
  refine ACall.intro Try.func67 rfl (N := 28) rfl (by decide) (by simp) ?_
  refine a_seq ?_
  refine a_region ?_
  refine r_new (v := .op [.int _ _, .sl _ _]) (q_box (.inl rfl) rfl rfl) rfl rfl (by decide) ?_
  refine r_val (v := .bool _) (v_assign (.inl rfl) (noOwn_flat rfl)) rfl rfl (by decide) ?_
  refine r_nil ?_
  refine a_seq ?_
  refine a_seq ?_
  refine a_region ?_
  refine r_val (v := .agg [.int _ _, .sl _ _]) (v_load_rpa1 ta29 (.inl rfl) rfl rfl (fun _ => rfl) rfl) rfl rfl (by decide) ?_
  refine r_new (v := .bool _) (q_call (vs := [.agg [.int _ _, .sl _ _]]) (args := [.agg [.int .i64 _, .sl _ _]]) hb55 ⟨.inl rfl, trivial⟩ rfl (fun hA => l2Good_c vars L hk) rfl rfl) rfl rfl (by decide) ?_
  refine r_val (v := .bool _) (v_not (.inl rfl)) rfl rfl (by decide) ?_
  refine r_val (v := .bool _) (v_move (.inl rfl) (noOwn_flat rfl)) rfl rfl (by decide) ?_
  refine r_gval (v := .sl _ _) (v_move (.inl rfl) (noOwn_flat rfl)) rfl rfl rfl (by decide) (.inl ⟨_, rfl, rfl⟩) rfl (by decide) ?_
  refine r_gval (v := .int _ _) (v_len_sl sl22 (.inr ⟨_, rfl, fun h => h⟩)) rfl rfl rfl (by decide) (.inl ⟨_, rfl, rfl⟩) rfl (by decide) ?_
  refine r_gval (v := .bool _) (v_gtr (.inr ⟨_, rfl, fun h => h⟩) (.inl rfl)) rfl rfl rfl (by decide) (.inl ⟨_, rfl, rfl⟩) rfl (by decide) ?_
  refine r_val (v := .bool _) (v_pick (.inl rfl) (.inl rfl) (.inr ⟨_, rfl, fun h h2 => by simp_all⟩)) rfl rfl (by decide) ?_
  refine r_nil ?_
  refine a_cond rfl (fun ht13 => ?_) (fun ht13 => ?_)
  ·
    skip
    refine a_seq ?_
    refine a_region ?_
    refine r_val (v := .bool _) (v_assign (.inl rfl) (noOwn_flat rfl)) rfl rfl (by decide) ?_
    refine r_nil ?_
    refine a_ret ?_
    refine ret1 Try.results67 (by decide) (by decide) (Weak.of_eq (bool_eq ?_)) rfl Leaves.nil
    unfold listB; cases h1 : cnfB vars L <;> simp_all <;> (intro h9; omega)
  ·
    skip
    refine a_skip ?_
    refine a_seq ?_
    refine a_seq ?_
    have hc : cnfB vars L = true ∧ (M.length : Int) ≤ 60 := (by cases h1 : cnfB vars L <;> simp_all)
    refine a_region ?_
    refine r_val (v := .int _ _) (v_assign (.inl rfl) (noOwn_flat rfl)) rfl rfl (by decide) ?_
    refine r_nil ?_
    refine a_block ?_
    refine a_loop (X := Nat) (fun i => look [(1, .sl (sls M) M.length), (2, .op [.int .i64 vars, .sl (sls L) L.length]), (5, .int .i64 ((i : Nat) : Int))]) (fun i => i ≤ M.length ∧ ∀ j, j < i → clB vars (gl M j) = true) (fun i => M.length - i) 0 (ent_look ⟨Weak.of_eq rfl, Weak.of_eq rfl, Weak.of_eq rfl, trivial⟩) ⟨Nat.zero_le _, fun j h => by omega⟩ (fun i hG => ?_)
    obtain ⟨g1, g2⟩ := hG
    have hmr := len_tot (L := M) (i := i)
    refine a_seq ?_
    refine a_seq ?_
    refine a_region ?_
    refine r_val (v := .int _ _) (v_move (.inl rfl) (noOwn_flat rfl)) rfl rfl (by decide) ?_
    refine r_val (v := .sl _ _) (v_move (.inl rfl) (noOwn_flat rfl)) rfl rfl (by decide) ?_
    refine r_val (v := .int _ _) (v_len_sl sl22 (.inl rfl)) rfl rfl (by decide) ?_
    refine r_val (v := .bool _) (v_lss (.inl rfl) (.inl rfl)) rfl rfl (by decide) ?_
    refine r_nil ?_
    refine a_cond rfl (fun ht17 => ?_) (fun ht17 => ?_)
    ·
      skip
      refine a_skip ?_
      refine a_seq ?_
      refine a_block ?_
      refine a_seq ?_
      have hi : i < M.length := (by simp at ht17; omega)
      refine a_region_any mixed (by kernel_rfl) ?_
      refine y_val (v := .rp _ _) (v_fieldAddr_rp fo29_0 (.inl rfl)) rfl rfl (by decide) (by kernel_rfl) ?_
      refine y_val (v := .int _ _) (v_load_rp1 ta3 (.inl rfl) rfl (fun _ => rfl) rfl) rfl rfl (by decide) (by kernel_rfl) ?_
      refine y_val (v := .sl _ _) (v_move (.inl rfl) (noOwn_flat rfl)) rfl rfl (by decide) (by kernel_rfl) ?_
      refine y_val (v := .int _ _) (v_move (.inl rfl) (noOwn_flat rfl)) rfl rfl (by decide) (by kernel_rfl) ?_
      refine y_val (v := .pp _ _) (v_indexAddr_sl es22 (.inl rfl) (.inl rfl) (fun _ => ⟨by omega, by omega, sls_ne hi⟩)) rfl rfl (by decide) (by kernel_rfl) ?_
      refine y_val (v := .sl (icells (gl M i)) (gl M i).length) (v_load_pp ta25 (.inl rfl) (fun _ => by rw [Nat.mul_one]; exact sls_get hi) rfl) rfl rfl (by decide) (by kernel_rfl) ?_
      refine y_new (v := .bool _) (q_call (vs := [.int _ _, .sl _ _]) (args := [.int .i64 _, .sl _ _]) hb56 ⟨.inl rfl, .inl rfl, trivial⟩ rfl (fun hA => l2Clause_c vars (gl M i) hk1 (by omega) (fun j => hm.2.2.2 i j)) rfl rfl) rfl rfl (by decide) (by kernel_rfl) ?_
      refine y_val (v := .bool _) (v_not (.inl rfl)) rfl rfl (by decide) (by kernel_rfl) ?_
      refine y_nil ?_
      refine a_cond rfl (fun ht27 => ?_) (fun ht27 => ?_)
      ·
        skip
        refine a_seq ?_
        have hno := listB_no (L := L) hi (by simpa using ht27)
        refine a_region ?_
        refine r_val (v := .bool _) (v_assign (.inl rfl) (noOwn_flat rfl)) rfl rfl (by decide) ?_
        refine r_nil ?_
        refine a_ret ?_
        refine ret1 Try.results67 (by decide) (by decide) (Weak.of_eq (bool_eq ?_)) rfl Leaves.nil
        rw [hno]
      ·
        skip
        refine a_skip ?_
        refine a_region ?_
        refine r_val (v := .int _ _) (v_move (.inl rfl) (noOwn_flat rfl)) rfl rfl (by decide) ?_
        refine r_val (v := .int _ _) (v_add (.inl rfl) (.inl rfl) (fun _ => by omega)) rfl rfl (by decide) ?_
        refine r_val (v := .int _ _) (v_assign (.inl rfl) (noOwn_flat rfl)) rfl rfl (by decide) ?_
        refine r_nil ?_
        refine ⟨i + 1, ent_look ⟨Weak.of_eq rfl, Weak.of_eq rfl, Weak.of_eq (int_eq (by omega)), trivial⟩, ⟨by omega, fun j h1 => by rcases Nat.lt_or_ge j i with h | h; exact g2 j h; (obtain rfl : j = i := by omega); simpa using ht27⟩, by omega⟩
    ·
      skip
      refine a_exit ?_
      refine a_seq ?_
      have hyes := listB_yes hc.1 hc.2 (fun j hj => g2 j (by simp at ht17; omega))
      refine a_region ?_
      refine r_val (v := .bool _) (v_assign (.inl rfl) (noOwn_flat rfl)) rfl rfl (by decide) ?_
      refine r_nil ?_
      refine a_ret ?_
      refine ret1 Try.results67 (by decide) (by decide) (Weak.of_eq (bool_eq ?_)) rfl Leaves.nil
      rw [hyes]

theorem growL_c (m : Nat) (h : m ≤ 8388608) : ACall Try.prog 132 [.nils, .int .i64 ((m : Nat) : Int)] [] (.osl 1 [] 0 none) [] := by
  refine ACall.intro Try.func132 rfl (N := 27) rfl (by decide) (by simp) ?_
  refine a_seq ?_
  refine a_region ?_
  refine r_val (v := .nils) (v_assign (.inl rfl) (noOwn_flat rfl)) rfl rfl (by decide) ?_
  refine r_nil ?_
  refine a_seq ?_
  refine a_seq ?_
  refine a_region ?_
  refine r_val (v := .int _ _) (v_move (.inl rfl) (noOwn_flat rfl)) rfl rfl (by decide) ?_
  refine r_val (v := .bool _) (v_lss (.inl rfl) (.inl rfl)) rfl rfl (by decide) ?_
  refine r_nil ?_
  refine a_cond rfl (fun ht6 => ?_) (fun ht6 => ?_)
  ·
    skip
    exfalso
    simp at ht6; omega
  ·
    skip
    refine a_skip ?_
    refine a_seq ?_
    refine a_seq ?_
    refine a_region ?_
    refine r_val (v := .int _ _) (v_move (.inl rfl) (noOwn_flat rfl)) rfl rfl (by decide) ?_
    refine r_val (v := .nils) (v_move (.inl rfl) (noOwn_flat rfl)) rfl rfl (by decide) ?_
    refine r_val (v := .int _ _) (v_cap_nils sl22 (.inl rfl)) rfl rfl (by decide) ?_
    refine r_val (v := .nils) (v_move (.inl rfl) (noOwn_flat rfl)) rfl rfl (by decide) ?_
    refine r_val (v := .int _ _) (v_len_nils sl22 (.inl rfl)) rfl rfl (by decide) ?_
    refine r_val (v := .int _ _) (v_sub (.inl rfl) (.inl rfl) (fun _ => by omega)) rfl rfl (by decide) ?_
    refine r_val (v := .int .i64 ((m : Nat) : Int)) ((v_sub (.inl rfl) (.inl rfl) (fun _ => by omega)).cast (int_eq (by omega))) rfl rfl (by decide) ?_
    refine r_val (v := .int _ _) (v_assign (.inl rfl) (noOwn_flat rfl)) rfl rfl (by decide) ?_
    refine r_nil ?_
    refine a_seq ?_
    refine a_region ?_
    refine r_val (v := .int _ _) (v_move (.inl rfl) (noOwn_flat rfl)) rfl rfl (by decide) ?_
    refine r_val (v := .bool _) (v_gtr (.inl rfl) (.inl rfl)) rfl rfl (by decide) ?_
    refine r_nil ?_
    refine a_cond rfl (fun ht16 => ?_) (fun ht16 => ?_)
    ·
      skip
      refine a_region ?_
      refine r_val (v := .nils) (v_move (.inl rfl) (noOwn_flat rfl)) rfl rfl (by decide) ?_
      refine r_val (v := .nils) (v_move (.inl rfl) (noOwn_flat rfl)) rfl rfl (by decide) ?_
      refine r_val (v := .int _ _) (v_cap_nils sl22 (.inl rfl)) rfl rfl (by decide) ?_
      refine r_val (v := .nils) (v_slice_nils (h := 0) es22 (.inl rfl) (.inr ⟨_, _, rfl, .inl rfl⟩) (fun _ => rfl)) rfl rfl (by decide) ?_
      refine r_val (v := .int _ _) (v_move (.inl rfl) (noOwn_flat rfl)) rfl rfl (by decide) ?_
      refine r_new (v := .osl _ _ _ _) (q_append_make ap22 uni3 (.inl (.inl rfl)) (.inl rfl) (fun _ => by simp at ht16; omega)) rfl rfl (by decide) ?_
      refine r_val (v := .nils) (v_move (.inl rfl) (noOwn_flat rfl)) rfl rfl (by decide) ?_
      refine r_val (v := .int _ _) (v_len_nils sl22 (.inl rfl)) rfl rfl (by decide) ?_
      refine r_val (v := .rsl (22, []) 1 0 0 none) ((v_slice_rsl (l := 0) (h := 0) es22 (.inl rfl) (.inl ⟨rfl, rfl⟩) (.inr ⟨_, _, rfl, .inl rfl⟩) (fun _ => by omega)).cast (rfl)) rfl rfl (by decide) ?_
      refine r_val (v := .rsl _ _ _ _ _) (v_assign (.inl rfl) (noOwn_flat rfl)) rfl rfl (by decide) ?_
      refine r_pre (ent_reloc_sl (t := 0) rfl rfl) ?_
      refine r_nil ?_
      refine a_seq ?_
      refine a_region ?_
      refine r_val (v := .rsl _ _ _ _ _) (v_move (.inl rfl) (noOwn_flat rfl)) rfl rfl (by decide) ?_
      refine r_val (v := .rsl _ _ _ _ _) (v_assign (.inl rfl) (noOwn_flat rfl)) rfl rfl (by decide) ?_
      refine r_pre (ent_reloc_sl (t := 4) rfl rfl) ?_
      refine r_nil ?_
      refine a_ret ?_
      refine ret1 Try.results132 (by decide) (by decide) (Weak.osl ?_ ?_) rfl Leaves.nil
      · rfl
      · rfl
    ·
      skip
      refine a_skip ?_
      refine a_seq ?_
      refine a_region ?_
      refine r_val (v := .nils) (v_move (.inl rfl) (noOwn_flat rfl)) rfl rfl (by decide) ?_
      refine r_val (v := .nils) (v_assign (.inl rfl) (noOwn_flat rfl)) rfl rfl (by decide) ?_
      refine r_nil ?_
      refine a_pre (ent_nil (t := 4) (sz := 1) (cap := none) (.inl rfl) (fun _ h => by cases h)) ?_
      refine a_ret ?_
      refine ret1 Try.results132 (by decide) (by decide) (Weak.osl ?_ ?_) rfl Leaves.nil
      · rfl
      · rfl

theorem concat2_c (A B : List (List Int)) (h : A.length + B.length ≤ 1048576) : ACall Try.prog 112 [.sl [.sl (sls A) A.length, .sl (sls B) B.length] 2] [] (.osl 1 (sls (A ++ B)) (A ++ B).length none) [] := by
  refine ACall.intro Try.func112 rfl (N := 36) rfl (by decide) (by simp) ?_
  refine a_seq ?_
  refine a_region ?_
  refine r_val (v := .nils) (v_assign (.inl rfl) (noOwn_flat rfl)) rfl rfl (by decide) ?_
  refine r_nil ?_
  refine a_seq ?_
  refine a_region ?_
  refine r_val (v := .int _ _) (v_assign (.inl rfl) (noOwn_flat rfl)) rfl rfl (by decide) ?_
  refine r_nil ?_
  refine a_seq ?_
  refine a_seq ?_
  refine a_region ?_
  refine r_val (v := .sl _ _) (v_move (.inl rfl) (noOwn_flat rfl)) rfl rfl (by decide) ?_
  refine r_val (v := .int _ _) (v_len_sl sl120 (.inl rfl)) rfl rfl (by decide) ?_
  refine r_val (v := .int _ _) (v_move (.inl rfl) (noOwn_flat rfl)) rfl rfl (by decide) ?_
  refine r_nil ?_
  refine a_block ?_
  refine a_loop (X := Nat) (fun i => look [(0, .sl [.sl (sls A) A.length, .sl (sls B) B.length] 2), (3, .int .i64 (((P2 A B i).length : Nat) : Int)), (9, .sl [.sl (sls A) A.length, .sl (sls B) B.length] 2), (10, .int .i64 ((2 : Nat) : Int)), (11, .int .i64 ((i : Nat) : Int))]) (fun i => i ≤ 2) (fun i => 2 - i) 0 (ent_look ⟨Weak.of_eq rfl, Weak.of_eq rfl, Weak.of_eq rfl, Weak.of_eq rfl, Weak.of_eq rfl, trivial⟩) (Nat.zero_le _) (fun i hG => ?_)
  have hpl := P2_len A B i
  have hsl := sel2_len A B i
  refine a_seq ?_
  refine a_region ?_
  refine r_val (v := .bool _) (v_lss (.inl rfl) (.inl rfl)) rfl rfl (by decide) ?_
  refine r_nil ?_
  refine a_seq ?_
  refine a_cond rfl (fun ht12 => ?_) (fun ht12 => ?_)
  ·
    skip
    refine a_skip ?_
    refine a_seq ?_
    refine a_block ?_
    refine a_seq ?_
    have hi : i < 2 := (by simp at ht12; omega)
    refine a_region ?_
    refine r_val (v := .pp _ _) (v_indexAddr_sl es120 (.inl rfl) (.inl rfl) (fun _ => ⟨by omega, by omega, by simp⟩)) rfl rfl (by decide) ?_
    refine r_val (v := .sl (sls (sel2 A B i)) (sel2 A B i).length) (v_load_pp ta22 (.inl rfl) (fun _ => by rcases (by omega : i = 0 ∨ i = 1) with rfl | rfl <;> rfl) rfl) rfl rfl (by decide) ?_
    refine r_val (v := .sl _ _) (v_assign (.inl rfl) (noOwn_flat rfl)) rfl rfl (by decide) ?_
    refine r_nil ?_
    refine a_seq ?_
    refine a_region ?_
    refine r_val (v := .int _ _) (v_move (.inl rfl) (noOwn_flat rfl)) rfl rfl (by decide) ?_
    refine r_val (v := .sl _ _) (v_move (.inl rfl) (noOwn_flat rfl)) rfl rfl (by decide) ?_
    refine r_val (v := .int _ _) (v_len_sl sl22 (.inl rfl)) rfl rfl (by decide) ?_
    refine r_val (v := .int .i64 (((P2 A B (i + 1)).length : Nat) : Int)) ((v_add (.inl rfl) (.inl rfl) (fun _ => by omega)).cast (int_eq (by rw [P2_succ hi, List.length_append]; omega))) rfl rfl (by decide) ?_
    refine r_val (v := .int _ _) (v_assign (.inl rfl) (noOwn_flat rfl)) rfl rfl (by decide) ?_
    refine r_nil ?_
    refine a_seq ?_
    refine a_region ?_
    refine r_val (v := .int _ _) (v_move (.inl rfl) (noOwn_flat rfl)) rfl rfl (by decide) ?_
    refine r_val (v := .bool _) (v_lss (.inl rfl) (.inl rfl)) rfl rfl (by decide) ?_
    refine r_nil ?_
    refine a_cond rfl (fun ht20 => ?_) (fun ht20 => ?_)
    ·
      skip
      exfalso
      first | (simp at ht20; done) | (simp at ht20; omega)
    ·
      skip
      refine a_skip ?_
      refine a_region ?_
      refine r_val (v := .int _ _) (v_add (.inl rfl) (.inl rfl) (fun _ => by omega)) rfl rfl (by decide) ?_
      refine r_val (v := .int _ _) (v_move (.inl rfl) (noOwn_flat rfl)) rfl rfl (by decide) ?_
      refine r_nil ?_
      refine ⟨i + 1, ent_look ⟨Weak.of_eq rfl, Weak.of_eq rfl, Weak.of_eq rfl, Weak.of_eq rfl, Weak.of_eq (int_eq (by omega)), trivial⟩, by omega, by omega⟩
  ·
    skip
    refine a_exit ?_
    refine a_seq ?_
    have hie : i = 2 := (by simp at ht12; omega)
    refine a_region ?_
    refine r_val (v := .int _ _) (v_move (.inl rfl) (noOwn_flat rfl)) rfl rfl (by decide) ?_
    refine r_new (v := .osl _ _ _ _) (q_callP (vs := [.nils, .int .i64 (((P2 A B i).length : Nat) : Int)]) hb132 ⟨.inl rfl, .inl rfl, trivial⟩ rfl (fun hA => growL_c (P2 A B i).length (by omega)) rfl rfl) rfl rfl (by decide) ?_
    refine r_val (v := .rsl _ _ _ _ _) (v_assign (.inl rfl) (noOwn_flat rfl)) rfl rfl (by decide) ?_
    refine r_pre (ent_reloc_sl (t := 6) rfl rfl) ?_
    refine r_nil ?_
    refine a_seq ?_
    refine a_seq ?_
    refine a_region ?_
    refine r_val (v := .sl _ _) (v_move (.inl rfl) (noOwn_flat rfl)) rfl rfl (by decide) ?_
    refine r_val (v := .int _ _) (v_len_sl sl120 (.inl rfl)) rfl rfl (by decide) ?_
    refine r_val (v := .int _ _) (v_move (.inl rfl) (noOwn_flat rfl)) rfl rfl (by decide) ?_
    refine r_nil ?_
    refine a_block ?_
    refine a_loop (X := Nat) (fun i => look [(6, .osl 1 (sls (P2 A B i)) (P2 A B i).length none), (25, .sl [.sl (sls A) A.length, .sl (sls B) B.length] 2), (26, .int .i64 ((2 : Nat) : Int)), (27, .int .i64 ((i : Nat) : Int))]) (fun i => i ≤ 2) (fun i => 2 - i) 0 (ent_look ⟨Weak.osl rfl rfl, Weak.of_eq rfl, Weak.of_eq rfl, Weak.of_eq rfl, trivial⟩) (Nat.zero_le _) (fun i hG => ?_)
    have hpl := P2_len A B i
    have hsl := sel2_len A B i
    refine a_seq ?_
    refine a_region ?_
    refine r_val (v := .bool _) (v_lss (.inl rfl) (.inl rfl)) rfl rfl (by decide) ?_
    refine r_nil ?_
    refine a_seq ?_
    refine a_cond rfl (fun ht28 => ?_) (fun ht28 => ?_)
    ·
      skip
      refine a_skip ?_
      refine a_seq ?_
      refine a_block ?_
      refine a_seq ?_
      have hi : i < 2 := (by simp at ht28; omega)
      refine a_region ?_
      refine r_val (v := .pp _ _) (v_indexAddr_sl es120 (.inl rfl) (.inl rfl) (fun _ => ⟨by omega, by omega, by simp⟩)) rfl rfl (by decide) ?_
      refine r_val (v := .sl (sls (sel2 A B i)) (sel2 A B i).length) (v_load_pp ta22 (.inl rfl) (fun _ => by rcases (by omega : i = 0 ∨ i = 1) with rfl | rfl <;> rfl) rfl) rfl rfl (by decide) ?_
      refine r_val (v := .sl _ _) (v_assign (.inl rfl) (noOwn_flat rfl)) rfl rfl (by decide) ?_
      refine r_nil ?_
      refine a_region ?_
      refine r_val (v := .rsl _ _ _ _ _) (v_move (.inl rfl) (noOwn_flat rfl)) rfl rfl (by decide) ?_
      refine r_val (v := .sl _ _) (v_move (.inl rfl) (noOwn_flat rfl)) rfl rfl (by decide) ?_
      refine r_pre (ent_reloc_sl (t := 31) rfl rfl) ?_
      refine r_step rfl (o_append rfl ap22 rfl (by decide) (by decide) rfl (src_sl (.inl rfl) (fun _ => by rw [sls_length]; omega) (sls_pureL _)) (sls_cell _) (by rw [sls_length]; omega) (by omega)) ?_
      refine r_val (v := .rsl _ _ _ _ _) (v_assign (.inl rfl) (noOwn_flat rfl)) rfl rfl (by decide) ?_
      refine r_pre (ent_reloc_sl (t := 6) rfl rfl) ?_
      refine r_nil ?_
      refine a_region ?_
      refine r_val (v := .int _ _) (v_add (.inl rfl) (.inl rfl) (fun _ => by omega)) rfl rfl (by decide) ?_
      refine r_val (v := .int _ _) (v_move (.inl rfl) (noOwn_flat rfl)) rfl rfl (by decide) ?_
      refine r_nil ?_
      refine ⟨i + 1, ent_look ⟨Weak.osl (by rw [P2_succ hi, sls_append]) (by rw [P2_succ hi]; simp), Weak.of_eq rfl, Weak.of_eq rfl, Weak.of_eq (int_eq (by omega)), trivial⟩, by omega, by omega⟩
    ·
      skip
      refine a_exit ?_
      refine a_seq ?_
      refine a_region ?_
      refine r_val (v := .rsl _ _ _ _ _) (v_move (.inl rfl) (noOwn_flat rfl)) rfl rfl (by decide) ?_
      refine r_val (v := .rsl _ _ _ _ _) (v_assign (.inl rfl) (noOwn_flat rfl)) rfl rfl (by decide) ?_
      refine r_pre (ent_reloc_sl (t := 2) rfl rfl) ?_
      refine r_nil ?_
      refine a_ret ?_
      refine ret1 Try.results112 (by decide) (by decide) (Weak.osl ?_ ?_) rfl Leaves.nil
      · simp at ht28; rw [show i = 2 by omega]; rfl
      · simp at ht28; rw [show i = 2 by omega]; rfl

theorem before_c (vars : Int) (L M : List (List Int)) (k : Nat) (hk : k ≤ M.length) (h : L.length + M.length ≤ 1048576) : ACall Try.prog 79 [.agg [.int .i64 vars, .sl (sls L) L.length], .sl (sls M) M.length, .int .i64 ((k : Nat) : Int)] [] (.osl 1 (sls (L ++ M.take k)) (L ++ M.take k).length none) [] := by
  have htl : (M.take k).length = k := (by rw [List.length_take]; omega)
  refine ACall.intro Try.func79 rfl (N := 14) rfl (by decide) (by simp) ?_
  refine a_seq ?_
  refine a_region ?_
  refine r_new (v := .op [.int _ _, .sl _ _]) (q_box (.inl rfl) rfl rfl) rfl rfl (by decide) ?_
  refine r_val (v := .nils) (v_assign (.inl rfl) (noOwn_flat rfl)) rfl rfl (by decide) ?_
  refine r_nil ?_
  refine a_seq ?_
  refine a_region_any mixed (by kernel_rfl) ?_
  refine y_val (v := .rp _ _) (v_fieldAddr_rp fo29_1 (.inl rfl)) rfl rfl (by decide) (by kernel_rfl) ?_
  refine y_val (v := .sl _ _) (v_load_rp1 ta22 (.inl rfl) rfl (fun _ => rfl) rfl) rfl rfl (by decide) (by kernel_rfl) ?_
  refine y_val (v := .sl _ _) (v_move (.inl rfl) (noOwn_flat rfl)) rfl rfl (by decide) (by kernel_rfl) ?_
  refine y_val (v := .int _ _) (v_move (.inl rfl) (noOwn_flat rfl)) rfl rfl (by decide) (by kernel_rfl) ?_
  refine y_val (v := .sl (sls (M.take k)) (M.take k).length) ((v_slice_sl (l := 0) (h := k) es22 (.inl rfl) (.inl ⟨rfl, rfl⟩) (.inr ⟨_, _, rfl, .inl rfl⟩) (fun _ => by omega)).cast (sl_eq2 (by simp [sls]) (by omega))) rfl rfl (by decide) (by kernel_rfl) ?_
  refine y_new (v := .sl [.sl (sls L) L.length, .sl (sls (M.take k)) (M.take k).length] 2) ((q_sliceLitZ (cs := [.sl (sls L) L.length, .sl (sls (M.take k)) (M.take k).length]) (n := 2) (parts := [(0, .tmp 8), (1, .tmp 11)]) lt120 rfl rfl rfl rfl).cast (by first | rfl | rw [shL_id _ (ic_pure _).1 (ic_pure _).2])) rfl rfl (by decide) (by kernel_rfl) ?_
  refine y_new (v := .osl _ _ _ _) (q_callF (vs := [.sl _ _]) (args := [.sl _ _]) hb112 ⟨.inl rfl, trivial⟩ rfl (fun hA => concat2_c L (M.take k) (by omega)) rfl (sls_noRef _)) rfl rfl (by decide) (by kernel_rfl) ?_
  refine y_val (v := .rsl _ _ _ _ _) (v_assign (.inl rfl) (noOwn_flat rfl)) rfl rfl (by decide) (by kernel_rfl) ?_
  refine y_nil ?_
  refine a_pre (ent_reloc_sl (t := 6) rfl rfl) ?_
  refine a_ret ?_
  refine ret1 Try.results79 (by decide) (by decide) (Weak.osl ?_ ?_) rfl Leaves.nil
  all_goals rfl

theorem with_c (vars : Int) (L M : List (List Int)) (nm : Nat) (hn : M.length = nm) (h : L.length + nm ≤ 1048576) : ACall Try.prog 74 [.agg [.int .i64 vars, .sl (sls L) L.length], .sl (sls M) nm] [] (.agg [.int .i64 vars, .osl 1 (sls (L ++ M)) (L ++ M).length none]) [] := by
  refine ACall.intro Try.func74 rfl (N := 14) rfl (by decide) (by simp) ?_
  refine a_seq ?_
  refine a_region ?_
  refine r_new (v := .op [.int _ _, .sl _ _]) (q_box (.inl rfl) rfl rfl) rfl rfl (by decide) ?_
  refine r_new (v := .op [.int _ _, .nils]) (q_alloc zc29) rfl rfl (by decide) ?_
  refine r_nil ?_
  refine a_seq ?_
  refine a_region_z (n := 8) [[(5, true)], [(6, true)], [(7, true)], [(8, true)], [(9, true)], [(7, false), (10, true)], [(11, true)], [(10, false), (12, true)]] mixed (by kernel_rfl) ?_
  refine z_val (v := .rp _ _) (v_fieldAddr_rp fo29_0 (.inl rfl)) rfl rfl (by decide) rfl (by kernel_rfl) ?_
  refine z_val (v := .int _ _) (v_load_rp1 ta3 (.inl rfl) rfl (fun _ => rfl) rfl) rfl rfl (by decide) rfl (by kernel_rfl) ?_
  refine z_new (v := .osl _ _ _ _) (q_sliceLit (n := 0) (parts := []) lt22 rfl rfl rfl rfl) rfl rfl (by decide) rfl (by kernel_rfl) ?_
  refine z_val (v := .rp _ _) (v_fieldAddr_rp fo29_1 (.inl rfl)) rfl rfl (by decide) rfl (by kernel_rfl) ?_
  refine z_val (v := .sl _ _) (v_load_rp1 ta22 (.inl rfl) rfl (fun _ => rfl) rfl) rfl rfl (by decide) rfl (by kernel_rfl) ?_
  refine z_append rfl rfl ap22 rfl (by decide) (by decide) (by decide) rfl (src_sl (.inl rfl) (fun _ => by rw [sls_length]; omega) (sls_pureL _)) (sls_cell _) rfl (by omega) rfl (by kernel_rfl) ?_
  refine z_val (v := .sl _ _) (v_move (.inl rfl) (noOwn_flat rfl)) rfl rfl (by decide) rfl (by kernel_rfl) ?_
  refine z_append rfl rfl ap22 rfl (by decide) (by decide) (by decide) rfl (src_sl (.inl rfl) (fun _ => by rw [sls_length]; omega) (sls_pureL _)) (sls_cell _) (by simp [sls_length, rep]) (by omega) rfl (by kernel_rfl) ?_
  refine z_nil ?_
  refine r_pre (ent_eq (t := 12) (v' := .osl 1 (sls (L ++ M)) (L ++ M).length none) (Weak.osl (by rw [sls_append]; rfl) (by simp; omega))) ?_
  refine r_val (v := .agg [.int _ _, .rsl _ _ _ _ _]) (v_build sp29 rfl rfl) rfl rfl (by decide) ?_
  refine r_pre (ent_reloc_at_sl (t := 13) (r := [1]) rfl (by decide) rfl rfl) ?_
  refine r_step rfl (o_store_own (v := .agg [.int _ _, .osl _ _ _ _]) (y' := .op [.int _ _, .osl _ _ _ _]) rfl rfl ta29 (.inl rfl) (by decide) rfl (by decide) rfl (by simp [cellsOf, noRefL, noRef, sls_noRef]) rfl rfl rfl rfl rfl (Nat.le_of_ble_eq_true rfl) rfl rfl) ?_
  refine r_nil ?_
  refine a_ret ?_
  refine retC1 (r := .cell 4 29) Try.results74 ⟨by decide, _, cell_agg rfl ta29, rfl⟩ (by decide) (Weak.of_eq (agg_eq (l2_eq (int_eq ?_) (osl_eq2 ?_ ?_)))) rfl Leaves.nil
  all_goals rfl

theorem iFst_c (vars : Int) (L M : List (List Int)) (hlb : listB vars L M = true) : ACall Try.prog 70 [.agg [.int .i64 vars, .sl (sls L) L.length], .sl (sls M) M.length] [] (.int .i64 (fstU L M)) [] := by
  obtain ⟨hlc, hlm, hlr⟩ := listB_spec hlb
  have hcs := cnfB_spec hlc
  refine ACall.intro Try.func70 rfl (N := 23) rfl (by decide) (by simp) ?_
  refine a_seq ?_
  refine a_region ?_
  refine r_new (v := .op [.int _ _, .sl _ _]) (q_box (.inl rfl) rfl rfl) rfl rfl (by decide) ?_
  refine r_val (v := .int _ _) (v_assign (.inl rfl) (noOwn_flat rfl)) rfl rfl (by decide) ?_
  refine r_nil ?_
  refine a_seq ?_
  refine a_seq ?_
  refine a_region ?_
  refine r_val (v := .sl _ _) (v_move (.inl rfl) (noOwn_flat rfl)) rfl rfl (by decide) ?_
  refine r_val (v := .int _ _) (v_len_sl sl22 (.inl rfl)) rfl rfl (by decide) ?_
  refine r_val (v := .int _ _) (v_move (.inl rfl) (noOwn_flat rfl)) rfl rfl (by decide) ?_
  refine r_nil ?_
  refine a_block ?_
  refine a_loop (X := Nat) (fun k => look [(1, .sl (sls M) M.length), (2, .op [.int .i64 vars, .sl (sls L) L.length]), (7, .sl (sls M) M.length), (8, .int .i64 (M.length : Int)), (9, .int .i64 ((k : Nat) : Int))]) (fun k => k ≤ M.length ∧ ∀ j, j < k → folU L M j = true) (fun k => M.length - k) 0 (ent_look ⟨Weak.of_eq rfl, Weak.of_eq rfl, Weak.of_eq rfl, Weak.of_eq rfl, Weak.of_eq rfl, trivial⟩) ⟨Nat.zero_le _, fun j h => by omega⟩ (fun k hG => ?_)
  obtain ⟨g1, g2⟩ := hG
  refine a_seq ?_
  refine a_region ?_
  refine r_val (v := .bool _) (v_lss (.inl rfl) (.inl rfl)) rfl rfl (by decide) ?_
  refine r_nil ?_
  refine a_seq ?_
  refine a_cond rfl (fun ht10 => ?_) (fun ht10 => ?_)
  ·
    skip
    refine a_skip ?_
    refine a_seq ?_
    refine a_block ?_
    refine a_seq ?_
    have hk : k < M.length := (by simp at ht10; omega)
    refine a_region ?_
    refine r_val (v := .int _ _) (v_move (.inl rfl) (noOwn_flat rfl)) rfl rfl (by decide) ?_
    refine r_val (v := .pp _ _) (v_indexAddr_sl es22 (.inl rfl) (.inl rfl) (fun _ => ⟨by omega, by omega, sls_ne hk⟩)) rfl rfl (by decide) ?_
    refine r_val (v := .sl (icells (gl M k)) (gl M k).length) (v_load_pp ta25 (.inl rfl) (fun _ => by rw [Nat.mul_one]; exact sls_get hk) rfl) rfl rfl (by decide) ?_
    refine r_val (v := .int _ _) (v_assign (.inl rfl) (noOwn_flat rfl)) rfl rfl (by decide) ?_
    refine r_val (v := .sl _ _) (v_assign (.inl rfl) (noOwn_flat rfl)) rfl rfl (by decide) ?_
    refine r_nil ?_
    refine a_seq ?_
    refine a_region ?_
    refine r_val (v := .agg [.int _ _, .sl _ _]) (v_load_rpa1 ta29 (.inl rfl) rfl rfl (fun _ => rfl) rfl) rfl rfl (by decide) ?_
    refine r_val (v := .sl _ _) (v_move (.inl rfl) (noOwn_flat rfl)) rfl rfl (by decide) ?_
    refine r_val (v := .int _ _) (v_move (.inl rfl) (noOwn_flat rfl)) rfl rfl (by decide) ?_
    refine r_new (v := .osl _ _ _ _) (q_callF (vs := [.agg [.int _ _, .sl _ _], .sl _ _, .int _ _]) (args := [.agg [.int .i64 _, .sl _ _], .sl _ _, .int .i64 _]) hb79 ⟨.inl rfl, .inl rfl, .inl rfl, trivial⟩ rfl (fun hA => before_c vars L M k g1 (by omega)) rfl (sls_noRef _)) rfl rfl (by decide) ?_
    refine r_val (v := .sl _ _) (v_move (.inl rfl) (noOwn_flat rfl)) rfl rfl (by decide) ?_
    refine r_new (v := .bool _) (q_call (vs := [.rsl _ _ _ _ _, .sl _ _]) (args := [.sl _ _, .sl _ _]) hb60 ⟨.inl rfl, .inl rfl, trivial⟩ (l2_eq (sl_sh (sls_pure _)) rfl) (fun hA => iFol_c vars (L ++ M.take k) (gl M k) (bef_cl hlb k) (by have := bef_len L M k; omega) (hlr k hk)) rfl rfl) rfl rfl (by decide) ?_
    refine r_val (v := .bool _) (v_not (.inl rfl)) rfl rfl (by decide) ?_
    refine r_nil ?_
    refine a_cond rfl (fun ht20 => ?_) (fun ht20 => ?_)
    ·
      skip
      refine a_seq ?_
      refine a_region ?_
      refine r_val (v := .int _ _) (v_move (.inl rfl) (noOwn_flat rfl)) rfl rfl (by decide) ?_
      refine r_val (v := .int _ _) (v_assign (.inl rfl) (noOwn_flat rfl)) rfl rfl (by decide) ?_
      refine r_nil ?_
      refine a_ret ?_
      refine ret1 Try.results70 (by decide) (by decide) (Weak.of_eq (int_eq ?_)) rfl Leaves.nil
      exact (fstU_found hk (by unfold folU; simpa using ht20) g2).symm
    ·
      skip
      refine a_skip ?_
      refine a_region ?_
      refine r_val (v := .int _ _) (v_add (.inl rfl) (.inl rfl) (fun _ => by omega)) rfl rfl (by decide) ?_
      refine r_val (v := .int _ _) (v_move (.inl rfl) (noOwn_flat rfl)) rfl rfl (by decide) ?_
      refine r_nil ?_
      refine ⟨k + 1, ent_look ⟨Weak.of_eq rfl, Weak.of_eq rfl, Weak.of_eq rfl, Weak.of_eq rfl, Weak.of_eq (int_eq (by omega)), trivial⟩, ⟨by omega, fun j h1 => by rcases Nat.lt_or_ge j k with h | h; exact g2 j h; (obtain rfl : j = k := by omega); unfold folU; simpa using ht20⟩, by omega⟩
  ·
    skip
    refine a_exit ?_
    refine a_seq ?_
    refine a_region ?_
    refine r_val (v := .int _ _) (v_assign (.inl rfl) (noOwn_flat rfl)) rfl rfl (by decide) ?_
    refine r_nil ?_
    refine a_ret ?_
    refine ret1 Try.results70 (by decide) (by decide) (Weak.of_eq (int_eq ?_)) rfl Leaves.nil
    exact (fstU_none (fun j hj => g2 j (by simp at ht10; omega))).symm

theorem sFst_c (vars : Int) (L M : List (List Int)) (hlb : listB vars L M = true) : ACall Try.prog 68 [.agg [.int .i64 vars, .sl (sls L) L.length], .sl (sls M) M.length] [] (.int .i64 (fstU L M)) [] := by
  obtain ⟨hlc, hlm, hlr⟩ := listB_spec hlb
  have hcs := cnfB_spec hlc
  refine ACall.intro Try.func68 rfl (N := 24) rfl (by decide) (by simp) ?_
  refine a_seq ?_
  refine a_region ?_
  refine r_new (v := .op [.int _ _, .sl _ _]) (q_box (.inl rfl) rfl rfl) rfl rfl (by decide) ?_
  refine r_val (v := .int _ _) (v_assign (.inl rfl) (noOwn_flat rfl)) rfl rfl (by decide) ?_
  refine r_nil ?_
  refine a_seq ?_
  refine a_seq ?_
  refine a_region ?_
  refine r_val (v := .int _ _) (v_assign (.inl rfl) (noOwn_flat rfl)) rfl rfl (by decide) ?_
  refine r_nil ?_
  refine a_block ?_
  refine a_loop (X := Nat) (fun k => look [(1, .sl (sls M) M.length), (2, .op [.int .i64 vars, .sl (sls L) L.length]), (5, .int .i64 ((k : Nat) : Int))]) (fun k => k ≤ M.length ∧ ∀ j, j < k → folU L M j = true) (fun k => M.length - k) 0 (ent_look ⟨Weak.of_eq rfl, Weak.of_eq rfl, Weak.of_eq rfl, trivial⟩) ⟨Nat.zero_le _, fun j h => by omega⟩ (fun k hG => ?_)
  obtain ⟨g1, g2⟩ := hG
  refine a_seq ?_
  refine a_seq ?_
  refine a_region ?_
  refine r_val (v := .int _ _) (v_move (.inl rfl) (noOwn_flat rfl)) rfl rfl (by decide) ?_
  refine r_val (v := .sl _ _) (v_move (.inl rfl) (noOwn_flat rfl)) rfl rfl (by decide) ?_
  refine r_val (v := .int _ _) (v_len_sl sl22 (.inl rfl)) rfl rfl (by decide) ?_
  refine r_val (v := .bool _) (v_lss (.inl rfl) (.inl rfl)) rfl rfl (by decide) ?_
  refine r_nil ?_
  refine a_cond rfl (fun ht9 => ?_) (fun ht9 => ?_)
  ·
    skip
    refine a_skip ?_
    refine a_seq ?_
    refine a_block ?_
    refine a_seq ?_
    have hk : k < M.length := (by simp at ht9; omega)
    refine a_region_any mixed (by kernel_rfl) ?_
    refine y_val (v := .agg [.int _ _, .sl _ _]) (v_load_rpa1 ta29 (.inl rfl) rfl rfl (fun _ => rfl) rfl) rfl rfl (by decide) (by kernel_rfl) ?_
    refine y_val (v := .sl _ _) (v_move (.inl rfl) (noOwn_flat rfl)) rfl rfl (by decide) (by kernel_rfl) ?_
    refine y_val (v := .int _ _) (v_move (.inl rfl) (noOwn_flat rfl)) rfl rfl (by decide) (by kernel_rfl) ?_
    refine y_val (v := .sl (sls (M.take k)) k) ((v_slice_sl (l := 0) (h := k) es22 (.inl rfl) (.inl ⟨rfl, rfl⟩) (.inr ⟨_, _, rfl, .inl rfl⟩) (fun _ => by omega)).cast (sl_eq2 (by simp [sls]) (by omega))) rfl rfl (by decide) (by kernel_rfl) ?_
    refine y_new (v := .agg [.int _ _, .osl _ _ _ _]) (q_callF (vs := [.agg [.int _ _, .sl _ _], .sl _ _]) (args := [.agg [.int .i64 _, .sl _ _], .sl _ _]) hb74 ⟨.inl rfl, .inl rfl, trivial⟩ rfl (fun hA => with_c vars L (M.take k) k (by rw [List.length_take]; omega) (by omega)) rfl (by simp [noRef, noRefL, sls_noRef])) rfl rfl (by decide) (by kernel_rfl) ?_
    refine y_val (v := .sl _ _) (v_move (.inl rfl) (noOwn_flat rfl)) rfl rfl (by decide) (by kernel_rfl) ?_
    refine y_val (v := .int _ _) (v_move (.inl rfl) (noOwn_flat rfl)) rfl rfl (by decide) (by kernel_rfl) ?_
    refine y_val (v := .pp _ _) (v_indexAddr_sl es22 (.inl rfl) (.inl rfl) (fun _ => ⟨by omega, by omega, sls_ne hk⟩)) rfl rfl (by decide) (by kernel_rfl) ?_
    refine y_val (v := .sl (icells (gl M k)) (gl M k).length) (v_load_pp ta25 (.inl rfl) (fun _ => by rw [Nat.mul_one]; exact sls_get hk) rfl) rfl rfl (by decide) (by kernel_rfl) ?_
    refine y_new (v := .bool _) (q_call (vs := [.agg [.int _ _, .rsl _ _ _ _ _], .sl _ _]) (args := [.agg [.int .i64 _, .sl _ _], .sl _ _]) hb57 ⟨.inl rfl, .inl rfl, trivial⟩ (l2_eq (agg_eq (l2_eq rfl (sl_sh (sls_pure _)))) rfl) (fun hA => sFol_c vars (L ++ M.take k) (gl M k) (bef_cl hlb k) (by have := bef_len L M k; omega) (hlr k hk)) rfl rfl) rfl rfl (by decide) (by kernel_rfl) ?_
    refine y_val (v := .bool _) (v_not (.inl rfl)) rfl rfl (by decide) (by kernel_rfl) ?_
    refine y_nil ?_
    refine a_cond rfl (fun ht22 => ?_) (fun ht22 => ?_)
    ·
      skip
      refine a_seq ?_
      refine a_region ?_
      refine r_val (v := .int _ _) (v_move (.inl rfl) (noOwn_flat rfl)) rfl rfl (by decide) ?_
      refine r_val (v := .int _ _) (v_assign (.inl rfl) (noOwn_flat rfl)) rfl rfl (by decide) ?_
      refine r_nil ?_
      refine a_ret ?_
      refine ret1 Try.results68 (by decide) (by decide) (Weak.of_eq (int_eq ?_)) rfl Leaves.nil
      exact (fstU_found hk (by unfold folU; simpa using ht22) g2).symm
    ·
      skip
      refine a_skip ?_
      refine a_region ?_
      refine r_val (v := .int _ _) (v_move (.inl rfl) (noOwn_flat rfl)) rfl rfl (by decide) ?_
      refine r_val (v := .int _ _) (v_add (.inl rfl) (.inl rfl) (fun _ => by omega)) rfl rfl (by decide) ?_
      refine r_val (v := .int _ _) (v_assign (.inl rfl) (noOwn_flat rfl)) rfl rfl (by decide) ?_
      refine r_nil ?_
      refine ⟨k + 1, ent_look ⟨Weak.of_eq rfl, Weak.of_eq rfl, Weak.of_eq (int_eq (by omega)), trivial⟩, ⟨by omega, fun j h1 => by rcases Nat.lt_or_ge j k with h | h; exact g2 j h; (obtain rfl : j = k := by omega); unfold folU; simpa using ht22⟩, by omega⟩
  ·
    skip
    refine a_exit ?_
    refine a_seq ?_
    refine a_region ?_
    refine r_val (v := .int _ _) (v_assign (.inl rfl) (noOwn_flat rfl)) rfl rfl (by decide) ?_
    refine r_nil ?_
    refine a_ret ?_
    refine ret1 Try.results68 (by decide) (by decide) (Weak.of_eq (int_eq ?_)) rfl Leaves.nil
    exact (fstU_none (fun j hj => g2 j (by simp at ht9; omega))).symm
end Go.Av
namespace Go.Av
open Go Go.Proofs Go.Sort
set_option maxRecDepth 10000
theorem hb67 : hasBody Try.prog 67 = true := by kernel_rfl
theorem hb68 : hasBody Try.prog 68 = true := by kernel_rfl
theorem hb69 : hasBody Try.prog 69 = true := by kernel_rfl
theorem hb70 : hasBody Try.prog 70 = true := by kernel_rfl
end Go.Av
namespace Go.Av
open Go
section
variable {P : Program} {N : Nat} {A : Bool} {σ : Sig} {x y : Operand} {ty : TypeId} {o : Oper}
/-- 's[l:h:m]', whose value is not looked at. -/
theorem v_slice3 {t sz off n l h m : Nat} {q : Place} {cap : Option Nat} {kl kh km : IntKind} {lo hi mx : Operand} (ht : elemSize P t = some sz) (hx : RdTo N A σ x (.rsl q sz off n cap)) (hl : RdTo N A σ lo (.int kl l)) (hh : RdTo N A σ hi (.int kh h)) (hm : RdTo N A σ mx (.int km m))
    (hb : A = true → l ≤ h ∧ h ≤ m ∧ m ≤ n) : VSem P N A (.slice t x (some lo) (some hi) (some mx)) ty σ (slots x ++ (slots lo ++ (slots hi ++ slots mx))) .undef :=
  ⟨noOwn_scalar rfl, fun hA σ' hD gv e ac w β F hi' p o' ho hty => by
    have ex := hx.rep hA (agree_l hD) hi' p
    have el := hl.rep hA (agree_l (agree_r hD)) hi' p
    have eh := hh.rep hA (agree_l (agree_r (agree_r hD))) hi' p
    have em := hm.rep hA (agree_r (agree_r (agree_r hD))) hi' p
    obtain ⟨h1, h2, h3⟩ := hb hA
    simp only [Rep] at ex el eh em
    obtain ⟨a, capv, exv, hcap⟩ : ∃ a capv, ac.eval x = .slice a n capv ∧ n ≤ capv := by
      rcases ex with ⟨_, ⟨a, ex⟩, hn, _⟩ | ⟨b, capv, _, ex, hn, _⟩
      · exact ⟨a, 0, by rw [ex, hn], by omega⟩
      · exact ⟨_, capv, ex, hn⟩
    obtain ⟨el', i, he, hi2, hs⟩ := elemSize_spec ht
    have b1 : m ≤ capv := by omega
    refine ⟨_, by simp [execOp, ho, exv, el, eh, em, Instr.sliceAt, Instr.slice, Instr.sliceBounds, Instr.sliceBound, asIntOf, run_underlying he, sizeOf, typeInfo, hi2, b1, h1, h2]; rfl, by simp [Rep]⟩⟩
/-- 's[l:h]' where h is beyond the length, but within what the row holds. -/
theorem v_slice_over {t sz n l h M : Nat} {q : Place} {cap cap' : Option Nat} {cs : List AV} {lo hi : Option Operand} (ht : elemSize P t = some sz) (hx : RdTo N A σ x (.rsl q sz 0 n cap)) (hl : BdTo N A σ lo 0 l) (hh : BdTo N A σ hi n h)
    (hz : node (σ q.1) q.2 = some (.osl sz cs M cap')) (hsz : 0 < sz) (hb : A = true → l < h ∧ h ≤ M) : VSem P N A (.slice t x lo hi none) ty σ ((slots x ++ (slotsO lo ++ slotsO hi)) ++ [q.1]) (.rsl q sz (0 + l * sz) (h - l) none) :=
  ⟨noOwn_scalar rfl, fun hA σ' hD gv e ac w β F hi' p o' ho hty => by
    have ex := hx.rep hA (agree_l (agree_l hD)) hi' p
    have bl := hl.is hA (agree_l (agree_r (agree_l hD))) hi'
    have bh := hh.is hA (agree_r (agree_r (agree_l hD))) hi'
    obtain ⟨h1, h2⟩ := hb hA
    have hq : σ' q.1 = σ q.1 := hD q.1 (by simp)
    obtain ⟨u, hu⟩ := (hi'.rep q.1).sub (by rw [hq]; exact hz)
    have e1 : ((q.1, ([] : List Nat) ++ q.2) : Place) = q := by simp
    rw [e1] at hu
    simp only [Rep] at ex hu
    rcases ex with ⟨hq0, _, hn, _⟩ | ⟨b, capv, hq1, ex, hn, _⟩
    · rcases hu with ⟨_, _, _, hM, _⟩ | ⟨_, b', capv', arr, tt, hu1, _⟩
      · omega
      · rw [hq0] at hu1; cases hu1
    · rcases hu with ⟨hu0, _⟩ | ⟨_, b', capv', arr, tt, hu1, _, hle, _⟩
      · rw [hu0] at hq1; cases hq1
      · rw [hu1] at hq1
        simp only [Option.some.injEq, Prod.mk.injEq, Nat.zero_add] at hq1
        obtain ⟨rfl, hc⟩ := hq1
        have hcc : capv' = capv := Nat.eq_of_mul_eq_mul_right hsz hc
        subst hcc
        refine ⟨_, by simp [execOp, ho, ex, run_slice_val ht bl bh (Nat.le_of_lt h1) (Nat.le_trans h2 hle)]; rfl, ?_⟩
        simp only [Rep]
        refine .inr ⟨b', capv' - l, by rw [hu1, Nat.zero_add, ← Nat.add_mul, Nat.add_sub_cancel' (by omega)], ?_, by omega, fun c hc' => by cases hc'⟩
        have : capv' ≠ l := by omega
        simp [this, add_none]⟩
/-- The source of an append: a part of the same row, or nothing. -/
def SelfIs (N : Nat) (σ : Sig) (y : Operand) (q : Place) (off m : Nat) : Prop := (∃ cap, RdTo N true σ y (.rsl q 1 off m cap) ∧ 0 < m) ∨ (RdTo N true σ y (.sl [] 0) ∧ m = 0)
/-- append(s[:i], s[j:]...), in place. -/
theorem o_app_self {s d t bytes i off m M : Nat} {q : Place} {cap cap' : Option Nat} {cs : List AV} {y' : AV} (ho : o.op = appCall (.tmp s) y t) (ht : appTy P t = some (1, bytes)) (hd : o.dst = some d) (hN : d < N) (hsN : s < N) (hsq : s ≠ q.1) (hdq : d ≠ q.1) (hds : d ≠ s)
    (hs : σ s = .rsl q 1 0 i cap) (hy : SelfIs N σ y q off m) (hz : node (σ q.1) q.2 = some (.osl 1 cs M cap')) (hr : refs (σ q.1) = []) (hp : pureL cs = true) (hc : cellL cs = true)
    (hb : i + m ≤ M ∧ M ≤ cs.length ∧ off + m ≤ cs.length ∧ 0 < M) (hres : setNode (σ q.1) q.2 (.osl 1 (setL cs i ((cs.drop off).take m)) M cap') = y') :
    OStep P N o σ (upd (upd σ q.1 y') d (.rsl q 1 0 (i + m) none)) := by
  intro gv e a w ⟨hdf, hsz, β, F, hi⟩ K Q hK
  obtain ⟨el, h1, h2, h3⟩ := appTy_spec ht
  obtain ⟨b1, b2, b3, b4⟩ := hb
  have hq : blk σ q = some cs := by unfold blk; rw [hz]
  have hsv : valOf N gv a s = a.eval (.tmp s) := by simp [valOf, hsN, Act.eval]
  have hrs := hi.rep s
  rw [hs, hsv] at hrs
  obtain ⟨u, hu⟩ := (hi.rep q.1).sub hz
  have e1 : ((q.1, ([] : List Nat) ++ q.2) : Place) = q := by simp
  rw [e1] at hu
  simp only [Rep] at hrs hu
  rcases hi.block hq with ⟨hb2, hb3⟩ | ⟨b, s2, arr, tt, hb2, hh, hrc, hnr⟩
  · rw [hb3] at b2; simp at b2; omega
  rcases hu with ⟨hu0, _⟩ | ⟨_, bq, capq, arrq, ttq, hu1, _, hle, _, hhq, hszq, _⟩
  · rw [hu0] at hb2; cases hb2
  rw [hb2] at hu1
  simp only [Option.some.injEq, Prod.mk.injEq] at hu1
  obtain ⟨rfl, hs2⟩ := hu1
  rw [hh] at hhq
  simp only [Option.some.injEq, Obj.cells.injEq] at hhq
  obtain ⟨rfl, rfl, _⟩ := hhq
  rcases hrs with ⟨h0, _⟩ | ⟨bs, capv, hs1, hsl, hile, _⟩
  · rw [h0] at hb2; cases hb2
  rw [hb2] at hs1
  simp only [Option.some.injEq, Prod.mk.injEq] at hs1
  obtain ⟨rfl, hs3⟩ := hs1
  have hcq : capv = capq := by omega
  subst hcq
  have hal : cs.length ≤ arr.size := by have := hrc.len; simpa using this
  obtain ⟨ii, hii, hisz, _⟩ : ∃ ii : TypeInfo, P.info? el = some ii ∧ ii.size = 1 ∧ True := by
    cases hie : P.info? el with
    | none => rw [hie] at h2; simp at h2
    | some ii => rw [hie] at h2; simp at h2; exact ⟨ii, rfl, h2.1, trivial⟩
  -- the new cells
  have hnl : ((arr.toList.drop off).take m).length = m := by simp; omega
  have hrn : RepL β F w ((cs.drop off).take m) (0, []) 0 ((arr.toList.drop off).take m) := RepL_iff.2 fun j c hc' => by
    rw [List.getElem?_take] at hc'
    split at hc'
    · rename_i hj
      rw [List.getElem?_drop] at hc'
      obtain ⟨v, hv, hrv⟩ := RepL_iff.1 hrc _ c hc'
      exact ⟨v, by rw [List.getElem?_take_of_lt hj, List.getElem?_drop]; exact hv, hrv.pure_any (pureL_mem hp (List.mem_of_getElem? hc'))⟩
    · cases hc'
  have hcl : ((cs.drop off).take m).length = m := by simp; omega
  have hcc : cellL ((cs.drop off).take m) = true := by
    simp only [cellL, List.all_eq_true] at hc ⊢
    exact fun c hc' => hc c (List.mem_of_mem_drop (List.mem_of_mem_take hc'))
  have hone := ones_of hrn (by rw [hnl, hcl]) hcc
  obtain ⟨ax, c, hyv, hnews⟩ : ∃ ax c, a.eval y = .slice ax m c ∧ ((arr.toList.drop off).take m ≠ [] → ∃ b', ax = some b' ∧ ∀ j v, ((arr.toList.drop off).take m)[j]? = some v → w.cell? (b'.add j) = some v) := by
    rcases hy with ⟨cy, hy, hm⟩ | ⟨hy, hm⟩
    · have ey := hy.rep rfl (fun _ _ => rfl) hi (0, [])
      simp only [Rep] at ey
      rcases ey with ⟨_, _, hm0, _⟩ | ⟨by', cv, hy1, ey, _⟩
      · omega
      · rw [hb2] at hy1
        simp only [Option.some.injEq, Prod.mk.injEq] at hy1
        obtain ⟨rfl, _⟩ := hy1
        refine ⟨_, cv, ey, fun _ => ⟨_, rfl, fun j v hv => ?_⟩⟩
        rw [add_none, cell_of hh]
        have hjm : j < m := by
          have := (List.getElem?_eq_some_iff.1 hv).1; omega
        rw [List.getElem?_take_of_lt hjm, List.getElem?_drop] at hv
        simpa using hv
    · have ey := hy.rep rfl (fun _ _ => rfl) hi (0, [])
      simp only [Rep] at ey
      obtain ⟨_, ad, cv, ey, _⟩ := ey
      subst hm
      exact ⟨ad, cv, ey, fun h => absurd (by simp) h⟩
  have hrun := run_append_in (P := P) w t o.type el tt ii h1 hii b i capv arr hh ax m c ((arr.toList.drop off).take m) (by rw [hnl, hisz, Nat.mul_one]) hnews hone (by omega) (by rw [hnl, hisz]; omega)
  rw [hisz, Nat.mul_one] at hrun
  have hdet : Det e σ w β F (.agg ((cs.drop off).take m)) (.agg ((arr.toList.drop off).take m).toArray) (same q i β) := Det.pure (p := (0, [])) (by simp only [Rep]; exact ⟨_, rfl, by rw [hnl, hcl], hrn⟩) (by
    simp only [pureV]; exact pureL_sub hp _ _)
  obtain ⟨β', h⟩ := hi.store (z := .osl 1 cs M cap') (cs := cs) hz rfl rfl hb2 hh hr hdet (noRefL_pure _ (pureL_sub hp _ _)) hnr (by rw [hcl]; omega) (σ1 := σ) (fun i _ => .inr ⟨rfl, fun q' _ => under_same⟩)
  have h : Inv e (upd σ q.1 y') (valOf N gv a) (w.setRow b (spliceV arr.toList i ((arr.toList.drop off).take m)).toArray) β' F := by rw [← hres]; exact h
  have hsp : spliceV arr.toList i ((arr.toList.drop off).take m) = arr.toList.take i ++ (arr.toList.drop off).take m ++ arr.toList.drop (i + ((arr.toList.drop off).take m).length) := rfl
  rw [← hsp] at hrun
  have hs' := h.rep s
  rw [upd_other _ _ hsq, hs, hsv] at hs'
  simp only [Rep] at hs'
  have hset : Rep β' F (w.setRow b (spliceV arr.toList i ((arr.toList.drop off).take m)).toArray) (.rsl q 1 0 (i + m) none) (d, []) (.slice (some ⟨b, 0, none⟩) (i + m) capv) := by
    simp only [Rep]
    rw [hsl] at hs'
    rcases hs' with ⟨_, ⟨a0, ha0⟩, _⟩ | ⟨b9, capv9, hb9, hv9, hle9, _⟩
    · simp only [Value.slice.injEq] at ha0
      omega
    · simp only [Value.slice.injEq, Option.some.injEq, Addr.mk.injEq] at hv9
      obtain ⟨⟨rfl, _⟩, _, rfl⟩ := hv9
      exact .inr ⟨_, _, hb9, rfl, by omega, fun c hc' => by cases hc'⟩
  have hfin := h.set d hset (noOwn_scalar rfl)
  rw [← valOf_put hsz hN] at hfin
  exact wp_value (run_app ho (by rw [hsl, hyv]; exact hrun)) (hK _ _ ⟨by rw [hd]; exact hdf, by rw [hd, size_put]; exact hsz, β', F, by rw [hd]; exact hfin⟩)
end
end Go.Av
namespace Go.Av
open Go
theorem setL_app : ∀ (c z A B : List AV), z.length = c.length → setL (A ++ (z ++ B)) A.length c = A ++ (c ++ B)
  | [], z, A, B, h => by
    have : z = [] := List.eq_nil_of_length_eq_zero (by simpa using h)
    subst this; rfl
  | x :: c, [], A, B, h => by simp at h
  | x :: c, y :: z, A, B, h => by
    simp only [setL]
    rw [List.set_append_right _ _ (Nat.le_refl _), Nat.sub_self]
    have := setL_app c z (A ++ [x]) B (by simpa using h)
    simp only [List.length_append, List.length_singleton, List.append_assoc, List.singleton_append] at this
    simpa using this
end Go.Av
namespace Go.Av
open Go
theorem erase_wo : ∀ {c : List Int} {i : Nat}, Strict c → i < c.length → c.eraseIdx i = woS c (vr (gd c i))
  | [], i, _, h => by simp at h
  | x :: c, 0, hs, _ => by
    unfold Strict at hs
    rw [List.pairwise_cons] at hs
    have hg : gd (x :: c) 0 = x := rfl
    rw [hg]
    unfold woS
    rw [List.eraseIdx_cons_zero, List.filter_cons_of_neg (by simp), List.filter_eq_self.2]
    intro y hy
    have := hs.1 y hy
    simp; omega
  | x :: c, i + 1, hs, h => by
    have hs' := hs
    unfold Strict at hs
    rw [List.pairwise_cons] at hs
    have hg : gd (x :: c) (i + 1) = gd c i := rfl
    rw [hg, List.eraseIdx_cons_succ, erase_wo hs.2 (by simpa using h)]
    unfold woS
    have hlt := hs.1 _ (gd_mem (c := c) (j := i) (by simpa using h))
    rw [List.filter_cons_of_pos (by simp; omega)]
theorem erase_take (c : List Int) (i : Nat) : c.eraseIdx i = c.take i ++ c.drop (i + 1) := by rw [List.eraseIdx_eq_take_drop_succ]
/-- The row after its tail was moved: the last number stands twice. -/
theorem setL_move {c : List Int} {i : Nat} (h : i < c.length) : setL (icells c) i (((icells c).drop (i + 1)).take (c.length - (i + 1))) = icells (c.eraseIdx i ++ [gd c (c.length - 1)]) := by
  have hl : ((icells c).drop (i + 1)).take (c.length - (i + 1)) = icells (c.drop (i + 1)) := by
    rw [icells_drop, List.take_of_length_le (by rw [icells_length, List.length_drop]; exact Nat.le_refl _)]
  rw [hl]
  refine List.ext_getElem? fun j => ?_
  rw [setL_get (by rw [icells_length, icells_length, List.length_drop]; omega), icells_length, List.length_drop]
  rw [erase_take]
  by_cases h1 : i ≤ j ∧ j < i + (c.length - (i + 1))
  · rw [if_pos h1]
    unfold icells
    rw [List.getElem?_map, List.getElem?_map, List.getElem?_append_left (by simp; omega), List.getElem?_append_right (by simp; omega)]
    simp only [List.length_take]
    congr 2; omega
  · rw [if_neg h1]
    unfold icells
    rw [List.getElem?_map, List.getElem?_map]
    congr 1
    by_cases h2 : j < i
    · rw [List.getElem?_append_left (by simp; omega), List.getElem?_append_left (by simp; omega), List.getElem?_take_of_lt h2]
    · by_cases h3 : j = c.length - 1
      · subst h3
        rw [List.getElem?_append_right (by simp; omega)]
        simp only [List.length_append, List.length_take, List.length_drop]
        rw [show c.length - 1 - (min i c.length + (c.length - (i + 1))) = 0 by omega, gd_get (by omega)]; rfl
      · rw [List.getElem?_eq_none (by omega), List.getElem?_eq_none (by simp; omega)]
theorem clear_last (a : List Int) (x : Int) (n : Nat) (h : a.length = n) : setL (icells (a ++ [x])) n (List.replicate 1 (.int .i64 0)) = icells a ++ [.int .i64 0] := by
  subst h
  have := setL_app [.int .i64 0] [.int .i64 x] (icells a) [] rfl
  rw [icells_length, List.append_nil, List.append_nil] at this
  rw [icells_append]; exact this
/-- One literal less, if what is left follows. -/
def shS (G : List (List Int)) (out : List Int) (l : Int) : List Int := if folB G (woS out (vr l)) then woS out (vr l) else out
def shP (G : List (List Int)) (c : List Int) (i : Nat) : List Int := (c.take i).foldl (shS G) c
theorem shP_succ {G : List (List Int)} {c : List Int} {i : Nat} (h : i < c.length) : shP G c (i + 1) = shS G (shP G c i) (gd c i) := by
  unfold shP; rw [take_gd h, List.foldl_append]; rfl
theorem wo_cl {vars : Int} {c : List Int} (h : clB vars c = true) (v : Int) : clB vars (woS c v) = true :=
  clB_of (clB_spec h).1 (woS_strict (clB_strict h)) fun x hx => (clB_mem h (woS_mem hx).1).1
theorem shP_ok {vars : Int} {G : List (List Int)} {c : List Int} (h : clB vars c = true) : ∀ i, i ≤ c.length → clB vars (shP G c i) = true ∧ (shP G c i).length ≤ c.length ∧ ∀ j, i ≤ j → j < c.length → gd c j ∈ shP G c i
  | 0, _ => ⟨h, Nat.le_refl _, fun j _ hj => gd_mem hj⟩
  | i + 1, hi => by
    obtain ⟨h1, h2, h3⟩ := shP_ok (G := G) h i (by omega)
    rw [shP_succ (by omega)]
    unfold shS
    split
    · refine ⟨wo_cl h1 _, Nat.le_trans (woS_len _ _) h2, fun j hj hjl => ?_⟩
      unfold woS
      rw [List.mem_filter]
      refine ⟨h3 j (by omega) hjl, ?_⟩
      have hs := List.pairwise_iff_getElem.1 (clB_strict h) i j (by omega) hjl (by omega)
      unfold gd
      rw [List.getElem?_eq_getElem hjl, List.getElem?_eq_getElem (by omega)]
      simp only [Option.getD_some, decide_eq_true_eq]; omega
    · exact ⟨h1, h2, fun j hj hjl => h3 j (by omega) hjl⟩
/-- A learned list. -/
def lrnB (vars : Int) (L M : List (List Int)) : Bool := listB vars L M && decide (fstU L M < 0)
def shOk (vars : Int) (L M : List (List Int)) (k : Int) : Bool := lrnB vars L M && inR k 0 ((M.length : Int) - 1)
def shR (vars : Int) (L M : List (List Int)) (k : Int) : List Int := if shOk vars L M k then shP (L ++ M.take k.toNat) (gl M k.toNat) (gl M k.toNat).length else []
theorem shOk_spec {vars : Int} {L M : List (List Int)} {k : Int} (h : shOk vars L M k = true) : listB vars L M = true ∧ 0 ≤ k ∧ k.toNat < M.length := by
  simp only [shOk, lrnB, Bool.and_eq_true, inR_spec] at h
  exact ⟨h.1.1, h.2.1, by omega⟩
theorem shR_len (vars : Int) (L M : List (List Int)) (k : Int) : (shR vars L M k).length ≤ 12 := by
  unfold shR
  split
  · rename_i h
    obtain ⟨h1, h2, h3⟩ := shOk_spec h
    have hc := (listB_spec h1).2.2 _ h3
    have := (shP_ok (G := L ++ M.take k.toNat) hc _ (Nat.le_refl _)).2.1
    have := clB_len hc
    omega
  · simp
theorem idx_at {c : List Int} {l : Int} (h : l ∈ c) : ∃ i, i < c.length ∧ fidx (fun i => decide (l = gd c i)) c.length = (i : Int) ∧ gd c i = l := by
  have hne : ¬ fidx (fun i => decide (l = gd c i)) c.length = -1 := fun e => by
    obtain ⟨j, hj, hx⟩ := mem_gd h
    have h9 := fidx_any (p := fun i => decide (l = gd c i)) (n := c.length)
    rw [e, show ((List.range c.length).any fun i => decide (l = gd c i)) = true from List.any_eq_true.2 ⟨j, by simpa using hj, by simp [hx]⟩] at h9
    simp at h9
  obtain ⟨i, h1, h2, h3, _⟩ := fidx_spec hne
  exact ⟨i, h1, h2, (of_decide_eq_true h3).symm⟩
end Go.Av
namespace Go.Av
open Go Go.Proofs Go.Sort
set_option maxRecDepth 10000
theorem hb113 : hasBody Try.prog 113 = true := by kernel_rfl

theorem delI_c (xs : List Int) (n i : Nat) (hl : xs.length = n ∧ n ≤ 1048576) (hi : i < n) : ACall Try.prog 113 [.rsl (INH, []) 1 0 n none, .int .i64 ((i : Nat) : Int), .int .i64 ((i + 1 : Nat) : Int)] [.osl 1 (icells xs) n none] (.osl 1 (icells (xs.eraseIdx i)) (n - 1) none) [.undef] := by
  obtain ⟨hl1, hl2⟩ := hl
  have hmv := setL_move (c := xs) (i := i) (by omega)
  rw [hl1] at hmv
  have hei : (xs.eraseIdx i).length = n - 1 := (by rw [List.length_eraseIdx_of_lt (by omega)]; omega)
  refine ACall.intro Try.func113 rfl (N := 33) rfl (by decide) (by simp) ?_
  refine a_seq ?_
  refine a_region ?_
  refine r_val (v := .nils) (v_assign (.inl rfl) (noOwn_flat rfl)) rfl rfl (by decide) ?_
  refine r_nil ?_
  refine a_seq ?_
  refine a_region ?_
  refine r_val (v := .rsl _ _ _ _ _) (v_move (.inl rfl) (noOwn_flat rfl)) rfl rfl (by decide) ?_
  refine r_val (v := .int _ _) (v_move (.inl rfl) (noOwn_flat rfl)) rfl rfl (by decide) ?_
  refine r_val (v := .int _ _) (v_move (.inl rfl) (noOwn_flat rfl)) rfl rfl (by decide) ?_
  refine r_val (v := .rsl _ _ _ _ _) (v_move (.inl rfl) (noOwn_flat rfl)) rfl rfl (by decide) ?_
  refine r_val (v := .int _ _) (v_len_rsl sl25 (.inl rfl)) rfl rfl (by decide) ?_
  refine r_val (v := .undef) (v_slice3 (l := i) (h := i + 1) (m := n) es25 (.inl rfl) (.inl rfl) (.inl rfl) (.inl rfl) (fun _ => by omega)) rfl rfl (by decide) ?_
  refine r_nil ?_
  refine a_seq ?_
  refine a_seq ?_
  refine a_region ?_
  refine r_val (v := .int _ _) (v_move (.inl rfl) (noOwn_flat rfl)) rfl rfl (by decide) ?_
  refine r_val (v := .int _ _) (v_move (.inl rfl) (noOwn_flat rfl)) rfl rfl (by decide) ?_
  refine r_val (v := .bool _) (v_eql (.inl rfl) (.inl rfl)) rfl rfl (by decide) ?_
  refine r_nil ?_
  refine a_cond rfl (fun ht16 => ?_) (fun ht16 => ?_)
  ·
    skip
    exfalso
    simp at ht16; omega
  ·
    skip
    refine a_skip ?_
    refine a_seq ?_
    refine a_region ?_
    refine r_val (v := .rsl _ _ _ _ _) (v_move (.inl rfl) (noOwn_flat rfl)) rfl rfl (by decide) ?_
    refine r_val (v := .int _ _) (v_len_rsl sl25 (.inl rfl)) rfl rfl (by decide) ?_
    refine r_val (v := .int _ _) (v_assign (.inl rfl) (noOwn_flat rfl)) rfl rfl (by decide) ?_
    refine r_nil ?_
    refine a_seq ?_
    rcases (by omega : i + 1 < n ∨ n = i + 1) with hcs | hcs
    ·
      skip
      refine a_region_z (n := 6) [[(20, true)], [(21, true)], [(22, true)], [(23, true)], [(24, true)], [(25, true)]] mixed (by kernel_rfl) ?_
      refine z_val (v := .rsl _ _ _ _ _) (v_move (.inl rfl) (noOwn_flat rfl)) rfl rfl (by decide) rfl (by kernel_rfl) ?_
      refine z_val (v := .int _ _) (v_move (.inl rfl) (noOwn_flat rfl)) rfl rfl (by decide) rfl (by kernel_rfl) ?_
      refine z_val (v := .rsl (INH, []) 1 0 i none) ((v_slice_rsl (l := 0) (h := i) es25 (.inl rfl) (.inl ⟨rfl, rfl⟩) (.inr ⟨_, _, rfl, .inl rfl⟩) (fun _ => by omega)).cast (rfl)) rfl rfl (by decide) rfl (by kernel_rfl) ?_
      refine z_val (v := .rsl _ _ _ _ _) (v_move (.inl rfl) (noOwn_flat rfl)) rfl rfl (by decide) rfl (by kernel_rfl) ?_
      refine z_val (v := .int _ _) (v_move (.inl rfl) (noOwn_flat rfl)) rfl rfl (by decide) rfl (by kernel_rfl) ?_
      refine z_val (v := .rsl _ _ _ _ _) (v_slice_rsl (l := i + 1) (h := n) es25 (.inl rfl) (.inr ⟨_, _, rfl, .inl rfl⟩) (.inl ⟨rfl, rfl⟩) (fun _ => by omega)) rfl rfl (by decide) rfl (by kernel_rfl) ?_
      refine z_nil ?_
      refine r_step rfl (o_app_self (i := i) (off := 0 + (i + 1) * 1) (m := n - (i + 1)) (M := n) rfl ap25 rfl (by decide) (by decide) (by decide) (by decide) (by decide) rfl (.inl ⟨_, .inl rfl, by omega⟩) rfl rfl (ic_pureL _) (ic_cell _) (by rw [icells_length]; omega) rfl) ?_
      refine r_pre (ent_eq (t := INH) (v' := .osl 1 (icells (xs.eraseIdx i ++ [gd xs (n - 1)])) n none) (Weak.osl (by rw [Nat.zero_add, Nat.mul_one]; exact hmv) rfl)) ?_
      refine r_val (v := .rsl _ _ _ _ _) (v_assign (.inl rfl) (noOwn_flat rfl)) rfl rfl (by decide) ?_
      refine r_nil ?_
      refine a_seq ?_
      refine a_region ?_
      refine r_val (v := .rsl _ _ _ _ _) (v_move (.inl rfl) (noOwn_flat rfl)) rfl rfl (by decide) ?_
      refine r_val (v := .rsl _ _ _ _ _) (v_move (.inl rfl) (noOwn_flat rfl)) rfl rfl (by decide) ?_
      refine r_val (v := .int .i64 ((n - 1 : Nat) : Int)) ((v_len_rsl sl25 (.inl rfl)).cast (int_eq (by omega))) rfl rfl (by decide) ?_
      refine r_val (v := .int _ _) (v_move (.inl rfl) (noOwn_flat rfl)) rfl rfl (by decide) ?_
      refine r_val (v := .rsl _ _ _ _ _) (v_slice_over (l := n - 1) (h := n) es25 (.inl rfl) (.inr ⟨_, _, rfl, .inl rfl⟩) (.inr ⟨_, _, rfl, .inl rfl⟩) rfl (by decide) (fun _ => by omega)) rfl rfl (by decide) ?_
      refine r_step rfl (o_clear rfl rfl us25 zc3 rfl (.inl rfl) rfl (by rw [icells_length, List.length_append, hei]; simp; omega) rfl rfl) ?_
      refine r_nil ?_
      refine a_seq ?_
      refine a_pre (ent_eq (t := INH) (v' := .osl 1 (icells (xs.eraseIdx i) ++ [.int .i64 0]) n none) (Weak.osl (by have h9 := clear_last (xs.eraseIdx i) (gd xs (n - 1)) (n - 1) hei; rw [show 0 + (n - 1) * 1 = n - 1 by omega, show n - (n - 1) = 1 by omega]; exact h9) rfl)) ?_
      refine a_region ?_
      refine r_val (v := .rsl _ _ _ _ _) (v_move (.inl rfl) (noOwn_flat rfl)) rfl rfl (by decide) ?_
      refine r_val (v := .rsl _ _ _ _ _) (v_assign (.inl rfl) (noOwn_flat rfl)) rfl rfl (by decide) ?_
      refine r_nil ?_
      refine a_pre (ent_reloc_sl (t := 6) rfl rfl) ?_
      refine a_ret ?_
      refine ret1 Try.results113 (by decide) (by decide) (Weak.osl_take (ds := [.int .i64 0]) ?_ ?_) rfl (Leaves.one Weak.undef rfl)
      · rfl
      · omega
    ·
      skip
      refine a_region_z (n := 6) [[(20, true)], [(21, true)], [(22, true)], [(23, true)], [(24, true)], [(25, true)]] mixed (by kernel_rfl) ?_
      refine z_val (v := .rsl _ _ _ _ _) (v_move (.inl rfl) (noOwn_flat rfl)) rfl rfl (by decide) rfl (by kernel_rfl) ?_
      refine z_val (v := .int _ _) (v_move (.inl rfl) (noOwn_flat rfl)) rfl rfl (by decide) rfl (by kernel_rfl) ?_
      refine z_val (v := .rsl (INH, []) 1 0 i none) ((v_slice_rsl (l := 0) (h := i) es25 (.inl rfl) (.inl ⟨rfl, rfl⟩) (.inr ⟨_, _, rfl, .inl rfl⟩) (fun _ => by omega)).cast (rfl)) rfl rfl (by decide) rfl (by kernel_rfl) ?_
      refine z_val (v := .rsl _ _ _ _ _) (v_move (.inl rfl) (noOwn_flat rfl)) rfl rfl (by decide) rfl (by kernel_rfl) ?_
      refine z_val (v := .int _ _) (v_move (.inl rfl) (noOwn_flat rfl)) rfl rfl (by decide) rfl (by kernel_rfl) ?_
      refine z_val (v := .sl _ _) (v_slice_end (l := i + 1) (h := n) es25 (.inl rfl) (.inr ⟨_, _, rfl, .inl rfl⟩) (.inl ⟨rfl, rfl⟩) (fun _ => by omega)) rfl rfl (by decide) rfl (by kernel_rfl) ?_
      refine z_nil ?_
      refine r_step rfl (o_app_self (i := i) (off := 0) (m := 0) (M := n) rfl ap25 rfl (by decide) (by decide) (by decide) (by decide) (by decide) rfl (.inr ⟨.inl rfl, rfl⟩) rfl rfl (ic_pureL _) (ic_cell _) (by rw [icells_length]; omega) rfl) ?_
      refine r_pre (ent_eq (t := INH) (v' := .osl 1 (icells (xs.eraseIdx i ++ [gd xs (n - 1)])) n none) (Weak.osl (by rw [← hmv, show n - (i + 1) = 0 by omega, List.take_zero, List.take_zero]) rfl)) ?_
      refine r_val (v := .rsl _ _ _ _ _) (v_assign (.inl rfl) (noOwn_flat rfl)) rfl rfl (by decide) ?_
      refine r_nil ?_
      refine a_seq ?_
      refine a_region ?_
      refine r_val (v := .rsl _ _ _ _ _) (v_move (.inl rfl) (noOwn_flat rfl)) rfl rfl (by decide) ?_
      refine r_val (v := .rsl _ _ _ _ _) (v_move (.inl rfl) (noOwn_flat rfl)) rfl rfl (by decide) ?_
      refine r_val (v := .int .i64 ((n - 1 : Nat) : Int)) ((v_len_rsl sl25 (.inl rfl)).cast (int_eq (by omega))) rfl rfl (by decide) ?_
      refine r_val (v := .int _ _) (v_move (.inl rfl) (noOwn_flat rfl)) rfl rfl (by decide) ?_
      refine r_val (v := .rsl _ _ _ _ _) (v_slice_over (l := n - 1) (h := n) es25 (.inl rfl) (.inr ⟨_, _, rfl, .inl rfl⟩) (.inr ⟨_, _, rfl, .inl rfl⟩) rfl (by decide) (fun _ => by omega)) rfl rfl (by decide) ?_
      refine r_step rfl (o_clear rfl rfl us25 zc3 rfl (.inl rfl) rfl (by rw [icells_length, List.length_append, hei]; simp; omega) rfl rfl) ?_
      refine r_nil ?_
      refine a_seq ?_
      refine a_pre (ent_eq (t := INH) (v' := .osl 1 (icells (xs.eraseIdx i) ++ [.int .i64 0]) n none) (Weak.osl (by have h9 := clear_last (xs.eraseIdx i) (gd xs (n - 1)) (n - 1) hei; rw [show 0 + (n - 1) * 1 = n - 1 by omega, show n - (n - 1) = 1 by omega]; exact h9) rfl)) ?_
      refine a_region ?_
      refine r_val (v := .rsl _ _ _ _ _) (v_move (.inl rfl) (noOwn_flat rfl)) rfl rfl (by decide) ?_
      refine r_val (v := .rsl _ _ _ _ _) (v_assign (.inl rfl) (noOwn_flat rfl)) rfl rfl (by decide) ?_
      refine r_nil ?_
      refine a_pre (ent_reloc_sl (t := 6) rfl rfl) ?_
      refine a_ret ?_
      refine ret1 Try.results113 (by decide) (by decide) (Weak.osl_take (ds := [.int .i64 0]) ?_ ?_) rfl (Leaves.one Weak.undef rfl)
      · rfl
      · omega

theorem without_c (xs : List Int) (i : Nat) (h : i < xs.length) (hl : xs.length ≤ 1048576) : ACall Try.prog 81 [.sl (icells xs) xs.length, .int .i64 ((i : Nat) : Int)] [] (.osl 1 (icells (xs.eraseIdx i)) (xs.length - 1) none) [] := by
  refine ACall.intro Try.func81 rfl (N := 11) rfl (by decide) (by simp) ?_
  refine a_seq ?_
  refine a_region ?_
  refine r_val (v := .nils) (v_assign (.inl rfl) (noOwn_flat rfl)) rfl rfl (by decide) ?_
  refine r_nil ?_
  refine a_seq ?_
  refine a_region ?_
  refine r_val (v := .sl _ _) (v_move (.inl rfl) (noOwn_flat rfl)) rfl rfl (by decide) ?_
  refine r_new (v := .osl _ _ _ _) (q_call (vs := [.sl _ _]) (args := [.sl _ _]) hb80 ⟨.inl rfl, trivial⟩ rfl (fun hA => cloneI_c _ _ ⟨rfl, by omega⟩) (ic_noSh _) (ic_noRef _)) rfl rfl (by decide) ?_
  refine r_val (v := .int _ _) (v_move (.inl rfl) (noOwn_flat rfl)) rfl rfl (by decide) ?_
  refine r_val (v := .int _ _) (v_move (.inl rfl) (noOwn_flat rfl)) rfl rfl (by decide) ?_
  refine r_val (v := .int .i64 ((i + 1 : Nat) : Int)) ((v_add (.inl rfl) (.inl rfl) (fun _ => by omega)).cast (int_eq (by omega))) rfl rfl (by decide) ?_
  refine r_step rfl (o_callIO (q := (6, [])) (vs := [.rsl _ _ _ _ _, .int _ _, .int _ _]) (args := [.rsl (INH, []) _ _ _ _, .int .i64 _, .int .i64 _]) (x0 := .osl _ _ _ _) (x1 := .undef) (res := .osl _ _ _ _) rfl hb113 rfl (by decide) ⟨.inl rfl, .inl rfl, .inl rfl, trivial⟩ rfl rfl (delI_c xs xs.length i ⟨rfl, hl⟩ h) rfl (ic_noSh _) (ic_noRef _) rfl rfl (Nat.le_of_ble_eq_true rfl) (by decide) rfl) ?_
  refine r_val (v := .rsl _ _ _ _ _) (v_assign (.inl rfl) (noOwn_flat rfl)) rfl rfl (by decide) ?_
  refine r_pre (ent_reloc_sl (t := 4) rfl rfl) ?_
  refine r_nil ?_
  refine a_ret ?_
  refine ret1 Try.results81 (by decide) (by decide) (Weak.osl ?_ ?_) rfl Leaves.nil
  · rfl
  · rfl
end Go.Av
namespace Go.Av
open Go Go.Proofs Go.Sort
set_option maxRecDepth 10000
theorem hb72 : hasBody Try.prog 72 = true := by kernel_rfl
theorem hb77 : hasBody Try.prog 77 = true := by kernel_rfl
theorem hb81 : hasBody Try.prog 81 = true := by kernel_rfl

theorem learned_c (vars : Int) (L M : List (List Int)) (hk : CnfOk vars L) (hm : CnfOk vars M) : ACall Try.prog 77 [.agg [.int .i64 vars, .sl (sls L) L.length], .sl (sls M) M.length] [] (.bool (lrnB vars L M)) [] := by
  refine ACall.intro Try.func77 rfl (N := 14) rfl (by decide) (by simp) ?_
  refine a_seq ?_
  refine a_region ?_
  refine r_new (v := .op [.int _ _, .sl _ _]) (q_box (.inl rfl) rfl rfl) rfl rfl (by decide) ?_
  refine r_val (v := .bool _) (v_assign (.inl rfl) (noOwn_flat rfl)) rfl rfl (by decide) ?_
  refine r_nil ?_
  refine a_seq ?_
  refine a_region ?_
  refine r_val (v := .agg [.int _ _, .sl _ _]) (v_load_rpa1 ta29 (.inl rfl) rfl rfl (fun _ => rfl) rfl) rfl rfl (by decide) ?_
  refine r_val (v := .sl _ _) (v_move (.inl rfl) (noOwn_flat rfl)) rfl rfl (by decide) ?_
  refine r_new (v := .bool _) (q_call (vs := [.agg [.int _ _, .sl _ _], .sl _ _]) (args := [.agg [.int .i64 _, .sl _ _], .sl _ _]) hb69 ⟨.inl rfl, .inl rfl, trivial⟩ rfl (fun hA => listOk_c vars L M hk hm) rfl rfl) rfl rfl (by decide) ?_
  refine r_val (v := .bool _) (v_move (.inl rfl) (noOwn_flat rfl)) rfl rfl (by decide) ?_
  refine r_gval (v := .agg [.int _ _, .sl _ _]) (v_load_rpa1 ta29 (.inl rfl) rfl rfl (fun _ => rfl) rfl) rfl rfl rfl (by decide) (.inl ⟨_, rfl, rfl⟩) rfl (by decide) ?_
  refine r_gval (v := .sl _ _) (v_move (.inl rfl) (noOwn_flat rfl)) rfl rfl rfl (by decide) (.inl ⟨_, rfl, rfl⟩) rfl (by decide) ?_
  refine r_guard (v := .int _ _) (q_call (vs := [.agg [.int _ _, .sl _ _], .sl _ _]) (args := [.agg [.int .i64 _, .sl _ _], .sl _ _]) hb70 ⟨.inr ⟨_, rfl, fun h => h⟩, .inr ⟨_, rfl, fun h => h⟩, trivial⟩ rfl (fun hA => iFst_c vars L M (by simpa using hA)) rfl rfl) rfl rfl rfl (by decide) (.inl ⟨_, rfl, rfl⟩) rfl (by decide) ?_
  refine r_gval (v := .bool _) (v_lss (.inr ⟨_, rfl, fun h => h⟩) (.inl rfl)) rfl rfl rfl (by decide) (.inl ⟨_, rfl, rfl⟩) rfl (by decide) ?_
  refine r_val (v := .bool _) (v_pick (.inl rfl) (.inr ⟨_, rfl, fun h h2 => by simp_all⟩) (.inl rfl)) rfl rfl (by decide) ?_
  refine r_val (v := .bool _) (v_assign (.inl rfl) (noOwn_flat rfl)) rfl rfl (by decide) ?_
  refine r_nil ?_
  refine a_ret ?_
  refine ret1 Try.results77 (by decide) (by decide) (Weak.of_eq (bool_eq ?_)) rfl Leaves.nil
  unfold lrnB; cases listB vars L M <;> simp

theorem good11_c (vars : Int) (L M : List (List Int)) (hk : CnfOk vars L) (hm : CnfOk vars M) : ACall Try.prog 72 [.agg [.int .i64 vars, .sl (sls L) L.length], .sl (sls M) M.length] [] (.bool (lrnB vars L M)) [] := by
  refine ACall.intro Try.func72 rfl (N := 14) rfl (by decide) (by simp) ?_
  refine a_seq ?_
  refine a_region ?_
  refine r_new (v := .op [.int _ _, .sl _ _]) (q_box (.inl rfl) rfl rfl) rfl rfl (by decide) ?_
  refine r_val (v := .bool _) (v_assign (.inl rfl) (noOwn_flat rfl)) rfl rfl (by decide) ?_
  refine r_nil ?_
  refine a_seq ?_
  refine a_region ?_
  refine r_val (v := .agg [.int _ _, .sl _ _]) (v_load_rpa1 ta29 (.inl rfl) rfl rfl (fun _ => rfl) rfl) rfl rfl (by decide) ?_
  refine r_val (v := .sl _ _) (v_move (.inl rfl) (noOwn_flat rfl)) rfl rfl (by decide) ?_
  refine r_new (v := .bool _) (q_call (vs := [.agg [.int _ _, .sl _ _], .sl _ _]) (args := [.agg [.int .i64 _, .sl _ _], .sl _ _]) hb67 ⟨.inl rfl, .inl rfl, trivial⟩ rfl (fun hA => takes_c vars L M hk hm) rfl rfl) rfl rfl (by decide) ?_
  refine r_val (v := .bool _) (v_move (.inl rfl) (noOwn_flat rfl)) rfl rfl (by decide) ?_
  refine r_gval (v := .agg [.int _ _, .sl _ _]) (v_load_rpa1 ta29 (.inl rfl) rfl rfl (fun _ => rfl) rfl) rfl rfl rfl (by decide) (.inl ⟨_, rfl, rfl⟩) rfl (by decide) ?_
  refine r_gval (v := .sl _ _) (v_move (.inl rfl) (noOwn_flat rfl)) rfl rfl rfl (by decide) (.inl ⟨_, rfl, rfl⟩) rfl (by decide) ?_
  refine r_guard (v := .int _ _) (q_call (vs := [.agg [.int _ _, .sl _ _], .sl _ _]) (args := [.agg [.int .i64 _, .sl _ _], .sl _ _]) hb68 ⟨.inr ⟨_, rfl, fun h => h⟩, .inr ⟨_, rfl, fun h => h⟩, trivial⟩ rfl (fun hA => sFst_c vars L M (by simpa using hA)) rfl rfl) rfl rfl rfl (by decide) (.inl ⟨_, rfl, rfl⟩) rfl (by decide) ?_
  refine r_gval (v := .bool _) (v_lss (.inr ⟨_, rfl, fun h => h⟩) (.inl rfl)) rfl rfl rfl (by decide) (.inl ⟨_, rfl, rfl⟩) rfl (by decide) ?_
  refine r_val (v := .bool _) (v_pick (.inl rfl) (.inr ⟨_, rfl, fun h h2 => by simp_all⟩) (.inl rfl)) rfl rfl (by decide) ?_
  refine r_val (v := .bool _) (v_assign (.inl rfl) (noOwn_flat rfl)) rfl rfl (by decide) ?_
  refine r_nil ?_
  refine a_ret ?_
  refine ret1 Try.results72 (by decide) (by decide) (Weak.of_eq (bool_eq ?_)) rfl Leaves.nil
  unfold lrnB; cases listB vars L M <;> simp

theorem iSho_c (vars : Int) (L M : List (List Int)) (hk : CnfOk vars L) (hm : CnfOk vars M) (k : Int) (hvk : -9223372036854775808 ≤ k ∧ k ≤ 9223372036854775807) : ACall Try.prog 39 [.agg [.int .i64 vars, .sl (sls L) L.length], .sl (sls M) M.length, .int .i64 k] [] (.tup [.osl 1 (icells (shR vars L M k)) (shR vars L M k).length none, .bool (shOk vars L M k)]) [] := by
  have hk1 := hk.1
  have hm1 := hm.2.1
  have hm2 := hm.2.2.1
  refine ACall.intro Try.func39 rfl (N := 54) rfl (by decide) (by simp) ?_
  refine a_seq ?_
  refine a_region ?_
  refine r_new (v := .op [.int _ _, .sl _ _]) (q_box (.inl rfl) rfl rfl) rfl rfl (by decide) ?_
  refine r_val (v := .nils) (v_assign (.inl rfl) (noOwn_flat rfl)) rfl rfl (by decide) ?_
  refine r_val (v := .bool _) (v_assign (.inl rfl) (noOwn_flat rfl)) rfl rfl (by decide) ?_
  refine r_nil ?_
  refine a_seq ?_
  refine a_seq ?_
  refine a_region ?_
  refine r_val (v := .agg [.int _ _, .sl _ _]) (v_load_rpa1 ta29 (.inl rfl) rfl rfl (fun _ => rfl) rfl) rfl rfl (by decide) ?_
  refine r_val (v := .sl _ _) (v_move (.inl rfl) (noOwn_flat rfl)) rfl rfl (by decide) ?_
  refine r_new (v := .bool _) (q_call (vs := [.agg [.int _ _, .sl _ _], .sl _ _]) (args := [.agg [.int .i64 _, .sl _ _], .sl _ _]) hb77 ⟨.inl rfl, .inl rfl, trivial⟩ rfl (fun hA => learned_c vars L M hk hm) rfl rfl) rfl rfl (by decide) ?_
  refine r_val (v := .bool _) (v_not (.inl rfl)) rfl rfl (by decide) ?_
  refine r_val (v := .bool _) (v_move (.inl rfl) (noOwn_flat rfl)) rfl rfl (by decide) ?_
  refine r_gval (v := .int _ _) (v_move (.inl rfl) (noOwn_flat rfl)) rfl rfl rfl (by decide) (.inl ⟨_, rfl, rfl⟩) rfl (by decide) ?_
  refine r_gval (v := .sl _ _) (v_move (.inl rfl) (noOwn_flat rfl)) rfl rfl rfl (by decide) (.inl ⟨_, rfl, rfl⟩) rfl (by decide) ?_
  refine r_gval (v := .int _ _) (v_len_sl sl22 (.inr ⟨_, rfl, fun h => h⟩)) rfl rfl rfl (by decide) (.inl ⟨_, rfl, rfl⟩) rfl (by decide) ?_
  refine r_gval (v := .int _ _) (v_sub (.inr ⟨_, rfl, fun h => h⟩) (.inl rfl) (fun _ => by omega)) rfl rfl rfl (by decide) (.inl ⟨_, rfl, rfl⟩) rfl (by decide) ?_
  refine r_guard (v := .bool _) (q_call (vs := [.int _ _, .int _ _, .int _ _]) (args := [.int .i64 _, .int .i64 _, .int .i64 _]) hb78 ⟨.inr ⟨_, rfl, fun h => h⟩, .inl rfl, .inr ⟨_, rfl, fun h => h⟩, trivial⟩ rfl (fun hA => within_c _ _ _) rfl rfl) rfl rfl rfl (by decide) (.inl ⟨_, rfl, rfl⟩) rfl (by decide) ?_
  refine r_gval (v := .bool _) (v_not (.inr ⟨_, rfl, fun h => h⟩)) rfl rfl rfl (by decide) (.inl ⟨_, rfl, rfl⟩) rfl (by decide) ?_
  refine r_val (v := .bool _) (v_pick (.inl rfl) (.inl rfl) (.inr ⟨_, rfl, fun h h2 => by simp_all⟩)) rfl rfl (by decide) ?_
  refine r_nil ?_
  refine a_cond rfl (fun ht24 => ?_) (fun ht24 => ?_)
  ·
    skip
    refine a_seq ?_
    refine a_region ?_
    refine r_val (v := .nils) (v_assign (.inl rfl) (noOwn_flat rfl)) rfl rfl (by decide) ?_
    refine r_val (v := .bool _) (v_assign (.inl rfl) (noOwn_flat rfl)) rfl rfl (by decide) ?_
    refine r_nil ?_
    refine a_pre (ent_nil (t := 6) (sz := 1) (cap := none) (.inl rfl) (fun _ h => by cases h)) ?_
    refine a_ret ?_
    refine retL (rs := [.tmp 6, .tmp 7]) [(6, .osl _ _ _ none), (7, _)] ⟨Weak.osl rfl rfl, Weak.rfl, trivial⟩ rfl Try.results39 (by decide) ⟨by decide, by decide, rfl⟩ (by decide) (by decide) (l2_eq (osl_eq2 ?_ ?_) (bool_eq ?_)) (by simp [refsL, refs])
    all_goals (have hf : (shOk vars L M k) = false := (by unfold shOk; cases h1 : lrnB vars L M <;> simp_all); first | (unfold shR; rw [hf]; simp [icells, rep]; done) | rw [hf])
  ·
    skip
    refine a_skip ?_
    refine a_seq ?_
    have hok : (shOk vars L M k) = true := (by unfold shOk; cases h1 : lrnB vars L M <;> simp_all)
    obtain ⟨hlb, hk0, hkl⟩ := shOk_spec hok
    obtain ⟨hlc, hlm, hlr⟩ := listB_spec hlb
    have hcs := cnfB_spec hlc
    have hcc := hlr _ hkl
    have hlen := clB_len hcc
    have hGc := bef_cl hlb k.toNat
    have hGl := bef_len L M k.toNat
    have htk : (M.take k.toNat).length = k.toNat := (by rw [List.length_take]; omega)
    refine a_region ?_
    refine r_val (v := .agg [.int _ _, .sl _ _]) (v_load_rpa1 ta29 (.inl rfl) rfl rfl (fun _ => rfl) rfl) rfl rfl (by decide) ?_
    refine r_val (v := .sl _ _) (v_move (.inl rfl) (noOwn_flat rfl)) rfl rfl (by decide) ?_
    refine r_val (v := .int .i64 ((k.toNat : Nat) : Int)) ((v_move (.inl rfl) (noOwn_flat rfl)).cast (int_eq (by omega))) rfl rfl (by decide) ?_
    refine r_new (v := .osl _ _ _ _) (q_callF (vs := [.agg [.int _ _, .sl _ _], .sl _ _, .int _ _]) (args := [.agg [.int .i64 _, .sl _ _], .sl _ _, .int .i64 _]) hb79 ⟨.inl rfl, .inl rfl, .inl rfl, trivial⟩ rfl (fun hA => before_c vars L M k.toNat (by omega) (by omega)) rfl (sls_noRef _)) rfl rfl (by decide) ?_
    refine r_val (v := .rsl _ _ _ _ _) (v_assign (.inl rfl) (noOwn_flat rfl)) rfl rfl (by decide) ?_
    refine r_pre (ent_reloc_sl (t := 8) rfl rfl) ?_
    refine r_nil ?_
    refine a_seq ?_
    refine a_region ?_
    refine r_val (v := .sl _ _) (v_move (.inl rfl) (noOwn_flat rfl)) rfl rfl (by decide) ?_
    refine r_val (v := .int _ _) (v_move (.inl rfl) (noOwn_flat rfl)) rfl rfl (by decide) ?_
    refine r_val (v := .pp _ _) (v_indexAddr_sl es22 (.inl rfl) (.inl rfl) (fun _ => ⟨by omega, by omega, sls_ne hkl⟩)) rfl rfl (by decide) ?_
    refine r_val (v := .sl (icells (gl M k.toNat)) (gl M k.toNat).length) (v_load_pp ta25 (.inl rfl) (fun _ => by rw [Nat.mul_one]; exact sls_get hkl) rfl) rfl rfl (by decide) ?_
    refine r_new (v := .osl _ _ _ _) (q_call (vs := [.sl _ _]) (args := [.sl _ _]) hb80 ⟨.inl rfl, trivial⟩ rfl (fun hA => cloneI_c _ _ ⟨rfl, by omega⟩) (ic_noSh _) (ic_noRef _)) rfl rfl (by decide) ?_
    refine r_val (v := .rsl _ _ _ _ _) (v_assign (.inl rfl) (noOwn_flat rfl)) rfl rfl (by decide) ?_
    refine r_pre (ent_reloc_sl (t := 9) rfl rfl) ?_
    refine r_nil ?_
    refine a_seq ?_
    refine a_seq ?_
    refine a_region ?_
    refine r_val (v := .sl _ _) (v_move (.inl rfl) (noOwn_flat rfl)) rfl rfl (by decide) ?_
    refine r_val (v := .int _ _) (v_move (.inl rfl) (noOwn_flat rfl)) rfl rfl (by decide) ?_
    refine r_val (v := .pp _ _) (v_indexAddr_sl es22 (.inl rfl) (.inl rfl) (fun _ => ⟨by omega, by omega, sls_ne hkl⟩)) rfl rfl (by decide) ?_
    refine r_val (v := .sl (icells (gl M k.toNat)) (gl M k.toNat).length) (v_load_pp ta25 (.inl rfl) (fun _ => by rw [Nat.mul_one]; exact sls_get hkl) rfl) rfl rfl (by decide) ?_
    refine r_val (v := .int _ _) (v_len_sl sl25 (.inl rfl)) rfl rfl (by decide) ?_
    refine r_val (v := .int _ _) (v_move (.inl rfl) (noOwn_flat rfl)) rfl rfl (by decide) ?_
    refine r_nil ?_
    refine a_block ?_
    refine a_loop (X := Nat) (fun i => look [(8, .osl 1 (sls (L ++ M.take k.toNat)) (L ++ M.take k.toNat).length none), (9, .osl 1 (icells (shP (L ++ M.take k.toNat) (gl M k.toNat) i)) (shP (L ++ M.take k.toNat) (gl M k.toNat) i).length none), (37, .sl (icells (gl M k.toNat)) (gl M k.toNat).length), (38, .int .i64 (((gl M k.toNat).length : Nat) : Int)), (39, .int .i64 ((i : Nat) : Int))]) (fun i => i ≤ (gl M k.toNat).length) (fun i => (gl M k.toNat).length - i) 0 (ent_look ⟨Weak.of_eq rfl, Weak.osl rfl rfl, Weak.of_eq rfl, Weak.of_eq rfl, Weak.of_eq rfl, trivial⟩) (Nat.zero_le _) (fun i hG => ?_)
    have hsp := shP_ok (G := (L ++ M.take k.toNat)) hcc i (by omega)
    have hspl := clB_len hsp.1
    refine a_seq ?_
    refine a_region ?_
    refine r_val (v := .bool _) (v_lss (.inl rfl) (.inl rfl)) rfl rfl (by decide) ?_
    refine r_nil ?_
    refine a_seq ?_
    refine a_cond rfl (fun ht40 => ?_) (fun ht40 => ?_)
    ·
      skip
      refine a_skip ?_
      refine a_seq ?_
      refine a_block ?_
      refine a_seq ?_
      have hi2 : i < (gl M k.toNat).length := (by simp at ht40; omega)
      refine a_region ?_
      refine r_val (v := .pp _ _) (v_indexAddr_sl es25 (.inl rfl) (.inl rfl) (fun _ => ⟨by omega, by omega, icells_ne hi2⟩)) rfl rfl (by decide) ?_
      refine r_val (v := .int .i64 (gd (gl M k.toNat) i)) (v_load_pp ta3 (.inl rfl) (fun _ => by rw [Nat.mul_one]; exact icells_get (gd_get hi2)) rfl) rfl rfl (by decide) ?_
      refine r_val (v := .int _ _) (v_assign (.inl rfl) (noOwn_flat rfl)) rfl rfl (by decide) ?_
      refine r_nil ?_
      refine a_seq ?_
      obtain ⟨ix, hix, hfx, hgx⟩ := idx_at (hsp.2.2 i (Nat.le_refl _) hi2)
      refine a_region ?_
      refine r_val (v := .rsl _ _ _ _ _) (v_move (.inl rfl) (noOwn_flat rfl)) rfl rfl (by decide) ?_
      refine r_val (v := .rsl _ _ _ _ _) (v_move (.inl rfl) (noOwn_flat rfl)) rfl rfl (by decide) ?_
      refine r_val (v := .int _ _) (v_move (.inl rfl) (noOwn_flat rfl)) rfl rfl (by decide) ?_
      refine r_new (v := .int .i64 ((ix : Nat) : Int)) (QSem.cast (q_call (vs := [.rsl _ _ _ _ _, .int _ _]) (args := [.sl _ _, .int .i64 _]) hb82 ⟨.inl rfl, .inl rfl, trivial⟩ (l2_eq (sl_sh (ic_pure _)) rfl) (fun hA => index_c (shP (L ++ M.take k.toNat) (gl M k.toNat) i) _ (by omega)) rfl rfl) (int_eq hfx)) rfl rfl (by decide) ?_
      refine r_new (v := .osl _ _ _ _) (q_call (vs := [.rsl _ _ _ _ _, .int _ _]) (args := [.sl _ _, .int .i64 _]) hb81 ⟨.inl rfl, .inl rfl, trivial⟩ (l2_eq (sl_sh (ic_pure _)) rfl) (fun hA => without_c (shP (L ++ M.take k.toNat) (gl M k.toNat) i) ix hix (by omega)) (ic_noSh _) (ic_noRef _)) rfl rfl (by decide) ?_
      refine r_val (v := .rsl _ _ _ _ _) (v_assign (.inl rfl) (noOwn_flat rfl)) rfl rfl (by decide) ?_
      refine r_pre (ent_reloc_sl (t := 12) rfl rfl) ?_
      refine r_nil ?_
      refine a_seq ?_
      refine a_pre (ent_eq (t := 12) (v' := .osl 1 (icells (woS (shP (L ++ M.take k.toNat) (gl M k.toNat) i) (vr (gd (gl M k.toNat) i)))) (woS (shP (L ++ M.take k.toNat) (gl M k.toNat) i) (vr (gd (gl M k.toNat) i))).length none) (Weak.osl (by rw [erase_wo (clB_strict hsp.1) hix, hgx]) (by rw [← hgx, ← erase_wo (clB_strict hsp.1) hix, List.length_eraseIdx_of_lt hix]))) ?_
      have hwo := wo_cl hsp.1 (vr (gd (gl M k.toNat) i))
      refine a_region ?_
      refine r_val (v := .rsl _ _ _ _ _) (v_move (.inl rfl) (noOwn_flat rfl)) rfl rfl (by decide) ?_
      refine r_val (v := .rsl _ _ _ _ _) (v_move (.inl rfl) (noOwn_flat rfl)) rfl rfl (by decide) ?_
      refine r_new (v := .bool _) (q_call (vs := [.rsl _ _ _ _ _, .rsl _ _ _ _ _]) (args := [.sl _ _, .sl _ _]) hb60 ⟨.inl rfl, .inl rfl, trivial⟩ (l2_eq (sl_sh (sls_pure _)) (sl_sh (ic_pure _))) (fun hA => iFol_c vars (L ++ M.take k.toNat) (woS (shP (L ++ M.take k.toNat) (gl M k.toNat) i) (vr (gd (gl M k.toNat) i))) hGc (by omega) hwo) rfl rfl) rfl rfl (by decide) ?_
      refine r_nil ?_
      refine a_cond rfl (fun ht50 => ?_) (fun ht50 => ?_)
      ·
        skip
        refine a_region ?_
        refine r_val (v := .rsl _ _ _ _ _) (v_move (.inl rfl) (noOwn_flat rfl)) rfl rfl (by decide) ?_
        refine r_val (v := .rsl _ _ _ _ _) (v_assign (.inl rfl) (noOwn_flat rfl)) rfl rfl (by decide) ?_
        refine r_pre (ent_reloc_sl (t := 9) rfl rfl) ?_
        refine r_nil ?_
        refine a_region ?_
        refine r_val (v := .int _ _) (v_add (.inl rfl) (.inl rfl) (fun _ => by omega)) rfl rfl (by decide) ?_
        refine r_val (v := .int _ _) (v_move (.inl rfl) (noOwn_flat rfl)) rfl rfl (by decide) ?_
        refine r_nil ?_
        refine ⟨i + 1, ent_look ⟨Weak.of_eq rfl, Weak.osl (by rw [shP_succ hi2]; unfold shS; rw [if_pos ht50]) (by rw [shP_succ hi2]; unfold shS; rw [if_pos ht50]), Weak.of_eq rfl, Weak.of_eq rfl, Weak.of_eq (int_eq (by omega)), trivial⟩, by omega, by omega⟩
      ·
        skip
        refine a_skip ?_
        refine a_region ?_
        refine r_val (v := .int _ _) (v_add (.inl rfl) (.inl rfl) (fun _ => by omega)) rfl rfl (by decide) ?_
        refine r_val (v := .int _ _) (v_move (.inl rfl) (noOwn_flat rfl)) rfl rfl (by decide) ?_
        refine r_nil ?_
        refine ⟨i + 1, ent_look ⟨Weak.of_eq rfl, Weak.osl (by rw [shP_succ hi2]; unfold shS; rw [if_neg (by simp [ht50])]) (by rw [shP_succ hi2]; unfold shS; rw [if_neg (by simp [ht50])]), Weak.of_eq rfl, Weak.of_eq rfl, Weak.of_eq (int_eq (by omega)), trivial⟩, by omega, by omega⟩
    ·
      skip
      refine a_exit ?_
      refine a_seq ?_
      refine a_region ?_
      refine r_val (v := .rsl _ _ _ _ _) (v_move (.inl rfl) (noOwn_flat rfl)) rfl rfl (by decide) ?_
      refine r_val (v := .rsl _ _ _ _ _) (v_assign (.inl rfl) (noOwn_flat rfl)) rfl rfl (by decide) ?_
      refine r_pre (ent_reloc_sl (t := 6) rfl rfl) ?_
      refine r_val (v := .bool _) (v_assign (.inl rfl) (noOwn_flat rfl)) rfl rfl (by decide) ?_
      refine r_nil ?_
      refine a_ret ?_
      refine retL (rs := [.tmp 6, .tmp 7]) [(6, .osl _ _ _ none), (7, _)] ⟨Weak.osl rfl rfl, Weak.rfl, trivial⟩ rfl Try.results39 (by decide) ⟨by decide, by decide, rfl⟩ (by decide) (by decide) (l2_eq (osl_eq2 ?_ ?_) (bool_eq ?_)) (by simp [refsL, refs])
      all_goals (have hie : i = (gl M k.toNat).length := (by simp at ht40; omega); subst hie; first | (unfold shR; rw [hok]; rfl) | rw [hok])

theorem sSho_c (vars : Int) (L M : List (List Int)) (hk : CnfOk vars L) (hm : CnfOk vars M) (k : Int) (hvk : -9223372036854775808 ≤ k ∧ k ≤ 9223372036854775807) : ACall Try.prog 38 [.agg [.int .i64 vars, .sl (sls L) L.length], .sl (sls M) M.length, .int .i64 k] [] (.tup [.osl 1 (icells (shR vars L M k)) (shR vars L M k).length none, .bool (shOk vars L M k)]) [] := by
  have hk1 := hk.1
  have hm1 := hm.2.1
  have hm2 := hm.2.2.1
  refine ACall.intro Try.func38 rfl (N := 60) rfl (by decide) (by simp) ?_
  refine a_seq ?_
  refine a_region ?_
  refine r_new (v := .op [.int _ _, .sl _ _]) (q_box (.inl rfl) rfl rfl) rfl rfl (by decide) ?_
  refine r_val (v := .nils) (v_assign (.inl rfl) (noOwn_flat rfl)) rfl rfl (by decide) ?_
  refine r_val (v := .bool _) (v_assign (.inl rfl) (noOwn_flat rfl)) rfl rfl (by decide) ?_
  refine r_nil ?_
  refine a_seq ?_
  refine a_seq ?_
  refine a_region ?_
  refine r_val (v := .agg [.int _ _, .sl _ _]) (v_load_rpa1 ta29 (.inl rfl) rfl rfl (fun _ => rfl) rfl) rfl rfl (by decide) ?_
  refine r_val (v := .sl _ _) (v_move (.inl rfl) (noOwn_flat rfl)) rfl rfl (by decide) ?_
  refine r_new (v := .bool _) (q_call (vs := [.agg [.int _ _, .sl _ _], .sl _ _]) (args := [.agg [.int .i64 _, .sl _ _], .sl _ _]) hb72 ⟨.inl rfl, .inl rfl, trivial⟩ rfl (fun hA => good11_c vars L M hk hm) rfl rfl) rfl rfl (by decide) ?_
  refine r_val (v := .bool _) (v_not (.inl rfl)) rfl rfl (by decide) ?_
  refine r_val (v := .bool _) (v_move (.inl rfl) (noOwn_flat rfl)) rfl rfl (by decide) ?_
  refine r_gval (v := .int _ _) (v_move (.inl rfl) (noOwn_flat rfl)) rfl rfl rfl (by decide) (.inl ⟨_, rfl, rfl⟩) rfl (by decide) ?_
  refine r_gval (v := .sl _ _) (v_move (.inl rfl) (noOwn_flat rfl)) rfl rfl rfl (by decide) (.inl ⟨_, rfl, rfl⟩) rfl (by decide) ?_
  refine r_gval (v := .int _ _) (v_len_sl sl22 (.inr ⟨_, rfl, fun h => h⟩)) rfl rfl rfl (by decide) (.inl ⟨_, rfl, rfl⟩) rfl (by decide) ?_
  refine r_gval (v := .int _ _) (v_sub (.inr ⟨_, rfl, fun h => h⟩) (.inl rfl) (fun _ => by omega)) rfl rfl rfl (by decide) (.inl ⟨_, rfl, rfl⟩) rfl (by decide) ?_
  refine r_guard (v := .bool _) (q_call (vs := [.int _ _, .int _ _, .int _ _]) (args := [.int .i64 _, .int .i64 _, .int .i64 _]) hb73 ⟨.inr ⟨_, rfl, fun h => h⟩, .inl rfl, .inr ⟨_, rfl, fun h => h⟩, trivial⟩ rfl (fun hA => l1In_c _ _ _) rfl rfl) rfl rfl rfl (by decide) (.inl ⟨_, rfl, rfl⟩) rfl (by decide) ?_
  refine r_gval (v := .bool _) (v_not (.inr ⟨_, rfl, fun h => h⟩)) rfl rfl rfl (by decide) (.inl ⟨_, rfl, rfl⟩) rfl (by decide) ?_
  refine r_val (v := .bool _) (v_pick (.inl rfl) (.inl rfl) (.inr ⟨_, rfl, fun h h2 => by simp_all⟩)) rfl rfl (by decide) ?_
  refine r_nil ?_
  refine a_cond rfl (fun ht23 => ?_) (fun ht23 => ?_)
  ·
    skip
    refine a_seq ?_
    refine a_region ?_
    refine r_new (v := .osl _ _ _ _) (q_sliceLit (n := 0) (parts := []) lt25 rfl rfl rfl rfl) rfl rfl (by decide) ?_
    refine r_val (v := .rsl _ _ _ _ _) (v_assign (.inl rfl) (noOwn_flat rfl)) rfl rfl (by decide) ?_
    refine r_pre (ent_reloc_sl (t := 6) rfl rfl) ?_
    refine r_val (v := .bool _) (v_assign (.inl rfl) (noOwn_flat rfl)) rfl rfl (by decide) ?_
    refine r_nil ?_
    refine a_ret ?_
    refine retL (rs := [.tmp 6, .tmp 7]) [(6, .osl _ _ _ none), (7, _)] ⟨Weak.osl rfl rfl, Weak.rfl, trivial⟩ rfl Try.results38 (by decide) ⟨by decide, by decide, rfl⟩ (by decide) (by decide) (l2_eq (osl_eq2 ?_ ?_) (bool_eq ?_)) (by simp [refsL, refs])
    all_goals (have hf : (shOk vars L M k) = false := (by unfold shOk; cases h1 : lrnB vars L M <;> simp_all); first | (unfold shR; rw [hf]; simp [icells, rep]; done) | rw [hf])
  ·
    skip
    refine a_skip ?_
    refine a_seq ?_
    have hok : (shOk vars L M k) = true := (by unfold shOk; cases h1 : lrnB vars L M <;> simp_all)
    obtain ⟨hlb, hk0, hkl⟩ := shOk_spec hok
    obtain ⟨hlc, hlm, hlr⟩ := listB_spec hlb
    have hcs := cnfB_spec hlc
    have hcc := hlr _ hkl
    have hlen := clB_len hcc
    have hGc := bef_cl hlb k.toNat
    have hGl := bef_len L M k.toNat
    have htk : (M.take k.toNat).length = k.toNat := (by rw [List.length_take]; omega)
    refine a_region_z (n := 6) [[(25, true)], [(26, true)], [(27, true)], [(28, true)], [(29, true)], [(8, true)]] mixed (by kernel_rfl) ?_
    refine z_val (v := .agg [.int _ _, .sl _ _]) (v_load_rpa1 ta29 (.inl rfl) rfl rfl (fun _ => rfl) rfl) rfl rfl (by decide) rfl (by kernel_rfl) ?_
    refine z_val (v := .sl _ _) (v_move (.inl rfl) (noOwn_flat rfl)) rfl rfl (by decide) rfl (by kernel_rfl) ?_
    refine z_val (v := .int .i64 ((k.toNat : Nat) : Int)) ((v_move (.inl rfl) (noOwn_flat rfl)).cast (int_eq (by omega))) rfl rfl (by decide) rfl (by kernel_rfl) ?_
    refine z_val (v := .sl (sls (M.take k.toNat)) k.toNat) ((v_slice_sl (l := 0) (h := k.toNat) es22 (.inl rfl) (.inl ⟨rfl, rfl⟩) (.inr ⟨_, _, rfl, .inl rfl⟩) (fun _ => by omega)).cast (sl_eq2 (by simp [sls]) (by omega))) rfl rfl (by decide) rfl (by kernel_rfl) ?_
    refine z_new (v := .agg [.int _ _, .osl _ _ _ _]) (q_callF (vs := [.agg [.int _ _, .sl _ _], .sl _ _]) (args := [.agg [.int .i64 _, .sl _ _], .sl _ _]) hb74 ⟨.inl rfl, .inl rfl, trivial⟩ rfl (fun hA => with_c vars L (M.take k.toNat) k.toNat htk (by omega)) rfl (by simp [noRef, noRefL, sls_noRef])) rfl rfl (by decide) rfl (by kernel_rfl) ?_
    refine z_new (v := .op [.int _ _, .nils]) (q_alloc zc29) rfl rfl (by decide) rfl (by kernel_rfl) ?_
    refine z_nil ?_
    refine r_step rfl (o_store_own (v := .agg [.int _ _, .osl _ _ _ _]) (y' := .op [.int _ _, .osl _ _ _ _]) rfl rfl ta29 (.inl rfl) (by decide) rfl (by decide) rfl (by simp [cellsOf, noRefL, noRef, sls_noRef]) rfl rfl rfl rfl rfl (Nat.le_of_ble_eq_true rfl) rfl rfl) ?_
    refine r_nil ?_
    refine a_seq ?_
    refine a_region ?_
    refine r_new (v := .osl _ _ _ _) (q_sliceLit (n := 0) (parts := []) lt25 rfl rfl rfl rfl) rfl rfl (by decide) ?_
    refine r_val (v := .sl _ _) (v_move (.inl rfl) (noOwn_flat rfl)) rfl rfl (by decide) ?_
    refine r_val (v := .int _ _) (v_move (.inl rfl) (noOwn_flat rfl)) rfl rfl (by decide) ?_
    refine r_val (v := .pp _ _) (v_indexAddr_sl es22 (.inl rfl) (.inl rfl) (fun _ => ⟨by omega, by omega, sls_ne hkl⟩)) rfl rfl (by decide) ?_
    refine r_val (v := .sl (icells (gl M k.toNat)) (gl M k.toNat).length) (v_load_pp ta25 (.inl rfl) (fun _ => by rw [Nat.mul_one]; exact sls_get hkl) rfl) rfl rfl (by decide) ?_
    refine r_step rfl (o_append rfl ap25 rfl (by decide) (by decide) rfl (src_sl (.inl rfl) (fun _ => by rw [icells_length]; omega) (ic_pureL _)) (ic_cell _) rfl (by omega)) ?_
    refine r_val (v := .rsl _ _ _ _ _) (v_assign (.inl rfl) (noOwn_flat rfl)) rfl rfl (by decide) ?_
    refine r_pre (ent_reloc_sl (t := 9) rfl rfl) ?_
    refine r_nil ?_
    refine a_seq ?_
    refine a_seq ?_
    refine a_region ?_
    refine r_val (v := .int _ _) (v_assign (.inl rfl) (noOwn_flat rfl)) rfl rfl (by decide) ?_
    refine r_nil ?_
    refine a_block ?_
    refine a_loop (X := Nat) (fun i => look [(1, .sl (sls M) M.length), (2, .int .i64 k), (8, .op [.int .i64 vars, .osl 1 (sls (L ++ M.take k.toNat)) (L ++ M.take k.toNat).length none]), (9, .osl 1 (icells (shP (L ++ M.take k.toNat) (gl M k.toNat) i)) (shP (L ++ M.take k.toNat) (gl M k.toNat) i).length none), (10, .int .i64 ((i : Nat) : Int))]) (fun i => i ≤ (gl M k.toNat).length) (fun i => (gl M k.toNat).length - i) 0 (ent_look ⟨Weak.of_eq rfl, Weak.of_eq rfl, Weak.of_eq rfl, Weak.osl (by simp [shP, rep]) (by simp [shP]), Weak.of_eq rfl, trivial⟩) (Nat.zero_le _) (fun i hG => ?_)
    have hsp := shP_ok (G := (L ++ M.take k.toNat)) hcc i (by omega)
    have hspl := clB_len hsp.1
    refine a_seq ?_
    refine a_seq ?_
    refine a_region ?_
    refine r_val (v := .int _ _) (v_move (.inl rfl) (noOwn_flat rfl)) rfl rfl (by decide) ?_
    refine r_val (v := .sl _ _) (v_move (.inl rfl) (noOwn_flat rfl)) rfl rfl (by decide) ?_
    refine r_val (v := .int _ _) (v_move (.inl rfl) (noOwn_flat rfl)) rfl rfl (by decide) ?_
    refine r_val (v := .pp _ _) (v_indexAddr_sl es22 (.inl rfl) (.inl rfl) (fun _ => ⟨by omega, by omega, sls_ne hkl⟩)) rfl rfl (by decide) ?_
    refine r_val (v := .sl (icells (gl M k.toNat)) (gl M k.toNat).length) (v_load_pp ta25 (.inl rfl) (fun _ => by rw [Nat.mul_one]; exact sls_get hkl) rfl) rfl rfl (by decide) ?_
    refine r_val (v := .int _ _) (v_len_sl sl25 (.inl rfl)) rfl rfl (by decide) ?_
    refine r_val (v := .bool _) (v_lss (.inl rfl) (.inl rfl)) rfl rfl (by decide) ?_
    refine r_nil ?_
    refine a_cond rfl (fun ht42 => ?_) (fun ht42 => ?_)
    ·
      skip
      refine a_skip ?_
      refine a_seq ?_
      refine a_block ?_
      refine a_seq ?_
      have hi2 : i < (gl M k.toNat).length := (by simp at ht42; omega)
      have hsm := clB_sm hsp.1
      have hxm := clB_mem hcc (gd_mem hi2)
      refine a_region ?_
      refine r_val (v := .rsl _ _ _ _ _) (v_move (.inl rfl) (noOwn_flat rfl)) rfl rfl (by decide) ?_
      refine r_val (v := .sl _ _) (v_move (.inl rfl) (noOwn_flat rfl)) rfl rfl (by decide) ?_
      refine r_val (v := .int _ _) (v_move (.inl rfl) (noOwn_flat rfl)) rfl rfl (by decide) ?_
      refine r_val (v := .pp _ _) (v_indexAddr_sl es22 (.inl rfl) (.inl rfl) (fun _ => ⟨by omega, by omega, sls_ne hkl⟩)) rfl rfl (by decide) ?_
      refine r_val (v := .sl (icells (gl M k.toNat)) (gl M k.toNat).length) (v_load_pp ta25 (.inl rfl) (fun _ => by rw [Nat.mul_one]; exact sls_get hkl) rfl) rfl rfl (by decide) ?_
      refine r_val (v := .int _ _) (v_move (.inl rfl) (noOwn_flat rfl)) rfl rfl (by decide) ?_
      refine r_val (v := .pp _ _) (v_indexAddr_sl es25 (.inl rfl) (.inl rfl) (fun _ => ⟨by omega, by omega, icells_ne hi2⟩)) rfl rfl (by decide) ?_
      refine r_val (v := .int .i64 (gd (gl M k.toNat) i)) (v_load_pp ta3 (.inl rfl) (fun _ => by rw [Nat.mul_one]; exact icells_get (gd_get hi2)) rfl) rfl rfl (by decide) ?_
      refine r_new (v := .int _ _) (q_call (vs := [.int _ _]) (args := [.int .i64 _]) hb76 ⟨.inl rfl, trivial⟩ rfl (fun hA => l2Var_c _ (by omega)) rfl rfl) rfl rfl (by decide) ?_
      refine r_new (v := .osl _ _ _ _) (q_call (vs := [.rsl _ _ _ _ _, .int _ _]) (args := [.sl _ _, .int .i64 _]) hb75 ⟨.inl rfl, .inl rfl, trivial⟩ (l2_eq (sl_sh (ic_pure _)) rfl) (fun hA => l2Without_c (shP (L ++ M.take k.toNat) (gl M k.toNat) i) _ (by omega) hsm) (ic_noSh _) (ic_noRef _)) rfl rfl (by decide) ?_
      refine r_val (v := .rsl _ _ _ _ _) (v_assign (.inl rfl) (noOwn_flat rfl)) rfl rfl (by decide) ?_
      refine r_pre (ent_reloc_sl (t := 11) rfl rfl) ?_
      refine r_nil ?_
      refine a_seq ?_
      have hwo := wo_cl hsp.1 (vr (gd (gl M k.toNat) i))
      refine a_region ?_
      refine r_val (v := .agg [.int _ _, .rsl _ _ _ _ _]) (v_load_rpa (xs := [.int _ _, .osl _ _ _ _]) ta29 (.inl rfl) rfl rfl (fun _ => take_get rfl)) rfl rfl (by decide) ?_
      refine r_val (v := .rsl _ _ _ _ _) (v_move (.inl rfl) (noOwn_flat rfl)) rfl rfl (by decide) ?_
      refine r_new (v := .bool _) (q_call (vs := [.agg [.int _ _, .rsl _ _ _ _ _], .rsl _ _ _ _ _]) (args := [.agg [.int .i64 _, .sl _ _], .sl _ _]) hb57 ⟨.inl rfl, .inl rfl, trivial⟩ (l2_eq (agg_eq (l2_eq rfl (sl_sh (sls_pure _)))) (sl_sh (ic_pure _))) (fun hA => sFol_c vars (L ++ M.take k.toNat) (woS (shP (L ++ M.take k.toNat) (gl M k.toNat) i) (vr (gd (gl M k.toNat) i))) hGc (by omega) hwo) rfl rfl) rfl rfl (by decide) ?_
      refine r_nil ?_
      refine a_cond rfl (fun ht57 => ?_) (fun ht57 => ?_)
      ·
        skip
        refine a_region ?_
        refine r_val (v := .rsl _ _ _ _ _) (v_move (.inl rfl) (noOwn_flat rfl)) rfl rfl (by decide) ?_
        refine r_val (v := .rsl _ _ _ _ _) (v_assign (.inl rfl) (noOwn_flat rfl)) rfl rfl (by decide) ?_
        refine r_pre (ent_reloc_sl (t := 9) rfl rfl) ?_
        refine r_nil ?_
        refine a_region ?_
        refine r_val (v := .int _ _) (v_move (.inl rfl) (noOwn_flat rfl)) rfl rfl (by decide) ?_
        refine r_val (v := .int _ _) (v_add (.inl rfl) (.inl rfl) (fun _ => by omega)) rfl rfl (by decide) ?_
        refine r_val (v := .int _ _) (v_assign (.inl rfl) (noOwn_flat rfl)) rfl rfl (by decide) ?_
        refine r_nil ?_
        refine ⟨i + 1, ent_look ⟨Weak.of_eq rfl, Weak.of_eq rfl, Weak.of_eq rfl, Weak.osl (by rw [shP_succ hi2]; unfold shS; rw [if_pos ht57]) (by rw [shP_succ hi2]; unfold shS; rw [if_pos ht57]), Weak.of_eq (int_eq (by omega)), trivial⟩, by omega, by omega⟩
      ·
        skip
        refine a_skip ?_
        refine a_region ?_
        refine r_val (v := .int _ _) (v_move (.inl rfl) (noOwn_flat rfl)) rfl rfl (by decide) ?_
        refine r_val (v := .int _ _) (v_add (.inl rfl) (.inl rfl) (fun _ => by omega)) rfl rfl (by decide) ?_
        refine r_val (v := .int _ _) (v_assign (.inl rfl) (noOwn_flat rfl)) rfl rfl (by decide) ?_
        refine r_nil ?_
        refine ⟨i + 1, ent_look ⟨Weak.of_eq rfl, Weak.of_eq rfl, Weak.of_eq rfl, Weak.osl (by rw [shP_succ hi2]; unfold shS; rw [if_neg (by simp [ht57])]) (by rw [shP_succ hi2]; unfold shS; rw [if_neg (by simp [ht57])]), Weak.of_eq (int_eq (by omega)), trivial⟩, by omega, by omega⟩
    ·
      skip
      refine a_exit ?_
      refine a_seq ?_
      refine a_region ?_
      refine r_val (v := .rsl _ _ _ _ _) (v_move (.inl rfl) (noOwn_flat rfl)) rfl rfl (by decide) ?_
      refine r_val (v := .rsl _ _ _ _ _) (v_assign (.inl rfl) (noOwn_flat rfl)) rfl rfl (by decide) ?_
      refine r_pre (ent_reloc_sl (t := 6) rfl rfl) ?_
      refine r_val (v := .bool _) (v_assign (.inl rfl) (noOwn_flat rfl)) rfl rfl (by decide) ?_
      refine r_nil ?_
      refine a_ret ?_
      refine retL (rs := [.tmp 6, .tmp 7]) [(6, .osl _ _ _ none), (7, _)] ⟨Weak.osl rfl rfl, Weak.rfl, trivial⟩ rfl Try.results38 (by decide) ⟨by decide, by decide, rfl⟩ (by decide) (by decide) (l2_eq (osl_eq2 ?_ ?_) (bool_eq ?_)) (by simp [refsL, refs])
      all_goals (have hie : i = (gl M k.toNat).length := (by simp at ht42; omega); subst hie; first | (unfold shR; rw [hok]; rfl) | rw [hok])
end Go.Av
namespace Go.Av
open Go Go.Proofs Go.Sort
set_option maxRecDepth 10000
theorem hb38 : hasBody Try.prog 38 = true := by kernel_rfl
theorem hb39 : hasBody Try.prog 39 = true := by kernel_rfl

theorem lawShortenLearned_c (vars : Int) (L : List (List Int)) (M : List (List Int)) (k : Int) (hv : -9223372036854775808 ≤ vars ∧ vars ≤ 9223372036854775807) (hlen : ∀ i, ((gl L i).length : Int) ≤ 9223372036854775807) (hL : (L.length : Int) ≤ 9223372036854775807) (hbb : ∀ i j, -9223372036854775808 ≤ gd (gl L i) j ∧ gd (gl L i) j ≤ 9223372036854775807) (hlenM : ∀ i, ((gl M i).length : Int) ≤ 9223372036854775807) (hLM : (M.length : Int) ≤ 9223372036854775807) (hbM : ∀ i j, -9223372036854775808 ≤ gd (gl M i) j ∧ gd (gl M i) j ≤ 9223372036854775807) (hvk : -9223372036854775808 ≤ k ∧ k ≤ 9223372036854775807) : ACall Try.prog 8 [.agg [.int .i64 vars, .sl (sls L) L.length], .sl (sls M) M.length, .int .i64 k] [] (.bool true) [] := by
  have hr := shR_len vars L M k
  refine ACall.intro Try.func8 rfl (N := 124) rfl (by decide) (by simp) ?_
  refine a_seq ?_
  refine a_region ?_
  refine r_new (v := .op [.int _ _, .sl _ _]) (q_box (.inl rfl) rfl rfl) rfl rfl (by decide) ?_
  refine r_val (v := .bool _) (v_assign (.inl rfl) (noOwn_flat rfl)) rfl rfl (by decide) ?_
  refine r_nil ?_
  refine a_seq ?_
  refine a_region ?_
  refine r_val (v := .int _ _) (v_assign (.inl rfl) (noOwn_flat rfl)) rfl rfl (by decide) ?_
  refine r_nil ?_
  refine a_seq ?_
  refine a_region ?_
  refine r_val (v := .agg [.int _ _, .sl _ _]) (v_load_rpa1 ta24 (.inl rfl) rfl rfl (fun _ => rfl) rfl) rfl rfl (by decide) ?_
  refine r_val (v := .int _ _) (v_move (.inl rfl) (noOwn_flat rfl)) rfl rfl (by decide) ?_
  refine r_new (v := .int _ _) (q_call (vs := [.agg [.int _ _, .sl _ _], .int _ _]) (args := [.agg [.int .i64 _, .sl _ _], .int .i64 _]) hb14 ⟨.inl rfl, .inl rfl, trivial⟩ rfl (fun hA => szCnf_c _ _ _ (by omega) hlen hL) rfl rfl) rfl rfl (by decide) ?_
  refine r_val (v := .int _ _) (v_assign (.inl rfl) (noOwn_flat rfl)) rfl rfl (by decide) ?_
  refine r_nil ?_
  refine a_seq ?_
  refine a_seq ?_
  refine a_region ?_
  refine r_val (v := .int _ _) (v_move (.inl rfl) (noOwn_flat rfl)) rfl rfl (by decide) ?_
  refine r_val (v := .bool _) (v_lss (.inl rfl) (.inl rfl)) rfl rfl (by decide) ?_
  refine r_nil ?_
  refine a_cond rfl (fun ht23 => ?_) (fun ht23 => ?_)
  ·
    skip
    refine a_seq ?_
    refine a_region ?_
    refine r_val (v := .bool _) (v_assign (.inl rfl) (noOwn_flat rfl)) rfl rfl (by decide) ?_
    refine r_nil ?_
    refine a_ret ?_
    refine ret1 Try.results8 (by decide) (by decide) (Weak.of_eq (bool_eq ?_)) rfl Leaves.nil
    first | rfl | (exfalso; simp at ht23; done) | (exfalso; simp at ht23; omega)
  ·
    skip
    refine a_skip ?_
    refine a_seq ?_
    have hsz : L.length + tot L L.length ≤ 1048576 := (by have h9 := of_decide_eq_false ht23; unfold szR at h9; split at h9 <;> omega)
    have hk : CnfOk vars L := ⟨hv, by omega, by omega, hbb⟩
    have hll := fun i => len_tot (L := L) (i := i)
    have hsr : szR 1048576 ((L.length + tot L L.length : Nat) : Int) = 1048576 - ((L.length + tot L L.length : Nat) : Int) := (by unfold szR; rw [if_neg (by omega)])
    refine a_region ?_
    refine r_val (v := .sl _ _) (v_move (.inl rfl) (noOwn_flat rfl)) rfl rfl (by decide) ?_
    refine r_val (v := .int _ _) (v_move (.inl rfl) (noOwn_flat rfl)) rfl rfl (by decide) ?_
    refine r_new (v := .int _ _) (q_call (vs := [.sl _ _, .int _ _]) (args := [.sl _ _, .int .i64 _]) hb31 ⟨.inl rfl, .inl rfl, trivial⟩ rfl (fun hA => szIntSS_c _ _ (by omega) hlenM hLM) rfl rfl) rfl rfl (by decide) ?_
    refine r_val (v := .int _ _) (v_assign (.inl rfl) (noOwn_flat rfl)) rfl rfl (by decide) ?_
    refine r_nil ?_
    refine a_seq ?_
    refine a_seq ?_
    refine a_region ?_
    refine r_val (v := .int _ _) (v_move (.inl rfl) (noOwn_flat rfl)) rfl rfl (by decide) ?_
    refine r_val (v := .bool _) (v_lss (.inl rfl) (.inl rfl)) rfl rfl (by decide) ?_
    refine r_nil ?_
    refine a_cond rfl (fun ht28 => ?_) (fun ht28 => ?_)
    ·
      skip
      refine a_seq ?_
      refine a_pre (ent_look (L := [(1, .sl _ _), (2, .int _ _), (3, .op [.int _ _, .sl _ _]), (6, .bool _)]) ⟨Weak.rfl, Weak.rfl, Weak.rfl, Weak.rfl, trivial⟩) ?_
      refine a_region ?_
      refine r_val (v := .bool _) (v_assign (.inl rfl) (noOwn_flat rfl)) rfl rfl (by decide) ?_
      refine r_nil ?_
      refine a_ret ?_
      refine ret1 Try.results8 (by decide) (by decide) (Weak.of_eq (bool_eq ?_)) rfl Leaves.nil
      first | rfl | (exfalso; simp at ht28; done) | (exfalso; simp at ht28; omega)
    ·
      skip
      refine a_skip ?_
      refine a_seq ?_
      refine a_pre (ent_look (L := [(1, .sl _ _), (2, .int _ _), (3, .op [.int _ _, .sl _ _]), (6, .bool _)]) ⟨Weak.rfl, Weak.rfl, Weak.rfl, Weak.rfl, trivial⟩) ?_
      have hszM : M.length + tot M M.length ≤ 1048576 := (by have h9 := of_decide_eq_false ht28; rw [hsr] at h9; unfold szR at h9; split at h9 <;> omega)
      have hm : CnfOk vars M := ⟨hv, by omega, by omega, hbM⟩
      have hllM := fun i => len_tot (L := M) (i := i)
      refine a_region ?_
      refine r_val (v := .agg [.int _ _, .sl _ _]) (v_load_rpa1 ta24 (.inl rfl) rfl rfl (fun _ => rfl) rfl) rfl rfl (by decide) ?_
      refine r_new (v := .agg [.int _ _, .osl _ _ _ _]) (q_call (vs := [.agg [.int _ _, .sl _ _]]) (args := [.agg [.int .i64 _, .sl _ _]]) hb16 ⟨.inl rfl, trivial⟩ rfl (fun hA => toCnf_c _ _ (by omega) (by omega)) (by simp [noSh, noShL, osls_noSh]) (by simp [noRef, noRefL, osls_noRef])) rfl rfl (by decide) ?_
      refine r_val (v := .sl _ _) (v_move (.inl rfl) (noOwn_flat rfl)) rfl rfl (by decide) ?_
      refine r_new (v := .osl _ _ _ _) (q_call (vs := [.sl _ _]) (args := [.sl _ _]) hb33 ⟨.inl rfl, trivial⟩ rfl (fun hA => toIntSS_c _ (by omega) (by omega)) (osls_noSh _) (osls_noRef _)) rfl rfl (by decide) ?_
      refine r_val (v := .int _ _) (v_move (.inl rfl) (noOwn_flat rfl)) rfl rfl (by decide) ?_
      refine r_new (v := .tup [.osl _ _ _ _, .bool _]) (q_call (vs := [.agg [.int _ _, .rsl _ _ _ _ _], .rsl _ _ _ _ _, .int _ _]) (args := [.agg [.int .i64 _, .sl _ _], .sl _ _, .int .i64 _]) hb38 ⟨.inl rfl, .inl rfl, .inl rfl, trivial⟩ (l3_eq (agg_eq (l2_eq rfl sl_osls)) sl_osls rfl) (fun hA => sSho_c _ _ _ hk hm _ hvk) (by simp [noSh, noShL, ic_noSh]) (by simp [noRef, noRefL, ic_noRef])) rfl rfl (by decide) ?_
      refine r_val (v := .tup [.rsl _ _ _ _ _, .bool _]) (v_mv rfl) rfl rfl (by decide) ?_
      refine r_val (v := .rsl _ _ _ _ _) (v_extract rfl rfl) rfl rfl (by decide) ?_
      refine r_val (v := .bool _) (v_extract rfl rfl) rfl rfl (by decide) ?_
      refine r_val (v := .rsl _ _ _ _ _) (v_assign (.inl rfl) (noOwn_flat rfl)) rfl rfl (by decide) ?_
      refine r_pre (ent_reloc_sl (t := 8) rfl rfl) ?_
      refine r_val (v := .bool _) (v_assign (.inl rfl) (noOwn_flat rfl)) rfl rfl (by decide) ?_
      refine r_nil ?_
      refine a_seq ?_
      refine a_pre (ent_look (L := [(1, .sl _ _), (2, .int _ _), (3, .op [.int _ _, .sl _ _]), (6, .bool _), (8, .osl _ _ _ _), (9, .bool _)]) ⟨Weak.rfl, Weak.rfl, Weak.rfl, Weak.rfl, Weak.rfl, Weak.rfl, trivial⟩) ?_
      refine a_region ?_
      refine r_val (v := .agg [.int _ _, .sl _ _]) (v_load_rpa1 ta24 (.inl rfl) rfl rfl (fun _ => rfl) rfl) rfl rfl (by decide) ?_
      refine r_new (v := .agg [.int _ _, .osl _ _ _ _]) (q_call (vs := [.agg [.int _ _, .sl _ _]]) (args := [.agg [.int .i64 _, .sl _ _]]) hb16 ⟨.inl rfl, trivial⟩ rfl (fun hA => toCnf_c _ _ (by omega) (by omega)) (by simp [noSh, noShL, osls_noSh]) (by simp [noRef, noRefL, osls_noRef])) rfl rfl (by decide) ?_
      refine r_new (v := .op [.int _ _, .nils]) (q_alloc zc29) rfl rfl (by decide) ?_
      refine r_step rfl (o_store_own (v := .agg [.int _ _, .osl _ _ _ _]) (y' := .op [.int _ _, .osl _ _ _ _]) rfl rfl ta29 (.inl rfl) (by decide) rfl (by decide) rfl (by simp [cellsOf, noRefL, noRef, osls_noRef]) rfl rfl rfl rfl rfl (Nat.le_of_ble_eq_true rfl) rfl rfl) ?_
      refine r_nil ?_
      refine a_seq ?_
      refine a_region ?_
      refine r_val (v := .sl _ _) (v_move (.inl rfl) (noOwn_flat rfl)) rfl rfl (by decide) ?_
      refine r_new (v := .osl _ _ _ _) (q_call (vs := [.sl _ _]) (args := [.sl _ _]) hb33 ⟨.inl rfl, trivial⟩ rfl (fun hA => toIntSS_c _ (by omega) (by omega)) (osls_noSh _) (osls_noRef _)) rfl rfl (by decide) ?_
      refine r_val (v := .rsl _ _ _ _ _) (v_assign (.inl rfl) (noOwn_flat rfl)) rfl rfl (by decide) ?_
      refine r_pre (ent_reloc_sl (t := 11) rfl rfl) ?_
      refine r_nil ?_
      refine a_seq ?_
      refine a_region ?_
      refine r_val (v := .agg [.int _ _, .rsl _ _ _ _ _]) (v_load_rpa (xs := [.int _ _, .osl _ _ _ _]) ta29 (.inl rfl) rfl rfl (fun _ => take_get rfl)) rfl rfl (by decide) ?_
      refine r_val (v := .rsl _ _ _ _ _) (v_move (.inl rfl) (noOwn_flat rfl)) rfl rfl (by decide) ?_
      refine r_val (v := .int _ _) (v_move (.inl rfl) (noOwn_flat rfl)) rfl rfl (by decide) ?_
      refine r_new (v := .tup [.osl _ _ _ _, .bool _]) (q_call (vs := [.agg [.int _ _, .rsl _ _ _ _ _], .rsl _ _ _ _ _, .int _ _]) (args := [.agg [.int .i64 _, .sl _ _], .sl _ _, .int .i64 _]) hb39 ⟨.inl rfl, .inl rfl, .inl rfl, trivial⟩ (l3_eq (agg_eq (l2_eq rfl sl_osls)) sl_osls rfl) (fun hA => iSho_c _ _ _ hk hm _ hvk) (by simp [noSh, noShL, ic_noSh]) (by simp [noRef, noRefL, ic_noRef])) rfl rfl (by decide) ?_
      refine r_val (v := .tup [.rsl _ _ _ _ _, .bool _]) (v_mv rfl) rfl rfl (by decide) ?_
      refine r_val (v := .rsl _ _ _ _ _) (v_extract rfl rfl) rfl rfl (by decide) ?_
      refine r_val (v := .bool _) (v_extract rfl rfl) rfl rfl (by decide) ?_
      refine r_val (v := .rsl _ _ _ _ _) (v_assign (.inl rfl) (noOwn_flat rfl)) rfl rfl (by decide) ?_
      refine r_pre (ent_reloc_sl (t := 12) rfl rfl) ?_
      refine r_val (v := .bool _) (v_assign (.inl rfl) (noOwn_flat rfl)) rfl rfl (by decide) ?_
      refine r_nil ?_
      refine a_seq ?_
      refine a_seq ?_
      refine a_pre (ent_look (L := [(1, .sl _ _), (2, .int _ _), (3, .op [.int _ _, .sl _ _]), (6, .bool _), (8, .osl _ _ _ _), (9, .bool _), (10, .op [.int _ _, .osl _ _ _ _]), (11, .osl _ _ _ _), (12, .osl _ _ _ _), (13, .bool _)]) ⟨Weak.rfl, Weak.rfl, Weak.rfl, Weak.rfl, Weak.rfl, Weak.rfl, Weak.rfl, Weak.rfl, Weak.rfl, Weak.rfl, trivial⟩) ?_
      refine a_region ?_
      refine r_val (v := .rsl _ _ _ _ _) (v_move (.inl rfl) (noOwn_flat rfl)) rfl rfl (by decide) ?_
      refine r_val (v := .rsl _ _ _ _ _) (v_move (.inl rfl) (noOwn_flat rfl)) rfl rfl (by decide) ?_
      refine r_new (v := .bool _) (q_call (vs := [.rsl _ _ _ _ _, .rsl _ _ _ _ _]) (args := [.sl _ _, .sl _ _]) hb20 ⟨.inl rfl, .inl rfl, trivial⟩ (l2_eq (sl_sh (ic_pure _)) (sl_sh (ic_pure _))) (fun hA => eqIntS_c _ _ (by omega)) rfl rfl) rfl rfl (by decide) ?_
      refine r_val (v := .bool _) (v_not (.inl rfl)) rfl rfl (by decide) ?_
      refine r_val (v := .bool _) (v_move (.inl rfl) (noOwn_flat rfl)) rfl rfl (by decide) ?_
      refine r_gval (v := .bool _) (v_move (.inl rfl) (noOwn_flat rfl)) rfl rfl rfl (by decide) (.inl ⟨_, rfl, rfl⟩) rfl (by decide) ?_
      refine r_gval (v := .bool _) (v_move (.inl rfl) (noOwn_flat rfl)) rfl rfl rfl (by decide) (.inl ⟨_, rfl, rfl⟩) rfl (by decide) ?_
      refine r_gval (v := .bool _) (v_bne un4 (.inr ⟨_, rfl, fun h => h⟩) (.inr ⟨_, rfl, fun h => h⟩)) rfl rfl rfl (by decide) (.inl ⟨_, rfl, rfl⟩) rfl (by decide) ?_
      refine r_val (v := .bool _) (v_pick (.inl rfl) (.inl rfl) (.inr ⟨_, rfl, fun h h2 => by simp_all⟩)) rfl rfl (by decide) ?_
      refine r_nil ?_
      refine a_cond rfl (fun ht57 => ?_) (fun ht57 => ?_)
      ·
        skip
        refine a_seq ?_
        refine a_pre (ent_look (L := [(1, .sl _ _), (2, .int _ _), (3, .op [.int _ _, .sl _ _]), (6, .bool _), (8, .osl _ _ _ _), (9, .bool _), (10, .op [.int _ _, .osl _ _ _ _]), (11, .osl _ _ _ _), (12, .osl _ _ _ _), (13, .bool _)]) ⟨Weak.rfl, Weak.rfl, Weak.rfl, Weak.rfl, Weak.rfl, Weak.rfl, Weak.rfl, Weak.rfl, Weak.rfl, Weak.rfl, trivial⟩) ?_
        refine a_region ?_
        refine r_val (v := .bool _) (v_assign (.inl rfl) (noOwn_flat rfl)) rfl rfl (by decide) ?_
        refine r_nil ?_
        refine a_ret ?_
        refine ret1 Try.results8 (by decide) (by decide) (Weak.of_eq (bool_eq ?_)) rfl Leaves.nil
        first | rfl | (exfalso; simp at ht57; done) | (exfalso; simp at ht57; omega)
      ·
        skip
        refine a_skip ?_
        refine a_seq ?_
        refine a_seq ?_
        refine a_pre (ent_look (L := [(1, .sl _ _), (2, .int _ _), (3, .op [.int _ _, .sl _ _]), (6, .bool _), (8, .osl _ _ _ _), (9, .bool _), (10, .op [.int _ _, .osl _ _ _ _]), (11, .osl _ _ _ _), (12, .osl _ _ _ _), (13, .bool _)]) ⟨Weak.rfl, Weak.rfl, Weak.rfl, Weak.rfl, Weak.rfl, Weak.rfl, Weak.rfl, Weak.rfl, Weak.rfl, Weak.rfl, trivial⟩) ?_
        refine a_region_any mixed (by kernel_rfl) ?_
        refine y_val (v := .agg [.int _ _, .rsl _ _ _ _ _]) (v_load_rpa (xs := [.int _ _, .osl _ _ _ _]) ta29 (.inl rfl) rfl rfl (fun _ => take_get rfl)) rfl rfl (by decide) (by kernel_rfl) ?_
        refine y_val (v := .agg [.int _ _, .sl _ _]) (v_load_rpa1 ta24 (.inl rfl) rfl rfl (fun _ => rfl) rfl) rfl rfl (by decide) (by kernel_rfl) ?_
        refine y_new (v := .agg [.int _ _, .osl _ _ _ _]) (q_call (vs := [.agg [.int _ _, .sl _ _]]) (args := [.agg [.int .i64 _, .sl _ _]]) hb16 ⟨.inl rfl, trivial⟩ rfl (fun hA => toCnf_c _ _ (by omega) (by omega)) (by simp [noSh, noShL, osls_noSh]) (by simp [noRef, noRefL, osls_noRef])) rfl rfl (by decide) (by kernel_rfl) ?_
        refine y_new (v := .bool _) (q_call (vs := [.agg [.int _ _, .rsl _ _ _ _ _], .agg [.int _ _, .rsl _ _ _ _ _]]) (args := [.agg [.int .i64 _, .sl _ _], .agg [.int .i64 _, .sl _ _]]) hb19 ⟨.inl rfl, .inl rfl, trivial⟩ (l2_eq (agg_eq (l2_eq rfl sl_osls)) (agg_eq (l2_eq rfl sl_osls))) (fun hA => eqCnf_c _ _ _ _ (by omega) (by omega) (fun i => by first | (have := hrl i; omega) | (have := hll i; omega))) rfl rfl) rfl rfl (by decide) (by kernel_rfl) ?_
        refine y_val (v := .bool _) (v_not (.inl rfl)) rfl rfl (by decide) (by kernel_rfl) ?_
        refine y_nil ?_
        refine a_cond rfl (fun ht62 => ?_) (fun ht62 => ?_)
        ·
          skip
          refine a_seq ?_
          refine a_pre (ent_look (L := [(1, .sl _ _), (2, .int _ _), (3, .op [.int _ _, .sl _ _]), (6, .bool _), (8, .osl _ _ _ _), (9, .bool _), (10, .op [.int _ _, .osl _ _ _ _]), (11, .osl _ _ _ _), (12, .osl _ _ _ _), (13, .bool _)]) ⟨Weak.rfl, Weak.rfl, Weak.rfl, Weak.rfl, Weak.rfl, Weak.rfl, Weak.rfl, Weak.rfl, Weak.rfl, Weak.rfl, trivial⟩) ?_
          refine a_region ?_
          refine r_val (v := .bool _) (v_assign (.inl rfl) (noOwn_flat rfl)) rfl rfl (by decide) ?_
          refine r_nil ?_
          refine a_ret ?_
          refine ret1 Try.results8 (by decide) (by decide) (Weak.of_eq (bool_eq ?_)) rfl Leaves.nil
          first | rfl | (exfalso; simp at ht62; done) | (exfalso; simp at ht62; omega)
        ·
          skip
          refine a_skip ?_
          refine a_seq ?_
          refine a_seq ?_
          refine a_pre (ent_look (L := [(1, .sl _ _), (2, .int _ _), (3, .op [.int _ _, .sl _ _]), (6, .bool _), (8, .osl _ _ _ _), (9, .bool _), (10, .op [.int _ _, .osl _ _ _ _]), (11, .osl _ _ _ _), (12, .osl _ _ _ _), (13, .bool _)]) ⟨Weak.rfl, Weak.rfl, Weak.rfl, Weak.rfl, Weak.rfl, Weak.rfl, Weak.rfl, Weak.rfl, Weak.rfl, Weak.rfl, trivial⟩) ?_
          refine a_region ?_
          refine r_val (v := .rsl _ _ _ _ _) (v_move (.inl rfl) (noOwn_flat rfl)) rfl rfl (by decide) ?_
          refine r_val (v := .sl _ _) (v_move (.inl rfl) (noOwn_flat rfl)) rfl rfl (by decide) ?_
          refine r_new (v := .osl _ _ _ _) (q_call (vs := [.sl _ _]) (args := [.sl _ _]) hb33 ⟨.inl rfl, trivial⟩ rfl (fun hA => toIntSS_c _ (by omega) (by omega)) (osls_noSh _) (osls_noRef _)) rfl rfl (by decide) ?_
          refine r_new (v := .bool _) (q_call (vs := [.rsl _ _ _ _ _, .rsl _ _ _ _ _]) (args := [.sl _ _, .sl _ _]) hb35 ⟨.inl rfl, .inl rfl, trivial⟩ (l2_eq sl_osls sl_osls) (fun hA => eqIntSS_c _ _ (by omega) (by omega) (fun i => by first | (have := hllM i; omega) | (have := hrlM i; omega))) rfl rfl) rfl rfl (by decide) ?_
          refine r_val (v := .bool _) (v_not (.inl rfl)) rfl rfl (by decide) ?_
          refine r_nil ?_
          refine a_cond rfl (fun ht67 => ?_) (fun ht67 => ?_)
          ·
            skip
            refine a_seq ?_
            refine a_pre (ent_look (L := [(1, .sl _ _), (2, .int _ _), (3, .op [.int _ _, .sl _ _]), (6, .bool _), (8, .osl _ _ _ _), (9, .bool _), (10, .op [.int _ _, .osl _ _ _ _]), (11, .osl _ _ _ _), (12, .osl _ _ _ _), (13, .bool _)]) ⟨Weak.rfl, Weak.rfl, Weak.rfl, Weak.rfl, Weak.rfl, Weak.rfl, Weak.rfl, Weak.rfl, Weak.rfl, Weak.rfl, trivial⟩) ?_
            refine a_region ?_
            refine r_val (v := .bool _) (v_assign (.inl rfl) (noOwn_flat rfl)) rfl rfl (by decide) ?_
            refine r_nil ?_
            refine a_ret ?_
            refine ret1 Try.results8 (by decide) (by decide) (Weak.of_eq (bool_eq ?_)) rfl Leaves.nil
            first | rfl | (exfalso; simp at ht67; done) | (exfalso; simp at ht67; omega)
          ·
            skip
            refine a_skip ?_
            refine a_seq ?_
            refine a_pre (ent_look (L := [(1, .sl _ _), (2, .int _ _), (3, .op [.int _ _, .sl _ _]), (6, .bool _), (8, .osl _ _ _ _), (9, .bool _), (10, .op [.int _ _, .osl _ _ _ _]), (11, .osl _ _ _ _), (12, .osl _ _ _ _), (13, .bool _)]) ⟨Weak.rfl, Weak.rfl, Weak.rfl, Weak.rfl, Weak.rfl, Weak.rfl, Weak.rfl, Weak.rfl, Weak.rfl, Weak.rfl, trivial⟩) ?_
            refine a_region ?_
            refine r_val (v := .int _ _) (v_assign (.inl rfl) (noOwn_flat rfl)) rfl rfl (by decide) ?_
            refine r_nil ?_
            refine a_seq ?_
            refine a_region ?_
            refine r_val (v := .agg [.int _ _, .rsl _ _ _ _ _]) (v_load_rpa (xs := [.int _ _, .osl _ _ _ _]) ta29 (.inl rfl) rfl rfl (fun _ => take_get rfl)) rfl rfl (by decide) ?_
            refine r_val (v := .int _ _) (v_move (.inl rfl) (noOwn_flat rfl)) rfl rfl (by decide) ?_
            refine r_step rfl (o_callIO (q := (10, [1])) (vs := [.agg [.int _ _, .rsl _ _ _ _ _], .int _ _]) (args := [.agg [.int .i64 _, .rsl (INH, []) _ _ _ _], .int .i64 _]) (x0 := .osl _ _ _ _) (x1 := .osl _ _ _ _) (res := .int _ _) rfl hb23 rfl (by decide) ⟨.inl rfl, .inl rfl, trivial⟩ rfl rfl (markCnf_c _ _ _ (by omega) (by omega) (by omega)) rfl rfl rfl (osls_noSh _) (osls_noRef _) (Nat.le_of_ble_eq_true rfl) (by decide) rfl) ?_
            refine r_val (v := .int _ _) (v_assign (.inl rfl) (noOwn_flat rfl)) rfl rfl (by decide) ?_
            refine r_nil ?_
            refine a_seq ?_
            refine a_pre (ent_look (L := [(1, .sl _ _), (2, .int _ _), (3, .op [.int _ _, .sl _ _]), (6, .bool _), (8, .osl _ _ _ _), (9, .bool _), (11, .osl _ _ _ _), (12, .osl _ _ _ _), (13, .bool _), (14, .int _ _)]) ⟨Weak.rfl, Weak.rfl, Weak.rfl, Weak.rfl, Weak.rfl, Weak.rfl, Weak.rfl, Weak.rfl, Weak.rfl, Weak.rfl, trivial⟩) ?_
            refine a_region ?_
            refine r_val (v := .rsl _ _ _ _ _) (v_move (.inl rfl) (noOwn_flat rfl)) rfl rfl (by decide) ?_
            refine r_val (v := .int _ _) (v_move (.inl rfl) (noOwn_flat rfl)) rfl rfl (by decide) ?_
            refine r_step rfl (o_callIO (q := (11, [])) (vs := [.rsl _ _ _ _ _, .int _ _]) (args := [.rsl (INH, []) _ _ _ _, .int .i64 _]) (x0 := .osl _ _ _ _) (x1 := .osl _ _ _ _) (res := .int _ _) rfl hb40 rfl (by decide) ⟨.inl rfl, .inl rfl, trivial⟩ rfl rfl (markIntSS_c M _ (by omega) (by omega) (by omega)) rfl rfl rfl (osls_noSh _) (osls_noRef _) (Nat.le_of_ble_eq_true rfl) (by decide) rfl) ?_
            refine r_val (v := .int _ _) (v_assign (.inl rfl) (noOwn_flat rfl)) rfl rfl (by decide) ?_
            refine r_nil ?_
            refine a_seq ?_
            refine a_seq ?_
            refine a_pre (ent_look (L := [(1, .sl _ _), (2, .int _ _), (3, .op [.int _ _, .sl _ _]), (6, .bool _), (8, .osl _ _ _ _), (9, .bool _), (12, .osl _ _ _ _), (13, .bool _), (14, .int _ _)]) ⟨Weak.rfl, Weak.rfl, Weak.rfl, Weak.rfl, Weak.rfl, Weak.rfl, Weak.rfl, Weak.rfl, Weak.rfl, trivial⟩) ?_
            refine a_region ?_
            refine r_val (v := .int _ _) (v_move (.inl rfl) (noOwn_flat rfl)) rfl rfl (by decide) ?_
            refine r_val (v := .bool _) (v_lss (.inl rfl) (.inl rfl)) rfl rfl (by decide) ?_
            refine r_val (v := .bool _) (v_move (.inl rfl) (noOwn_flat rfl)) rfl rfl (by decide) ?_
            refine r_gval (v := .rsl _ _ _ _ _) (v_move (.inl rfl) (noOwn_flat rfl)) rfl rfl rfl (by decide) (.inl ⟨_, rfl, rfl⟩) rfl (by decide) ?_
            refine r_gval (v := .rsl _ _ _ _ _) (v_move (.inl rfl) (noOwn_flat rfl)) rfl rfl rfl (by decide) (.inl ⟨_, rfl, rfl⟩) rfl (by decide) ?_
            refine r_guard (v := .bool _) (q_call (vs := [.rsl _ _ _ _ _, .rsl _ _ _ _ _]) (args := [.sl _ _, .sl _ _]) hb20 ⟨.inr ⟨_, rfl, fun h => h⟩, .inr ⟨_, rfl, fun h => h⟩, trivial⟩ (l2_eq (sl_sh (ic_pure _)) (sl_sh (ic_pure _))) (fun hA => eqIntS_c _ _ (by omega)) rfl rfl) rfl rfl rfl (by decide) (.inl ⟨_, rfl, rfl⟩) rfl (by decide) ?_
            refine r_gval (v := .bool _) (v_not (.inr ⟨_, rfl, fun h => h⟩)) rfl rfl rfl (by decide) (.inl ⟨_, rfl, rfl⟩) rfl (by decide) ?_
            refine r_val (v := .bool _) (v_pick (.inl rfl) (.inl rfl) (.inr ⟨_, rfl, fun h h2 => by simp_all⟩)) rfl rfl (by decide) ?_
            refine r_val (v := .bool _) (v_move (.inl rfl) (noOwn_flat rfl)) rfl rfl (by decide) ?_
            refine r_gval (v := .bool _) (v_move (.inl rfl) (noOwn_flat rfl)) rfl rfl rfl (by decide) (.inl ⟨_, rfl, rfl⟩) rfl (by decide) ?_
            refine r_gval (v := .bool _) (v_move (.inl rfl) (noOwn_flat rfl)) rfl rfl rfl (by decide) (.inl ⟨_, rfl, rfl⟩) rfl (by decide) ?_
            refine r_gval (v := .bool _) (v_bne un4 (.inr ⟨_, rfl, fun h => h⟩) (.inr ⟨_, rfl, fun h => h⟩)) rfl rfl rfl (by decide) (.inl ⟨_, rfl, rfl⟩) rfl (by decide) ?_
            refine r_val (v := .bool _) (v_pick (.inl rfl) (.inl rfl) (.inr ⟨_, rfl, fun h h2 => by simp_all⟩)) rfl rfl (by decide) ?_
            refine r_nil ?_
            refine a_cond rfl (fun ht86 => ?_) (fun ht86 => ?_)
            ·
              skip
              refine a_seq ?_
              refine a_pre (ent_look (L := [(1, .sl _ _), (2, .int _ _), (3, .op [.int _ _, .sl _ _]), (6, .bool _), (8, .osl _ _ _ _), (9, .bool _), (12, .osl _ _ _ _)]) ⟨Weak.rfl, Weak.rfl, Weak.rfl, Weak.rfl, Weak.rfl, Weak.rfl, Weak.rfl, trivial⟩) ?_
              refine a_region ?_
              refine r_val (v := .bool _) (v_assign (.inl rfl) (noOwn_flat rfl)) rfl rfl (by decide) ?_
              refine r_nil ?_
              refine a_ret ?_
              refine ret1 Try.results8 (by decide) (by decide) (Weak.of_eq (bool_eq ?_)) rfl Leaves.nil
              first | rfl | (exfalso; simp at ht86; done) | (exfalso; simp at ht86; omega)
            ·
              skip
              refine a_skip ?_
              refine a_seq ?_
              refine a_pre (ent_look (L := [(1, .sl _ _), (2, .int _ _), (3, .op [.int _ _, .sl _ _]), (6, .bool _), (8, .osl _ _ _ _), (9, .bool _), (12, .osl _ _ _ _)]) ⟨Weak.rfl, Weak.rfl, Weak.rfl, Weak.rfl, Weak.rfl, Weak.rfl, Weak.rfl, trivial⟩) ?_
              refine a_region ?_
              refine r_val (v := .int _ _) (v_assign (.inl rfl) (noOwn_flat rfl)) rfl rfl (by decide) ?_
              refine r_nil ?_
              refine a_seq ?_
              refine a_region ?_
              refine r_val (v := .rsl _ _ _ _ _) (v_move (.inl rfl) (noOwn_flat rfl)) rfl rfl (by decide) ?_
              refine r_val (v := .int _ _) (v_move (.inl rfl) (noOwn_flat rfl)) rfl rfl (by decide) ?_
              refine r_step rfl (o_callIO (q := (12, [])) (vs := [.rsl _ _ _ _ _, .int _ _]) (args := [.rsl (INH, []) _ _ _ _, .int .i64 _]) (x0 := .osl _ _ _ _) (x1 := .osl _ _ _ _) (res := .int _ _) rfl hb24 rfl (by decide) ⟨.inl rfl, .inl rfl, trivial⟩ rfl rfl (markIntS_c _ _ (by omega)) rfl rfl rfl (ic_noSh _) (ic_noRef _) (Nat.le_of_ble_eq_true rfl) (by decide) rfl) ?_
              refine r_val (v := .int _ _) (v_assign (.inl rfl) (noOwn_flat rfl)) rfl rfl (by decide) ?_
              refine r_nil ?_
              refine a_seq ?_
              refine a_region ?_
              refine r_val (v := .int _ _) (v_assign (.inl rfl) (noOwn_flat rfl)) rfl rfl (by decide) ?_
              refine r_nil ?_
              refine a_seq ?_
              refine a_region ?_
              refine r_val (v := .rsl _ _ _ _ _) (v_move (.inl rfl) (noOwn_flat rfl)) rfl rfl (by decide) ?_
              refine r_val (v := .int _ _) (v_move (.inl rfl) (noOwn_flat rfl)) rfl rfl (by decide) ?_
              refine r_new (v := .int _ _) (q_call (vs := [.rsl _ _ _ _ _, .int _ _]) (args := [.sl _ _, .int .i64 _]) hb25 ⟨.inl rfl, .inl rfl, trivial⟩ (l2_eq (sl_sh (ic_pure _)) rfl) (fun hA => heldIntS_c _ _ (by omega)) rfl rfl) rfl rfl (by decide) ?_
              refine r_val (v := .int _ _) (v_assign (.inl rfl) (noOwn_flat rfl)) rfl rfl (by decide) ?_
              refine r_nil ?_
              refine a_seq ?_
              refine a_seq ?_
              refine a_pre (ent_look (L := [(1, .sl _ _), (2, .int _ _), (3, .op [.int _ _, .sl _ _]), (6, .bool _), (8, .osl _ _ _ _), (9, .bool _), (12, .osl _ _ _ _), (15, .int _ _), (16, .int _ _)]) ⟨Weak.rfl, Weak.rfl, Weak.rfl, Weak.rfl, Weak.rfl, Weak.rfl, Weak.rfl, Weak.rfl, Weak.rfl, trivial⟩) ?_
              refine a_region ?_
              refine r_val (v := .int _ _) (v_move (.inl rfl) (noOwn_flat rfl)) rfl rfl (by decide) ?_
              refine r_val (v := .bool _) (v_lss (.inl rfl) (.inl rfl)) rfl rfl (by decide) ?_
              refine r_nil ?_
              refine a_cond rfl (fun ht94 => ?_) (fun ht94 => ?_)
              ·
                skip
                refine a_seq ?_
                refine a_region ?_
                refine r_val (v := .bool _) (v_assign (.inl rfl) (noOwn_flat rfl)) rfl rfl (by decide) ?_
                refine r_nil ?_
                refine a_ret ?_
                refine ret1 Try.results8 (by decide) (by decide) (Weak.of_eq (bool_eq ?_)) rfl Leaves.nil
                first | rfl | (exfalso; simp at ht94; done) | (exfalso; simp at ht94; omega)
              ·
                skip
                refine a_skip ?_
                refine a_seq ?_
                refine a_seq ?_
                refine a_region ?_
                refine r_val (v := .int _ _) (v_move (.inl rfl) (noOwn_flat rfl)) rfl rfl (by decide) ?_
                refine r_val (v := .int _ _) (v_move (.inl rfl) (noOwn_flat rfl)) rfl rfl (by decide) ?_
                refine r_val (v := .bool _) (v_neq (.inl rfl) (.inl rfl)) rfl rfl (by decide) ?_
                refine r_nil ?_
                refine a_cond rfl (fun ht97 => ?_) (fun ht97 => ?_)
                ·
                  skip
                  refine a_seq ?_
                  refine a_pre (ent_look (L := [(1, .sl _ _), (2, .int _ _), (3, .op [.int _ _, .sl _ _]), (6, .bool _), (8, .osl _ _ _ _), (9, .bool _), (12, .osl _ _ _ _), (15, .int _ _), (16, .int _ _)]) ⟨Weak.rfl, Weak.rfl, Weak.rfl, Weak.rfl, Weak.rfl, Weak.rfl, Weak.rfl, Weak.rfl, Weak.rfl, trivial⟩) ?_
                  refine a_region ?_
                  refine r_val (v := .bool _) (v_assign (.inl rfl) (noOwn_flat rfl)) rfl rfl (by decide) ?_
                  refine r_nil ?_
                  refine a_ret ?_
                  refine ret1 Try.results8 (by decide) (by decide) (Weak.of_eq (bool_eq ?_)) rfl Leaves.nil
                  first | rfl | (exfalso; simp at ht97; done) | (exfalso; simp at ht97; omega)
                ·
                  skip
                  refine a_skip ?_
                  refine a_seq ?_
                  refine a_pre (ent_look (L := [(1, .sl _ _), (2, .int _ _), (3, .op [.int _ _, .sl _ _]), (6, .bool _), (8, .osl _ _ _ _), (9, .bool _), (12, .osl _ _ _ _), (15, .int _ _), (16, .int _ _)]) ⟨Weak.rfl, Weak.rfl, Weak.rfl, Weak.rfl, Weak.rfl, Weak.rfl, Weak.rfl, Weak.rfl, Weak.rfl, trivial⟩) ?_
                  refine a_region ?_
                  refine r_val (v := .agg [.int _ _, .sl _ _]) (v_load_rpa1 ta24 (.inl rfl) rfl rfl (fun _ => rfl) rfl) rfl rfl (by decide) ?_
                  refine r_new (v := .agg [.int _ _, .osl _ _ _ _]) (q_call (vs := [.agg [.int _ _, .sl _ _]]) (args := [.agg [.int .i64 _, .sl _ _]]) hb16 ⟨.inl rfl, trivial⟩ rfl (fun hA => toCnf_c _ _ (by omega) (by omega)) (by simp [noSh, noShL, osls_noSh]) (by simp [noRef, noRefL, osls_noRef])) rfl rfl (by decide) ?_
                  refine r_val (v := .sl _ _) (v_move (.inl rfl) (noOwn_flat rfl)) rfl rfl (by decide) ?_
                  refine r_new (v := .osl _ _ _ _) (q_call (vs := [.sl _ _]) (args := [.sl _ _]) hb33 ⟨.inl rfl, trivial⟩ rfl (fun hA => toIntSS_c _ (by omega) (by omega)) (osls_noSh _) (osls_noRef _)) rfl rfl (by decide) ?_
                  refine r_val (v := .int _ _) (v_move (.inl rfl) (noOwn_flat rfl)) rfl rfl (by decide) ?_
                  refine r_new (v := .tup [.osl _ _ _ _, .bool _]) (q_call (vs := [.agg [.int _ _, .rsl _ _ _ _ _], .rsl _ _ _ _ _, .int _ _]) (args := [.agg [.int .i64 _, .sl _ _], .sl _ _, .int .i64 _]) hb39 ⟨.inl rfl, .inl rfl, .inl rfl, trivial⟩ (l3_eq (agg_eq (l2_eq rfl sl_osls)) sl_osls rfl) (fun hA => iSho_c _ _ _ hk hm _ hvk) (by simp [noSh, noShL, ic_noSh]) (by simp [noRef, noRefL, ic_noRef])) rfl rfl (by decide) ?_
                  refine r_val (v := .tup [.rsl _ _ _ _ _, .bool _]) (v_mv rfl) rfl rfl (by decide) ?_
                  refine r_val (v := .rsl _ _ _ _ _) (v_extract rfl rfl) rfl rfl (by decide) ?_
                  refine r_val (v := .bool _) (v_extract rfl rfl) rfl rfl (by decide) ?_
                  refine r_val (v := .rsl _ _ _ _ _) (v_assign (.inl rfl) (noOwn_flat rfl)) rfl rfl (by decide) ?_
                  refine r_pre (ent_reloc_sl (t := 17) rfl rfl) ?_
                  refine r_val (v := .bool _) (v_assign (.inl rfl) (noOwn_flat rfl)) rfl rfl (by decide) ?_
                  refine r_nil ?_
                  refine a_seq ?_
                  refine a_seq ?_
                  refine a_pre (ent_look (L := [(6, .bool _), (8, .osl _ _ _ _), (9, .bool _), (12, .osl _ _ _ _), (15, .int _ _), (16, .int _ _), (17, .osl _ _ _ _), (18, .bool _)]) ⟨Weak.rfl, Weak.rfl, Weak.rfl, Weak.rfl, Weak.rfl, Weak.rfl, Weak.rfl, Weak.rfl, trivial⟩) ?_
                  refine a_region ?_
                  refine r_val (v := .rsl _ _ _ _ _) (v_move (.inl rfl) (noOwn_flat rfl)) rfl rfl (by decide) ?_
                  refine r_val (v := .rsl _ _ _ _ _) (v_move (.inl rfl) (noOwn_flat rfl)) rfl rfl (by decide) ?_
                  refine r_new (v := .bool _) (q_call (vs := [.rsl _ _ _ _ _, .rsl _ _ _ _ _]) (args := [.sl _ _, .sl _ _]) hb20 ⟨.inl rfl, .inl rfl, trivial⟩ (l2_eq (sl_sh (ic_pure _)) (sl_sh (ic_pure _))) (fun hA => eqIntS_c _ _ (by omega)) rfl rfl) rfl rfl (by decide) ?_
                  refine r_val (v := .bool _) (v_not (.inl rfl)) rfl rfl (by decide) ?_
                  refine r_val (v := .bool _) (v_move (.inl rfl) (noOwn_flat rfl)) rfl rfl (by decide) ?_
                  refine r_gval (v := .bool _) (v_move (.inl rfl) (noOwn_flat rfl)) rfl rfl rfl (by decide) (.inl ⟨_, rfl, rfl⟩) rfl (by decide) ?_
                  refine r_gval (v := .bool _) (v_move (.inl rfl) (noOwn_flat rfl)) rfl rfl rfl (by decide) (.inl ⟨_, rfl, rfl⟩) rfl (by decide) ?_
                  refine r_gval (v := .bool _) (v_bne un4 (.inr ⟨_, rfl, fun h => h⟩) (.inr ⟨_, rfl, fun h => h⟩)) rfl rfl rfl (by decide) (.inl ⟨_, rfl, rfl⟩) rfl (by decide) ?_
                  refine r_val (v := .bool _) (v_pick (.inl rfl) (.inl rfl) (.inr ⟨_, rfl, fun h h2 => by simp_all⟩)) rfl rfl (by decide) ?_
                  refine r_nil ?_
                  refine a_cond rfl (fun ht115 => ?_) (fun ht115 => ?_)
                  ·
                    skip
                    refine a_seq ?_
                    refine a_pre (ent_look (L := [(6, .bool _), (12, .osl _ _ _ _), (15, .int _ _), (16, .int _ _)]) ⟨Weak.rfl, Weak.rfl, Weak.rfl, Weak.rfl, trivial⟩) ?_
                    refine a_region ?_
                    refine r_val (v := .bool _) (v_assign (.inl rfl) (noOwn_flat rfl)) rfl rfl (by decide) ?_
                    refine r_nil ?_
                    refine a_ret ?_
                    refine ret1 Try.results8 (by decide) (by decide) (Weak.of_eq (bool_eq ?_)) rfl Leaves.nil
                    first | rfl | (exfalso; simp at ht115; done) | (exfalso; simp at ht115; omega)
                  ·
                    skip
                    refine a_skip ?_
                    refine a_seq ?_
                    refine a_pre (ent_look (L := [(6, .bool _), (12, .osl _ _ _ _), (15, .int _ _), (16, .int _ _)]) ⟨Weak.rfl, Weak.rfl, Weak.rfl, Weak.rfl, trivial⟩) ?_
                    refine a_region ?_
                    refine r_val (v := .int _ _) (v_assign (.inl rfl) (noOwn_flat rfl)) rfl rfl (by decide) ?_
                    refine r_nil ?_
                    refine a_seq ?_
                    refine a_region ?_
                    refine r_val (v := .rsl _ _ _ _ _) (v_move (.inl rfl) (noOwn_flat rfl)) rfl rfl (by decide) ?_
                    refine r_val (v := .int _ _) (v_move (.inl rfl) (noOwn_flat rfl)) rfl rfl (by decide) ?_
                    refine r_new (v := .int _ _) (q_call (vs := [.rsl _ _ _ _ _, .int _ _]) (args := [.sl _ _, .int .i64 _]) hb25 ⟨.inl rfl, .inl rfl, trivial⟩ (l2_eq (sl_sh (ic_pure _)) rfl) (fun hA => heldIntS_c _ _ (by omega)) rfl rfl) rfl rfl (by decide) ?_
                    refine r_val (v := .int _ _) (v_assign (.inl rfl) (noOwn_flat rfl)) rfl rfl (by decide) ?_
                    refine r_nil ?_
                    refine a_seq ?_
                    refine a_seq ?_
                    refine a_region ?_
                    refine r_val (v := .int _ _) (v_move (.inl rfl) (noOwn_flat rfl)) rfl rfl (by decide) ?_
                    refine r_val (v := .bool _) (v_lss (.inl rfl) (.inl rfl)) rfl rfl (by decide) ?_
                    refine r_nil ?_
                    refine a_cond rfl (fun ht120 => ?_) (fun ht120 => ?_)
                    ·
                      skip
                      refine a_seq ?_
                      refine a_region ?_
                      refine r_val (v := .bool _) (v_assign (.inl rfl) (noOwn_flat rfl)) rfl rfl (by decide) ?_
                      refine r_nil ?_
                      refine a_ret ?_
                      refine ret1 Try.results8 (by decide) (by decide) (Weak.of_eq (bool_eq ?_)) rfl Leaves.nil
                      first | rfl | (exfalso; simp at ht120; done) | (exfalso; simp at ht120; omega)
                    ·
                      skip
                      refine a_skip ?_
                      refine a_seq ?_
                      refine a_seq ?_
                      refine a_region ?_
                      refine r_val (v := .int _ _) (v_move (.inl rfl) (noOwn_flat rfl)) rfl rfl (by decide) ?_
                      refine r_val (v := .int _ _) (v_move (.inl rfl) (noOwn_flat rfl)) rfl rfl (by decide) ?_
                      refine r_val (v := .bool _) (v_neq (.inl rfl) (.inl rfl)) rfl rfl (by decide) ?_
                      refine r_nil ?_
                      refine a_cond rfl (fun ht123 => ?_) (fun ht123 => ?_)
                      ·
                        skip
                        refine a_seq ?_
                        refine a_pre (ent_look (L := [(6, .bool _)]) ⟨Weak.rfl, trivial⟩) ?_
                        refine a_region ?_
                        refine r_val (v := .bool _) (v_assign (.inl rfl) (noOwn_flat rfl)) rfl rfl (by decide) ?_
                        refine r_nil ?_
                        refine a_ret ?_
                        refine ret1 Try.results8 (by decide) (by decide) (Weak.of_eq (bool_eq ?_)) rfl Leaves.nil
                        first | rfl | (exfalso; simp at ht123; done) | (exfalso; simp at ht123; omega)
                      ·
                        skip
                        refine a_skip ?_
                        refine a_seq ?_
                        refine a_pre (ent_look (L := [(6, .bool _)]) ⟨Weak.rfl, trivial⟩) ?_
                        refine a_region ?_
                        refine r_val (v := .bool _) (v_assign (.inl rfl) (noOwn_flat rfl)) rfl rfl (by decide) ?_
                        refine r_nil ?_
                        refine a_ret ?_
                        refine ret1 Try.results8 (by decide) (by decide) (Weak.of_eq (bool_eq ?_)) rfl Leaves.nil
                        first | rfl | (exfalso; simp at ht123; done) | (exfalso; simp at ht123; omega)
end Go.Av
namespace Go.Av
open Go
theorem bd64 {n : Int} (h : (Lit.int .i64 n).wf = true) : -9223372036854775808 ≤ n ∧ n ≤ 9223372036854775807 := bounds_i64 h
theorem len64 {n : Nat} (h : n ≤ maxLen) : (n : Int) ≤ 9223372036854775807 := by unfold maxLen at h; omega
theorem icells_flat (xs : List Int) : xs.flatMap (fun n => [AV.int .i64 n]) = icells xs := by
  induction xs with
  | nil => rfl
  | cons x xs ih => rw [List.flatMap_cons, ih]; rfl
end Go.Av
namespace Go.Av
open Go
theorem sls_flat (L : List (List Int)) : L.flatMap (fun c => [AV.sl (icells c) c.length]) = sls L := by
  induction L with
  | nil => rfl
  | cons c L ih => rw [List.flatMap_cons, ih]; rfl
theorem cnf_hyp {L : List (List Int)} (h : L.length ≤ maxLen ∧ ∀ y ∈ L, (y.length ≤ maxLen ∧ ∀ z ∈ y, (Lit.int .i64 z).wf = true ∧ ([AV.int .i64 z]).length = 1) ∧ ([AV.sl (y.flatMap fun z => [AV.int .i64 z]) y.length]).length = 1) :
    (∀ i, ((gl L i).length : Int) ≤ 9223372036854775807) ∧ (L.length : Int) ≤ 9223372036854775807 ∧ ∀ i j, -9223372036854775808 ≤ gd (gl L i) j ∧ gd (gl L i) j ≤ 9223372036854775807 := by
  refine ⟨fun i => ?_, len64 h.1, fun i => ?_⟩
  · rcases Nat.lt_or_ge i L.length with hi | hi
    · exact len64 (h.2 _ (gl_mem hi)).1.1
    · rw [gl_out hi]; simp
  · rcases Nat.lt_or_ge i L.length with hi | hi
    · exact gd_bd fun x hx => bd64 ((h.2 _ (gl_mem hi)).1.2 x hx).1
    · intro j; rw [gl_out hi]; simp [gd]
end Go.Av
namespace Go.Av
open Go Go.Proofs Go.Proofs.Ytjnfagmhjjedoaa
set_option maxRecDepth 100000
theorem arg3 : OpensV Try.prog 3 (fun x : Int => AV.int .i64 x) (fun x => (Lit.int .i64 x).wf = true) :=
  opensV_one (ok_scalar (by rw [Try.underlying3])) (opens_int Try.underlying3) (fun _ => rfl)
theorem arg22 : OpensV Try.prog 22 (fun x : List (List (Int)) => AV.sl (x.flatMap fun y5 => [AV.sl (y5.flatMap fun y4 => [AV.int .i64 y4]) y5.length]) x.length) (fun x => (x.length ≤ maxLen ∧ ∀ y5 ∈ x, (y5.length ≤ maxLen ∧ ∀ y4 ∈ y5, (Lit.int .i64 y4).wf = true ∧ ([AV.int .i64 y4]).length = 1) ∧ ([AV.sl (y5.flatMap fun y4 => [AV.int .i64 y4]) y5.length]).length = 1)) :=
  opensV_one (ok_scalar (by rw [Try.underlying22])) (opens_slice (k := 1) Try.underlying22 (by kernel_rfl) (by decide) (opens_slice (k := 1) Try.underlying25 (by kernel_rfl) (by decide) (opens_int Try.underlying3) (fun _ => rfl)) (fun _ => rfl)) (fun _ => rfl)
theorem arg24 : OpensV Try.prog 24 (fun x : (Int) × (List (List (Int))) => .agg (([AV.int .i64 x.1] ++ [AV.sl (x.2.flatMap fun y2 => [AV.sl (y2.flatMap fun y1 => [AV.int .i64 y1]) y2.length]) x.2.length]))) (fun x => (((Lit.int .i64 x.1).wf = true) ∧ ((x.2.length ≤ maxLen ∧ ∀ y2 ∈ x.2, (y2.length ≤ maxLen ∧ ∀ y1 ∈ y2, (Lit.int .i64 y1).wf = true ∧ ([AV.int .i64 y1]).length = 1) ∧ ([AV.sl (y2.flatMap fun y1 => [AV.int .i64 y1]) y2.length]).length = 1)))) :=
  opensV_agg (ok_agg (by rw [Try.underlying24])) (opens_struct Try.underlying24 (tot := (1 + 1)) (by kernel_rfl) (opensFs_cons rfl (by kernel_rfl) (opens_int Try.underlying3) (opensFs_one rfl (by kernel_rfl) (opens_slice (k := 1) Try.underlying22 (by kernel_rfl) (by decide) (opens_slice (k := 1) Try.underlying25 (by kernel_rfl) (by decide) (opens_int Try.underlying3) (fun _ => rfl)) (fun _ => rfl)))))
theorem rowOwn : ownKnob Try.prog.godebug = none := by kernel_rfl
theorem rowLaid : laidOutB Try.prog = true := by kernel_rfl
end Go.Av
