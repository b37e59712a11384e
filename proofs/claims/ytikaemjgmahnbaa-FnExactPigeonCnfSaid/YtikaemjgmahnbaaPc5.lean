/- Lemmas, part 5. -/
import Derived.Test.YtikaemjgmahnbaaPc4
import Derived.Test.YtikaemjgmahnbaaRows
set_option linter.unusedVariables false
set_option linter.unusedSimpArgs false
namespace Go.Av
open Go Go.Proofs Go.Sort
set_option maxRecDepth 10000
theorem es22 : elemSize Try.prog 22 = some 1 := by kernel_rfl
theorem fo24_0 : fieldOff Try.prog 24 0 = some 0 := by kernel_rfl
theorem fo24_1 : fieldOff Try.prog 24 1 = some 1 := by kernel_rfl
theorem hb101 : hasBody Try.prog 101 = true := by kernel_rfl
theorem hb49 : hasBody Try.prog 49 = true := by kernel_rfl
theorem hb54 : hasBody Try.prog 54 = true := by kernel_rfl
theorem sl22 : isSlice Try.prog 22 = true := by kernel_rfl
theorem ta22 : tyAgg Try.prog 22 = some (false, 1) := by kernel_rfl
theorem ta24 : tyAgg Try.prog 24 = some (true, 2) := by kernel_rfl
theorem ta39 : tyAgg Try.prog 39 = some (false, 1) := by kernel_rfl
theorem zc24 : zeroCells Try.prog 24 = some [.int .i64 0, .nils] := by kernel_rfl
theorem eqIntSS_c (L M : List (List Int)) (hL : (L.length : Int) ≤ 9223372036854775807) (hM : (M.length : Int) ≤ 9223372036854775807) (hlen : ∀ i, ((gl L i).length : Int) ≤ 9223372036854775807) : ACall Try.prog 54 [.sl (sls L) L.length, .sl (sls M) M.length] [] (.bool (decide (L = M))) [] := by
  refine ACall.intro Try.func54 rfl (N := 27) rfl (by decide) (by simp) ?_
  refine a_seq ?_
  refine a_region ?_
  refine r_val (v := .bool _) (v_assign (.inl rfl) (noOwn_flat rfl)) rfl rfl (by decide) ?_
  refine r_nil ?_
  refine a_seq ?_
  refine a_seq ?_
  refine a_region ?_
  refine r_val (v := .sl _ _) (v_move (.inl rfl) (noOwn_flat rfl)) rfl rfl (by decide) ?_
  refine r_val (v := .int _ _) (v_len_sl sl22 (.inl rfl)) rfl rfl (by decide) ?_
  refine r_val (v := .sl _ _) (v_move (.inl rfl) (noOwn_flat rfl)) rfl rfl (by decide) ?_
  refine r_val (v := .int _ _) (v_len_sl sl22 (.inl rfl)) rfl rfl (by decide) ?_
  refine r_val (v := .bool _) (v_neq (.inl rfl) (.inl rfl)) rfl rfl (by decide) ?_
  refine r_nil ?_
  refine a_cond rfl (fun ht10 => ?_) (fun ht10 => ?_)
  ·
    skip
    refine a_seq ?_
    refine a_region ?_
    refine r_val (v := .bool _) (v_assign (.inl rfl) (noOwn_flat rfl)) rfl rfl (by decide) ?_
    refine r_nil ?_
    refine a_ret ?_
    refine ret1 Try.results54 (by decide) (by decide) (Weak.of_eq (bool_eq ?_)) rfl Leaves.nil
    simp at ht10; exact (decide_eq_false (fun h => ht10 (by rw [h]))).symm
  ·
    skip
    refine a_skip ?_
    refine a_seq ?_
    refine a_seq ?_
    refine a_region ?_
    refine r_val (v := .int _ _) (v_assign (.inl rfl) (noOwn_flat rfl)) rfl rfl (by decide) ?_
    refine r_nil ?_
    refine a_block ?_
    refine a_loop (X := Nat) (fun i => look [(0, .sl (sls L) L.length), (1, .sl (sls M) M.length), (5, .int .i64 ((i : Nat) : Int))]) (fun i => i ≤ L.length ∧ L.length = M.length ∧ L.take i = M.take i) (fun i => L.length - i) 0 (ent_look ⟨Weak.of_eq rfl, Weak.of_eq rfl, Weak.of_eq rfl, trivial⟩) ⟨Nat.zero_le _, by simp at ht10; omega, rfl⟩ (fun i hG => ?_)
    obtain ⟨g1, g2, g3⟩ := hG
    refine a_seq ?_
    refine a_seq ?_
    refine a_region ?_
    refine r_val (v := .int _ _) (v_move (.inl rfl) (noOwn_flat rfl)) rfl rfl (by decide) ?_
    refine r_val (v := .sl _ _) (v_move (.inl rfl) (noOwn_flat rfl)) rfl rfl (by decide) ?_
    refine r_val (v := .int _ _) (v_len_sl sl22 (.inl rfl)) rfl rfl (by decide) ?_
    refine r_val (v := .bool _) (v_lss (.inl rfl) (.inl rfl)) rfl rfl (by decide) ?_
    refine r_nil ?_
    refine a_cond rfl (fun ht14 => ?_) (fun ht14 => ?_)
    ·
      skip
      refine a_skip ?_
      refine a_seq ?_
      refine a_block ?_
      refine a_seq ?_
      have hi : i < L.length := (by simp at ht14; omega)
      refine a_region_any mixed (by kernel_rfl) ?_
      refine y_val (v := .sl _ _) (v_move (.inl rfl) (noOwn_flat rfl)) rfl rfl (by decide) (by kernel_rfl) ?_
      refine y_val (v := .int _ _) (v_move (.inl rfl) (noOwn_flat rfl)) rfl rfl (by decide) (by kernel_rfl) ?_
      refine y_val (v := .pp _ _) (v_indexAddr_sl es22 (.inl rfl) (.inl rfl) (fun _ => ⟨by omega, by omega, sls_ne hi⟩)) rfl rfl (by decide) (by kernel_rfl) ?_
      refine y_val (v := .sl (icells (gl L i)) (gl L i).length) (v_load_pp ta39 (.inl rfl) (fun _ => by rw [Nat.mul_one]; exact sls_get hi) rfl) rfl rfl (by decide) (by kernel_rfl) ?_
      refine y_val (v := .sl _ _) (v_move (.inl rfl) (noOwn_flat rfl)) rfl rfl (by decide) (by kernel_rfl) ?_
      refine y_val (v := .int _ _) (v_move (.inl rfl) (noOwn_flat rfl)) rfl rfl (by decide) (by kernel_rfl) ?_
      refine y_val (v := .pp _ _) (v_indexAddr_sl es22 (.inl rfl) (.inl rfl) (fun _ => ⟨by omega, by omega, sls_ne (L := M) (i := i) (by omega)⟩)) rfl rfl (by decide) (by kernel_rfl) ?_
      refine y_val (v := .sl (icells (gl M i)) (gl M i).length) (v_load_pp ta39 (.inl rfl) (fun _ => by rw [Nat.mul_one]; exact sls_get (by omega)) rfl) rfl rfl (by decide) (by kernel_rfl) ?_
      refine y_new (v := .bool _) (q_call (vs := [.sl _ _, .sl _ _]) (args := [.sl _ _, .sl _ _]) hb49 ⟨.inl rfl, .inl rfl, trivial⟩ rfl (fun hA => eqIntS_c (gl L i) (gl M i) (hlen i)) rfl rfl) rfl rfl (by decide) (by kernel_rfl) ?_
      refine y_val (v := .bool _) (v_not (.inl rfl)) rfl rfl (by decide) (by kernel_rfl) ?_
      refine y_nil ?_
      refine a_cond rfl (fun ht26 => ?_) (fun ht26 => ?_)
      ·
        skip
        refine a_seq ?_
        refine a_region ?_
        refine r_val (v := .bool _) (v_assign (.inl rfl) (noOwn_flat rfl)) rfl rfl (by decide) ?_
        refine r_nil ?_
        refine a_ret ?_
        refine ret1 Try.results54 (by decide) (by decide) (Weak.of_eq (bool_eq ?_)) rfl Leaves.nil
        simp at ht26; refine (decide_eq_false (fun h => ?_)).symm
        subst h
        simp at ht26
      ·
        skip
        refine a_skip ?_
        refine a_region ?_
        refine r_val (v := .int _ _) (v_move (.inl rfl) (noOwn_flat rfl)) rfl rfl (by decide) ?_
        refine r_val (v := .int _ _) (v_add (.inl rfl) (.inl rfl) (fun _ => by omega)) rfl rfl (by decide) ?_
        refine r_val (v := .int _ _) (v_assign (.inl rfl) (noOwn_flat rfl)) rfl rfl (by decide) ?_
        refine r_nil ?_
        refine ⟨i + 1, ent_look ⟨Weak.of_eq rfl, Weak.of_eq rfl, Weak.of_eq (int_eq (by omega)), trivial⟩, ⟨by omega, g2, gl_take hi (by omega) g3 (by simpa using ht26)⟩, by omega⟩
    ·
      skip
      refine a_exit ?_
      refine a_seq ?_
      refine a_region ?_
      refine r_val (v := .bool _) (v_assign (.inl rfl) (noOwn_flat rfl)) rfl rfl (by decide) ?_
      refine r_nil ?_
      refine a_ret ?_
      refine ret1 Try.results54 (by decide) (by decide) (Weak.of_eq (bool_eq ?_)) rfl Leaves.nil
      simp at ht14; refine (decide_eq_true ?_).symm
      rw [List.take_of_length_le (by omega), List.take_of_length_le (by omega)] at g3; exact g3

theorem eqCnf_c (vars v2 : Int) (L M : List (List Int)) (hL : (L.length : Int) ≤ 9223372036854775807) (hM : (M.length : Int) ≤ 9223372036854775807) (hlen : ∀ i, ((gl L i).length : Int) ≤ 9223372036854775807) : ACall Try.prog 17 [.agg [.int .i64 vars, .sl (sls L) L.length], .agg [.int .i64 v2, .sl (sls M) M.length]] [] (.bool (decide (vars = v2) && decide (L = M))) [] := by
  refine ACall.intro Try.func17 rfl (N := 16) rfl (by decide) (by simp) ?_
  refine a_seq ?_
  refine a_region ?_
  refine r_new (v := .op [.int _ _, .sl _ _]) (q_box (.inl rfl) rfl rfl) rfl rfl (by decide) ?_
  refine r_new (v := .op [.int _ _, .sl _ _]) (q_box (.inl rfl) rfl rfl) rfl rfl (by decide) ?_
  refine r_val (v := .bool _) (v_assign (.inl rfl) (noOwn_flat rfl)) rfl rfl (by decide) ?_
  refine r_nil ?_
  refine a_seq ?_
  refine a_seq ?_
  refine a_region ?_
  refine r_val (v := .rp _ _) (v_fieldAddr_rp fo24_0 (.inl rfl)) rfl rfl (by decide) ?_
  refine r_val (v := .int _ _) (v_load_rp1 ta3 (.inl rfl) rfl (fun _ => rfl) rfl) rfl rfl (by decide) ?_
  refine r_val (v := .rp _ _) (v_fieldAddr_rp fo24_0 (.inl rfl)) rfl rfl (by decide) ?_
  refine r_val (v := .int _ _) (v_load_rp1 ta3 (.inl rfl) rfl (fun _ => rfl) rfl) rfl rfl (by decide) ?_
  refine r_val (v := .bool _) (v_neq (.inl rfl) (.inl rfl)) rfl rfl (by decide) ?_
  refine r_nil ?_
  refine a_cond rfl (fun ht9 => ?_) (fun ht9 => ?_)
  ·
    skip
    refine a_seq ?_
    refine a_region ?_
    refine r_val (v := .bool _) (v_assign (.inl rfl) (noOwn_flat rfl)) rfl rfl (by decide) ?_
    refine r_nil ?_
    refine a_ret ?_
    refine ret1 Try.results17 (by decide) (by decide) (Weak.of_eq (bool_eq ?_)) rfl Leaves.nil
    simp at ht9; simp [ht9]
  ·
    skip
    refine a_skip ?_
    refine a_seq ?_
    refine a_seq ?_
    refine a_region ?_
    refine r_val (v := .rp _ _) (v_fieldAddr_rp fo24_1 (.inl rfl)) rfl rfl (by decide) ?_
    refine r_val (v := .sl _ _) (v_load_rp1 ta22 (.inl rfl) rfl (fun _ => rfl) rfl) rfl rfl (by decide) ?_
    refine r_val (v := .rp _ _) (v_fieldAddr_rp fo24_1 (.inl rfl)) rfl rfl (by decide) ?_
    refine r_val (v := .sl _ _) (v_load_rp1 ta22 (.inl rfl) rfl (fun _ => rfl) rfl) rfl rfl (by decide) ?_
    refine r_new (v := .bool _) (q_call (vs := [.sl _ _, .sl _ _]) (args := [.sl _ _, .sl _ _]) hb54 ⟨.inl rfl, .inl rfl, trivial⟩ rfl (fun hA => eqIntSS_c L M hL hM hlen) rfl rfl) rfl rfl (by decide) ?_
    refine r_val (v := .bool _) (v_not (.inl rfl)) rfl rfl (by decide) ?_
    refine r_nil ?_
    refine a_cond rfl (fun ht15 => ?_) (fun ht15 => ?_)
    ·
      skip
      refine a_seq ?_
      refine a_region ?_
      refine r_val (v := .bool _) (v_assign (.inl rfl) (noOwn_flat rfl)) rfl rfl (by decide) ?_
      refine r_nil ?_
      refine a_ret ?_
      refine ret1 Try.results17 (by decide) (by decide) (Weak.of_eq (bool_eq ?_)) rfl Leaves.nil
      simp at ht15; simp [ht15]
    ·
      skip
      refine a_skip ?_
      refine a_seq ?_
      refine a_region ?_
      refine r_val (v := .bool _) (v_assign (.inl rfl) (noOwn_flat rfl)) rfl rfl (by decide) ?_
      refine r_nil ?_
      refine a_ret ?_
      refine ret1 Try.results17 (by decide) (by decide) (Weak.of_eq (bool_eq ?_)) rfl Leaves.nil
      simp at ht9 ht15; simp [ht9, ht15]

theorem isCnf_c (vars : Int) (L : List (List Int)) (hk : CnfOk vars L) : ACall Try.prog 85 [.agg [.int .i64 vars, .sl (sls L) L.length]] [] (.bool (cnfB vars L)) [] := by
  have hk1 := hk.1
  have hk2 := hk.2.1
  have hk3 := hk.2.2.1
  refine ACall.intro Try.func85 rfl (N := 27) rfl (by decide) (by simp) ?_
  refine a_seq ?_
  refine a_region ?_
  refine r_new (v := .op [.int _ _, .sl _ _]) (q_box (.inl rfl) rfl rfl) rfl rfl (by decide) ?_
  refine r_val (v := .bool _) (v_assign (.inl rfl) (noOwn_flat rfl)) rfl rfl (by decide) ?_
  refine r_nil ?_
  refine a_seq ?_
  refine a_seq ?_
  refine a_region ?_
  refine r_val (v := .rp _ _) (v_fieldAddr_rp fo24_1 (.inl rfl)) rfl rfl (by decide) ?_
  refine r_val (v := .sl _ _) (v_load_rp1 ta22 (.inl rfl) rfl (fun _ => rfl) rfl) rfl rfl (by decide) ?_
  refine r_val (v := .int _ _) (v_len_sl sl22 (.inl rfl)) rfl rfl (by decide) ?_
  refine r_val (v := .int _ _) (v_move (.inl rfl) (noOwn_flat rfl)) rfl rfl (by decide) ?_
  refine r_nil ?_
  refine a_block ?_
  refine a_loop (X := Nat) (fun i => look [(1, .op [.int .i64 vars, .sl (sls L) L.length]), (6, .sl (sls L) L.length), (7, .int .i64 (L.length : Int)), (8, .int .i64 ((i : Nat) : Int))]) (fun i => i ≤ L.length ∧ ∀ j, j < i → clB vars (gl L j) = true) (fun i => L.length - i) 0 (ent_look ⟨Weak.of_eq rfl, Weak.of_eq rfl, Weak.of_eq rfl, Weak.of_eq rfl, trivial⟩) ⟨Nat.zero_le _, fun j h => by omega⟩ (fun i hG => ?_)
  obtain ⟨g1, g2⟩ := hG
  have hle := len_tot (L := L) (i := i)
  refine a_seq ?_
  refine a_region ?_
  refine r_val (v := .bool _) (v_lss (.inl rfl) (.inl rfl)) rfl rfl (by decide) ?_
  refine r_nil ?_
  refine a_seq ?_
  refine a_cond rfl (fun ht9 => ?_) (fun ht9 => ?_)
  ·
    skip
    refine a_skip ?_
    refine a_seq ?_
    refine a_block ?_
    refine a_seq ?_
    have hi : i < L.length := (by simp at ht9; omega)
    refine a_region ?_
    refine r_val (v := .pp _ _) (v_indexAddr_sl es22 (.inl rfl) (.inl rfl) (fun _ => ⟨by omega, by omega, sls_ne hi⟩)) rfl rfl (by decide) ?_
    refine r_val (v := .sl (icells (gl L i)) (gl L i).length) (v_load_pp ta39 (.inl rfl) (fun _ => by rw [Nat.mul_one]; exact sls_get hi) rfl) rfl rfl (by decide) ?_
    refine r_val (v := .sl _ _) (v_assign (.inl rfl) (noOwn_flat rfl)) rfl rfl (by decide) ?_
    refine r_nil ?_
    refine a_seq ?_
    refine a_region ?_
    refine r_val (v := .rp _ _) (v_fieldAddr_rp fo24_0 (.inl rfl)) rfl rfl (by decide) ?_
    refine r_val (v := .int _ _) (v_load_rp1 ta3 (.inl rfl) rfl (fun _ => rfl) rfl) rfl rfl (by decide) ?_
    refine r_val (v := .sl _ _) (v_move (.inl rfl) (noOwn_flat rfl)) rfl rfl (by decide) ?_
    refine r_new (v := .bool _) (q_call (vs := [.int _ _, .sl _ _]) (args := [.int .i64 _, .sl _ _]) hb101 ⟨.inl rfl, .inl rfl, trivial⟩ rfl (fun hA => isClause_c vars (gl L i) hk1 (by omega) (fun j => hk.2.2.2 i j)) rfl rfl) rfl rfl (by decide) ?_
    refine r_val (v := .bool _) (v_not (.inl rfl)) rfl rfl (by decide) ?_
    refine r_nil ?_
    refine a_cond rfl (fun ht16 => ?_) (fun ht16 => ?_)
    ·
      skip
      refine a_seq ?_
      have hno := cnfB_no hi (by simpa using ht16)
      refine a_region ?_
      refine r_val (v := .bool _) (v_assign (.inl rfl) (noOwn_flat rfl)) rfl rfl (by decide) ?_
      refine r_nil ?_
      refine a_ret ?_
      refine ret1 Try.results85 (by decide) (by decide) (Weak.of_eq (bool_eq ?_)) rfl Leaves.nil
      rw [hno]
    ·
      skip
      refine a_skip ?_
      refine a_region ?_
      refine r_val (v := .int _ _) (v_add (.inl rfl) (.inl rfl) (fun _ => by omega)) rfl rfl (by decide) ?_
      refine r_val (v := .int _ _) (v_move (.inl rfl) (noOwn_flat rfl)) rfl rfl (by decide) ?_
      refine r_nil ?_
      refine ⟨i + 1, ent_look ⟨Weak.of_eq rfl, Weak.of_eq rfl, Weak.of_eq rfl, Weak.of_eq (int_eq (by omega)), trivial⟩, ⟨by omega, fun j h1 => by rcases Nat.lt_or_ge j i with h | h; exact g2 j h; (obtain rfl : j = i := by omega); simpa using ht16⟩, by omega⟩
  ·
    skip
    refine a_exit ?_
    refine a_seq ?_
    have hyes := cnfB_yes (vars := vars) (fun j hj => g2 j (by simp at ht9; omega))
    refine a_region ?_
    refine r_val (v := .rp _ _) (v_fieldAddr_rp fo24_0 (.inl rfl)) rfl rfl (by decide) ?_
    refine r_val (v := .int _ _) (v_load_rp1 ta3 (.inl rfl) rfl (fun _ => rfl) rfl) rfl rfl (by decide) ?_
    refine r_new (v := .bool _) (q_call (vs := [.int _ _]) (args := [.int .i64 _]) hb102 ⟨.inl rfl, trivial⟩ rfl (fun hA => varsOk_c _) rfl rfl) rfl rfl (by decide) ?_
    refine r_val (v := .bool _) (v_move (.inl rfl) (noOwn_flat rfl)) rfl rfl (by decide) ?_
    refine r_gval (v := .rp _ _) (v_fieldAddr_rp fo24_1 (.inl rfl)) rfl rfl rfl (by decide) (.inl ⟨_, rfl, rfl⟩) rfl (by decide) ?_
    refine r_gval (v := .sl _ _) (v_load_rp1 ta22 (.inr ⟨_, rfl, fun h => h⟩) rfl (fun _ => rfl) rfl) rfl rfl rfl (by decide) (.inl ⟨_, rfl, rfl⟩) rfl (by decide) ?_
    refine r_gval (v := .int _ _) (v_len_sl sl22 (.inr ⟨_, rfl, fun h => h⟩)) rfl rfl rfl (by decide) (.inl ⟨_, rfl, rfl⟩) rfl (by decide) ?_
    refine r_gval (v := .bool _) (v_leq (.inr ⟨_, rfl, fun h => h⟩) (.inl rfl)) rfl rfl rfl (by decide) (.inl ⟨_, rfl, rfl⟩) rfl (by decide) ?_
    refine r_val (v := .bool _) (v_pick (.inl rfl) (.inr ⟨_, rfl, fun h h2 => by simp_all⟩) (.inl rfl)) rfl rfl (by decide) ?_
    refine r_val (v := .bool _) (v_assign (.inl rfl) (noOwn_flat rfl)) rfl rfl (by decide) ?_
    refine r_nil ?_
    refine a_ret ?_
    refine ret1 Try.results85 (by decide) (by decide) (Weak.of_eq (bool_eq ?_)) rfl Leaves.nil
    rw [hyes]; cases inR vars 0 12 <;> simp <;> omega

end Go.Av
namespace Go.Av
open Go
section
variable {P : Program} {e : Ctx} {σ τ : Sig} {val : Nat → Value} {w : World} {β : Place → Option (Nat × Nat)} {F : Nat → Prop}

/-- A call that may write into what lies at q: the core. -/
theorem callIO_coreA {f : FuncId} {args vs' : List AV} {res x0 x1 : AV} {q : Place} {vs : List Value} {d : Nat} (hc : ACall P f args [x0] res [x1]) (hn : noSh res = true) (hr : noRef res = true) (hn1 : noSh x1 = true) (hr1 : noRef x1 = true)
    (h : Inv e σ val w β F) (hz : node (σ q.1) q.2 = some x0) (hr0 : refs x0 = []) (hfr : ∀ b arr t fz, (∃ r y s, node x0 r = some y ∧ y.isOwn = true ∧ β (q.1, q.2 ++ r) = some (b, s)) → w.heap[b]? = some (.cells arr t fz) → fz = (0, 0))
    (hl : vs.length = args.length) (ha : RepL (passB q β) (lent (hole σ q) β F) w args (0, []) 0 vs) (hai : ∀ c ∈ args, NoOwn c) (hlen : args.length < INH)
    (hds : d ≠ q.1) (hrs : ∀ p ∈ refs (σ q.1), p.1 ≠ q.1 ∧ p.1 ≠ d)
    (hτ : ∀ i, i ≠ q.1 → τ i = purgeV d (σ i) ∨ τ i = .undef)
    (hτr : ∀ i, i ≠ q.1 → ∀ p ∈ refs (τ i), p.1 = q.1 → ¬ q.2 <+: p.2) :
    Calls P f vs.toArray w fun en w' => ∃ v β', en = .returned v ∧ Inv e (upd (upd τ q.1 (setNode (σ q.1) q.2 x1)) d res) (upd val d v) w' β' F := by
  obtain ⟨u, hu, hput⟩ := (h.rep q.1).zoom hz
  simp only [List.nil_append] at hu
  have hh := h.hole hz
  let inh : Nat → Prop := fun b => ∃ r y s, node x0 r = some y ∧ y.isOwn = true ∧ β (q.1, q.2 ++ r) = some (b, s)
  let G : Nat → Prop := lent (hole σ q) β F
  -- what is handed over is owned by nothing else
  have inh_own : ∀ {b}, inh b → ∃ p s, OwnAt σ p ∧ β p = some (b, s) ∧ (p.1 = q.1 ∧ q.2 <+: p.2) := fun {b} ⟨r, y, s, hy, ho, hb⟩ => ⟨(q.1, q.2 ++ r), s, ownAt_sub hz hy ho, hb, rfl, List.prefix_append _ _⟩
  have inh_not : ∀ {b}, inh b → ¬ F b ∧ (e.w0.heap.size ≤ b ∨ e.inh b) ∧ ∀ p s, OwnAt (hole σ q) p → β p ≠ some (b, s) := fun {b} hb => by
    obtain ⟨p, s, hp, hpb, hpq⟩ := inh_own hb
    refine ⟨(h.sep p b s hp hpb).1, (h.sep p b s hp hpb).2, fun p' s' hp' hb' => ?_⟩
    obtain ⟨h1, h2⟩ := ownAt_hole hz hp'
    have := h.disj p p' b s s' hp h1 hpb hb'
    subst this
    exact h2 hpq
  have hinv : Inv ⟨w, inh, G⟩ (argSig args [x0]) (fun i => if i = INH then u else vs.getD i undef) w (passB q β) G := by
    have own : ∀ {p}, OwnAt (argSig args [x0]) p → p.1 = INH ∧ ∃ y, node x0 p.2 = some y ∧ y.isOwn = true := by
      rintro ⟨i, r⟩ ⟨y, hy, ho⟩
      dsimp only at hy
      unfold argSig at hy
      split at hy
      · cases hx : args[i]? with
        | none => rw [hx] at hy; exact (undef_node hy ho).elim
        | some c =>
          rw [hx] at hy
          rw [hai c (List.mem_of_getElem? hx) r y hy] at ho; cases ho
      · rename_i hi
        cases hj : i - INH with
        | zero =>
          rw [hj] at hy
          exact ⟨by dsimp only; omega, y, by simpa using hy, ho⟩
        | succ k => rw [hj] at hy; simp at hy; exact (undef_node hy ho).elim
    refine ⟨fun i => ?_, fun p p' b s s' hp hp' hb hb' => ?_, fun p b s hp hb => ?_, fun b hb => ⟨?_, fun _ => hb⟩, fun _ _ _ => rfl, Nat.le_refl _, Tame.refl' w (fun b arr t fz hb hh => hfr b arr t fz hb hh)⟩
    · by_cases hi : i = INH
      · subst hi
        rw [argSig_inh']
        simp only [if_true]
        exact hu.tr _ (fun b hb => ⟨.inl hb, rfl⟩) (fun r y _ _ => ⟨by simp [passB], fun _ _ _ => rfl⟩) (fun p hp => by rw [hr0] at hp; cases hp)
      · simp only [hi, if_false]
        unfold argSig
        split
        · cases hx : args[i]? with
          | none => simp [Rep]
          | some c =>
            obtain ⟨u', hu', hru⟩ := RepL_iff.1 ha i c hx
            rw [List.getD_eq_getElem?_getD, hu']
            exact hru.tr _ (fun b hb => ⟨hb, rfl⟩) (fun r y hy ho => by rw [hai c (List.mem_of_getElem? hx) r y hy] at ho; cases ho) (fun _ _ => rfl)
        · have : ([x0] : List AV)[i - INH]? = none := List.getElem?_eq_none (by simp; omega)
          rw [this]; simp [Rep]
    · obtain ⟨h1, y, hy, ho⟩ := own hp
      obtain ⟨h1', y', hy', ho'⟩ := own hp'
      simp only [passB, h1, h1', if_true] at hb hb'
      have := h.disj _ _ b s s' (ownAt_sub hz hy ho) (ownAt_sub hz hy' ho') hb hb'
      simp only [Prod.mk.injEq, true_and] at this
      exact Prod.ext (h1.trans h1'.symm) (List.append_cancel_left this)
    · obtain ⟨h1, y, hy, ho⟩ := own hp
      simp only [passB, h1, if_true] at hb
      have hi : inh b := ⟨p.2, y, s, hy, ho, hb⟩
      refine ⟨fun hG => ?_, .inr hi⟩
      rcases hG with hF | ⟨p', s', hp', hb'⟩
      · exact (inh_not hi).1 hF
      · exact (inh_not hi).2.2 p' s' hp' hb'
    · rcases hb with hb | ⟨p, s, hp, hb⟩
      · exact (h.fr b hb).1
      · exact hh.own_lt hp hb
  refine (hc _ vs _ w _ _ hl (fun i hi => by
    have : i ≠ INH := by omega
    simp [this]) hinv).mono fun en w' ⟨v, β', F', he, hi⟩ => ⟨v, ?_⟩
  have hkept : ∀ b, b < w.heap.size → ¬ inh b → w'.heap[b]? = w.heap[b]? := fun b hb hnb => hi.kept b hb hnb
  have hgrow : w.heap.size ≤ w'.heap.size := hi.grow
  have oldnot : ∀ {p b s}, OwnAt (hole σ q) p → β p = some (b, s) → ¬ inh b := fun {p b s} hp hb hi => (inh_not hi).2.2 p s hp hb
  have hH : Inv e (hole σ q) val w' β F := hh.ext (fun b hb => hkept b (h.fr b hb).1 (fun hi => (inh_not hi).1 hb)) (fun p b s hp hb => hkept b (hh.own_lt hp hb) (oldnot hp hb))
    (fun b hb hni => hkept b (Nat.lt_of_lt_of_le hb h.grow) (fun hi => by
      rcases (inh_not hi).2.1 with h1 | h1
      · omega
      · exact hni h1)) hgrow (h.tame.trans' hi.tame hkept)
  have hres : argSig [res] [x1] 0 = res := argSig_zero _ _
  have hobj : argSig [res] [x1] INH = x1 := argSig_inh _ _
  have newb : ∀ {p b s}, OwnAt (argSig [res] [x1]) p → β' p = some (b, s) → ¬ F b ∧ (e.w0.heap.size ≤ b ∨ e.inh b) ∧ ∀ p' s', OwnAt (hole σ q) p' → β p' ≠ some (b, s') := fun {p b s} hp hb => by
    rcases (hi.sep p b s hp hb).2 with hge | hin
    · have hge : w.heap.size ≤ b := hge
      exact ⟨fun hF => by have := (h.fr b hF).1; omega, .inl (Nat.le_trans h.grow hge), fun p' s' hp' hb' => by have := hh.own_lt hp' hb'; omega⟩
    · exact inh_not hin
  have d0 : Det e (hole σ q) w' β F res v (fun r => β' (0, r)) := by
    refine ⟨?_, refs_of_noRef res hr, fun r r' y y' b s s' hy ho hy' ho' hb hb' => ?_, fun r y b s hy ho hb => newb (p := (0, r)) ⟨y, by rw [hres]; exact hy, ho⟩ hb⟩
    · have := hi.rep 0
      rw [hres, upd_same] at this
      exact (this.noSh (G := F) res hn).tr _ (fun b hb => ⟨hb, rfl⟩) (fun r y _ _ => ⟨by simp, fun _ _ _ => rfl⟩) (fun p hp => by rw [refs_of_noRef res hr] at hp; cases hp)
    · have := hi.disj (0, r) (0, r') b s s' ⟨y, by rw [hres]; exact hy, ho⟩ ⟨y', by rw [hres]; exact hy', ho'⟩ hb hb'
      simpa using this
  have I1 := hH.attach d d0
  have hINH0 : (INH : Nat) ≠ 0 := by decide
  have repX := hi.rep INH
  rw [hobj, upd_other _ _ hINH0] at repX
  simp only [if_true] at repX
  have d1 : Det e (upd (fun i => purgeV d (hole σ q i)) d res) w' (fun p => if p.1 = d then β' (0, p.2) else β p) F x1 u (fun r => β' (INH, r)) := by
    refine ⟨?_, refs_of_noRef x1 hr1, fun r r' y y' b s s' hy ho hy' ho' hb hb' => ?_, fun r y b s hy ho hb => ⟨(newb (p := (INH, r)) ⟨y, by rw [hobj]; exact hy, ho⟩ hb).1, (newb (p := (INH, r)) ⟨y, by rw [hobj]; exact hy, ho⟩ hb).2.1, fun p s' hp hb' => ?_⟩⟩
    · exact (repX.noSh (G := F) x1 hn1).tr _ (fun b hb => ⟨hb, rfl⟩) (fun r y _ _ => ⟨by simp, fun _ _ _ => rfl⟩) (fun p hp => by rw [refs_of_noRef x1 hr1] at hp; cases hp)
    · have := hi.disj (INH, r) (INH, r') b s s' ⟨y, by rw [hobj]; exact hy, ho⟩ ⟨y', by rw [hobj]; exact hy', ho'⟩ hb hb'
      simpa using this
    · by_cases hpd : p.1 = d
      · obtain ⟨y', hy', ho'⟩ := hp
        rw [hpd, upd_same] at hy'
        simp only [hpd, if_true] at hb'
        have := hi.disj (INH, r) (0, p.2) b s s' ⟨y, by rw [hobj]; exact hy, ho⟩ ⟨y', by rw [hres]; exact hy', ho'⟩ hb hb'
        simp [hINH0] at this
      · simp only [hpd, if_false] at hb'
        have hp' := (own_upd_other hpd).1 hp
        have : OwnAt (hole σ q) p := by
          obtain ⟨z, hz', hoz⟩ := hp'
          dsimp only at hz'
          rcases purgeV_or d (hole σ q p.1) with hp | hp
          · rw [hp] at hz'; exact ⟨z, hz', hoz⟩
          · rw [hp] at hz'; exact (undef_node hz' hoz).elim
        exact (newb (p := (INH, r)) ⟨y, by rw [hobj]; exact hy, ho⟩ hb).2.2 p s' this hb'
  have hs1 : upd (fun i => purgeV d (hole σ q i)) d res q.1 = setNode (σ q.1) q.2 .undef := by
    rw [upd_other _ _ (Ne.symm hds)]
    have : hole σ q q.1 = setNode (σ q.1) q.2 .undef := by simp [hole, upd]
    rw [this]
    exact purge_id fun p hp => (hrs p (refs_setNode (by simp [refs]) hz p hp)).2
  have hval : upd val d v q.1 = val q.1 := upd_other _ _ (Ne.symm hds)
  have hnz : node (upd (fun i => purgeV d (hole σ q i)) d res q.1) q.2 = some .undef := by rw [hs1]; exact node_set_self hz
  have fin := I1.put (τ := fun i => if i = d then res else τ i) hnz d1 (by
    rw [hs1, setNode_setNode hz, hval]
    refine hput hr1 ?_ (fun b hb => hkept b (h.fr b hb).1 (fun hi => (inh_not hi).1 hb)) (fun r' y' hy' ho hp => ?_) (fun p hp => ?_)
    · simp only [List.nil_append]
      exact (repX.noSh (G := F) x1 hn1).tr _ (fun b hb => ⟨hb, rfl⟩) (fun r y _ _ => ⟨by
        have := glueAt_in (β := fun p => if p.1 = d then β' (0, p.2) else β p) (t := q.1) (r := q.2) (s := r) (δ := fun r => β' (INH, r))
        simpa using this, fun _ _ _ => rfl⟩) (fun p hp => by rw [refs_of_noRef x1 hr1] at hp; cases hp)
    · simp only [List.nil_append]
      have hne : ¬ (q.2 <+: r') := hp
      refine ⟨by rw [glueAt_out (fun hh => hne hh.2)]; simp [Ne.symm hds], fun b s hb => hkept b (h.own_lt (q := (q.1, r')) ⟨y', hy', ho⟩ hb) (fun hin => ?_)⟩
      obtain ⟨p, s', hp', hpb, hpq⟩ := inh_own hin
      have := h.disj p (q.1, r') b s' s hp' ⟨y', hy', ho⟩ hpb hb
      subst this
      exact hne hpq.2
    · rw [glueAt_out (fun hh => (hrs p hp).1 hh.1)]
      simp [(hrs p hp).2]) (fun i hiq => by
    by_cases hid : i = d
    · subst hid; left; simp [upd_same]
    · simp only [hid, if_false]
      rw [upd_other _ _ hid]
      have : hole σ q i = σ i := by simp [hole, upd, hiq]
      rw [this]
      exact hτ i hiq) (fun i hiq p hp => by
    by_cases hid : i = d
    · subst hid
      simp only [if_true] at hp
      rw [refs_of_noRef res hr] at hp; cases hp
    · simp only [hid, if_false] at hp
      by_cases hpq : p.1 = q.1
      · exact glueAt_out (fun hh => hτr i hiq p hp hpq hh.2)
      · exact glueAt_out (fun hh => hpq hh.1))
  rw [hs1, setNode_setNode hz] at fin
  have e1 : upd (fun i => if i = d then res else τ i) q.1 (setNode (σ q.1) q.2 x1) = upd (upd τ q.1 (setNode (σ q.1) q.2 x1)) d res := by
    funext i
    by_cases h1 : i = q.1
    · subst h1; rw [upd_same, upd_other _ _ (Ne.symm hds), upd_same]
    · by_cases h2 : i = d
      · subst h2; rw [upd_other _ _ h1, upd_same]; simp
      · rw [upd_other _ _ h1, upd_other _ _ h2, upd_other _ _ h1]; simp [h2]
  rw [e1] at fin
  exact ⟨_, he, fin⟩
end
/-- Values that refer to q or into it are given up. -/
def purgeA (q : Place) : AV → AV
  | .rsl p sz off n cap => if p.1 == q.1 && q.2.isPrefixOf p.2 then .undef else .rsl p sz off n cap
  | .rp p off => if p.1 == q.1 && q.2.isPrefixOf p.2 then .undef else .rp p off
  | .agg cs => if (refsL cs).any (fun p => p.1 == q.1 && q.2.isPrefixOf p.2) then .undef else .agg cs
  | .tup cs => if (refsL cs).any (fun p => p.1 == q.1 && q.2.isPrefixOf p.2) then .undef else .tup cs
  | .fn f us cs => if (refsL us ++ refsL cs).any (fun p => p.1 == q.1 && q.2.isPrefixOf p.2) then .undef else .fn f us cs
  | .when b x => if (refs x).any (fun p => p.1 == q.1 && q.2.isPrefixOf p.2) then .undef else .when b x
  | x => x
theorem purgeA_eq (q : Place) (x : AV) : purgeA q x = if (refs x).any (fun p => p.1 == q.1 && q.2.isPrefixOf p.2) then .undef else x := by
  cases x <;> first | rfl | simp [purgeA, refs]
theorem purgeA_or (q : Place) (x : AV) : purgeA q x = x ∨ purgeA q x = .undef := by
  rw [purgeA_eq]; split
  · exact .inr rfl
  · exact .inl rfl
theorem purgeA_refs {q : Place} {x : AV} {p : Place} (hp : p ∈ refs (purgeA q x)) (h : p.1 = q.1) : ¬ q.2 <+: p.2 := by
  rw [purgeA_eq] at hp
  split at hp
  · simp [refs] at hp
  · rename_i hany
    intro hpre
    refine hany (List.any_eq_true.2 ⟨p, hp, ?_⟩)
    simp [h, hpre]
theorem underP_self (q : Place) : underP q q = some [] := by
  unfold underP
  rw [if_pos (by simp)]
  simp
section
variable {P : Program} {N : Nat} {σ τ : Sig} {o : Oper} {d : Nat}
theorem step_IOA {f : FuncId} {args vs : List AV} {res x0 x1 : AV} {q : Place} {us : Act → List Value} (hc : ACall P f args [x0] res [x1]) (hd : o.dst = some d) (hN : d < N)
    (hrun : ∀ a w gv e β F, All N gv e σ a w → Inv e σ (valOf N gv a) w β F → (execOp a.eval o).run P w = .ok (.enter f (us a).toArray) w ∧ RepL β F w vs (0, []) 0 (us a) ∧ (us a).length = vs.length ∧ ∀ c ∈ vs, NoOwn c)
    (hz : node (σ q.1) q.2 = some x0) (hs : passL q (hole σ q) vs = args) (hr0 : refs x0 = []) (hn : noSh res = true) (hr : noRef res = true) (hn1 : noSh x1 = true) (hr1 : noRef x1 = true)
    (hlen : args.length < INH) (hds : d ≠ q.1) (hrs : (refs (σ q.1)).all (fun p => p.1 != q.1 && p.1 != d) = true)
    (hτ : ∀ i, i ≠ q.1 → τ i = purgeV d (σ i) ∨ τ i = .undef)
    (hτr : ∀ i, i ≠ q.1 → ∀ p ∈ refs (τ i), p.1 = q.1 → ¬ q.2 <+: p.2) :
    OStep P N o σ (upd (upd τ q.1 (setNode (σ q.1) q.2 x1)) d res) := by
  intro gv e a w ha K Q hK
  have ha0 := ha
  obtain ⟨hdf, hsz, β, F, hi⟩ := ha
  obtain ⟨h1, h2, h3, hno⟩ := hrun a w gv e β F ha0 hi
  have hh := hi.hole hz
  have hpass := hh.passL q vs (p' := (0, [])) h2 (fun i c hc => hno c (List.mem_of_getElem? hc))
  rw [hs] at hpass
  have hl : (us a).length = args.length := by rw [h3, ← hs, passL_eq]; simp
  have hrs' : ∀ p ∈ refs (σ q.1), p.1 ≠ q.1 ∧ p.1 ≠ d := fun p hp => by
    have := List.all_eq_true.1 hrs p hp
    simpa using this
  obtain ⟨vz, hvz⟩ := (hi.rep q.1).sub hz
  simp only [List.nil_append] at hvz
  refine upon_enter' h1 ((callIO_coreA hc hn hr hn1 hr1 hi hz hr0 (fun b arr t fz ⟨r, y, s, hy, ho, hb⟩ hh => own_fz hvz hy ho hb hh) hl (hpass) (by rw [← hs]; exact noOwn_passL _ _ _ hno) hlen hds hrs' hτ hτr (vs' := vs)).mono fun en w' ⟨v, β', he, hi'⟩ => ⟨v, he, hK _ _ ⟨?_, ?_, β', F, ?_⟩⟩)
  · rw [hd]; exact hdf
  · rw [hd, size_put]; exact hsz
  · rw [hd, valOf_put hsz hN]; exact hi'


theorem o_callIOa {f : FuncId} {xs : List Operand} {tys : Array TypeId} {vs args : List AV} {res x0 x1 : AV} {q : Place} (ho : o.op = fnCall f xs tys) (hf : hasBody P f = true) (hd : o.dst = some d) (hN : d < N) (hx : RdL N true σ xs vs)
    (hz : node (σ q.1) q.2 = some x0) (hs : passL q (hole σ q) vs = args) (hc : ACall P f args [x0] res [x1])
    (hr0 : refs x0 = []) (hn : noSh res = true) (hr : noRef res = true) (hn1 : noSh x1 = true) (hr1 : noRef x1 = true) (hlen : args.length < INH) (hds : d ≠ q.1) (hrs : (refs (σ q.1)).all (fun p => p.1 != q.1 && p.1 != d) = true) :
    OStep P N o σ (upd (upd (fun i => purgeA q (purgeV d (σ i))) q.1 (setNode (σ q.1) q.2 x1)) d res) :=
  step_IOA (us := fun a => xs.map a.eval) hc hd hN (fun a w gv e β F _ hi => run_fnCall ho hf hx hi) hz hs hr0 hn hr hn1 hr1 hlen hds hrs
    (fun i _ => by
      rcases purgeA_or q (purgeV d (σ i)) with h | h
      · exact .inl h
      · exact .inr h) (fun i _ p hp hpq => purgeA_refs hp hpq)
end
end Go.Av
namespace Go.Av
open Go
/-- Several results; the object is given up. -/
theorem retLU {P : Program} {N : Nat} {σ σ' : Sig} {fn : Func} {rs : List ResultVar} (L0 : List (Nat × AV)) (hH : Has σ L0) (h0 : (L0.all fun p => decide (p.1 < INH)) = true) (hr : fn.results = rs.toArray) (hl : rs.length ≠ 1) (h : ResIs P N rs (look L0) σ') (hnd : (rs.map resSlot).Nodup)
    (hN : N < INH) {L : List AV} (hL : (rs.map resSlot).map σ' = L) (hrr : refsL L = []) : Returns P fn N σ (.tup L) [.undef] := fun gv e a w ha => by
  have hb := resIs_big hN h (look_big h0)
  exact retCT hr hl h hnd hN hL hrr (Leaves.one Weak.undef rfl) (fun j => by rw [hb j]; simp [purgeV_eq, refs]) gv e a w ((ent_look hH).all ha)
end Go.Av
namespace Go.Av
open Go Go.Proofs Go.Sort
set_option maxRecDepth 10000
theorem hb50 : hasBody Try.prog 50 = true := by kernel_rfl
theorem hb55 : hasBody Try.prog 55 = true := by kernel_rfl
theorem hb56 : hasBody Try.prog 56 = true := by kernel_rfl
theorem hb89 : hasBody Try.prog 89 = true := by kernel_rfl

theorem markIntSS_c (L : List (List Int)) (k : Int) (h : -1000000000 ≤ k ∧ k ≤ 1000000000) (hL : L.length ≤ 1048576) (ht : tot L L.length ≤ 1048576) : ACall Try.prog 55 [.rsl (INH, []) 1 0 L.length none, .int .i64 k] [.osl 1 (osls L) L.length none] (.int .i64 (k + (tot L L.length : Nat))) [.osl 1 (osls (mkSS k L)) L.length none] := by
  refine ACall.intro Try.func55 rfl (N := 19) rfl (by decide) (by simp) ?_
  refine a_seq ?_
  refine a_region ?_
  refine r_val (v := .int _ _) (v_assign (.inl rfl) (noOwn_flat rfl)) rfl rfl (by decide) ?_
  refine r_nil ?_
  refine a_seq ?_
  refine a_seq ?_
  refine a_region ?_
  refine r_val (v := .int _ _) (v_assign (.inl rfl) (noOwn_flat rfl)) rfl rfl (by decide) ?_
  refine r_nil ?_
  refine a_block ?_
  refine a_loop (X := Nat) (fun i => look [(0, .rsl (INH, []) 1 0 L.length none), (1, .int .i64 (k + (tot L i : Nat))), (5, .int .i64 ((i : Nat) : Int)), (INH, .osl 1 (osls (mkSSP k L i)) L.length none)]) (fun i => i ≤ L.length) (fun i => L.length - i) 0 (ent_look ⟨Weak.of_eq rfl, Weak.of_eq (int_eq (by simp [tot_zero])), Weak.of_eq rfl, Weak.of_eq (osl_eq (by rw [mkSSP_zero])), trivial⟩) (Nat.zero_le _) (fun i hG => ?_)
  have htl := tot_le L i
  have htl1 := tot_le L (i + 1)
  have hle := len_tot (L := L) (i := i)
  refine a_seq ?_
  refine a_seq ?_
  refine a_region ?_
  refine r_val (v := .int _ _) (v_move (.inl rfl) (noOwn_flat rfl)) rfl rfl (by decide) ?_
  refine r_val (v := .rsl _ _ _ _ _) (v_move (.inl rfl) (noOwn_flat rfl)) rfl rfl (by decide) ?_
  refine r_val (v := .int _ _) (v_len_rsl sl22 (.inl rfl)) rfl rfl (by decide) ?_
  refine r_val (v := .bool _) (v_lss (.inl rfl) (.inl rfl)) rfl rfl (by decide) ?_
  refine r_nil ?_
  refine a_cond rfl (fun ht9 => ?_) (fun ht9 => ?_)
  ·
    skip
    refine a_skip ?_
    refine a_seq ?_
    refine a_block ?_
    have hi : i < L.length := (by simp at ht9; omega)
    have hil : i < (mkSSP k L i).length := (by rw [mkSSP_length (by omega)]; omega)
    have hz : (osls (mkSSP k L i))[i]? = some (.osl 1 (icells (gl L i)) (gl L i).length none) := (by rw [osls_get hil, mkSSP_get hi])
    have hset : (osls (mkSSP k L i)).set i (.osl 1 (icells (mkI (k + (tot L i : Nat)) (gl L i).length)) (gl L i).length none) = osls (mkSSP k L (i + 1)) := (by rw [← mkSSP_set hi, ← osls_set, mkI_len])
    refine a_region ?_
    refine r_val (v := .rsl _ _ _ _ _) (v_move (.inl rfl) (noOwn_flat rfl)) rfl rfl (by decide) ?_
    refine r_val (v := .int _ _) (v_move (.inl rfl) (noOwn_flat rfl)) rfl rfl (by decide) ?_
    refine r_val (v := .rp _ _) (v_indexAddr_rsl0 es22 (.inl rfl) (.inl rfl) (fun _ => by omega)) rfl rfl (by decide) ?_
    refine r_val (v := .rsl (INH, [i]) 1 0 (gl L i).length none) ((v_load_rp (c := .osl 1 (icells (gl L i)) (gl L i).length none) ta39 (.inl rfl) rfl (fun _ => by rw [Nat.mul_one]; exact hz)).cast (by show AV.rsl (INH, [] ++ [(i : Int).toNat * 1]) 1 0 (gl L i).length none = _; rw [Nat.mul_one]; rfl)) rfl rfl (by decide) ?_
    refine r_val (v := .int _ _) (v_move (.inl rfl) (noOwn_flat rfl)) rfl rfl (by decide) ?_
    refine r_step rfl (o_callIOa (q := (INH, [i])) (vs := [.rsl _ _ _ _ _, .int _ _]) (args := [.rsl (INH, []) 1 0 (gl L i).length none, .int .i64 _]) (x0 := .osl 1 (icells (gl L i)) (gl L i).length none) (x1 := .osl 1 (icells (mkI (k + (tot L i : Nat)) (gl L i).length)) (gl L i).length none) (res := .int _ _) rfl hb50 rfl (by decide) ⟨.inl rfl, .inl rfl, trivial⟩ (by show (match (osls (mkSSP k L i))[i]? with | some y => node y [] | none => none) = _; rw [hz]; rfl) (by simp only [passL, passV, underP_self, snapV]) (markIntS_c (gl L i) _ (by omega)) rfl rfl rfl (ic_noSh _) (ic_noRef _) (Nat.le_of_ble_eq_true rfl) (by show 17 ≠ INH; decide) rfl) ?_
    refine r_pre (ent_eq (t := INH) (v' := .osl 1 (osls (mkSSP k L (i + 1))) L.length none) (Weak.of_eq (by show setNode (AV.osl 1 (osls (mkSSP k L i)) L.length none) [i] _ = _; simp only [setNode, kids, hz, setKids]; rw [hset]))) ?_
    refine r_val (v := .int _ _) (v_assign (.inl rfl) (noOwn_flat rfl)) rfl rfl (by decide) ?_
    refine r_nil ?_
    refine a_region ?_
    refine r_val (v := .int _ _) (v_move (.inl rfl) (noOwn_flat rfl)) rfl rfl (by decide) ?_
    refine r_val (v := .int _ _) (v_add (.inl rfl) (.inl rfl) (fun _ => by omega)) rfl rfl (by decide) ?_
    refine r_val (v := .int _ _) (v_assign (.inl rfl) (noOwn_flat rfl)) rfl rfl (by decide) ?_
    refine r_nil ?_
    refine ⟨i + 1, ent_look ⟨Weak.of_eq rfl, Weak.of_eq (int_eq (by rw [tot_more hi]; omega)), Weak.of_eq (int_eq (by omega)), Weak.of_eq rfl, trivial⟩, by omega, by omega⟩
  ·
    skip
    refine a_exit ?_
    refine a_seq ?_
    refine a_region ?_
    refine r_val (v := .int _ _) (v_move (.inl rfl) (noOwn_flat rfl)) rfl rfl (by decide) ?_
    refine r_val (v := .int _ _) (v_assign (.inl rfl) (noOwn_flat rfl)) rfl rfl (by decide) ?_
    refine r_nil ?_
    refine a_ret ?_
    refine ret1 Try.results55 (by decide) (by decide) (Weak.of_eq (int_eq ?_)) rfl (Leaves.one (Weak.of_eq (osl_eq (by simp at ht9; rw [mkSSP_full (by omega)]))) rfl)
    simp at ht9; rw [show i = L.length by omega]

theorem heldIntSS_c (L : List (List Int)) (k : Int) (h : 0 ≤ k ∧ k ≤ 1000000000) (hL : L.length ≤ 1048576) (ht : tot L L.length ≤ 1048576) : ACall Try.prog 56 [.sl (sls (mkSS k L)) L.length, .int .i64 k] [] (.int .i64 (k + (tot L L.length : Nat))) [] := by
  refine ACall.intro Try.func56 rfl (N := 21) rfl (by decide) (by simp) ?_
  refine a_seq ?_
  refine a_region ?_
  refine r_val (v := .int _ _) (v_assign (.inl rfl) (noOwn_flat rfl)) rfl rfl (by decide) ?_
  refine r_nil ?_
  refine a_seq ?_
  refine a_seq ?_
  refine a_region ?_
  refine r_val (v := .int _ _) (v_assign (.inl rfl) (noOwn_flat rfl)) rfl rfl (by decide) ?_
  refine r_nil ?_
  refine a_block ?_
  refine a_loop (X := Nat) (fun i => look [(0, .sl (sls (mkSS k L)) L.length), (1, .int .i64 (k + (tot L i : Nat))), (5, .int .i64 ((i : Nat) : Int))]) (fun i => i ≤ L.length) (fun i => L.length - i) 0 (ent_look ⟨Weak.of_eq rfl, Weak.of_eq (int_eq (by simp [tot_zero])), Weak.of_eq rfl, trivial⟩) (Nat.zero_le _) (fun i hG => ?_)
  have htl := tot_le L i
  have htl1 := tot_le L (i + 1)
  have hle := len_tot (L := L) (i := i)
  refine a_seq ?_
  refine a_seq ?_
  refine a_region ?_
  refine r_val (v := .int _ _) (v_move (.inl rfl) (noOwn_flat rfl)) rfl rfl (by decide) ?_
  refine r_val (v := .sl _ _) (v_move (.inl rfl) (noOwn_flat rfl)) rfl rfl (by decide) ?_
  refine r_val (v := .int _ _) (v_len_sl sl22 (.inl rfl)) rfl rfl (by decide) ?_
  refine r_val (v := .bool _) (v_lss (.inl rfl) (.inl rfl)) rfl rfl (by decide) ?_
  refine r_nil ?_
  refine a_cond rfl (fun ht9 => ?_) (fun ht9 => ?_)
  ·
    skip
    refine a_skip ?_
    refine a_seq ?_
    refine a_block ?_
    refine a_seq ?_
    have hi : i < L.length := (by simp at ht9; omega)
    have hil : i < (mkSS k L).length := (by rw [mkSS_length]; exact hi)
    have hgm := mkSS_get (k := k) hi
    refine a_region ?_
    refine r_val (v := .sl _ _) (v_move (.inl rfl) (noOwn_flat rfl)) rfl rfl (by decide) ?_
    refine r_val (v := .int _ _) (v_move (.inl rfl) (noOwn_flat rfl)) rfl rfl (by decide) ?_
    refine r_val (v := .pp _ _) (v_indexAddr_sl es22 (.inl rfl) (.inl rfl) (fun _ => ⟨by omega, by omega, sls_ne hil⟩)) rfl rfl (by decide) ?_
    refine r_val (v := .sl (icells (mkI (k + (tot L i : Nat)) (gl L i).length)) (gl L i).length) (v_load_pp ta39 (.inl rfl) (fun _ => by rw [Nat.mul_one]; have := sls_get hil; rw [hgm, mkI_len] at this; exact this) rfl) rfl rfl (by decide) ?_
    refine r_val (v := .int _ _) (v_move (.inl rfl) (noOwn_flat rfl)) rfl rfl (by decide) ?_
    refine r_new (v := .int _ _) (q_call (vs := [.sl _ _, .int _ _]) (args := [.sl _ _, .int .i64 _]) hb89 ⟨.inl rfl, .inl rfl, trivial⟩ rfl (fun hA => heldIntS_c (gl L i).length _ (by omega)) rfl rfl) rfl rfl (by decide) ?_
    refine r_val (v := .int _ _) (v_assign (.inl rfl) (noOwn_flat rfl)) rfl rfl (by decide) ?_
    refine r_nil ?_
    refine a_seq ?_
    refine a_region ?_
    refine r_val (v := .int _ _) (v_move (.inl rfl) (noOwn_flat rfl)) rfl rfl (by decide) ?_
    refine r_val (v := .bool _) (v_lss (.inl rfl) (.inl rfl)) rfl rfl (by decide) ?_
    refine r_nil ?_
    refine a_cond rfl (fun ht19 => ?_) (fun ht19 => ?_)
    ·
      skip
      refine a_seq ?_
      refine a_region ?_
      refine r_val (v := .int _ _) (v_assign (.inl rfl) (noOwn_flat rfl)) rfl rfl (by decide) ?_
      refine r_nil ?_
      refine a_ret ?_
      refine ret1 Try.results56 (by decide) (by decide) (Weak.of_eq (int_eq ?_)) rfl Leaves.nil
      exfalso; simp at ht19; omega
    ·
      skip
      refine a_skip ?_
      refine a_region ?_
      refine r_val (v := .int _ _) (v_move (.inl rfl) (noOwn_flat rfl)) rfl rfl (by decide) ?_
      refine r_val (v := .int _ _) (v_add (.inl rfl) (.inl rfl) (fun _ => by omega)) rfl rfl (by decide) ?_
      refine r_val (v := .int _ _) (v_assign (.inl rfl) (noOwn_flat rfl)) rfl rfl (by decide) ?_
      refine r_nil ?_
      refine ⟨i + 1, ent_look ⟨Weak.of_eq rfl, Weak.of_eq (int_eq (by rw [tot_more hi]; omega)), Weak.of_eq (int_eq (by omega)), trivial⟩, by omega, by omega⟩
  ·
    skip
    refine a_exit ?_
    refine a_seq ?_
    refine a_region ?_
    refine r_val (v := .int _ _) (v_move (.inl rfl) (noOwn_flat rfl)) rfl rfl (by decide) ?_
    refine r_val (v := .int _ _) (v_assign (.inl rfl) (noOwn_flat rfl)) rfl rfl (by decide) ?_
    refine r_nil ?_
    refine a_ret ?_
    refine ret1 Try.results56 (by decide) (by decide) (Weak.of_eq (int_eq ?_)) rfl Leaves.nil
    simp at ht9; rw [show i = L.length by omega]

theorem markIntSS0_c (k : Int) : ACall Try.prog 55 [.sl [] 0, .int .i64 k] [] (.int .i64 k) [] := by
  refine ACall.intro Try.func55 rfl (N := 19) rfl (by decide) (by simp) ?_
  refine a_seq ?_
  refine a_region ?_
  refine r_val (v := .int _ _) (v_assign (.inl rfl) (noOwn_flat rfl)) rfl rfl (by decide) ?_
  refine r_nil ?_
  refine a_seq ?_
  refine a_seq ?_
  refine a_region ?_
  refine r_val (v := .int _ _) (v_assign (.inl rfl) (noOwn_flat rfl)) rfl rfl (by decide) ?_
  refine r_nil ?_
  refine a_block ?_
  refine a_loop (X := Unit) (fun _u => look [(0, .sl [] 0), (1, .int .i64 k), (5, .int .i64 0)]) (fun _u => True) (fun _u => 0) () (ent_look ⟨Weak.of_eq rfl, Weak.of_eq rfl, Weak.of_eq rfl, trivial⟩) trivial (fun _u hG => ?_)
  refine a_seq ?_
  refine a_seq ?_
  refine a_region ?_
  refine r_val (v := .int _ _) (v_move (.inl rfl) (noOwn_flat rfl)) rfl rfl (by decide) ?_
  refine r_val (v := .sl _ _) (v_move (.inl rfl) (noOwn_flat rfl)) rfl rfl (by decide) ?_
  refine r_val (v := .int _ _) (v_len_sl sl22 (.inl rfl)) rfl rfl (by decide) ?_
  refine r_val (v := .bool _) (v_lss (.inl rfl) (.inl rfl)) rfl rfl (by decide) ?_
  refine r_nil ?_
  refine a_cond rfl (fun ht9 => ?_) (fun ht9 => ?_)
  ·
    skip
    refine a_skip ?_
    refine a_seq ?_
    refine a_block ?_
    exfalso
    simp at ht9
  ·
    skip
    refine a_exit ?_
    refine a_seq ?_
    refine a_region ?_
    refine r_val (v := .int _ _) (v_move (.inl rfl) (noOwn_flat rfl)) rfl rfl (by decide) ?_
    refine r_val (v := .int _ _) (v_assign (.inl rfl) (noOwn_flat rfl)) rfl rfl (by decide) ?_
    refine r_nil ?_
    refine a_ret ?_
    refine ret1 Try.results55 (by decide) (by decide) (Weak.of_eq (int_eq ?_)) rfl Leaves.nil
    rfl

theorem markCnf0_c (vars k : Int) : ACall Try.prog 18 [.agg [.int .i64 vars, .rsl (INH, []) 1 0 0 none], .int .i64 k] [.osl 1 [] 0 none] (.int .i64 k) [.osl 1 [] 0 none] := by
  refine ACall.intro Try.func18 rfl (N := 10) rfl (by decide) (by simp) ?_
  refine a_seq ?_
  refine a_pre (ent_eq (t := 0) (v' := .agg [.int .i64 vars, .sl [] 0]) (Weak.agg ⟨Weak.rfl, Weak.rsl_emp, trivial⟩)) ?_
  refine a_region ?_
  refine r_new (v := .op [.int _ _, .sl _ _]) (q_box (.inl rfl) rfl rfl) rfl rfl (by decide) ?_
  refine r_val (v := .int _ _) (v_assign (.inl rfl) (noOwn_flat rfl)) rfl rfl (by decide) ?_
  refine r_nil ?_
  refine a_seq ?_
  refine a_region ?_
  refine r_val (v := .rp _ _) (v_fieldAddr_rp fo24_1 (.inl rfl)) rfl rfl (by decide) ?_
  refine r_val (v := .sl _ _) (v_load_rp1 ta22 (.inl rfl) rfl (fun _ => rfl) rfl) rfl rfl (by decide) ?_
  refine r_val (v := .int _ _) (v_move (.inl rfl) (noOwn_flat rfl)) rfl rfl (by decide) ?_
  refine r_new (v := .int _ _) (q_call (vs := [.sl _ _, .int _ _]) (args := [.sl [] 0, .int .i64 _]) hb55 ⟨.inl rfl, .inl rfl, trivial⟩ rfl (fun hA => markIntSS0_c _) rfl rfl) rfl rfl (by decide) ?_
  refine r_val (v := .int _ _) (v_assign (.inl rfl) (noOwn_flat rfl)) rfl rfl (by decide) ?_
  refine r_nil ?_
  refine a_seq ?_
  refine a_region ?_
  refine r_val (v := .int _ _) (v_move (.inl rfl) (noOwn_flat rfl)) rfl rfl (by decide) ?_
  refine r_val (v := .int _ _) (v_assign (.inl rfl) (noOwn_flat rfl)) rfl rfl (by decide) ?_
  refine r_nil ?_
  refine a_ret ?_
  refine ret1 Try.results18 (by decide) (by decide) (Weak.of_eq (int_eq ?_)) rfl (Leaves.one (Weak.of_eq rfl) rfl)
  rfl

theorem markCnf1_c (vars : Int) (L : List (List Int)) (k : Int) (h : -1000000000 ≤ k ∧ k ≤ 1000000000) (hL : L.length ≤ 1048576) (ht : tot L L.length ≤ 1048576) (hn : 0 < L.length) : ACall Try.prog 18 [.agg [.int .i64 vars, .rsl (INH, []) 1 0 L.length none], .int .i64 k] [.osl 1 (osls L) L.length none] (.int .i64 (k + (tot L L.length : Nat))) [.osl 1 (osls (mkSS k L)) L.length none] := by
  refine ACall.intro Try.func18 rfl (N := 10) rfl (by decide) (by simp) ?_
  refine a_seq ?_
  refine a_region ?_
  refine r_step rfl (o_box_ref (fs := [.int _ _]) (bs := []) rfl rfl (by decide) (by decide) (by decide) rfl rfl rfl rfl) ?_
  refine r_val (v := .int _ _) (v_assign (.inl rfl) (noOwn_flat rfl)) rfl rfl (by decide) ?_
  refine r_nil ?_
  refine a_seq ?_
  refine a_region ?_
  refine r_val (v := .rp _ _) (v_fieldAddr_rp fo24_1 (.inl rfl)) rfl rfl (by decide) ?_
  refine r_val (v := .rsl _ _ _ _ _) (v_load_rp (c := .osl _ _ _ _) ta22 (.inl rfl) rfl (fun _ => rfl)) rfl rfl (by decide) ?_
  refine r_val (v := .int _ _) (v_move (.inl rfl) (noOwn_flat rfl)) rfl rfl (by decide) ?_
  refine r_step rfl (o_callIOk (q := (2, [1])) (vs := [.rsl _ _ _ _ _, .int _ _]) (args := [.rsl (INH, []) _ _ _ _, .int .i64 _]) (x0 := .osl _ _ _ _) (x1 := .osl _ _ _ _) (res := .int _ _) rfl hb55 rfl (by decide) ⟨.inl rfl, .inl rfl, trivial⟩ rfl rfl (markIntSS_c L k h hL ht) (by simp [stays]; omega) rfl rfl rfl (osls_noSh _) (osls_noRef _) (Nat.le_of_ble_eq_true rfl) (by decide) rfl) ?_
  refine r_val (v := .int _ _) (v_assign (.inl rfl) (noOwn_flat rfl)) rfl rfl (by decide) ?_
  refine r_nil ?_
  refine a_seq ?_
  refine a_region ?_
  refine r_val (v := .int _ _) (v_move (.inl rfl) (noOwn_flat rfl)) rfl rfl (by decide) ?_
  refine r_val (v := .int _ _) (v_assign (.inl rfl) (noOwn_flat rfl)) rfl rfl (by decide) ?_
  refine r_nil ?_
  refine a_pre (ent_reloc_sl (t := INH) rfl rfl) ?_
  refine a_ret ?_
  refine ret1 Try.results18 (by decide) (by decide) (Weak.of_eq (int_eq ?_)) rfl (Leaves.one (Weak.of_eq rfl) rfl)
  rfl

theorem markCnf_c (vars : Int) (L : List (List Int)) (k : Int) (h : -1000000000 ≤ k ∧ k ≤ 1000000000) (hL : L.length ≤ 1048576) (ht : tot L L.length ≤ 1048576) :
    ACall Try.prog 18 [.agg [.int .i64 vars, .rsl (INH, []) 1 0 L.length none], .int .i64 k] [.osl 1 (osls L) L.length none] (.int .i64 (k + (tot L L.length : Nat))) [.osl 1 (osls (mkSS k L)) L.length none] := by
  cases L with
  | nil =>
    have := markCnf0_c vars k
    simpa [tot, osls, mkSS] using this
  | cons c L => exact markCnf1_c vars (c :: L) k h hL ht (by simp)

theorem heldCnf_c (vars : Int) (L : List (List Int)) (k : Int) (h : 0 ≤ k ∧ k ≤ 1000000000) (hL : L.length ≤ 1048576) (ht : tot L L.length ≤ 1048576) : ACall Try.prog 19 [.agg [.int .i64 vars, .sl (sls (mkSS k L)) L.length], .int .i64 k] [] (.int .i64 (k + (tot L L.length : Nat))) [] := by
  refine ACall.intro Try.func19 rfl (N := 12) rfl (by decide) (by simp) ?_
  refine a_seq ?_
  refine a_region ?_
  refine r_new (v := .op [.int _ _, .sl _ _]) (q_box (.inl rfl) rfl rfl) rfl rfl (by decide) ?_
  refine r_val (v := .int _ _) (v_assign (.inl rfl) (noOwn_flat rfl)) rfl rfl (by decide) ?_
  refine r_nil ?_
  refine a_seq ?_
  refine a_region ?_
  refine r_val (v := .rp _ _) (v_fieldAddr_rp fo24_1 (.inl rfl)) rfl rfl (by decide) ?_
  refine r_val (v := .sl _ _) (v_load_rp1 ta22 (.inl rfl) rfl (fun _ => rfl) rfl) rfl rfl (by decide) ?_
  refine r_val (v := .int _ _) (v_move (.inl rfl) (noOwn_flat rfl)) rfl rfl (by decide) ?_
  refine r_new (v := .int _ _) (q_call (vs := [.sl _ _, .int _ _]) (args := [.sl _ _, .int .i64 _]) hb56 ⟨.inl rfl, .inl rfl, trivial⟩ rfl (fun hA => heldIntSS_c L k h hL ht) rfl rfl) rfl rfl (by decide) ?_
  refine r_val (v := .int _ _) (v_assign (.inl rfl) (noOwn_flat rfl)) rfl rfl (by decide) ?_
  refine r_nil ?_
  refine a_seq ?_
  refine a_seq ?_
  refine a_region ?_
  refine r_val (v := .int _ _) (v_move (.inl rfl) (noOwn_flat rfl)) rfl rfl (by decide) ?_
  refine r_val (v := .bool _) (v_lss (.inl rfl) (.inl rfl)) rfl rfl (by decide) ?_
  refine r_nil ?_
  refine a_cond rfl (fun ht10 => ?_) (fun ht10 => ?_)
  ·
    skip
    refine a_seq ?_
    refine a_region ?_
    refine r_val (v := .int _ _) (v_assign (.inl rfl) (noOwn_flat rfl)) rfl rfl (by decide) ?_
    refine r_nil ?_
    refine a_ret ?_
    refine ret1 Try.results19 (by decide) (by decide) (Weak.of_eq (int_eq ?_)) rfl Leaves.nil
    exfalso; simp at ht10; omega
  ·
    skip
    refine a_skip ?_
    refine a_seq ?_
    refine a_region ?_
    refine r_val (v := .int _ _) (v_move (.inl rfl) (noOwn_flat rfl)) rfl rfl (by decide) ?_
    refine r_val (v := .int _ _) (v_assign (.inl rfl) (noOwn_flat rfl)) rfl rfl (by decide) ?_
    refine r_nil ?_
    refine a_ret ?_
    refine ret1 Try.results19 (by decide) (by decide) (Weak.of_eq (int_eq ?_)) rfl Leaves.nil
    rfl
end Go.Av
namespace Go.Av
open Go Go.Proofs Go.Sort
set_option maxRecDepth 10000
theorem ap22 : appTy Try.prog 22 = some (1, 24) := by kernel_rfl
theorem fo55_0 : fieldOff Try.prog 55 0 = some 0 := by kernel_rfl
theorem fo55_1 : fieldOff Try.prog 55 1 = some 1 := by kernel_rfl
theorem hb85 : hasBody Try.prog 85 = true := by kernel_rfl
theorem hb91 : hasBody Try.prog 91 = true := by kernel_rfl
theorem lt22 : litTy Try.prog 22 = some (1, [.nils]) := by kernel_rfl
theorem sp24 : structPl Try.prog 24 = some ([.int .i64 0, .nils], [(0, 1), (1, 1)]) := by kernel_rfl

theorem add_c (vars : Int) (F : List (List Int)) (l : List Int) (hF : F.length ≤ 1048576) (hl : l.length ≤ 1048576) : ACall Try.prog 62 [.rp (INH, []) 0, .sl (icells l) l.length] [.op [.int .i64 vars, .osl 1 (osls (accM F)) (accM F).length none]] (.tup []) [.op [.int .i64 vars, .osl 1 (osls (accM (F ++ [l]))) (accM (F ++ [l])).length none]] := by
  refine ACall.intro Try.func62 rfl (N := 15) rfl (by decide) (by simp) ?_
  refine a_region_z (n := 9) [[(4, true)], [(5, true)], [(6, true)], [(7, true)], [(8, true)], [(9, true)], [(10, true)], [(10, false), (11, true)], [(INH, false), (8, true), (11, false), (12, true)]] mixed (by kernel_rfl) ?_
  refine z_val (v := .rp _ _) (v_move (.inl rfl) (noOwn_flat rfl)) rfl rfl (by decide) rfl (by kernel_rfl) ?_
  refine z_val (v := .rp _ _) (v_move (.inl rfl) (noOwn_flat rfl)) rfl rfl (by decide) rfl (by kernel_rfl) ?_
  refine z_val (v := .rp _ _) (v_nilCheck (.inl rfl) rfl) rfl rfl (by decide) rfl (by kernel_rfl) ?_
  refine z_val (v := .rp _ _) (v_fieldAddr_rp fo55_1 (.inl rfl)) rfl rfl (by decide) rfl (by kernel_rfl) ?_
  refine z_val (v := .rsl _ _ _ _ _) (v_load_rp (c := .osl _ _ _ _) ta22 (.inl rfl) rfl (fun _ => rfl)) rfl rfl (by decide) rfl (by kernel_rfl) ?_
  refine z_val (v := .sl _ _) (v_move (.inl rfl) (noOwn_flat rfl)) rfl rfl (by decide) rfl (by kernel_rfl) ?_
  refine z_new (v := .osl _ _ _ _) (q_call (vs := [.sl _ _]) (args := [.sl _ _]) hb91 ⟨.inl rfl, trivial⟩ rfl (fun hA => mustClause_c l hl) (ic_noSh _) (ic_noRef _)) rfl rfl (by decide) rfl (by kernel_rfl) ?_
  refine z_sliceLit1 (v := .osl _ _ _ _) rfl rfl lt22 rfl rfl (by decide) (by decide) (by decide) rfl rfl (by simp [cellsOf, noRefL, noRef, ic_noRef]) rfl rfl rfl (by kernel_rfl) ?_
  refine z_append_own_ref rfl rfl ap22 rfl (by decide) (by decide) (by decide) (by decide) (by decide) (by decide) (by decide) (by decide) (by decide) rfl rfl rfl rfl rfl rfl (by rw [osls_length]; omega) rfl (by rw [accM_len]; omega) rfl (by kernel_rfl) ?_
  refine z_nil ?_
  refine r_val (v := .rp _ _) (v_nilCheck (.inl rfl) rfl) rfl rfl (by decide) ?_
  refine r_val (v := .rp _ _) (v_fieldAddr_rp fo55_1 (.inl rfl)) rfl rfl (by decide) ?_
  refine r_pre (ent_eq (t := 12) (v' := .osl 1 (osls (accM (F ++ [l]))) (accM (F ++ [l])).length none) (Weak.osl (by rw [accM_app, osls_append]; rfl) (by rw [accM_app]; simp))) ?_
  refine r_step rfl (o_store_own (v := .osl _ _ _ _) (y' := .op [.int _ _, .osl _ _ _ _]) rfl rfl ta22 (.inl rfl) (by decide) rfl (by decide) rfl (by simp [cellsOf, noRefL, noRef, osls_noRef]) rfl rfl rfl rfl rfl (Nat.le_of_ble_eq_true rfl) rfl rfl) ?_
  refine r_nil ?_
  refine ret0_look Try.results62 (by decide) ?_ rfl
  exact Weak.of_eq rfl

theorem cnf_c (vars : Int) (L : List (List Int)) (hk : CnfOk vars L) : ACall Try.prog 63 [.rp (INH, []) 0] [.op [.int .i64 vars, .osl 1 (osls L) L.length none]] (.tup [.agg [.int .i64 (resV (cnfB vars L) vars), .osl 1 (osls (resL (cnfB vars L) L)) (resL (cnfB vars L) L).length none], .bool (cnfB vars L)]) [.undef] := by
  refine ACall.intro Try.func63 rfl (N := 19) rfl (by decide) (by simp) ?_
  refine a_seq ?_
  refine a_region ?_
  refine r_new (v := .op [.int _ _, .nils]) (q_alloc zc24) rfl rfl (by decide) ?_
  refine r_val (v := .bool _) (v_assign (.inl rfl) (noOwn_flat rfl)) rfl rfl (by decide) ?_
  refine r_nil ?_
  refine a_seq ?_
  refine a_region_z (n := 10) [[(5, true)], [(6, true)], [(7, true)], [(8, true)], [(9, true)], [(10, true)], [(11, true)], [(12, true)], [(13, true)], [(4, true)]] mixed (by kernel_rfl) ?_
  refine z_val (v := .rp _ _) (v_move (.inl rfl) (noOwn_flat rfl)) rfl rfl (by decide) rfl (by kernel_rfl) ?_
  refine z_val (v := .rp _ _) (v_nilCheck (.inl rfl) rfl) rfl rfl (by decide) rfl (by kernel_rfl) ?_
  refine z_val (v := .rp _ _) (v_fieldAddr_rp fo55_0 (.inl rfl)) rfl rfl (by decide) rfl (by kernel_rfl) ?_
  refine z_val (v := .int _ _) (v_load_rp1 ta3 (.inl rfl) rfl (fun _ => rfl) rfl) rfl rfl (by decide) rfl (by kernel_rfl) ?_
  refine z_val (v := .rp _ _) (v_move (.inl rfl) (noOwn_flat rfl)) rfl rfl (by decide) rfl (by kernel_rfl) ?_
  refine z_val (v := .rp _ _) (v_nilCheck (.inl rfl) rfl) rfl rfl (by decide) rfl (by kernel_rfl) ?_
  refine z_val (v := .rp _ _) (v_fieldAddr_rp fo55_1 (.inl rfl)) rfl rfl (by decide) rfl (by kernel_rfl) ?_
  refine z_val (v := .rsl _ _ _ _ _) (v_load_rp (c := .osl _ _ _ _) ta22 (.inl rfl) rfl (fun _ => rfl)) rfl rfl (by decide) rfl (by kernel_rfl) ?_
  refine z_val (v := .agg [.int _ _, .rsl _ _ _ _ _]) (v_build sp24 rfl rfl) rfl rfl (by decide) rfl (by kernel_rfl) ?_
  refine z_new (v := .op [.int _ _, .nils]) (q_alloc zc24) rfl rfl (by decide) rfl (by kernel_rfl) ?_
  refine z_nil ?_
  refine r_pre (ent_reloc_at_sl (t := 13) (r := [1]) rfl (by decide) rfl rfl) ?_
  refine r_step rfl (o_store_own (v := .agg [.int _ _, .osl _ _ _ _]) (y' := .op [.int _ _, .osl _ _ _ _]) rfl rfl ta24 (.inl rfl) (by decide) rfl (by decide) rfl (by simp [cellsOf, noRefL, noRef, osls_noRef]) rfl rfl rfl rfl rfl (Nat.le_of_ble_eq_true rfl) rfl rfl) ?_
  refine r_nil ?_
  refine a_seq ?_
  refine a_seq ?_
  refine a_region ?_
  refine r_val (v := .agg [.int _ _, .rsl _ _ _ _ _]) (v_load_rpa (xs := [.int _ _, .osl _ _ _ _]) ta24 (.inl rfl) rfl rfl (fun _ => take_get rfl)) rfl rfl (by decide) ?_
  refine r_new (v := .bool _) (q_call (vs := [.agg [.int _ _, .rsl _ _ _ _ _]]) (args := [.agg [.int .i64 _, .sl _ _]]) hb85 ⟨.inl rfl, trivial⟩ (l1_eq (agg_eq (l2_eq rfl sl_osls))) (fun hA => isCnf_c vars L hk) rfl rfl) rfl rfl (by decide) ?_
  refine r_val (v := .bool _) (v_not (.inl rfl)) rfl rfl (by decide) ?_
  refine r_nil ?_
  refine a_cond rfl (fun ht16 => ?_) (fun ht16 => ?_)
  ·
    skip
    refine a_seq ?_
    refine a_region ?_
    refine r_val (v := .agg [.int _ _, .nils]) (v_build sp24 rfl rfl) rfl rfl (by decide) ?_
    refine r_step rfl (o_store (v := .agg [.int _ _, .nils]) (y' := .op [.int _ _, .nils]) rfl rfl ta24 (.inl rfl) (.inl rfl) rfl rfl rfl rfl rfl rfl (Nat.le_of_ble_eq_true rfl) (by decide) rfl rfl) ?_
    refine r_val (v := .bool _) (v_assign (.inl rfl) (noOwn_flat rfl)) rfl rfl (by decide) ?_
    refine r_nil ?_
    refine a_pre (ent_nil_at (t := 2) (r := [1]) (sz := 1) rfl (.inl rfl) rfl rfl) ?_
    refine a_ret ?_
    refine retLU (rs := [.cell 2 24, .tmp 3]) [(2, _), (3, _)] ⟨Weak.rfl, Weak.rfl, trivial⟩ rfl Try.results63 (by decide) ⟨by decide, _, cell_agg rfl ta24, by decide, rfl⟩ (by decide) (by decide) (l2_eq (agg_eq (l2_eq (int_eq ?_) (osl_eq2 ?_ ?_))) (bool_eq ?_)) (by simp [refsL, refs])
    all_goals (have hf : (cnfB vars L) = false := (by simpa using ht16); simp [resV, resL, hf, osls])
  ·
    skip
    refine a_skip ?_
    refine a_seq ?_
    refine a_region ?_
    refine r_val (v := .agg [.int _ _, .rsl _ _ _ _ _]) (v_load_rpa (xs := [.int _ _, .osl _ _ _ _]) ta24 (.inl rfl) rfl rfl (fun _ => take_get rfl)) rfl rfl (by decide) ?_
    refine r_pre (ent_reloc_at_sl (t := 18) (r := [1]) rfl (by decide) rfl rfl) ?_
    refine r_step rfl (o_store_own (v := .agg [.int _ _, .osl _ _ _ _]) (y' := .op [.int _ _, .osl _ _ _ _]) rfl rfl ta24 (.inl rfl) (by decide) rfl (by decide) rfl (by simp [cellsOf, noRefL, noRef, osls_noRef]) rfl rfl rfl rfl rfl (Nat.le_of_ble_eq_true rfl) rfl rfl) ?_
    refine r_val (v := .bool _) (v_assign (.inl rfl) (noOwn_flat rfl)) rfl rfl (by decide) ?_
    refine r_nil ?_
    refine a_ret ?_
    refine retLU (rs := [.cell 2 24, .tmp 3]) [(2, _), (3, _)] ⟨Weak.rfl, Weak.rfl, trivial⟩ rfl Try.results63 (by decide) ⟨by decide, _, cell_agg rfl ta24, by decide, rfl⟩ (by decide) (by decide) (l2_eq (agg_eq (l2_eq (int_eq ?_) (osl_eq2 ?_ ?_))) (bool_eq ?_)) (by simp [refsL, refs])
    all_goals (have hf : cnfB vars L = true := (by simpa using ht16); simp [resV, resL, hf])

end Go.Av
namespace Go.Av
open Go
/-- All numbers are small and not 0, all lists short. -/
def goodB (m : Nat) (F : List (List Int)) : Bool := decide (F.length ≤ 5000) && F.all fun l => decide (l.length ≤ m) && l.all fun x => decide (x ≠ 0 ∧ -1000000 ≤ x ∧ x ≤ 1000000)
theorem goodB_F {m : Nat} {F : List (List Int)} (h : goodB m F = true) : GoodF F ∧ (∀ l ∈ F, l.length ≤ m) ∧ F.length ≤ 5000 := by
  simp only [goodB, Bool.and_eq_true, decide_eq_true_eq, List.all_eq_true] at h
  exact ⟨fun l hl => ⟨SmI.of fun x hx => by have := ((h.2 l hl).2 x hx); omega, fun x hx => ((h.2 l hl).2 x hx).1⟩, fun l hl => (h.2 l hl).1, h.1⟩
theorem goodB_okM {vars : Int} {F : List (List Int)} (hv : -9223372036854775808 ≤ vars ∧ vars ≤ 9223372036854775807) (h : goodB 144 F = true) : CnfOk vars (accM F) := by
  obtain ⟨h1, h2, h3⟩ := goodB_F h
  exact h1.okM hv h2 (by omega)
theorem goodB_J {F : List (List Int)} (h : goodB 144 F = true) : accM F = accJ F := accM_J (goodB_F h).1
/-- What a family gives. -/
theorem res_M {vars : Int} {F : List (List Int)} {c : Bool} (hc : c = true) (h : goodB 144 F = true) : cnfB vars (accM F) = (c && cnfB vars (accJ F)) ∧ resL (cnfB vars (accM F)) (accM F) = resL (c && cnfB vars (accJ F)) (accJ F) := by
  rw [goodB_J h, hc, Bool.true_and]; exact ⟨rfl, rfl⟩
end Go.Av
namespace Go.Av
open Go Go.Proofs Go.Sort
set_option maxRecDepth 10000
theorem hb62 : hasBody Try.prog 62 = true := by kernel_rfl
theorem hb63 : hasBody Try.prog 63 = true := by kernel_rfl
theorem sp55 : structPl Try.prog 55 = some ([.int .i64 0, .nils], [(0, 1), (1, 1)]) := by kernel_rfl

end Go.Av
namespace Go.Av
open Go Go.Proofs Go.Sort
set_option maxRecDepth 10000
theorem hb17 : hasBody Try.prog 17 = true := by kernel_rfl
theorem hb18 : hasBody Try.prog 18 = true := by kernel_rfl
theorem hb19 : hasBody Try.prog 19 = true := by kernel_rfl
theorem un4 : Try.prog.underlying 4 = some .bool := by kernel_rfl

end Go.Av
namespace Go.Av
open Go
def pgK (h i j : Nat) : List Int := (List.range j).map fun j => ((i * h + j + 1 : Nat) : Int)
def pgX (h j a b : Nat) : List Int := [-((a * h + j + 1 : Nat) : Int), -((b * h + j + 1 : Nat) : Int)]
def pgR (h k : Nat) : List (List Int) := (List.range k).map fun i => pgK h i h
def pgA (h j a k : Nat) : List (List Int) := (List.range k).map fun b => pgX h j a (a + 1 + b)
def pgH (p h j k : Nat) : List (List Int) := (List.range k).flatMap fun a => pgA h j a (p - (a + 1))
def pgC (p h k : Nat) : List (List Int) := (List.range k).flatMap fun j => pgH p h j p
def pgF (p h : Nat) : List (List Int) := pgR h p ++ pgC p h h
theorem pgK_succ (h i j : Nat) : pgK h i (j + 1) = pgK h i j ++ [((i * h + j + 1 : Nat) : Int)] := by unfold pgK; rw [List.range_succ, List.map_append]; rfl
theorem pgR_succ {h k j : Nat} (e : j = h) : pgR h (k + 1) = pgR h k ++ [pgK h k j] := by subst e; unfold pgR; rw [List.range_succ, List.map_append]; rfl
theorem pgA_succ (h j a k : Nat) : pgA h j a (k + 1) = pgA h j a k ++ [pgX h j a (a + 1 + k)] := by unfold pgA; rw [List.range_succ, List.map_append]; rfl
theorem pgH_succ {p h j k b : Nat} (e : b = p - (k + 1)) : pgH p h j (k + 1) = pgH p h j k ++ pgA h j k b := by subst e; unfold pgH; rw [List.range_succ, List.flatMap_append]; simp
theorem pgC_succ {p h k a : Nat} (e : a = p) : pgC p h (k + 1) = pgC p h k ++ pgH p h k a := by subst e; unfold pgC; rw [List.range_succ, List.flatMap_append]; simp
theorem pgF_eq {p h k j : Nat} (e : k = p) (e2 : j = h) : pgF p h = pgR h k ++ pgC p h j := by subst e; subst e2; rfl
theorem pgK_len (h i j : Nat) : (pgK h i j).length = j := by simp [pgK]
theorem pgR_len (h k : Nat) : (pgR h k).length = k := by simp [pgR]
theorem pgA_len (h j a k : Nat) : (pgA h j a k).length = k := by simp [pgA]
theorem pgH_len (p h j k : Nat) : (pgH p h j k).length ≤ p * k := by
  induction k with
  | zero => simp [pgH]
  | succ k ih => rw [pgH_succ rfl, List.length_append, pgA_len, Nat.mul_succ]; omega
theorem pgC_len (p h k : Nat) : (pgC p h k).length ≤ (p * p) * k := by
  induction k with
  | zero => simp [pgC]
  | succ k ih => rw [pgC_succ rfl, List.length_append, Nat.mul_succ]; have := pgH_len p h k p; omega
theorem pg_good : ∀ p < 13, ∀ h < 13, goodB 144 (pgF p h) = true := by decide +kernel
theorem WeakL.app : ∀ {cs : List AV} {ds es : List AV}, WeakL ds es → WeakL (cs ++ ds) (cs ++ es)
  | [], _, _, h => h
  | _ :: _, _, _, h => ⟨Weak.rfl, WeakL.app h⟩
theorem Weak.oslL {sz n n' : Nat} {cap : Option Nat} {cs ds : List AV} (h : WeakL cs ds) (hd : noRefL ds = true) (hn : n = n') : Weak (.osl sz cs n cap) (.osl sz ds n' none) := by
  subst hn
  refine ⟨fun β F w p v hr => ?_, fun r z hz ho => ?_⟩
  · simp only [Rep] at hr ⊢
    rcases hr with ⟨h1, h2, h3, h4, _⟩ | ⟨h0, b, capv, arr, t, h1, h2, h3, _, h5, h6, h7⟩
    · subst h3
      cases ds with
      | nil => exact .inl ⟨h1, h2, _root_.rfl, h4, fun c hc => by cases hc⟩
      | cons d ds => exact h.elim
    · exact .inr ⟨hd, b, capv, arr, t, h1, h2, h3, (fun c hc => by cases hc), h5, h6, h.repL h7⟩
  · cases r with
    | nil => exact ⟨.osl sz cs n cap, _root_.rfl, _root_.rfl⟩
    | cons i r =>
      simp only [node, kids] at hz ⊢
      cases hi : ds[i]? with
      | none => rw [hi] at hz; cases hz
      | some d =>
        rw [hi] at hz
        obtain ⟨c, z', h1, h2, h3⟩ := h.node hi hz ho
        exact ⟨z', by rw [h1]; exact h2, h3⟩
/-- A row more, whose capacity is forgotten. -/
theorem osls_more {F : List (List Int)} {l : List Int} {cap : Option Nat} {n : Nat} (hn : n = l.length) : WeakL (osls F ++ [.osl 1 (icells l) n cap]) (osls (F ++ [l])) := by
  rw [osls_append]
  exact WeakL.app ⟨Weak.osl _root_.rfl hn, trivial⟩
theorem pigeon_ok : ∀ h < 4, h = 0 ∨ (inR (((h : Nat) : Int) + 1) 0 12 && inR ((h : Nat) : Int) 0 12 && cnfB ((((h : Nat) : Int) + 1) * ((h : Nat) : Int)) (accJ (pgF (((h : Nat) : Int) + 1).toNat ((h : Nat) : Int).toNat))) = inR ((h : Nat) : Int) 1 3 ∧
    accJ (pgF (((h : Nat) : Int) + 1).toNat ((h : Nat) : Int).toNat) = pgF (((h : Nat) : Int).toNat + 1) ((h : Nat) : Int).toNat := by decide +kernel
theorem pigeon_len (n : Int) : (resL (inR n 1 3) (pgF (n.toNat + 1) n.toNat)).length ≤ 60 ∧ tot (resL (inR n 1 3) (pgF (n.toNat + 1) n.toNat)) (resL (inR n 1 3) (pgF (n.toNat + 1) n.toNat)).length ≤ 720 := by
  unfold resL
  split
  · rename_i h
    have h1 := inR_spec.1 h
    have key : ∀ h < 4, (pgF (h + 1) h).length ≤ 60 ∧ tot (pgF (h + 1) h) (pgF (h + 1) h).length ≤ 720 := by decide +kernel
    exact key n.toNat (by omega)
  · simp [tot]
end Go.Av
namespace Go.Av
open Go Go.Proofs Go.Sort
set_option maxRecDepth 10000
theorem hb27 : hasBody Try.prog 27 = true := by kernel_rfl
theorem iPig_c (n m : Int) : ACall Try.prog 27 [.int .i64 n, .int .i64 m] [] (.tup [.agg [.int .i64 (resV ((inR n 0 12 && inR m 0 12) && cnfB (n * m) (accJ (pgF n.toNat m.toNat))) (n * m)), .osl 1 (osls (resL ((inR n 0 12 && inR m 0 12) && cnfB (n * m) (accJ (pgF n.toNat m.toNat))) (accJ (pgF n.toNat m.toNat)))) (resL ((inR n 0 12 && inR m 0 12) && cnfB (n * m) (accJ (pgF n.toNat m.toNat))) (accJ (pgF n.toNat m.toNat))).length none], .bool ((inR n 0 12 && inR m 0 12) && cnfB (n * m) (accJ (pgF n.toNat m.toNat)))]) [] := by
  refine ACall.intro Try.func27 rfl (N := 84) rfl (by decide) (by simp) ?_
  refine a_seq ?_
  refine a_region ?_
  refine r_new (v := .op [.int _ _, .nils]) (q_alloc zc24) rfl rfl (by decide) ?_
  refine r_val (v := .bool _) (v_assign (.inl rfl) (noOwn_flat rfl)) rfl rfl (by decide) ?_
  refine r_nil ?_
  refine a_seq ?_
  refine a_seq ?_
  refine a_region ?_
  refine r_val (v := .int _ _) (v_move (.inl rfl) (noOwn_flat rfl)) rfl rfl (by decide) ?_
  refine r_new (v := .bool _) (q_call (vs := [.int _ _, .int _ _, .int _ _]) (args := [.int .i64 _, .int .i64 _, .int .i64 _]) hb61 ⟨.inl rfl, .inl rfl, .inl rfl, trivial⟩ rfl (fun hA => within_c _ _ _) rfl rfl) rfl rfl (by decide) ?_
  refine r_val (v := .bool _) (v_not (.inl rfl)) rfl rfl (by decide) ?_
  refine r_val (v := .bool _) (v_move (.inl rfl) (noOwn_flat rfl)) rfl rfl (by decide) ?_
  refine r_gval (v := .int _ _) (v_move (.inl rfl) (noOwn_flat rfl)) rfl rfl rfl (by decide) (.inl ⟨_, rfl, rfl⟩) rfl (by decide) ?_
  refine r_guard (v := .bool _) (q_call (vs := [.int _ _, .int _ _, .int _ _]) (args := [.int .i64 _, .int .i64 _, .int .i64 _]) hb61 ⟨.inr ⟨_, rfl, fun h => h⟩, .inl rfl, .inl rfl, trivial⟩ rfl (fun hA => within_c _ _ _) rfl rfl) rfl rfl rfl (by decide) (.inl ⟨_, rfl, rfl⟩) rfl (by decide) ?_
  refine r_gval (v := .bool _) (v_not (.inr ⟨_, rfl, fun h => h⟩)) rfl rfl rfl (by decide) (.inl ⟨_, rfl, rfl⟩) rfl (by decide) ?_
  refine r_val (v := .bool _) (v_pick (.inl rfl) (.inl rfl) (.inr ⟨_, rfl, fun h h2 => by simp_all⟩)) rfl rfl (by decide) ?_
  refine r_nil ?_
  refine a_cond rfl (fun ht20 => ?_) (fun ht20 => ?_)
  ·
    skip
    refine a_seq ?_
    refine a_region ?_
    refine r_val (v := .agg [.int _ _, .nils]) (v_build sp24 rfl rfl) rfl rfl (by decide) ?_
    refine r_step rfl (o_store (v := .agg [.int _ _, .nils]) (y' := .op [.int _ _, .nils]) rfl rfl ta24 (.inl rfl) (.inl rfl) rfl rfl rfl rfl rfl rfl (Nat.le_of_ble_eq_true rfl) (by decide) rfl rfl) ?_
    refine r_val (v := .bool _) (v_assign (.inl rfl) (noOwn_flat rfl)) rfl rfl (by decide) ?_
    refine r_nil ?_
    refine a_pre (ent_nil_at (t := 4) (r := [1]) (sz := 1) rfl (.inl rfl) rfl rfl) ?_
    refine a_ret ?_
    refine retL (rs := [.cell 4 24, .tmp 5]) [(4, _), (5, _)] ⟨Weak.rfl, Weak.rfl, trivial⟩ rfl Try.results27 (by decide) ⟨by decide, _, cell_agg rfl ta24, by decide, rfl⟩ (by decide) (by decide) (l2_eq (agg_eq (l2_eq (int_eq ?_) (osl_eq2 ?_ ?_))) (bool_eq ?_)) (by simp [refsL, refs])
    all_goals (have hf : ((inR n 0 12 && inR m 0 12) && cnfB (n * m) (accJ (pgF n.toNat m.toNat))) = false := (by cases h1 : inR n 0 12 <;> cases h2 : inR m 0 12 <;> simp_all); simp [resV, resL, hf, osls])
  ·
    skip
    refine a_skip ?_
    refine a_seq ?_
    have hin : (inR n 0 12 && inR m 0 12) = true := (by cases h1 : inR n 0 12 <;> cases h2 : inR m 0 12 <;> simp_all)
    have hn := inR_spec.1 (by simp at hin; exact hin.1 : inR n 0 12 = true)
    have hm := inR_spec.1 (by simp at hin; exact hin.2 : inR m 0 12 = true)
    obtain ⟨p, rfl⟩ := Int.eq_ofNat_of_zero_le hn.1
    obtain ⟨h, rfl⟩ := Int.eq_ofNat_of_zero_le hm.1
    have hph : p * h ≤ 12 * 12 := Nat.mul_le_mul (by omega) (by omega)
    refine a_region ?_
    refine r_val (v := .int _ _) (v_move (.inl rfl) (noOwn_flat rfl)) rfl rfl (by decide) ?_
    refine r_val (v := .int _ _) (v_move (.inl rfl) (noOwn_flat rfl)) rfl rfl (by decide) ?_
    refine r_val (v := .int _ _) (v_mul (.inl rfl) (.inl rfl) (fun _ => by omega)) rfl rfl (by decide) ?_
    refine r_val (v := .agg [.int _ _, .nils]) (v_build sp55 rfl rfl) rfl rfl (by decide) ?_
    refine r_new (v := .op [.int _ _, .nils]) (q_box (.inl rfl) rfl rfl) rfl rfl (by decide) ?_
    refine r_val (v := .rp _ _) (v_assign (.inl rfl) (noOwn_flat rfl)) rfl rfl (by decide) ?_
    refine r_pre (ent_reloc_op (t := 6) rfl rfl) ?_
    refine r_nil ?_
    refine a_seq ?_
    refine a_seq ?_
    refine a_pre (ent_nil_at (t := 6) (r := [1]) (sz := 1) rfl (.inl rfl) rfl rfl) ?_
    refine a_region ?_
    refine r_val (v := .int _ _) (v_move (.inl rfl) (noOwn_flat rfl)) rfl rfl (by decide) ?_
    refine r_val (v := .int _ _) (v_move (.inl rfl) (noOwn_flat rfl)) rfl rfl (by decide) ?_
    refine r_nil ?_
    refine a_block ?_
    refine a_loop (X := Nat) (fun k => look [(0, .int .i64 ((p : Nat) : Int)), (1, .int .i64 ((h : Nat) : Int)), (4, .op [.int .i64 0, .nils]), (6, .op [.int .i64 (((p : Nat) : Int) * ((h : Nat) : Int)), .osl 1 (osls (accM (pgR h k))) (accM (pgR h k)).length none]), (27, .int .i64 ((p : Nat) : Int)), (28, .int .i64 ((k : Nat) : Int))]) (fun k => k ≤ p) (fun k => p - k) 0 (ent_look ⟨Weak.of_eq rfl, Weak.of_eq rfl, Weak.of_eq rfl, Weak.of_eq rfl, Weak.of_eq rfl, Weak.of_eq rfl, trivial⟩) (Nat.zero_le _) (fun k hG => ?_)
    refine a_seq ?_
    refine a_region ?_
    refine r_val (v := .bool _) (v_lss (.inl rfl) (.inl rfl)) rfl rfl (by decide) ?_
    refine r_nil ?_
    refine a_seq ?_
    refine a_cond rfl (fun ht29 => ?_) (fun ht29 => ?_)
    ·
      skip
      refine a_skip ?_
      refine a_seq ?_
      refine a_block ?_
      refine a_seq ?_
      have hk : k < p := (by simp at ht29; omega)
      refine a_region ?_
      refine r_val (v := .int _ _) (v_move (.inl rfl) (noOwn_flat rfl)) rfl rfl (by decide) ?_
      refine r_val (v := .int _ _) (v_assign (.inl rfl) (noOwn_flat rfl)) rfl rfl (by decide) ?_
      refine r_nil ?_
      refine a_seq ?_
      refine a_region ?_
      refine r_val (v := .nils) (v_assign (.inl rfl) (noOwn_flat rfl)) rfl rfl (by decide) ?_
      refine r_nil ?_
      refine a_seq ?_
      refine a_seq ?_
      refine a_region ?_
      refine r_val (v := .int _ _) (v_assign (.inl rfl) (noOwn_flat rfl)) rfl rfl (by decide) ?_
      refine r_nil ?_
      refine a_block ?_
      refine a_pre (ent_nil (t := 8) (sz := 1) (cap := none) (.inl rfl) (fun _ h => by cases h)) ?_
      refine a_loop (X := Nat) (fun j => look [(0, .int .i64 ((p : Nat) : Int)), (1, .int .i64 ((h : Nat) : Int)), (4, .op [.int .i64 0, .nils]), (6, .op [.int .i64 (((p : Nat) : Int) * ((h : Nat) : Int)), .osl 1 (osls (accM (pgR h k))) (accM (pgR h k)).length none]), (27, .int .i64 ((p : Nat) : Int)), (28, .int .i64 ((k : Nat) : Int)), (7, .int .i64 ((k : Nat) : Int)), (8, .osl 1 (icells (pgK h k j)) (pgK h k j).length none), (9, .int .i64 ((j + 1 : Nat) : Int))]) (fun j => j ≤ h) (fun j => h - j) 0 (ent_look ⟨Weak.of_eq rfl, Weak.of_eq rfl, Weak.of_eq rfl, Weak.of_eq rfl, Weak.of_eq rfl, Weak.of_eq rfl, Weak.of_eq rfl, Weak.of_eq rfl, Weak.of_eq rfl, trivial⟩) (Nat.zero_le _) (fun j hG => ?_)
      refine a_seq ?_
      refine a_seq ?_
      refine a_region ?_
      refine r_val (v := .int _ _) (v_move (.inl rfl) (noOwn_flat rfl)) rfl rfl (by decide) ?_
      refine r_val (v := .int _ _) (v_move (.inl rfl) (noOwn_flat rfl)) rfl rfl (by decide) ?_
      refine r_val (v := .bool _) (v_leq (.inl rfl) (.inl rfl)) rfl rfl (by decide) ?_
      refine r_nil ?_
      refine a_cond rfl (fun ht33 => ?_) (fun ht33 => ?_)
      ·
        skip
        refine a_skip ?_
        refine a_seq ?_
        refine a_block ?_
        have hj2 : j < h := (by simp at ht33; omega)
        have hkl := pgK_len h k j
        have hq0 : k * h ≤ 12 * 12 := Nat.mul_le_mul (by omega) (by omega)
        refine a_region ?_
        refine r_val (v := .rsl _ _ _ _ _) (v_move (.inl rfl) (noOwn_flat rfl)) rfl rfl (by decide) ?_
        refine r_val (v := .int _ _) (v_move (.inl rfl) (noOwn_flat rfl)) rfl rfl (by decide) ?_
        refine r_val (v := .int _ _) (v_move (.inl rfl) (noOwn_flat rfl)) rfl rfl (by decide) ?_
        refine r_val (v := .int .i64 ((k * h : Nat) : Int)) ((v_mul (.inl rfl) (.inl rfl) (fun _ => by omega)).cast (int_eq (by simp))) rfl rfl (by decide) ?_
        refine r_val (v := .int _ _) (v_move (.inl rfl) (noOwn_flat rfl)) rfl rfl (by decide) ?_
        refine r_val (v := .int .i64 ((k * h + j + 1 : Nat) : Int)) ((v_add (.inl rfl) (.inl rfl) (fun _ => by omega)).cast (int_eq (by omega))) rfl rfl (by decide) ?_
        refine r_new (v := .osl _ _ _ _) (q_sliceLit (n := 1) (parts := [(0, .tmp 41)]) lt39 rfl rfl rfl rfl) rfl rfl (by decide) ?_
        refine r_pre (ent_reloc_sl (t := 36) rfl rfl) ?_
        refine r_step rfl (o_append rfl ap39 rfl (by decide) (by decide) rfl (src_lit (.inl rfl) rfl rfl rfl) rfl (by simp [icells_length]) (by rw [pgK_len]; omega)) ?_
        refine r_val (v := .rsl _ _ _ _ _) (v_assign (.inl rfl) (noOwn_flat rfl)) rfl rfl (by decide) ?_
        refine r_pre (ent_reloc_sl (t := 8) rfl rfl) ?_
        refine r_nil ?_
        refine a_region ?_
        refine r_val (v := .int _ _) (v_move (.inl rfl) (noOwn_flat rfl)) rfl rfl (by decide) ?_
        refine r_val (v := .int _ _) (v_add (.inl rfl) (.inl rfl) (fun _ => by omega)) rfl rfl (by decide) ?_
        refine r_val (v := .int _ _) (v_assign (.inl rfl) (noOwn_flat rfl)) rfl rfl (by decide) ?_
        refine r_nil ?_
        refine ⟨j + 1, ent_look ⟨Weak.of_eq rfl, Weak.of_eq rfl, Weak.of_eq rfl, Weak.of_eq rfl, Weak.of_eq rfl, Weak.of_eq rfl, Weak.of_eq rfl, Weak.osl (by rw [pgK_succ, icells_append]; rfl) (by rw [pgK_succ, List.length_append]; rfl), Weak.of_eq (int_eq (by omega)), trivial⟩, (by omega), by omega⟩
      ·
        skip
        refine a_exit ?_
        have hj : j = h := (by simp at ht33; omega)
        refine a_region ?_
        refine r_val (v := .rp _ _) (v_move (.inl rfl) (noOwn_flat rfl)) rfl rfl (by decide) ?_
        refine r_val (v := .rsl _ _ _ _ _) (v_move (.inl rfl) (noOwn_flat rfl)) rfl rfl (by decide) ?_
        refine r_step rfl (o_callIOp (q := (6, [])) (vs := [.rp _ _, .rsl _ _ _ _ _]) (args := [.rp (INH, []) _, .sl _ _]) (cs0 := [.int _ _, .osl _ _ _ _]) (cs1 := [.int _ _, .osl _ _ _ _]) (res := .tup []) rfl hb62 rfl (by decide) ⟨.inl rfl, .inl rfl, trivial⟩ rfl (l2_eq rfl (sl_sh (ic_pure _))) (add_c (((p : Nat) : Int) * ((h : Nat) : Int)) (pgR h k) (pgK h k j) (by rw [pgR_len]; omega) (by rw [pgK_len]; omega)) rfl rfl rfl (by simp [noSh, noShL, osls_noSh]) (by simp [noRef, noRefL, osls_noRef]) (Nat.le_of_ble_eq_true rfl) (by decide) rfl) ?_
        refine r_nil ?_
        refine a_region ?_
        refine r_val (v := .int _ _) (v_add (.inl rfl) (.inl rfl) (fun _ => by omega)) rfl rfl (by decide) ?_
        refine r_val (v := .int _ _) (v_move (.inl rfl) (noOwn_flat rfl)) rfl rfl (by decide) ?_
        refine r_nil ?_
        refine ⟨k + 1, ent_look ⟨Weak.of_eq rfl, Weak.of_eq rfl, Weak.of_eq rfl, Weak.of_eq (by rw [pgR_succ hj]; rfl), Weak.of_eq rfl, Weak.of_eq (int_eq (by omega)), trivial⟩, (by omega), by omega⟩
    ·
      skip
      refine a_exit ?_
      refine a_seq ?_
      refine a_seq ?_
      have hkp : p = k := (by simp at ht29; omega)
      refine a_region ?_
      refine r_val (v := .int _ _) (v_assign (.inl rfl) (noOwn_flat rfl)) rfl rfl (by decide) ?_
      refine r_nil ?_
      refine a_block ?_
      refine a_loop (X := Nat) (fun j => look [(0, .int .i64 ((p : Nat) : Int)), (1, .int .i64 ((h : Nat) : Int)), (4, .op [.int .i64 0, .nils]), (6, .op [.int .i64 (((p : Nat) : Int) * ((h : Nat) : Int)), .osl 1 (osls (accM (pgR h p ++ pgC p h j))) (accM (pgR h p ++ pgC p h j)).length none]), (10, .int .i64 ((j + 1 : Nat) : Int))]) (fun j => j ≤ h) (fun j => h - j) 0 (ent_look ⟨Weak.of_eq rfl, Weak.of_eq rfl, Weak.of_eq rfl, Weak.of_eq (by rw [show pgC p h 0 = [] from rfl, List.append_nil, hkp]; rfl), Weak.of_eq rfl, trivial⟩) (Nat.zero_le _) (fun j hG => ?_)
      refine a_seq ?_
      refine a_seq ?_
      refine a_region ?_
      refine r_val (v := .int _ _) (v_move (.inl rfl) (noOwn_flat rfl)) rfl rfl (by decide) ?_
      refine r_val (v := .int _ _) (v_move (.inl rfl) (noOwn_flat rfl)) rfl rfl (by decide) ?_
      refine r_val (v := .bool _) (v_leq (.inl rfl) (.inl rfl)) rfl rfl (by decide) ?_
      refine r_nil ?_
      refine a_cond rfl (fun ht50 => ?_) (fun ht50 => ?_)
      ·
        skip
        refine a_skip ?_
        refine a_seq ?_
        refine a_block ?_
        refine a_seq ?_
        have hj2 : j < h := (by simp at ht50; omega)
        refine a_region ?_
        refine r_val (v := .int _ _) (v_move (.inl rfl) (noOwn_flat rfl)) rfl rfl (by decide) ?_
        refine r_val (v := .int _ _) (v_move (.inl rfl) (noOwn_flat rfl)) rfl rfl (by decide) ?_
        refine r_nil ?_
        refine a_block ?_
        refine a_loop (X := Nat) (fun a => look [(0, .int .i64 ((p : Nat) : Int)), (1, .int .i64 ((h : Nat) : Int)), (4, .op [.int .i64 0, .nils]), (6, .op [.int .i64 (((p : Nat) : Int) * ((h : Nat) : Int)), .osl 1 (osls (accM ((pgR h p ++ pgC p h j) ++ pgH p h j a))) (accM ((pgR h p ++ pgC p h j) ++ pgH p h j a)).length none]), (10, .int .i64 ((j + 1 : Nat) : Int)), (53, .int .i64 ((p : Nat) : Int)), (54, .int .i64 ((a : Nat) : Int))]) (fun a => a ≤ p) (fun a => p - a) 0 (ent_look ⟨Weak.of_eq rfl, Weak.of_eq rfl, Weak.of_eq rfl, Weak.of_eq (by rw [show pgH p h j 0 = [] from rfl, List.append_nil]; rfl), Weak.of_eq rfl, Weak.of_eq rfl, Weak.of_eq rfl, trivial⟩) (Nat.zero_le _) (fun a hG => ?_)
        refine a_seq ?_
        refine a_region ?_
        refine r_val (v := .bool _) (v_lss (.inl rfl) (.inl rfl)) rfl rfl (by decide) ?_
        refine r_nil ?_
        refine a_seq ?_
        refine a_cond rfl (fun ht55 => ?_) (fun ht55 => ?_)
        ·
          skip
          refine a_skip ?_
          refine a_seq ?_
          refine a_block ?_
          refine a_seq ?_
          have ha : a < p := (by simp at ht55; omega)
          refine a_region ?_
          refine r_val (v := .int _ _) (v_move (.inl rfl) (noOwn_flat rfl)) rfl rfl (by decide) ?_
          refine r_val (v := .int _ _) (v_assign (.inl rfl) (noOwn_flat rfl)) rfl rfl (by decide) ?_
          refine r_nil ?_
          refine a_seq ?_
          refine a_region ?_
          refine r_val (v := .int _ _) (v_move (.inl rfl) (noOwn_flat rfl)) rfl rfl (by decide) ?_
          refine r_val (v := .int _ _) (v_add (.inl rfl) (.inl rfl) (fun _ => by omega)) rfl rfl (by decide) ?_
          refine r_val (v := .int _ _) (v_assign (.inl rfl) (noOwn_flat rfl)) rfl rfl (by decide) ?_
          refine r_nil ?_
          refine a_block ?_
          refine a_loop (X := Nat) (fun b => look [(0, .int .i64 ((p : Nat) : Int)), (1, .int .i64 ((h : Nat) : Int)), (4, .op [.int .i64 0, .nils]), (6, .op [.int .i64 (((p : Nat) : Int) * ((h : Nat) : Int)), .osl 1 (osls (accM (((pgR h p ++ pgC p h j) ++ pgH p h j a) ++ pgA h j a b))) (accM (((pgR h p ++ pgC p h j) ++ pgH p h j a) ++ pgA h j a b)).length none]), (10, .int .i64 ((j + 1 : Nat) : Int)), (53, .int .i64 ((p : Nat) : Int)), (54, .int .i64 ((a : Nat) : Int)), (11, .int .i64 ((a : Nat) : Int)), (12, .int .i64 ((a + 1 + b : Nat) : Int))]) (fun b => a + 1 + b ≤ p) (fun b => p - b) 0 (ent_look ⟨Weak.of_eq rfl, Weak.of_eq rfl, Weak.of_eq rfl, Weak.of_eq (by rw [show pgA h j a 0 = [] from rfl, List.append_nil]; rfl), Weak.of_eq rfl, Weak.of_eq rfl, Weak.of_eq rfl, Weak.of_eq rfl, Weak.of_eq rfl, trivial⟩) (by omega) (fun b hG => ?_)
          refine a_seq ?_
          refine a_seq ?_
          refine a_region ?_
          refine r_val (v := .int _ _) (v_move (.inl rfl) (noOwn_flat rfl)) rfl rfl (by decide) ?_
          refine r_val (v := .int _ _) (v_move (.inl rfl) (noOwn_flat rfl)) rfl rfl (by decide) ?_
          refine r_val (v := .bool _) (v_lss (.inl rfl) (.inl rfl)) rfl rfl (by decide) ?_
          refine r_nil ?_
          refine a_cond rfl (fun ht61 => ?_) (fun ht61 => ?_)
          ·
            skip
            refine a_skip ?_
            refine a_seq ?_
            refine a_block ?_
            have hb : a + 1 + b < p := (by simp at ht61; omega)
            have hl1 := pgR_len h p
            have hl2 := pgC_len p h j
            have hl3 := pgH_len p h j a
            have hl4 := pgA_len h j a b
            have hb1 : p * p ≤ 12 * 12 := Nat.mul_le_mul (by omega) (by omega)
            have hb2 : (p * p) * j ≤ 144 * 12 := Nat.mul_le_mul (by omega) (by omega)
            have hb3 : p * a ≤ 12 * 12 := Nat.mul_le_mul (by omega) (by omega)
            have hq0 : a * h ≤ 12 * 12 := Nat.mul_le_mul (by omega) (by omega)
            have hq1 : (a + 1 + b) * h ≤ 12 * 12 := Nat.mul_le_mul (by omega) (by omega)
            refine a_region ?_
            refine r_val (v := .rp _ _) (v_move (.inl rfl) (noOwn_flat rfl)) rfl rfl (by decide) ?_
            refine r_val (v := .int _ _) (v_move (.inl rfl) (noOwn_flat rfl)) rfl rfl (by decide) ?_
            refine r_val (v := .int _ _) (v_move (.inl rfl) (noOwn_flat rfl)) rfl rfl (by decide) ?_
            refine r_val (v := .int .i64 ((a * h : Nat) : Int)) ((v_mul (.inl rfl) (.inl rfl) (fun _ => by omega)).cast (int_eq (by simp))) rfl rfl (by decide) ?_
            refine r_val (v := .int _ _) (v_move (.inl rfl) (noOwn_flat rfl)) rfl rfl (by decide) ?_
            refine r_val (v := .int .i64 ((a * h + j + 1 : Nat) : Int)) ((v_add (.inl rfl) (.inl rfl) (fun _ => by omega)).cast (int_eq (by omega))) rfl rfl (by decide) ?_
            refine r_val (v := .int _ _) (v_neg (.inl rfl) (fun _ => by omega)) rfl rfl (by decide) ?_
            refine r_val (v := .int _ _) (v_move (.inl rfl) (noOwn_flat rfl)) rfl rfl (by decide) ?_
            refine r_val (v := .int _ _) (v_move (.inl rfl) (noOwn_flat rfl)) rfl rfl (by decide) ?_
            refine r_val (v := .int .i64 (((a + 1 + b) * h : Nat) : Int)) ((v_mul (.inl rfl) (.inl rfl) (fun _ => by omega)).cast (int_eq (by simp))) rfl rfl (by decide) ?_
            refine r_val (v := .int _ _) (v_move (.inl rfl) (noOwn_flat rfl)) rfl rfl (by decide) ?_
            refine r_val (v := .int .i64 (((a + 1 + b) * h + j + 1 : Nat) : Int)) ((v_add (.inl rfl) (.inl rfl) (fun _ => by omega)).cast (int_eq (by omega))) rfl rfl (by decide) ?_
            refine r_val (v := .int _ _) (v_neg (.inl rfl) (fun _ => by omega)) rfl rfl (by decide) ?_
            refine r_new (v := .osl 1 (icells (pgX h j a (a + 1 + b))) 2 (some 2)) (q_sliceLit (n := 2) (parts := [(0, .tmp 70), (1, .tmp 76)]) lt39 rfl rfl rfl rfl) rfl rfl (by decide) ?_
            refine r_step rfl (o_callIOp (q := (6, [])) (vs := [.rp _ _, .rsl _ _ _ _ _]) (args := [.rp (INH, []) _, .sl _ _]) (cs0 := [.int _ _, .osl _ _ _ _]) (cs1 := [.int _ _, .osl _ _ _ _]) (res := .tup []) rfl hb62 rfl (by decide) ⟨.inl rfl, .inl rfl, trivial⟩ rfl (l2_eq rfl (sl_sh (ic_pure _))) (add_c (((p : Nat) : Int) * ((h : Nat) : Int)) (((pgR h p ++ pgC p h j) ++ pgH p h j a) ++ pgA h j a b) (pgX h j a (a + 1 + b)) (by simp; omega) (by simp [pgX])) rfl rfl rfl (by simp [noSh, noShL, osls_noSh]) (by simp [noRef, noRefL, osls_noRef]) (Nat.le_of_ble_eq_true rfl) (by decide) rfl) ?_
            refine r_nil ?_
            refine a_region ?_
            refine r_val (v := .int _ _) (v_move (.inl rfl) (noOwn_flat rfl)) rfl rfl (by decide) ?_
            refine r_val (v := .int _ _) (v_add (.inl rfl) (.inl rfl) (fun _ => by omega)) rfl rfl (by decide) ?_
            refine r_val (v := .int _ _) (v_assign (.inl rfl) (noOwn_flat rfl)) rfl rfl (by decide) ?_
            refine r_nil ?_
            refine ⟨b + 1, ent_look ⟨Weak.of_eq rfl, Weak.of_eq rfl, Weak.of_eq rfl, Weak.of_eq (by rw [pgA_succ, ← List.append_assoc]; rfl), Weak.of_eq rfl, Weak.of_eq rfl, Weak.of_eq rfl, Weak.of_eq rfl, Weak.of_eq (int_eq (by omega)), trivial⟩, (by omega), by omega⟩
          ·
            skip
            refine a_exit ?_
            have hbp : b = p - (a + 1) := (by simp at ht61; omega)
            refine a_region ?_
            refine r_val (v := .int _ _) (v_add (.inl rfl) (.inl rfl) (fun _ => by omega)) rfl rfl (by decide) ?_
            refine r_val (v := .int _ _) (v_move (.inl rfl) (noOwn_flat rfl)) rfl rfl (by decide) ?_
            refine r_nil ?_
            refine ⟨a + 1, ent_look ⟨Weak.of_eq rfl, Weak.of_eq rfl, Weak.of_eq rfl, Weak.of_eq (by rw [pgH_succ hbp, ← List.append_assoc]; rfl), Weak.of_eq rfl, Weak.of_eq rfl, Weak.of_eq (int_eq (by omega)), trivial⟩, (by omega), by omega⟩
        ·
          skip
          refine a_exit ?_
          have hap : a = p := (by simp at ht55; omega)
          refine a_region ?_
          refine r_val (v := .int _ _) (v_move (.inl rfl) (noOwn_flat rfl)) rfl rfl (by decide) ?_
          refine r_val (v := .int _ _) (v_add (.inl rfl) (.inl rfl) (fun _ => by omega)) rfl rfl (by decide) ?_
          refine r_val (v := .int _ _) (v_assign (.inl rfl) (noOwn_flat rfl)) rfl rfl (by decide) ?_
          refine r_nil ?_
          refine ⟨j + 1, ent_look ⟨Weak.of_eq rfl, Weak.of_eq rfl, Weak.of_eq rfl, Weak.of_eq (by rw [pgC_succ hap, ← List.append_assoc]; rfl), Weak.of_eq (int_eq (by omega)), trivial⟩, (by omega), by omega⟩
      ·
        skip
        refine a_exit ?_
        refine a_seq ?_
        have hjh : j = h := (by simp at ht50; omega)
        have hgd : goodB 144 (pgF ((p : Nat) : Int).toNat ((h : Nat) : Int).toNat) = true := (by rw [Int.toNat_natCast, Int.toNat_natCast]; exact pg_good p (by omega) h (by omega))
        have hcF : (pgR h p ++ pgC p h j) = (pgF ((p : Nat) : Int).toNat ((h : Nat) : Int).toNat) := (by rw [Int.toNat_natCast, Int.toNat_natCast, pgF_eq rfl hjh])
        have hrm := res_M (vars := (((p : Nat) : Int) * ((h : Nat) : Int))) (F := (pgF ((p : Nat) : Int).toNat ((h : Nat) : Int).toNat)) hin hgd
        refine a_region ?_
        refine r_val (v := .rp _ _) (v_move (.inl rfl) (noOwn_flat rfl)) rfl rfl (by decide) ?_
        refine r_step rfl (o_callIO (q := (6, [])) (vs := [.rp _ _]) (args := [.rp (INH, []) _]) (x0 := .op [.int _ _, .osl _ _ _ _]) (x1 := .undef) (res := .tup [.agg [.int _ _, .osl _ _ _ _], .bool _]) rfl hb63 rfl (by decide) ⟨.inl rfl, trivial⟩ rfl rfl (cnf_c (((p : Nat) : Int) * ((h : Nat) : Int)) (accM (pgR h p ++ pgC p h j)) (by rw [hcF]; exact goodB_okM (by omega) hgd)) rfl (by simp [noSh, noShL, osls_noSh]) (by simp [noRef, noRefL, osls_noRef]) rfl rfl (Nat.le_of_ble_eq_true rfl) (by decide) rfl) ?_
        refine r_val (v := .agg [.int _ _, .rsl _ _ _ _ _]) (v_extract rfl rfl) rfl rfl (by decide) ?_
        refine r_val (v := .bool _) (v_extract rfl rfl) rfl rfl (by decide) ?_
        refine r_pre (ent_reloc_at_sl (t := 82) (r := [1]) rfl (by decide) rfl rfl) ?_
        refine r_step rfl (o_store_own (v := .agg [.int _ _, .osl _ _ _ _]) (y' := .op [.int _ _, .osl _ _ _ _]) rfl rfl ta24 (.inl rfl) (by decide) rfl (by decide) rfl (by simp [cellsOf, noRefL, noRef, osls_noRef]) rfl rfl rfl rfl rfl (Nat.le_of_ble_eq_true rfl) rfl rfl) ?_
        refine r_val (v := .bool _) (v_assign (.inl rfl) (noOwn_flat rfl)) rfl rfl (by decide) ?_
        refine r_nil ?_
        refine a_ret ?_
        refine retL (rs := [.cell 4 24, .tmp 5]) [(4, _), (5, _)] ⟨Weak.rfl, Weak.rfl, trivial⟩ rfl Try.results27 (by decide) ⟨by decide, _, cell_agg rfl ta24, by decide, rfl⟩ (by decide) (by decide) (l2_eq (agg_eq (l2_eq (int_eq ?_) (osl_eq2 ?_ ?_))) (bool_eq ?_)) (by simp [refsL, refs])
        all_goals (rw [hcF])
        all_goals (first | rw [hrm.2] | rw [hrm.1])

end Go.Av
namespace Go.Av
open Go Go.Proofs Go.Sort
set_option maxRecDepth 10000
theorem hb15 : hasBody Try.prog 15 = true := by kernel_rfl
theorem hb16 : hasBody Try.prog 16 = true := by kernel_rfl
theorem hb51 : hasBody Try.prog 51 = true := by kernel_rfl
theorem hb52 : hasBody Try.prog 52 = true := by kernel_rfl
theorem hb53 : hasBody Try.prog 53 = true := by kernel_rfl
theorem hb88 : hasBody Try.prog 88 = true := by kernel_rfl

theorem l17Var_c (h i j : Nat) (hh : h ≤ 12) (hi : i ≤ 20) (hj : j ≤ 20) : ACall Try.prog 88 [.int .i64 ((h : Nat) : Int), .int .i64 ((i + 1 : Nat) : Int), .int .i64 ((j + 1 : Nat) : Int)] [] (.int .i64 ((i * h + j + 1 : Nat) : Int)) [] := by
  have hih : i * h ≤ 20 * 12 := Nat.mul_le_mul hi hh
  refine ACall.intro Try.func88 rfl (N := 13) rfl (by decide) (by simp) ?_
  refine a_seq ?_
  refine a_region ?_
  refine r_val (v := .int _ _) (v_assign (.inl rfl) (noOwn_flat rfl)) rfl rfl (by decide) ?_
  refine r_nil ?_
  refine a_seq ?_
  refine a_region ?_
  refine r_val (v := .int _ _) (v_move (.inl rfl) (noOwn_flat rfl)) rfl rfl (by decide) ?_
  refine r_val (v := .int .i64 ((i : Nat) : Int)) ((v_sub (.inl rfl) (.inl rfl) (fun _ => by omega)).cast (int_eq (by omega))) rfl rfl (by decide) ?_
  refine r_val (v := .int _ _) (v_move (.inl rfl) (noOwn_flat rfl)) rfl rfl (by decide) ?_
  refine r_val (v := .int .i64 ((i * h : Nat) : Int)) ((v_mul (.inl rfl) (.inl rfl) (fun _ => by omega)).cast (int_eq (by simp))) rfl rfl (by decide) ?_
  refine r_val (v := .int _ _) (v_move (.inl rfl) (noOwn_flat rfl)) rfl rfl (by decide) ?_
  refine r_val (v := .int .i64 ((i * h + j + 1 : Nat) : Int)) ((v_add (.inl rfl) (.inl rfl) (fun _ => by omega)).cast (int_eq (by omega))) rfl rfl (by decide) ?_
  refine r_val (v := .int _ _) (v_assign (.inl rfl) (noOwn_flat rfl)) rfl rfl (by decide) ?_
  refine r_nil ?_
  refine a_ret ?_
  refine ret1 Try.results88 (by decide) (by decide) (Weak.of_eq (int_eq ?_)) rfl Leaves.nil
  rfl

theorem l17Cnf_c (h p : Nat) (hp : p = h + 1) (hh : h ≤ 3) : ACall Try.prog 52 [.int .i64 ((h : Nat) : Int)] [] (.agg [.int .i64 (((h : Nat) : Int) * (((h : Nat) : Int) + 1)), .osl 1 (osls (pgF p h)) (pgF p h).length none]) [] := by
  have hph : 0 ≤ (((h : Nat) : Int) * (((h : Nat) : Int) + 1)) ∧ (((h : Nat) : Int) * (((h : Nat) : Int) + 1)) ≤ 12 := (by rcases (by omega : h = 0 ∨ h = 1 ∨ h = 2 ∨ h = 3) with rfl | rfl | rfl | rfl <;> decide)
  refine ACall.intro Try.func52 rfl (N := 77) rfl (by decide) (by simp) ?_
  refine a_seq ?_
  refine a_region ?_
  refine r_new (v := .op [.int _ _, .nils]) (q_alloc zc24) rfl rfl (by decide) ?_
  refine r_nil ?_
  refine a_seq ?_
  refine a_region ?_
  refine r_val (v := .int _ _) (v_move (.inl rfl) (noOwn_flat rfl)) rfl rfl (by decide) ?_
  refine r_val (v := .int _ _) (v_move (.inl rfl) (noOwn_flat rfl)) rfl rfl (by decide) ?_
  refine r_val (v := .int _ _) (v_add (.inl rfl) (.inl rfl) (fun _ => by omega)) rfl rfl (by decide) ?_
  refine r_val (v := .int _ _) (v_mul (.inl rfl) (.inl rfl) (fun _ => by omega)) rfl rfl (by decide) ?_
  refine r_new (v := .osl _ _ _ _) (q_sliceLit (n := 0) (parts := []) lt22 rfl rfl rfl rfl) rfl rfl (by decide) ?_
  refine r_pre (ent_eq (t := 14) (v' := .osl 1 [] 0 none) (Weak.osl rfl rfl)) ?_
  refine r_val (v := .agg [.int _ _, .rsl _ _ _ _ _]) (v_build sp24 rfl rfl) rfl rfl (by decide) ?_
  refine r_new (v := .op [.int _ _, .nils]) (q_alloc zc24) rfl rfl (by decide) ?_
  refine r_pre (ent_reloc_at_sl (t := 15) (r := [1]) rfl (by decide) rfl rfl) ?_
  refine r_step rfl (o_store_own (v := .agg [.int _ _, .osl _ _ _ _]) (y' := .op [.int _ _, .osl _ _ _ _]) rfl rfl ta24 (.inl rfl) (by decide) rfl (by decide) rfl rfl rfl rfl rfl rfl rfl (Nat.le_of_ble_eq_true rfl) rfl rfl) ?_
  refine r_nil ?_
  refine a_seq ?_
  refine a_seq ?_
  refine a_region ?_
  refine r_val (v := .int _ _) (v_assign (.inl rfl) (noOwn_flat rfl)) rfl rfl (by decide) ?_
  refine r_nil ?_
  refine a_block ?_
  refine a_loop (X := Nat) (fun k => look [(0, .int .i64 ((h : Nat) : Int)), (2, .op [.int .i64 0, .nils]), (3, .op [.int .i64 (((h : Nat) : Int) * (((h : Nat) : Int) + 1)), .osl 1 (osls ((pgR h k))) (pgR h k).length none]), (4, .int .i64 ((k + 1 : Nat) : Int))]) (fun k => k ≤ p) (fun k => p - k) 0 (ent_look ⟨Weak.of_eq rfl, Weak.of_eq rfl, Weak.of_eq rfl, Weak.of_eq rfl, trivial⟩) (Nat.zero_le _) (fun k hG => ?_)
  refine a_seq ?_
  refine a_seq ?_
  refine a_region ?_
  refine r_val (v := .int _ _) (v_move (.inl rfl) (noOwn_flat rfl)) rfl rfl (by decide) ?_
  refine r_val (v := .int _ _) (v_move (.inl rfl) (noOwn_flat rfl)) rfl rfl (by decide) ?_
  refine r_val (v := .int _ _) (v_add (.inl rfl) (.inl rfl) (fun _ => by omega)) rfl rfl (by decide) ?_
  refine r_val (v := .bool _) (v_leq (.inl rfl) (.inl rfl)) rfl rfl (by decide) ?_
  refine r_nil ?_
  refine a_cond rfl (fun ht19 => ?_) (fun ht19 => ?_)
  ·
    skip
    refine a_skip ?_
    refine a_seq ?_
    refine a_block ?_
    refine a_seq ?_
    have hk : k < p := (by simp at ht19; omega)
    refine a_region ?_
    refine r_new (v := .osl _ _ _ _) (q_sliceLit (n := 0) (parts := []) lt39 rfl rfl rfl rfl) rfl rfl (by decide) ?_
    refine r_val (v := .rsl _ _ _ _ _) (v_assign (.inl rfl) (noOwn_flat rfl)) rfl rfl (by decide) ?_
    refine r_pre (ent_reloc_sl (t := 5) rfl rfl) ?_
    refine r_nil ?_
    refine a_seq ?_
    refine a_seq ?_
    refine a_region ?_
    refine r_val (v := .int _ _) (v_assign (.inl rfl) (noOwn_flat rfl)) rfl rfl (by decide) ?_
    refine r_nil ?_
    refine a_block ?_
    refine a_loop (X := Nat) (fun j => look [(0, .int .i64 ((h : Nat) : Int)), (2, .op [.int .i64 0, .nils]), (3, .op [.int .i64 (((h : Nat) : Int) * (((h : Nat) : Int) + 1)), .osl 1 (osls ((pgR h k))) (pgR h k).length none]), (4, .int .i64 ((k + 1 : Nat) : Int)), (5, .osl 1 (icells (pgK h k j)) (pgK h k j).length none), (6, .int .i64 ((j + 1 : Nat) : Int))]) (fun j => j ≤ h) (fun j => h - j) 0 (ent_look ⟨Weak.of_eq rfl, Weak.of_eq rfl, Weak.of_eq rfl, Weak.of_eq rfl, Weak.osl rfl rfl, Weak.of_eq rfl, trivial⟩) (Nat.zero_le _) (fun j hG => ?_)
    refine a_seq ?_
    refine a_seq ?_
    refine a_region ?_
    refine r_val (v := .int _ _) (v_move (.inl rfl) (noOwn_flat rfl)) rfl rfl (by decide) ?_
    refine r_val (v := .int _ _) (v_move (.inl rfl) (noOwn_flat rfl)) rfl rfl (by decide) ?_
    refine r_val (v := .bool _) (v_leq (.inl rfl) (.inl rfl)) rfl rfl (by decide) ?_
    refine r_nil ?_
    refine a_cond rfl (fun ht25 => ?_) (fun ht25 => ?_)
    ·
      skip
      refine a_skip ?_
      refine a_seq ?_
      refine a_block ?_
      have hj2 : j < h := (by simp at ht25; omega)
      have hkl := pgK_len h k j
      refine a_region ?_
      refine r_val (v := .rsl _ _ _ _ _) (v_move (.inl rfl) (noOwn_flat rfl)) rfl rfl (by decide) ?_
      refine r_val (v := .int _ _) (v_move (.inl rfl) (noOwn_flat rfl)) rfl rfl (by decide) ?_
      refine r_val (v := .int _ _) (v_move (.inl rfl) (noOwn_flat rfl)) rfl rfl (by decide) ?_
      refine r_val (v := .int _ _) (v_move (.inl rfl) (noOwn_flat rfl)) rfl rfl (by decide) ?_
      refine r_new (v := .int _ _) (q_call (vs := [.int _ _, .int _ _, .int _ _]) (args := [.int .i64 _, .int .i64 _, .int .i64 _]) hb88 ⟨.inl rfl, .inl rfl, .inl rfl, trivial⟩ rfl (fun hA => l17Var_c h k j (by omega) (by omega) (by omega)) rfl rfl) rfl rfl (by decide) ?_
      refine r_new (v := .osl _ _ _ _) (q_sliceLit (n := 1) (parts := [(0, .tmp 32)]) lt39 rfl rfl rfl rfl) rfl rfl (by decide) ?_
      refine r_pre (ent_reloc_sl (t := 28) rfl rfl) ?_
      refine r_step rfl (o_append rfl ap39 rfl (by decide) (by decide) rfl (src_lit (.inl rfl) rfl rfl rfl) rfl (by simp [icells_length]) (by rw [pgK_len]; omega)) ?_
      refine r_val (v := .rsl _ _ _ _ _) (v_assign (.inl rfl) (noOwn_flat rfl)) rfl rfl (by decide) ?_
      refine r_pre (ent_reloc_sl (t := 5) rfl rfl) ?_
      refine r_nil ?_
      refine a_region ?_
      refine r_val (v := .int _ _) (v_move (.inl rfl) (noOwn_flat rfl)) rfl rfl (by decide) ?_
      refine r_val (v := .int _ _) (v_add (.inl rfl) (.inl rfl) (fun _ => by omega)) rfl rfl (by decide) ?_
      refine r_val (v := .int _ _) (v_assign (.inl rfl) (noOwn_flat rfl)) rfl rfl (by decide) ?_
      refine r_nil ?_
      refine ⟨j + 1, ent_look ⟨Weak.of_eq rfl, Weak.of_eq rfl, Weak.of_eq rfl, Weak.of_eq rfl, Weak.osl (by rw [pgK_succ, icells_append]; rfl) (by rw [pgK_succ, List.length_append]; rfl), Weak.of_eq (int_eq (by omega)), trivial⟩, (by omega), by omega⟩
    ·
      skip
      refine a_exit ?_
      have hj : j = h := (by simp at ht25; omega)
      have hl1 := pgR_len h k
      refine a_region ?_
      refine r_val (v := .rp _ _) (v_fieldAddr_rp fo24_1 (.inl rfl)) rfl rfl (by decide) ?_
      refine r_val (v := .rsl _ _ _ _ _) (v_load_rp (c := .osl _ _ _ _) ta22 (.inl rfl) rfl (fun _ => rfl)) rfl rfl (by decide) ?_
      refine r_val (v := .rsl _ _ _ _ _) (v_move (.inl rfl) (noOwn_flat rfl)) rfl rfl (by decide) ?_
      refine r_pre (ent_reloc_sl (t := 37) rfl rfl) ?_
      refine r_step rfl (o_sliceLit1 (v := .osl _ _ _ _) rfl lt22 rfl rfl (by decide) (by decide) rfl rfl (by simp [cellsOf, noRefL, noRef, ic_noRef]) rfl rfl) ?_
      refine r_pre (ent_reloc_sl (t := 36) rfl rfl) ?_
      refine r_step rfl (o_append_own rfl ap22 rfl (by decide) (by decide) (by decide) (by decide) rfl rfl rfl (by rw [osls_length]; omega) rfl (by omega)) ?_
      refine r_val (v := .rp _ _) (v_fieldAddr_rp fo24_1 (.inl rfl)) rfl rfl (by decide) ?_
      refine r_pre (ent_eq (t := 39) (v' := .osl 1 (osls (pgR h k ++ [pgK h k j])) (pgR h k ++ [pgK h k j]).length none) (Weak.osl (by rw [osls_append]; rfl) (by simp))) ?_
      refine r_step rfl (o_store_own (v := .osl _ _ _ _) (y' := .op [.int _ _, .osl _ _ _ _]) rfl rfl ta22 (.inl rfl) (by decide) rfl (by decide) rfl (by simp [cellsOf, noRefL, noRef, osls_noRef]) rfl rfl rfl rfl rfl (Nat.le_of_ble_eq_true rfl) rfl rfl) ?_
      refine r_nil ?_
      refine a_region ?_
      refine r_val (v := .int _ _) (v_move (.inl rfl) (noOwn_flat rfl)) rfl rfl (by decide) ?_
      refine r_val (v := .int _ _) (v_add (.inl rfl) (.inl rfl) (fun _ => by omega)) rfl rfl (by decide) ?_
      refine r_val (v := .int _ _) (v_assign (.inl rfl) (noOwn_flat rfl)) rfl rfl (by decide) ?_
      refine r_nil ?_
      refine ⟨k + 1, ent_look ⟨Weak.of_eq rfl, Weak.of_eq rfl, Weak.of_eq (by rw [pgR_succ hj]; rfl), Weak.of_eq (int_eq (by omega)), trivial⟩, (by omega), by omega⟩
  ·
    skip
    refine a_exit ?_
    refine a_seq ?_
    refine a_seq ?_
    have hkp : p = k := (by simp at ht19; omega)
    refine a_region ?_
    refine r_val (v := .int _ _) (v_assign (.inl rfl) (noOwn_flat rfl)) rfl rfl (by decide) ?_
    refine r_nil ?_
    refine a_block ?_
    refine a_loop (X := Nat) (fun j => look [(0, .int .i64 ((h : Nat) : Int)), (2, .op [.int .i64 0, .nils]), (3, .op [.int .i64 (((h : Nat) : Int) * (((h : Nat) : Int) + 1)), .osl 1 (osls ((pgR h p ++ pgC p h j))) (pgR h p ++ pgC p h j).length none]), (7, .int .i64 ((j + 1 : Nat) : Int))]) (fun j => j ≤ h) (fun j => h - j) 0 (ent_look ⟨Weak.of_eq rfl, Weak.of_eq rfl, Weak.of_eq (by rw [show pgC p h 0 = [] from rfl, List.append_nil, hkp]; rfl), Weak.of_eq rfl, trivial⟩) (Nat.zero_le _) (fun j hG => ?_)
    refine a_seq ?_
    refine a_seq ?_
    refine a_region ?_
    refine r_val (v := .int _ _) (v_move (.inl rfl) (noOwn_flat rfl)) rfl rfl (by decide) ?_
    refine r_val (v := .int _ _) (v_move (.inl rfl) (noOwn_flat rfl)) rfl rfl (by decide) ?_
    refine r_val (v := .bool _) (v_leq (.inl rfl) (.inl rfl)) rfl rfl (by decide) ?_
    refine r_nil ?_
    refine a_cond rfl (fun ht43 => ?_) (fun ht43 => ?_)
    ·
      skip
      refine a_skip ?_
      refine a_seq ?_
      refine a_block ?_
      refine a_seq ?_
      have hj2 : j < h := (by simp at ht43; omega)
      refine a_region ?_
      refine r_val (v := .int _ _) (v_assign (.inl rfl) (noOwn_flat rfl)) rfl rfl (by decide) ?_
      refine r_nil ?_
      refine a_block ?_
      refine a_loop (X := Nat) (fun a => look [(0, .int .i64 ((h : Nat) : Int)), (2, .op [.int .i64 0, .nils]), (3, .op [.int .i64 (((h : Nat) : Int) * (((h : Nat) : Int) + 1)), .osl 1 (osls (((pgR h p ++ pgC p h j) ++ pgH p h j a))) ((pgR h p ++ pgC p h j) ++ pgH p h j a).length none]), (7, .int .i64 ((j + 1 : Nat) : Int)), (8, .int .i64 ((a + 1 : Nat) : Int))]) (fun a => a ≤ p) (fun a => p - a) 0 (ent_look ⟨Weak.of_eq rfl, Weak.of_eq rfl, Weak.of_eq (by rw [show pgH p h j 0 = [] from rfl, List.append_nil]; rfl), Weak.of_eq rfl, Weak.of_eq rfl, trivial⟩) (Nat.zero_le _) (fun a hG => ?_)
      refine a_seq ?_
      refine a_seq ?_
      refine a_region ?_
      refine r_val (v := .int _ _) (v_move (.inl rfl) (noOwn_flat rfl)) rfl rfl (by decide) ?_
      refine r_val (v := .int _ _) (v_move (.inl rfl) (noOwn_flat rfl)) rfl rfl (by decide) ?_
      refine r_val (v := .int _ _) (v_add (.inl rfl) (.inl rfl) (fun _ => by omega)) rfl rfl (by decide) ?_
      refine r_val (v := .bool _) (v_leq (.inl rfl) (.inl rfl)) rfl rfl (by decide) ?_
      refine r_nil ?_
      refine a_cond rfl (fun ht49 => ?_) (fun ht49 => ?_)
      ·
        skip
        refine a_skip ?_
        refine a_seq ?_
        refine a_block ?_
        refine a_seq ?_
        have ha : a < p := (by simp at ht49; omega)
        refine a_region ?_
        refine r_val (v := .int _ _) (v_move (.inl rfl) (noOwn_flat rfl)) rfl rfl (by decide) ?_
        refine r_val (v := .int _ _) (v_add (.inl rfl) (.inl rfl) (fun _ => by omega)) rfl rfl (by decide) ?_
        refine r_val (v := .int _ _) (v_assign (.inl rfl) (noOwn_flat rfl)) rfl rfl (by decide) ?_
        refine r_nil ?_
        refine a_block ?_
        refine a_loop (X := Nat) (fun b => look [(0, .int .i64 ((h : Nat) : Int)), (2, .op [.int .i64 0, .nils]), (3, .op [.int .i64 (((h : Nat) : Int) * (((h : Nat) : Int) + 1)), .osl 1 (osls ((((pgR h p ++ pgC p h j) ++ pgH p h j a) ++ pgA h j a b))) (((pgR h p ++ pgC p h j) ++ pgH p h j a) ++ pgA h j a b).length none]), (7, .int .i64 ((j + 1 : Nat) : Int)), (8, .int .i64 ((a + 1 : Nat) : Int)), (9, .int .i64 ((a + 1 + b + 1 : Nat) : Int))]) (fun b => a + 1 + b ≤ p) (fun b => p - b) 0 (ent_look ⟨Weak.of_eq rfl, Weak.of_eq rfl, Weak.of_eq (by rw [show pgA h j a 0 = [] from rfl, List.append_nil]; rfl), Weak.of_eq rfl, Weak.of_eq rfl, Weak.of_eq rfl, trivial⟩) (by omega) (fun b hG => ?_)
        refine a_seq ?_
        refine a_seq ?_
        refine a_region ?_
        refine r_val (v := .int _ _) (v_move (.inl rfl) (noOwn_flat rfl)) rfl rfl (by decide) ?_
        refine r_val (v := .int _ _) (v_move (.inl rfl) (noOwn_flat rfl)) rfl rfl (by decide) ?_
        refine r_val (v := .int _ _) (v_add (.inl rfl) (.inl rfl) (fun _ => by omega)) rfl rfl (by decide) ?_
        refine r_val (v := .bool _) (v_leq (.inl rfl) (.inl rfl)) rfl rfl (by decide) ?_
        refine r_nil ?_
        refine a_cond rfl (fun ht57 => ?_) (fun ht57 => ?_)
        ·
          skip
          refine a_skip ?_
          refine a_seq ?_
          refine a_block ?_
          have hb : a + 1 + b < p := (by simp at ht57; omega)
          have hl1 := pgR_len h p
          have hl2 := pgC_len p h j
          have hl3 := pgH_len p h j a
          have hl4 := pgA_len h j a b
          have hb1 : p * p ≤ 12 * 12 := Nat.mul_le_mul (by omega) (by omega)
          have hb2 : (p * p) * j ≤ 144 * 12 := Nat.mul_le_mul (by omega) (by omega)
          have hb3 : p * a ≤ 12 * 12 := Nat.mul_le_mul (by omega) (by omega)
          have hq0 : a * h ≤ 12 * 12 := Nat.mul_le_mul (by omega) (by omega)
          have hq1 : (a + 1 + b) * h ≤ 12 * 12 := Nat.mul_le_mul (by omega) (by omega)
          refine a_region_z (n := 14) [[(60, true)], [(61, true)], [(62, true)], [(63, true)], [(64, true)], [(65, true)], [(66, true)], [(67, true)], [(68, true)], [(69, true)], [(70, true)], [(71, true)], [(72, true)], [(72, false), (73, true)]] mixed (by kernel_rfl) ?_
          refine z_val (v := .rp _ _) (v_fieldAddr_rp fo24_1 (.inl rfl)) rfl rfl (by decide) rfl (by kernel_rfl) ?_
          refine z_val (v := .rsl _ _ _ _ _) (v_load_rp (c := .osl _ _ _ _) ta22 (.inl rfl) rfl (fun _ => rfl)) rfl rfl (by decide) rfl (by kernel_rfl) ?_
          refine z_val (v := .int _ _) (v_move (.inl rfl) (noOwn_flat rfl)) rfl rfl (by decide) rfl (by kernel_rfl) ?_
          refine z_val (v := .int _ _) (v_move (.inl rfl) (noOwn_flat rfl)) rfl rfl (by decide) rfl (by kernel_rfl) ?_
          refine z_val (v := .int _ _) (v_move (.inl rfl) (noOwn_flat rfl)) rfl rfl (by decide) rfl (by kernel_rfl) ?_
          refine z_new (v := .int _ _) (q_call (vs := [.int _ _, .int _ _, .int _ _]) (args := [.int .i64 _, .int .i64 _, .int .i64 _]) hb88 ⟨.inl rfl, .inl rfl, .inl rfl, trivial⟩ rfl (fun hA => l17Var_c h a j (by omega) (by omega) (by omega)) rfl rfl) rfl rfl (by decide) rfl (by kernel_rfl) ?_
          refine z_val (v := .int _ _) (v_neg (.inl rfl) (fun _ => by omega)) rfl rfl (by decide) rfl (by kernel_rfl) ?_
          refine z_val (v := .int _ _) (v_move (.inl rfl) (noOwn_flat rfl)) rfl rfl (by decide) rfl (by kernel_rfl) ?_
          refine z_val (v := .int _ _) (v_move (.inl rfl) (noOwn_flat rfl)) rfl rfl (by decide) rfl (by kernel_rfl) ?_
          refine z_val (v := .int _ _) (v_move (.inl rfl) (noOwn_flat rfl)) rfl rfl (by decide) rfl (by kernel_rfl) ?_
          refine z_new (v := .int _ _) (q_call (vs := [.int _ _, .int _ _, .int _ _]) (args := [.int .i64 _, .int .i64 _, .int .i64 _]) hb88 ⟨.inl rfl, .inl rfl, .inl rfl, trivial⟩ rfl (fun hA => l17Var_c h (a + 1 + b) j (by omega) (by omega) (by omega)) rfl rfl) rfl rfl (by decide) rfl (by kernel_rfl) ?_
          refine z_val (v := .int _ _) (v_neg (.inl rfl) (fun _ => by omega)) rfl rfl (by decide) rfl (by kernel_rfl) ?_
          refine z_new (v := .osl 1 (icells (pgX h j a (a + 1 + b))) 2 (some 2)) (q_sliceLit (n := 2) (parts := [(0, .tmp 66), (1, .tmp 71)]) lt39 rfl rfl rfl rfl) rfl rfl (by decide) rfl (by kernel_rfl) ?_
          refine z_sliceLit1 (v := .osl _ _ _ _) rfl rfl lt22 rfl rfl (by decide) (by decide) (by decide) rfl rfl (by simp [cellsOf, noRefL, noRef, ic_noRef]) rfl rfl rfl (by kernel_rfl) ?_
          refine z_nil ?_
          refine r_pre (ent_reloc_sl (t := 61) rfl rfl) ?_
          refine r_step rfl (o_append_own rfl ap22 rfl (by decide) (by decide) (by decide) (by decide) rfl rfl rfl (by rw [osls_length]; omega) rfl (by simp; omega)) ?_
          refine r_val (v := .rp _ _) (v_fieldAddr_rp fo24_1 (.inl rfl)) rfl rfl (by decide) ?_
          refine r_pre (ent_eq (t := 74) (v' := .osl 1 (osls ((((pgR h p ++ pgC p h j) ++ pgH p h j a) ++ pgA h j a b) ++ [(pgX h j a (a + 1 + b))])) ((((pgR h p ++ pgC p h j) ++ pgH p h j a) ++ pgA h j a b) ++ [(pgX h j a (a + 1 + b))]).length none) (Weak.oslL (osls_more rfl) (osls_noRef _) (by simp; omega))) ?_
          refine r_step rfl (o_store_own (v := .osl _ _ _ _) (y' := .op [.int _ _, .osl _ _ _ _]) rfl rfl ta22 (.inl rfl) (by decide) rfl (by decide) rfl (by simp [cellsOf, noRefL, noRef, osls_noRef]) rfl rfl rfl rfl rfl (Nat.le_of_ble_eq_true rfl) rfl rfl) ?_
          refine r_nil ?_
          refine a_region ?_
          refine r_val (v := .int _ _) (v_move (.inl rfl) (noOwn_flat rfl)) rfl rfl (by decide) ?_
          refine r_val (v := .int _ _) (v_add (.inl rfl) (.inl rfl) (fun _ => by omega)) rfl rfl (by decide) ?_
          refine r_val (v := .int _ _) (v_assign (.inl rfl) (noOwn_flat rfl)) rfl rfl (by decide) ?_
          refine r_nil ?_
          refine ⟨b + 1, ent_look ⟨Weak.of_eq rfl, Weak.of_eq rfl, Weak.of_eq (by rw [pgA_succ, ← List.append_assoc]; rfl), Weak.of_eq rfl, Weak.of_eq rfl, Weak.of_eq (int_eq (by omega)), trivial⟩, (by omega), by omega⟩
        ·
          skip
          refine a_exit ?_
          have hbp : b = p - (a + 1) := (by simp at ht57; omega)
          refine a_region ?_
          refine r_val (v := .int _ _) (v_move (.inl rfl) (noOwn_flat rfl)) rfl rfl (by decide) ?_
          refine r_val (v := .int _ _) (v_add (.inl rfl) (.inl rfl) (fun _ => by omega)) rfl rfl (by decide) ?_
          refine r_val (v := .int _ _) (v_assign (.inl rfl) (noOwn_flat rfl)) rfl rfl (by decide) ?_
          refine r_nil ?_
          refine ⟨a + 1, ent_look ⟨Weak.of_eq rfl, Weak.of_eq rfl, Weak.of_eq (by rw [pgH_succ hbp, ← List.append_assoc]; rfl), Weak.of_eq rfl, Weak.of_eq (int_eq (by omega)), trivial⟩, (by omega), by omega⟩
      ·
        skip
        refine a_exit ?_
        have hap : a = p := (by simp at ht49; omega)
        refine a_region ?_
        refine r_val (v := .int _ _) (v_move (.inl rfl) (noOwn_flat rfl)) rfl rfl (by decide) ?_
        refine r_val (v := .int _ _) (v_add (.inl rfl) (.inl rfl) (fun _ => by omega)) rfl rfl (by decide) ?_
        refine r_val (v := .int _ _) (v_assign (.inl rfl) (noOwn_flat rfl)) rfl rfl (by decide) ?_
        refine r_nil ?_
        refine ⟨j + 1, ent_look ⟨Weak.of_eq rfl, Weak.of_eq rfl, Weak.of_eq (by rw [pgC_succ hap, ← List.append_assoc]; rfl), Weak.of_eq (int_eq (by omega)), trivial⟩, (by omega), by omega⟩
    ·
      skip
      refine a_exit ?_
      refine a_seq ?_
      have hjh : j = h := (by simp at ht43; omega)
      have hF := pgF_eq (p := p) (h := h) rfl hjh
      refine a_region ?_
      refine r_val (v := .agg [.int _ _, .rsl _ _ _ _ _]) (v_load_rpa (xs := [.int _ _, .osl _ _ _ _]) ta24 (.inl rfl) rfl rfl (fun _ => take_get rfl)) rfl rfl (by decide) ?_
      refine r_pre (ent_reloc_at_sl (t := 76) (r := [1]) rfl (by decide) rfl rfl) ?_
      refine r_step rfl (o_store_own (v := .agg [.int _ _, .osl _ _ _ _]) (y' := .op [.int _ _, .osl _ _ _ _]) rfl rfl ta24 (.inl rfl) (by decide) rfl (by decide) rfl (by simp [cellsOf, noRefL, noRef, osls_noRef]) rfl rfl rfl rfl rfl (Nat.le_of_ble_eq_true rfl) rfl rfl) ?_
      refine r_nil ?_
      refine a_ret ?_
      refine retC1 (r := .cell 2 24) Try.results52 ⟨by decide, _, cell_agg rfl ta24, rfl⟩ (by decide) (Weak.of_eq (agg_eq (l2_eq (int_eq ?_) (osl_eq2 ?_ ?_)))) rfl Leaves.nil
      all_goals (first | rfl | rw [hF])

theorem l17Holes_c (n : Int) : ACall Try.prog 51 [.int .i64 n] [] (.bool (inR n 1 3)) [] := by
  refine ACall.intro Try.func51 rfl (N := 5) rfl (by decide) (by simp) ?_
  refine a_seq ?_
  refine a_region ?_
  refine r_val (v := .bool _) (v_assign (.inl rfl) (noOwn_flat rfl)) rfl rfl (by decide) ?_
  refine r_nil ?_
  refine a_seq ?_
  refine a_region ?_
  refine r_val (v := .int _ _) (v_move (.inl rfl) (noOwn_flat rfl)) rfl rfl (by decide) ?_
  refine r_new (v := .bool _) (q_call (vs := [.int _ _, .int _ _, .int _ _]) (args := [.int .i64 _, .int .i64 _, .int .i64 _]) hb57 ⟨.inl rfl, .inl rfl, .inl rfl, trivial⟩ rfl (fun hA => l1In_c _ _ _) rfl rfl) rfl rfl (by decide) ?_
  refine r_val (v := .bool _) (v_assign (.inl rfl) (noOwn_flat rfl)) rfl rfl (by decide) ?_
  refine r_nil ?_
  refine a_ret ?_
  refine ret1 Try.results51 (by decide) (by decide) (Weak.of_eq (bool_eq ?_)) rfl Leaves.nil
  rfl

theorem holesOk_c (n : Int) : ACall Try.prog 53 [.int .i64 n] [] (.bool (inR n 1 3)) [] := by
  refine ACall.intro Try.func53 rfl (N := 5) rfl (by decide) (by simp) ?_
  refine a_seq ?_
  refine a_region ?_
  refine r_val (v := .bool _) (v_assign (.inl rfl) (noOwn_flat rfl)) rfl rfl (by decide) ?_
  refine r_nil ?_
  refine a_seq ?_
  refine a_region ?_
  refine r_val (v := .int _ _) (v_move (.inl rfl) (noOwn_flat rfl)) rfl rfl (by decide) ?_
  refine r_new (v := .bool _) (q_call (vs := [.int _ _, .int _ _, .int _ _]) (args := [.int .i64 _, .int .i64 _, .int .i64 _]) hb61 ⟨.inl rfl, .inl rfl, .inl rfl, trivial⟩ rfl (fun hA => within_c _ _ _) rfl rfl) rfl rfl (by decide) ?_
  refine r_val (v := .bool _) (v_assign (.inl rfl) (noOwn_flat rfl)) rfl rfl (by decide) ?_
  refine r_nil ?_
  refine a_ret ?_
  refine ret1 Try.results53 (by decide) (by decide) (Weak.of_eq (bool_eq ?_)) rfl Leaves.nil
  rfl

theorem sPigCnf_c (n : Int) : ACall Try.prog 15 [.int .i64 n] [] (.tup [.agg [.int .i64 (resV (inR n 1 3) (n * (n + 1))), .osl 1 (osls (resL (inR n 1 3) (pgF (n.toNat + 1) n.toNat))) (resL (inR n 1 3) (pgF (n.toNat + 1) n.toNat)).length none], .bool (inR n 1 3)]) [] := by
  refine ACall.intro Try.func15 rfl (N := 10) rfl (by decide) (by simp) ?_
  refine a_seq ?_
  refine a_region ?_
  refine r_new (v := .op [.int _ _, .nils]) (q_alloc zc24) rfl rfl (by decide) ?_
  refine r_val (v := .bool _) (v_assign (.inl rfl) (noOwn_flat rfl)) rfl rfl (by decide) ?_
  refine r_nil ?_
  refine a_seq ?_
  refine a_seq ?_
  refine a_region ?_
  refine r_val (v := .int _ _) (v_move (.inl rfl) (noOwn_flat rfl)) rfl rfl (by decide) ?_
  refine r_new (v := .bool _) (q_call (vs := [.int _ _]) (args := [.int .i64 _]) hb51 ⟨.inl rfl, trivial⟩ rfl (fun hA => l17Holes_c _) rfl rfl) rfl rfl (by decide) ?_
  refine r_val (v := .bool _) (v_not (.inl rfl)) rfl rfl (by decide) ?_
  refine r_nil ?_
  refine a_cond rfl (fun ht6 => ?_) (fun ht6 => ?_)
  ·
    skip
    refine a_seq ?_
    refine a_region ?_
    refine r_val (v := .agg [.int _ _, .nils]) (v_build sp24 rfl rfl) rfl rfl (by decide) ?_
    refine r_step rfl (o_store (v := .agg [.int _ _, .nils]) (y' := .op [.int _ _, .nils]) rfl rfl ta24 (.inl rfl) (.inl rfl) rfl rfl rfl rfl rfl rfl (Nat.le_of_ble_eq_true rfl) (by decide) rfl rfl) ?_
    refine r_val (v := .bool _) (v_assign (.inl rfl) (noOwn_flat rfl)) rfl rfl (by decide) ?_
    refine r_nil ?_
    refine a_pre (ent_nil_at (t := 2) (r := [1]) (sz := 1) rfl (.inl rfl) rfl rfl) ?_
    refine a_ret ?_
    refine retL (rs := [.cell 2 24, .tmp 3]) [(2, _), (3, _)] ⟨Weak.rfl, Weak.rfl, trivial⟩ rfl Try.results15 (by decide) ⟨by decide, _, cell_agg rfl ta24, by decide, rfl⟩ (by decide) (by decide) (l2_eq (agg_eq (l2_eq (int_eq ?_) (osl_eq2 ?_ ?_))) (bool_eq ?_)) (by simp [refsL, refs])
    all_goals (have hf : inR n 1 3 = false := (by simpa using ht6); simp [resV, resL, hf, osls])
  ·
    skip
    refine a_skip ?_
    refine a_seq ?_
    have hin : inR n 1 3 = true := (by simpa using ht6)
    have hn := inR_spec.1 hin
    obtain ⟨h, rfl⟩ := Int.eq_ofNat_of_zero_le (by omega : 0 ≤ n)
    refine a_region ?_
    refine r_val (v := .int _ _) (v_move (.inl rfl) (noOwn_flat rfl)) rfl rfl (by decide) ?_
    refine r_new (v := .agg [.int _ _, .osl _ _ _ _]) (q_call (vs := [.int _ _]) (args := [.int .i64 _]) hb52 ⟨.inl rfl, trivial⟩ rfl (fun hA => l17Cnf_c h (h + 1) rfl (by omega)) (by simp [noSh, noShL, osls_noSh]) (by simp [noRef, noRefL, osls_noRef])) rfl rfl (by decide) ?_
    refine r_step rfl (o_store_own (v := .agg [.int _ _, .osl _ _ _ _]) (y' := .op [.int _ _, .osl _ _ _ _]) rfl rfl ta24 (.inl rfl) (by decide) rfl (by decide) rfl (by simp [cellsOf, noRefL, noRef, osls_noRef]) rfl rfl rfl rfl rfl (Nat.le_of_ble_eq_true rfl) rfl rfl) ?_
    refine r_val (v := .bool _) (v_assign (.inl rfl) (noOwn_flat rfl)) rfl rfl (by decide) ?_
    refine r_nil ?_
    refine a_ret ?_
    refine retL (rs := [.cell 2 24, .tmp 3]) [(2, _), (3, _)] ⟨Weak.rfl, Weak.rfl, trivial⟩ rfl Try.results15 (by decide) ⟨by decide, _, cell_agg rfl ta24, by decide, rfl⟩ (by decide) (by decide) (l2_eq (agg_eq (l2_eq (int_eq ?_) (osl_eq2 ?_ ?_))) (bool_eq ?_)) (by simp [refsL, refs])
    all_goals (simp [resV, resL, hin, Int.toNat_natCast])

theorem iPigCnf_c (n : Int) : ACall Try.prog 16 [.int .i64 n] [] (.tup [.agg [.int .i64 (resV (inR n 1 3) (n * (n + 1))), .osl 1 (osls (resL (inR n 1 3) (pgF (n.toNat + 1) n.toNat))) (resL (inR n 1 3) (pgF (n.toNat + 1) n.toNat)).length none], .bool (inR n 1 3)]) [] := by
  refine ACall.intro Try.func16 rfl (N := 14) rfl (by decide) (by simp) ?_
  refine a_seq ?_
  refine a_region ?_
  refine r_new (v := .op [.int _ _, .nils]) (q_alloc zc24) rfl rfl (by decide) ?_
  refine r_val (v := .bool _) (v_assign (.inl rfl) (noOwn_flat rfl)) rfl rfl (by decide) ?_
  refine r_nil ?_
  refine a_seq ?_
  refine a_seq ?_
  refine a_region ?_
  refine r_val (v := .int _ _) (v_move (.inl rfl) (noOwn_flat rfl)) rfl rfl (by decide) ?_
  refine r_new (v := .bool _) (q_call (vs := [.int _ _]) (args := [.int .i64 _]) hb53 ⟨.inl rfl, trivial⟩ rfl (fun hA => holesOk_c _) rfl rfl) rfl rfl (by decide) ?_
  refine r_val (v := .bool _) (v_not (.inl rfl)) rfl rfl (by decide) ?_
  refine r_nil ?_
  refine a_cond rfl (fun ht6 => ?_) (fun ht6 => ?_)
  ·
    skip
    refine a_seq ?_
    refine a_region ?_
    refine r_val (v := .agg [.int _ _, .nils]) (v_build sp24 rfl rfl) rfl rfl (by decide) ?_
    refine r_step rfl (o_store (v := .agg [.int _ _, .nils]) (y' := .op [.int _ _, .nils]) rfl rfl ta24 (.inl rfl) (.inl rfl) rfl rfl rfl rfl rfl rfl (Nat.le_of_ble_eq_true rfl) (by decide) rfl rfl) ?_
    refine r_val (v := .bool _) (v_assign (.inl rfl) (noOwn_flat rfl)) rfl rfl (by decide) ?_
    refine r_nil ?_
    refine a_pre (ent_nil_at (t := 2) (r := [1]) (sz := 1) rfl (.inl rfl) rfl rfl) ?_
    refine a_ret ?_
    refine retL (rs := [.cell 2 24, .tmp 3]) [(2, _), (3, _)] ⟨Weak.rfl, Weak.rfl, trivial⟩ rfl Try.results16 (by decide) ⟨by decide, _, cell_agg rfl ta24, by decide, rfl⟩ (by decide) (by decide) (l2_eq (agg_eq (l2_eq (int_eq ?_) (osl_eq2 ?_ ?_))) (bool_eq ?_)) (by simp [refsL, refs])
    all_goals (have hf : inR n 1 3 = false := (by simpa using ht6); simp [resV, resL, hf, osls])
  ·
    skip
    refine a_skip ?_
    refine a_seq ?_
    have hin : inR n 1 3 = true := (by simpa using ht6)
    have hn := inR_spec.1 hin
    obtain ⟨h, rfl⟩ := Int.eq_ofNat_of_zero_le (by omega : 0 ≤ n)
    obtain ⟨hc, hL⟩ := (pigeon_ok h (by omega)).resolve_left (by omega)
    have hV := Int.mul_comm (((h : Nat) : Int) + 1) ((h : Nat) : Int)
    refine a_region ?_
    refine r_val (v := .int _ _) (v_move (.inl rfl) (noOwn_flat rfl)) rfl rfl (by decide) ?_
    refine r_val (v := .int _ _) (v_add (.inl rfl) (.inl rfl) (fun _ => by omega)) rfl rfl (by decide) ?_
    refine r_val (v := .int _ _) (v_move (.inl rfl) (noOwn_flat rfl)) rfl rfl (by decide) ?_
    refine r_new (v := .tup [.agg [.int _ _, .osl _ _ _ _], .bool _]) (q_call (vs := [.int _ _, .int _ _]) (args := [.int .i64 _, .int .i64 _]) hb27 ⟨.inl rfl, .inl rfl, trivial⟩ rfl (fun hA => iPig_c _ _) (by simp [noSh, noShL, osls_noSh]) (by simp [noRef, noRefL, osls_noRef])) rfl rfl (by decide) ?_
    refine r_val (v := .agg [.int _ _, .rsl _ _ _ _ _]) (v_extract rfl rfl) rfl rfl (by decide) ?_
    refine r_val (v := .bool _) (v_extract rfl rfl) rfl rfl (by decide) ?_
    refine r_pre (ent_reloc_at_sl (t := 12) (r := [1]) rfl (by decide) rfl rfl) ?_
    refine r_step rfl (o_store_own (v := .agg [.int _ _, .osl _ _ _ _]) (y' := .op [.int _ _, .osl _ _ _ _]) rfl rfl ta24 (.inl rfl) (by decide) rfl (by decide) rfl (by simp [cellsOf, noRefL, noRef, osls_noRef]) rfl rfl rfl rfl rfl (Nat.le_of_ble_eq_true rfl) rfl rfl) ?_
    refine r_val (v := .bool _) (v_assign (.inl rfl) (noOwn_flat rfl)) rfl rfl (by decide) ?_
    refine r_nil ?_
    refine a_ret ?_
    refine retL (rs := [.cell 2 24, .tmp 3]) [(2, _), (3, _)] ⟨Weak.rfl, Weak.rfl, trivial⟩ rfl Try.results16 (by decide) ⟨by decide, _, cell_agg rfl ta24, by decide, rfl⟩ (by decide) (by decide) (l2_eq (agg_eq (l2_eq (int_eq ?_) (osl_eq2 ?_ ?_))) (bool_eq ?_)) (by simp [refsL, refs])
    all_goals (first | rw [hc, hL] | rw [hc, hV] | rw [hc])

theorem lawPigeonCnf_c (n : Int) : ACall Try.prog 3 [.int .i64 n] [] (.bool true) [] := by
  have hr := pigeon_len n
  have hrl := fun i => len_tot (L := resL (inR n 1 3) (pgF (n.toNat + 1) n.toNat)) (i := i)
  refine ACall.intro Try.func3 rfl (N := 63) rfl (by decide) (by simp) ?_
  refine a_seq ?_
  refine a_region ?_
  refine r_val (v := .bool _) (v_assign (.inl rfl) (noOwn_flat rfl)) rfl rfl (by decide) ?_
  refine r_nil ?_
  refine a_seq ?_
  refine a_region ?_
  refine r_val (v := .int _ _) (v_move (.inl rfl) (noOwn_flat rfl)) rfl rfl (by decide) ?_
  refine r_new (v := .tup [.agg [.int _ _, .osl _ _ _ _], .bool _]) (q_call (vs := [.int _ _]) (args := [.int .i64 _]) hb15 ⟨.inl rfl, trivial⟩ rfl (fun hA => sPigCnf_c _) (by simp [noSh, noShL, osls_noSh]) (by simp [noRef, noRefL, osls_noRef])) rfl rfl (by decide) ?_
  refine r_val (v := .tup [.agg [.int _ _, .rsl _ _ _ _ _], .bool _]) (v_mv rfl) rfl rfl (by decide) ?_
  refine r_val (v := .agg [.int _ _, .rsl _ _ _ _ _]) (v_extract rfl rfl) rfl rfl (by decide) ?_
  refine r_val (v := .bool _) (v_extract rfl rfl) rfl rfl (by decide) ?_
  refine r_new (v := .op [.int _ _, .nils]) (q_alloc zc24) rfl rfl (by decide) ?_
  refine r_pre (ent_reloc_at_sl (t := 14) (r := [1]) rfl (by decide) rfl rfl) ?_
  refine r_step rfl (o_store_own (v := .agg [.int _ _, .osl _ _ _ _]) (y' := .op [.int _ _, .osl _ _ _ _]) rfl rfl ta24 (.inl rfl) (by decide) rfl (by decide) rfl (by simp [cellsOf, noRefL, noRef, osls_noRef]) rfl rfl rfl rfl rfl (Nat.le_of_ble_eq_true rfl) rfl rfl) ?_
  refine r_val (v := .bool _) (v_assign (.inl rfl) (noOwn_flat rfl)) rfl rfl (by decide) ?_
  refine r_nil ?_
  refine a_seq ?_
  refine a_region ?_
  refine r_val (v := .int _ _) (v_move (.inl rfl) (noOwn_flat rfl)) rfl rfl (by decide) ?_
  refine r_new (v := .tup [.agg [.int _ _, .osl _ _ _ _], .bool _]) (q_call (vs := [.int _ _]) (args := [.int .i64 _]) hb16 ⟨.inl rfl, trivial⟩ rfl (fun hA => iPigCnf_c _) (by simp [noSh, noShL, osls_noSh]) (by simp [noRef, noRefL, osls_noRef])) rfl rfl (by decide) ?_
  refine r_val (v := .tup [.agg [.int _ _, .rsl _ _ _ _ _], .bool _]) (v_mv rfl) rfl rfl (by decide) ?_
  refine r_val (v := .agg [.int _ _, .rsl _ _ _ _ _]) (v_extract rfl rfl) rfl rfl (by decide) ?_
  refine r_val (v := .bool _) (v_extract rfl rfl) rfl rfl (by decide) ?_
  refine r_new (v := .op [.int _ _, .nils]) (q_alloc zc24) rfl rfl (by decide) ?_
  refine r_pre (ent_reloc_at_sl (t := 19) (r := [1]) rfl (by decide) rfl rfl) ?_
  refine r_step rfl (o_store_own (v := .agg [.int _ _, .osl _ _ _ _]) (y' := .op [.int _ _, .osl _ _ _ _]) rfl rfl ta24 (.inl rfl) (by decide) rfl (by decide) rfl (by simp [cellsOf, noRefL, noRef, osls_noRef]) rfl rfl rfl rfl rfl (Nat.le_of_ble_eq_true rfl) rfl rfl) ?_
  refine r_val (v := .bool _) (v_assign (.inl rfl) (noOwn_flat rfl)) rfl rfl (by decide) ?_
  refine r_nil ?_
  refine a_seq ?_
  refine a_seq ?_
  refine a_region ?_
  refine r_val (v := .agg [.int _ _, .rsl _ _ _ _ _]) (v_load_rpa (xs := [.int _ _, .osl _ _ _ _]) ta24 (.inl rfl) rfl rfl (fun _ => take_get rfl)) rfl rfl (by decide) ?_
  refine r_val (v := .agg [.int _ _, .rsl _ _ _ _ _]) (v_load_rpa (xs := [.int _ _, .osl _ _ _ _]) ta24 (.inl rfl) rfl rfl (fun _ => take_get rfl)) rfl rfl (by decide) ?_
  refine r_new (v := .bool _) (q_call (vs := [.agg [.int _ _, .rsl _ _ _ _ _], .agg [.int _ _, .rsl _ _ _ _ _]]) (args := [.agg [.int .i64 _, .sl _ _], .agg [.int .i64 _, .sl _ _]]) hb17 ⟨.inl rfl, .inl rfl, trivial⟩ (l2_eq (agg_eq (l2_eq rfl sl_osls)) (agg_eq (l2_eq rfl sl_osls))) (fun hA => eqCnf_c _ _ _ _ (by omega) (by omega) (fun i => by have := hrl i; omega)) rfl rfl) rfl rfl (by decide) ?_
  refine r_val (v := .bool _) (v_not (.inl rfl)) rfl rfl (by decide) ?_
  refine r_val (v := .bool _) (v_move (.inl rfl) (noOwn_flat rfl)) rfl rfl (by decide) ?_
  refine r_gval (v := .bool _) (v_move (.inl rfl) (noOwn_flat rfl)) rfl rfl rfl (by decide) (.inl ⟨_, rfl, rfl⟩) rfl (by decide) ?_
  refine r_gval (v := .bool _) (v_move (.inl rfl) (noOwn_flat rfl)) rfl rfl rfl (by decide) (.inl ⟨_, rfl, rfl⟩) rfl (by decide) ?_
  refine r_gval (v := .bool _) (v_bne un4 (.inr ⟨_, rfl, fun h => h⟩) (.inr ⟨_, rfl, fun h => h⟩)) rfl rfl rfl (by decide) (.inl ⟨_, rfl, rfl⟩) rfl (by decide) ?_
  refine r_val (v := .bool _) (v_pick (.inl rfl) (.inl rfl) (.inr ⟨_, rfl, fun h h2 => by simp_all⟩)) rfl rfl (by decide) ?_
  refine r_nil ?_
  refine a_cond rfl (fun ht29 => ?_) (fun ht29 => ?_)
  ·
    skip
    refine a_seq ?_
    refine a_region ?_
    refine r_val (v := .bool _) (v_assign (.inl rfl) (noOwn_flat rfl)) rfl rfl (by decide) ?_
    refine r_nil ?_
    refine a_ret ?_
    refine ret1 Try.results3 (by decide) (by decide) (Weak.of_eq (bool_eq ?_)) rfl Leaves.nil
    first | rfl | (exfalso; simp at ht29; done) | (exfalso; simp at ht29; omega)
  ·
    skip
    refine a_skip ?_
    refine a_seq ?_
    refine a_region ?_
    refine r_val (v := .int _ _) (v_assign (.inl rfl) (noOwn_flat rfl)) rfl rfl (by decide) ?_
    refine r_nil ?_
    refine a_seq ?_
    refine a_region ?_
    refine r_val (v := .agg [.int _ _, .rsl _ _ _ _ _]) (v_load_rpa (xs := [.int _ _, .osl _ _ _ _]) ta24 (.inl rfl) rfl rfl (fun _ => take_get rfl)) rfl rfl (by decide) ?_
    refine r_val (v := .int _ _) (v_move (.inl rfl) (noOwn_flat rfl)) rfl rfl (by decide) ?_
    refine r_step rfl (o_callIO (q := (5, [1])) (vs := [.agg [.int _ _, .rsl _ _ _ _ _], .int _ _]) (args := [.agg [.int .i64 _, .rsl (INH, []) _ _ _ _], .int .i64 _]) (x0 := .osl _ _ _ _) (x1 := .osl _ _ _ _) (res := .int _ _) rfl hb18 rfl (by decide) ⟨.inl rfl, .inl rfl, trivial⟩ rfl rfl (markCnf_c _ _ _ (by omega) (by omega) (by omega)) rfl rfl rfl (osls_noSh _) (osls_noRef _) (Nat.le_of_ble_eq_true rfl) (by decide) rfl) ?_
    refine r_val (v := .int _ _) (v_assign (.inl rfl) (noOwn_flat rfl)) rfl rfl (by decide) ?_
    refine r_nil ?_
    refine a_seq ?_
    refine a_pre (ent_look (L := [(0, .int _ _), (2, .bool _), (3, .op [.int _ _, .osl _ _ _ _]), (4, .bool _), (5, .op [.int _ _, .osl _ _ _ _]), (7, .int _ _)]) ⟨Weak.rfl, Weak.rfl, Weak.rfl, Weak.rfl, Weak.rfl, Weak.rfl, trivial⟩) ?_
    refine a_region ?_
    refine r_val (v := .int _ _) (v_assign (.inl rfl) (noOwn_flat rfl)) rfl rfl (by decide) ?_
    refine r_nil ?_
    refine a_seq ?_
    refine a_region ?_
    refine r_val (v := .agg [.int _ _, .rsl _ _ _ _ _]) (v_load_rpa (xs := [.int _ _, .osl _ _ _ _]) ta24 (.inl rfl) rfl rfl (fun _ => take_get rfl)) rfl rfl (by decide) ?_
    refine r_val (v := .int _ _) (v_move (.inl rfl) (noOwn_flat rfl)) rfl rfl (by decide) ?_
    refine r_new (v := .int _ _) (q_call (vs := [.agg [.int _ _, .rsl _ _ _ _ _], .int _ _]) (args := [.agg [.int .i64 _, .sl _ _], .int .i64 _]) hb19 ⟨.inl rfl, .inl rfl, trivial⟩ (l2_eq (agg_eq (l2_eq rfl sl_osls)) rfl) (fun hA => heldCnf_c _ _ _ (by omega) (by omega) (by omega)) rfl rfl) rfl rfl (by decide) ?_
    refine r_val (v := .int _ _) (v_assign (.inl rfl) (noOwn_flat rfl)) rfl rfl (by decide) ?_
    refine r_nil ?_
    refine a_seq ?_
    refine a_seq ?_
    refine a_region ?_
    refine r_val (v := .int _ _) (v_move (.inl rfl) (noOwn_flat rfl)) rfl rfl (by decide) ?_
    refine r_val (v := .bool _) (v_lss (.inl rfl) (.inl rfl)) rfl rfl (by decide) ?_
    refine r_nil ?_
    refine a_cond rfl (fun ht37 => ?_) (fun ht37 => ?_)
    ·
      skip
      refine a_seq ?_
      refine a_region ?_
      refine r_val (v := .bool _) (v_assign (.inl rfl) (noOwn_flat rfl)) rfl rfl (by decide) ?_
      refine r_nil ?_
      refine a_ret ?_
      refine ret1 Try.results3 (by decide) (by decide) (Weak.of_eq (bool_eq ?_)) rfl Leaves.nil
      first | rfl | (exfalso; simp at ht37; done) | (exfalso; simp at ht37; omega)
    ·
      skip
      refine a_skip ?_
      refine a_seq ?_
      refine a_seq ?_
      refine a_region ?_
      refine r_val (v := .int _ _) (v_move (.inl rfl) (noOwn_flat rfl)) rfl rfl (by decide) ?_
      refine r_val (v := .int _ _) (v_move (.inl rfl) (noOwn_flat rfl)) rfl rfl (by decide) ?_
      refine r_val (v := .bool _) (v_neq (.inl rfl) (.inl rfl)) rfl rfl (by decide) ?_
      refine r_nil ?_
      refine a_cond rfl (fun ht40 => ?_) (fun ht40 => ?_)
      ·
        skip
        refine a_seq ?_
        refine a_region ?_
        refine r_val (v := .bool _) (v_assign (.inl rfl) (noOwn_flat rfl)) rfl rfl (by decide) ?_
        refine r_nil ?_
        refine a_ret ?_
        refine ret1 Try.results3 (by decide) (by decide) (Weak.of_eq (bool_eq ?_)) rfl Leaves.nil
        first | rfl | (exfalso; simp at ht40; done) | (exfalso; simp at ht40; omega)
      ·
        skip
        refine a_skip ?_
        refine a_seq ?_
        refine a_region ?_
        refine r_val (v := .int _ _) (v_move (.inl rfl) (noOwn_flat rfl)) rfl rfl (by decide) ?_
        refine r_new (v := .tup [.agg [.int _ _, .osl _ _ _ _], .bool _]) (q_call (vs := [.int _ _]) (args := [.int .i64 _]) hb16 ⟨.inl rfl, trivial⟩ rfl (fun hA => iPigCnf_c _) (by simp [noSh, noShL, osls_noSh]) (by simp [noRef, noRefL, osls_noRef])) rfl rfl (by decide) ?_
        refine r_val (v := .tup [.agg [.int _ _, .rsl _ _ _ _ _], .bool _]) (v_mv rfl) rfl rfl (by decide) ?_
        refine r_val (v := .agg [.int _ _, .rsl _ _ _ _ _]) (v_extract rfl rfl) rfl rfl (by decide) ?_
        refine r_val (v := .bool _) (v_extract rfl rfl) rfl rfl (by decide) ?_
        refine r_new (v := .op [.int _ _, .nils]) (q_alloc zc24) rfl rfl (by decide) ?_
        refine r_pre (ent_reloc_at_sl (t := 44) (r := [1]) rfl (by decide) rfl rfl) ?_
        refine r_step rfl (o_store_own (v := .agg [.int _ _, .osl _ _ _ _]) (y' := .op [.int _ _, .osl _ _ _ _]) rfl rfl ta24 (.inl rfl) (by decide) rfl (by decide) rfl (by simp [cellsOf, noRefL, noRef, osls_noRef]) rfl rfl rfl rfl rfl (Nat.le_of_ble_eq_true rfl) rfl rfl) ?_
        refine r_val (v := .bool _) (v_assign (.inl rfl) (noOwn_flat rfl)) rfl rfl (by decide) ?_
        refine r_nil ?_
        refine a_seq ?_
        refine a_seq ?_
        refine a_region ?_
        refine r_val (v := .agg [.int _ _, .rsl _ _ _ _ _]) (v_load_rpa (xs := [.int _ _, .osl _ _ _ _]) ta24 (.inl rfl) rfl rfl (fun _ => take_get rfl)) rfl rfl (by decide) ?_
        refine r_val (v := .agg [.int _ _, .rsl _ _ _ _ _]) (v_load_rpa (xs := [.int _ _, .osl _ _ _ _]) ta24 (.inl rfl) rfl rfl (fun _ => take_get rfl)) rfl rfl (by decide) ?_
        refine r_new (v := .bool _) (q_call (vs := [.agg [.int _ _, .rsl _ _ _ _ _], .agg [.int _ _, .rsl _ _ _ _ _]]) (args := [.agg [.int .i64 _, .sl _ _], .agg [.int .i64 _, .sl _ _]]) hb17 ⟨.inl rfl, .inl rfl, trivial⟩ (l2_eq (agg_eq (l2_eq rfl sl_osls)) (agg_eq (l2_eq rfl sl_osls))) (fun hA => eqCnf_c _ _ _ _ (by omega) (by omega) (fun i => by have := hrl i; omega)) rfl rfl) rfl rfl (by decide) ?_
        refine r_val (v := .bool _) (v_not (.inl rfl)) rfl rfl (by decide) ?_
        refine r_val (v := .bool _) (v_move (.inl rfl) (noOwn_flat rfl)) rfl rfl (by decide) ?_
        refine r_gval (v := .bool _) (v_move (.inl rfl) (noOwn_flat rfl)) rfl rfl rfl (by decide) (.inl ⟨_, rfl, rfl⟩) rfl (by decide) ?_
        refine r_gval (v := .bool _) (v_move (.inl rfl) (noOwn_flat rfl)) rfl rfl rfl (by decide) (.inl ⟨_, rfl, rfl⟩) rfl (by decide) ?_
        refine r_gval (v := .bool _) (v_bne un4 (.inr ⟨_, rfl, fun h => h⟩) (.inr ⟨_, rfl, fun h => h⟩)) rfl rfl rfl (by decide) (.inl ⟨_, rfl, rfl⟩) rfl (by decide) ?_
        refine r_val (v := .bool _) (v_pick (.inl rfl) (.inl rfl) (.inr ⟨_, rfl, fun h h2 => by simp_all⟩)) rfl rfl (by decide) ?_
        refine r_nil ?_
        refine a_cond rfl (fun ht54 => ?_) (fun ht54 => ?_)
        ·
          skip
          refine a_seq ?_
          refine a_pre (ent_look (L := [(2, .bool _), (5, .op [.int _ _, .osl _ _ _ _]), (7, .int _ _), (8, .int _ _)]) ⟨Weak.rfl, Weak.rfl, Weak.rfl, Weak.rfl, trivial⟩) ?_
          refine a_region ?_
          refine r_val (v := .bool _) (v_assign (.inl rfl) (noOwn_flat rfl)) rfl rfl (by decide) ?_
          refine r_nil ?_
          refine a_ret ?_
          refine ret1 Try.results3 (by decide) (by decide) (Weak.of_eq (bool_eq ?_)) rfl Leaves.nil
          first | rfl | (exfalso; simp at ht54; done) | (exfalso; simp at ht54; omega)
        ·
          skip
          refine a_skip ?_
          refine a_seq ?_
          refine a_pre (ent_look (L := [(2, .bool _), (5, .op [.int _ _, .osl _ _ _ _]), (7, .int _ _), (8, .int _ _)]) ⟨Weak.rfl, Weak.rfl, Weak.rfl, Weak.rfl, trivial⟩) ?_
          refine a_region ?_
          refine r_val (v := .int _ _) (v_assign (.inl rfl) (noOwn_flat rfl)) rfl rfl (by decide) ?_
          refine r_nil ?_
          refine a_seq ?_
          refine a_region ?_
          refine r_val (v := .agg [.int _ _, .rsl _ _ _ _ _]) (v_load_rpa (xs := [.int _ _, .osl _ _ _ _]) ta24 (.inl rfl) rfl rfl (fun _ => take_get rfl)) rfl rfl (by decide) ?_
          refine r_val (v := .int _ _) (v_move (.inl rfl) (noOwn_flat rfl)) rfl rfl (by decide) ?_
          refine r_new (v := .int _ _) (q_call (vs := [.agg [.int _ _, .rsl _ _ _ _ _], .int _ _]) (args := [.agg [.int .i64 _, .sl _ _], .int .i64 _]) hb19 ⟨.inl rfl, .inl rfl, trivial⟩ (l2_eq (agg_eq (l2_eq rfl sl_osls)) rfl) (fun hA => heldCnf_c _ _ _ (by omega) (by omega) (by omega)) rfl rfl) rfl rfl (by decide) ?_
          refine r_val (v := .int _ _) (v_assign (.inl rfl) (noOwn_flat rfl)) rfl rfl (by decide) ?_
          refine r_nil ?_
          refine a_seq ?_
          refine a_seq ?_
          refine a_region ?_
          refine r_val (v := .int _ _) (v_move (.inl rfl) (noOwn_flat rfl)) rfl rfl (by decide) ?_
          refine r_val (v := .bool _) (v_lss (.inl rfl) (.inl rfl)) rfl rfl (by decide) ?_
          refine r_nil ?_
          refine a_cond rfl (fun ht59 => ?_) (fun ht59 => ?_)
          ·
            skip
            refine a_seq ?_
            refine a_region ?_
            refine r_val (v := .bool _) (v_assign (.inl rfl) (noOwn_flat rfl)) rfl rfl (by decide) ?_
            refine r_nil ?_
            refine a_ret ?_
            refine ret1 Try.results3 (by decide) (by decide) (Weak.of_eq (bool_eq ?_)) rfl Leaves.nil
            first | rfl | (exfalso; simp at ht59; done) | (exfalso; simp at ht59; omega)
          ·
            skip
            refine a_skip ?_
            refine a_seq ?_
            refine a_seq ?_
            refine a_region ?_
            refine r_val (v := .int _ _) (v_move (.inl rfl) (noOwn_flat rfl)) rfl rfl (by decide) ?_
            refine r_val (v := .int _ _) (v_move (.inl rfl) (noOwn_flat rfl)) rfl rfl (by decide) ?_
            refine r_val (v := .bool _) (v_neq (.inl rfl) (.inl rfl)) rfl rfl (by decide) ?_
            refine r_nil ?_
            refine a_cond rfl (fun ht62 => ?_) (fun ht62 => ?_)
            ·
              skip
              refine a_seq ?_
              refine a_region ?_
              refine r_val (v := .bool _) (v_assign (.inl rfl) (noOwn_flat rfl)) rfl rfl (by decide) ?_
              refine r_nil ?_
              refine a_ret ?_
              refine ret1 Try.results3 (by decide) (by decide) (Weak.of_eq (bool_eq ?_)) rfl Leaves.nil
              first | rfl | (exfalso; simp at ht62; done) | (exfalso; simp at ht62; omega)
            ·
              skip
              refine a_skip ?_
              refine a_seq ?_
              refine a_region ?_
              refine r_val (v := .bool _) (v_assign (.inl rfl) (noOwn_flat rfl)) rfl rfl (by decide) ?_
              refine r_nil ?_
              refine a_ret ?_
              refine ret1 Try.results3 (by decide) (by decide) (Weak.of_eq (bool_eq ?_)) rfl Leaves.nil
              first | rfl | (exfalso; simp at ht62; done) | (exfalso; simp at ht62; omega)
end Go.Av
namespace Go.Av
open Go Go.Proofs Go.Proofs.Ytikaemjgmahnbaa
set_option maxRecDepth 100000
theorem arg3 : OpensV Try.prog 3 (fun x : Int => AV.int .i64 x) (fun x => (Lit.int .i64 x).wf = true) :=
  opensV_one (ok_scalar (by rw [Try.underlying3])) (opens_int Try.underlying3) (fun _ => rfl)
theorem rowOwn : ownKnob Try.prog.godebug = none := by kernel_rfl
theorem rowLaid : laidOutB Try.prog = true := by kernel_rfl
end Go.Av
