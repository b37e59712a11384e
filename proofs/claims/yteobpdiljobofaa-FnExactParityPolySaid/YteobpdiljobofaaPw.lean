/- A polynomial with given values: the sums over subsets. -/
import Derived.Test.YteobpdiljobofaaPv
set_option linter.unusedVariables false
set_option linter.unusedSimpArgs false
namespace Go.Av
open Go
def vals (p : Int) (xs : List Int) : Bool := (List.range xs.length).all fun i => inR (gd xs i) 0 (p - 1)
def valB (p vars : Int) (xs : List Int) : Bool := prime p vars && (decide (xs.length = dn vars) && vals p xs)
theorem vals_any {p : Int} {xs : List Int} : (List.range xs.length).any (fun i => !inR (gd xs i) 0 (p - 1)) = !vals p xs := by
  unfold vals; rw [List.not_all_eq_any_not]
theorem vals_false {p : Int} {xs : List Int} {i : Nat} (hi : i < xs.length) (h : inR (gd xs i) 0 (p - 1) = false) : vals p xs = false := by
  unfold vals; rw [List.all_eq_false]; exact ⟨i, by simpa using hi, by simp [h]⟩
theorem vals_true {p : Int} {xs : List Int} (h : ∀ j, j < xs.length → inR (gd xs j) 0 (p - 1) = true) : vals p xs = true := by
  unfold vals; rw [List.all_eq_true]; intro i hi; exact h i (by simpa using hi)
theorem vals_bd {p : Int} {xs : List Int} (hp : 1 ≤ p) (h : vals p xs = true) : Bd p xs := fun m => by
  rcases Nat.lt_or_ge m xs.length with hm | hm
  · simp only [vals, List.all_eq_true, List.mem_range] at h
    have := inR_spec.1 (h m hm); omega
  · have : gd xs m = 0 := by simp [gd, hm]
    omega
/-- The powers of two. -/
def pw (i : Nat) : Nat := 2 ^ i
theorem pw_zero : pw 0 = 1 := rfl
theorem pw_succ (i : Nat) : pw (i + 1) = pw i * 2 := Nat.pow_succ _ _
theorem pw_pos (i : Nat) : 1 ≤ pw i := Nat.one_le_two_pow
theorem pw_dn (vars : Int) : dn vars = pw vars.toNat := rfl
theorem pw_lt {i j : Nat} (h : pw i < pw j) : i < j := (Nat.pow_lt_pow_iff_right (by decide)).1 h
theorem pw_mono {i j : Nat} (h : i < j) : pw i < pw j := Nat.pow_lt_pow_right (by decide) h
theorem pw_bits : ∀ k < 6, ∀ m < 64, (m &&& pw k ≠ 0 → pw k ≤ m ∧ m &&& (18446744073709551615 - pw k) = m - pw k) ∧ ((m / pw k &&& 1 = 1) ↔ m &&& pw k ≠ 0) := by decide
/-- One round, for one variable. -/
def mb (p : Int) (b : Nat) : Nat → List Int → List Int
  | 0, l => l
  | m + 1, l => if m &&& b ≠ 0 then (mb p b m l).set m ((gd (mb p b m l) m + p - gd (mb p b m l) (m - b)) % p) else mb p b m l
def mbs (p : Int) (n : Nat) : Nat → List Int → List Int
  | 0, l => l
  | i + 1, l => mb p (pw i) n (mbs p n i l)
theorem mb_length {p : Int} {b : Nat} {l : List Int} : ∀ m, (mb p b m l).length = l.length
  | 0 => rfl
  | m + 1 => by rw [mb]; split
                · rw [List.length_set, mb_length m]
                · exact mb_length m
theorem mbs_length {p : Int} {n : Nat} {l : List Int} : ∀ i, (mbs p n i l).length = l.length
  | 0 => rfl
  | i + 1 => by rw [mbs, mb_length, mbs_length i]
theorem set_bd {p x : Int} {l : List Int} {m : Nat} (h : Bd p l) (hx : 0 ≤ x ∧ x < p) : Bd p (l.set m x) := fun j => by
  rw [gd_setc]; split
  · exact hx
  · exact h j
theorem mb_bd {p : Int} {b : Nat} {l : List Int} (hp : 1 ≤ p) (h : Bd p l) : ∀ m, Bd p (mb p b m l)
  | 0 => h
  | m + 1 => by
    rw [mb]; split
    · exact set_bd (mb_bd hp h m) ⟨Int.emod_nonneg _ (by omega), Int.emod_lt_of_pos _ (by omega)⟩
    · exact mb_bd hp h m
theorem mbs_bd {p : Int} {n : Nat} {l : List Int} (hp : 1 ≤ p) (h : Bd p l) : ∀ i, Bd p (mbs p n i l)
  | 0 => h
  | i + 1 => mb_bd hp (mbs_bd hp h i) n
theorem mb_skip {p : Int} {b m : Nat} {l : List Int} (h : ¬ m &&& b ≠ 0) : mb p b (m + 1) l = mb p b m l := by rw [mb, if_neg h]
theorem mb_more {p : Int} {b m : Nat} {l : List Int} (h : m &&& b ≠ 0) : mb p b (m + 1) l = (mb p b m l).set m ((gd (mb p b m l) m + p - gd (mb p b m l) (m - b)) % p) := by rw [mb, if_pos h]
theorem mb_mod {p a b : Int} : (a + (p - 1) * b) % p = (a + p - b) % p := by
  have e : a + (p - 1) * b = (a + p - b) + p * (b - 1) := by rw [Int.sub_mul, Int.mul_sub]; omega
  rw [e, Int.add_mul_emod_self_left]
theorem valRes_len (p vars : Int) (xs : List Int) : (if valB p vars xs then trm (mbs p (dn vars) vars.toNat xs) else []).length ≤ 64 := by
  split
  · rename_i h
    simp only [valB, Bool.and_eq_true, decide_eq_true_eq] at h
    have := trm_len (mbs p (dn vars) vars.toNat xs)
    rw [mbs_length, h.2.1] at this
    have := dn_le (prime_spec h.1).2
    omega
  · simp
end Go.Av
namespace Go.Av
open Go Go.Proofs
set_option maxRecDepth 10000
theorem ap35 : appTy Try.prog 35 = some (1, 8) := by kernel_rfl
theorem hb101 : hasBody Try.prog 101 = true := by kernel_rfl
theorem hb114 : hasBody Try.prog 114 = true := by kernel_rfl
theorem hb26 : hasBody Try.prog 26 = true := by kernel_rfl
theorem hb28 : hasBody Try.prog 28 = true := by kernel_rfl
theorem hb66 : hasBody Try.prog 66 = true := by kernel_rfl
theorem hb67 : hasBody Try.prog 67 = true := by kernel_rfl
theorem hb68 : hasBody Try.prog 68 = true := by kernel_rfl
theorem hb96 : hasBody Try.prog 96 = true := by kernel_rfl
theorem lt35 : litTy Try.prog 35 = some (1, [.int .i64 0]) := by kernel_rfl

theorem idxI_c (f : Nat) (caps : List AV) (hb : hasBody Try.prog f = true) (hcap : capOk caps = true) (xs : List Int) (p : Nat → Bool) (hl : (xs.length : Int) ≤ 9223372036854775807) (hc : ∀ i, i < xs.length → ACall Try.prog f (.int .i64 (gd xs i) :: caps) [] (.bool (p i)) []) : ACall Try.prog 114 [.sl (icells xs) xs.length, .fn f [] caps] [] (.int .i64 (fidx p xs.length)) [] := by
  refine ACall.intro Try.func114 rfl (N := 19) rfl (by decide) (by simp) ?_
  refine a_seq ?_
  refine a_region ?_
  refine r_val (v := .int _ _) (v_assign (.inl rfl) (noOwn_flat rfl)) rfl rfl (by decide) ?_
  refine r_nil ?_
  refine a_seq ?_
  refine a_seq ?_
  refine a_region ?_
  refine r_val (v := .sl _ _) (v_move (.inl rfl) (noOwn_flat rfl)) rfl rfl (by decide) ?_
  refine r_val (v := .int _ _) (v_len_sl sl35 (.inl rfl)) rfl rfl (by decide) ?_
  refine r_val (v := .int _ _) (v_move (.inl rfl) (noOwn_flat rfl)) rfl rfl (by decide) ?_
  refine r_nil ?_
  refine a_block ?_
  refine a_loop (X := Nat) (fun i => look [(0, .sl (icells xs) xs.length), (1, .fn f [] caps), (7, .int .i64 (xs.length : Int)), (8, .int .i64 (i : Int))]) (fun i => i ≤ xs.length ∧ ∀ j, j < i → p j = false) (fun i => xs.length - i) 0 (ent_look ⟨Weak.of_eq rfl, Weak.of_eq rfl, Weak.of_eq rfl, Weak.of_eq rfl, trivial⟩) ⟨Nat.zero_le _, fun j h => by omega⟩ (fun i hG => ?_)
  obtain ⟨h1, h2⟩ := hG
  refine a_seq ?_
  refine a_region ?_
  refine r_val (v := .bool _) (v_lss (.inl rfl) (.inl rfl)) rfl rfl (by decide) ?_
  refine r_nil ?_
  refine a_seq ?_
  refine a_cond rfl (fun ht9 => ?_) (fun ht9 => ?_)
  ·
    skip
    refine a_skip ?_
    refine a_seq ?_
    refine a_block ?_
    refine a_seq ?_
    refine a_region ?_
    have hi : i < xs.length := (by simp at ht9; omega)
    refine r_val (v := .int _ _) (v_move (.inl rfl) (noOwn_flat rfl)) rfl rfl (by decide) ?_
    refine r_val (v := .int _ _) (v_assign (.inl rfl) (noOwn_flat rfl)) rfl rfl (by decide) ?_
    refine r_nil ?_
    refine a_seq ?_
    refine a_region ?_
    refine r_val (v := .fn _ _ _) (v_mv rfl) rfl rfl (by decide) ?_
    refine r_val (v := .sl _ _) (v_move (.inl rfl) (noOwn_flat rfl)) rfl rfl (by decide) ?_
    refine r_val (v := .int _ _) (v_move (.inl rfl) (noOwn_flat rfl)) rfl rfl (by decide) ?_
    refine r_val (v := .pp _ _) (v_indexAddr_sl es35 (.inl rfl) (.inl rfl) (fun _ => ⟨by omega, by omega, icells_ne hi⟩)) rfl rfl (by decide) ?_
    refine r_val (v := .int .i64 (gd xs i)) (v_load_pp ta3 (.inl rfl) (fun _ => by rw [Nat.mul_one]; exact icells_get (gd_get hi)) rfl) rfl rfl (by decide) ?_
    refine r_new (v := .bool _) (q_clo (vs := [.int _ _]) (args := (.int _ _ :: caps)) hb (.inl rfl) ⟨.inl rfl, trivial⟩ (snap_clo1 hcap rfl) (fun hA => hc i hi) rfl rfl) rfl rfl (by decide) ?_
    refine r_nil ?_
    refine a_cond rfl (fun ht16 => ?_) (fun ht16 => ?_)
    ·
      skip
      refine a_seq ?_
      refine a_region ?_
      refine r_val (v := .int _ _) (v_move (.inl rfl) (noOwn_flat rfl)) rfl rfl (by decide) ?_
      refine r_val (v := .int _ _) (v_assign (.inl rfl) (noOwn_flat rfl)) rfl rfl (by decide) ?_
      refine r_nil ?_
      refine a_ret ?_
      refine ret1 Try.results114 (by decide) (by decide) (Weak.of_eq (int_eq ?_)) rfl Leaves.nil
      exact (fidx_found hi ht16 h2).symm
    ·
      skip
      refine a_skip ?_
      refine a_region ?_
      refine r_val (v := .int _ _) (v_add (.inl rfl) (.inl rfl) (fun _ => by omega)) rfl rfl (by decide) ?_
      refine r_val (v := .int _ _) (v_move (.inl rfl) (noOwn_flat rfl)) rfl rfl (by decide) ?_
      refine r_nil ?_
      refine ⟨i + 1, ent_look ⟨Weak.of_eq rfl, (Weak.of_eq (purge_fn hcap)), Weak.of_eq rfl, Weak.of_eq (int_eq (by omega)), trivial⟩, ⟨by omega, ok_stepF h2 ht16⟩, by omega⟩
  ·
    skip
    refine a_exit ?_
    refine a_seq ?_
    refine a_region ?_
    refine r_val (v := .int _ _) (v_assign (.inl rfl) (noOwn_flat rfl)) rfl rfl (by decide) ?_
    refine r_nil ?_
    refine a_ret ?_
    refine ret1 Try.results114 (by decide) (by decide) (Weak.of_eq (int_eq ?_)) rfl Leaves.nil
    simp at ht9; exact (fidx_none (fun j hj => h2 j (by omega))).symm

theorem contI_c (f : Nat) (caps : List AV) (hb : hasBody Try.prog f = true) (hcap : capOk caps = true) (xs : List Int) (p : Nat → Bool) (hl : (xs.length : Int) ≤ 9223372036854775807) (hc : ∀ i, i < xs.length → ACall Try.prog f (.int .i64 (gd xs i) :: caps) [] (.bool (p i)) []) : ACall Try.prog 96 [.sl (icells xs) xs.length, .fn f [] caps] [] (.bool ((List.range xs.length).any p)) [] := by
  refine ACall.intro Try.func96 rfl (N := 9) rfl (by decide) (by simp) ?_
  refine a_seq ?_
  refine a_region ?_
  refine r_val (v := .bool _) (v_assign (.inl rfl) (noOwn_flat rfl)) rfl rfl (by decide) ?_
  refine r_nil ?_
  refine a_seq ?_
  refine a_region ?_
  refine r_val (v := .sl _ _) (v_move (.inl rfl) (noOwn_flat rfl)) rfl rfl (by decide) ?_
  refine r_val (v := .fn _ _ _) (v_mv rfl) rfl rfl (by decide) ?_
  refine r_new (v := .int _ _) (q_call (vs := [.sl _ _, .fn _ _ _]) (args := [.sl _ _, .fn _ _ _]) hb114 ⟨.inl rfl, .inl rfl, trivial⟩ (l2_eq rfl (snap_fn hcap)) (fun hA => idxI_c f caps hb hcap xs p hl hc) rfl rfl) rfl rfl (by decide) ?_
  refine r_val (v := .bool _) (v_geq (.inl rfl) (.inl rfl)) rfl rfl (by decide) ?_
  refine r_val (v := .bool _) (v_assign (.inl rfl) (noOwn_flat rfl)) rfl rfl (by decide) ?_
  refine r_nil ?_
  refine a_ret ?_
  refine ret1 Try.results96 (by decide) (by decide) (Weak.of_eq (bool_eq ?_)) rfl Leaves.nil
  exact fidx_any

theorem cloneI_c (xs : List Int) (n : Nat) (h : xs.length = n ∧ n ≤ 1048576) : ACall Try.prog 68 [.sl (icells xs) n] [] (.osl 1 (icells xs) n none) [] := by
  refine ACall.intro Try.func68 rfl (N := 8) rfl (by decide) (by simp) ?_
  refine a_seq ?_
  refine a_region ?_
  refine r_val (v := .nils) (v_assign (.inl rfl) (noOwn_flat rfl)) rfl rfl (by decide) ?_
  refine r_nil ?_
  refine a_seq ?_
  refine a_seq ?_
  refine a_region ?_
  refine r_val (v := .sl _ _) (v_move (.inl rfl) (noOwn_flat rfl)) rfl rfl (by decide) ?_
  refine r_nileq rfl rfl us35 (.inl rfl) rfl (by decide) (fun b4 hb4 => ?_)
  refine r_nil ?_
  refine a_cond rfl (fun ht4 => ?_) (fun ht4 => ?_)
  ·
    skip
    refine a_seq ?_
    refine a_region ?_
    refine r_val (v := .nils) (v_assign (.inl rfl) (noOwn_flat rfl)) rfl rfl (by decide) ?_
    refine r_nil ?_
    refine a_pre (ent_nil (t := 2) (sz := 1) (cap := none) (.inl rfl) (fun _ h => by cases h)) ?_
    refine a_ret ?_
    refine ret1 Try.results68 (by decide) (by decide) (Weak.osl ?_ ?_) rfl Leaves.nil
    all_goals (have he := hb4 ht4)
    · exact he.symm
    · have := icells_length xs; rw [he] at this; simp at this; omega
  ·
    skip
    refine a_skip ?_
    refine a_seq ?_
    refine a_region ?_
    refine r_new (v := .osl _ _ _ _) (q_sliceLit (n := 0) (parts := []) lt35 rfl rfl rfl rfl) rfl rfl (by decide) ?_
    refine r_val (v := .sl _ _) (v_move (.inl rfl) (noOwn_flat rfl)) rfl rfl (by decide) ?_
    refine r_step rfl (o_append rfl ap35 rfl (by decide) (by decide) rfl (src_sl (.inl rfl) (fun _ => by rw [icells_length]; omega) (ic_pureL _)) (ic_cell _) rfl (by omega)) ?_
    refine r_val (v := .rsl _ _ _ _ _) (v_assign (.inl rfl) (noOwn_flat rfl)) rfl rfl (by decide) ?_
    refine r_pre (ent_reloc_sl (t := 2) rfl rfl) ?_
    refine r_nil ?_
    refine a_ret ?_
    refine ret1 Try.results68 (by decide) (by decide) (Weak.osl ?_ ?_) rfl Leaves.nil
    · rfl
    · omega

theorem l1Own_c (xs : List Int) (n : Nat) (h : xs.length = n ∧ n ≤ 1048576) : ACall Try.prog 66 [.sl (icells xs) n] [] (.osl 1 (icells xs) n none) [] := by
  refine ACall.intro Try.func66 rfl (N := 6) rfl (by decide) (by simp) ?_
  refine a_seq ?_
  refine a_region ?_
  refine r_val (v := .nils) (v_assign (.inl rfl) (noOwn_flat rfl)) rfl rfl (by decide) ?_
  refine r_nil ?_
  refine a_seq ?_
  refine a_region ?_
  refine r_new (v := .osl _ _ _ _) (q_sliceLit (n := 0) (parts := []) lt35 rfl rfl rfl rfl) rfl rfl (by decide) ?_
  refine r_val (v := .sl _ _) (v_move (.inl rfl) (noOwn_flat rfl)) rfl rfl (by decide) ?_
  refine r_step rfl (o_append rfl ap35 rfl (by decide) (by decide) rfl (src_sl (.inl rfl) (fun _ => by rw [icells_length]; omega) (ic_pureL _)) (ic_cell _) rfl (by omega)) ?_
  refine r_val (v := .rsl _ _ _ _ _) (v_assign (.inl rfl) (noOwn_flat rfl)) rfl rfl (by decide) ?_
  refine r_pre (ent_reloc_sl (t := 2) rfl rfl) ?_
  refine r_nil ?_
  refine a_ret ?_
  refine ret1 Try.results66 (by decide) (by decide) (Weak.osl ?_ ?_) rfl Leaves.nil
  · rfl
  · omega

theorem valuesOk1_c (p vars n : Int) (hp : 2 ≤ p ∧ p ≤ 5) : ACall Try.prog 101 [.int .i64 n, .pp [.int .i64 p, .int .i64 vars] 0] [] (.bool (!inR n 0 (p - 1))) [] := by
  refine ACall.intro Try.func101 rfl (N := 10) rfl (by decide) (by simp) ?_
  refine a_seq ?_
  refine a_region ?_
  refine r_val (v := .bool _) (v_assign (.inl rfl) (noOwn_flat rfl)) rfl rfl (by decide) ?_
  refine r_nil ?_
  refine a_seq ?_
  refine a_region ?_
  refine r_val (v := .int _ _) (v_move (.inl rfl) (noOwn_flat rfl)) rfl rfl (by decide) ?_
  refine r_val (v := .pp _ _) (v_fieldAddr_pp fo58_0 (.inl rfl)) rfl rfl (by decide) ?_
  refine r_val (v := .int _ _) (v_load_pp ta3 (.inl rfl) (fun _ => rfl) rfl) rfl rfl (by decide) ?_
  refine r_val (v := .int _ _) (v_sub (.inl rfl) (.inl rfl) (fun _ => by omega)) rfl rfl (by decide) ?_
  refine r_new (v := .bool _) (q_call (vs := [.int _ _, .int _ _, .int _ _]) (args := [.int .i64 _, .int .i64 _, .int .i64 _]) hb63 ⟨.inl rfl, .inl rfl, .inl rfl, trivial⟩ rfl (fun hA => within_c _ _ _) rfl rfl) rfl rfl (by decide) ?_
  refine r_val (v := .bool _) (v_not (.inl rfl)) rfl rfl (by decide) ?_
  refine r_val (v := .bool _) (v_assign (.inl rfl) (noOwn_flat rfl)) rfl rfl (by decide) ?_
  refine r_nil ?_
  refine a_ret ?_
  refine ret1 Try.results101 (by decide) (by decide) (Weak.of_eq (bool_eq ?_)) rfl Leaves.nil
  rfl

theorem valuesOk_c (p vars : Int) (xs : List Int) (hp : prime p vars = true) (hl : (xs.length : Int) ≤ 9223372036854775807) : ACall Try.prog 67 [.agg [.int .i64 p, .int .i64 vars], .sl (icells xs) xs.length] [] (.bool (decide (xs.length = dn vars) && vals p xs)) [] := by
  have hpp := prime_spec hp
  have hw := pow6 hpp.2
  have hdn := dn_cast vars
  have hbV := hb101
  refine ACall.intro Try.func67 rfl (N := 17) rfl (by decide) (by simp) ?_
  refine a_seq ?_
  refine a_region ?_
  refine r_new (v := .op [.int _ _, .int _ _]) (q_box (.inl rfl) rfl rfl) rfl rfl (by decide) ?_
  refine r_val (v := .bool _) (v_assign (.inl rfl) (noOwn_flat rfl)) rfl rfl (by decide) ?_
  refine r_nil ?_
  refine a_seq ?_
  refine a_region ?_
  refine r_val (v := .sl _ _) (v_move (.inl rfl) (noOwn_flat rfl)) rfl rfl (by decide) ?_
  refine r_val (v := .int _ _) (v_len_sl sl35 (.inl rfl)) rfl rfl (by decide) ?_
  refine r_val (v := .rp _ _) (v_fieldAddr_rp fo58_1 (.inl rfl)) rfl rfl (by decide) ?_
  refine r_val (v := .int _ _) (v_load_rp1 ta3 (.inl rfl) rfl (fun _ => rfl) rfl) rfl rfl (by decide) ?_
  refine r_val (v := .int .i64 ((dn vars : Nat) : Int)) ((v_shl (.inl rfl) (.inl rfl) (fun _ => by omega)).cast (int_eq (by omega))) rfl rfl (by decide) ?_
  refine r_val (v := .bool _) (v_eql (.inl rfl) (.inl rfl)) rfl rfl (by decide) ?_
  refine r_val (v := .bool _) (v_move (.inl rfl) (noOwn_flat rfl)) rfl rfl (by decide) ?_
  refine r_gval (v := .sl _ _) (v_move (.inl rfl) (noOwn_flat rfl)) rfl rfl rfl (by decide) (.inl ⟨_, rfl, rfl⟩) rfl (by decide) ?_
  refine r_gval (v := .fn _ _ _) (v_makeFunc (first := []) (caps := [.tmp 2]) rfl rfl) rfl rfl rfl (by decide) (.inl ⟨_, rfl, rfl⟩) rfl (by decide) ?_
  refine r_guard (v := .bool _) (q_call (vs := [.sl _ _, .fn _ _ _]) (args := [.sl _ _, .fn _ _ _]) hb96 ⟨.inr ⟨_, rfl, fun h => h⟩, .inr ⟨_, rfl, fun h => h⟩, trivial⟩ rfl (fun hA => contI_c 101 [.pp [.int .i64 p, .int .i64 vars] 0] hbV rfl xs (fun i => !inR (gd xs i) 0 (p - 1)) (by omega) (fun i hi => valuesOk1_c p vars _ hpp.1)) rfl rfl) rfl rfl rfl (by decide) (.inl ⟨_, rfl, rfl⟩) rfl (by decide) ?_
  refine r_gval (v := .bool _) (v_not (.inr ⟨_, rfl, fun h => h⟩)) rfl rfl rfl (by decide) (.inl ⟨_, rfl, rfl⟩) rfl (by decide) ?_
  refine r_val (v := .bool _) (v_pick (.inl rfl) (.inr ⟨_, rfl, fun h h2 => by simp_all⟩) (.inl rfl)) rfl rfl (by decide) ?_
  refine r_val (v := .bool _) (v_assign (.inl rfl) (noOwn_flat rfl)) rfl rfl (by decide) ?_
  refine r_nil ?_
  refine a_ret ?_
  refine ret1 Try.results67 (by decide) (by decide) (Weak.of_eq (bool_eq ?_)) rfl Leaves.nil
  rw [vals_any]; cases h1 : vals p xs <;> simp [h1] <;> omega

theorem sPolyWithValues_c (p vars : Int) (xs : List Int) (hl : (xs.length : Int) ≤ 1048576) : ACall Try.prog 26 [.int .i64 p, .int .i64 vars, .sl (icells xs) xs.length] [] (.tup [.osl 2 (tcells (if valB p vars xs then (trm (mbs p (dn vars) vars.toNat xs)) else [])) (if valB p vars xs then (trm (mbs p (dn vars) vars.toNat xs)) else []).length none, .bool (valB p vars xs)]) [] := by
  refine ACall.intro Try.func26 rfl (N := 78) rfl (by decide) (by simp) ?_
  refine a_seq ?_
  refine a_region ?_
  refine r_val (v := .nils) (v_assign (.inl rfl) (noOwn_flat rfl)) rfl rfl (by decide) ?_
  refine r_val (v := .bool _) (v_assign (.inl rfl) (noOwn_flat rfl)) rfl rfl (by decide) ?_
  refine r_nil ?_
  refine a_seq ?_
  refine a_seq ?_
  refine a_region ?_
  refine r_val (v := .int _ _) (v_move (.inl rfl) (noOwn_flat rfl)) rfl rfl (by decide) ?_
  refine r_val (v := .int _ _) (v_move (.inl rfl) (noOwn_flat rfl)) rfl rfl (by decide) ?_
  refine r_new (v := .bool _) (q_call (vs := [.int _ _, .int _ _]) (args := [.int .i64 _, .int .i64 _]) hb59 ⟨.inl rfl, .inl rfl, trivial⟩ rfl (fun hA => l18Prime_c _ _) rfl rfl) rfl rfl (by decide) ?_
  refine r_val (v := .bool _) (v_not (.inl rfl)) rfl rfl (by decide) ?_
  refine r_val (v := .bool _) (v_move (.inl rfl) (noOwn_flat rfl)) rfl rfl (by decide) ?_
  refine r_gval (v := .sl _ _) (v_move (.inl rfl) (noOwn_flat rfl)) rfl rfl rfl (by decide) (.inl ⟨_, rfl, rfl⟩) rfl (by decide) ?_
  refine r_gval (v := .int _ _) (v_len_sl sl35 (.inr ⟨_, rfl, fun h => h⟩)) rfl rfl rfl (by decide) (.inl ⟨_, rfl, rfl⟩) rfl (by decide) ?_
  refine r_gval (v := .int _ _) (v_move (.inl rfl) (noOwn_flat rfl)) rfl rfl rfl (by decide) (.inl ⟨_, rfl, rfl⟩) rfl (by decide) ?_
  refine r_gval (v := .int _ _) (v_shl (.inl rfl) (.inr ⟨_, rfl, fun h => h⟩) (fun hA => by have hp := prime_spec (p := p) (vars := vars) (by simp_all); have hw := pow6 hp.2; omega)) rfl rfl rfl (by decide) (.inl ⟨_, rfl, rfl⟩) rfl (by decide) ?_
  refine r_gval (v := .bool _) (v_neq (.inr ⟨_, rfl, fun h => h⟩) (.inr ⟨_, rfl, fun h => h⟩)) rfl rfl rfl (by decide) (.inl ⟨_, rfl, rfl⟩) rfl (by decide) ?_
  refine r_val (v := .bool _) (v_pick (.inl rfl) (.inl rfl) (.inr ⟨_, rfl, fun h h2 => by simp_all⟩)) rfl rfl (by decide) ?_
  refine r_nil ?_
  refine a_cond rfl (fun ht22 => ?_) (fun ht22 => ?_)
  ·
    skip
    refine a_seq ?_
    refine a_region ?_
    refine r_new (v := .osl _ _ _ _) (q_sliceLit (n := 0) (parts := []) lt25 rfl rfl rfl rfl) rfl rfl (by decide) ?_
    refine r_val (v := .rsl _ _ _ _ _) (v_assign (.inl rfl) (noOwn_flat rfl)) rfl rfl (by decide) ?_
    refine r_pre (ent_reloc_sl (t := 6) rfl rfl) ?_
    refine r_val (v := .bool _) (v_assign (.inl rfl) (noOwn_flat rfl)) rfl rfl (by decide) ?_
    refine r_nil ?_
    refine a_ret ?_
    refine retL (rs := [.tmp 6, .tmp 7]) [(6, .osl _ _ _ none), (7, _)] ⟨Weak.osl rfl rfl, Weak.rfl, trivial⟩ rfl Try.results26 (by decide) ⟨by decide, by decide, rfl⟩ (by decide) (by decide) (l2_eq (osl_eq2 ?_ ?_) (bool_eq ?_)) (by simp [refsL, refs])
    all_goals (have hno : valB p vars xs = false := (by unfold valB; cases h1 : prime p vars <;> first | (simp_all; done) | (simp_all; intro h; have := dn_cast vars; rw [← h] at this; exact absurd this ht22)); simp [hno, tcells, rep])
  ·
    skip
    refine a_skip ?_
    refine a_seq ?_
    have hp : prime p vars = true := (by cases h1 : prime p vars <;> simp_all)
    have hpp := prime_spec hp
    have hw := pow6 hpp.2
    have hd := dn_le hpp.2
    have hdn := dn_cast vars
    have hpd := pw_dn vars
    have hlen : xs.length = dn vars := (by rw [hp] at ht22; simp at ht22; omega)
    refine a_region ?_
    refine r_val (v := .sl _ _) (v_move (.inl rfl) (noOwn_flat rfl)) rfl rfl (by decide) ?_
    refine r_new (v := .osl _ _ _ _) (q_call (vs := [.sl _ _]) (args := [.sl _ _]) hb66 ⟨.inl rfl, trivial⟩ rfl (fun hA => l1Own_c _ _ ⟨rfl, by omega⟩) (ic_noSh _) (ic_noRef _)) rfl rfl (by decide) ?_
    refine r_val (v := .rsl _ _ _ _ _) (v_assign (.inl rfl) (noOwn_flat rfl)) rfl rfl (by decide) ?_
    refine r_pre (ent_reloc_sl (t := 8) rfl rfl) ?_
    refine r_nil ?_
    refine a_seq ?_
    refine a_seq ?_
    refine a_region ?_
    refine r_val (v := .int _ _) (v_assign (.inl rfl) (noOwn_flat rfl)) rfl rfl (by decide) ?_
    refine r_nil ?_
    refine a_block ?_
    refine a_loop (X := Nat) (fun j => look [(0, .int .i64 p), (8, .osl 1 (icells xs) (dn vars) none), (9, .int .i64 (j : Int))]) (fun j => j ≤ dn vars ∧ ∀ k, k < j → inR (gd xs k) 0 (p - 1) = true) (fun j => dn vars - j) 0 (ent_look ⟨Weak.of_eq rfl, Weak.osl rfl hlen, Weak.of_eq rfl, trivial⟩) ⟨Nat.zero_le _, fun j h => by omega⟩ (fun j hG => ?_)
    obtain ⟨h1, h2⟩ := hG
    refine a_seq ?_
    refine a_seq ?_
    refine a_region ?_
    refine r_val (v := .int _ _) (v_move (.inl rfl) (noOwn_flat rfl)) rfl rfl (by decide) ?_
    refine r_val (v := .rsl _ _ _ _ _) (v_move (.inl rfl) (noOwn_flat rfl)) rfl rfl (by decide) ?_
    refine r_val (v := .int _ _) (v_len_rsl sl35 (.inl rfl)) rfl rfl (by decide) ?_
    refine r_val (v := .bool _) (v_lss (.inl rfl) (.inl rfl)) rfl rfl (by decide) ?_
    refine r_nil ?_
    refine a_cond rfl (fun ht29 => ?_) (fun ht29 => ?_)
    ·
      skip
      refine a_skip ?_
      refine a_seq ?_
      refine a_block ?_
      refine a_seq ?_
      have hj : j < dn vars := (by simp at ht29; omega)
      refine a_region ?_
      refine r_val (v := .rsl _ _ _ _ _) (v_move (.inl rfl) (noOwn_flat rfl)) rfl rfl (by decide) ?_
      refine r_val (v := .int _ _) (v_move (.inl rfl) (noOwn_flat rfl)) rfl rfl (by decide) ?_
      refine r_val (v := .rp _ _) (v_indexAddr_rsl0 es35 (.inl rfl) (.inl rfl) (fun _ => by omega)) rfl rfl (by decide) ?_
      refine r_val (v := .int .i64 (gd xs j)) (v_load_rp1 ta3 (.inl rfl) rfl (fun _ => by rw [Nat.mul_one]; exact icells_get (gd_get (by omega))) rfl) rfl rfl (by decide) ?_
      refine r_val (v := .int _ _) (v_move (.inl rfl) (noOwn_flat rfl)) rfl rfl (by decide) ?_
      refine r_val (v := .int _ _) (v_sub (.inl rfl) (.inl rfl) (fun _ => by omega)) rfl rfl (by decide) ?_
      refine r_new (v := .bool _) (q_call (vs := [.int _ _, .int _ _, .int _ _]) (args := [.int .i64 _, .int .i64 _, .int .i64 _]) hb55 ⟨.inl rfl, .inl rfl, .inl rfl, trivial⟩ rfl (fun hA => l1In_c _ _ _) rfl rfl) rfl rfl (by decide) ?_
      refine r_val (v := .bool _) (v_not (.inl rfl)) rfl rfl (by decide) ?_
      refine r_nil ?_
      refine a_cond rfl (fun ht39 => ?_) (fun ht39 => ?_)
      ·
        skip
        refine a_seq ?_
        refine a_region ?_
        refine r_new (v := .osl _ _ _ _) (q_sliceLit (n := 0) (parts := []) lt25 rfl rfl rfl rfl) rfl rfl (by decide) ?_
        refine r_val (v := .rsl _ _ _ _ _) (v_assign (.inl rfl) (noOwn_flat rfl)) rfl rfl (by decide) ?_
        refine r_pre (ent_reloc_sl (t := 6) rfl rfl) ?_
        refine r_val (v := .bool _) (v_assign (.inl rfl) (noOwn_flat rfl)) rfl rfl (by decide) ?_
        refine r_nil ?_
        refine a_ret ?_
        refine retL (rs := [.tmp 6, .tmp 7]) [(6, .osl _ _ _ none), (7, _)] ⟨Weak.osl rfl rfl, Weak.rfl, trivial⟩ rfl Try.results26 (by decide) ⟨by decide, by decide, rfl⟩ (by decide) (by decide) (l2_eq (osl_eq2 ?_ ?_) (bool_eq ?_)) (by simp [refsL, refs])
        all_goals (have hno : valB p vars xs = false := (by unfold valB; rw [vals_false (i := j) (by omega) (by simpa using ht39)]; simp); simp [hno, tcells, rep])
      ·
        skip
        refine a_skip ?_
        refine a_region ?_
        refine r_val (v := .int _ _) (v_move (.inl rfl) (noOwn_flat rfl)) rfl rfl (by decide) ?_
        refine r_val (v := .int _ _) (v_add (.inl rfl) (.inl rfl) (fun _ => by omega)) rfl rfl (by decide) ?_
        refine r_val (v := .int _ _) (v_assign (.inl rfl) (noOwn_flat rfl)) rfl rfl (by decide) ?_
        refine r_nil ?_
        refine ⟨j + 1, ent_look ⟨Weak.of_eq rfl, Weak.of_eq rfl, Weak.of_eq (int_eq (by omega)), trivial⟩, ⟨by omega, ok_step h2 (by simpa using ht39)⟩, by omega⟩
    ·
      skip
      refine a_exit ?_
      refine a_seq ?_
      refine a_seq ?_
      have hv : vals p xs = true := vals_true (fun k hk => h2 k (by simp at ht29; omega))
      have hbx := vals_bd (p := p) (by omega) hv
      have hok : valB p vars xs = true := (by unfold valB; simp [hp, hlen, hv])
      refine a_region ?_
      refine r_val (v := .int _ _) (v_assign (.inl rfl) (noOwn_flat rfl)) rfl rfl (by decide) ?_
      refine r_nil ?_
      refine a_block ?_
      refine a_loop (X := Nat) (fun i => look [(0, .int .i64 p), (8, .osl 1 (icells (mbs p (dn vars) i xs)) (dn vars) none), (10, .int .i64 ((pw i : Nat) : Int))]) (fun i => i ≤ vars.toNat) (fun i => vars.toNat - i) 0 (ent_look ⟨Weak.of_eq rfl, Weak.osl rfl rfl, Weak.of_eq rfl, trivial⟩) (Nat.zero_le _) (fun i hG => ?_)
      refine a_seq ?_
      refine a_seq ?_
      refine a_region ?_
      refine r_val (v := .int _ _) (v_move (.inl rfl) (noOwn_flat rfl)) rfl rfl (by decide) ?_
      refine r_val (v := .rsl _ _ _ _ _) (v_move (.inl rfl) (noOwn_flat rfl)) rfl rfl (by decide) ?_
      refine r_val (v := .int _ _) (v_len_rsl sl35 (.inl rfl)) rfl rfl (by decide) ?_
      refine r_val (v := .bool _) (v_lss (.inl rfl) (.inl rfl)) rfl rfl (by decide) ?_
      refine r_nil ?_
      refine a_cond rfl (fun ht44 => ?_) (fun ht44 => ?_)
      ·
        skip
        refine a_skip ?_
        refine a_seq ?_
        refine a_block ?_
        refine a_seq ?_
        have hi : i < vars.toNat := pw_lt (by simp at ht44; omega)
        have hpi := pw_mono hi
        refine a_region ?_
        refine r_val (v := .int _ _) (v_assign (.inl rfl) (noOwn_flat rfl)) rfl rfl (by decide) ?_
        refine r_nil ?_
        refine a_block ?_
        refine a_loop (X := Nat) (fun m => look [(0, .int .i64 p), (8, .osl 1 (icells (mb p (pw i) m (mbs p (dn vars) i xs))) (dn vars) none), (10, .int .i64 ((pw i : Nat) : Int)), (11, .int .i64 (m : Int))]) (fun m => m ≤ dn vars) (fun m => dn vars - m) 0 (ent_look ⟨Weak.of_eq rfl, Weak.of_eq rfl, Weak.of_eq rfl, Weak.of_eq rfl, trivial⟩) (Nat.zero_le _) (fun m hG => ?_)
        refine a_seq ?_
        refine a_seq ?_
        refine a_region ?_
        refine r_val (v := .int _ _) (v_move (.inl rfl) (noOwn_flat rfl)) rfl rfl (by decide) ?_
        refine r_val (v := .rsl _ _ _ _ _) (v_move (.inl rfl) (noOwn_flat rfl)) rfl rfl (by decide) ?_
        refine r_val (v := .int _ _) (v_len_rsl sl35 (.inl rfl)) rfl rfl (by decide) ?_
        refine r_val (v := .bool _) (v_lss (.inl rfl) (.inl rfl)) rfl rfl (by decide) ?_
        refine r_nil ?_
        refine a_cond rfl (fun ht50 => ?_) (fun ht50 => ?_)
        ·
          skip
          refine a_skip ?_
          refine a_seq ?_
          refine a_block ?_
          refine a_seq ?_
          have hm : m < dn vars := (by simp at ht50; omega)
          have hdv : 0 ≤ ((m / pw i : Nat) : Int) ∧ ((m / pw i : Nat) : Int) ≤ m := ⟨Int.natCast_nonneg _, Int.ofNat_le.2 (Nat.div_le_self _ _)⟩
          have hbt := pw_bits i (by omega) m (by omega)
          have hbM := mb_bd (p := p) (b := pw i) (by omega) (mbs_bd (p := p) (n := dn vars) (by omega) hbx i) m
          have hb1 := hbM m
          have hb2 := hbM (m - pw i)
          have hlM : (mb p (pw i) m (mbs p (dn vars) i xs)).length = dn vars := (by rw [mb_length, mbs_length]; exact hlen)
          have hpl : m * 1 + 1 ≤ (icells (mb p (pw i) m (mbs p (dn vars) i xs))).length := (by rw [icells_length, hlM]; omega)
          refine a_region ?_
          refine r_val (v := .int _ _) (v_move (.inl rfl) (noOwn_flat rfl)) rfl rfl (by decide) ?_
          refine r_val (v := .int _ _) (v_move (.inl rfl) (noOwn_flat rfl)) rfl rfl (by decide) ?_
          refine r_val (v := .int _ _) (v_and (.inl rfl) (.inl rfl) (fun _ => by omega)) rfl rfl (by decide) ?_
          refine r_val (v := .bool _) (v_neq (.inl rfl) (.inl rfl)) rfl rfl (by decide) ?_
          refine r_nil ?_
          refine a_cond rfl (fun ht56 => ?_) (fun ht56 => ?_)
          ·
            skip
            have hz : m &&& pw i ≠ 0 := (by simpa using ht56)
            have hq := hbt.1 hz
            have hset : (icells (mb p (pw i) m (mbs p (dn vars) i xs))).set (m * 1) (.int .i64 ((gd (mb p (pw i) m (mbs p (dn vars) i xs)) m + p - gd (mb p (pw i) m (mbs p (dn vars) i xs)) (m - pw i)) % p)) = icells (mb p (pw i) (m + 1) (mbs p (dn vars) i xs)) := (by rw [Nat.mul_one, icells_set, mb_more hz])
            refine a_region_tail (n := 18) mixed (by kernel_rfl) ?_
            refine t_val (v := .rsl _ _ _ _ _) (v_move (.inl rfl) (noOwn_flat rfl)) rfl rfl (by decide) (by kernel_rfl) ?_
            refine t_val (v := .int _ _) (v_move (.inl rfl) (noOwn_flat rfl)) rfl rfl (by decide) (by kernel_rfl) ?_
            refine t_val (v := .rsl _ _ _ _ _) (v_move (.inl rfl) (noOwn_flat rfl)) rfl rfl (by decide) (by kernel_rfl) ?_
            refine t_val (v := .int _ _) (v_move (.inl rfl) (noOwn_flat rfl)) rfl rfl (by decide) (by kernel_rfl) ?_
            refine t_val (v := .rp _ _) (v_indexAddr_rsl0 es35 (.inl rfl) (.inl rfl) (fun _ => by omega)) rfl rfl (by decide) (by kernel_rfl) ?_
            refine t_val (v := .int .i64 (gd (mb p (pw i) m (mbs p (dn vars) i xs)) m)) (v_load_rp1 ta3 (.inl rfl) rfl (fun _ => by rw [Nat.mul_one]; exact icells_get (gd_get (by rw [hlM]; omega))) rfl) rfl rfl (by decide) (by kernel_rfl) ?_
            refine t_val (v := .int _ _) (v_move (.inl rfl) (noOwn_flat rfl)) rfl rfl (by decide) (by kernel_rfl) ?_
            refine t_val (v := .int _ _) (v_add (.inl rfl) (.inl rfl) (fun _ => by omega)) rfl rfl (by decide) (by kernel_rfl) ?_
            refine t_val (v := .rsl _ _ _ _ _) (v_move (.inl rfl) (noOwn_flat rfl)) rfl rfl (by decide) (by kernel_rfl) ?_
            refine t_val (v := .int _ _) (v_move (.inl rfl) (noOwn_flat rfl)) rfl rfl (by decide) (by kernel_rfl) ?_
            refine t_val (v := .int _ _) (v_move (.inl rfl) (noOwn_flat rfl)) rfl rfl (by decide) (by kernel_rfl) ?_
            refine t_val (v := .int .i64 ((m - pw i : Nat) : Int)) ((v_sub (.inl rfl) (.inl rfl) (fun _ => by omega)).cast (int_eq (by omega))) rfl rfl (by decide) (by kernel_rfl) ?_
            refine t_val (v := .rp _ _) (v_indexAddr_rsl0 es35 (.inl rfl) (.inl rfl) (fun _ => by omega)) rfl rfl (by decide) (by kernel_rfl) ?_
            refine t_val (v := .int .i64 (gd (mb p (pw i) m (mbs p (dn vars) i xs)) (m - pw i))) (v_load_rp1 ta3 (.inl rfl) rfl (fun _ => by rw [Nat.mul_one]; exact icells_get (gd_get (by rw [hlM]; omega))) rfl) rfl rfl (by decide) (by kernel_rfl) ?_
            refine t_val (v := .int _ _) (v_sub (.inl rfl) (.inl rfl) (fun _ => by omega)) rfl rfl (by decide) (by kernel_rfl) ?_
            refine t_val (v := .int _ _) (v_move (.inl rfl) (noOwn_flat rfl)) rfl rfl (by decide) (by kernel_rfl) ?_
            refine t_val (v := .int _ _) (v_rem (.inl rfl) (.inl rfl) (fun _ => by omega)) rfl rfl (by decide) (by kernel_rfl) ?_
            refine t_val (v := .rp _ _) (v_indexAddr_rsl0 es35 (.inl rfl) (.inl rfl) (fun _ => by omega)) rfl rfl (by decide) (by kernel_rfl) ?_
            refine t_nil ?_
            refine r_step rfl (o_store (v := .int _ _) (y' := .osl _ _ _ _) rfl rfl ta3 (.inl rfl) (.inl rfl) rfl rfl rfl rfl rfl rfl hpl (by decide) rfl (congrArg (fun c => AV.osl 1 c (dn vars) none) hset)) ?_
            refine r_nil ?_
            refine a_pre (ent_look (L := [(0, .int _ _), (8, .osl _ _ _ _), (10, .int _ _), (11, .int _ _)]) ⟨Weak.rfl, Weak.rfl, Weak.rfl, Weak.rfl, trivial⟩) ?_
            refine a_region ?_
            refine r_val (v := .int _ _) (v_move (.inl rfl) (noOwn_flat rfl)) rfl rfl (by decide) ?_
            refine r_val (v := .int _ _) (v_add (.inl rfl) (.inl rfl) (fun _ => by omega)) rfl rfl (by decide) ?_
            refine r_val (v := .int _ _) (v_assign (.inl rfl) (noOwn_flat rfl)) rfl rfl (by decide) ?_
            refine r_nil ?_
            refine ⟨m + 1, ent_look ⟨Weak.of_eq rfl, Weak.of_eq rfl, Weak.of_eq rfl, Weak.of_eq (int_eq (by omega)), trivial⟩, by omega, by omega⟩
          ·
            skip
            refine a_skip ?_
            refine a_region ?_
            refine r_val (v := .int _ _) (v_move (.inl rfl) (noOwn_flat rfl)) rfl rfl (by decide) ?_
            refine r_val (v := .int _ _) (v_add (.inl rfl) (.inl rfl) (fun _ => by omega)) rfl rfl (by decide) ?_
            refine r_val (v := .int _ _) (v_assign (.inl rfl) (noOwn_flat rfl)) rfl rfl (by decide) ?_
            refine r_nil ?_
            refine ⟨m + 1, ent_look ⟨Weak.of_eq rfl, Weak.osl (by rw [mb_skip (by simpa using ht56)]) rfl, Weak.of_eq rfl, Weak.of_eq (int_eq (by omega)), trivial⟩, by omega, by omega⟩
        ·
          skip
          refine a_exit ?_
          refine a_region ?_
          refine r_val (v := .int _ _) (v_move (.inl rfl) (noOwn_flat rfl)) rfl rfl (by decide) ?_
          refine r_val (v := .int _ _) (v_mul (.inl rfl) (.inl rfl) (fun _ => by omega)) rfl rfl (by decide) ?_
          refine r_val (v := .int _ _) (v_assign (.inl rfl) (noOwn_flat rfl)) rfl rfl (by decide) ?_
          refine r_nil ?_
          refine ⟨i + 1, ent_look ⟨Weak.of_eq rfl, Weak.osl (by rw [mbs, show m = dn vars by simp at ht50; omega]) rfl, Weak.of_eq (int_eq (by rw [pw_succ]; omega)), trivial⟩, by omega, by omega⟩
      ·
        skip
        refine a_exit ?_
        refine a_seq ?_
        refine a_pre (ent_eq (t := 8) (v' := .osl 1 (icells (mbs p (dn vars) vars.toNat xs)) (dn vars) none) (Weak.osl (by simp at ht44; rw [show i = vars.toNat from Nat.le_antisymm hG (Nat.le_of_not_lt fun h => (by have := pw_mono h; omega))]) rfl)) ?_
        refine a_region ?_
        refine r_val (v := .int _ _) (v_move (.inl rfl) (noOwn_flat rfl)) rfl rfl (by decide) ?_
        refine r_val (v := .rsl _ _ _ _ _) (v_move (.inl rfl) (noOwn_flat rfl)) rfl rfl (by decide) ?_
        refine r_new (v := .osl _ _ _ _) (q_call (vs := [.int _ _, .rsl _ _ _ _ _]) (args := [.int .i64 _, .sl _ _]) hb60 ⟨.inl rfl, .inl rfl, trivial⟩ (l2_eq rfl (sl_sh (ic_pure _))) (fun hA => l18Sparse_c _ _ _ ⟨by omega, by rw [mbs_length]; exact hlen, by omega, fun m => (mbs_bd (p := p) (n := dn vars) (by omega) hbx vars.toNat m).1⟩) (tc_noSh _) (tc_noRef _)) rfl rfl (by decide) ?_
        refine r_val (v := .rsl _ _ _ _ _) (v_assign (.inl rfl) (noOwn_flat rfl)) rfl rfl (by decide) ?_
        refine r_pre (ent_reloc_sl (t := 6) rfl rfl) ?_
        refine r_val (v := .bool _) (v_assign (.inl rfl) (noOwn_flat rfl)) rfl rfl (by decide) ?_
        refine r_nil ?_
        refine a_ret ?_
        refine retL (rs := [.tmp 6, .tmp 7]) [(6, .osl _ _ _ none), (7, _)] ⟨Weak.osl rfl rfl, Weak.rfl, trivial⟩ rfl Try.results26 (by decide) ⟨by decide, by decide, rfl⟩ (by decide) (by decide) (l2_eq (osl_eq2 ?_ ?_) (bool_eq ?_)) (by simp [refsL, refs])
        all_goals try rw [modp_id (mbs_bd (p := p) (n := dn vars) (by omega) hbx vars.toNat)]
        · rw [if_pos hok]
        · rw [if_pos hok]
        · rw [hok]

theorem iPolyWithValues_c (p vars : Int) (xs : List Int) (hl : (xs.length : Int) ≤ 1048576) : ACall Try.prog 28 [.int .i64 p, .int .i64 vars, .sl (icells xs) xs.length] [] (.tup [.osl 2 (tcells (if valB p vars xs then (trm (mbs p (dn vars) vars.toNat xs)) else [])) (if valB p vars xs then (trm (mbs p (dn vars) vars.toNat xs)) else []).length none, .bool (valB p vars xs)]) [] := by
  refine ACall.intro Try.func28 rfl (N := 67) rfl (by decide) (by simp) ?_
  refine a_seq ?_
  refine a_region ?_
  refine r_val (v := .nils) (v_assign (.inl rfl) (noOwn_flat rfl)) rfl rfl (by decide) ?_
  refine r_val (v := .bool _) (v_assign (.inl rfl) (noOwn_flat rfl)) rfl rfl (by decide) ?_
  refine r_nil ?_
  refine a_seq ?_
  refine a_region ?_
  refine r_val (v := .int _ _) (v_move (.inl rfl) (noOwn_flat rfl)) rfl rfl (by decide) ?_
  refine r_val (v := .int _ _) (v_move (.inl rfl) (noOwn_flat rfl)) rfl rfl (by decide) ?_
  refine r_new (v := .tup [.agg [.int _ _, .int _ _], .bool _]) (q_call (vs := [.int _ _, .int _ _]) (args := [.int .i64 _, .int .i64 _]) hb52 ⟨.inl rfl, .inl rfl, trivial⟩ rfl (fun hA => ringOf_c _ _) rfl rfl) rfl rfl (by decide) ?_
  refine r_val (v := .tup [.agg [.int _ _, .int _ _], .bool _]) (v_mv rfl) rfl rfl (by decide) ?_
  refine r_val (v := .agg [.int _ _, .int _ _]) (v_extract rfl rfl) rfl rfl (by decide) ?_
  refine r_val (v := .bool _) (v_extract rfl rfl) rfl rfl (by decide) ?_
  refine r_new (v := .op [.int _ _, .int _ _]) (q_alloc zc58) rfl rfl (by decide) ?_
  refine r_step rfl (o_store (v := .agg [.int _ _, .int _ _]) (y' := .op [.int _ _, .int _ _]) rfl rfl ta58 (.inl rfl) (.inl rfl) rfl rfl rfl rfl rfl rfl (Nat.le_of_ble_eq_true rfl) (by decide) rfl rfl) ?_
  refine r_val (v := .bool _) (v_assign (.inl rfl) (noOwn_flat rfl)) rfl rfl (by decide) ?_
  refine r_nil ?_
  refine a_seq ?_
  refine a_seq ?_
  refine a_region ?_
  refine r_val (v := .bool _) (v_move (.inl rfl) (noOwn_flat rfl)) rfl rfl (by decide) ?_
  refine r_val (v := .bool _) (v_not (.inl rfl)) rfl rfl (by decide) ?_
  refine r_val (v := .bool _) (v_move (.inl rfl) (noOwn_flat rfl)) rfl rfl (by decide) ?_
  refine r_gval (v := .agg [.int _ _, .int _ _]) (v_load_rpa1 ta58 (.inl rfl) rfl rfl (fun _ => rfl) rfl) rfl rfl rfl (by decide) (.inl ⟨_, rfl, rfl⟩) rfl (by decide) ?_
  refine r_gval (v := .sl _ _) (v_move (.inl rfl) (noOwn_flat rfl)) rfl rfl rfl (by decide) (.inl ⟨_, rfl, rfl⟩) rfl (by decide) ?_
  refine r_guard (v := .bool _) (q_call (vs := [.agg [.int _ _, .int _ _], .sl _ _]) (args := [.agg [.int .i64 _, .int .i64 _], .sl _ _]) hb67 ⟨.inr ⟨_, rfl, fun h => h⟩, .inr ⟨_, rfl, fun h => h⟩, trivial⟩ rfl (fun hA => valuesOk_c _ _ _ (by simp_all) (by omega)) rfl rfl) rfl rfl rfl (by decide) (.inl ⟨_, rfl, rfl⟩) rfl (by decide) ?_
  refine r_gval (v := .bool _) (v_not (.inr ⟨_, rfl, fun h => h⟩)) rfl rfl rfl (by decide) (.inl ⟨_, rfl, rfl⟩) rfl (by decide) ?_
  refine r_val (v := .bool _) (v_pick (.inl rfl) (.inl rfl) (.inr ⟨_, rfl, fun h h2 => by simp_all⟩)) rfl rfl (by decide) ?_
  refine r_nil ?_
  refine a_cond rfl (fun ht26 => ?_) (fun ht26 => ?_)
  ·
    skip
    refine a_seq ?_
    refine a_region ?_
    refine r_val (v := .nils) (v_assign (.inl rfl) (noOwn_flat rfl)) rfl rfl (by decide) ?_
    refine r_val (v := .bool _) (v_assign (.inl rfl) (noOwn_flat rfl)) rfl rfl (by decide) ?_
    refine r_nil ?_
    refine a_pre (ent_nil (t := 6) (sz := 2) (cap := none) (.inl rfl) (fun _ h => by cases h)) ?_
    refine a_ret ?_
    refine retL (rs := [.tmp 6, .tmp 7]) [(6, .osl _ _ _ none), (7, _)] ⟨Weak.osl rfl rfl, Weak.rfl, trivial⟩ rfl Try.results28 (by decide) ⟨by decide, by decide, rfl⟩ (by decide) (by decide) (l2_eq (osl_eq2 ?_ ?_) (bool_eq ?_)) (by simp [refsL, refs])
    all_goals (have hno : valB p vars xs = false := (by unfold valB; cases h1 : prime p vars <;> first | (simp_all; done) | (simp_all; intro h; rcases ht26 with h2 | h2; exact absurd h h2; exact h2)); simp [hno, tcells])
  ·
    skip
    refine a_skip ?_
    refine a_seq ?_
    have hok : valB p vars xs = true := (by unfold valB; cases h1 : prime p vars <;> simp_all)
    have hok2 : prime p vars = true ∧ xs.length = dn vars ∧ vals p xs = true := (by simpa [valB] using hok)
    obtain ⟨hp, hlen, hv⟩ := hok2
    have hpp := prime_spec hp
    have hw := pow6 hpp.2
    have hd := dn_le hpp.2
    have hdn := dn_cast vars
    have hpd := pw_dn vars
    have hbx := vals_bd (p := p) (by omega) hv
    refine a_region ?_
    refine r_val (v := .sl _ _) (v_move (.inl rfl) (noOwn_flat rfl)) rfl rfl (by decide) ?_
    refine r_new (v := .osl _ _ _ _) (q_call (vs := [.sl _ _]) (args := [.sl _ _]) hb68 ⟨.inl rfl, trivial⟩ rfl (fun hA => cloneI_c _ _ ⟨rfl, by omega⟩) (ic_noSh _) (ic_noRef _)) rfl rfl (by decide) ?_
    refine r_val (v := .rsl _ _ _ _ _) (v_assign (.inl rfl) (noOwn_flat rfl)) rfl rfl (by decide) ?_
    refine r_pre (ent_reloc_sl (t := 10) rfl rfl) ?_
    refine r_nil ?_
    refine a_seq ?_
    refine a_seq ?_
    refine a_region ?_
    refine r_val (v := .int _ _) (v_move (.inl rfl) (noOwn_flat rfl)) rfl rfl (by decide) ?_
    refine r_val (v := .int _ _) (v_move (.inl rfl) (noOwn_flat rfl)) rfl rfl (by decide) ?_
    refine r_nil ?_
    refine a_block ?_
    refine a_loop (X := Nat) (fun i => look [(0, .int .i64 p), (10, .osl 1 (icells (mbs p (dn vars) i xs)) (dn vars) none), (29, .int .i64 vars), (30, .int .i64 (i : Int))]) (fun i => i ≤ vars.toNat) (fun i => vars.toNat - i) 0 (ent_look ⟨Weak.of_eq rfl, Weak.osl rfl hlen, Weak.of_eq rfl, Weak.of_eq rfl, trivial⟩) (Nat.zero_le _) (fun i hG => ?_)
    refine a_seq ?_
    refine a_region ?_
    refine r_val (v := .bool _) (v_lss (.inl rfl) (.inl rfl)) rfl rfl (by decide) ?_
    refine r_nil ?_
    refine a_seq ?_
    refine a_cond rfl (fun ht31 => ?_) (fun ht31 => ?_)
    ·
      skip
      refine a_skip ?_
      refine a_seq ?_
      refine a_block ?_
      refine a_seq ?_
      have hi : i < vars.toNat := (by simp at ht31; omega)
      have hpi := pw_mono hi
      have h2i : (2 : Int) ^ ((i : Int)).toNat = ((pw i : Nat) : Int) := (by simp [pw])
      refine a_region ?_
      refine r_val (v := .int _ _) (v_move (.inl rfl) (noOwn_flat rfl)) rfl rfl (by decide) ?_
      refine r_val (v := .int _ _) (v_assign (.inl rfl) (noOwn_flat rfl)) rfl rfl (by decide) ?_
      refine r_nil ?_
      refine a_seq ?_
      refine a_region ?_
      refine r_val (v := .rsl _ _ _ _ _) (v_move (.inl rfl) (noOwn_flat rfl)) rfl rfl (by decide) ?_
      refine r_val (v := .int _ _) (v_len_rsl sl69 (.inl rfl)) rfl rfl (by decide) ?_
      refine r_val (v := .int _ _) (v_move (.inl rfl) (noOwn_flat rfl)) rfl rfl (by decide) ?_
      refine r_nil ?_
      refine a_block ?_
      refine a_loop (X := Nat) (fun m => look [(0, .int .i64 p), (10, .osl 1 (icells (mb p (pw i) m (mbs p (dn vars) i xs))) (dn vars) none), (11, .int .i64 (i : Int)), (29, .int .i64 vars), (30, .int .i64 (i : Int)), (34, .int .i64 ((dn vars : Nat) : Int)), (35, .int .i64 (m : Int))]) (fun m => m ≤ dn vars) (fun m => dn vars - m) 0 (ent_look ⟨Weak.of_eq rfl, Weak.of_eq rfl, Weak.of_eq rfl, Weak.of_eq rfl, Weak.of_eq rfl, Weak.of_eq rfl, Weak.of_eq rfl, trivial⟩) (Nat.zero_le _) (fun m hG => ?_)
      refine a_seq ?_
      refine a_region ?_
      refine r_val (v := .bool _) (v_lss (.inl rfl) (.inl rfl)) rfl rfl (by decide) ?_
      refine r_nil ?_
      refine a_seq ?_
      refine a_cond rfl (fun ht36 => ?_) (fun ht36 => ?_)
      ·
        skip
        refine a_skip ?_
        refine a_seq ?_
        refine a_block ?_
        refine a_seq ?_
        have hm : m < dn vars := (by simp at ht36; omega)
        have hdv : 0 ≤ ((m / pw i : Nat) : Int) ∧ ((m / pw i : Nat) : Int) ≤ m := ⟨Int.natCast_nonneg _, Int.ofNat_le.2 (Nat.div_le_self _ _)⟩
        have hbt := pw_bits i (by omega) m (by omega)
        have hbM := mb_bd (p := p) (b := pw i) (by omega) (mbs_bd (p := p) (n := dn vars) (by omega) hbx i) m
        have hb1 := hbM m
        have hb2 := hbM (m - pw i)
        have hlM : (mb p (pw i) m (mbs p (dn vars) i xs)).length = dn vars := (by rw [mb_length, mbs_length]; exact hlen)
        have hpl : m * 1 + 1 ≤ (icells (mb p (pw i) m (mbs p (dn vars) i xs))).length := (by rw [icells_length, hlM]; omega)
        refine a_region ?_
        refine r_val (v := .int _ _) (v_move (.inl rfl) (noOwn_flat rfl)) rfl rfl (by decide) ?_
        refine r_val (v := .int _ _) (v_assign (.inl rfl) (noOwn_flat rfl)) rfl rfl (by decide) ?_
        refine r_nil ?_
        refine a_seq ?_
        refine a_region ?_
        refine r_val (v := .int _ _) (v_move (.inl rfl) (noOwn_flat rfl)) rfl rfl (by decide) ?_
        refine r_val (v := .int _ _) (v_move (.inl rfl) (noOwn_flat rfl)) rfl rfl (by decide) ?_
        refine r_val (v := .int .i64 ((m / pw i : Nat) : Int)) ((v_shr (.inl rfl) (.inl rfl) (fun _ => by omega)).cast (int_eq (by simp [pw]))) rfl rfl (by decide) ?_
        refine r_val (v := .int _ _) (v_and (.inl rfl) (.inl rfl) (fun _ => by omega)) rfl rfl (by decide) ?_
        refine r_val (v := .bool _) (v_eql (.inl rfl) (.inl rfl)) rfl rfl (by decide) ?_
        refine r_nil ?_
        refine a_cond rfl (fun ht42 => ?_) (fun ht42 => ?_)
        ·
          skip
          have hz : m &&& pw i ≠ 0 := hbt.2.1 (by rw [Int.toNat_natCast, show (1 : Int).toNat = 1 from rfl, decide_eq_true_eq] at ht42; omega)
          have hq := hbt.1 hz
          have hmul := mul_bd (a := p - 1) (b := gd (mb p (pw i) m (mbs p (dn vars) i xs)) (m - pw i)) (p := p) (by omega) hb2 (by omega)
          have hset : (icells (mb p (pw i) m (mbs p (dn vars) i xs))).set (m * 1) (.int .i64 ((gd (mb p (pw i) m (mbs p (dn vars) i xs)) m + (p - 1) * gd (mb p (pw i) m (mbs p (dn vars) i xs)) (m - pw i)) % p)) = icells (mb p (pw i) (m + 1) (mbs p (dn vars) i xs)) := (by rw [Nat.mul_one, icells_set, mb_more hz, mb_mod])
          refine a_region_tail (n := 20) mixed (by kernel_rfl) ?_
          refine t_val (v := .rsl _ _ _ _ _) (v_move (.inl rfl) (noOwn_flat rfl)) rfl rfl (by decide) (by kernel_rfl) ?_
          refine t_val (v := .int _ _) (v_move (.inl rfl) (noOwn_flat rfl)) rfl rfl (by decide) (by kernel_rfl) ?_
          refine t_val (v := .rsl _ _ _ _ _) (v_move (.inl rfl) (noOwn_flat rfl)) rfl rfl (by decide) (by kernel_rfl) ?_
          refine t_val (v := .int _ _) (v_move (.inl rfl) (noOwn_flat rfl)) rfl rfl (by decide) (by kernel_rfl) ?_
          refine t_val (v := .rp _ _) (v_indexAddr_rsl0 es69 (.inl rfl) (.inl rfl) (fun _ => by omega)) rfl rfl (by decide) (by kernel_rfl) ?_
          refine t_val (v := .int .i64 (gd (mb p (pw i) m (mbs p (dn vars) i xs)) m)) (v_load_rp1 ta3 (.inl rfl) rfl (fun _ => by rw [Nat.mul_one]; exact icells_get (gd_get (by rw [hlM]; omega))) rfl) rfl rfl (by decide) (by kernel_rfl) ?_
          refine t_val (v := .int _ _) (v_move (.inl rfl) (noOwn_flat rfl)) rfl rfl (by decide) (by kernel_rfl) ?_
          refine t_val (v := .int _ _) (v_sub (.inl rfl) (.inl rfl) (fun _ => by omega)) rfl rfl (by decide) (by kernel_rfl) ?_
          refine t_val (v := .rsl _ _ _ _ _) (v_move (.inl rfl) (noOwn_flat rfl)) rfl rfl (by decide) (by kernel_rfl) ?_
          refine t_val (v := .int _ _) (v_move (.inl rfl) (noOwn_flat rfl)) rfl rfl (by decide) (by kernel_rfl) ?_
          refine t_val (v := .int _ _) (v_move (.inl rfl) (noOwn_flat rfl)) rfl rfl (by decide) (by kernel_rfl) ?_
          refine t_val (v := .int .i64 ((pw i : Nat) : Int)) ((v_shl (.inl rfl) (.inl rfl) (fun _ => by omega)).cast (int_eq (by simp [pw]))) rfl rfl (by decide) (by kernel_rfl) ?_
          refine t_val (v := .int .i64 ((m - pw i : Nat) : Int)) ((v_andNot (.inl rfl) (.inl rfl) (fun _ => by omega)).cast (int_eq (by simp only [Int.toNat_natCast, hq.2]))) rfl rfl (by decide) (by kernel_rfl) ?_
          refine t_val (v := .rp _ _) (v_indexAddr_rsl0 es69 (.inl rfl) (.inl rfl) (fun _ => by omega)) rfl rfl (by decide) (by kernel_rfl) ?_
          refine t_val (v := .int .i64 (gd (mb p (pw i) m (mbs p (dn vars) i xs)) (m - pw i))) (v_load_rp1 ta3 (.inl rfl) rfl (fun _ => by rw [Nat.mul_one]; exact icells_get (gd_get (by rw [hlM]; omega))) rfl) rfl rfl (by decide) (by kernel_rfl) ?_
          refine t_val (v := .int _ _) (v_mul (.inl rfl) (.inl rfl) (fun _ => by omega)) rfl rfl (by decide) (by kernel_rfl) ?_
          refine t_val (v := .int _ _) (v_add (.inl rfl) (.inl rfl) (fun _ => by omega)) rfl rfl (by decide) (by kernel_rfl) ?_
          refine t_val (v := .int _ _) (v_move (.inl rfl) (noOwn_flat rfl)) rfl rfl (by decide) (by kernel_rfl) ?_
          refine t_val (v := .int _ _) (v_rem (.inl rfl) (.inl rfl) (fun _ => by omega)) rfl rfl (by decide) (by kernel_rfl) ?_
          refine t_val (v := .rp _ _) (v_indexAddr_rsl0 es69 (.inl rfl) (.inl rfl) (fun _ => by omega)) rfl rfl (by decide) (by kernel_rfl) ?_
          refine t_nil ?_
          refine r_step rfl (o_store (v := .int _ _) (y' := .osl _ _ _ _) rfl rfl ta3 (.inl rfl) (.inl rfl) rfl rfl rfl rfl rfl rfl hpl (by decide) rfl (congrArg (fun c => AV.osl 1 c (dn vars) none) hset)) ?_
          refine r_nil ?_
          refine a_pre (ent_look (L := [(0, .int _ _), (10, .osl _ _ _ _), (11, .int _ _), (29, .int _ _), (30, .int _ _), (34, .int _ _), (35, .int _ _)]) ⟨Weak.rfl, Weak.rfl, Weak.rfl, Weak.rfl, Weak.rfl, Weak.rfl, Weak.rfl, trivial⟩) ?_
          refine a_region ?_
          refine r_val (v := .int _ _) (v_add (.inl rfl) (.inl rfl) (fun _ => by omega)) rfl rfl (by decide) ?_
          refine r_val (v := .int _ _) (v_move (.inl rfl) (noOwn_flat rfl)) rfl rfl (by decide) ?_
          refine r_nil ?_
          refine ⟨m + 1, ent_look ⟨Weak.of_eq rfl, Weak.of_eq rfl, Weak.of_eq rfl, Weak.of_eq rfl, Weak.of_eq rfl, Weak.of_eq rfl, Weak.of_eq (int_eq (by omega)), trivial⟩, by omega, by omega⟩
        ·
          skip
          refine a_skip ?_
          refine a_region ?_
          refine r_val (v := .int _ _) (v_add (.inl rfl) (.inl rfl) (fun _ => by omega)) rfl rfl (by decide) ?_
          refine r_val (v := .int _ _) (v_move (.inl rfl) (noOwn_flat rfl)) rfl rfl (by decide) ?_
          refine r_nil ?_
          have ht42n : ¬ (m / pw i &&& 1 = 1) := (by intro h; rw [Int.toNat_natCast, show (1 : Int).toNat = 1 from rfl, h] at ht42; exact absurd ht42 (by decide))
          refine ⟨m + 1, ent_look ⟨Weak.of_eq rfl, Weak.osl (by rw [mb_skip (fun h => ht42n (hbt.2.2 h))]) rfl, Weak.of_eq rfl, Weak.of_eq rfl, Weak.of_eq rfl, Weak.of_eq rfl, Weak.of_eq (int_eq (by omega)), trivial⟩, by omega, by omega⟩
      ·
        skip
        refine a_exit ?_
        refine a_region ?_
        refine r_val (v := .int _ _) (v_add (.inl rfl) (.inl rfl) (fun _ => by omega)) rfl rfl (by decide) ?_
        refine r_val (v := .int _ _) (v_move (.inl rfl) (noOwn_flat rfl)) rfl rfl (by decide) ?_
        refine r_nil ?_
        refine ⟨i + 1, ent_look ⟨Weak.of_eq rfl, Weak.osl (by rw [mbs, show m = dn vars by simp at ht36; omega]) rfl, Weak.of_eq rfl, Weak.of_eq (int_eq (by omega)), trivial⟩, by omega, by omega⟩
    ·
      skip
      refine a_exit ?_
      refine a_seq ?_
      refine a_pre (ent_eq (t := 10) (v' := .osl 1 (icells (mbs p (dn vars) vars.toNat xs)) (dn vars) none) (Weak.osl (by simp at ht31; rw [show i = vars.toNat by omega]) rfl)) ?_
      refine a_region ?_
      refine r_val (v := .rsl _ _ _ _ _) (v_move (.inl rfl) (noOwn_flat rfl)) rfl rfl (by decide) ?_
      refine r_new (v := .osl _ _ _ _) (q_call (vs := [.rsl _ _ _ _ _]) (args := [.sl _ _]) hb65 ⟨.inl rfl, trivial⟩ (l1_eq (sl_sh (ic_pure _))) (fun hA => terms_c _ _ ⟨by rw [mbs_length]; exact hlen, by omega⟩) (tc_noSh _) (tc_noRef _)) rfl rfl (by decide) ?_
      refine r_val (v := .rsl _ _ _ _ _) (v_assign (.inl rfl) (noOwn_flat rfl)) rfl rfl (by decide) ?_
      refine r_pre (ent_reloc_sl (t := 6) rfl rfl) ?_
      refine r_val (v := .bool _) (v_assign (.inl rfl) (noOwn_flat rfl)) rfl rfl (by decide) ?_
      refine r_nil ?_
      refine a_ret ?_
      refine retL (rs := [.tmp 6, .tmp 7]) [(6, .osl _ _ _ none), (7, _)] ⟨Weak.osl rfl rfl, Weak.rfl, trivial⟩ rfl Try.results28 (by decide) ⟨by decide, by decide, rfl⟩ (by decide) (by decide) (l2_eq (osl_eq2 ?_ ?_) (bool_eq ?_)) (by simp [refsL, refs])
      · rw [if_pos hok]
      · rw [if_pos hok]
      · rw [hok]

theorem lawPolyWithValues_c (p vars : Int) (xs : List Int) (hl : (xs.length : Int) ≤ 9223372036854775807) : ACall Try.prog 6 [.int .i64 p, .int .i64 vars, .sl (icells xs) xs.length] [] (.bool true) [] := by
  have hr := valRes_len p vars xs
  refine ACall.intro Try.func6 rfl (N := 103) rfl (by decide) (by simp) ?_
  refine a_seq ?_
  refine a_region ?_
  refine r_val (v := .bool _) (v_assign (.inl rfl) (noOwn_flat rfl)) rfl rfl (by decide) ?_
  refine r_nil ?_
  refine a_seq ?_
  refine a_seq ?_
  refine a_region ?_
  refine r_val (v := .sl _ _) (v_move (.inl rfl) (noOwn_flat rfl)) rfl rfl (by decide) ?_
  refine r_val (v := .int _ _) (v_len_sl sl35 (.inl rfl)) rfl rfl (by decide) ?_
  refine r_val (v := .bool _) (v_gtr (.inl rfl) (.inl rfl)) rfl rfl (by decide) ?_
  refine r_nil ?_
  refine a_cond rfl (fun ht19 => ?_) (fun ht19 => ?_)
  ·
    skip
    refine a_seq ?_
    refine a_region ?_
    refine r_val (v := .bool _) (v_assign (.inl rfl) (noOwn_flat rfl)) rfl rfl (by decide) ?_
    refine r_nil ?_
    refine a_ret ?_
    refine ret1 Try.results6 (by decide) (by decide) (Weak.of_eq (bool_eq ?_)) rfl Leaves.nil
    first | rfl | (exfalso; simp at ht19; done) | (exfalso; simp at ht19; omega)
  ·
    skip
    refine a_skip ?_
    refine a_seq ?_
    have hle : (xs.length : Int) ≤ 1048576 := by simpa using ht19
    refine a_region ?_
    refine r_val (v := .int _ _) (v_move (.inl rfl) (noOwn_flat rfl)) rfl rfl (by decide) ?_
    refine r_val (v := .int _ _) (v_move (.inl rfl) (noOwn_flat rfl)) rfl rfl (by decide) ?_
    refine r_val (v := .sl _ _) (v_move (.inl rfl) (noOwn_flat rfl)) rfl rfl (by decide) ?_
    refine r_new (v := .osl _ _ _ _) (q_call (vs := [.sl _ _]) (args := [.sl _ _]) hb27 ⟨.inl rfl, trivial⟩ rfl (fun hA => toIntS_c _ (by omega)) (ic_noSh _) (ic_noRef _)) rfl rfl (by decide) ?_
    refine r_new (v := .tup [.osl _ _ _ _, .bool _]) (q_call (vs := [.int _ _, .int _ _, .rsl _ _ _ _ _]) (args := [.int .i64 _, .int .i64 _, .sl _ _]) hb26 ⟨.inl rfl, .inl rfl, .inl rfl, trivial⟩ (l3_eq rfl rfl (sl_sh (ic_pure _))) (fun hA => sPolyWithValues_c _ _ _ (by omega)) (by simp [noSh, noShL, tc_noSh]) (by simp [noRef, noRefL, tc_noRef])) rfl rfl (by decide) ?_
    refine r_val (v := .tup [.rsl _ _ _ _ _, .bool _]) (v_mv rfl) rfl rfl (by decide) ?_
    refine r_val (v := .rsl _ _ _ _ _) (v_extract rfl rfl) rfl rfl (by decide) ?_
    refine r_val (v := .bool _) (v_extract rfl rfl) rfl rfl (by decide) ?_
    refine r_val (v := .rsl _ _ _ _ _) (v_assign (.inl rfl) (noOwn_flat rfl)) rfl rfl (by decide) ?_
    refine r_pre (ent_reloc_sl (t := 7) rfl rfl) ?_
    refine r_val (v := .bool _) (v_assign (.inl rfl) (noOwn_flat rfl)) rfl rfl (by decide) ?_
    refine r_nil ?_
    refine a_seq ?_
    refine a_region ?_
    refine r_val (v := .sl _ _) (v_move (.inl rfl) (noOwn_flat rfl)) rfl rfl (by decide) ?_
    refine r_new (v := .osl _ _ _ _) (q_call (vs := [.sl _ _]) (args := [.sl _ _]) hb27 ⟨.inl rfl, trivial⟩ rfl (fun hA => toIntS_c _ (by omega)) (ic_noSh _) (ic_noRef _)) rfl rfl (by decide) ?_
    refine r_val (v := .rsl _ _ _ _ _) (v_assign (.inl rfl) (noOwn_flat rfl)) rfl rfl (by decide) ?_
    refine r_pre (ent_reloc_sl (t := 9) rfl rfl) ?_
    refine r_nil ?_
    refine a_seq ?_
    refine a_region ?_
    refine r_val (v := .int _ _) (v_move (.inl rfl) (noOwn_flat rfl)) rfl rfl (by decide) ?_
    refine r_val (v := .int _ _) (v_move (.inl rfl) (noOwn_flat rfl)) rfl rfl (by decide) ?_
    refine r_val (v := .rsl _ _ _ _ _) (v_move (.inl rfl) (noOwn_flat rfl)) rfl rfl (by decide) ?_
    refine r_new (v := .tup [.osl _ _ _ _, .bool _]) (q_call (vs := [.int _ _, .int _ _, .rsl _ _ _ _ _]) (args := [.int .i64 _, .int .i64 _, .sl _ _]) hb28 ⟨.inl rfl, .inl rfl, .inl rfl, trivial⟩ (l3_eq rfl rfl (sl_sh (ic_pure _))) (fun hA => iPolyWithValues_c _ _ _ (by omega)) (by simp [noSh, noShL, tc_noSh]) (by simp [noRef, noRefL, tc_noRef])) rfl rfl (by decide) ?_
    refine r_val (v := .tup [.rsl _ _ _ _ _, .bool _]) (v_mv rfl) rfl rfl (by decide) ?_
    refine r_val (v := .rsl _ _ _ _ _) (v_extract rfl rfl) rfl rfl (by decide) ?_
    refine r_val (v := .bool _) (v_extract rfl rfl) rfl rfl (by decide) ?_
    refine r_val (v := .rsl _ _ _ _ _) (v_assign (.inl rfl) (noOwn_flat rfl)) rfl rfl (by decide) ?_
    refine r_pre (ent_reloc_sl (t := 10) rfl rfl) ?_
    refine r_val (v := .bool _) (v_assign (.inl rfl) (noOwn_flat rfl)) rfl rfl (by decide) ?_
    refine r_nil ?_
    refine a_seq ?_
    refine a_seq ?_
    refine a_region ?_
    refine r_val (v := .rsl _ _ _ _ _) (v_move (.inl rfl) (noOwn_flat rfl)) rfl rfl (by decide) ?_
    refine r_val (v := .rsl _ _ _ _ _) (v_move (.inl rfl) (noOwn_flat rfl)) rfl rfl (by decide) ?_
    refine r_new (v := .bool _) (q_call (vs := [.rsl _ _ _ _ _, .rsl _ _ _ _ _]) (args := [.sl _ _, .sl _ _]) hb19 ⟨.inl rfl, .inl rfl, trivial⟩ (l2_eq (sl_sh (tc_pure _)) (sl_sh (tc_pure _))) (fun hA => eqTermS_c _ _ (by omega)) rfl rfl) rfl rfl (by decide) ?_
    refine r_val (v := .bool _) (v_not (.inl rfl)) rfl rfl (by decide) ?_
    refine r_val (v := .bool _) (v_move (.inl rfl) (noOwn_flat rfl)) rfl rfl (by decide) ?_
    refine r_gval (v := .bool _) (v_move (.inl rfl) (noOwn_flat rfl)) rfl rfl rfl (by decide) (.inl ⟨_, rfl, rfl⟩) rfl (by decide) ?_
    refine r_gval (v := .bool _) (v_move (.inl rfl) (noOwn_flat rfl)) rfl rfl rfl (by decide) (.inl ⟨_, rfl, rfl⟩) rfl (by decide) ?_
    refine r_gval (v := .bool _) (v_bne un4 (.inr ⟨_, rfl, fun h => h⟩) (.inr ⟨_, rfl, fun h => h⟩)) rfl rfl rfl (by decide) (.inl ⟨_, rfl, rfl⟩) rfl (by decide) ?_
    refine r_val (v := .bool _) (v_pick (.inl rfl) (.inl rfl) (.inr ⟨_, rfl, fun h h2 => by simp_all⟩)) rfl rfl (by decide) ?_
    refine r_nil ?_
    refine a_cond rfl (fun ht45 => ?_) (fun ht45 => ?_)
    ·
      skip
      refine a_seq ?_
      refine a_pre (ent_look (L := [(0, .int _ _), (1, .int _ _), (2, .sl _ _), (6, .bool _), (7, .osl _ _ _ _), (8, .bool _), (9, .osl _ _ _ _), (10, .osl _ _ _ _), (11, .bool _)]) ⟨Weak.rfl, Weak.rfl, Weak.rfl, Weak.rfl, Weak.rfl, Weak.rfl, Weak.rfl, Weak.rfl, Weak.rfl, trivial⟩) ?_
      refine a_region ?_
      refine r_val (v := .bool _) (v_assign (.inl rfl) (noOwn_flat rfl)) rfl rfl (by decide) ?_
      refine r_nil ?_
      refine a_ret ?_
      refine ret1 Try.results6 (by decide) (by decide) (Weak.of_eq (bool_eq ?_)) rfl Leaves.nil
      first | rfl | (exfalso; simp at ht45; done) | (exfalso; simp at ht45; omega)
    ·
      skip
      refine a_skip ?_
      refine a_seq ?_
      refine a_seq ?_
      refine a_pre (ent_look (L := [(0, .int _ _), (1, .int _ _), (2, .sl _ _), (6, .bool _), (7, .osl _ _ _ _), (8, .bool _), (9, .osl _ _ _ _), (10, .osl _ _ _ _), (11, .bool _)]) ⟨Weak.rfl, Weak.rfl, Weak.rfl, Weak.rfl, Weak.rfl, Weak.rfl, Weak.rfl, Weak.rfl, Weak.rfl, trivial⟩) ?_
      refine a_region ?_
      refine r_val (v := .rsl _ _ _ _ _) (v_move (.inl rfl) (noOwn_flat rfl)) rfl rfl (by decide) ?_
      refine r_val (v := .sl _ _) (v_move (.inl rfl) (noOwn_flat rfl)) rfl rfl (by decide) ?_
      refine r_new (v := .osl _ _ _ _) (q_call (vs := [.sl _ _]) (args := [.sl _ _]) hb27 ⟨.inl rfl, trivial⟩ rfl (fun hA => toIntS_c _ (by omega)) (ic_noSh _) (ic_noRef _)) rfl rfl (by decide) ?_
      refine r_new (v := .bool _) (q_call (vs := [.rsl _ _ _ _ _, .rsl _ _ _ _ _]) (args := [.sl _ _, .sl _ _]) hb29 ⟨.inl rfl, .inl rfl, trivial⟩ (l2_eq (sl_sh (ic_pure _)) (sl_sh (ic_pure _))) (fun hA => eqIntS_c _ _ (by omega)) rfl rfl) rfl rfl (by decide) ?_
      refine r_val (v := .bool _) (v_not (.inl rfl)) rfl rfl (by decide) ?_
      refine r_nil ?_
      refine a_cond rfl (fun ht50 => ?_) (fun ht50 => ?_)
      ·
        skip
        refine a_seq ?_
        refine a_region ?_
        refine r_val (v := .bool _) (v_assign (.inl rfl) (noOwn_flat rfl)) rfl rfl (by decide) ?_
        refine r_nil ?_
        refine a_ret ?_
        refine ret1 Try.results6 (by decide) (by decide) (Weak.of_eq (bool_eq ?_)) rfl Leaves.nil
        first | rfl | (exfalso; simp at ht50; done) | (exfalso; simp at ht50; omega)
      ·
        skip
        refine a_skip ?_
        refine a_seq ?_
        refine a_region ?_
        refine r_val (v := .int _ _) (v_assign (.inl rfl) (noOwn_flat rfl)) rfl rfl (by decide) ?_
        refine r_nil ?_
        refine a_seq ?_
        refine a_region ?_
        refine r_val (v := .rsl _ _ _ _ _) (v_move (.inl rfl) (noOwn_flat rfl)) rfl rfl (by decide) ?_
        refine r_val (v := .int _ _) (v_move (.inl rfl) (noOwn_flat rfl)) rfl rfl (by decide) ?_
        refine r_step rfl (o_callIO (q := (9, [])) (vs := [.rsl _ _ _ _ _, .int _ _]) (args := [.rsl (INH, []) _ _ _ _, .int .i64 _]) (x0 := .osl _ _ _ _) (x1 := .osl _ _ _ _) (res := .int _ _) rfl hb30 rfl (by decide) ⟨.inl rfl, .inl rfl, trivial⟩ rfl rfl (markIntS_c _ _ (by omega)) rfl rfl rfl (ic_noSh _) (ic_noRef _) (Nat.le_of_ble_eq_true rfl) (by decide) rfl) ?_
        refine r_val (v := .int _ _) (v_assign (.inl rfl) (noOwn_flat rfl)) rfl rfl (by decide) ?_
        refine r_nil ?_
        refine a_seq ?_
        refine a_seq ?_
        refine a_region ?_
        refine r_val (v := .int _ _) (v_move (.inl rfl) (noOwn_flat rfl)) rfl rfl (by decide) ?_
        refine r_val (v := .bool _) (v_lss (.inl rfl) (.inl rfl)) rfl rfl (by decide) ?_
        refine r_val (v := .bool _) (v_move (.inl rfl) (noOwn_flat rfl)) rfl rfl (by decide) ?_
        refine r_gval (v := .rsl _ _ _ _ _) (v_move (.inl rfl) (noOwn_flat rfl)) rfl rfl rfl (by decide) (.inl ⟨_, rfl, rfl⟩) rfl (by decide) ?_
        refine r_gval (v := .rsl _ _ _ _ _) (v_move (.inl rfl) (noOwn_flat rfl)) rfl rfl rfl (by decide) (.inl ⟨_, rfl, rfl⟩) rfl (by decide) ?_
        refine r_guard (v := .bool _) (q_call (vs := [.rsl _ _ _ _ _, .rsl _ _ _ _ _]) (args := [.sl _ _, .sl _ _]) hb19 ⟨.inr ⟨_, rfl, fun h => h⟩, .inr ⟨_, rfl, fun h => h⟩, trivial⟩ (l2_eq (sl_sh (tc_pure _)) (sl_sh (tc_pure _))) (fun hA => eqTermS_c _ _ (by omega)) rfl rfl) rfl rfl rfl (by decide) (.inl ⟨_, rfl, rfl⟩) rfl (by decide) ?_
        refine r_gval (v := .bool _) (v_not (.inr ⟨_, rfl, fun h => h⟩)) rfl rfl rfl (by decide) (.inl ⟨_, rfl, rfl⟩) rfl (by decide) ?_
        refine r_val (v := .bool _) (v_pick (.inl rfl) (.inl rfl) (.inr ⟨_, rfl, fun h h2 => by simp_all⟩)) rfl rfl (by decide) ?_
        refine r_val (v := .bool _) (v_move (.inl rfl) (noOwn_flat rfl)) rfl rfl (by decide) ?_
        refine r_gval (v := .bool _) (v_move (.inl rfl) (noOwn_flat rfl)) rfl rfl rfl (by decide) (.inl ⟨_, rfl, rfl⟩) rfl (by decide) ?_
        refine r_gval (v := .bool _) (v_move (.inl rfl) (noOwn_flat rfl)) rfl rfl rfl (by decide) (.inl ⟨_, rfl, rfl⟩) rfl (by decide) ?_
        refine r_gval (v := .bool _) (v_bne un4 (.inr ⟨_, rfl, fun h => h⟩) (.inr ⟨_, rfl, fun h => h⟩)) rfl rfl rfl (by decide) (.inl ⟨_, rfl, rfl⟩) rfl (by decide) ?_
        refine r_val (v := .bool _) (v_pick (.inl rfl) (.inl rfl) (.inr ⟨_, rfl, fun h h2 => by simp_all⟩)) rfl rfl (by decide) ?_
        refine r_nil ?_
        refine a_cond rfl (fun ht66 => ?_) (fun ht66 => ?_)
        ·
          skip
          refine a_seq ?_
          refine a_pre (ent_look (L := [(0, .int _ _), (1, .int _ _), (2, .sl _ _), (6, .bool _), (7, .osl _ _ _ _), (8, .bool _), (10, .osl _ _ _ _)]) ⟨Weak.rfl, Weak.rfl, Weak.rfl, Weak.rfl, Weak.rfl, Weak.rfl, Weak.rfl, trivial⟩) ?_
          refine a_region ?_
          refine r_val (v := .bool _) (v_assign (.inl rfl) (noOwn_flat rfl)) rfl rfl (by decide) ?_
          refine r_nil ?_
          refine a_ret ?_
          refine ret1 Try.results6 (by decide) (by decide) (Weak.of_eq (bool_eq ?_)) rfl Leaves.nil
          first | rfl | (exfalso; simp at ht66; done) | (exfalso; simp at ht66; omega)
        ·
          skip
          refine a_skip ?_
          refine a_seq ?_
          refine a_pre (ent_look (L := [(0, .int _ _), (1, .int _ _), (2, .sl _ _), (6, .bool _), (7, .osl _ _ _ _), (8, .bool _), (10, .osl _ _ _ _)]) ⟨Weak.rfl, Weak.rfl, Weak.rfl, Weak.rfl, Weak.rfl, Weak.rfl, Weak.rfl, trivial⟩) ?_
          refine a_region ?_
          refine r_val (v := .int _ _) (v_assign (.inl rfl) (noOwn_flat rfl)) rfl rfl (by decide) ?_
          refine r_nil ?_
          refine a_seq ?_
          refine a_region ?_
          refine r_val (v := .rsl _ _ _ _ _) (v_move (.inl rfl) (noOwn_flat rfl)) rfl rfl (by decide) ?_
          refine r_val (v := .int _ _) (v_move (.inl rfl) (noOwn_flat rfl)) rfl rfl (by decide) ?_
          refine r_step rfl (o_callIO (q := (10, [])) (vs := [.rsl _ _ _ _ _, .int _ _]) (args := [.rsl (INH, []) _ _ _ _, .int .i64 _]) (x0 := .osl _ _ _ _) (x1 := .osl _ _ _ _) (res := .int _ _) rfl hb24 rfl (by decide) ⟨.inl rfl, .inl rfl, trivial⟩ rfl rfl (markTermS_c _ _ (by omega)) rfl rfl rfl (tc_noSh _) (tc_noRef _) (Nat.le_of_ble_eq_true rfl) (by decide) rfl) ?_
          refine r_val (v := .int _ _) (v_assign (.inl rfl) (noOwn_flat rfl)) rfl rfl (by decide) ?_
          refine r_nil ?_
          refine a_seq ?_
          refine a_region ?_
          refine r_val (v := .int _ _) (v_assign (.inl rfl) (noOwn_flat rfl)) rfl rfl (by decide) ?_
          refine r_nil ?_
          refine a_seq ?_
          refine a_region ?_
          refine r_val (v := .rsl _ _ _ _ _) (v_move (.inl rfl) (noOwn_flat rfl)) rfl rfl (by decide) ?_
          refine r_val (v := .int _ _) (v_move (.inl rfl) (noOwn_flat rfl)) rfl rfl (by decide) ?_
          refine r_new (v := .int _ _) (q_call (vs := [.rsl _ _ _ _ _, .int _ _]) (args := [.sl _ _, .int .i64 _]) hb25 ⟨.inl rfl, .inl rfl, trivial⟩ (l2_eq (sl_sh (tc_pure _)) rfl) (fun hA => heldTermS_c _ _ (by omega)) rfl rfl) rfl rfl (by decide) ?_
          refine r_val (v := .int _ _) (v_assign (.inl rfl) (noOwn_flat rfl)) rfl rfl (by decide) ?_
          refine r_nil ?_
          refine a_seq ?_
          refine a_seq ?_
          refine a_region ?_
          refine r_val (v := .int _ _) (v_move (.inl rfl) (noOwn_flat rfl)) rfl rfl (by decide) ?_
          refine r_val (v := .bool _) (v_lss (.inl rfl) (.inl rfl)) rfl rfl (by decide) ?_
          refine r_nil ?_
          refine a_cond rfl (fun ht74 => ?_) (fun ht74 => ?_)
          ·
            skip
            refine a_seq ?_
            refine a_region ?_
            refine r_val (v := .bool _) (v_assign (.inl rfl) (noOwn_flat rfl)) rfl rfl (by decide) ?_
            refine r_nil ?_
            refine a_ret ?_
            refine ret1 Try.results6 (by decide) (by decide) (Weak.of_eq (bool_eq ?_)) rfl Leaves.nil
            first | rfl | (exfalso; simp at ht74; done) | (exfalso; simp at ht74; omega)
          ·
            skip
            refine a_skip ?_
            refine a_seq ?_
            refine a_seq ?_
            refine a_region ?_
            refine r_val (v := .int _ _) (v_move (.inl rfl) (noOwn_flat rfl)) rfl rfl (by decide) ?_
            refine r_val (v := .int _ _) (v_move (.inl rfl) (noOwn_flat rfl)) rfl rfl (by decide) ?_
            refine r_val (v := .bool _) (v_neq (.inl rfl) (.inl rfl)) rfl rfl (by decide) ?_
            refine r_nil ?_
            refine a_cond rfl (fun ht77 => ?_) (fun ht77 => ?_)
            ·
              skip
              refine a_seq ?_
              refine a_region ?_
              refine r_val (v := .bool _) (v_assign (.inl rfl) (noOwn_flat rfl)) rfl rfl (by decide) ?_
              refine r_nil ?_
              refine a_ret ?_
              refine ret1 Try.results6 (by decide) (by decide) (Weak.of_eq (bool_eq ?_)) rfl Leaves.nil
              first | rfl | (exfalso; simp at ht77; done) | (exfalso; simp at ht77; omega)
            ·
              skip
              refine a_skip ?_
              refine a_seq ?_
              refine a_region ?_
              refine r_val (v := .int _ _) (v_move (.inl rfl) (noOwn_flat rfl)) rfl rfl (by decide) ?_
              refine r_val (v := .int _ _) (v_move (.inl rfl) (noOwn_flat rfl)) rfl rfl (by decide) ?_
              refine r_val (v := .sl _ _) (v_move (.inl rfl) (noOwn_flat rfl)) rfl rfl (by decide) ?_
              refine r_new (v := .osl _ _ _ _) (q_call (vs := [.sl _ _]) (args := [.sl _ _]) hb27 ⟨.inl rfl, trivial⟩ rfl (fun hA => toIntS_c _ (by omega)) (ic_noSh _) (ic_noRef _)) rfl rfl (by decide) ?_
              refine r_new (v := .tup [.osl _ _ _ _, .bool _]) (q_call (vs := [.int _ _, .int _ _, .rsl _ _ _ _ _]) (args := [.int .i64 _, .int .i64 _, .sl _ _]) hb28 ⟨.inl rfl, .inl rfl, .inl rfl, trivial⟩ (l3_eq rfl rfl (sl_sh (ic_pure _))) (fun hA => iPolyWithValues_c _ _ _ (by omega)) (by simp [noSh, noShL, tc_noSh]) (by simp [noRef, noRefL, tc_noRef])) rfl rfl (by decide) ?_
              refine r_val (v := .tup [.rsl _ _ _ _ _, .bool _]) (v_mv rfl) rfl rfl (by decide) ?_
              refine r_val (v := .rsl _ _ _ _ _) (v_extract rfl rfl) rfl rfl (by decide) ?_
              refine r_val (v := .bool _) (v_extract rfl rfl) rfl rfl (by decide) ?_
              refine r_val (v := .rsl _ _ _ _ _) (v_assign (.inl rfl) (noOwn_flat rfl)) rfl rfl (by decide) ?_
              refine r_pre (ent_reloc_sl (t := 15) rfl rfl) ?_
              refine r_val (v := .bool _) (v_assign (.inl rfl) (noOwn_flat rfl)) rfl rfl (by decide) ?_
              refine r_nil ?_
              refine a_seq ?_
              refine a_seq ?_
              refine a_pre (ent_look (L := [(6, .bool _), (7, .osl _ _ _ _), (8, .bool _), (10, .osl _ _ _ _), (13, .int _ _), (14, .int _ _), (15, .osl _ _ _ _), (16, .bool _)]) ⟨Weak.rfl, Weak.rfl, Weak.rfl, Weak.rfl, Weak.rfl, Weak.rfl, Weak.rfl, Weak.rfl, trivial⟩) ?_
              refine a_region ?_
              refine r_val (v := .rsl _ _ _ _ _) (v_move (.inl rfl) (noOwn_flat rfl)) rfl rfl (by decide) ?_
              refine r_val (v := .rsl _ _ _ _ _) (v_move (.inl rfl) (noOwn_flat rfl)) rfl rfl (by decide) ?_
              refine r_new (v := .bool _) (q_call (vs := [.rsl _ _ _ _ _, .rsl _ _ _ _ _]) (args := [.sl _ _, .sl _ _]) hb19 ⟨.inl rfl, .inl rfl, trivial⟩ (l2_eq (sl_sh (tc_pure _)) (sl_sh (tc_pure _))) (fun hA => eqTermS_c _ _ (by omega)) rfl rfl) rfl rfl (by decide) ?_
              refine r_val (v := .bool _) (v_not (.inl rfl)) rfl rfl (by decide) ?_
              refine r_val (v := .bool _) (v_move (.inl rfl) (noOwn_flat rfl)) rfl rfl (by decide) ?_
              refine r_gval (v := .bool _) (v_move (.inl rfl) (noOwn_flat rfl)) rfl rfl rfl (by decide) (.inl ⟨_, rfl, rfl⟩) rfl (by decide) ?_
              refine r_gval (v := .bool _) (v_move (.inl rfl) (noOwn_flat rfl)) rfl rfl rfl (by decide) (.inl ⟨_, rfl, rfl⟩) rfl (by decide) ?_
              refine r_gval (v := .bool _) (v_bne un4 (.inr ⟨_, rfl, fun h => h⟩) (.inr ⟨_, rfl, fun h => h⟩)) rfl rfl rfl (by decide) (.inl ⟨_, rfl, rfl⟩) rfl (by decide) ?_
              refine r_val (v := .bool _) (v_pick (.inl rfl) (.inl rfl) (.inr ⟨_, rfl, fun h h2 => by simp_all⟩)) rfl rfl (by decide) ?_
              refine r_nil ?_
              refine a_cond rfl (fun ht94 => ?_) (fun ht94 => ?_)
              ·
                skip
                refine a_seq ?_
                refine a_region ?_
                refine r_val (v := .bool _) (v_assign (.inl rfl) (noOwn_flat rfl)) rfl rfl (by decide) ?_
                refine r_nil ?_
                refine a_ret ?_
                refine ret1 Try.results6 (by decide) (by decide) (Weak.of_eq (bool_eq ?_)) rfl Leaves.nil
                first | rfl | (exfalso; simp at ht94; done) | (exfalso; simp at ht94; omega)
              ·
                skip
                refine a_skip ?_
                refine a_seq ?_
                refine a_region ?_
                refine r_val (v := .int _ _) (v_assign (.inl rfl) (noOwn_flat rfl)) rfl rfl (by decide) ?_
                refine r_nil ?_
                refine a_seq ?_
                refine a_region ?_
                refine r_val (v := .rsl _ _ _ _ _) (v_move (.inl rfl) (noOwn_flat rfl)) rfl rfl (by decide) ?_
                refine r_val (v := .int _ _) (v_move (.inl rfl) (noOwn_flat rfl)) rfl rfl (by decide) ?_
                refine r_new (v := .int _ _) (q_call (vs := [.rsl _ _ _ _ _, .int _ _]) (args := [.sl _ _, .int .i64 _]) hb25 ⟨.inl rfl, .inl rfl, trivial⟩ (l2_eq (sl_sh (tc_pure _)) rfl) (fun hA => heldTermS_c _ _ (by omega)) rfl rfl) rfl rfl (by decide) ?_
                refine r_val (v := .int _ _) (v_assign (.inl rfl) (noOwn_flat rfl)) rfl rfl (by decide) ?_
                refine r_nil ?_
                refine a_seq ?_
                refine a_seq ?_
                refine a_region ?_
                refine r_val (v := .int _ _) (v_move (.inl rfl) (noOwn_flat rfl)) rfl rfl (by decide) ?_
                refine r_val (v := .bool _) (v_lss (.inl rfl) (.inl rfl)) rfl rfl (by decide) ?_
                refine r_nil ?_
                refine a_cond rfl (fun ht99 => ?_) (fun ht99 => ?_)
                ·
                  skip
                  refine a_seq ?_
                  refine a_region ?_
                  refine r_val (v := .bool _) (v_assign (.inl rfl) (noOwn_flat rfl)) rfl rfl (by decide) ?_
                  refine r_nil ?_
                  refine a_ret ?_
                  refine ret1 Try.results6 (by decide) (by decide) (Weak.of_eq (bool_eq ?_)) rfl Leaves.nil
                  first | rfl | (exfalso; simp at ht99; done) | (exfalso; simp at ht99; omega)
                ·
                  skip
                  refine a_skip ?_
                  refine a_seq ?_
                  refine a_seq ?_
                  refine a_region ?_
                  refine r_val (v := .int _ _) (v_move (.inl rfl) (noOwn_flat rfl)) rfl rfl (by decide) ?_
                  refine r_val (v := .int _ _) (v_move (.inl rfl) (noOwn_flat rfl)) rfl rfl (by decide) ?_
                  refine r_val (v := .bool _) (v_neq (.inl rfl) (.inl rfl)) rfl rfl (by decide) ?_
                  refine r_nil ?_
                  refine a_cond rfl (fun ht102 => ?_) (fun ht102 => ?_)
                  ·
                    skip
                    refine a_seq ?_
                    refine a_region ?_
                    refine r_val (v := .bool _) (v_assign (.inl rfl) (noOwn_flat rfl)) rfl rfl (by decide) ?_
                    refine r_nil ?_
                    refine a_ret ?_
                    refine ret1 Try.results6 (by decide) (by decide) (Weak.of_eq (bool_eq ?_)) rfl Leaves.nil
                    first | rfl | (exfalso; simp at ht102; done) | (exfalso; simp at ht102; omega)
                  ·
                    skip
                    refine a_skip ?_
                    refine a_seq ?_
                    refine a_region ?_
                    refine r_val (v := .bool _) (v_assign (.inl rfl) (noOwn_flat rfl)) rfl rfl (by decide) ?_
                    refine r_nil ?_
                    refine a_ret ?_
                    refine ret1 Try.results6 (by decide) (by decide) (Weak.of_eq (bool_eq ?_)) rfl Leaves.nil
                    first | rfl | (exfalso; simp at ht102; done) | (exfalso; simp at ht102; omega)
end Go.Av
