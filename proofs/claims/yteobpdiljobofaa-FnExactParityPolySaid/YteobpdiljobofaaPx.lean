/- Parities. -/
import Derived.Test.YteobpdiljobofaaPw
import Derived.Test.YteobpdiljobofaaVc
set_option linter.unusedVariables false
set_option linter.unusedSimpArgs false
namespace Go.Av
open Go
/-- The number of ones, as the library counts them. -/
def oc1 (n : Nat) : Nat := (n / 2 &&& 6148914691236517205) + (n &&& 6148914691236517205)
def oc2 (n : Nat) : Nat := (n / 4 &&& 3689348814741910323) + (n &&& 3689348814741910323)
def oc3 (n : Nat) : Nat := n / 16 + n &&& 1085102592571150095
def oc4 (n : Nat) : Nat := n + n / 256
def oc5 (n : Nat) : Nat := n + n / 65536
def oc6 (n : Nat) : Nat := n + n / 4294967296
def oc (n : Nat) : Nat := oc6 (oc5 (oc4 (oc3 (oc2 (oc1 n))))) &&& 127
theorem oc1_le (n : Nat) : oc1 n ≤ n / 2 + n := Nat.add_le_add Nat.and_le_left Nat.and_le_left
theorem oc2_le (n : Nat) : oc2 n ≤ n / 4 + n := Nat.add_le_add Nat.and_le_left Nat.and_le_left
theorem oc3_le (n : Nat) : oc3 n ≤ n / 16 + n := Nat.and_le_left
/-- The bits of a row of variables. -/
def bitsN (c : List Int) : Nat → Nat
  | 0 => 0
  | i + 1 => if 0 < gd c i then bitsN c i ||| pw (gd c i - 1).toNat else bitsN c i
theorem bitsN_lt {c : List Int} (h : ∀ j, gd c j ≤ 62) : ∀ i, bitsN c i < 2 ^ 62
  | 0 => by simp [bitsN]
  | i + 1 => by
    have ih := bitsN_lt h i
    rw [bitsN]; split
    · exact Nat.or_lt_two_pow ih (Nat.pow_lt_pow_right (by decide) (by have := h i; omega))
    · exact ih
def okR (lo hi : Int) (c : List Int) (i : Nat) : Bool := inR (gd c i) lo hi && (decide (i = 0) || decide (gd c (i - 1) < gd c i))
/-- Does the row rise within bounds? -/
def risB (lo hi : Int) (c : List Int) : Bool := (List.range c.length).all (okR lo hi c)
theorem ris_false {lo hi : Int} {c : List Int} {i : Nat} (hi' : i < c.length) (h : okR lo hi c i = false) : risB lo hi c = false := by
  unfold risB; rw [List.all_eq_false]; exact ⟨i, by simpa using hi', by simp [h]⟩
theorem ris_true {lo hi : Int} {c : List Int} (h : ∀ j, j < c.length → okR lo hi c j = true) : risB lo hi c = true := by
  unfold risB; rw [List.all_eq_true]; intro i hi; exact h i (by simpa using hi)
theorem ris_spec {lo hi : Int} {c : List Int} (h : risB lo hi c = true) {i : Nat} (hi' : i < c.length) : (lo ≤ gd c i ∧ gd c i ≤ hi) ∧ (i = 0 ∨ gd c (i - 1) < gd c i) := by
  simp only [risB, List.all_eq_true, List.mem_range] at h
  have := h i hi'
  simp only [okR, Bool.and_eq_true, inR_spec, Bool.or_eq_true, decide_eq_true_eq] at this
  exact this
theorem gd_out {c : List Int} {j : Nat} (h : c.length ≤ j) : gd c j = 0 := by simp [gd, h]
theorem ris_le {vars : Int} {c : List Int} (hv : 0 ≤ vars) (h : risB 1 vars c = true) (j : Nat) : 0 ≤ gd c j ∧ gd c j ≤ vars := by
  rcases Nat.lt_or_ge j c.length with hj | hj
  · have := (ris_spec h hj).1; omega
  · rw [gd_out hj]; omega
theorem ris_eq {vars : Int} {c : List Int} (hv : 0 ≤ vars ∧ vars ≤ 12) : (clB vars c && !(List.range c.length).any (fun i => decide (gd c i < 0))) = risB 1 vars c := by
  rw [Bool.eq_iff_iff]
  simp only [Bool.and_eq_true, Bool.not_eq_true', List.any_eq_false, List.mem_range, decide_eq_true_eq]
  constructor
  · rintro ⟨h, hn⟩
    refine ris_true fun j hj => ?_
    have h1 := (clB_spec h).2 j hj
    have hl : ∀ i, i < c.length → 1 ≤ gd c i ∧ gd c i ≤ vars := fun i hi => by
      have := litB_spec.1 (clB_lit h hi); have := hn i hi; omega
    have a := hl j hj
    simp only [okC, Bool.and_eq_true, Bool.or_eq_true, decide_eq_true_eq] at h1
    simp only [okR, Bool.and_eq_true, inR_spec, Bool.or_eq_true, decide_eq_true_eq]
    refine ⟨by omega, ?_⟩
    rcases h1.2 with h2 | h2
    · exact .inl h2
    · by_cases h0 : j = 0
      · exact .inl h0
      · have b := hl (j - 1) (by omega)
        unfold vr at h2
        rw [if_neg (by omega), if_neg (by omega)] at h2
        exact .inr h2
  · intro h
    have hs := fun i hi => ris_spec h (i := i) hi
    refine ⟨clB_true (inR_spec.2 hv) fun j hj => ?_, fun j hj => by have := (hs j hj).1; omega⟩
    have a := hs j hj
    simp only [okC, Bool.and_eq_true, litB_spec, Bool.or_eq_true, decide_eq_true_eq]
    refine ⟨by omega, ?_⟩
    rcases a.2 with h2 | h2
    · exact .inl h2
    · by_cases h0 : j = 0
      · exact .inl h0
      · have b := (hs (j - 1) (by omega)).1
        unfold vr
        rw [if_neg (by omega), if_neg (by omega)]
        exact .inr h2
def cntI (c : List Int) (m : Nat) : Nat → Nat
  | 0 => 0
  | k + 1 => cntI c m k + (m / pw (gd c k - 1).toNat &&& 1)
theorem cntI_le (c : List Int) (m : Nat) : ∀ k, cntI c m k ≤ k
  | 0 => Nat.le_refl _
  | k + 1 => by
    have := cntI_le c m k
    have h : m / pw (gd c k - 1).toNat &&& 1 ≤ 1 := Nat.and_le_right
    rw [cntI]; omega
theorem oc_bits : ∀ e < 6, ∀ B < 64, B < pw e → ∀ m < 64, oc (m &&& (B ||| pw e)) = oc (m &&& B) + (m / pw e &&& 1) := by decide +kernel
theorem oc_cnt {vars : Int} {c : List Int} {m : Nat} (hv : 0 ≤ vars ∧ vars ≤ 6) (h : risB 1 vars c = true) (hm : m < 64) : ∀ k, k ≤ c.length → bitsN c k < pw (if k = 0 then 0 else (gd c (k - 1)).toNat) ∧ oc (m &&& bitsN c k) = cntI c m k
  | 0, _ => ⟨show 0 < pw 0 by decide, by simp [bitsN, cntI]; rfl⟩
  | k + 1, hk => by
    have ih := oc_cnt hv h hm k (by omega)
    have a := ris_spec h (i := k) (by omega)
    have hB : bitsN c k < pw (gd c k - 1).toNat := by
      refine Nat.lt_of_lt_of_le ih.1 ?_
      split
      · exact Nat.pow_le_pow_right (by decide) (by omega)
      · refine Nat.pow_le_pow_right (by decide) ?_
        have := a.2; omega
    have h6 : (gd c k - 1).toNat < 6 := by omega
    have hB6 : bitsN c k < 64 := Nat.lt_of_lt_of_le hB (show pw _ ≤ pw 6 from Nat.pow_le_pow_right (by decide) (by omega))
    rw [bitsN, if_pos (by omega), cntI, oc_bits _ h6 _ hB6 hB m hm, ih.2]
    refine ⟨?_, rfl⟩
    rw [if_neg (by omega), show k + 1 - 1 = k from rfl]
    refine Nat.or_lt_two_pow ?_ ?_
    · exact Nat.lt_of_lt_of_le hB (Nat.pow_le_pow_right (by decide) (by omega))
    · exact Nat.pow_lt_pow_right (by decide) (by omega)
/-- The value at one point, and all values. -/
def parV (c : List Int) (b : Bool) (m : Nat) : Int := if (decide (cntI c m c.length % 2 = 1) == b) = true then 0 else 1
def parL (c : List Int) (b : Bool) (n : Nat) : List Int := (List.range n).map (parV c b)
theorem parL_length (c : List Int) (b : Bool) (n : Nat) : (parL c b n).length = n := by simp [parL]
theorem parL_succ (c : List Int) (b : Bool) (n : Nat) : parL c b (n + 1) = parL c b n ++ [parV c b n] := by simp [parL, List.range_succ]
theorem parL_get {c : List Int} {b : Bool} {n m : Nat} (h : m < n) : (parL c b n)[m]? = some (parV c b m) := by simp [parL, h]
theorem parV_bd (c : List Int) (b : Bool) (m : Nat) : 0 ≤ parV c b m ∧ parV c b m ≤ 1 := by unfold parV; split <;> omega
theorem par_val {p vars : Int} {c : List Int} {b : Bool} (hp : prime p vars = true) : valB p vars (parL c b (dn vars)) = true := by
  have hpp := prime_spec hp
  unfold valB
  rw [hp, parL_length, vals_true fun j hj => ?_]
  · simp
  · rw [parL_length] at hj
    have : gd (parL c b (dn vars)) j = parV c b j := by simp [gd, parL_get hj]
    rw [this, inR_spec]; have := parV_bd c b j; omega
theorem part_skip {α : Type} (z : α) (xs : List α) {i : Nat} (h : xs[i]? = some z) : part z xs (i + 1) = part z xs i := by
  rw [← part_set z xs h]
  have hi : i < xs.length := (List.getElem?_eq_some_iff.1 h).1
  refine List.ext_getElem? fun j => ?_
  rw [List.getElem?_set]
  split
  · rename_i e; subst e
    rw [if_pos (by rw [part_length _ _ (by omega)]; exact hi)]
    unfold part
    rw [List.getElem?_append_right (by simp; omega)]
    simp only [List.length_take, show i - min i xs.length = 0 by omega]
    rw [List.getElem?_replicate, if_pos (by omega)]
  · rfl
theorem parRes_len (p vars : Int) (c : List Int) (b : Bool) : (if prime p vars && risB 1 vars c then trm (mbs p (dn vars) vars.toNat (parL c b (dn vars))) else []).length ≤ 64 := by
  split
  · rename_i h
    simp only [Bool.and_eq_true] at h
    have := trm_len (mbs p (dn vars) vars.toNat (parL c b (dn vars)))
    rw [mbs_length, parL_length] at this
    have := dn_le (prime_spec h.1).2
    omega
  · simp
end Go.Av
namespace Go.Av
open Go Go.Proofs
set_option maxRecDepth 10000
theorem hb115 : hasBody Try.prog 115 = true := by kernel_rfl
theorem hb122 : hasBody Try.prog 122 = true := by kernel_rfl
theorem hb48 : hasBody Try.prog 48 = true := by kernel_rfl
theorem hb49 : hasBody Try.prog 49 = true := by kernel_rfl
theorem hb95 : hasBody Try.prog 95 = true := by kernel_rfl
theorem hb97 : hasBody Try.prog 97 = true := by kernel_rfl
theorem hb98 : hasBody Try.prog 98 = true := by kernel_rfl
theorem hb99 : hasBody Try.prog 99 = true := by kernel_rfl
theorem iss111 : (Try.prog.underlying 111).isSome = true := by kernel_rfl
theorem iss3 : (Try.prog.underlying 3).isSome = true := by kernel_rfl
theorem uni105 : Try.prog.underlying 105 = some (.int .u64) := by kernel_rfl
theorem uni3 : Try.prog.underlying 3 = some (.int .i64) := by kernel_rfl

theorem ones64_c (n : Nat) (h : n ≤ 4294967296) : ACall Try.prog 122 [.int .u64 ((n : Nat) : Int)] [] (.int .i64 ((oc n : Nat) : Int)) [] := by
  have b1 := oc1_le n
  have b2 := oc2_le (oc1 n)
  have b3 := oc3_le (oc2 (oc1 n))
  have a1 : n / 2 &&& 6148914691236517205 ≤ n / 2 := Nat.and_le_left
  have a2 : n &&& 6148914691236517205 ≤ n := Nat.and_le_left
  have a3 : (oc1 n) / 4 &&& 3689348814741910323 ≤ (oc1 n) / 4 := Nat.and_le_left
  have a4 : (oc1 n) &&& 3689348814741910323 ≤ (oc1 n) := Nat.and_le_left
  have b4 : (oc4 (oc3 (oc2 (oc1 n)))) = (oc3 (oc2 (oc1 n))) + (oc3 (oc2 (oc1 n))) / 256 := rfl
  have b5 : (oc5 (oc4 (oc3 (oc2 (oc1 n))))) = (oc4 (oc3 (oc2 (oc1 n)))) + (oc4 (oc3 (oc2 (oc1 n)))) / 65536 := rfl
  have b6 : (oc6 (oc5 (oc4 (oc3 (oc2 (oc1 n)))))) = (oc5 (oc4 (oc3 (oc2 (oc1 n))))) + (oc5 (oc4 (oc3 (oc2 (oc1 n))))) / 4294967296 := rfl
  refine ACall.intro Try.func122 rfl (N := 35) rfl (by decide) (by simp) ?_
  refine a_seq ?_
  refine a_region ?_
  refine r_val (v := .int _ _) (v_assign (.inl rfl) (noOwn_flat rfl)) rfl rfl (by decide) ?_
  refine r_nil ?_
  refine a_seq ?_
  refine a_region ?_
  refine r_val (v := .int _ _) (v_move (.inl rfl) (noOwn_flat rfl)) rfl rfl (by decide) ?_
  refine r_val (v := .int .u64 ((n / 2 : Nat) : Int)) ((v_shru (.inl rfl) (.inl rfl) (fun _ => by omega)).cast (int_eq (by simp))) rfl rfl (by decide) ?_
  refine r_val (v := .int .u64 ((n / 2 &&& 6148914691236517205 : Nat) : Int)) ((v_andu (.inl rfl) (.inl rfl) (fun _ => by omega)).cast (int_eq rfl)) rfl rfl (by decide) ?_
  refine r_val (v := .int _ _) (v_move (.inl rfl) (noOwn_flat rfl)) rfl rfl (by decide) ?_
  refine r_val (v := .int .u64 ((n &&& 6148914691236517205 : Nat) : Int)) ((v_andu (.inl rfl) (.inl rfl) (fun _ => by omega)).cast (int_eq rfl)) rfl rfl (by decide) ?_
  refine r_val (v := .int .u64 (((oc1 n) : Nat) : Int)) ((v_addu (.inl rfl) (.inl rfl) (fun _ => by omega)).cast (int_eq rfl)) rfl rfl (by decide) ?_
  refine r_val (v := .int _ _) (v_assign (.inl rfl) (noOwn_flat rfl)) rfl rfl (by decide) ?_
  refine r_nil ?_
  refine a_seq ?_
  refine a_region ?_
  refine r_val (v := .int _ _) (v_move (.inl rfl) (noOwn_flat rfl)) rfl rfl (by decide) ?_
  refine r_val (v := .int .u64 (((oc1 n) / 4 : Nat) : Int)) ((v_shru (.inl rfl) (.inl rfl) (fun _ => by omega)).cast (int_eq (by simp))) rfl rfl (by decide) ?_
  refine r_val (v := .int .u64 (((oc1 n) / 4 &&& 3689348814741910323 : Nat) : Int)) ((v_andu (.inl rfl) (.inl rfl) (fun _ => by omega)).cast (int_eq rfl)) rfl rfl (by decide) ?_
  refine r_val (v := .int _ _) (v_move (.inl rfl) (noOwn_flat rfl)) rfl rfl (by decide) ?_
  refine r_val (v := .int .u64 (((oc1 n) &&& 3689348814741910323 : Nat) : Int)) ((v_andu (.inl rfl) (.inl rfl) (fun _ => by omega)).cast (int_eq rfl)) rfl rfl (by decide) ?_
  refine r_val (v := .int .u64 (((oc2 (oc1 n)) : Nat) : Int)) ((v_addu (.inl rfl) (.inl rfl) (fun _ => by omega)).cast (int_eq rfl)) rfl rfl (by decide) ?_
  refine r_val (v := .int _ _) (v_assign (.inl rfl) (noOwn_flat rfl)) rfl rfl (by decide) ?_
  refine r_nil ?_
  refine a_seq ?_
  refine a_region ?_
  refine r_val (v := .int _ _) (v_move (.inl rfl) (noOwn_flat rfl)) rfl rfl (by decide) ?_
  refine r_val (v := .int .u64 (((oc2 (oc1 n)) / 16 : Nat) : Int)) ((v_shru (.inl rfl) (.inl rfl) (fun _ => by omega)).cast (int_eq (by simp))) rfl rfl (by decide) ?_
  refine r_val (v := .int _ _) (v_move (.inl rfl) (noOwn_flat rfl)) rfl rfl (by decide) ?_
  refine r_val (v := .int .u64 (((oc2 (oc1 n)) / 16 + (oc2 (oc1 n)) : Nat) : Int)) ((v_addu (.inl rfl) (.inl rfl) (fun _ => by omega)).cast (int_eq rfl)) rfl rfl (by decide) ?_
  refine r_val (v := .int .u64 (((oc3 (oc2 (oc1 n))) : Nat) : Int)) ((v_andu (.inl rfl) (.inl rfl) (fun _ => by omega)).cast (int_eq rfl)) rfl rfl (by decide) ?_
  refine r_val (v := .int _ _) (v_assign (.inl rfl) (noOwn_flat rfl)) rfl rfl (by decide) ?_
  refine r_nil ?_
  refine a_seq ?_
  refine a_region ?_
  refine r_val (v := .int _ _) (v_move (.inl rfl) (noOwn_flat rfl)) rfl rfl (by decide) ?_
  refine r_val (v := .int _ _) (v_move (.inl rfl) (noOwn_flat rfl)) rfl rfl (by decide) ?_
  refine r_val (v := .int .u64 (((oc3 (oc2 (oc1 n))) / 256 : Nat) : Int)) ((v_shru (.inl rfl) (.inl rfl) (fun _ => by omega)).cast (int_eq (by simp))) rfl rfl (by decide) ?_
  refine r_val (v := .int .u64 (((oc4 (oc3 (oc2 (oc1 n)))) : Nat) : Int)) ((v_addu (.inl rfl) (.inl rfl) (fun _ => by omega)).cast (int_eq rfl)) rfl rfl (by decide) ?_
  refine r_val (v := .int _ _) (v_assign (.inl rfl) (noOwn_flat rfl)) rfl rfl (by decide) ?_
  refine r_nil ?_
  refine a_seq ?_
  refine a_region ?_
  refine r_val (v := .int _ _) (v_move (.inl rfl) (noOwn_flat rfl)) rfl rfl (by decide) ?_
  refine r_val (v := .int _ _) (v_move (.inl rfl) (noOwn_flat rfl)) rfl rfl (by decide) ?_
  refine r_val (v := .int .u64 (((oc4 (oc3 (oc2 (oc1 n)))) / 65536 : Nat) : Int)) ((v_shru (.inl rfl) (.inl rfl) (fun _ => by omega)).cast (int_eq (by simp))) rfl rfl (by decide) ?_
  refine r_val (v := .int .u64 (((oc5 (oc4 (oc3 (oc2 (oc1 n))))) : Nat) : Int)) ((v_addu (.inl rfl) (.inl rfl) (fun _ => by omega)).cast (int_eq rfl)) rfl rfl (by decide) ?_
  refine r_val (v := .int _ _) (v_assign (.inl rfl) (noOwn_flat rfl)) rfl rfl (by decide) ?_
  refine r_nil ?_
  refine a_seq ?_
  refine a_pre (ent_look (L := [(0, .int _ _), (2, .int _ _)]) ⟨Weak.rfl, Weak.rfl, trivial⟩) ?_
  refine a_region ?_
  refine r_val (v := .int _ _) (v_move (.inl rfl) (noOwn_flat rfl)) rfl rfl (by decide) ?_
  refine r_val (v := .int _ _) (v_move (.inl rfl) (noOwn_flat rfl)) rfl rfl (by decide) ?_
  refine r_val (v := .int .u64 (((oc5 (oc4 (oc3 (oc2 (oc1 n))))) / 4294967296 : Nat) : Int)) ((v_shru (.inl rfl) (.inl rfl) (fun _ => by omega)).cast (int_eq (by simp))) rfl rfl (by decide) ?_
  refine r_val (v := .int .u64 (((oc6 (oc5 (oc4 (oc3 (oc2 (oc1 n)))))) : Nat) : Int)) ((v_addu (.inl rfl) (.inl rfl) (fun _ => by omega)).cast (int_eq rfl)) rfl rfl (by decide) ?_
  refine r_val (v := .int _ _) (v_assign (.inl rfl) (noOwn_flat rfl)) rfl rfl (by decide) ?_
  refine r_nil ?_
  refine a_seq ?_
  refine a_region ?_
  refine r_val (v := .int _ _) (v_move (.inl rfl) (noOwn_flat rfl)) rfl rfl (by decide) ?_
  refine r_val (v := .int _ _) (v_conv iss111 uni3 (.inl rfl) (fun _ => by first | rfl | exact IntWalk.i64_in _ (by omega))) rfl rfl (by decide) ?_
  refine r_val (v := .int _ _) (v_and (.inl rfl) (.inl rfl) (fun _ => by omega)) rfl rfl (by decide) ?_
  refine r_val (v := .int _ _) (v_assign (.inl rfl) (noOwn_flat rfl)) rfl rfl (by decide) ?_
  refine r_nil ?_
  refine a_ret ?_
  refine ret1 Try.results122 (by decide) (by decide) (Weak.of_eq (int_eq ?_)) rfl Leaves.nil
  rfl

theorem ones_c (n : Nat) (h : n ≤ 4294967296) : ACall Try.prog 115 [.int .u64 ((n : Nat) : Int)] [] (.int .i64 ((oc n : Nat) : Int)) [] := by
  refine ACall.intro Try.func115 rfl (N := 8) rfl (by decide) (by simp) ?_
  refine a_seq ?_
  refine a_region ?_
  refine r_val (v := .int _ _) (v_assign (.inl rfl) (noOwn_flat rfl)) rfl rfl (by decide) ?_
  refine r_nil ?_
  refine a_seq ?_
  refine a_condF ?_
  refine a_skip ?_
  refine a_seq ?_
  refine a_region ?_
  refine r_val (v := .int _ _) (v_move (.inl rfl) (noOwn_flat rfl)) rfl rfl (by decide) ?_
  refine r_new (v := .int _ _) (q_call (vs := [.int _ _]) (args := [.int .u64 ((_ : Nat) : Int)]) hb122 ⟨.inl rfl, trivial⟩ rfl (fun hA => ones64_c _ h) rfl rfl) rfl rfl (by decide) ?_
  refine r_val (v := .int _ _) (v_assign (.inl rfl) (noOwn_flat rfl)) rfl rfl (by decide) ?_
  refine r_nil ?_
  refine a_ret ?_
  refine ret1 Try.results115 (by decide) (by decide) (Weak.of_eq (int_eq ?_)) rfl Leaves.nil
  rfl

theorem degreeOf_c (n : Nat) (h : n ≤ 4294967296) : ACall Try.prog 99 [.int .i64 ((n : Nat) : Int)] [] (.int .i64 ((oc n : Nat) : Int)) [] := by
  refine ACall.intro Try.func99 rfl (N := 6) rfl (by decide) (by simp) ?_
  refine a_seq ?_
  refine a_region ?_
  refine r_val (v := .int _ _) (v_assign (.inl rfl) (noOwn_flat rfl)) rfl rfl (by decide) ?_
  refine r_nil ?_
  refine a_seq ?_
  refine a_region ?_
  refine r_val (v := .int _ _) (v_move (.inl rfl) (noOwn_flat rfl)) rfl rfl (by decide) ?_
  refine r_val (v := .int _ _) (v_conv iss3 uni105 (.inl rfl) (fun _ => IntWalk.u64_in _ (by omega))) rfl rfl (by decide) ?_
  refine r_new (v := .int _ _) (q_call (vs := [.int _ _]) (args := [.int .u64 ((_ : Nat) : Int)]) hb115 ⟨.inl rfl, trivial⟩ rfl (fun hA => ones_c _ h) rfl rfl) rfl rfl (by decide) ?_
  refine r_val (v := .int _ _) (v_assign (.inl rfl) (noOwn_flat rfl)) rfl rfl (by decide) ?_
  refine r_nil ?_
  refine a_ret ?_
  refine ret1 Try.results99 (by decide) (by decide) (Weak.of_eq (int_eq ?_)) rfl Leaves.nil
  rfl

theorem bitsOf_c (c : List Int) (hl : (c.length : Int) ≤ 9223372036854775807) (h : ∀ j, -9223372036854775808 ≤ gd c j ∧ gd c j ≤ 62) : ACall Try.prog 98 [.sl (icells c) c.length] [] (.int .i64 ((bitsN c c.length : Nat) : Int)) [] := by
  refine ACall.intro Try.func98 rfl (N := 21) rfl (by decide) (by simp) ?_
  refine a_seq ?_
  refine a_region ?_
  refine r_val (v := .int _ _) (v_assign (.inl rfl) (noOwn_flat rfl)) rfl rfl (by decide) ?_
  refine r_nil ?_
  refine a_seq ?_
  refine a_region ?_
  refine r_val (v := .int _ _) (v_assign (.inl rfl) (noOwn_flat rfl)) rfl rfl (by decide) ?_
  refine r_nil ?_
  refine a_seq ?_
  refine a_seq ?_
  refine a_region ?_
  refine r_val (v := .sl _ _) (v_move (.inl rfl) (noOwn_flat rfl)) rfl rfl (by decide) ?_
  refine r_val (v := .int _ _) (v_len_sl sl35 (.inl rfl)) rfl rfl (by decide) ?_
  refine r_val (v := .int _ _) (v_move (.inl rfl) (noOwn_flat rfl)) rfl rfl (by decide) ?_
  refine r_nil ?_
  refine a_block ?_
  refine a_loop (X := Nat) (fun i => look [(3, .int .i64 ((bitsN c i : Nat) : Int)), (6, .sl (icells c) c.length), (7, .int .i64 (c.length : Int)), (8, .int .i64 (i : Int))]) (fun i => i ≤ c.length) (fun i => c.length - i) 0 (ent_look ⟨Weak.of_eq rfl, Weak.of_eq rfl, Weak.of_eq rfl, Weak.of_eq rfl, trivial⟩) (Nat.zero_le _) (fun i hG => ?_)
  refine a_seq ?_
  refine a_region ?_
  refine r_val (v := .bool _) (v_lss (.inl rfl) (.inl rfl)) rfl rfl (by decide) ?_
  refine r_nil ?_
  refine a_seq ?_
  refine a_cond rfl (fun ht9 => ?_) (fun ht9 => ?_)
  ·
    skip
    refine a_skip ?_
    refine a_seq ?_
    refine a_block ?_
    refine a_seq ?_
    have hi : i < c.length := (by simp at ht9; omega)
    have hbi := h i
    refine a_region ?_
    refine r_val (v := .pp _ _) (v_indexAddr_sl es35 (.inl rfl) (.inl rfl) (fun _ => ⟨by omega, by omega, icells_ne hi⟩)) rfl rfl (by decide) ?_
    refine r_val (v := .int .i64 (gd c i)) (v_load_pp ta3 (.inl rfl) (fun _ => by rw [Nat.mul_one]; exact icells_get (gd_get hi)) rfl) rfl rfl (by decide) ?_
    refine r_val (v := .int _ _) (v_assign (.inl rfl) (noOwn_flat rfl)) rfl rfl (by decide) ?_
    refine r_nil ?_
    refine a_seq ?_
    refine a_region ?_
    refine r_val (v := .int _ _) (v_move (.inl rfl) (noOwn_flat rfl)) rfl rfl (by decide) ?_
    refine r_val (v := .bool _) (v_gtr (.inl rfl) (.inl rfl)) rfl rfl (by decide) ?_
    refine r_nil ?_
    refine a_cond rfl (fun ht13 => ?_) (fun ht13 => ?_)
    ·
      skip
      have hp0 : 0 < gd c i := (by simpa using ht13)
      have hbt : bitsN c i < 4611686018427387904 := bitsN_lt (fun j => (h j).2) i
      have hpw : (2 : Int) ^ (gd c i - 1).toNat = ((pw (gd c i - 1).toNat : Nat) : Int) := (by simp [pw])
      have hpb : pw (gd c i - 1).toNat < 4611686018427387904 := pw_mono (j := 62) (by omega)
      refine a_region ?_
      refine r_val (v := .int _ _) (v_move (.inl rfl) (noOwn_flat rfl)) rfl rfl (by decide) ?_
      refine r_val (v := .int _ _) (v_move (.inl rfl) (noOwn_flat rfl)) rfl rfl (by decide) ?_
      refine r_val (v := .int _ _) (v_sub (.inl rfl) (.inl rfl) (fun _ => by omega)) rfl rfl (by decide) ?_
      refine r_val (v := .int .i64 ((pw (gd c i - 1).toNat : Nat) : Int)) ((v_shl (.inl rfl) (.inl rfl) (fun _ => by omega)).cast (int_eq (by simp [pw]))) rfl rfl (by decide) ?_
      refine r_val (v := .int _ _) (v_or (.inl rfl) (.inl rfl) (fun _ => by omega)) rfl rfl (by decide) ?_
      refine r_val (v := .int _ _) (v_assign (.inl rfl) (noOwn_flat rfl)) rfl rfl (by decide) ?_
      refine r_nil ?_
      refine a_region ?_
      refine r_val (v := .int _ _) (v_add (.inl rfl) (.inl rfl) (fun _ => by omega)) rfl rfl (by decide) ?_
      refine r_val (v := .int _ _) (v_move (.inl rfl) (noOwn_flat rfl)) rfl rfl (by decide) ?_
      refine r_nil ?_
      refine ⟨i + 1, ent_look ⟨Weak.of_eq (int_eq (by rw [bitsN, if_pos hp0]; rfl)), Weak.of_eq rfl, Weak.of_eq rfl, Weak.of_eq (int_eq (by omega)), trivial⟩, by omega, by omega⟩
    ·
      skip
      refine a_skip ?_
      refine a_region ?_
      refine r_val (v := .int _ _) (v_add (.inl rfl) (.inl rfl) (fun _ => by omega)) rfl rfl (by decide) ?_
      refine r_val (v := .int _ _) (v_move (.inl rfl) (noOwn_flat rfl)) rfl rfl (by decide) ?_
      refine r_nil ?_
      have hp0 : ¬ 0 < gd c i := (by simpa using ht13)
      refine ⟨i + 1, ent_look ⟨Weak.of_eq (int_eq (by rw [bitsN, if_neg hp0])), Weak.of_eq rfl, Weak.of_eq rfl, Weak.of_eq (int_eq (by omega)), trivial⟩, by omega, by omega⟩
  ·
    skip
    refine a_exit ?_
    refine a_seq ?_
    refine a_region ?_
    refine r_val (v := .int _ _) (v_move (.inl rfl) (noOwn_flat rfl)) rfl rfl (by decide) ?_
    refine r_val (v := .int _ _) (v_assign (.inl rfl) (noOwn_flat rfl)) rfl rfl (by decide) ?_
    refine r_nil ?_
    refine a_ret ?_
    refine ret1 Try.results98 (by decide) (by decide) (Weak.of_eq (int_eq ?_)) rfl Leaves.nil
    simp at ht9; rw [show i = c.length by omega]

theorem rising_c (c : List Int) (lo up : Int) (hl : (c.length : Int) ≤ 9223372036854775807) : ACall Try.prog 95 [.sl (icells c) c.length, .int .i64 lo, .int .i64 up] [] (.bool (risB lo up c)) [] := by
  refine ACall.intro Try.func95 rfl (N := 38) rfl (by decide) (by simp) ?_
  refine a_seq ?_
  refine a_region ?_
  refine r_val (v := .bool _) (v_assign (.inl rfl) (noOwn_flat rfl)) rfl rfl (by decide) ?_
  refine r_nil ?_
  refine a_seq ?_
  refine a_seq ?_
  refine a_region ?_
  refine r_val (v := .int _ _) (v_assign (.inl rfl) (noOwn_flat rfl)) rfl rfl (by decide) ?_
  refine r_nil ?_
  refine a_block ?_
  refine a_loop (X := Nat) (fun i => look [(0, .sl (icells c) c.length), (1, .int .i64 lo), (2, .int .i64 up), (7, .int .i64 (i : Int))]) (fun i => i ≤ c.length ∧ ∀ j, j < i → okR lo up c j = true) (fun i => c.length - i) 0 (ent_look ⟨Weak.of_eq rfl, Weak.of_eq rfl, Weak.of_eq rfl, Weak.of_eq rfl, trivial⟩) ⟨Nat.zero_le _, fun j h => by omega⟩ (fun i hG => ?_)
  obtain ⟨h1, h2⟩ := hG
  refine a_seq ?_
  refine a_seq ?_
  refine a_region ?_
  refine r_val (v := .int _ _) (v_move (.inl rfl) (noOwn_flat rfl)) rfl rfl (by decide) ?_
  refine r_val (v := .sl _ _) (v_move (.inl rfl) (noOwn_flat rfl)) rfl rfl (by decide) ?_
  refine r_val (v := .int _ _) (v_len_sl sl35 (.inl rfl)) rfl rfl (by decide) ?_
  refine r_val (v := .bool _) (v_lss (.inl rfl) (.inl rfl)) rfl rfl (by decide) ?_
  refine r_nil ?_
  refine a_cond rfl (fun ht11 => ?_) (fun ht11 => ?_)
  ·
    skip
    refine a_skip ?_
    refine a_seq ?_
    refine a_block ?_
    refine a_seq ?_
    have hi : i < c.length := (by simp at ht11; omega)
    refine a_region_any mixed (by kernel_rfl) ?_
    refine y_val (v := .sl _ _) (v_move (.inl rfl) (noOwn_flat rfl)) rfl rfl (by decide) (by kernel_rfl) ?_
    refine y_val (v := .int _ _) (v_move (.inl rfl) (noOwn_flat rfl)) rfl rfl (by decide) (by kernel_rfl) ?_
    refine y_val (v := .pp _ _) (v_indexAddr_sl es35 (.inl rfl) (.inl rfl) (fun _ => ⟨by omega, by omega, icells_ne hi⟩)) rfl rfl (by decide) (by kernel_rfl) ?_
    refine y_val (v := .int .i64 (gd c i)) (v_load_pp ta3 (.inl rfl) (fun _ => by rw [Nat.mul_one]; exact icells_get (gd_get hi)) rfl) rfl rfl (by decide) (by kernel_rfl) ?_
    refine y_val (v := .int _ _) (v_move (.inl rfl) (noOwn_flat rfl)) rfl rfl (by decide) (by kernel_rfl) ?_
    refine y_val (v := .int _ _) (v_move (.inl rfl) (noOwn_flat rfl)) rfl rfl (by decide) (by kernel_rfl) ?_
    refine y_new (v := .bool _) (q_call (vs := [.int _ _, .int _ _, .int _ _]) (args := [.int .i64 _, .int .i64 _, .int .i64 _]) hb55 ⟨.inl rfl, .inl rfl, .inl rfl, trivial⟩ rfl (fun hA => l1In_c _ _ _) rfl rfl) rfl rfl (by decide) (by kernel_rfl) ?_
    refine y_val (v := .bool _) (v_not (.inl rfl)) rfl rfl (by decide) (by kernel_rfl) ?_
    refine y_val (v := .bool _) (v_move (.inl rfl) (noOwn_flat rfl)) rfl rfl (by decide) (by kernel_rfl) ?_
    refine y_guard (v := .int _ _) (v_move (.inl rfl) (noOwn_flat rfl)).quiet rfl rfl rfl (by decide) (.inl ⟨_, rfl, rfl⟩) rfl (by decide) (by kernel_rfl) ?_
    refine y_guard (v := .bool _) (v_gtr (.inr ⟨_, rfl, fun h => h⟩) (.inl rfl)).quiet rfl rfl rfl (by decide) (.inl ⟨_, rfl, rfl⟩) rfl (by decide) (by kernel_rfl) ?_
    refine y_guard (v := .bool _) (v_move (.inr ⟨_, rfl, fun h => h⟩) (noOwn_flat rfl)).quiet rfl rfl rfl (by decide) (.inl ⟨_, rfl, rfl⟩) rfl (by decide) (by kernel_rfl) ?_
    refine y_guard (v := .sl _ _) (v_move (.inl rfl) (noOwn_flat rfl)).quiet rfl rfl rfl (by decide) (.inr ⟨_, _, rfl, rfl⟩) rfl (by decide) (by kernel_rfl) ?_
    refine y_guard (v := .int _ _) (v_move (.inl rfl) (noOwn_flat rfl)).quiet rfl rfl rfl (by decide) (.inr ⟨_, _, rfl, rfl⟩) rfl (by decide) (by kernel_rfl) ?_
    refine y_guard (v := .int _ _) (v_sub (.inr ⟨_, rfl, fun h => h⟩) (.inl rfl) (fun hA => by omega)).quiet rfl rfl rfl (by decide) (.inr ⟨_, _, rfl, rfl⟩) rfl (by decide) (by kernel_rfl) ?_
    refine y_guard (v := .pp _ _) (v_indexAddr_sl es35 (.inr ⟨_, rfl, fun h => h⟩) (.inr ⟨_, rfl, fun h => h⟩) (fun hA => ⟨by simp at hA; omega, by omega, icells_ne hi⟩)).quiet rfl rfl rfl (by decide) (.inr ⟨_, _, rfl, rfl⟩) rfl (by decide) (by kernel_rfl) ?_
    refine y_guard (v := .int .i64 (gd c (i - 1))) (v_load_pp ta3 (.inr ⟨_, rfl, fun h => h⟩) (fun hA => by simp at hA; rw [show ((i : Int) - 1).toNat = i - 1 by omega, Nat.mul_one]; exact icells_get (gd_get (by omega))) rfl).quiet rfl rfl rfl (by decide) (.inr ⟨_, _, rfl, rfl⟩) rfl (by decide) (by kernel_rfl) ?_
    refine y_guard (v := .sl _ _) (v_move (.inl rfl) (noOwn_flat rfl)).quiet rfl rfl rfl (by decide) (.inr ⟨_, _, rfl, rfl⟩) rfl (by decide) (by kernel_rfl) ?_
    refine y_guard (v := .int _ _) (v_move (.inl rfl) (noOwn_flat rfl)).quiet rfl rfl rfl (by decide) (.inr ⟨_, _, rfl, rfl⟩) rfl (by decide) (by kernel_rfl) ?_
    refine y_guard (v := .pp _ _) (v_indexAddr_sl es35 (.inr ⟨_, rfl, fun h => h⟩) (.inr ⟨_, rfl, fun h => h⟩) (fun _ => ⟨by omega, by omega, icells_ne hi⟩)).quiet rfl rfl rfl (by decide) (.inr ⟨_, _, rfl, rfl⟩) rfl (by decide) (by kernel_rfl) ?_
    refine y_guard (v := .int .i64 (gd c i)) (v_load_pp ta3 (.inr ⟨_, rfl, fun h => h⟩) (fun _ => by rw [Nat.mul_one]; exact icells_get (gd_get hi)) rfl).quiet rfl rfl rfl (by decide) (.inr ⟨_, _, rfl, rfl⟩) rfl (by decide) (by kernel_rfl) ?_
    refine y_guard (v := .bool _) (v_geq (.inr ⟨_, rfl, fun h => h⟩) (.inr ⟨_, rfl, fun h => h⟩)).quiet rfl rfl rfl (by decide) (.inr ⟨_, _, rfl, rfl⟩) rfl (by decide) (by kernel_rfl) ?_
    refine y_guard (v := .bool _) (v_pick (.inr ⟨_, rfl, fun h => h⟩) (.inr ⟨_, rfl, fun h h2 => by simp_all⟩) (.inl rfl)).quiet rfl rfl rfl (by decide) (.inl ⟨_, rfl, rfl⟩) rfl (by decide) (by kernel_rfl) ?_
    refine y_val (v := .bool _) (v_pick (.inl rfl) (.inl rfl) (.inr ⟨_, rfl, fun h h2 => by simp_all⟩)) rfl rfl (by decide) (by kernel_rfl) ?_
    refine y_nil ?_
    refine a_cond rfl (fun ht37 => ?_) (fun ht37 => ?_)
    ·
      skip
      refine a_seq ?_
      refine a_pre (ent_look (L := [(0, .sl _ _), (1, .int _ _), (2, .int _ _), (7, .int _ _)]) ⟨Weak.rfl, Weak.rfl, Weak.rfl, Weak.rfl, trivial⟩) ?_
      refine a_region ?_
      refine r_val (v := .bool _) (v_assign (.inl rfl) (noOwn_flat rfl)) rfl rfl (by decide) ?_
      refine r_nil ?_
      refine a_ret ?_
      refine ret1 Try.results95 (by decide) (by decide) (Weak.of_eq (bool_eq ?_)) rfl Leaves.nil
      have hk : okR lo up c i = false := by unfold okR; cases ha : inR (gd c i) lo up <;> simp [ha] at ht37 ⊢ <;> omega
      rw [ris_false hi hk]
    ·
      skip
      refine a_skip ?_
      refine a_pre (ent_look (L := [(0, .sl _ _), (1, .int _ _), (2, .int _ _), (7, .int _ _)]) ⟨Weak.rfl, Weak.rfl, Weak.rfl, Weak.rfl, trivial⟩) ?_
      refine a_region ?_
      refine r_val (v := .int _ _) (v_move (.inl rfl) (noOwn_flat rfl)) rfl rfl (by decide) ?_
      refine r_val (v := .int _ _) (v_add (.inl rfl) (.inl rfl) (fun _ => by omega)) rfl rfl (by decide) ?_
      refine r_val (v := .int _ _) (v_assign (.inl rfl) (noOwn_flat rfl)) rfl rfl (by decide) ?_
      refine r_nil ?_
      have hk : okR lo up c i = true := by unfold okR; cases ha : inR (gd c i) lo up <;> simp [ha] at ht37 ⊢ <;> omega
      refine ⟨i + 1, ent_look ⟨Weak.of_eq rfl, Weak.of_eq rfl, Weak.of_eq rfl, Weak.of_eq (int_eq (by omega)), trivial⟩, ⟨by omega, ok_step h2 hk⟩, by omega⟩
  ·
    skip
    refine a_exit ?_
    refine a_seq ?_
    refine a_region ?_
    refine r_val (v := .bool _) (v_assign (.inl rfl) (noOwn_flat rfl)) rfl rfl (by decide) ?_
    refine r_nil ?_
    refine a_ret ?_
    refine ret1 Try.results95 (by decide) (by decide) (Weak.of_eq (bool_eq ?_)) rfl Leaves.nil
    simp at ht11; rw [ris_true (fun j hj => h2 j (by omega))]

theorem parity1_c (n : Int) : ACall Try.prog 97 [.int .i64 n] [] (.bool (decide (n < 0))) [] := by
  refine ACall.intro Try.func97 rfl (N := 5) rfl (by decide) (by simp) ?_
  refine a_seq ?_
  refine a_region ?_
  refine r_val (v := .bool _) (v_assign (.inl rfl) (noOwn_flat rfl)) rfl rfl (by decide) ?_
  refine r_nil ?_
  refine a_seq ?_
  refine a_region ?_
  refine r_val (v := .int _ _) (v_move (.inl rfl) (noOwn_flat rfl)) rfl rfl (by decide) ?_
  refine r_val (v := .bool _) (v_lss (.inl rfl) (.inl rfl)) rfl rfl (by decide) ?_
  refine r_val (v := .bool _) (v_assign (.inl rfl) (noOwn_flat rfl)) rfl rfl (by decide) ?_
  refine r_nil ?_
  refine a_ret ?_
  refine ret1 Try.results97 (by decide) (by decide) (Weak.of_eq (bool_eq ?_)) rfl Leaves.nil
  rfl

theorem sParityPoly_c (p vars : Int) (c : List Int) (b : Bool) (hl : (c.length : Int) ≤ 1048576) (hb : ∀ j, -9223372036854775808 ≤ gd c j ∧ gd c j ≤ 9223372036854775807) : ACall Try.prog 48 [.int .i64 p, .int .i64 vars, .sl (icells c) c.length, .bool b] [] (.tup [.osl 2 (tcells (if prime p vars && risB 1 vars c then (trm (mbs p (dn vars) vars.toNat (parL c b (dn vars)))) else [])) (if prime p vars && risB 1 vars c then (trm (mbs p (dn vars) vars.toNat (parL c b (dn vars)))) else []).length none, .bool (prime p vars && risB 1 vars c)]) [] := by
  refine ACall.intro Try.func48 rfl (N := 65) rfl (by decide) (by simp) ?_
  refine a_seq ?_
  refine a_region ?_
  refine r_val (v := .nils) (v_assign (.inl rfl) (noOwn_flat rfl)) rfl rfl (by decide) ?_
  refine r_val (v := .bool _) (v_assign (.inl rfl) (noOwn_flat rfl)) rfl rfl (by decide) ?_
  refine r_nil ?_
  refine a_seq ?_
  refine a_seq ?_
  refine a_region ?_
  refine r_val (v := .int _ _) (v_move (.inl rfl) (noOwn_flat rfl)) rfl rfl (by decide) ?_
  refine r_val (v := .int _ _) (v_move (.inl rfl) (noOwn_flat rfl)) rfl rfl (by decide) ?_
  refine r_new (v := .bool _) (q_call (vs := [.int _ _, .int _ _]) (args := [.int .i64 _, .int .i64 _]) hb59 ⟨.inl rfl, .inl rfl, trivial⟩ rfl (fun hA => l18Prime_c _ _) rfl rfl) rfl rfl (by decide) ?_
  refine r_val (v := .bool _) (v_not (.inl rfl)) rfl rfl (by decide) ?_
  refine r_val (v := .bool _) (v_move (.inl rfl) (noOwn_flat rfl)) rfl rfl (by decide) ?_
  refine r_gval (v := .sl _ _) (v_move (.inl rfl) (noOwn_flat rfl)) rfl rfl rfl (by decide) (.inl ⟨_, rfl, rfl⟩) rfl (by decide) ?_
  refine r_gval (v := .int _ _) (v_move (.inl rfl) (noOwn_flat rfl)) rfl rfl rfl (by decide) (.inl ⟨_, rfl, rfl⟩) rfl (by decide) ?_
  refine r_guard (v := .bool _) (q_call (vs := [.sl _ _, .int _ _, .int _ _]) (args := [.sl _ _, .int .i64 _, .int .i64 _]) hb95 ⟨.inr ⟨_, rfl, fun h => h⟩, .inl rfl, .inr ⟨_, rfl, fun h => h⟩, trivial⟩ rfl (fun hA => rising_c _ _ _ (by omega)) rfl rfl) rfl rfl rfl (by decide) (.inl ⟨_, rfl, rfl⟩) rfl (by decide) ?_
  refine r_gval (v := .bool _) (v_not (.inr ⟨_, rfl, fun h => h⟩)) rfl rfl rfl (by decide) (.inl ⟨_, rfl, rfl⟩) rfl (by decide) ?_
  refine r_val (v := .bool _) (v_pick (.inl rfl) (.inl rfl) (.inr ⟨_, rfl, fun h h2 => by simp_all⟩)) rfl rfl (by decide) ?_
  refine r_nil ?_
  refine a_cond rfl (fun ht23 => ?_) (fun ht23 => ?_)
  ·
    skip
    refine a_seq ?_
    refine a_region ?_
    refine r_new (v := .osl _ _ _ _) (q_sliceLit (n := 0) (parts := []) lt25 rfl rfl rfl rfl) rfl rfl (by decide) ?_
    refine r_val (v := .rsl _ _ _ _ _) (v_assign (.inl rfl) (noOwn_flat rfl)) rfl rfl (by decide) ?_
    refine r_pre (ent_reloc_sl (t := 8) rfl rfl) ?_
    refine r_val (v := .bool _) (v_assign (.inl rfl) (noOwn_flat rfl)) rfl rfl (by decide) ?_
    refine r_nil ?_
    refine a_ret ?_
    refine retL (rs := [.tmp 8, .tmp 9]) [(8, .osl _ _ _ none), (9, _)] ⟨Weak.osl rfl rfl, Weak.rfl, trivial⟩ rfl Try.results48 (by decide) ⟨by decide, by decide, rfl⟩ (by decide) (by decide) (l2_eq (osl_eq2 ?_ ?_) (bool_eq ?_)) (by simp [refsL, refs])
    all_goals (have hno : (prime p vars && risB 1 vars c) = false := (by cases h1 : prime p vars <;> cases h2 : risB 1 vars c <;> simp_all); simp [hno, tcells, rep])
  ·
    skip
    refine a_skip ?_
    refine a_seq ?_
    have hok : (prime p vars && risB 1 vars c) = true := (by cases h1 : prime p vars <;> cases h2 : risB 1 vars c <;> simp_all)
    obtain ⟨hok1, hok2⟩ : prime p vars = true ∧ risB 1 vars c = true := (by simpa only [Bool.and_eq_true] using hok)
    have hpp := prime_spec hok1
    have hw := pow6 hpp.2
    have hd := dn_le hpp.2
    have hdn := dn_cast vars
    refine a_region ?_
    refine r_new (v := .osl _ _ _ _) (q_sliceLit (n := 0) (parts := []) lt35 rfl rfl rfl rfl) rfl rfl (by decide) ?_
    refine r_val (v := .rsl _ _ _ _ _) (v_assign (.inl rfl) (noOwn_flat rfl)) rfl rfl (by decide) ?_
    refine r_pre (ent_reloc_sl (t := 10) rfl rfl) ?_
    refine r_nil ?_
    refine a_seq ?_
    refine a_seq ?_
    refine a_region ?_
    refine r_val (v := .int _ _) (v_assign (.inl rfl) (noOwn_flat rfl)) rfl rfl (by decide) ?_
    refine r_nil ?_
    refine a_block ?_
    refine a_loop (X := Nat) (fun m => look [(0, .int .i64 p), (1, .int .i64 vars), (2, .sl (icells c) c.length), (3, .bool b), (10, .osl 1 (icells (parL c b m)) m none), (11, .int .i64 (m : Int))]) (fun m => m ≤ dn vars) (fun m => dn vars - m) 0 (ent_look ⟨Weak.of_eq rfl, Weak.of_eq rfl, Weak.of_eq rfl, Weak.of_eq rfl, Weak.osl rfl rfl, Weak.of_eq rfl, trivial⟩) (Nat.zero_le _) (fun m hG => ?_)
    refine a_seq ?_
    refine a_seq ?_
    refine a_region ?_
    refine r_val (v := .int _ _) (v_move (.inl rfl) (noOwn_flat rfl)) rfl rfl (by decide) ?_
    refine r_val (v := .int _ _) (v_move (.inl rfl) (noOwn_flat rfl)) rfl rfl (by decide) ?_
    refine r_val (v := .int .i64 ((dn vars : Nat) : Int)) ((v_shl (.inl rfl) (.inl rfl) (fun _ => by omega)).cast (int_eq (by omega))) rfl rfl (by decide) ?_
    refine r_val (v := .bool _) (v_lss (.inl rfl) (.inl rfl)) rfl rfl (by decide) ?_
    refine r_nil ?_
    refine a_cond rfl (fun ht29 => ?_) (fun ht29 => ?_)
    ·
      skip
      refine a_skip ?_
      refine a_seq ?_
      refine a_block ?_
      refine a_seq ?_
      have hm : m < dn vars := (by simp at ht29; omega)
      refine a_region ?_
      refine r_val (v := .int _ _) (v_assign (.inl rfl) (noOwn_flat rfl)) rfl rfl (by decide) ?_
      refine r_nil ?_
      refine a_seq ?_
      refine a_seq ?_
      refine a_region ?_
      refine r_val (v := .int _ _) (v_assign (.inl rfl) (noOwn_flat rfl)) rfl rfl (by decide) ?_
      refine r_nil ?_
      refine a_block ?_
      refine a_loop (X := Nat) (fun k => look [(0, .int .i64 p), (1, .int .i64 vars), (2, .sl (icells c) c.length), (3, .bool b), (10, .osl 1 (icells (parL c b m)) m none), (11, .int .i64 (m : Int)), (12, .int .i64 ((cntI c m k : Nat) : Int)), (13, .int .i64 (k : Int))]) (fun k => k ≤ c.length) (fun k => c.length - k) 0 (ent_look ⟨Weak.of_eq rfl, Weak.of_eq rfl, Weak.of_eq rfl, Weak.of_eq rfl, Weak.of_eq rfl, Weak.of_eq rfl, Weak.of_eq rfl, Weak.of_eq rfl, trivial⟩) (Nat.zero_le _) (fun k hG => ?_)
      refine a_seq ?_
      refine a_seq ?_
      refine a_region ?_
      refine r_val (v := .int _ _) (v_move (.inl rfl) (noOwn_flat rfl)) rfl rfl (by decide) ?_
      refine r_val (v := .sl _ _) (v_move (.inl rfl) (noOwn_flat rfl)) rfl rfl (by decide) ?_
      refine r_val (v := .int _ _) (v_len_sl sl35 (.inl rfl)) rfl rfl (by decide) ?_
      refine r_val (v := .bool _) (v_lss (.inl rfl) (.inl rfl)) rfl rfl (by decide) ?_
      refine r_nil ?_
      refine a_cond rfl (fun ht35 => ?_) (fun ht35 => ?_)
      ·
        skip
        refine a_skip ?_
        refine a_seq ?_
        refine a_block ?_
        have hk : k < c.length := (by simp at ht35; omega)
        have hrk := (ris_spec hok2 hk).1
        have hcl := cntI_le c m k
        have hdv : 0 ≤ ((m / pw (gd c k - 1).toNat : Nat) : Int) ∧ ((m / pw (gd c k - 1).toNat : Nat) : Int) ≤ m := ⟨Int.natCast_nonneg _, Int.ofNat_le.2 (Nat.div_le_self _ _)⟩
        have hd1 : m / pw (gd c k - 1).toNat &&& 1 ≤ 1 := Nat.and_le_right
        refine a_region ?_
        refine r_val (v := .int _ _) (v_move (.inl rfl) (noOwn_flat rfl)) rfl rfl (by decide) ?_
        refine r_val (v := .int _ _) (v_move (.inl rfl) (noOwn_flat rfl)) rfl rfl (by decide) ?_
        refine r_val (v := .sl _ _) (v_move (.inl rfl) (noOwn_flat rfl)) rfl rfl (by decide) ?_
        refine r_val (v := .int _ _) (v_move (.inl rfl) (noOwn_flat rfl)) rfl rfl (by decide) ?_
        refine r_val (v := .pp _ _) (v_indexAddr_sl es35 (.inl rfl) (.inl rfl) (fun _ => ⟨by omega, by omega, icells_ne hk⟩)) rfl rfl (by decide) ?_
        refine r_val (v := .int .i64 (gd c k)) (v_load_pp ta3 (.inl rfl) (fun _ => by rw [Nat.mul_one]; exact icells_get (gd_get hk)) rfl) rfl rfl (by decide) ?_
        refine r_val (v := .int _ _) (v_sub (.inl rfl) (.inl rfl) (fun _ => by omega)) rfl rfl (by decide) ?_
        refine r_val (v := .int .i64 ((m / pw (gd c k - 1).toNat : Nat) : Int)) ((v_shr (.inl rfl) (.inl rfl) (fun _ => by omega)).cast (int_eq (by simp [pw]))) rfl rfl (by decide) ?_
        refine r_val (v := .int .i64 ((m / pw (gd c k - 1).toNat &&& 1 : Nat) : Int)) ((v_and (.inl rfl) (.inl rfl) (fun _ => by omega)).cast (int_eq rfl)) rfl rfl (by decide) ?_
        refine r_val (v := .int _ _) (v_add (.inl rfl) (.inl rfl) (fun _ => by omega)) rfl rfl (by decide) ?_
        refine r_val (v := .int _ _) (v_assign (.inl rfl) (noOwn_flat rfl)) rfl rfl (by decide) ?_
        refine r_nil ?_
        refine a_region ?_
        refine r_val (v := .int _ _) (v_move (.inl rfl) (noOwn_flat rfl)) rfl rfl (by decide) ?_
        refine r_val (v := .int _ _) (v_add (.inl rfl) (.inl rfl) (fun _ => by omega)) rfl rfl (by decide) ?_
        refine r_val (v := .int _ _) (v_assign (.inl rfl) (noOwn_flat rfl)) rfl rfl (by decide) ?_
        refine r_nil ?_
        refine ⟨k + 1, ent_look ⟨Weak.of_eq rfl, Weak.of_eq rfl, Weak.of_eq rfl, Weak.of_eq rfl, Weak.of_eq rfl, Weak.of_eq rfl, Weak.of_eq (int_eq rfl), Weak.of_eq (int_eq (by omega)), trivial⟩, by omega, by omega⟩
      ·
        skip
        refine a_exit ?_
        refine a_seq ?_
        have hkc : k = c.length := (by simp at ht35; omega)
        refine a_region ?_
        refine r_val (v := .int _ _) (v_move (.inl rfl) (noOwn_flat rfl)) rfl rfl (by decide) ?_
        refine r_val (v := .int _ _) (v_rem (.inl rfl) (.inl rfl) (fun _ => by omega)) rfl rfl (by decide) ?_
        refine r_val (v := .bool _) (v_eql (.inl rfl) (.inl rfl)) rfl rfl (by decide) ?_
        refine r_val (v := .bool _) (v_move (.inl rfl) (noOwn_flat rfl)) rfl rfl (by decide) ?_
        refine r_val (v := .bool _) (v_beq un4 (.inl rfl) (.inl rfl)) rfl rfl (by decide) ?_
        refine r_nil ?_
        refine a_cond rfl (fun ht52 => ?_) (fun ht52 => ?_)
        ·
          skip
          have hcnd : (decide (cntI c m c.length % 2 = 1) == b) = true := (by subst hkc; rw [← ht52]; congr 1; rw [decide_eq_decide]; omega)
          refine a_region ?_
          refine r_val (v := .rsl _ _ _ _ _) (v_move (.inl rfl) (noOwn_flat rfl)) rfl rfl (by decide) ?_
          refine r_new (v := .osl _ _ _ _) (q_sliceLit (n := 1) (parts := [(0, .const (.int .i64 0))]) lt35 rfl rfl rfl rfl) rfl rfl (by decide) ?_
          refine r_pre (ent_reloc_sl (t := 53) rfl rfl) ?_
          refine r_step rfl (o_append rfl ap35 rfl (by decide) (by decide) rfl (src_lit (.inl rfl) rfl rfl rfl) rfl (by rw [icells_length, parL_length, Nat.mul_one]) (by omega)) ?_
          refine r_val (v := .rsl _ _ _ _ _) (v_assign (.inl rfl) (noOwn_flat rfl)) rfl rfl (by decide) ?_
          refine r_pre (ent_reloc_sl (t := 10) rfl rfl) ?_
          refine r_nil ?_
          refine a_region ?_
          refine r_val (v := .int _ _) (v_move (.inl rfl) (noOwn_flat rfl)) rfl rfl (by decide) ?_
          refine r_val (v := .int _ _) (v_add (.inl rfl) (.inl rfl) (fun _ => by omega)) rfl rfl (by decide) ?_
          refine r_val (v := .int _ _) (v_assign (.inl rfl) (noOwn_flat rfl)) rfl rfl (by decide) ?_
          refine r_nil ?_
          have hpv : parV c b m = 0 := (by unfold parV; rw [if_pos hcnd])
          refine ⟨m + 1, ent_look ⟨Weak.of_eq rfl, Weak.of_eq rfl, Weak.of_eq rfl, Weak.of_eq rfl, Weak.osl (icells_app.trans (by rw [parL_succ, hpv])) rfl, Weak.of_eq (int_eq (by omega)), trivial⟩, by omega, by omega⟩
        ·
          skip
          have hcnd : ¬ (decide (cntI c m c.length % 2 = 1) == b) = true := (by subst hkc; rw [Bool.not_eq_true, ← ht52]; congr 1; rw [decide_eq_decide]; omega)
          refine a_region ?_
          refine r_val (v := .rsl _ _ _ _ _) (v_move (.inl rfl) (noOwn_flat rfl)) rfl rfl (by decide) ?_
          refine r_new (v := .osl _ _ _ _) (q_sliceLit (n := 1) (parts := [(0, .const (.int .i64 1))]) lt35 rfl rfl rfl rfl) rfl rfl (by decide) ?_
          refine r_pre (ent_reloc_sl (t := 56) rfl rfl) ?_
          refine r_step rfl (o_append rfl ap35 rfl (by decide) (by decide) rfl (src_lit (.inl rfl) rfl rfl rfl) rfl (by rw [icells_length, parL_length, Nat.mul_one]) (by omega)) ?_
          refine r_val (v := .rsl _ _ _ _ _) (v_assign (.inl rfl) (noOwn_flat rfl)) rfl rfl (by decide) ?_
          refine r_pre (ent_reloc_sl (t := 10) rfl rfl) ?_
          refine r_nil ?_
          refine a_region ?_
          refine r_val (v := .int _ _) (v_move (.inl rfl) (noOwn_flat rfl)) rfl rfl (by decide) ?_
          refine r_val (v := .int _ _) (v_add (.inl rfl) (.inl rfl) (fun _ => by omega)) rfl rfl (by decide) ?_
          refine r_val (v := .int _ _) (v_assign (.inl rfl) (noOwn_flat rfl)) rfl rfl (by decide) ?_
          refine r_nil ?_
          have hpv : parV c b m = 1 := (by unfold parV; rw [if_neg hcnd])
          refine ⟨m + 1, ent_look ⟨Weak.of_eq rfl, Weak.of_eq rfl, Weak.of_eq rfl, Weak.of_eq rfl, Weak.osl (icells_app.trans (by rw [parL_succ, hpv])) rfl, Weak.of_eq (int_eq (by omega)), trivial⟩, by omega, by omega⟩
    ·
      skip
      refine a_exit ?_
      refine a_seq ?_
      refine a_pre (ent_eq (t := 10) (v' := .osl 1 (icells (parL c b (dn vars))) (parL c b (dn vars)).length none) (Weak.osl (by simp at ht29; rw [show m = dn vars by omega]) (by rw [parL_length]; simp at ht29; omega))) ?_
      refine a_region ?_
      refine r_val (v := .int _ _) (v_move (.inl rfl) (noOwn_flat rfl)) rfl rfl (by decide) ?_
      refine r_val (v := .int _ _) (v_move (.inl rfl) (noOwn_flat rfl)) rfl rfl (by decide) ?_
      refine r_val (v := .rsl _ _ _ _ _) (v_move (.inl rfl) (noOwn_flat rfl)) rfl rfl (by decide) ?_
      refine r_new (v := .tup [.osl _ _ _ _, .bool _]) (q_call (vs := [.int _ _, .int _ _, .rsl _ _ _ _ _]) (args := [.int .i64 _, .int .i64 _, .sl _ _]) hb26 ⟨.inl rfl, .inl rfl, .inl rfl, trivial⟩ (l3_eq rfl rfl (sl_sh (ic_pure _))) (fun hA => sPolyWithValues_c _ _ (parL c b (dn vars)) (by rw [parL_length]; omega)) (by simp [noSh, noShL, tc_noSh]) (by simp [noRef, noRefL, tc_noRef])) rfl rfl (by decide) ?_
      refine r_val (v := .rsl _ _ _ _ _) (v_extract rfl rfl) rfl rfl (by decide) ?_
      refine r_val (v := .bool _) (v_extract rfl rfl) rfl rfl (by decide) ?_
      refine r_val (v := .rsl _ _ _ _ _) (v_assign (.inl rfl) (noOwn_flat rfl)) rfl rfl (by decide) ?_
      refine r_pre (ent_reloc_sl (t := 8) rfl rfl) ?_
      refine r_val (v := .bool _) (v_assign (.inl rfl) (noOwn_flat rfl)) rfl rfl (by decide) ?_
      refine r_nil ?_
      refine a_ret ?_
      refine retL (rs := [.tmp 8, .tmp 9]) [(8, .osl _ _ _ none), (9, _)] ⟨Weak.osl rfl rfl, Weak.rfl, trivial⟩ rfl Try.results48 (by decide) ⟨by decide, by decide, rfl⟩ (by decide) (by decide) (l2_eq (osl_eq2 ?_ ?_) (bool_eq ?_)) (by simp [refsL, refs])
      all_goals (have hv := par_val (p := p) (vars := vars) (c := c) (b := b) hok1; simp [hok, hv])

theorem iParityPoly_c (p vars : Int) (c : List Int) (b : Bool) (hl : (c.length : Int) ≤ 1048576) (hb : ∀ j, -9223372036854775808 ≤ gd c j ∧ gd c j ≤ 9223372036854775807) : ACall Try.prog 49 [.int .i64 p, .int .i64 vars, .sl (icells c) c.length, .bool b] [] (.tup [.osl 2 (tcells (if prime p vars && risB 1 vars c then (trm (mbs p (dn vars) vars.toNat (parL c b (dn vars)))) else [])) (if prime p vars && risB 1 vars c then (trm (mbs p (dn vars) vars.toNat (parL c b (dn vars)))) else []).length none, .bool (prime p vars && risB 1 vars c)]) [] := by
  have hbP := hb97
  refine ACall.intro Try.func49 rfl (N := 62) rfl (by decide) (by simp) ?_
  refine a_seq ?_
  refine a_region ?_
  refine r_val (v := .nils) (v_assign (.inl rfl) (noOwn_flat rfl)) rfl rfl (by decide) ?_
  refine r_val (v := .bool _) (v_assign (.inl rfl) (noOwn_flat rfl)) rfl rfl (by decide) ?_
  refine r_nil ?_
  refine a_seq ?_
  refine a_region ?_
  refine r_val (v := .int _ _) (v_move (.inl rfl) (noOwn_flat rfl)) rfl rfl (by decide) ?_
  refine r_val (v := .int _ _) (v_move (.inl rfl) (noOwn_flat rfl)) rfl rfl (by decide) ?_
  refine r_new (v := .tup [.agg [.int _ _, .int _ _], .bool _]) (q_call (vs := [.int _ _, .int _ _]) (args := [.int .i64 _, .int .i64 _]) hb52 ⟨.inl rfl, .inl rfl, trivial⟩ rfl (fun hA => ringOf_c _ _) rfl rfl) rfl rfl (by decide) ?_
  refine r_val (v := .tup [.agg [.int _ _, .int _ _], .bool _]) (v_mv rfl) rfl rfl (by decide) ?_
  refine r_val (v := .agg [.int _ _, .int _ _]) (v_extract rfl rfl) rfl rfl (by decide) ?_
  refine r_val (v := .bool _) (v_extract rfl rfl) rfl rfl (by decide) ?_
  refine r_new (v := .op [.int _ _, .int _ _]) (q_alloc zc58) rfl rfl (by decide) ?_
  refine r_step rfl (o_store (v := .agg [.int _ _, .int _ _]) (y' := .op [.int _ _, .int _ _]) rfl rfl ta58 (.inl rfl) (.inl rfl) rfl rfl rfl rfl rfl rfl (Nat.le_of_ble_eq_true rfl) (by decide) rfl rfl) ?_
  refine r_val (v := .bool _) (v_assign (.inl rfl) (noOwn_flat rfl)) rfl rfl (by decide) ?_
  refine r_nil ?_
  refine a_seq ?_
  refine a_seq ?_
  refine a_region ?_
  refine r_val (v := .bool _) (v_move (.inl rfl) (noOwn_flat rfl)) rfl rfl (by decide) ?_
  refine r_val (v := .bool _) (v_not (.inl rfl)) rfl rfl (by decide) ?_
  refine r_val (v := .bool _) (v_move (.inl rfl) (noOwn_flat rfl)) rfl rfl (by decide) ?_
  refine r_gval (v := .int _ _) (v_move (.inl rfl) (noOwn_flat rfl)) rfl rfl rfl (by decide) (.inl ⟨_, rfl, rfl⟩) rfl (by decide) ?_
  refine r_gval (v := .sl _ _) (v_move (.inl rfl) (noOwn_flat rfl)) rfl rfl rfl (by decide) (.inl ⟨_, rfl, rfl⟩) rfl (by decide) ?_
  refine r_guard (v := .bool _) (q_call (vs := [.int _ _, .sl _ _]) (args := [.int .i64 _, .sl _ _]) hb83 ⟨.inr ⟨_, rfl, fun h => h⟩, .inr ⟨_, rfl, fun h => h⟩, trivial⟩ rfl (fun hA => isClause_c _ _ (by have hp := prime_spec (p := p) (vars := vars) (by simp_all); omega) (by omega) hb) rfl rfl) rfl rfl rfl (by decide) (.inl ⟨_, rfl, rfl⟩) rfl (by decide) ?_
  refine r_gval (v := .bool _) (v_not (.inr ⟨_, rfl, fun h => h⟩)) rfl rfl rfl (by decide) (.inl ⟨_, rfl, rfl⟩) rfl (by decide) ?_
  refine r_val (v := .bool _) (v_pick (.inl rfl) (.inl rfl) (.inr ⟨_, rfl, fun h h2 => by simp_all⟩)) rfl rfl (by decide) ?_
  refine r_val (v := .bool _) (v_move (.inl rfl) (noOwn_flat rfl)) rfl rfl (by decide) ?_
  refine r_gval (v := .sl _ _) (v_move (.inl rfl) (noOwn_flat rfl)) rfl rfl rfl (by decide) (.inl ⟨_, rfl, rfl⟩) rfl (by decide) ?_
  refine r_guard (v := .bool _) (q_call (vs := [.sl _ _, .fn _ _ _]) (args := [.sl _ _, .fn _ _ _]) hb96 ⟨.inr ⟨_, rfl, fun h => h⟩, .inl rfl, trivial⟩ rfl (fun hA => contI_c 97 [] hbP rfl c (fun i => decide (gd c i < 0)) (by omega) (fun i hi => parity1_c _)) rfl rfl) rfl rfl rfl (by decide) (.inl ⟨_, rfl, rfl⟩) rfl (by decide) ?_
  refine r_val (v := .bool _) (v_pick (.inl rfl) (.inl rfl) (.inr ⟨_, rfl, fun h h2 => by simp_all⟩)) rfl rfl (by decide) ?_
  refine r_nil ?_
  refine a_cond rfl (fun ht32 => ?_) (fun ht32 => ?_)
  ·
    skip
    refine a_seq ?_
    refine a_region ?_
    refine r_val (v := .nils) (v_assign (.inl rfl) (noOwn_flat rfl)) rfl rfl (by decide) ?_
    refine r_val (v := .bool _) (v_assign (.inl rfl) (noOwn_flat rfl)) rfl rfl (by decide) ?_
    refine r_nil ?_
    refine a_pre (ent_nil (t := 8) (sz := 2) (cap := none) (.inl rfl) (fun _ h => by cases h)) ?_
    refine a_ret ?_
    refine retL (rs := [.tmp 8, .tmp 9]) [(8, .osl _ _ _ none), (9, _)] ⟨Weak.osl rfl rfl, Weak.rfl, trivial⟩ rfl Try.results49 (by decide) ⟨by decide, by decide, rfl⟩ (by decide) (by decide) (l2_eq (osl_eq2 ?_ ?_) (bool_eq ?_)) (by simp [refsL, refs])
    all_goals (have hno : (prime p vars && risB 1 vars c) = false := (by cases h1 : prime p vars with | false => rfl | true => (rw [← ris_eq (by have := prime_spec h1; omega)]; first | (simp_all; done) | (simp_all; intro h; exact ht32.resolve_left (by rw [h]; decide)))); simp [hno, tcells])
  ·
    skip
    refine a_skip ?_
    refine a_seq ?_
    have hok : (prime p vars && risB 1 vars c) = true := (by cases h1 : prime p vars with | false => simp_all | true => (rw [← ris_eq (by have := prime_spec h1; omega)]; simp_all))
    obtain ⟨hok1, hok2⟩ : prime p vars = true ∧ risB 1 vars c = true := (by simpa only [Bool.and_eq_true] using hok)
    have hpp := prime_spec hok1
    have hw := pow6 hpp.2
    have hd := dn_le hpp.2
    have hdn := dn_cast vars
    have hb62 := ris_le (by omega) hok2
    refine a_region ?_
    refine r_val (v := .sl _ _) (v_move (.inl rfl) (noOwn_flat rfl)) rfl rfl (by decide) ?_
    refine r_new (v := .int _ _) (q_call (vs := [.sl _ _]) (args := [.sl _ _]) hb98 ⟨.inl rfl, trivial⟩ rfl (fun hA => bitsOf_c _ (by omega) (fun j => (by have := ris_le (by omega) hok2 j; omega))) rfl rfl) rfl rfl (by decide) ?_
    refine r_val (v := .int _ _) (v_assign (.inl rfl) (noOwn_flat rfl)) rfl rfl (by decide) ?_
    refine r_nil ?_
    refine a_seq ?_
    refine a_region ?_
    refine r_val (v := .rp _ _) (v_fieldAddr_rp fo58_1 (.inl rfl)) rfl rfl (by decide) ?_
    refine r_val (v := .int _ _) (v_load_rp1 ta3 (.inl rfl) rfl (fun _ => rfl) rfl) rfl rfl (by decide) ?_
    refine r_val (v := .int .i64 ((dn vars : Nat) : Int)) ((v_shl (.inl rfl) (.inl rfl) (fun _ => by omega)).cast (int_eq (by omega))) rfl rfl (by decide) ?_
    refine r_new (v := .osl _ _ _ _) (q_makeSlice us35 sb3 zc3 rfl (by decide) (.inl rfl) (.inl rfl) (fun _ => by omega)) rfl rfl (by decide) ?_
    refine r_val (v := .rsl _ _ _ _ _) (v_assign (.inl rfl) (noOwn_flat rfl)) rfl rfl (by decide) ?_
    refine r_pre (ent_reloc_sl (t := 13) rfl rfl) ?_
    refine r_nil ?_
    refine a_seq ?_
    refine a_seq ?_
    refine a_pre (ent_look (L := [(0, .int _ _), (1, .int _ _), (3, .bool _), (8, .nils), (9, .bool _), (12, .int _ _), (13, .osl _ _ _ _)]) ⟨Weak.rfl, Weak.rfl, Weak.rfl, Weak.rfl, Weak.rfl, Weak.rfl, Weak.rfl, trivial⟩) ?_
    refine a_region ?_
    refine r_val (v := .rsl _ _ _ _ _) (v_move (.inl rfl) (noOwn_flat rfl)) rfl rfl (by decide) ?_
    refine r_val (v := .int _ _) (v_len_rsl sl35 (.inl rfl)) rfl rfl (by decide) ?_
    refine r_val (v := .int _ _) (v_move (.inl rfl) (noOwn_flat rfl)) rfl rfl (by decide) ?_
    refine r_nil ?_
    refine a_block ?_
    refine a_loop (X := Nat) (fun m => look [(0, .int .i64 p), (1, .int .i64 vars), (3, .bool b), (12, .int .i64 ((bitsN c c.length : Nat) : Int)), (13, .osl 1 (icells (part 0 (parL c b (dn vars)) m)) (dn vars) (some (dn vars))), (40, .int .i64 ((dn vars : Nat) : Int)), (41, .int .i64 (m : Int))]) (fun m => m ≤ dn vars) (fun m => dn vars - m) 0 (ent_look ⟨Weak.of_eq rfl, Weak.of_eq rfl, Weak.of_eq rfl, Weak.of_eq rfl, Weak.of_eq (osl_eq (by rw [part_zero, parL_length, ← icells_rep])), Weak.of_eq rfl, Weak.of_eq rfl, trivial⟩) (Nat.zero_le _) (fun m hG => ?_)
    refine a_seq ?_
    refine a_region ?_
    refine r_val (v := .bool _) (v_lss (.inl rfl) (.inl rfl)) rfl rfl (by decide) ?_
    refine r_nil ?_
    refine a_seq ?_
    refine a_cond rfl (fun ht42 => ?_) (fun ht42 => ?_)
    ·
      skip
      refine a_skip ?_
      refine a_seq ?_
      refine a_block ?_
      refine a_seq ?_
      have hm : m < dn vars := (by simp at ht42; omega)
      have hcnt : oc (m &&& bitsN c c.length) = cntI c m c.length := (oc_cnt hpp.2 hok2 (m := m) (by omega) c.length (Nat.le_refl _)).2
      have hbt : bitsN c c.length < 4611686018427387904 := bitsN_lt (fun j => (by have := hb62 j; omega)) _
      have hpl : m * 1 + 1 ≤ (icells (part 0 (parL c b (dn vars)) m)).length := (by rw [icells_length, part_length _ _ (by rw [parL_length]; omega), parL_length]; omega)
      have hmod : ((cntI c m c.length : Nat) : Int) % 2 = 1 ↔ cntI c m c.length % 2 = 1 := (by omega)
      refine a_region ?_
      refine r_val (v := .int _ _) (v_move (.inl rfl) (noOwn_flat rfl)) rfl rfl (by decide) ?_
      refine r_val (v := .int _ _) (v_assign (.inl rfl) (noOwn_flat rfl)) rfl rfl (by decide) ?_
      refine r_nil ?_
      refine a_seq ?_
      refine a_region ?_
      refine r_val (v := .int _ _) (v_move (.inl rfl) (noOwn_flat rfl)) rfl rfl (by decide) ?_
      refine r_val (v := .int _ _) (v_move (.inl rfl) (noOwn_flat rfl)) rfl rfl (by decide) ?_
      refine r_val (v := .int .i64 ((m &&& bitsN c c.length : Nat) : Int)) ((v_and (.inl rfl) (.inl rfl) (fun _ => by omega)).cast (int_eq rfl)) rfl rfl (by decide) ?_
      refine r_new (v := .int _ _) (q_call (vs := [.int _ _]) (args := [.int .i64 ((_ : Nat) : Int)]) hb99 ⟨.inl rfl, trivial⟩ rfl (fun hA => degreeOf_c (m &&& bitsN c c.length) (by have : m &&& bitsN c c.length ≤ m := Nat.and_le_left; omega)) rfl rfl) rfl rfl (by decide) ?_
      refine r_val (v := .int _ _) (v_rem (.inl rfl) (.inl rfl) (fun _ => by omega)) rfl rfl (by decide) ?_
      refine r_val (v := .bool _) (v_eql (.inl rfl) (.inl rfl)) rfl rfl (by decide) ?_
      refine r_val (v := .bool _) (v_move (.inl rfl) (noOwn_flat rfl)) rfl rfl (by decide) ?_
      refine r_val (v := .bool _) (v_bne un4 (.inl rfl) (.inl rfl)) rfl rfl (by decide) ?_
      refine r_nil ?_
      refine a_cond rfl (fun ht51 => ?_) (fun ht51 => ?_)
      ·
        skip
        have hpv : (parL c b (dn vars))[m]? = some 1 := (by rw [parL_get hm]; unfold parV; rw [if_neg (by rw [hcnt, decide_eq_decide.2 hmod] at ht51; simpa using ht51)])
        have hset : (icells (part 0 (parL c b (dn vars)) m)).set (m * 1) (.int .i64 1) = icells (part 0 (parL c b (dn vars)) (m + 1)) := (by rw [Nat.mul_one, icells_set, part_set 0 _ hpv])
        refine a_region ?_
        refine r_val (v := .rsl _ _ _ _ _) (v_move (.inl rfl) (noOwn_flat rfl)) rfl rfl (by decide) ?_
        refine r_val (v := .int _ _) (v_move (.inl rfl) (noOwn_flat rfl)) rfl rfl (by decide) ?_
        refine r_val (v := .rp _ _) (v_indexAddr_rsl0 es35 (.inl rfl) (.inl rfl) (fun _ => by omega)) rfl rfl (by decide) ?_
        refine r_step rfl (o_store (v := .int _ _) (y' := .osl _ _ _ _) rfl rfl ta3 (.inl rfl) (.inl rfl) rfl rfl rfl rfl rfl rfl hpl (by decide) rfl (congrArg (fun c => AV.osl 1 c (dn vars) (some (dn vars))) hset)) ?_
        refine r_nil ?_
        refine a_region ?_
        refine r_val (v := .int _ _) (v_add (.inl rfl) (.inl rfl) (fun _ => by omega)) rfl rfl (by decide) ?_
        refine r_val (v := .int _ _) (v_move (.inl rfl) (noOwn_flat rfl)) rfl rfl (by decide) ?_
        refine r_nil ?_
        refine ⟨m + 1, ent_look ⟨Weak.of_eq rfl, Weak.of_eq rfl, Weak.of_eq rfl, Weak.of_eq rfl, Weak.of_eq rfl, Weak.of_eq rfl, Weak.of_eq (int_eq (by omega)), trivial⟩, by omega, by omega⟩
      ·
        skip
        refine a_skip ?_
        refine a_region ?_
        refine r_val (v := .int _ _) (v_add (.inl rfl) (.inl rfl) (fun _ => by omega)) rfl rfl (by decide) ?_
        refine r_val (v := .int _ _) (v_move (.inl rfl) (noOwn_flat rfl)) rfl rfl (by decide) ?_
        refine r_nil ?_
        have hpv : (parL c b (dn vars))[m]? = some 0 := (by rw [parL_get hm]; unfold parV; rw [if_pos (by rw [hcnt, decide_eq_decide.2 hmod, ← Bool.not_eq_true] at *; simpa using ht51)])
        refine ⟨m + 1, ent_look ⟨Weak.of_eq rfl, Weak.of_eq rfl, Weak.of_eq rfl, Weak.of_eq rfl, Weak.of_eq (osl_eq (by rw [part_skip 0 _ hpv])), Weak.of_eq rfl, Weak.of_eq (int_eq (by omega)), trivial⟩, by omega, by omega⟩
    ·
      skip
      refine a_exit ?_
      refine a_seq ?_
      refine a_pre (ent_eq (t := 13) (v' := .osl 1 (icells (parL c b (dn vars))) (parL c b (dn vars)).length none) (Weak.osl (by simp at ht42; rw [part_full _ _ (by rw [parL_length]; omega)]) (by rw [parL_length]))) ?_
      refine a_region ?_
      refine r_val (v := .int _ _) (v_move (.inl rfl) (noOwn_flat rfl)) rfl rfl (by decide) ?_
      refine r_val (v := .int _ _) (v_move (.inl rfl) (noOwn_flat rfl)) rfl rfl (by decide) ?_
      refine r_val (v := .rsl _ _ _ _ _) (v_move (.inl rfl) (noOwn_flat rfl)) rfl rfl (by decide) ?_
      refine r_new (v := .tup [.osl _ _ _ _, .bool _]) (q_call (vs := [.int _ _, .int _ _, .rsl _ _ _ _ _]) (args := [.int .i64 _, .int .i64 _, .sl _ _]) hb28 ⟨.inl rfl, .inl rfl, .inl rfl, trivial⟩ (l3_eq rfl rfl (sl_sh (ic_pure _))) (fun hA => iPolyWithValues_c _ _ (parL c b (dn vars)) (by rw [parL_length]; omega)) (by simp [noSh, noShL, tc_noSh]) (by simp [noRef, noRefL, tc_noRef])) rfl rfl (by decide) ?_
      refine r_val (v := .rsl _ _ _ _ _) (v_extract rfl rfl) rfl rfl (by decide) ?_
      refine r_val (v := .bool _) (v_extract rfl rfl) rfl rfl (by decide) ?_
      refine r_val (v := .rsl _ _ _ _ _) (v_assign (.inl rfl) (noOwn_flat rfl)) rfl rfl (by decide) ?_
      refine r_pre (ent_reloc_sl (t := 8) rfl rfl) ?_
      refine r_val (v := .bool _) (v_assign (.inl rfl) (noOwn_flat rfl)) rfl rfl (by decide) ?_
      refine r_nil ?_
      refine a_ret ?_
      refine retL (rs := [.tmp 8, .tmp 9]) [(8, .osl _ _ _ none), (9, _)] ⟨Weak.osl rfl rfl, Weak.rfl, trivial⟩ rfl Try.results49 (by decide) ⟨by decide, by decide, rfl⟩ (by decide) (by decide) (l2_eq (osl_eq2 ?_ ?_) (bool_eq ?_)) (by simp [refsL, refs])
      all_goals (have hv := par_val (p := p) (vars := vars) (c := c) (b := b) hok1; simp [hok, hv])

theorem lawParityPoly_c (p vars : Int) (c : List Int) (b : Bool) (hl : (c.length : Int) ≤ 9223372036854775807) (hb : ∀ j, -9223372036854775808 ≤ gd c j ∧ gd c j ≤ 9223372036854775807) : ACall Try.prog 14 [.int .i64 p, .int .i64 vars, .sl (icells c) c.length, .bool b] [] (.bool true) [] := by
  have hr := parRes_len p vars c b
  refine ACall.intro Try.func14 rfl (N := 108) rfl (by decide) (by simp) ?_
  refine a_seq ?_
  refine a_region ?_
  refine r_val (v := .bool _) (v_assign (.inl rfl) (noOwn_flat rfl)) rfl rfl (by decide) ?_
  refine r_nil ?_
  refine a_seq ?_
  refine a_seq ?_
  refine a_region ?_
  refine r_val (v := .sl _ _) (v_move (.inl rfl) (noOwn_flat rfl)) rfl rfl (by decide) ?_
  refine r_val (v := .int _ _) (v_len_sl sl35 (.inl rfl)) rfl rfl (by decide) ?_
  refine r_val (v := .bool _) (v_gtr (.inl rfl) (.inl rfl)) rfl rfl (by decide) ?_
  refine r_nil ?_
  refine a_cond rfl (fun ht21 => ?_) (fun ht21 => ?_)
  ·
    skip
    refine a_seq ?_
    refine a_region ?_
    refine r_val (v := .bool _) (v_assign (.inl rfl) (noOwn_flat rfl)) rfl rfl (by decide) ?_
    refine r_nil ?_
    refine a_ret ?_
    refine ret1 Try.results14 (by decide) (by decide) (Weak.of_eq (bool_eq ?_)) rfl Leaves.nil
    first | rfl | (exfalso; simp at ht21; done) | (exfalso; simp at ht21; omega)
  ·
    skip
    refine a_skip ?_
    refine a_seq ?_
    have hle : (c.length : Int) ≤ 1048576 := by simpa using ht21
    refine a_region ?_
    refine r_val (v := .int _ _) (v_move (.inl rfl) (noOwn_flat rfl)) rfl rfl (by decide) ?_
    refine r_val (v := .int _ _) (v_move (.inl rfl) (noOwn_flat rfl)) rfl rfl (by decide) ?_
    refine r_val (v := .sl _ _) (v_move (.inl rfl) (noOwn_flat rfl)) rfl rfl (by decide) ?_
    refine r_new (v := .osl _ _ _ _) (q_call (vs := [.sl _ _]) (args := [.sl _ _]) hb27 ⟨.inl rfl, trivial⟩ rfl (fun hA => toIntS_c _ (by omega)) (ic_noSh _) (ic_noRef _)) rfl rfl (by decide) ?_
    refine r_val (v := .bool _) (v_move (.inl rfl) (noOwn_flat rfl)) rfl rfl (by decide) ?_
    refine r_new (v := .tup [.osl _ _ _ _, .bool _]) (q_call (vs := [.int _ _, .int _ _, .rsl _ _ _ _ _, .bool _]) (args := [.int .i64 _, .int .i64 _, .sl _ _, .bool _]) hb48 ⟨.inl rfl, .inl rfl, .inl rfl, .inl rfl, trivial⟩ (l4_eq rfl rfl (sl_sh (ic_pure _)) rfl) (fun hA => sParityPoly_c _ _ _ _ (by omega) hb) (by simp [noSh, noShL, tc_noSh]) (by simp [noRef, noRefL, tc_noRef])) rfl rfl (by decide) ?_
    refine r_val (v := .tup [.rsl _ _ _ _ _, .bool _]) (v_mv rfl) rfl rfl (by decide) ?_
    refine r_val (v := .rsl _ _ _ _ _) (v_extract rfl rfl) rfl rfl (by decide) ?_
    refine r_val (v := .bool _) (v_extract rfl rfl) rfl rfl (by decide) ?_
    refine r_val (v := .rsl _ _ _ _ _) (v_assign (.inl rfl) (noOwn_flat rfl)) rfl rfl (by decide) ?_
    refine r_pre (ent_reloc_sl (t := 9) rfl rfl) ?_
    refine r_val (v := .bool _) (v_assign (.inl rfl) (noOwn_flat rfl)) rfl rfl (by decide) ?_
    refine r_nil ?_
    refine a_seq ?_
    refine a_region ?_
    refine r_val (v := .sl _ _) (v_move (.inl rfl) (noOwn_flat rfl)) rfl rfl (by decide) ?_
    refine r_new (v := .osl _ _ _ _) (q_call (vs := [.sl _ _]) (args := [.sl _ _]) hb27 ⟨.inl rfl, trivial⟩ rfl (fun hA => toIntS_c _ (by omega)) (ic_noSh _) (ic_noRef _)) rfl rfl (by decide) ?_
    refine r_val (v := .rsl _ _ _ _ _) (v_assign (.inl rfl) (noOwn_flat rfl)) rfl rfl (by decide) ?_
    refine r_pre (ent_reloc_sl (t := 11) rfl rfl) ?_
    refine r_nil ?_
    refine a_seq ?_
    refine a_region ?_
    refine r_val (v := .int _ _) (v_move (.inl rfl) (noOwn_flat rfl)) rfl rfl (by decide) ?_
    refine r_val (v := .int _ _) (v_move (.inl rfl) (noOwn_flat rfl)) rfl rfl (by decide) ?_
    refine r_val (v := .rsl _ _ _ _ _) (v_move (.inl rfl) (noOwn_flat rfl)) rfl rfl (by decide) ?_
    refine r_val (v := .bool _) (v_move (.inl rfl) (noOwn_flat rfl)) rfl rfl (by decide) ?_
    refine r_new (v := .tup [.osl _ _ _ _, .bool _]) (q_call (vs := [.int _ _, .int _ _, .rsl _ _ _ _ _, .bool _]) (args := [.int .i64 _, .int .i64 _, .sl _ _, .bool _]) hb49 ⟨.inl rfl, .inl rfl, .inl rfl, .inl rfl, trivial⟩ (l4_eq rfl rfl (sl_sh (ic_pure _)) rfl) (fun hA => iParityPoly_c _ _ _ _ (by omega) hb) (by simp [noSh, noShL, tc_noSh]) (by simp [noRef, noRefL, tc_noRef])) rfl rfl (by decide) ?_
    refine r_val (v := .tup [.rsl _ _ _ _ _, .bool _]) (v_mv rfl) rfl rfl (by decide) ?_
    refine r_val (v := .rsl _ _ _ _ _) (v_extract rfl rfl) rfl rfl (by decide) ?_
    refine r_val (v := .bool _) (v_extract rfl rfl) rfl rfl (by decide) ?_
    refine r_val (v := .rsl _ _ _ _ _) (v_assign (.inl rfl) (noOwn_flat rfl)) rfl rfl (by decide) ?_
    refine r_pre (ent_reloc_sl (t := 12) rfl rfl) ?_
    refine r_val (v := .bool _) (v_assign (.inl rfl) (noOwn_flat rfl)) rfl rfl (by decide) ?_
    refine r_nil ?_
    refine a_seq ?_
    refine a_seq ?_
    refine a_region ?_
    refine r_val (v := .rsl _ _ _ _ _) (v_move (.inl rfl) (noOwn_flat rfl)) rfl rfl (by decide) ?_
    refine r_val (v := .rsl _ _ _ _ _) (v_move (.inl rfl) (noOwn_flat rfl)) rfl rfl (by decide) ?_
    refine r_new (v := .bool _) (q_call (vs := [.rsl _ _ _ _ _, .rsl _ _ _ _ _]) (args := [.sl _ _, .sl _ _]) hb19 ⟨.inl rfl, .inl rfl, trivial⟩ (l2_eq (sl_sh (tc_pure _)) (sl_sh (tc_pure _))) (fun hA => eqTermS_c _ _ (by omega)) rfl rfl) rfl rfl (by decide) ?_
    refine r_val (v := .bool _) (v_not (.inl rfl)) rfl rfl (by decide) ?_
    refine r_val (v := .bool _) (v_move (.inl rfl) (noOwn_flat rfl)) rfl rfl (by decide) ?_
    refine r_gval (v := .bool _) (v_move (.inl rfl) (noOwn_flat rfl)) rfl rfl rfl (by decide) (.inl ⟨_, rfl, rfl⟩) rfl (by decide) ?_
    refine r_gval (v := .bool _) (v_move (.inl rfl) (noOwn_flat rfl)) rfl rfl rfl (by decide) (.inl ⟨_, rfl, rfl⟩) rfl (by decide) ?_
    refine r_gval (v := .bool _) (v_bne un4 (.inr ⟨_, rfl, fun h => h⟩) (.inr ⟨_, rfl, fun h => h⟩)) rfl rfl rfl (by decide) (.inl ⟨_, rfl, rfl⟩) rfl (by decide) ?_
    refine r_val (v := .bool _) (v_pick (.inl rfl) (.inl rfl) (.inr ⟨_, rfl, fun h h2 => by simp_all⟩)) rfl rfl (by decide) ?_
    refine r_nil ?_
    refine a_cond rfl (fun ht49 => ?_) (fun ht49 => ?_)
    ·
      skip
      refine a_seq ?_
      refine a_pre (ent_look (L := [(0, .int _ _), (1, .int _ _), (2, .sl _ _), (3, .bool _), (8, .bool _), (9, .osl _ _ _ _), (10, .bool _), (11, .osl _ _ _ _), (12, .osl _ _ _ _), (13, .bool _)]) ⟨Weak.rfl, Weak.rfl, Weak.rfl, Weak.rfl, Weak.rfl, Weak.rfl, Weak.rfl, Weak.rfl, Weak.rfl, Weak.rfl, trivial⟩) ?_
      refine a_region ?_
      refine r_val (v := .bool _) (v_assign (.inl rfl) (noOwn_flat rfl)) rfl rfl (by decide) ?_
      refine r_nil ?_
      refine a_ret ?_
      refine ret1 Try.results14 (by decide) (by decide) (Weak.of_eq (bool_eq ?_)) rfl Leaves.nil
      first | rfl | (exfalso; simp at ht49; done) | (exfalso; simp at ht49; omega)
    ·
      skip
      refine a_skip ?_
      refine a_seq ?_
      refine a_seq ?_
      refine a_pre (ent_look (L := [(0, .int _ _), (1, .int _ _), (2, .sl _ _), (3, .bool _), (8, .bool _), (9, .osl _ _ _ _), (10, .bool _), (11, .osl _ _ _ _), (12, .osl _ _ _ _), (13, .bool _)]) ⟨Weak.rfl, Weak.rfl, Weak.rfl, Weak.rfl, Weak.rfl, Weak.rfl, Weak.rfl, Weak.rfl, Weak.rfl, Weak.rfl, trivial⟩) ?_
      refine a_region ?_
      refine r_val (v := .rsl _ _ _ _ _) (v_move (.inl rfl) (noOwn_flat rfl)) rfl rfl (by decide) ?_
      refine r_val (v := .sl _ _) (v_move (.inl rfl) (noOwn_flat rfl)) rfl rfl (by decide) ?_
      refine r_new (v := .osl _ _ _ _) (q_call (vs := [.sl _ _]) (args := [.sl _ _]) hb27 ⟨.inl rfl, trivial⟩ rfl (fun hA => toIntS_c _ (by omega)) (ic_noSh _) (ic_noRef _)) rfl rfl (by decide) ?_
      refine r_new (v := .bool _) (q_call (vs := [.rsl _ _ _ _ _, .rsl _ _ _ _ _]) (args := [.sl _ _, .sl _ _]) hb29 ⟨.inl rfl, .inl rfl, trivial⟩ (l2_eq (sl_sh (ic_pure _)) (sl_sh (ic_pure _))) (fun hA => eqIntS_c _ _ (by omega)) rfl rfl) rfl rfl (by decide) ?_
      refine r_val (v := .bool _) (v_not (.inl rfl)) rfl rfl (by decide) ?_
      refine r_nil ?_
      refine a_cond rfl (fun ht54 => ?_) (fun ht54 => ?_)
      ·
        skip
        refine a_seq ?_
        refine a_region ?_
        refine r_val (v := .bool _) (v_assign (.inl rfl) (noOwn_flat rfl)) rfl rfl (by decide) ?_
        refine r_nil ?_
        refine a_ret ?_
        refine ret1 Try.results14 (by decide) (by decide) (Weak.of_eq (bool_eq ?_)) rfl Leaves.nil
        first | rfl | (exfalso; simp at ht54; done) | (exfalso; simp at ht54; omega)
      ·
        skip
        refine a_skip ?_
        refine a_seq ?_
        refine a_region ?_
        refine r_val (v := .int _ _) (v_assign (.inl rfl) (noOwn_flat rfl)) rfl rfl (by decide) ?_
        refine r_nil ?_
        refine a_seq ?_
        refine a_region ?_
        refine r_val (v := .rsl _ _ _ _ _) (v_move (.inl rfl) (noOwn_flat rfl)) rfl rfl (by decide) ?_
        refine r_val (v := .int _ _) (v_move (.inl rfl) (noOwn_flat rfl)) rfl rfl (by decide) ?_
        refine r_step rfl (o_callIO (q := (11, [])) (vs := [.rsl _ _ _ _ _, .int _ _]) (args := [.rsl (INH, []) _ _ _ _, .int .i64 _]) (x0 := .osl _ _ _ _) (x1 := .osl _ _ _ _) (res := .int _ _) rfl hb30 rfl (by decide) ⟨.inl rfl, .inl rfl, trivial⟩ rfl rfl (markIntS_c _ _ (by omega)) rfl rfl rfl (ic_noSh _) (ic_noRef _) (Nat.le_of_ble_eq_true rfl) (by decide) rfl) ?_
        refine r_val (v := .int _ _) (v_assign (.inl rfl) (noOwn_flat rfl)) rfl rfl (by decide) ?_
        refine r_nil ?_
        refine a_seq ?_
        refine a_seq ?_
        refine a_region ?_
        refine r_val (v := .int _ _) (v_move (.inl rfl) (noOwn_flat rfl)) rfl rfl (by decide) ?_
        refine r_val (v := .bool _) (v_lss (.inl rfl) (.inl rfl)) rfl rfl (by decide) ?_
        refine r_val (v := .bool _) (v_move (.inl rfl) (noOwn_flat rfl)) rfl rfl (by decide) ?_
        refine r_gval (v := .rsl _ _ _ _ _) (v_move (.inl rfl) (noOwn_flat rfl)) rfl rfl rfl (by decide) (.inl ⟨_, rfl, rfl⟩) rfl (by decide) ?_
        refine r_gval (v := .rsl _ _ _ _ _) (v_move (.inl rfl) (noOwn_flat rfl)) rfl rfl rfl (by decide) (.inl ⟨_, rfl, rfl⟩) rfl (by decide) ?_
        refine r_guard (v := .bool _) (q_call (vs := [.rsl _ _ _ _ _, .rsl _ _ _ _ _]) (args := [.sl _ _, .sl _ _]) hb19 ⟨.inr ⟨_, rfl, fun h => h⟩, .inr ⟨_, rfl, fun h => h⟩, trivial⟩ (l2_eq (sl_sh (tc_pure _)) (sl_sh (tc_pure _))) (fun hA => eqTermS_c _ _ (by omega)) rfl rfl) rfl rfl rfl (by decide) (.inl ⟨_, rfl, rfl⟩) rfl (by decide) ?_
        refine r_gval (v := .bool _) (v_not (.inr ⟨_, rfl, fun h => h⟩)) rfl rfl rfl (by decide) (.inl ⟨_, rfl, rfl⟩) rfl (by decide) ?_
        refine r_val (v := .bool _) (v_pick (.inl rfl) (.inl rfl) (.inr ⟨_, rfl, fun h h2 => by simp_all⟩)) rfl rfl (by decide) ?_
        refine r_val (v := .bool _) (v_move (.inl rfl) (noOwn_flat rfl)) rfl rfl (by decide) ?_
        refine r_gval (v := .bool _) (v_move (.inl rfl) (noOwn_flat rfl)) rfl rfl rfl (by decide) (.inl ⟨_, rfl, rfl⟩) rfl (by decide) ?_
        refine r_gval (v := .bool _) (v_move (.inl rfl) (noOwn_flat rfl)) rfl rfl rfl (by decide) (.inl ⟨_, rfl, rfl⟩) rfl (by decide) ?_
        refine r_gval (v := .bool _) (v_bne un4 (.inr ⟨_, rfl, fun h => h⟩) (.inr ⟨_, rfl, fun h => h⟩)) rfl rfl rfl (by decide) (.inl ⟨_, rfl, rfl⟩) rfl (by decide) ?_
        refine r_val (v := .bool _) (v_pick (.inl rfl) (.inl rfl) (.inr ⟨_, rfl, fun h h2 => by simp_all⟩)) rfl rfl (by decide) ?_
        refine r_nil ?_
        refine a_cond rfl (fun ht70 => ?_) (fun ht70 => ?_)
        ·
          skip
          refine a_seq ?_
          refine a_pre (ent_look (L := [(0, .int _ _), (1, .int _ _), (2, .sl _ _), (3, .bool _), (8, .bool _), (9, .osl _ _ _ _), (10, .bool _), (12, .osl _ _ _ _)]) ⟨Weak.rfl, Weak.rfl, Weak.rfl, Weak.rfl, Weak.rfl, Weak.rfl, Weak.rfl, Weak.rfl, trivial⟩) ?_
          refine a_region ?_
          refine r_val (v := .bool _) (v_assign (.inl rfl) (noOwn_flat rfl)) rfl rfl (by decide) ?_
          refine r_nil ?_
          refine a_ret ?_
          refine ret1 Try.results14 (by decide) (by decide) (Weak.of_eq (bool_eq ?_)) rfl Leaves.nil
          first | rfl | (exfalso; simp at ht70; done) | (exfalso; simp at ht70; omega)
        ·
          skip
          refine a_skip ?_
          refine a_seq ?_
          refine a_pre (ent_look (L := [(0, .int _ _), (1, .int _ _), (2, .sl _ _), (3, .bool _), (8, .bool _), (9, .osl _ _ _ _), (10, .bool _), (12, .osl _ _ _ _)]) ⟨Weak.rfl, Weak.rfl, Weak.rfl, Weak.rfl, Weak.rfl, Weak.rfl, Weak.rfl, Weak.rfl, trivial⟩) ?_
          refine a_region ?_
          refine r_val (v := .int _ _) (v_assign (.inl rfl) (noOwn_flat rfl)) rfl rfl (by decide) ?_
          refine r_nil ?_
          refine a_seq ?_
          refine a_region ?_
          refine r_val (v := .rsl _ _ _ _ _) (v_move (.inl rfl) (noOwn_flat rfl)) rfl rfl (by decide) ?_
          refine r_val (v := .int _ _) (v_move (.inl rfl) (noOwn_flat rfl)) rfl rfl (by decide) ?_
          refine r_step rfl (o_callIO (q := (12, [])) (vs := [.rsl _ _ _ _ _, .int _ _]) (args := [.rsl (INH, []) _ _ _ _, .int .i64 _]) (x0 := .osl _ _ _ _) (x1 := .osl _ _ _ _) (res := .int _ _) rfl hb24 rfl (by decide) ⟨.inl rfl, .inl rfl, trivial⟩ rfl rfl (markTermS_c _ _ (by omega)) rfl rfl rfl (tc_noSh _) (tc_noRef _) (Nat.le_of_ble_eq_true rfl) (by decide) rfl) ?_
          refine r_val (v := .int _ _) (v_assign (.inl rfl) (noOwn_flat rfl)) rfl rfl (by decide) ?_
          refine r_nil ?_
          refine a_seq ?_
          refine a_region ?_
          refine r_val (v := .int _ _) (v_assign (.inl rfl) (noOwn_flat rfl)) rfl rfl (by decide) ?_
          refine r_nil ?_
          refine a_seq ?_
          refine a_region ?_
          refine r_val (v := .rsl _ _ _ _ _) (v_move (.inl rfl) (noOwn_flat rfl)) rfl rfl (by decide) ?_
          refine r_val (v := .int _ _) (v_move (.inl rfl) (noOwn_flat rfl)) rfl rfl (by decide) ?_
          refine r_new (v := .int _ _) (q_call (vs := [.rsl _ _ _ _ _, .int _ _]) (args := [.sl _ _, .int .i64 _]) hb25 ⟨.inl rfl, .inl rfl, trivial⟩ (l2_eq (sl_sh (tc_pure _)) rfl) (fun hA => heldTermS_c _ _ (by omega)) rfl rfl) rfl rfl (by decide) ?_
          refine r_val (v := .int _ _) (v_assign (.inl rfl) (noOwn_flat rfl)) rfl rfl (by decide) ?_
          refine r_nil ?_
          refine a_seq ?_
          refine a_seq ?_
          refine a_region ?_
          refine r_val (v := .int _ _) (v_move (.inl rfl) (noOwn_flat rfl)) rfl rfl (by decide) ?_
          refine r_val (v := .bool _) (v_lss (.inl rfl) (.inl rfl)) rfl rfl (by decide) ?_
          refine r_nil ?_
          refine a_cond rfl (fun ht78 => ?_) (fun ht78 => ?_)
          ·
            skip
            refine a_seq ?_
            refine a_region ?_
            refine r_val (v := .bool _) (v_assign (.inl rfl) (noOwn_flat rfl)) rfl rfl (by decide) ?_
            refine r_nil ?_
            refine a_ret ?_
            refine ret1 Try.results14 (by decide) (by decide) (Weak.of_eq (bool_eq ?_)) rfl Leaves.nil
            first | rfl | (exfalso; simp at ht78; done) | (exfalso; simp at ht78; omega)
          ·
            skip
            refine a_skip ?_
            refine a_seq ?_
            refine a_seq ?_
            refine a_region ?_
            refine r_val (v := .int _ _) (v_move (.inl rfl) (noOwn_flat rfl)) rfl rfl (by decide) ?_
            refine r_val (v := .int _ _) (v_move (.inl rfl) (noOwn_flat rfl)) rfl rfl (by decide) ?_
            refine r_val (v := .bool _) (v_neq (.inl rfl) (.inl rfl)) rfl rfl (by decide) ?_
            refine r_nil ?_
            refine a_cond rfl (fun ht81 => ?_) (fun ht81 => ?_)
            ·
              skip
              refine a_seq ?_
              refine a_region ?_
              refine r_val (v := .bool _) (v_assign (.inl rfl) (noOwn_flat rfl)) rfl rfl (by decide) ?_
              refine r_nil ?_
              refine a_ret ?_
              refine ret1 Try.results14 (by decide) (by decide) (Weak.of_eq (bool_eq ?_)) rfl Leaves.nil
              first | rfl | (exfalso; simp at ht81; done) | (exfalso; simp at ht81; omega)
            ·
              skip
              refine a_skip ?_
              refine a_seq ?_
              refine a_region ?_
              refine r_val (v := .int _ _) (v_move (.inl rfl) (noOwn_flat rfl)) rfl rfl (by decide) ?_
              refine r_val (v := .int _ _) (v_move (.inl rfl) (noOwn_flat rfl)) rfl rfl (by decide) ?_
              refine r_val (v := .sl _ _) (v_move (.inl rfl) (noOwn_flat rfl)) rfl rfl (by decide) ?_
              refine r_new (v := .osl _ _ _ _) (q_call (vs := [.sl _ _]) (args := [.sl _ _]) hb27 ⟨.inl rfl, trivial⟩ rfl (fun hA => toIntS_c _ (by omega)) (ic_noSh _) (ic_noRef _)) rfl rfl (by decide) ?_
              refine r_val (v := .bool _) (v_move (.inl rfl) (noOwn_flat rfl)) rfl rfl (by decide) ?_
              refine r_new (v := .tup [.osl _ _ _ _, .bool _]) (q_call (vs := [.int _ _, .int _ _, .rsl _ _ _ _ _, .bool _]) (args := [.int .i64 _, .int .i64 _, .sl _ _, .bool _]) hb49 ⟨.inl rfl, .inl rfl, .inl rfl, .inl rfl, trivial⟩ (l4_eq rfl rfl (sl_sh (ic_pure _)) rfl) (fun hA => iParityPoly_c _ _ _ _ (by omega) hb) (by simp [noSh, noShL, tc_noSh]) (by simp [noRef, noRefL, tc_noRef])) rfl rfl (by decide) ?_
              refine r_val (v := .tup [.rsl _ _ _ _ _, .bool _]) (v_mv rfl) rfl rfl (by decide) ?_
              refine r_val (v := .rsl _ _ _ _ _) (v_extract rfl rfl) rfl rfl (by decide) ?_
              refine r_val (v := .bool _) (v_extract rfl rfl) rfl rfl (by decide) ?_
              refine r_val (v := .rsl _ _ _ _ _) (v_assign (.inl rfl) (noOwn_flat rfl)) rfl rfl (by decide) ?_
              refine r_pre (ent_reloc_sl (t := 17) rfl rfl) ?_
              refine r_val (v := .bool _) (v_assign (.inl rfl) (noOwn_flat rfl)) rfl rfl (by decide) ?_
              refine r_nil ?_
              refine a_seq ?_
              refine a_seq ?_
              refine a_pre (ent_look (L := [(8, .bool _), (9, .osl _ _ _ _), (10, .bool _), (12, .osl _ _ _ _), (15, .int _ _), (16, .int _ _), (17, .osl _ _ _ _), (18, .bool _)]) ⟨Weak.rfl, Weak.rfl, Weak.rfl, Weak.rfl, Weak.rfl, Weak.rfl, Weak.rfl, Weak.rfl, trivial⟩) ?_
              refine a_region ?_
              refine r_val (v := .rsl _ _ _ _ _) (v_move (.inl rfl) (noOwn_flat rfl)) rfl rfl (by decide) ?_
              refine r_val (v := .rsl _ _ _ _ _) (v_move (.inl rfl) (noOwn_flat rfl)) rfl rfl (by decide) ?_
              refine r_new (v := .bool _) (q_call (vs := [.rsl _ _ _ _ _, .rsl _ _ _ _ _]) (args := [.sl _ _, .sl _ _]) hb19 ⟨.inl rfl, .inl rfl, trivial⟩ (l2_eq (sl_sh (tc_pure _)) (sl_sh (tc_pure _))) (fun hA => eqTermS_c _ _ (by omega)) rfl rfl) rfl rfl (by decide) ?_
              refine r_val (v := .bool _) (v_not (.inl rfl)) rfl rfl (by decide) ?_
              refine r_val (v := .bool _) (v_move (.inl rfl) (noOwn_flat rfl)) rfl rfl (by decide) ?_
              refine r_gval (v := .bool _) (v_move (.inl rfl) (noOwn_flat rfl)) rfl rfl rfl (by decide) (.inl ⟨_, rfl, rfl⟩) rfl (by decide) ?_
              refine r_gval (v := .bool _) (v_move (.inl rfl) (noOwn_flat rfl)) rfl rfl rfl (by decide) (.inl ⟨_, rfl, rfl⟩) rfl (by decide) ?_
              refine r_gval (v := .bool _) (v_bne un4 (.inr ⟨_, rfl, fun h => h⟩) (.inr ⟨_, rfl, fun h => h⟩)) rfl rfl rfl (by decide) (.inl ⟨_, rfl, rfl⟩) rfl (by decide) ?_
              refine r_val (v := .bool _) (v_pick (.inl rfl) (.inl rfl) (.inr ⟨_, rfl, fun h h2 => by simp_all⟩)) rfl rfl (by decide) ?_
              refine r_nil ?_
              refine a_cond rfl (fun ht99 => ?_) (fun ht99 => ?_)
              ·
                skip
                refine a_seq ?_
                refine a_region ?_
                refine r_val (v := .bool _) (v_assign (.inl rfl) (noOwn_flat rfl)) rfl rfl (by decide) ?_
                refine r_nil ?_
                refine a_ret ?_
                refine ret1 Try.results14 (by decide) (by decide) (Weak.of_eq (bool_eq ?_)) rfl Leaves.nil
                first | rfl | (exfalso; simp at ht99; done) | (exfalso; simp at ht99; omega)
              ·
                skip
                refine a_skip ?_
                refine a_seq ?_
                refine a_region ?_
                refine r_val (v := .int _ _) (v_assign (.inl rfl) (noOwn_flat rfl)) rfl rfl (by decide) ?_
                refine r_nil ?_
                refine a_seq ?_
                refine a_region ?_
                refine r_val (v := .rsl _ _ _ _ _) (v_move (.inl rfl) (noOwn_flat rfl)) rfl rfl (by decide) ?_
                refine r_val (v := .int _ _) (v_move (.inl rfl) (noOwn_flat rfl)) rfl rfl (by decide) ?_
                refine r_new (v := .int _ _) (q_call (vs := [.rsl _ _ _ _ _, .int _ _]) (args := [.sl _ _, .int .i64 _]) hb25 ⟨.inl rfl, .inl rfl, trivial⟩ (l2_eq (sl_sh (tc_pure _)) rfl) (fun hA => heldTermS_c _ _ (by omega)) rfl rfl) rfl rfl (by decide) ?_
                refine r_val (v := .int _ _) (v_assign (.inl rfl) (noOwn_flat rfl)) rfl rfl (by decide) ?_
                refine r_nil ?_
                refine a_seq ?_
                refine a_seq ?_
                refine a_region ?_
                refine r_val (v := .int _ _) (v_move (.inl rfl) (noOwn_flat rfl)) rfl rfl (by decide) ?_
                refine r_val (v := .bool _) (v_lss (.inl rfl) (.inl rfl)) rfl rfl (by decide) ?_
                refine r_nil ?_
                refine a_cond rfl (fun ht104 => ?_) (fun ht104 => ?_)
                ·
                  skip
                  refine a_seq ?_
                  refine a_region ?_
                  refine r_val (v := .bool _) (v_assign (.inl rfl) (noOwn_flat rfl)) rfl rfl (by decide) ?_
                  refine r_nil ?_
                  refine a_ret ?_
                  refine ret1 Try.results14 (by decide) (by decide) (Weak.of_eq (bool_eq ?_)) rfl Leaves.nil
                  first | rfl | (exfalso; simp at ht104; done) | (exfalso; simp at ht104; omega)
                ·
                  skip
                  refine a_skip ?_
                  refine a_seq ?_
                  refine a_seq ?_
                  refine a_region ?_
                  refine r_val (v := .int _ _) (v_move (.inl rfl) (noOwn_flat rfl)) rfl rfl (by decide) ?_
                  refine r_val (v := .int _ _) (v_move (.inl rfl) (noOwn_flat rfl)) rfl rfl (by decide) ?_
                  refine r_val (v := .bool _) (v_neq (.inl rfl) (.inl rfl)) rfl rfl (by decide) ?_
                  refine r_nil ?_
                  refine a_cond rfl (fun ht107 => ?_) (fun ht107 => ?_)
                  ·
                    skip
                    refine a_seq ?_
                    refine a_region ?_
                    refine r_val (v := .bool _) (v_assign (.inl rfl) (noOwn_flat rfl)) rfl rfl (by decide) ?_
                    refine r_nil ?_
                    refine a_ret ?_
                    refine ret1 Try.results14 (by decide) (by decide) (Weak.of_eq (bool_eq ?_)) rfl Leaves.nil
                    first | rfl | (exfalso; simp at ht107; done) | (exfalso; simp at ht107; omega)
                  ·
                    skip
                    refine a_skip ?_
                    refine a_seq ?_
                    refine a_region ?_
                    refine r_val (v := .bool _) (v_assign (.inl rfl) (noOwn_flat rfl)) rfl rfl (by decide) ?_
                    refine r_nil ?_
                    refine a_ret ?_
                    refine ret1 Try.results14 (by decide) (by decide) (Weak.of_eq (bool_eq ?_)) rfl Leaves.nil
                    first | rfl | (exfalso; simp at ht107; done) | (exfalso; simp at ht107; omega)
end Go.Av
