/- Sums and products of polynomials by their coefficients. -/
import Derived.Test.YteobpdiljobofaaPq
set_option linter.unusedVariables false
set_option linter.unusedSimpArgs false
namespace Go.Av
open Go
def linz (k : Int) (A B : List Int) : List Int := (List.range A.length).map fun i => gd A i + k * gd B i
theorem linz_length (k : Int) (A B : List Int) : (linz k A B).length = A.length := by simp [linz]
theorem gd_linz {k : Int} {A B : List Int} {i : Nat} (h : i < A.length) : gd (linz k A B) i = gd A i + k * gd B i := by simp [gd, linz, h]
/-- The first i are done. -/
def mixL (L A : List Int) (i : Nat) : List Int := L.take i ++ A.drop i
theorem mixL_length {L A : List Int} {i : Nat} (h : L.length = A.length) : (mixL L A i).length = A.length := by simp [mixL]; omega
theorem mixL_zero (L A : List Int) : mixL L A 0 = A := by simp [mixL]
theorem mixL_full {L A : List Int} {i : Nat} (h : L.length = A.length) (hi : A.length ≤ i) : mixL L A i = L := by
  unfold mixL; rw [List.take_of_length_le (by omega), List.drop_of_length_le (by omega), List.append_nil]
theorem gd_mixL {L A : List Int} {i j : Nat} (h : L.length = A.length) : gd (mixL L A i) j = if j < i then gd L j else gd A j := by
  unfold mixL gd
  by_cases hj : j < i
  · rw [if_pos hj]
    by_cases hl : j < L.length
    · rw [List.getElem?_append_left (by simp; omega), List.getElem?_take, if_pos hj]
    · rw [List.getElem?_append_right (by simp; omega), List.getElem?_eq_none (by simp; omega), List.getElem?_eq_none (by omega)]
  · rw [if_neg hj]
    by_cases hl : i ≤ L.length
    · rw [List.getElem?_append_right (by simp; omega), List.length_take, Nat.min_eq_left hl, List.getElem?_drop, show i + (j - i) = j by omega]
    · rw [List.getElem?_eq_none (by simp; omega), List.getElem?_eq_none (by omega)]
theorem mixL_set {L A : List Int} {i : Nat} (h : L.length = A.length) (hi : i < A.length) : (mixL L A i).set i (gd L i) = mixL L A (i + 1) := by
  refine gd_ext (by rw [List.length_set, mixL_length h, mixL_length h]) fun j hj => ?_
  rw [gd_setc, mixL_length h, gd_mixL h, gd_mixL h]
  by_cases h1 : i = j
  · subst h1; rw [if_pos ⟨rfl, hi⟩, if_pos (by omega)]
  · rw [if_neg (by omega)]
    have : (j < i) ↔ (j < i + 1) := by omega
    simp only [this]
theorem trmTo_congr {A B : List Int} : ∀ {i : Nat}, (∀ j, j < i → gd A j = gd B j) → trmTo A i = trmTo B i
  | 0, _ => rfl
  | i + 1, h => by simp only [trmTo, h i (by omega), trmTo_congr (fun j hj => h j (Nat.lt_succ_of_lt hj))]
theorem trmTo_tail {A : List Int} {m : Nat} (h : ∀ j, m ≤ j → gd A j = 0) : ∀ {i : Nat}, m ≤ i → trmTo A i = trmTo A m
  | 0, hi => by have : m = 0 := by omega
                rw [this]
  | i + 1, hi => by
    rcases Nat.eq_or_lt_of_le hi with he | hl
    · rw [he]
    · rw [trmTo_skip (h i (by omega)), trmTo_tail h (by omega)]
/-- A good polynomial is the terms of its coefficients. -/
theorem good_trm {p vars : Int} {xs : List (Int × Int)} (hp : 0 ≤ vars) (h : goodL p vars xs = true) : trm (accp p (dn vars) xs) = xs := by
  have hdn := dn_cast vars
  have key : ∀ k, k ≤ xs.length → trmTo (accp p (dn vars) (xs.take k)) (dn vars) = xs.take k := by
    intro k
    induction k with
    | zero =>
      intro _
      rw [List.take_zero]
      exact trmTo_tail (A := accp p (dn vars) []) (m := 0) (fun j _ => gd_rep) (Nat.zero_le _)
    | succ k ih =>
      intro hk
      have hs := good_spec h (show k < xs.length by omega)
      have hz : ∀ j, (tm xs k).1.toNat ≤ j → gd (accp p (dn vars) (xs.take k)) j = 0 := fun j hj => accp_zero fun t ht => by
        obtain ⟨i, hi⟩ := List.getElem?_of_mem ht
        rw [List.getElem?_take] at hi
        split at hi
        · rename_i hik
          have h1 := good_asc h hik (by omega)
          have h2 := (good_spec h (show i < xs.length by omega)).1
          have : tm xs i = t := by simp [tm, hi]
          rw [this] at h1 h2
          omega
        · cases hi
      have ih := ih (by omega)
      rw [trmTo_tail hz (by omega)] at ih
      rw [← good_set h (show k < xs.length by omega)]
      have hlt : (tm xs k).1.toNat < dn vars := by omega
      have hg : gd ((accp p (dn vars) (xs.take k)).set (tm xs k).1.toNat (tm xs k).2) (tm xs k).1.toNat = (tm xs k).2 := by rw [gd_set (by rw [accp_length]; exact hlt)]
      rw [trmTo_tail (m := (tm xs k).1.toNat + 1) (fun j hj => by rw [gd_set_ne (by omega)]; exact hz j (by omega)) hlt, trmTo_more (by rw [hg]; omega), hg,
        trmTo_congr (B := accp p (dn vars) (xs.take k)) (fun j hj => gd_set_ne (by omega)), ih, take_tm (by omega)]
      congr 2
      exact Prod.ext (by simp; omega) rfl
  have := key xs.length (Nat.le_refl _)
  rw [List.take_length] at this
  unfold trm; rw [accp_length]; exact this
/-- One term times the terms of B. -/
def mIn (p : Int) (B : List Int) (m : Nat) (c : Int) : Nat → List Int → List Int
  | 0, l => l
  | j + 1, l => bumpp p (mIn p B m c j l) (m ||| j) (c * gd B j)
def mOut (p : Int) (n : Nat) (A B : List Int) : Nat → List Int
  | 0 => List.replicate n 0
  | i + 1 => mIn p B i (gd A i) B.length (mOut p n A B i)
/-- The product. -/
def mulp (p : Int) (n : Nat) (A B : List Int) : List Int := mOut p n A B A.length
theorem mIn_length {p c : Int} {B : List Int} {m : Nat} : ∀ (j : Nat) (l : List Int), (mIn p B m c j l).length = l.length
  | 0, _ => rfl
  | j + 1, l => by simp [mIn, bumpp, mIn_length j l]
theorem mOut_length {p : Int} {n : Nat} {A B : List Int} : ∀ i, (mOut p n A B i).length = n
  | 0 => by simp [mOut]
  | i + 1 => by rw [mOut, mIn_length, mOut_length]
def Bd (p : Int) (l : List Int) : Prop := ∀ m, 0 ≤ gd l m ∧ gd l m < p
theorem bumpp_bd {p c : Int} {l : List Int} {m : Nat} (hp : 1 ≤ p) (h : Bd p l) : Bd p (bumpp p l m c) := fun j => by
  unfold bumpp
  rw [gd_setc]
  have h1 := Int.emod_nonneg (gd l m + c) (show p ≠ 0 by omega)
  have h2 := Int.emod_lt_of_pos (gd l m + c) (show 0 < p by omega)
  split
  · omega
  · exact h j
theorem mIn_bd {p c : Int} {B : List Int} {m : Nat} (hp : 1 ≤ p) : ∀ (j : Nat) {l : List Int}, Bd p l → Bd p (mIn p B m c j l)
  | 0, _, h => h
  | j + 1, _, h => bumpp_bd hp (mIn_bd hp j h)
theorem rep_bd {p : Int} (hp : 1 ≤ p) (n : Nat) : Bd p (List.replicate n 0) := fun m => by rw [gd_rep]; omega
theorem mOut_bd {p : Int} (hp : 1 ≤ p) {n : Nat} {A B : List Int} : ∀ i, Bd p (mOut p n A B i)
  | 0 => rep_bd hp n
  | i + 1 => mIn_bd hp _ (mOut_bd hp i)
theorem modp_bd {p : Int} (hp : 1 ≤ p) (l : List Int) : Bd p (modp p l) := fun m => by
  rw [gd_modp]; exact ⟨Int.emod_nonneg _ (by omega), Int.emod_lt_of_pos _ (by omega)⟩
theorem bumpp_zero {p : Int} {l : List Int} {m : Nat} (h : Bd p l) : bumpp p l m 0 = l := by
  refine gd_ext (by simp [bumpp]) fun j hj => ?_
  unfold bumpp
  rw [gd_setc]
  split
  · rename_i hc
    obtain ⟨rfl, _⟩ := hc
    rw [Int.add_zero, Int.emod_eq_of_lt (h m).1 (h m).2]
  · rfl
/-- One term times some terms. -/
def sIn (p : Int) (t : Int × Int) (ys : List (Int × Int)) (l : List Int) : List Int := ys.foldl (fun l s => bumpp p l (t.1.toNat ||| s.1.toNat) (t.2 * s.2)) l
def sOut (p : Int) (n : Nat) (xs ys : List (Int × Int)) : List Int := xs.foldl (fun l t => sIn p t ys l) (List.replicate n 0)
theorem sIn_trm {p c : Int} (hp : 1 ≤ p) {B : List Int} {m : Nat} : ∀ (j : Nat) {l : List Int}, Bd p l → sIn p ((m : Int), c) (trmTo B j) l = mIn p B m c j l
  | 0, _, _ => rfl
  | j + 1, l, h => by
    simp only [trmTo, mIn]
    have ih := sIn_trm hp (c := c) (B := B) (m := m) j h
    split
    · rename_i h0
      rw [ih, h0, Int.mul_zero, bumpp_zero (mIn_bd hp j h)]
    · unfold sIn at ih ⊢
      rw [List.foldl_append, ih]; simp
theorem mIn_zero {p : Int} (hp : 1 ≤ p) {B : List Int} {m : Nat} : ∀ (j : Nat) {l : List Int}, Bd p l → mIn p B m 0 j l = l
  | 0, _, _ => rfl
  | j + 1, l, h => by simp only [mIn]; rw [mIn_zero hp j h, Int.zero_mul, bumpp_zero h]
theorem sOut_trm {p : Int} (hp : 1 ≤ p) {n : Nat} {A B : List Int} : ∀ i, sOut p n (trmTo A i) (trm B) = mOut p n A B i
  | 0 => rfl
  | i + 1 => by
    simp only [trmTo, mOut]
    have ih := sOut_trm hp (n := n) (A := A) (B := B) i
    split
    · rename_i h0
      rw [ih, h0, mIn_zero hp _ (mOut_bd hp i)]
    · unfold sOut at ih ⊢
      rw [List.foldl_append, ih]
      exact sIn_trm hp _ (mOut_bd hp i)
theorem sOut_good {p vars : Int} {xs ys : List (Int × Int)} (hp : prime p vars = true) (hx : goodL p vars xs = true) (hy : goodL p vars ys = true) : sOut p (dn vars) xs ys = mulp p (dn vars) (accp p (dn vars) xs) (accp p (dn vars) ys) := by
  have h := prime_spec hp
  have := sOut_trm (p := p) (by omega) (n := dn vars) (A := accp p (dn vars) xs) (B := accp p (dn vars) ys) (accp p (dn vars) xs).length
  rw [show trmTo (accp p (dn vars) xs) (accp p (dn vars) xs).length = xs from good_trm h.2.1 hx, good_trm h.2.1 hy] at this
  exact this
theorem or_lt {a b : Nat} {vars : Int} (ha : a < dn vars) (hb : b < dn vars) : a ||| b < dn vars := Nat.or_lt_two_pow ha hb
theorem accp_Bd {p : Int} (hp : 1 ≤ p) (n : Nat) (xs : List (Int × Int)) : Bd p (accp p n xs) := fun m => accp_bd hp n xs m
theorem mul_bd {a b p : Int} (ha : 0 ≤ a ∧ a < p) (hb : 0 ≤ b ∧ b < p) (hp : p ≤ 5) : 0 ≤ a * b ∧ a * b ≤ 16 := by
  refine ⟨Int.mul_nonneg ha.1 hb.1, ?_⟩
  have h1 : a * b ≤ 4 * b := Int.mul_le_mul_of_nonneg_right (by omega) hb.1
  omega
theorem linz_nonneg {k p : Int} {A B : List Int} (hk : 0 ≤ k ∧ k < p) (hA : Bd p A) (hB : Bd p B) (hp : p ≤ 5) (m : Nat) : 0 ≤ gd (linz k A B) m := by
  rcases Nat.lt_or_ge m A.length with h | h
  · rw [gd_linz h]
    have h1 := mul_bd hk (hB m) hp
    have h2 := hA m
    omega
  · unfold gd; rw [List.getElem?_eq_none (by rw [linz_length]; omega)]; decide
end Go.Av
namespace Go.Av
open Go Go.Proofs
set_option maxRecDepth 10000
theorem addRes_len (p vars : Int) (xs ys : List (Int × Int)) : (if polOk p vars [xs, ys] then trm (modp p (linz 1 (accp p (dn vars) xs) (accp p (dn vars) ys))) else []).length ≤ 64 := by
  split
  · rename_i h
    simp [polOk] at h
    have := trm_len (modp p (linz 1 (accp p (dn vars) xs) (accp p (dn vars) ys)))
    rw [modp_length, linz_length, accp_length] at this
    have := dn_le (prime_spec h.1).2
    omega
  · simp
theorem ap69 : appTy Try.prog 69 = some (1, 8) := by kernel_rfl
theorem hb102 : hasBody Try.prog 102 = true := by kernel_rfl
theorem hb37 : hasBody Try.prog 37 = true := by kernel_rfl
theorem hb38 : hasBody Try.prog 38 = true := by kernel_rfl
theorem hb74 : hasBody Try.prog 74 = true := by kernel_rfl
theorem hb77 : hasBody Try.prog 77 = true := by kernel_rfl
theorem hb78 : hasBody Try.prog 78 = true := by kernel_rfl
theorem lt69 : litTy Try.prog 69 = some (1, [.int .i64 0]) := by kernel_rfl

theorem cloneD_c (xs : List Int) (n : Nat) (h : xs.length = n ∧ n ≤ 1048576) : ACall Try.prog 102 [.sl (icells xs) n] [] (.osl 1 (icells xs) n none) [] := by
  refine ACall.intro Try.func102 rfl (N := 8) rfl (by decide) (by simp) ?_
  refine a_seq ?_
  refine a_region ?_
  refine r_val (v := .nils) (v_assign (.inl rfl) (noOwn_flat rfl)) rfl rfl (by decide) ?_
  refine r_nil ?_
  refine a_seq ?_
  refine a_seq ?_
  refine a_region ?_
  refine r_val (v := .sl _ _) (v_move (.inl rfl) (noOwn_flat rfl)) rfl rfl (by decide) ?_
  refine r_nileq rfl rfl us69 (.inl rfl) rfl (by decide) (fun b4 hb4 => ?_)
  refine r_nil ?_
  refine a_cond rfl (fun ht4 => ?_) (fun ht4 => ?_)
  ·
    skip
    refine a_seq ?_
    refine a_region ?_
    refine r_val (v := .nils) (v_assign (.inl rfl) (noOwn_flat rfl)) rfl rfl (by decide) ?_
    refine r_nil ?_
    refine a_pre (ent_nil (t := 2) (sz := 1) (cap := none) (.inl rfl) (fun _ h => by cases h)) ?_
    refine a_ret ?_
    refine ret1 Try.results102 (by decide) (by decide) (Weak.osl ?_ ?_) rfl Leaves.nil
    all_goals (have he := hb4 ht4)
    · exact he.symm
    · have := icells_length xs; rw [he] at this; simp at this; omega
  ·
    skip
    refine a_skip ?_
    refine a_seq ?_
    refine a_region ?_
    refine r_new (v := .osl _ _ _ _) (q_sliceLit (n := 0) (parts := []) lt69 rfl rfl rfl rfl) rfl rfl (by decide) ?_
    refine r_val (v := .sl _ _) (v_move (.inl rfl) (noOwn_flat rfl)) rfl rfl (by decide) ?_
    refine r_step rfl (o_append rfl ap69 rfl (by decide) (by decide) rfl (src_sl (.inl rfl) (fun _ => by rw [icells_length]; omega) (ic_pureL _)) (ic_cell _) rfl (by omega)) ?_
    refine r_val (v := .rsl _ _ _ _ _) (v_assign (.inl rfl) (noOwn_flat rfl)) rfl rfl (by decide) ?_
    refine r_pre (ent_reloc_sl (t := 2) rfl rfl) ?_
    refine r_nil ?_
    refine a_ret ?_
    refine ret1 Try.results102 (by decide) (by decide) (Weak.osl ?_ ?_) rfl Leaves.nil
    · rfl
    · omega

theorem l18Two_c (p vars : Int) (xs ys : List (Int × Int)) (hl : (xs.length : Int) ≤ 9223372036854775807) (hl2 : (ys.length : Int) ≤ 9223372036854775807) : ACall Try.prog 74 [.int .i64 p, .int .i64 vars, .sl (tcells xs) xs.length, .sl (tcells ys) ys.length] [] (.bool (polOk p vars [xs, ys])) [] := by
  refine ACall.intro Try.func74 rfl (N := 19) rfl (by decide) (by simp) ?_
  refine a_seq ?_
  refine a_region ?_
  refine r_val (v := .bool _) (v_assign (.inl rfl) (noOwn_flat rfl)) rfl rfl (by decide) ?_
  refine r_nil ?_
  refine a_seq ?_
  refine a_region ?_
  refine r_val (v := .int _ _) (v_move (.inl rfl) (noOwn_flat rfl)) rfl rfl (by decide) ?_
  refine r_val (v := .int _ _) (v_move (.inl rfl) (noOwn_flat rfl)) rfl rfl (by decide) ?_
  refine r_val (v := .sl _ _) (v_move (.inl rfl) (noOwn_flat rfl)) rfl rfl (by decide) ?_
  refine r_new (v := .bool _) (q_call (vs := [.int _ _, .int _ _, .sl _ _]) (args := [.int .i64 _, .int .i64 _, .sl _ _]) hb50 ⟨.inl rfl, .inl rfl, .inl rfl, trivial⟩ rfl (fun hA => l18Good_c _ _ _ (by omega)) rfl rfl) rfl rfl (by decide) ?_
  refine r_val (v := .bool _) (v_move (.inl rfl) (noOwn_flat rfl)) rfl rfl (by decide) ?_
  refine r_gval (v := .int _ _) (v_move (.inl rfl) (noOwn_flat rfl)) rfl rfl rfl (by decide) (.inl ⟨_, rfl, rfl⟩) rfl (by decide) ?_
  refine r_gval (v := .int _ _) (v_move (.inl rfl) (noOwn_flat rfl)) rfl rfl rfl (by decide) (.inl ⟨_, rfl, rfl⟩) rfl (by decide) ?_
  refine r_gval (v := .sl _ _) (v_move (.inl rfl) (noOwn_flat rfl)) rfl rfl rfl (by decide) (.inl ⟨_, rfl, rfl⟩) rfl (by decide) ?_
  refine r_guard (v := .bool _) (q_call (vs := [.int _ _, .int _ _, .sl _ _]) (args := [.int .i64 _, .int .i64 _, .sl _ _]) hb50 ⟨.inr ⟨_, rfl, fun h => h⟩, .inr ⟨_, rfl, fun h => h⟩, .inr ⟨_, rfl, fun h => h⟩, trivial⟩ rfl (fun hA => l18Good_c _ _ _ (by omega)) rfl rfl) rfl rfl rfl (by decide) (.inl ⟨_, rfl, rfl⟩) rfl (by decide) ?_
  refine r_val (v := .bool _) (v_pick (.inl rfl) (.inr ⟨_, rfl, fun h h2 => by simp_all⟩) (.inl rfl)) rfl rfl (by decide) ?_
  refine r_val (v := .bool _) (v_assign (.inl rfl) (noOwn_flat rfl)) rfl rfl (by decide) ?_
  refine r_nil ?_
  refine a_ret ?_
  refine ret1 Try.results74 (by decide) (by decide) (Weak.of_eq (bool_eq ?_)) rfl Leaves.nil
  unfold polOk; cases h1 : prime p vars <;> cases h2 : goodL p vars xs <;> simp [h2]

theorem l18Add_c (p vars : Int) (xs ys : List (Int × Int)) (k : Int) (hk : 0 ≤ k ∧ k < p) (hp : prime p vars = true) (hg : goodL p vars xs = true) (hg2 : goodL p vars ys = true) (hl : (xs.length : Int) ≤ 9223372036854775807) (hl2 : (ys.length : Int) ≤ 9223372036854775807) : ACall Try.prog 77 [.int .i64 p, .int .i64 vars, .sl (tcells xs) xs.length, .sl (tcells ys) ys.length, .int .i64 k] [] (.osl 2 (tcells (trm (modp p (linz k (accp p (dn vars) xs) (accp p (dn vars) ys))))) (trm (modp p (linz k (accp p (dn vars) xs) (accp p (dn vars) ys)))).length none) [] := by
  have hpp := prime_spec hp
  have hd := dn_le hpp.2
  have hA := accp_length p (dn vars) xs
  have hB := accp_length p (dn vars) ys
  have hbA := accp_Bd (p := p) (by omega) (dn vars) xs
  have hbB := accp_Bd (p := p) (by omega) (dn vars) ys
  have hL : (linz k (accp p (dn vars) xs) (accp p (dn vars) ys)).length = dn vars := (by rw [linz_length, hA])
  refine ACall.intro Try.func77 rfl (N := 43) rfl (by decide) (by simp) ?_
  refine a_seq ?_
  refine a_region ?_
  refine r_val (v := .nils) (v_assign (.inl rfl) (noOwn_flat rfl)) rfl rfl (by decide) ?_
  refine r_nil ?_
  refine a_seq ?_
  refine a_region ?_
  refine r_val (v := .int _ _) (v_move (.inl rfl) (noOwn_flat rfl)) rfl rfl (by decide) ?_
  refine r_val (v := .sl _ _) (v_move (.inl rfl) (noOwn_flat rfl)) rfl rfl (by decide) ?_
  refine r_new (v := .osl _ _ _ _) (q_call (vs := [.int _ _, .sl _ _]) (args := [.int .i64 _, .sl _ _]) hb56 ⟨.inl rfl, .inl rfl, trivial⟩ rfl (fun hA => l18Dense_c p _ _ hp hg hl) (ic_noSh _) (ic_noRef _)) rfl rfl (by decide) ?_
  refine r_val (v := .int _ _) (v_move (.inl rfl) (noOwn_flat rfl)) rfl rfl (by decide) ?_
  refine r_val (v := .sl _ _) (v_move (.inl rfl) (noOwn_flat rfl)) rfl rfl (by decide) ?_
  refine r_new (v := .osl _ _ _ _) (q_call (vs := [.int _ _, .sl _ _]) (args := [.int .i64 _, .sl _ _]) hb56 ⟨.inl rfl, .inl rfl, trivial⟩ rfl (fun hA => l18Dense_c p _ _ hp hg2 hl2) (ic_noSh _) (ic_noRef _)) rfl rfl (by decide) ?_
  refine r_val (v := .rsl _ _ _ _ _) (v_assign (.inl rfl) (noOwn_flat rfl)) rfl rfl (by decide) ?_
  refine r_pre (ent_reloc_sl (t := 11) rfl rfl) ?_
  refine r_val (v := .rsl _ _ _ _ _) (v_assign (.inl rfl) (noOwn_flat rfl)) rfl rfl (by decide) ?_
  refine r_pre (ent_reloc_sl (t := 12) rfl rfl) ?_
  refine r_nil ?_
  refine a_seq ?_
  refine a_seq ?_
  refine a_region ?_
  refine r_val (v := .int _ _) (v_assign (.inl rfl) (noOwn_flat rfl)) rfl rfl (by decide) ?_
  refine r_nil ?_
  refine a_block ?_
  refine a_loop (X := Nat) (fun i => look [(0, .int .i64 p), (4, .int .i64 k), (11, .osl 1 (icells (mixL (linz k (accp p (dn vars) xs) (accp p (dn vars) ys)) (accp p (dn vars) xs) i)) (dn vars) none), (12, .osl 1 (icells (accp p (dn vars) ys)) (dn vars) none), (13, .int .i64 (i : Int))]) (fun i => i ≤ dn vars) (fun i => dn vars - i) 0 (ent_look ⟨Weak.of_eq rfl, Weak.of_eq rfl, Weak.osl (by rw [mixL_zero]) rfl, Weak.of_eq rfl, Weak.of_eq rfl, trivial⟩) (Nat.zero_le _) (fun i hG => ?_)
  refine a_seq ?_
  refine a_seq ?_
  refine a_region ?_
  refine r_val (v := .int _ _) (v_move (.inl rfl) (noOwn_flat rfl)) rfl rfl (by decide) ?_
  refine r_val (v := .rsl _ _ _ _ _) (v_move (.inl rfl) (noOwn_flat rfl)) rfl rfl (by decide) ?_
  refine r_val (v := .int _ _) (v_len_rsl sl35 (.inl rfl)) rfl rfl (by decide) ?_
  refine r_val (v := .bool _) (v_lss (.inl rfl) (.inl rfl)) rfl rfl (by decide) ?_
  refine r_nil ?_
  refine a_cond rfl (fun ht23 => ?_) (fun ht23 => ?_)
  ·
    skip
    refine a_skip ?_
    refine a_seq ?_
    refine a_block ?_
    refine a_region_tail (n := 14) mixed (by kernel_rfl) ?_
    have hi : i < dn vars := (by simp at ht23; omega)
    have hmul := mul_bd hk (hbB i) (by omega)
    have hbi := hbA i
    have hgm : gd (mixL (linz k (accp p (dn vars) xs) (accp p (dn vars) ys)) (accp p (dn vars) xs) i) i = gd (accp p (dn vars) xs) i := (by rw [gd_mixL (by rw [linz_length]), if_neg (by omega)])
    have hpl : i * 1 + 1 ≤ (icells (mixL (linz k (accp p (dn vars) xs) (accp p (dn vars) ys)) (accp p (dn vars) xs) i)).length := (by rw [icells_length, mixL_length (by rw [linz_length])]; omega)
    have hset : (icells (mixL (linz k (accp p (dn vars) xs) (accp p (dn vars) ys)) (accp p (dn vars) xs) i)).set (i * 1) (.int .i64 (gd (accp p (dn vars) xs) i + k * gd (accp p (dn vars) ys) i)) = icells (mixL (linz k (accp p (dn vars) xs) (accp p (dn vars) ys)) (accp p (dn vars) xs) (i + 1)) := (by rw [Nat.mul_one, icells_set, ← mixL_set (by rw [linz_length]) (by omega), gd_linz (by omega)])
    refine t_val (v := .rsl _ _ _ _ _) (v_move (.inl rfl) (noOwn_flat rfl)) rfl rfl (by decide) (by kernel_rfl) ?_
    refine t_val (v := .int _ _) (v_move (.inl rfl) (noOwn_flat rfl)) rfl rfl (by decide) (by kernel_rfl) ?_
    refine t_val (v := .rsl _ _ _ _ _) (v_move (.inl rfl) (noOwn_flat rfl)) rfl rfl (by decide) (by kernel_rfl) ?_
    refine t_val (v := .int _ _) (v_move (.inl rfl) (noOwn_flat rfl)) rfl rfl (by decide) (by kernel_rfl) ?_
    refine t_val (v := .rp _ _) (v_indexAddr_rsl0 es35 (.inl rfl) (.inl rfl) (fun _ => by omega)) rfl rfl (by decide) (by kernel_rfl) ?_
    refine t_val (v := .int .i64 (gd (accp p (dn vars) xs) i)) (v_load_rp1 ta3 (.inl rfl) rfl (fun _ => by rw [Nat.mul_one, ← hgm]; exact icells_get (gd_get (by rw [mixL_length (by rw [linz_length])]; omega))) rfl) rfl rfl (by decide) (by kernel_rfl) ?_
    refine t_val (v := .int _ _) (v_move (.inl rfl) (noOwn_flat rfl)) rfl rfl (by decide) (by kernel_rfl) ?_
    refine t_val (v := .rsl _ _ _ _ _) (v_move (.inl rfl) (noOwn_flat rfl)) rfl rfl (by decide) (by kernel_rfl) ?_
    refine t_val (v := .int _ _) (v_move (.inl rfl) (noOwn_flat rfl)) rfl rfl (by decide) (by kernel_rfl) ?_
    refine t_val (v := .rp _ _) (v_indexAddr_rsl0 es35 (.inl rfl) (.inl rfl) (fun _ => by omega)) rfl rfl (by decide) (by kernel_rfl) ?_
    refine t_val (v := .int .i64 (gd (accp p (dn vars) ys) i)) (v_load_rp1 ta3 (.inl rfl) rfl (fun _ => by rw [Nat.mul_one]; exact icells_get (gd_get (by omega))) rfl) rfl rfl (by decide) (by kernel_rfl) ?_
    refine t_val (v := .int _ _) (v_mul (.inl rfl) (.inl rfl) (fun _ => by omega)) rfl rfl (by decide) (by kernel_rfl) ?_
    refine t_val (v := .int _ _) (v_add (.inl rfl) (.inl rfl) (fun _ => by omega)) rfl rfl (by decide) (by kernel_rfl) ?_
    refine t_val (v := .rp _ _) (v_indexAddr_rsl0 es35 (.inl rfl) (.inl rfl) (fun _ => by omega)) rfl rfl (by decide) (by kernel_rfl) ?_
    refine t_nil ?_
    refine r_step rfl (o_store (v := .int _ _) (y' := .osl _ _ _ _) rfl rfl ta3 (.inl rfl) (.inl rfl) rfl rfl rfl rfl rfl rfl hpl (by decide) rfl (congrArg (fun c => AV.osl 1 c (dn vars) none) hset)) ?_
    refine r_nil ?_
    refine a_region ?_
    refine r_val (v := .int _ _) (v_move (.inl rfl) (noOwn_flat rfl)) rfl rfl (by decide) ?_
    refine r_val (v := .int _ _) (v_add (.inl rfl) (.inl rfl) (fun _ => by omega)) rfl rfl (by decide) ?_
    refine r_val (v := .int _ _) (v_assign (.inl rfl) (noOwn_flat rfl)) rfl rfl (by decide) ?_
    refine r_nil ?_
    refine ⟨i + 1, ent_look ⟨Weak.of_eq rfl, Weak.of_eq rfl, Weak.of_eq rfl, Weak.of_eq rfl, Weak.of_eq (int_eq (by omega)), trivial⟩, by omega, by omega⟩
  ·
    skip
    refine a_exit ?_
    refine a_seq ?_
    refine a_region ?_
    have hpos := linz_nonneg (p := p) hk hbA hbB (by omega)
    refine r_pre (ent_eq (t := 11) (v' := .osl 1 (icells (linz k (accp p (dn vars) xs) (accp p (dn vars) ys))) (dn vars) none) (Weak.osl (by simp at ht23; rw [mixL_full (by rw [linz_length]) (by omega)]) rfl)) ?_
    refine r_val (v := .int _ _) (v_move (.inl rfl) (noOwn_flat rfl)) rfl rfl (by decide) ?_
    refine r_val (v := .rsl _ _ _ _ _) (v_move (.inl rfl) (noOwn_flat rfl)) rfl rfl (by decide) ?_
    refine r_new (v := .osl _ _ _ _) (q_call (vs := [.int _ _, .rsl _ _ _ _ _]) (args := [.int .i64 _, .sl _ _]) hb60 ⟨.inl rfl, .inl rfl, trivial⟩ (l2_eq rfl (sl_sh (ic_pure _))) (fun hA => l18Sparse_c _ _ _ ⟨by omega, hL, by omega, hpos⟩) (tc_noSh _) (tc_noRef _)) rfl rfl (by decide) ?_
    refine r_val (v := .rsl _ _ _ _ _) (v_assign (.inl rfl) (noOwn_flat rfl)) rfl rfl (by decide) ?_
    refine r_pre (ent_reloc_sl (t := 10) rfl rfl) ?_
    refine r_nil ?_
    refine a_ret ?_
    refine ret1 Try.results77 (by decide) (by decide) (Weak.osl ?_ ?_) rfl Leaves.nil
    · rfl
    · rfl

theorem plus_c (p vars : Int) (A B : List Int) (n : Nat) (k : Int) (hp : 2 ≤ p ∧ p ≤ 5) (hn : A.length = n ∧ B.length = n ∧ n ≤ 64) (hbA : Bd p A) (hbB : Bd p B) (hk : 0 ≤ k ∧ k < p) : ACall Try.prog 78 [.agg [.int .i64 p, .int .i64 vars], .sl (icells A) n, .sl (icells B) n, .int .i64 k] [] (.osl 1 (icells (modp p (linz k A B))) n none) [] := by
  have hL : (modp p (linz k A B)).length = A.length := (by rw [modp_length, linz_length])
  refine ACall.intro Try.func78 rfl (N := 37) rfl (by decide) (by simp) ?_
  refine a_seq ?_
  refine a_region ?_
  refine r_new (v := .op [.int _ _, .int _ _]) (q_box (.inl rfl) rfl rfl) rfl rfl (by decide) ?_
  refine r_val (v := .nils) (v_assign (.inl rfl) (noOwn_flat rfl)) rfl rfl (by decide) ?_
  refine r_nil ?_
  refine a_seq ?_
  refine a_region ?_
  refine r_val (v := .sl _ _) (v_move (.inl rfl) (noOwn_flat rfl)) rfl rfl (by decide) ?_
  refine r_new (v := .osl _ _ _ _) (q_call (vs := [.sl _ _]) (args := [.sl _ _]) hb102 ⟨.inl rfl, trivial⟩ rfl (fun hA => cloneD_c _ _ (by omega)) (ic_noSh _) (ic_noRef _)) rfl rfl (by decide) ?_
  refine r_val (v := .rsl _ _ _ _ _) (v_assign (.inl rfl) (noOwn_flat rfl)) rfl rfl (by decide) ?_
  refine r_pre (ent_reloc_sl (t := 9) rfl rfl) ?_
  refine r_nil ?_
  refine a_seq ?_
  refine a_seq ?_
  refine a_region ?_
  refine r_val (v := .sl _ _) (v_move (.inl rfl) (noOwn_flat rfl)) rfl rfl (by decide) ?_
  refine r_val (v := .int _ _) (v_len_sl sl69 (.inl rfl)) rfl rfl (by decide) ?_
  refine r_val (v := .int _ _) (v_move (.inl rfl) (noOwn_flat rfl)) rfl rfl (by decide) ?_
  refine r_nil ?_
  refine a_block ?_
  refine a_loop (X := Nat) (fun i => look [(3, .int .i64 k), (4, .op [.int .i64 p, .int .i64 vars]), (9, .osl 1 (icells (mixL (modp p (linz k A B)) A i)) n none), (14, .sl (icells B) n), (15, .int .i64 (n : Int)), (16, .int .i64 (i : Int))]) (fun i => i ≤ n) (fun i => n - i) 0 (ent_look ⟨Weak.of_eq rfl, Weak.of_eq rfl, Weak.osl (by rw [mixL_zero]) rfl, Weak.of_eq rfl, Weak.of_eq rfl, Weak.of_eq rfl, trivial⟩) (Nat.zero_le _) (fun i hG => ?_)
  refine a_seq ?_
  refine a_region ?_
  refine r_val (v := .bool _) (v_lss (.inl rfl) (.inl rfl)) rfl rfl (by decide) ?_
  refine r_nil ?_
  refine a_seq ?_
  refine a_cond rfl (fun ht17 => ?_) (fun ht17 => ?_)
  ·
    skip
    refine a_skip ?_
    refine a_seq ?_
    refine a_block ?_
    refine a_seq ?_
    refine a_region ?_
    have hi : i < n := (by simp at ht17; omega)
    have hmul := mul_bd hk (hbB i) (by omega)
    have hbi := hbA i
    have hgm : gd (mixL (modp p (linz k A B)) A i) i = gd A i := (by rw [gd_mixL hL, if_neg (by omega)])
    have hpl : i * 1 + 1 ≤ (icells (mixL (modp p (linz k A B)) A i)).length := (by rw [icells_length, mixL_length hL]; omega)
    have hset : (icells (mixL (modp p (linz k A B)) A i)).set (i * 1) (.int .i64 ((gd A i + k * gd B i) % p)) = icells (mixL (modp p (linz k A B)) A (i + 1)) := (by rw [Nat.mul_one, icells_set, ← mixL_set hL (by omega), gd_modp, gd_linz (by omega)])
    refine r_val (v := .int _ _) (v_move (.inl rfl) (noOwn_flat rfl)) rfl rfl (by decide) ?_
    refine r_val (v := .pp _ _) (v_indexAddr_sl es69 (.inl rfl) (.inl rfl) (fun _ => ⟨by omega, by omega, icells_ne (i := i) (by omega)⟩)) rfl rfl (by decide) ?_
    refine r_val (v := .int .i64 (gd B i)) (v_load_pp ta3 (.inl rfl) (fun _ => by rw [Nat.mul_one]; exact icells_get (gd_get (by omega))) rfl) rfl rfl (by decide) ?_
    refine r_val (v := .int _ _) (v_assign (.inl rfl) (noOwn_flat rfl)) rfl rfl (by decide) ?_
    refine r_val (v := .int _ _) (v_assign (.inl rfl) (noOwn_flat rfl)) rfl rfl (by decide) ?_
    refine r_nil ?_
    refine a_region_tail (n := 14) mixed (by kernel_rfl) ?_
    refine t_val (v := .rsl _ _ _ _ _) (v_move (.inl rfl) (noOwn_flat rfl)) rfl rfl (by decide) (by kernel_rfl) ?_
    refine t_val (v := .int _ _) (v_move (.inl rfl) (noOwn_flat rfl)) rfl rfl (by decide) (by kernel_rfl) ?_
    refine t_val (v := .rsl _ _ _ _ _) (v_move (.inl rfl) (noOwn_flat rfl)) rfl rfl (by decide) (by kernel_rfl) ?_
    refine t_val (v := .int _ _) (v_move (.inl rfl) (noOwn_flat rfl)) rfl rfl (by decide) (by kernel_rfl) ?_
    refine t_val (v := .rp _ _) (v_indexAddr_rsl0 es69 (.inl rfl) (.inl rfl) (fun _ => by omega)) rfl rfl (by decide) (by kernel_rfl) ?_
    refine t_val (v := .int .i64 (gd A i)) (v_load_rp1 ta3 (.inl rfl) rfl (fun _ => by rw [Nat.mul_one, ← hgm]; exact icells_get (gd_get (by rw [mixL_length hL]; omega))) rfl) rfl rfl (by decide) (by kernel_rfl) ?_
    refine t_val (v := .int _ _) (v_move (.inl rfl) (noOwn_flat rfl)) rfl rfl (by decide) (by kernel_rfl) ?_
    refine t_val (v := .int _ _) (v_move (.inl rfl) (noOwn_flat rfl)) rfl rfl (by decide) (by kernel_rfl) ?_
    refine t_val (v := .int _ _) (v_mul (.inl rfl) (.inl rfl) (fun _ => by omega)) rfl rfl (by decide) (by kernel_rfl) ?_
    refine t_val (v := .int _ _) (v_add (.inl rfl) (.inl rfl) (fun _ => by omega)) rfl rfl (by decide) (by kernel_rfl) ?_
    refine t_val (v := .rp _ _) (v_fieldAddr_rp fo58_0 (.inl rfl)) rfl rfl (by decide) (by kernel_rfl) ?_
    refine t_val (v := .int _ _) (v_load_rp1 ta3 (.inl rfl) rfl (fun _ => rfl) rfl) rfl rfl (by decide) (by kernel_rfl) ?_
    refine t_val (v := .int _ _) (v_rem (.inl rfl) (.inl rfl) (fun _ => by omega)) rfl rfl (by decide) (by kernel_rfl) ?_
    refine t_val (v := .rp _ _) (v_indexAddr_rsl0 es69 (.inl rfl) (.inl rfl) (fun _ => by omega)) rfl rfl (by decide) (by kernel_rfl) ?_
    refine t_nil ?_
    refine r_step rfl (o_store (v := .int _ _) (y' := .osl _ _ _ _) rfl rfl ta3 (.inl rfl) (.inl rfl) rfl rfl rfl rfl rfl rfl hpl (by decide) rfl (congrArg (fun c => AV.osl 1 c n none) hset)) ?_
    refine r_nil ?_
    refine a_region ?_
    refine r_val (v := .int _ _) (v_add (.inl rfl) (.inl rfl) (fun _ => by omega)) rfl rfl (by decide) ?_
    refine r_val (v := .int _ _) (v_move (.inl rfl) (noOwn_flat rfl)) rfl rfl (by decide) ?_
    refine r_nil ?_
    refine ⟨i + 1, ent_look ⟨Weak.of_eq rfl, Weak.of_eq rfl, Weak.of_eq rfl, Weak.of_eq rfl, Weak.of_eq rfl, Weak.of_eq (int_eq (by omega)), trivial⟩, by omega, by omega⟩
  ·
    skip
    refine a_exit ?_
    refine a_seq ?_
    refine a_region ?_
    refine r_val (v := .rsl _ _ _ _ _) (v_move (.inl rfl) (noOwn_flat rfl)) rfl rfl (by decide) ?_
    refine r_val (v := .rsl _ _ _ _ _) (v_assign (.inl rfl) (noOwn_flat rfl)) rfl rfl (by decide) ?_
    refine r_pre (ent_reloc_sl (t := 8) rfl rfl) ?_
    refine r_nil ?_
    refine a_ret ?_
    refine ret1 Try.results78 (by decide) (by decide) (Weak.osl ?_ ?_) rfl Leaves.nil
    · simp at ht17; rw [mixL_full hL (by omega)]
    · rfl

theorem sAddPolys_c (p vars : Int) (xs ys : List (Int × Int)) (hl : (xs.length : Int) ≤ 9223372036854775807) (hl2 : (ys.length : Int) ≤ 9223372036854775807) : ACall Try.prog 37 [.int .i64 p, .int .i64 vars, .sl (tcells xs) xs.length, .sl (tcells ys) ys.length] [] (.tup [.osl 2 (tcells (if polOk p vars [xs, ys] then trm (modp p (linz 1 (accp p (dn vars) xs) (accp p (dn vars) ys))) else [])) (if polOk p vars [xs, ys] then trm (modp p (linz 1 (accp p (dn vars) xs) (accp p (dn vars) ys))) else []).length none, .bool (polOk p vars [xs, ys])]) [] := by
  refine ACall.intro Try.func37 rfl (N := 22) rfl (by decide) (by simp) ?_
  refine a_seq ?_
  refine a_region ?_
  refine r_val (v := .nils) (v_assign (.inl rfl) (noOwn_flat rfl)) rfl rfl (by decide) ?_
  refine r_val (v := .bool _) (v_assign (.inl rfl) (noOwn_flat rfl)) rfl rfl (by decide) ?_
  refine r_nil ?_
  refine a_seq ?_
  refine a_seq ?_
  refine a_region ?_
  refine r_val (v := .int _ _) (v_move (.inl rfl) (noOwn_flat rfl)) rfl rfl (by decide) ?_
  refine r_val (v := .int _ _) (v_move (.inl rfl) (noOwn_flat rfl)) rfl rfl (by decide) ?_
  refine r_val (v := .sl _ _) (v_move (.inl rfl) (noOwn_flat rfl)) rfl rfl (by decide) ?_
  refine r_val (v := .sl _ _) (v_move (.inl rfl) (noOwn_flat rfl)) rfl rfl (by decide) ?_
  refine r_new (v := .bool _) (q_call (vs := [.int _ _, .int _ _, .sl _ _, .sl _ _]) (args := [.int .i64 _, .int .i64 _, .sl _ _, .sl _ _]) hb74 ⟨.inl rfl, .inl rfl, .inl rfl, .inl rfl, trivial⟩ rfl (fun hA => l18Two_c _ _ _ _ hl hl2) rfl rfl) rfl rfl (by decide) ?_
  refine r_val (v := .bool _) (v_not (.inl rfl)) rfl rfl (by decide) ?_
  refine r_nil ?_
  refine a_cond rfl (fun ht15 => ?_) (fun ht15 => ?_)
  ·
    skip
    refine a_seq ?_
    refine a_region ?_
    refine r_new (v := .osl _ _ _ _) (q_sliceLit (n := 0) (parts := []) lt25 rfl rfl rfl rfl) rfl rfl (by decide) ?_
    refine r_val (v := .rsl _ _ _ _ _) (v_assign (.inl rfl) (noOwn_flat rfl)) rfl rfl (by decide) ?_
    refine r_pre (ent_reloc_sl (t := 8) rfl rfl) ?_
    refine r_val (v := .bool _) (v_assign (.inl rfl) (noOwn_flat rfl)) rfl rfl (by decide) ?_
    refine r_nil ?_
    refine a_ret ?_
    refine retL (rs := [.tmp 8, .tmp 9]) [(8, .osl _ _ _ none), (9, _)] ⟨Weak.osl rfl rfl, Weak.rfl, trivial⟩ rfl Try.results37 (by decide) ⟨by decide, by decide, rfl⟩ (by decide) (by decide) (l2_eq (osl_eq2 ?_ ?_) (bool_eq ?_)) (by simp [refsL, refs])
    all_goals (have hno : polOk p vars [xs, ys] = false := (by simpa using ht15); simp [hno, tcells, rep])
  ·
    skip
    refine a_skip ?_
    refine a_seq ?_
    refine a_region ?_
    have hok : polOk p vars [xs, ys] = true := (by simpa using ht15)
    have hok2 : prime p vars = true ∧ goodL p vars xs = true ∧ goodL p vars ys = true := (by simpa [polOk] using hok)
    have hpp := prime_spec hok2.1
    refine r_val (v := .int _ _) (v_move (.inl rfl) (noOwn_flat rfl)) rfl rfl (by decide) ?_
    refine r_val (v := .int _ _) (v_move (.inl rfl) (noOwn_flat rfl)) rfl rfl (by decide) ?_
    refine r_val (v := .sl _ _) (v_move (.inl rfl) (noOwn_flat rfl)) rfl rfl (by decide) ?_
    refine r_val (v := .sl _ _) (v_move (.inl rfl) (noOwn_flat rfl)) rfl rfl (by decide) ?_
    refine r_new (v := .osl _ _ _ _) (q_call (vs := [.int _ _, .int _ _, .sl _ _, .sl _ _, .int _ _]) (args := [.int .i64 _, .int .i64 _, .sl _ _, .sl _ _, .int .i64 _]) hb77 ⟨.inl rfl, .inl rfl, .inl rfl, .inl rfl, .inl rfl, trivial⟩ rfl (fun hA => l18Add_c _ _ _ _ _ ⟨by omega, by omega⟩ hok2.1 hok2.2.1 hok2.2.2 hl hl2) (tc_noSh _) (tc_noRef _)) rfl rfl (by decide) ?_
    refine r_val (v := .rsl _ _ _ _ _) (v_assign (.inl rfl) (noOwn_flat rfl)) rfl rfl (by decide) ?_
    refine r_pre (ent_reloc_sl (t := 8) rfl rfl) ?_
    refine r_val (v := .bool _) (v_assign (.inl rfl) (noOwn_flat rfl)) rfl rfl (by decide) ?_
    refine r_nil ?_
    refine a_ret ?_
    refine retL (rs := [.tmp 8, .tmp 9]) [(8, .osl _ _ _ none), (9, _)] ⟨Weak.osl rfl rfl, Weak.rfl, trivial⟩ rfl Try.results37 (by decide) ⟨by decide, by decide, rfl⟩ (by decide) (by decide) (l2_eq (osl_eq2 ?_ ?_) (bool_eq ?_)) (by simp [refsL, refs])
    all_goals simp [hok]

theorem iAddPolys_c (p vars : Int) (xs ys : List (Int × Int)) (hl : (xs.length : Int) ≤ 9223372036854775807) (hl2 : (ys.length : Int) ≤ 9223372036854775807) : ACall Try.prog 38 [.int .i64 p, .int .i64 vars, .sl (tcells xs) xs.length, .sl (tcells ys) ys.length] [] (.tup [.osl 2 (tcells (if polOk p vars [xs, ys] then trm (modp p (linz 1 (accp p (dn vars) xs) (accp p (dn vars) ys))) else [])) (if polOk p vars [xs, ys] then trm (modp p (linz 1 (accp p (dn vars) xs) (accp p (dn vars) ys))) else []).length none, .bool (polOk p vars [xs, ys])]) [] := by
  refine ACall.intro Try.func38 rfl (N := 34) rfl (by decide) (by simp) ?_
  refine a_seq ?_
  refine a_region ?_
  refine r_val (v := .nils) (v_assign (.inl rfl) (noOwn_flat rfl)) rfl rfl (by decide) ?_
  refine r_val (v := .bool _) (v_assign (.inl rfl) (noOwn_flat rfl)) rfl rfl (by decide) ?_
  refine r_nil ?_
  refine a_seq ?_
  refine a_region ?_
  refine r_val (v := .int _ _) (v_move (.inl rfl) (noOwn_flat rfl)) rfl rfl (by decide) ?_
  refine r_val (v := .int _ _) (v_move (.inl rfl) (noOwn_flat rfl)) rfl rfl (by decide) ?_
  refine r_val (v := .sl _ _) (v_move (.inl rfl) (noOwn_flat rfl)) rfl rfl (by decide) ?_
  refine r_val (v := .sl _ _) (v_move (.inl rfl) (noOwn_flat rfl)) rfl rfl (by decide) ?_
  refine r_new (v := .osl _ _ _ _) (q_sliceLit (n := 2) (parts := [(0, .tmp 16), (1, .tmp 17)]) lt97 rfl rfl rfl rfl) rfl rfl (by decide) ?_
  refine r_new (v := .tup [.agg [.int _ _, .int _ _], .osl _ _ _ _, .bool _]) (q_call (vs := [.int _ _, .int _ _, .rsl _ _ _ _ _]) (args := [.int .i64 _, .int .i64 _, .sl _ _]) hb57 ⟨.inl rfl, .inl rfl, .inl rfl, trivial⟩ rfl (fun hA => polys_c _ _ [xs, ys] (by simp; omega)) (by simp [noSh, noShL, pcl_noSh]) (by simp [noRef, noRefL, pcl_noRef])) rfl rfl (by decide) ?_
  refine r_val (v := .tup [.agg [.int _ _, .int _ _], .rsl _ _ _ _ _, .bool _]) (v_mv rfl) rfl rfl (by decide) ?_
  refine r_val (v := .agg [.int _ _, .int _ _]) (v_extract rfl rfl) rfl rfl (by decide) ?_
  refine r_val (v := .rsl _ _ _ _ _) (v_extract rfl rfl) rfl rfl (by decide) ?_
  refine r_val (v := .bool _) (v_extract rfl rfl) rfl rfl (by decide) ?_
  refine r_new (v := .op [.int _ _, .int _ _]) (q_alloc zc58) rfl rfl (by decide) ?_
  refine r_step rfl (o_store (v := .agg [.int _ _, .int _ _]) (y' := .op [.int _ _, .int _ _]) rfl rfl ta58 (.inl rfl) (.inl rfl) rfl rfl rfl rfl rfl rfl (Nat.le_of_ble_eq_true rfl) (by decide) rfl rfl) ?_
  refine r_val (v := .rsl _ _ _ _ _) (v_assign (.inl rfl) (noOwn_flat rfl)) rfl rfl (by decide) ?_
  refine r_pre (ent_reloc_sl (t := 11) rfl rfl) ?_
  refine r_val (v := .bool _) (v_assign (.inl rfl) (noOwn_flat rfl)) rfl rfl (by decide) ?_
  refine r_nil ?_
  refine a_seq ?_
  refine a_seq ?_
  refine a_region ?_
  refine r_val (v := .bool _) (v_move (.inl rfl) (noOwn_flat rfl)) rfl rfl (by decide) ?_
  refine r_val (v := .bool _) (v_not (.inl rfl)) rfl rfl (by decide) ?_
  refine r_nil ?_
  refine a_cond rfl (fun ht24 => ?_) (fun ht24 => ?_)
  ·
    skip
    refine a_seq ?_
    refine a_region ?_
    refine r_val (v := .nils) (v_assign (.inl rfl) (noOwn_flat rfl)) rfl rfl (by decide) ?_
    refine r_val (v := .bool _) (v_assign (.inl rfl) (noOwn_flat rfl)) rfl rfl (by decide) ?_
    refine r_nil ?_
    refine a_pre (ent_nil (t := 8) (sz := 2) (cap := none) (.inl rfl) (fun _ h => by cases h)) ?_
    refine a_ret ?_
    refine retL (rs := [.tmp 8, .tmp 9]) [(8, .osl _ _ _ none), (9, _)] ⟨Weak.osl rfl rfl, Weak.rfl, trivial⟩ rfl Try.results38 (by decide) ⟨by decide, by decide, rfl⟩ (by decide) (by decide) (l2_eq (osl_eq2 ?_ ?_) (bool_eq ?_)) (by simp [refsL, refs])
    all_goals (have hno : polOk p vars [xs, ys] = false := (by simpa using ht24); simp [hno, tcells])
  ·
    skip
    refine a_skip ?_
    refine a_seq ?_
    have hok : polOk p vars [xs, ys] = true := (by simpa using ht24)
    have hok2 : prime p vars = true ∧ goodL p vars xs = true ∧ goodL p vars ys = true := (by simpa [polOk] using hok)
    have hpp := prime_spec hok2.1
    have hd := dn_le hpp.2
    refine a_pre (ent_eq (t := 11) (v' := .osl 1 [.osl 1 (icells (accp p (dn vars) xs)) (dn vars) none, .osl 1 (icells (accp p (dn vars) ys)) (dn vars) none] 2 none) (Weak.of_eq (osl_eq2 (show pcl p vars (polRes p vars [xs, ys]) = _ from by simp [polRes, hok, pcl]) (show (polRes p vars [xs, ys]).length = _ from by simp [polRes, hok])))) ?_
    refine a_region_any mixed (by kernel_rfl) ?_
    refine y_val (v := .agg [.int _ _, .int _ _]) (v_load_rpa1 ta58 (.inl rfl) rfl rfl (fun _ => rfl) rfl) rfl rfl (by decide) (by kernel_rfl) ?_
    refine y_val (v := .rsl _ _ _ _ _) (v_move (.inl rfl) (noOwn_flat rfl)) rfl rfl (by decide) (by kernel_rfl) ?_
    refine y_val (v := .rp _ _) (v_indexAddr_rsl0 es65 (.inl rfl) (.inl rfl) (fun _ => by omega)) rfl rfl (by decide) (by kernel_rfl) ?_
    refine y_val (v := .rsl _ _ _ _ _) (v_load_rp (c := .osl _ _ _ _) ta69 (.inl rfl) rfl (fun _ => rfl)) rfl rfl (by decide) (by kernel_rfl) ?_
    refine y_val (v := .rsl _ _ _ _ _) (v_move (.inl rfl) (noOwn_flat rfl)) rfl rfl (by decide) (by kernel_rfl) ?_
    refine y_val (v := .rp _ _) (v_indexAddr_rsl0 es65 (.inl rfl) (.inl rfl) (fun _ => by omega)) rfl rfl (by decide) (by kernel_rfl) ?_
    refine y_val (v := .rsl _ _ _ _ _) (v_load_rp (c := .osl _ _ _ _) ta69 (.inl rfl) rfl (fun _ => rfl)) rfl rfl (by decide) (by kernel_rfl) ?_
    refine y_new (v := .osl _ _ _ _) (q_call (vs := [.agg [.int _ _, .int _ _], .rsl _ _ _ _ _, .rsl _ _ _ _ _, .int _ _]) (args := [.agg [.int .i64 _, .int .i64 _], .sl _ _, .sl _ _, .int .i64 _]) hb78 ⟨.inl rfl, .inl rfl, .inl rfl, .inl rfl, trivial⟩ (l4_eq rfl (sl_sh (ic_pure _)) (sl_sh (ic_pure _)) rfl) (fun hA => plus_c _ _ _ _ _ _ ⟨by omega, by omega⟩ ⟨accp_length _ _ _, accp_length _ _ _, by omega⟩ (accp_Bd (by omega) _ _) (accp_Bd (by omega) _ _) ⟨by omega, by omega⟩) (ic_noSh _) (ic_noRef _)) rfl rfl (by decide) (by kernel_rfl) ?_
    refine y_new (v := .osl _ _ _ _) (q_call (vs := [.rsl _ _ _ _ _]) (args := [.sl _ _]) hb65 ⟨.inl rfl, trivial⟩ (l1_eq (sl_sh (ic_pure _))) (fun hA => terms_c _ _ ⟨by rw [modp_length, linz_length, accp_length], by omega⟩) (tc_noSh _) (tc_noRef _)) rfl rfl (by decide) (by kernel_rfl) ?_
    refine y_val (v := .rsl _ _ _ _ _) (v_assign (.inl rfl) (noOwn_flat rfl)) rfl rfl (by decide) (by kernel_rfl) ?_
    refine y_val (v := .bool _) (v_assign (.inl rfl) (noOwn_flat rfl)) rfl rfl (by decide) (by kernel_rfl) ?_
    refine y_nil ?_
    refine a_pre (ent_reloc_sl (t := 8) rfl rfl) ?_
    refine a_ret ?_
    refine retL (rs := [.tmp 8, .tmp 9]) [(8, .osl _ _ _ none), (9, _)] ⟨Weak.osl rfl rfl, Weak.rfl, trivial⟩ rfl Try.results38 (by decide) ⟨by decide, by decide, rfl⟩ (by decide) (by decide) (l2_eq (osl_eq2 ?_ ?_) (bool_eq ?_)) (by simp [refsL, refs])
    all_goals simp [hok]

theorem lawAddPolys_c (p vars : Int) (xs ys : List (Int × Int)) (hl : (xs.length : Int) ≤ 9223372036854775807) (hl2 : (ys.length : Int) ≤ 9223372036854775807) : ACall Try.prog 10 [.int .i64 p, .int .i64 vars, .sl (tcells xs) xs.length, .sl (tcells ys) ys.length] [] (.bool true) [] := by
  have hr := addRes_len p vars xs ys
  refine ACall.intro Try.func10 rfl (N := 129) rfl (by decide) (by simp) ?_
  refine a_seq ?_
  refine a_region ?_
  refine r_val (v := .bool _) (v_assign (.inl rfl) (noOwn_flat rfl)) rfl rfl (by decide) ?_
  refine r_nil ?_
  refine a_seq ?_
  refine a_region ?_
  refine r_val (v := .int _ _) (v_assign (.inl rfl) (noOwn_flat rfl)) rfl rfl (by decide) ?_
  refine r_nil ?_
  refine a_seq ?_
  refine a_region ?_
  refine r_val (v := .sl _ _) (v_move (.inl rfl) (noOwn_flat rfl)) rfl rfl (by decide) ?_
  refine r_val (v := .int _ _) (v_move (.inl rfl) (noOwn_flat rfl)) rfl rfl (by decide) ?_
  refine r_new (v := .int _ _) (q_call (vs := [.sl _ _, .int _ _]) (args := [.sl _ _, .int .i64 _]) hb15 ⟨.inl rfl, .inl rfl, trivial⟩ rfl (fun hA => szTermS_c _ _ (by omega)) rfl rfl) rfl rfl (by decide) ?_
  refine r_val (v := .int _ _) (v_assign (.inl rfl) (noOwn_flat rfl)) rfl rfl (by decide) ?_
  refine r_nil ?_
  refine a_seq ?_
  refine a_seq ?_
  refine a_region ?_
  refine r_val (v := .int _ _) (v_move (.inl rfl) (noOwn_flat rfl)) rfl rfl (by decide) ?_
  refine r_val (v := .bool _) (v_lss (.inl rfl) (.inl rfl)) rfl rfl (by decide) ?_
  refine r_nil ?_
  refine a_cond rfl (fun ht25 => ?_) (fun ht25 => ?_)
  ·
    skip
    refine a_seq ?_
    refine a_region ?_
    refine r_val (v := .bool _) (v_assign (.inl rfl) (noOwn_flat rfl)) rfl rfl (by decide) ?_
    refine r_nil ?_
    refine a_ret ?_
    refine ret1 Try.results10 (by decide) (by decide) (Weak.of_eq (bool_eq ?_)) rfl Leaves.nil
    first | rfl | (exfalso; simp at ht25; done) | (exfalso; simp at ht25; omega)
  ·
    skip
    refine a_skip ?_
    refine a_seq ?_
    have hle : (xs.length : Int) ≤ 1048576 := by simp at ht25; split at ht25 <;> omega
    have hle2 : 0 ≤ (if 1048576 - (xs.length : Int) < 0 then -1 else 1048576 - (xs.length : Int)) ∧ (if 1048576 - (xs.length : Int) < 0 then -1 else 1048576 - (xs.length : Int)) ≤ 1048576 := by split <;> omega
    refine a_region ?_
    refine r_val (v := .sl _ _) (v_move (.inl rfl) (noOwn_flat rfl)) rfl rfl (by decide) ?_
    refine r_val (v := .int _ _) (v_move (.inl rfl) (noOwn_flat rfl)) rfl rfl (by decide) ?_
    refine r_new (v := .int _ _) (q_call (vs := [.sl _ _, .int _ _]) (args := [.sl _ _, .int .i64 _]) hb15 ⟨.inl rfl, .inl rfl, trivial⟩ rfl (fun hA => szTermS_c _ _ (by omega)) rfl rfl) rfl rfl (by decide) ?_
    refine r_val (v := .int _ _) (v_assign (.inl rfl) (noOwn_flat rfl)) rfl rfl (by decide) ?_
    refine r_nil ?_
    refine a_seq ?_
    refine a_seq ?_
    refine a_region ?_
    refine r_val (v := .int _ _) (v_move (.inl rfl) (noOwn_flat rfl)) rfl rfl (by decide) ?_
    refine r_val (v := .bool _) (v_lss (.inl rfl) (.inl rfl)) rfl rfl (by decide) ?_
    refine r_nil ?_
    refine a_cond rfl (fun ht30 => ?_) (fun ht30 => ?_)
    ·
      skip
      refine a_seq ?_
      refine a_region ?_
      refine r_val (v := .bool _) (v_assign (.inl rfl) (noOwn_flat rfl)) rfl rfl (by decide) ?_
      refine r_nil ?_
      refine a_ret ?_
      refine ret1 Try.results10 (by decide) (by decide) (Weak.of_eq (bool_eq ?_)) rfl Leaves.nil
      first | rfl | (exfalso; simp at ht30; done) | (exfalso; simp at ht30; omega)
    ·
      skip
      refine a_skip ?_
      refine a_seq ?_
      have hle3 : (ys.length : Int) ≤ 1048576 := by simp at ht30; split at ht30 <;> omega
      refine a_region ?_
      refine r_val (v := .int _ _) (v_move (.inl rfl) (noOwn_flat rfl)) rfl rfl (by decide) ?_
      refine r_val (v := .int _ _) (v_move (.inl rfl) (noOwn_flat rfl)) rfl rfl (by decide) ?_
      refine r_val (v := .sl _ _) (v_move (.inl rfl) (noOwn_flat rfl)) rfl rfl (by decide) ?_
      refine r_new (v := .osl _ _ _ _) (q_call (vs := [.sl _ _]) (args := [.sl _ _]) hb17 ⟨.inl rfl, trivial⟩ rfl (fun hA => toTermS_c _ (by omega)) (tc_noSh _) (tc_noRef _)) rfl rfl (by decide) ?_
      refine r_val (v := .sl _ _) (v_move (.inl rfl) (noOwn_flat rfl)) rfl rfl (by decide) ?_
      refine r_new (v := .osl _ _ _ _) (q_call (vs := [.sl _ _]) (args := [.sl _ _]) hb17 ⟨.inl rfl, trivial⟩ rfl (fun hA => toTermS_c _ (by omega)) (tc_noSh _) (tc_noRef _)) rfl rfl (by decide) ?_
      refine r_new (v := .tup [.osl _ _ _ _, .bool _]) (q_call (vs := [.int _ _, .int _ _, .rsl _ _ _ _ _, .rsl _ _ _ _ _]) (args := [.int .i64 _, .int .i64 _, .sl _ _, .sl _ _]) hb37 ⟨.inl rfl, .inl rfl, .inl rfl, .inl rfl, trivial⟩ (l4_eq rfl rfl (sl_sh (tc_pure _)) (sl_sh (tc_pure _))) (fun hA => sAddPolys_c _ _ _ _ (by omega) (by omega)) (by simp [noSh, noShL, tc_noSh]) (by simp [noRef, noRefL, tc_noRef])) rfl rfl (by decide) ?_
      refine r_val (v := .tup [.rsl _ _ _ _ _, .bool _]) (v_mv rfl) rfl rfl (by decide) ?_
      refine r_val (v := .rsl _ _ _ _ _) (v_extract rfl rfl) rfl rfl (by decide) ?_
      refine r_val (v := .bool _) (v_extract rfl rfl) rfl rfl (by decide) ?_
      refine r_val (v := .rsl _ _ _ _ _) (v_assign (.inl rfl) (noOwn_flat rfl)) rfl rfl (by decide) ?_
      refine r_pre (ent_reloc_sl (t := 10) rfl rfl) ?_
      refine r_val (v := .bool _) (v_assign (.inl rfl) (noOwn_flat rfl)) rfl rfl (by decide) ?_
      refine r_nil ?_
      refine a_seq ?_
      refine a_region ?_
      refine r_val (v := .sl _ _) (v_move (.inl rfl) (noOwn_flat rfl)) rfl rfl (by decide) ?_
      refine r_new (v := .osl _ _ _ _) (q_call (vs := [.sl _ _]) (args := [.sl _ _]) hb17 ⟨.inl rfl, trivial⟩ rfl (fun hA => toTermS_c _ (by omega)) (tc_noSh _) (tc_noRef _)) rfl rfl (by decide) ?_
      refine r_val (v := .rsl _ _ _ _ _) (v_assign (.inl rfl) (noOwn_flat rfl)) rfl rfl (by decide) ?_
      refine r_pre (ent_reloc_sl (t := 12) rfl rfl) ?_
      refine r_nil ?_
      refine a_seq ?_
      refine a_region ?_
      refine r_val (v := .sl _ _) (v_move (.inl rfl) (noOwn_flat rfl)) rfl rfl (by decide) ?_
      refine r_new (v := .osl _ _ _ _) (q_call (vs := [.sl _ _]) (args := [.sl _ _]) hb17 ⟨.inl rfl, trivial⟩ rfl (fun hA => toTermS_c _ (by omega)) (tc_noSh _) (tc_noRef _)) rfl rfl (by decide) ?_
      refine r_val (v := .rsl _ _ _ _ _) (v_assign (.inl rfl) (noOwn_flat rfl)) rfl rfl (by decide) ?_
      refine r_pre (ent_reloc_sl (t := 13) rfl rfl) ?_
      refine r_nil ?_
      refine a_seq ?_
      refine a_pre (ent_look (L := [(0, .int _ _), (1, .int _ _), (2, .sl _ _), (3, .sl _ _), (8, .bool _), (10, .osl _ _ _ _), (11, .bool _), (12, .osl _ _ _ _), (13, .osl _ _ _ _)]) ⟨Weak.rfl, Weak.rfl, Weak.rfl, Weak.rfl, Weak.rfl, Weak.rfl, Weak.rfl, Weak.rfl, Weak.rfl, trivial⟩) ?_
      refine a_region ?_
      refine r_val (v := .int _ _) (v_move (.inl rfl) (noOwn_flat rfl)) rfl rfl (by decide) ?_
      refine r_val (v := .int _ _) (v_move (.inl rfl) (noOwn_flat rfl)) rfl rfl (by decide) ?_
      refine r_val (v := .rsl _ _ _ _ _) (v_move (.inl rfl) (noOwn_flat rfl)) rfl rfl (by decide) ?_
      refine r_val (v := .rsl _ _ _ _ _) (v_move (.inl rfl) (noOwn_flat rfl)) rfl rfl (by decide) ?_
      refine r_new (v := .tup [.osl _ _ _ _, .bool _]) (q_call (vs := [.int _ _, .int _ _, .rsl _ _ _ _ _, .rsl _ _ _ _ _]) (args := [.int .i64 _, .int .i64 _, .sl _ _, .sl _ _]) hb38 ⟨.inl rfl, .inl rfl, .inl rfl, .inl rfl, trivial⟩ (l4_eq rfl rfl (sl_sh (tc_pure _)) (sl_sh (tc_pure _))) (fun hA => iAddPolys_c _ _ _ _ (by omega) (by omega)) (by simp [noSh, noShL, tc_noSh]) (by simp [noRef, noRefL, tc_noRef])) rfl rfl (by decide) ?_
      refine r_val (v := .tup [.rsl _ _ _ _ _, .bool _]) (v_mv rfl) rfl rfl (by decide) ?_
      refine r_val (v := .rsl _ _ _ _ _) (v_extract rfl rfl) rfl rfl (by decide) ?_
      refine r_val (v := .bool _) (v_extract rfl rfl) rfl rfl (by decide) ?_
      refine r_val (v := .rsl _ _ _ _ _) (v_assign (.inl rfl) (noOwn_flat rfl)) rfl rfl (by decide) ?_
      refine r_pre (ent_reloc_sl (t := 14) rfl rfl) ?_
      refine r_val (v := .bool _) (v_assign (.inl rfl) (noOwn_flat rfl)) rfl rfl (by decide) ?_
      refine r_nil ?_
      refine a_seq ?_
      refine a_seq ?_
      refine a_region ?_
      refine r_val (v := .rsl _ _ _ _ _) (v_move (.inl rfl) (noOwn_flat rfl)) rfl rfl (by decide) ?_
      refine r_val (v := .rsl _ _ _ _ _) (v_move (.inl rfl) (noOwn_flat rfl)) rfl rfl (by decide) ?_
      refine r_new (v := .bool _) (q_call (vs := [.rsl _ _ _ _ _, .rsl _ _ _ _ _]) (args := [.sl _ _, .sl _ _]) hb19 ⟨.inl rfl, .inl rfl, trivial⟩ (l2_eq (sl_sh (tc_pure _)) (sl_sh (tc_pure _))) (fun hA => eqTermS_c _ _ (by omega)) rfl rfl) rfl rfl (by decide) ?_
      refine r_val (v := .bool _) (v_not (.inl rfl)) rfl rfl (by decide) ?_
      refine r_val (v := .bool _) (v_move (.inl rfl) (noOwn_flat rfl)) rfl rfl (by decide) ?_
      refine r_gval (v := .bool _) (v_move (.inl rfl) (noOwn_flat rfl)) rfl rfl rfl (by decide) (.inl ⟨_, rfl, rfl⟩) rfl (by decide) ?_
      refine r_gval (v := .bool _) (v_move (.inl rfl) (noOwn_flat rfl)) rfl rfl rfl (by decide) (.inl ⟨_, rfl, rfl⟩) rfl (by decide) ?_
      refine r_gval (v := .bool _) (v_bne un4 (.inr ⟨_, rfl, fun h => h⟩) (.inr ⟨_, rfl, fun h => h⟩)) rfl rfl rfl (by decide) (.inl ⟨_, rfl, rfl⟩) rfl (by decide) ?_
      refine r_val (v := .bool _) (v_pick (.inl rfl) (.inl rfl) (.inr ⟨_, rfl, fun h h2 => by simp_all⟩)) rfl rfl (by decide) ?_
      refine r_nil ?_
      refine a_cond rfl (fun ht61 => ?_) (fun ht61 => ?_)
      ·
        skip
        refine a_seq ?_
        refine a_region ?_
        refine r_val (v := .bool _) (v_assign (.inl rfl) (noOwn_flat rfl)) rfl rfl (by decide) ?_
        refine r_nil ?_
        refine a_ret ?_
        refine ret1 Try.results10 (by decide) (by decide) (Weak.of_eq (bool_eq ?_)) rfl Leaves.nil
        first | rfl | (exfalso; simp at ht61; done) | (exfalso; simp at ht61; omega)
      ·
        skip
        refine a_skip ?_
        refine a_seq ?_
        refine a_seq ?_
        refine a_region ?_
        refine r_val (v := .rsl _ _ _ _ _) (v_move (.inl rfl) (noOwn_flat rfl)) rfl rfl (by decide) ?_
        refine r_val (v := .sl _ _) (v_move (.inl rfl) (noOwn_flat rfl)) rfl rfl (by decide) ?_
        refine r_new (v := .osl _ _ _ _) (q_call (vs := [.sl _ _]) (args := [.sl _ _]) hb17 ⟨.inl rfl, trivial⟩ rfl (fun hA => toTermS_c _ (by omega)) (tc_noSh _) (tc_noRef _)) rfl rfl (by decide) ?_
        refine r_new (v := .bool _) (q_call (vs := [.rsl _ _ _ _ _, .rsl _ _ _ _ _]) (args := [.sl _ _, .sl _ _]) hb19 ⟨.inl rfl, .inl rfl, trivial⟩ (l2_eq (sl_sh (tc_pure _)) (sl_sh (tc_pure _))) (fun hA => eqTermS_c _ _ (by omega)) rfl rfl) rfl rfl (by decide) ?_
        refine r_val (v := .bool _) (v_not (.inl rfl)) rfl rfl (by decide) ?_
        refine r_nil ?_
        refine a_cond rfl (fun ht66 => ?_) (fun ht66 => ?_)
        ·
          skip
          refine a_seq ?_
          refine a_pre (ent_look (L := [(0, .int _ _), (1, .int _ _), (2, .sl _ _), (3, .sl _ _), (8, .bool _), (10, .osl _ _ _ _), (11, .bool _), (12, .osl _ _ _ _), (13, .osl _ _ _ _), (14, .osl _ _ _ _), (15, .bool _)]) ⟨Weak.rfl, Weak.rfl, Weak.rfl, Weak.rfl, Weak.rfl, Weak.rfl, Weak.rfl, Weak.rfl, Weak.rfl, Weak.rfl, Weak.rfl, trivial⟩) ?_
          refine a_region ?_
          refine r_val (v := .bool _) (v_assign (.inl rfl) (noOwn_flat rfl)) rfl rfl (by decide) ?_
          refine r_nil ?_
          refine a_ret ?_
          refine ret1 Try.results10 (by decide) (by decide) (Weak.of_eq (bool_eq ?_)) rfl Leaves.nil
          first | rfl | (exfalso; simp at ht66; done) | (exfalso; simp at ht66; omega)
        ·
          skip
          refine a_skip ?_
          refine a_seq ?_
          refine a_seq ?_
          refine a_pre (ent_look (L := [(0, .int _ _), (1, .int _ _), (2, .sl _ _), (3, .sl _ _), (8, .bool _), (10, .osl _ _ _ _), (11, .bool _), (12, .osl _ _ _ _), (13, .osl _ _ _ _), (14, .osl _ _ _ _), (15, .bool _)]) ⟨Weak.rfl, Weak.rfl, Weak.rfl, Weak.rfl, Weak.rfl, Weak.rfl, Weak.rfl, Weak.rfl, Weak.rfl, Weak.rfl, Weak.rfl, trivial⟩) ?_
          refine a_region ?_
          refine r_val (v := .rsl _ _ _ _ _) (v_move (.inl rfl) (noOwn_flat rfl)) rfl rfl (by decide) ?_
          refine r_val (v := .sl _ _) (v_move (.inl rfl) (noOwn_flat rfl)) rfl rfl (by decide) ?_
          refine r_new (v := .osl _ _ _ _) (q_call (vs := [.sl _ _]) (args := [.sl _ _]) hb17 ⟨.inl rfl, trivial⟩ rfl (fun hA => toTermS_c _ (by omega)) (tc_noSh _) (tc_noRef _)) rfl rfl (by decide) ?_
          refine r_new (v := .bool _) (q_call (vs := [.rsl _ _ _ _ _, .rsl _ _ _ _ _]) (args := [.sl _ _, .sl _ _]) hb19 ⟨.inl rfl, .inl rfl, trivial⟩ (l2_eq (sl_sh (tc_pure _)) (sl_sh (tc_pure _))) (fun hA => eqTermS_c _ _ (by omega)) rfl rfl) rfl rfl (by decide) ?_
          refine r_val (v := .bool _) (v_not (.inl rfl)) rfl rfl (by decide) ?_
          refine r_nil ?_
          refine a_cond rfl (fun ht71 => ?_) (fun ht71 => ?_)
          ·
            skip
            refine a_seq ?_
            refine a_region ?_
            refine r_val (v := .bool _) (v_assign (.inl rfl) (noOwn_flat rfl)) rfl rfl (by decide) ?_
            refine r_nil ?_
            refine a_ret ?_
            refine ret1 Try.results10 (by decide) (by decide) (Weak.of_eq (bool_eq ?_)) rfl Leaves.nil
            first | rfl | (exfalso; simp at ht71; done) | (exfalso; simp at ht71; omega)
          ·
            skip
            refine a_skip ?_
            refine a_seq ?_
            refine a_region ?_
            refine r_val (v := .int _ _) (v_assign (.inl rfl) (noOwn_flat rfl)) rfl rfl (by decide) ?_
            refine r_nil ?_
            refine a_seq ?_
            refine a_region ?_
            refine r_val (v := .rsl _ _ _ _ _) (v_move (.inl rfl) (noOwn_flat rfl)) rfl rfl (by decide) ?_
            refine r_val (v := .int _ _) (v_move (.inl rfl) (noOwn_flat rfl)) rfl rfl (by decide) ?_
            refine r_step rfl (o_callIO (q := (12, [])) (vs := [.rsl _ _ _ _ _, .int _ _]) (args := [.rsl (INH, []) _ _ _ _, .int .i64 _]) (x0 := .osl _ _ _ _) (x1 := .osl _ _ _ _) (res := .int _ _) rfl hb24 rfl (by decide) ⟨.inl rfl, .inl rfl, trivial⟩ rfl rfl (markTermS_c _ _ (by omega)) rfl rfl rfl (tc_noSh _) (tc_noRef _) (Nat.le_of_ble_eq_true rfl) (by decide) rfl) ?_
            refine r_val (v := .int _ _) (v_assign (.inl rfl) (noOwn_flat rfl)) rfl rfl (by decide) ?_
            refine r_nil ?_
            refine a_seq ?_
            refine a_region ?_
            refine r_val (v := .rsl _ _ _ _ _) (v_move (.inl rfl) (noOwn_flat rfl)) rfl rfl (by decide) ?_
            refine r_val (v := .int _ _) (v_move (.inl rfl) (noOwn_flat rfl)) rfl rfl (by decide) ?_
            refine r_step rfl (o_callIO (q := (13, [])) (vs := [.rsl _ _ _ _ _, .int _ _]) (args := [.rsl (INH, []) _ _ _ _, .int .i64 _]) (x0 := .osl _ _ _ _) (x1 := .osl _ _ _ _) (res := .int _ _) rfl hb24 rfl (by decide) ⟨.inl rfl, .inl rfl, trivial⟩ rfl rfl (markTermS_c _ _ (by omega)) rfl rfl rfl (tc_noSh _) (tc_noRef _) (Nat.le_of_ble_eq_true rfl) (by decide) rfl) ?_
            refine r_val (v := .int _ _) (v_assign (.inl rfl) (noOwn_flat rfl)) rfl rfl (by decide) ?_
            refine r_nil ?_
            refine a_seq ?_
            refine a_seq ?_
            refine a_region ?_
            refine r_val (v := .int _ _) (v_move (.inl rfl) (noOwn_flat rfl)) rfl rfl (by decide) ?_
            refine r_val (v := .bool _) (v_lss (.inl rfl) (.inl rfl)) rfl rfl (by decide) ?_
            refine r_val (v := .bool _) (v_move (.inl rfl) (noOwn_flat rfl)) rfl rfl (by decide) ?_
            refine r_gval (v := .rsl _ _ _ _ _) (v_move (.inl rfl) (noOwn_flat rfl)) rfl rfl rfl (by decide) (.inl ⟨_, rfl, rfl⟩) rfl (by decide) ?_
            refine r_gval (v := .rsl _ _ _ _ _) (v_move (.inl rfl) (noOwn_flat rfl)) rfl rfl rfl (by decide) (.inl ⟨_, rfl, rfl⟩) rfl (by decide) ?_
            refine r_guard (v := .bool _) (q_call (vs := [.rsl _ _ _ _ _, .rsl _ _ _ _ _]) (args := [.sl _ _, .sl _ _]) hb19 ⟨.inr ⟨_, rfl, fun h => h⟩, .inr ⟨_, rfl, fun h => h⟩, trivial⟩ (l2_eq (sl_sh (tc_pure _)) (sl_sh (tc_pure _))) (fun hA => eqTermS_c _ _ (by omega)) rfl rfl) rfl rfl rfl (by decide) (.inl ⟨_, rfl, rfl⟩) rfl (by decide) ?_
            refine r_gval (v := .bool _) (v_not (.inr ⟨_, rfl, fun h => h⟩)) rfl rfl rfl (by decide) (.inl ⟨_, rfl, rfl⟩) rfl (by decide) ?_
            refine r_val (v := .bool _) (v_pick (.inl rfl) (.inl rfl) (.inr ⟨_, rfl, fun h h2 => by simp_all⟩)) rfl rfl (by decide) ?_
            refine r_val (v := .bool _) (v_move (.inl rfl) (noOwn_flat rfl)) rfl rfl (by decide) ?_
            refine r_gval (v := .bool _) (v_move (.inl rfl) (noOwn_flat rfl)) rfl rfl rfl (by decide) (.inl ⟨_, rfl, rfl⟩) rfl (by decide) ?_
            refine r_gval (v := .bool _) (v_move (.inl rfl) (noOwn_flat rfl)) rfl rfl rfl (by decide) (.inl ⟨_, rfl, rfl⟩) rfl (by decide) ?_
            refine r_gval (v := .bool _) (v_bne un4 (.inr ⟨_, rfl, fun h => h⟩) (.inr ⟨_, rfl, fun h => h⟩)) rfl rfl rfl (by decide) (.inl ⟨_, rfl, rfl⟩) rfl (by decide) ?_
            refine r_val (v := .bool _) (v_pick (.inl rfl) (.inl rfl) (.inr ⟨_, rfl, fun h h2 => by simp_all⟩)) rfl rfl (by decide) ?_
            refine r_nil ?_
            refine a_cond rfl (fun ht90 => ?_) (fun ht90 => ?_)
            ·
              skip
              refine a_seq ?_
              refine a_pre (ent_look (L := [(0, .int _ _), (1, .int _ _), (2, .sl _ _), (3, .sl _ _), (8, .bool _), (10, .osl _ _ _ _), (11, .bool _), (14, .osl _ _ _ _)]) ⟨Weak.rfl, Weak.rfl, Weak.rfl, Weak.rfl, Weak.rfl, Weak.rfl, Weak.rfl, Weak.rfl, trivial⟩) ?_
              refine a_region ?_
              refine r_val (v := .bool _) (v_assign (.inl rfl) (noOwn_flat rfl)) rfl rfl (by decide) ?_
              refine r_nil ?_
              refine a_ret ?_
              refine ret1 Try.results10 (by decide) (by decide) (Weak.of_eq (bool_eq ?_)) rfl Leaves.nil
              first | rfl | (exfalso; simp at ht90; done) | (exfalso; simp at ht90; omega)
            ·
              skip
              refine a_skip ?_
              refine a_seq ?_
              refine a_pre (ent_look (L := [(0, .int _ _), (1, .int _ _), (2, .sl _ _), (3, .sl _ _), (8, .bool _), (10, .osl _ _ _ _), (11, .bool _), (14, .osl _ _ _ _)]) ⟨Weak.rfl, Weak.rfl, Weak.rfl, Weak.rfl, Weak.rfl, Weak.rfl, Weak.rfl, Weak.rfl, trivial⟩) ?_
              refine a_region ?_
              refine r_val (v := .int _ _) (v_assign (.inl rfl) (noOwn_flat rfl)) rfl rfl (by decide) ?_
              refine r_nil ?_
              refine a_seq ?_
              refine a_region ?_
              refine r_val (v := .rsl _ _ _ _ _) (v_move (.inl rfl) (noOwn_flat rfl)) rfl rfl (by decide) ?_
              refine r_val (v := .int _ _) (v_move (.inl rfl) (noOwn_flat rfl)) rfl rfl (by decide) ?_
              refine r_step rfl (o_callIO (q := (14, [])) (vs := [.rsl _ _ _ _ _, .int _ _]) (args := [.rsl (INH, []) _ _ _ _, .int .i64 _]) (x0 := .osl _ _ _ _) (x1 := .osl _ _ _ _) (res := .int _ _) rfl hb24 rfl (by decide) ⟨.inl rfl, .inl rfl, trivial⟩ rfl rfl (markTermS_c _ _ (by omega)) rfl rfl rfl (tc_noSh _) (tc_noRef _) (Nat.le_of_ble_eq_true rfl) (by decide) rfl) ?_
              refine r_val (v := .int _ _) (v_assign (.inl rfl) (noOwn_flat rfl)) rfl rfl (by decide) ?_
              refine r_nil ?_
              refine a_seq ?_
              refine a_region ?_
              refine r_val (v := .int _ _) (v_assign (.inl rfl) (noOwn_flat rfl)) rfl rfl (by decide) ?_
              refine r_nil ?_
              refine a_seq ?_
              refine a_region ?_
              refine r_val (v := .rsl _ _ _ _ _) (v_move (.inl rfl) (noOwn_flat rfl)) rfl rfl (by decide) ?_
              refine r_val (v := .int _ _) (v_move (.inl rfl) (noOwn_flat rfl)) rfl rfl (by decide) ?_
              refine r_new (v := .int _ _) (q_call (vs := [.rsl _ _ _ _ _, .int _ _]) (args := [.sl _ _, .int .i64 _]) hb25 ⟨.inl rfl, .inl rfl, trivial⟩ (l2_eq (sl_sh (tc_pure _)) rfl) (fun hA => heldTermS_c _ _ (by omega)) rfl rfl) rfl rfl (by decide) ?_
              refine r_val (v := .int _ _) (v_assign (.inl rfl) (noOwn_flat rfl)) rfl rfl (by decide) ?_
              refine r_nil ?_
              refine a_seq ?_
              refine a_seq ?_
              refine a_region ?_
              refine r_val (v := .int _ _) (v_move (.inl rfl) (noOwn_flat rfl)) rfl rfl (by decide) ?_
              refine r_val (v := .bool _) (v_lss (.inl rfl) (.inl rfl)) rfl rfl (by decide) ?_
              refine r_nil ?_
              refine a_cond rfl (fun ht98 => ?_) (fun ht98 => ?_)
              ·
                skip
                refine a_seq ?_
                refine a_region ?_
                refine r_val (v := .bool _) (v_assign (.inl rfl) (noOwn_flat rfl)) rfl rfl (by decide) ?_
                refine r_nil ?_
                refine a_ret ?_
                refine ret1 Try.results10 (by decide) (by decide) (Weak.of_eq (bool_eq ?_)) rfl Leaves.nil
                first | rfl | (exfalso; simp at ht98; done) | (exfalso; simp at ht98; omega)
              ·
                skip
                refine a_skip ?_
                refine a_seq ?_
                refine a_seq ?_
                refine a_region ?_
                refine r_val (v := .int _ _) (v_move (.inl rfl) (noOwn_flat rfl)) rfl rfl (by decide) ?_
                refine r_val (v := .int _ _) (v_move (.inl rfl) (noOwn_flat rfl)) rfl rfl (by decide) ?_
                refine r_val (v := .bool _) (v_neq (.inl rfl) (.inl rfl)) rfl rfl (by decide) ?_
                refine r_nil ?_
                refine a_cond rfl (fun ht101 => ?_) (fun ht101 => ?_)
                ·
                  skip
                  refine a_seq ?_
                  refine a_region ?_
                  refine r_val (v := .bool _) (v_assign (.inl rfl) (noOwn_flat rfl)) rfl rfl (by decide) ?_
                  refine r_nil ?_
                  refine a_ret ?_
                  refine ret1 Try.results10 (by decide) (by decide) (Weak.of_eq (bool_eq ?_)) rfl Leaves.nil
                  first | rfl | (exfalso; simp at ht101; done) | (exfalso; simp at ht101; omega)
                ·
                  skip
                  refine a_skip ?_
                  refine a_seq ?_
                  refine a_region ?_
                  refine r_val (v := .int _ _) (v_move (.inl rfl) (noOwn_flat rfl)) rfl rfl (by decide) ?_
                  refine r_val (v := .int _ _) (v_move (.inl rfl) (noOwn_flat rfl)) rfl rfl (by decide) ?_
                  refine r_val (v := .sl _ _) (v_move (.inl rfl) (noOwn_flat rfl)) rfl rfl (by decide) ?_
                  refine r_new (v := .osl _ _ _ _) (q_call (vs := [.sl _ _]) (args := [.sl _ _]) hb17 ⟨.inl rfl, trivial⟩ rfl (fun hA => toTermS_c _ (by omega)) (tc_noSh _) (tc_noRef _)) rfl rfl (by decide) ?_
                  refine r_val (v := .sl _ _) (v_move (.inl rfl) (noOwn_flat rfl)) rfl rfl (by decide) ?_
                  refine r_new (v := .osl _ _ _ _) (q_call (vs := [.sl _ _]) (args := [.sl _ _]) hb17 ⟨.inl rfl, trivial⟩ rfl (fun hA => toTermS_c _ (by omega)) (tc_noSh _) (tc_noRef _)) rfl rfl (by decide) ?_
                  refine r_new (v := .tup [.osl _ _ _ _, .bool _]) (q_call (vs := [.int _ _, .int _ _, .rsl _ _ _ _ _, .rsl _ _ _ _ _]) (args := [.int .i64 _, .int .i64 _, .sl _ _, .sl _ _]) hb38 ⟨.inl rfl, .inl rfl, .inl rfl, .inl rfl, trivial⟩ (l4_eq rfl rfl (sl_sh (tc_pure _)) (sl_sh (tc_pure _))) (fun hA => iAddPolys_c _ _ _ _ (by omega) (by omega)) (by simp [noSh, noShL, tc_noSh]) (by simp [noRef, noRefL, tc_noRef])) rfl rfl (by decide) ?_
                  refine r_val (v := .tup [.rsl _ _ _ _ _, .bool _]) (v_mv rfl) rfl rfl (by decide) ?_
                  refine r_val (v := .rsl _ _ _ _ _) (v_extract rfl rfl) rfl rfl (by decide) ?_
                  refine r_val (v := .bool _) (v_extract rfl rfl) rfl rfl (by decide) ?_
                  refine r_val (v := .rsl _ _ _ _ _) (v_assign (.inl rfl) (noOwn_flat rfl)) rfl rfl (by decide) ?_
                  refine r_pre (ent_reloc_sl (t := 19) rfl rfl) ?_
                  refine r_val (v := .bool _) (v_assign (.inl rfl) (noOwn_flat rfl)) rfl rfl (by decide) ?_
                  refine r_nil ?_
                  refine a_seq ?_
                  refine a_seq ?_
                  refine a_pre (ent_look (L := [(8, .bool _), (10, .osl _ _ _ _), (11, .bool _), (14, .osl _ _ _ _), (17, .int _ _), (18, .int _ _), (19, .osl _ _ _ _), (20, .bool _)]) ⟨Weak.rfl, Weak.rfl, Weak.rfl, Weak.rfl, Weak.rfl, Weak.rfl, Weak.rfl, Weak.rfl, trivial⟩) ?_
                  refine a_region ?_
                  refine r_val (v := .rsl _ _ _ _ _) (v_move (.inl rfl) (noOwn_flat rfl)) rfl rfl (by decide) ?_
                  refine r_val (v := .rsl _ _ _ _ _) (v_move (.inl rfl) (noOwn_flat rfl)) rfl rfl (by decide) ?_
                  refine r_new (v := .bool _) (q_call (vs := [.rsl _ _ _ _ _, .rsl _ _ _ _ _]) (args := [.sl _ _, .sl _ _]) hb19 ⟨.inl rfl, .inl rfl, trivial⟩ (l2_eq (sl_sh (tc_pure _)) (sl_sh (tc_pure _))) (fun hA => eqTermS_c _ _ (by omega)) rfl rfl) rfl rfl (by decide) ?_
                  refine r_val (v := .bool _) (v_not (.inl rfl)) rfl rfl (by decide) ?_
                  refine r_val (v := .bool _) (v_move (.inl rfl) (noOwn_flat rfl)) rfl rfl (by decide) ?_
                  refine r_gval (v := .bool _) (v_move (.inl rfl) (noOwn_flat rfl)) rfl rfl rfl (by decide) (.inl ⟨_, rfl, rfl⟩) rfl (by decide) ?_
                  refine r_gval (v := .bool _) (v_move (.inl rfl) (noOwn_flat rfl)) rfl rfl rfl (by decide) (.inl ⟨_, rfl, rfl⟩) rfl (by decide) ?_
                  refine r_gval (v := .bool _) (v_bne un4 (.inr ⟨_, rfl, fun h => h⟩) (.inr ⟨_, rfl, fun h => h⟩)) rfl rfl rfl (by decide) (.inl ⟨_, rfl, rfl⟩) rfl (by decide) ?_
                  refine r_val (v := .bool _) (v_pick (.inl rfl) (.inl rfl) (.inr ⟨_, rfl, fun h h2 => by simp_all⟩)) rfl rfl (by decide) ?_
                  refine r_nil ?_
                  refine a_cond rfl (fun ht120 => ?_) (fun ht120 => ?_)
                  ·
                    skip
                    refine a_seq ?_
                    refine a_region ?_
                    refine r_val (v := .bool _) (v_assign (.inl rfl) (noOwn_flat rfl)) rfl rfl (by decide) ?_
                    refine r_nil ?_
                    refine a_ret ?_
                    refine ret1 Try.results10 (by decide) (by decide) (Weak.of_eq (bool_eq ?_)) rfl Leaves.nil
                    first | rfl | (exfalso; simp at ht120; done) | (exfalso; simp at ht120; omega)
                  ·
                    skip
                    refine a_skip ?_
                    refine a_seq ?_
                    refine a_region ?_
                    refine r_val (v := .int _ _) (v_assign (.inl rfl) (noOwn_flat rfl)) rfl rfl (by decide) ?_
                    refine r_nil ?_
                    refine a_seq ?_
                    refine a_region ?_
                    refine r_val (v := .rsl _ _ _ _ _) (v_move (.inl rfl) (noOwn_flat rfl)) rfl rfl (by decide) ?_
                    refine r_val (v := .int _ _) (v_move (.inl rfl) (noOwn_flat rfl)) rfl rfl (by decide) ?_
                    refine r_new (v := .int _ _) (q_call (vs := [.rsl _ _ _ _ _, .int _ _]) (args := [.sl _ _, .int .i64 _]) hb25 ⟨.inl rfl, .inl rfl, trivial⟩ (l2_eq (sl_sh (tc_pure _)) rfl) (fun hA => heldTermS_c _ _ (by omega)) rfl rfl) rfl rfl (by decide) ?_
                    refine r_val (v := .int _ _) (v_assign (.inl rfl) (noOwn_flat rfl)) rfl rfl (by decide) ?_
                    refine r_nil ?_
                    refine a_seq ?_
                    refine a_seq ?_
                    refine a_region ?_
                    refine r_val (v := .int _ _) (v_move (.inl rfl) (noOwn_flat rfl)) rfl rfl (by decide) ?_
                    refine r_val (v := .bool _) (v_lss (.inl rfl) (.inl rfl)) rfl rfl (by decide) ?_
                    refine r_nil ?_
                    refine a_cond rfl (fun ht125 => ?_) (fun ht125 => ?_)
                    ·
                      skip
                      refine a_seq ?_
                      refine a_region ?_
                      refine r_val (v := .bool _) (v_assign (.inl rfl) (noOwn_flat rfl)) rfl rfl (by decide) ?_
                      refine r_nil ?_
                      refine a_ret ?_
                      refine ret1 Try.results10 (by decide) (by decide) (Weak.of_eq (bool_eq ?_)) rfl Leaves.nil
                      first | rfl | (exfalso; simp at ht125; done) | (exfalso; simp at ht125; omega)
                    ·
                      skip
                      refine a_skip ?_
                      refine a_seq ?_
                      refine a_seq ?_
                      refine a_region ?_
                      refine r_val (v := .int _ _) (v_move (.inl rfl) (noOwn_flat rfl)) rfl rfl (by decide) ?_
                      refine r_val (v := .int _ _) (v_move (.inl rfl) (noOwn_flat rfl)) rfl rfl (by decide) ?_
                      refine r_val (v := .bool _) (v_neq (.inl rfl) (.inl rfl)) rfl rfl (by decide) ?_
                      refine r_nil ?_
                      refine a_cond rfl (fun ht128 => ?_) (fun ht128 => ?_)
                      ·
                        skip
                        refine a_seq ?_
                        refine a_region ?_
                        refine r_val (v := .bool _) (v_assign (.inl rfl) (noOwn_flat rfl)) rfl rfl (by decide) ?_
                        refine r_nil ?_
                        refine a_ret ?_
                        refine ret1 Try.results10 (by decide) (by decide) (Weak.of_eq (bool_eq ?_)) rfl Leaves.nil
                        first | rfl | (exfalso; simp at ht128; done) | (exfalso; simp at ht128; omega)
                      ·
                        skip
                        refine a_skip ?_
                        refine a_seq ?_
                        refine a_region ?_
                        refine r_val (v := .bool _) (v_assign (.inl rfl) (noOwn_flat rfl)) rfl rfl (by decide) ?_
                        refine r_nil ?_
                        refine a_ret ?_
                        refine ret1 Try.results10 (by decide) (by decide) (Weak.of_eq (bool_eq ?_)) rfl Leaves.nil
                        first | rfl | (exfalso; simp at ht128; done) | (exfalso; simp at ht128; omega)
end Go.Av
