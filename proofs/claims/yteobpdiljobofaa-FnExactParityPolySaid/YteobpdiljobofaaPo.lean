/- Rows of pairs as cells. -/
import Derived.Test.YteobpdiljobofaaVb
import Derived.Test.YteobpdiljobofaaProg
set_option linter.unusedVariables false
set_option linter.unusedSimpArgs false
namespace Go.Av
open Go

/-- The cells of a row of terms. -/
def tcells : List (Int × Int) → List AV
  | [] => []
  | t :: r => .int .i64 t.1 :: .int .i64 t.2 :: tcells r

theorem tcells_length : ∀ (xs : List (Int × Int)), (tcells xs).length = xs.length * 2
  | [] => rfl
  | t :: r => by simp [tcells, tcells_length r]; omega

theorem tcells_pure : ∀ (xs : List (Int × Int)), pureL (tcells xs) = true
  | [] => rfl
  | t :: r => by simp [tcells, pureL, pureV, tcells_pure r]

theorem tcells_get0 : ∀ {xs : List (Int × Int)} {i : Nat} {t : Int × Int}, xs[i]? = some t → (tcells xs)[i * 2]? = some (.int .i64 t.1)
  | [], i, t, h => by simp at h
  | s :: r, 0, t, h => by simp at h; subst h; rfl
  | s :: r, i + 1, t, h => by
    rw [show (i + 1) * 2 = i * 2 + 1 + 1 by omega]
    simp only [tcells, List.getElem?_cons_succ]
    exact tcells_get0 (by simpa using h)
theorem tcells_get1 : ∀ {xs : List (Int × Int)} {i : Nat} {t : Int × Int}, xs[i]? = some t → (tcells xs)[i * 2 + 1]? = some (.int .i64 t.2)
  | [], i, t, h => by simp at h
  | s :: r, 0, t, h => by simp at h; subst h; rfl
  | s :: r, i + 1, t, h => by
    rw [show (i + 1) * 2 + 1 = (i * 2 + 1) + 1 + 1 by omega]
    simp only [tcells, List.getElem?_cons_succ]
    exact tcells_get1 (by simpa using h)
theorem tcells_two : ∀ {xs : List (Int × Int)} {i : Nat} {t : Int × Int}, xs[i]? = some t → ((tcells xs).drop (i * 2)).take 2 = [.int .i64 t.1, .int .i64 t.2]
  | [], i, t, h => by simp at h
  | s :: r, 0, t, h => by simp at h; subst h; rfl
  | s :: r, i + 1, t, h => by
    rw [show (i + 1) * 2 = i * 2 + 1 + 1 by omega]
    simp only [tcells, List.drop_succ_cons]
    exact tcells_two (by simpa using h)
theorem tcells_set : ∀ {xs : List (Int × Int)} {i : Nat} {a b : Int}, ((tcells xs).set (i * 2) (.int .i64 a)).set (i * 2 + 1) (.int .i64 b) = tcells (xs.set i (a, b))
  | [], i, a, b => by simp [tcells]
  | s :: r, 0, a, b => rfl
  | s :: r, i + 1, a, b => by
    rw [show (i + 1) * 2 = i * 2 + 1 + 1 by omega]
    simp only [tcells, List.set_cons_succ]
    rw [tcells_set]
theorem tcells_rep : ∀ (n : Nat), rep n [.int .i64 0, .int .i64 0] = tcells (List.replicate n (0, 0))
  | 0 => rfl
  | n + 1 => by
    have := tcells_rep n
    simp only [rep] at this
    simp only [rep, List.replicate_succ, List.flatten_cons, tcells, this]; rfl

/-- A copy under way: the first i are done. -/
def part {α : Type} (z : α) (xs : List α) (i : Nat) : List α := xs.take i ++ List.replicate (xs.length - i) z
theorem part_zero {α : Type} (z : α) (xs : List α) : part z xs 0 = List.replicate xs.length z := by simp [part]
theorem part_full {α : Type} (z : α) (xs : List α) {i : Nat} (h : xs.length ≤ i) : part z xs i = xs := by
  unfold part
  rw [List.take_of_length_le h, show xs.length - i = 0 by omega]
  simp
theorem part_length {α : Type} (z : α) (xs : List α) {i : Nat} (h : i ≤ xs.length) : (part z xs i).length = xs.length := by
  simp [part]; omega
theorem part_set {α : Type} (z : α) (xs : List α) {i : Nat} {x : α} (h : xs[i]? = some x) : (part z xs i).set i x = part z xs (i + 1) := by
  have hl : i < xs.length := by
    rcases Nat.lt_or_ge i xs.length with h' | h'
    · exact h'
    · rw [List.getElem?_eq_none h'] at h; cases h
  refine List.ext_getElem? fun j => ?_
  unfold part
  by_cases hj : j = i
  · subst hj
    rw [List.getElem?_set_self (by simp; omega), List.getElem?_append_left (by simp; omega), List.getElem?_take, if_pos (by omega), h]
  · rw [List.getElem?_set_ne (Ne.symm hj)]
    by_cases h1 : j < i
    · rw [List.getElem?_append_left (by simp; omega), List.getElem?_append_left (by simp; omega), List.getElem?_take, List.getElem?_take, if_pos h1, if_pos (by omega)]
    · rw [List.getElem?_append_right (by simp; omega), List.getElem?_append_right (by simp; omega)]
      simp only [List.length_take, List.getElem?_replicate]
      have : j - min i xs.length < xs.length - i ↔ j - min (i + 1) xs.length < xs.length - (i + 1) := by omega
      simp only [this]
theorem getElem?_of_lt {α : Type} {xs : List α} {i : Nat} (h : i < xs.length) : xs[i]? = some xs[i] := List.getElem?_eq_getElem h
end Go.Av
namespace Go.Av
theorem tcells_ne {xs : List (Int × Int)} {i : Nat} (h : i < xs.length) : tcells xs ≠ [] := fun he => by
  have := tcells_length xs
  rw [he] at this
  simp at this
  omega
theorem take_step {α : Type} {xs ys : List α} {i : Nat} (hx : i < xs.length) (hy : i < ys.length) (h : xs.take i = ys.take i) (he : xs[i] = ys[i]) : xs.take (i + 1) = ys.take (i + 1) := by
  rw [List.take_succ_eq_append_getElem hx, List.take_succ_eq_append_getElem hy, h, he]
end Go.Av
namespace Go.Av
/-- Term i. -/
def tm (xs : List (Int × Int)) (i : Nat) : Int × Int := (xs[i]?).getD (0, 0)
theorem tm_get {xs : List (Int × Int)} {i : Nat} (h : i < xs.length) : xs[i]? = some (tm xs i) := by
  simp [tm, List.getElem?_eq_getElem h]
end Go.Av
namespace Go.Av
theorem tcells_noNil : ∀ (xs : List (Int × Int)), noNilL (tcells xs) = true
  | [] => rfl
  | t :: r => by simp [tcells, noNilL, noNil, tcells_noNil r]
theorem tc_pure (xs : List (Int × Int)) : pureL (tcells xs) = true ∧ noNilL (tcells xs) = true := ⟨tcells_pure xs, tcells_noNil xs⟩
end Go.Av
namespace Go.Av
theorem tc_noSh : ∀ (xs : List (Int × Int)), noShL (tcells xs) = true
  | [] => rfl
  | t :: r => by simp [tcells, noShL, noSh, tc_noSh r]
theorem tc_noRef (xs : List (Int × Int)) : noRefL (tcells xs) = true := noRefL_pure _ (tcells_pure xs)
end Go.Av
namespace Go.Av
open Go Go.Proofs
set_option maxRecDepth 10000
def inR (n lo hi : Int) : Bool := decide (lo ≤ n) && decide (n ≤ hi)
def prime (p vars : Int) : Bool := (decide (p = 2) || decide (p = 3) || decide (p = 5)) && inR vars 0 6
theorem pow6 {v : Int} (h : 0 ≤ v ∧ v ≤ 6) : 1 ≤ (2 : Int) ^ v.toNat ∧ (2 : Int) ^ v.toNat ≤ 64 := by
  obtain ⟨n, rfl⟩ := Int.eq_ofNat_of_zero_le h.1
  have hn : n ≤ 6 := by omega
  simp only [Int.toNat_natCast]
  match n, hn with
  | 0, _ => decide
  | 1, _ => decide
  | 2, _ => decide
  | 3, _ => decide
  | 4, _ => decide
  | 5, _ => decide
  | 6, _ => decide
theorem mixed : Try.prog.follows .mixedOrders = true := by kernel_rfl
theorem fo54_0 : fieldOff Try.prog 54 0 = some 0 := by kernel_rfl
theorem fo54_1 : fieldOff Try.prog 54 1 = some 1 := by kernel_rfl
theorem fo56_0 : fieldOff Try.prog 56 0 = some 0 := by kernel_rfl
theorem fo56_1 : fieldOff Try.prog 56 1 = some 1 := by kernel_rfl
theorem hb55 : hasBody Try.prog 55 = true := by kernel_rfl
theorem hb63 : hasBody Try.prog 63 = true := by kernel_rfl
theorem sp58 : structPl Try.prog 58 = some ([.int .i64 0, .int .i64 0], [(0, 1), (1, 1)]) := by kernel_rfl
theorem ta3 : tyAgg Try.prog 3 = some (false, 1) := by kernel_rfl
theorem ta54 : tyAgg Try.prog 54 = some (true, 2) := by kernel_rfl
theorem ta58 : tyAgg Try.prog 58 = some (true, 2) := by kernel_rfl
theorem zc54 : zeroCells Try.prog 54 = some [.int .i64 0, .int .i64 0] := by kernel_rfl
theorem zc58 : zeroCells Try.prog 58 = some [.int .i64 0, .int .i64 0] := by kernel_rfl

theorem l1In_c (n lo hi : Int) : ACall Try.prog 55 [.int .i64 n, .int .i64 lo, .int .i64 hi] [] (.bool (inR n lo hi)) [] := by
  refine ACall.intro Try.func55 rfl (N := 15) rfl (by decide) (by simp) ?_
  refine a_seq ?_
  refine a_region ?_
  refine r_val (v := .bool _) (v_assign (.inl rfl) (noOwn_flat rfl)) rfl rfl (by decide) ?_
  refine r_nil ?_
  refine a_seq ?_
  refine a_region ?_
  refine r_val (v := .int _ _) (v_move (.inl rfl) (noOwn_flat rfl)) rfl rfl (by decide) ?_
  refine r_val (v := .int _ _) (v_move (.inl rfl) (noOwn_flat rfl)) rfl rfl (by decide) ?_
  refine r_val (v := .bool _) (v_geq (.inl rfl) (.inl rfl)) rfl rfl (by decide) ?_
  refine r_val (v := .bool _) (v_move (.inl rfl) (noOwn_flat rfl)) rfl rfl (by decide) ?_
  refine r_gval (v := .int _ _) (v_move (.inl rfl) (noOwn_flat rfl)) rfl rfl rfl (by decide) (.inl ⟨_, rfl, rfl⟩) rfl (by decide) ?_
  refine r_gval (v := .int _ _) (v_move (.inl rfl) (noOwn_flat rfl)) rfl rfl rfl (by decide) (.inl ⟨_, rfl, rfl⟩) rfl (by decide) ?_
  refine r_gval (v := .bool _) (v_leq (.inr ⟨_, rfl, fun h => h⟩) (.inr ⟨_, rfl, fun h => h⟩)) rfl rfl rfl (by decide) (.inl ⟨_, rfl, rfl⟩) rfl (by decide) ?_
  refine r_val (v := .bool _) (v_pick (.inl rfl) (.inr ⟨_, rfl, fun h h2 => by simp_all⟩) (.inl rfl)) rfl rfl (by decide) ?_
  refine r_val (v := .bool _) (v_assign (.inl rfl) (noOwn_flat rfl)) rfl rfl (by decide) ?_
  refine r_nil ?_
  refine a_ret ?_
  refine ret1 Try.results55 (by decide) (by decide) (Weak.of_eq (bool_eq ?_)) rfl Leaves.nil
  unfold inR; cases h : decide (lo ≤ n) <;> simp [h]

theorem within_c (n lo hi : Int) : ACall Try.prog 63 [.int .i64 n, .int .i64 lo, .int .i64 hi] [] (.bool (inR n lo hi)) [] := by
  refine ACall.intro Try.func63 rfl (N := 15) rfl (by decide) (by simp) ?_
  refine a_seq ?_
  refine a_region ?_
  refine r_val (v := .bool _) (v_assign (.inl rfl) (noOwn_flat rfl)) rfl rfl (by decide) ?_
  refine r_nil ?_
  refine a_seq ?_
  refine a_region ?_
  refine r_val (v := .int _ _) (v_move (.inl rfl) (noOwn_flat rfl)) rfl rfl (by decide) ?_
  refine r_val (v := .int _ _) (v_move (.inl rfl) (noOwn_flat rfl)) rfl rfl (by decide) ?_
  refine r_val (v := .bool _) (v_geq (.inl rfl) (.inl rfl)) rfl rfl (by decide) ?_
  refine r_val (v := .bool _) (v_move (.inl rfl) (noOwn_flat rfl)) rfl rfl (by decide) ?_
  refine r_gval (v := .int _ _) (v_move (.inl rfl) (noOwn_flat rfl)) rfl rfl rfl (by decide) (.inl ⟨_, rfl, rfl⟩) rfl (by decide) ?_
  refine r_gval (v := .int _ _) (v_move (.inl rfl) (noOwn_flat rfl)) rfl rfl rfl (by decide) (.inl ⟨_, rfl, rfl⟩) rfl (by decide) ?_
  refine r_gval (v := .bool _) (v_leq (.inr ⟨_, rfl, fun h => h⟩) (.inr ⟨_, rfl, fun h => h⟩)) rfl rfl rfl (by decide) (.inl ⟨_, rfl, rfl⟩) rfl (by decide) ?_
  refine r_val (v := .bool _) (v_pick (.inl rfl) (.inr ⟨_, rfl, fun h h2 => by simp_all⟩) (.inl rfl)) rfl rfl (by decide) ?_
  refine r_val (v := .bool _) (v_assign (.inl rfl) (noOwn_flat rfl)) rfl rfl (by decide) ?_
  refine r_nil ?_
  refine a_ret ?_
  refine ret1 Try.results63 (by decide) (by decide) (Weak.of_eq (bool_eq ?_)) rfl Leaves.nil
  unfold inR; cases h : decide (lo ≤ n) <;> simp [h]

theorem l18Prime_c (p vars : Int) : ACall Try.prog 59 [.int .i64 p, .int .i64 vars] [] (.bool (prime p vars)) [] := by
  refine ACall.intro Try.func59 rfl (N := 19) rfl (by decide) (by simp) ?_
  refine a_seq ?_
  refine a_region ?_
  refine r_val (v := .bool _) (v_assign (.inl rfl) (noOwn_flat rfl)) rfl rfl (by decide) ?_
  refine r_nil ?_
  refine a_seq ?_
  refine a_region ?_
  refine r_val (v := .int _ _) (v_move (.inl rfl) (noOwn_flat rfl)) rfl rfl (by decide) ?_
  refine r_val (v := .bool _) (v_eql (.inl rfl) (.inl rfl)) rfl rfl (by decide) ?_
  refine r_val (v := .bool _) (v_move (.inl rfl) (noOwn_flat rfl)) rfl rfl (by decide) ?_
  refine r_gval (v := .int _ _) (v_move (.inl rfl) (noOwn_flat rfl)) rfl rfl rfl (by decide) (.inl ⟨_, rfl, rfl⟩) rfl (by decide) ?_
  refine r_gval (v := .bool _) (v_eql (.inr ⟨_, rfl, fun h => h⟩) (.inl rfl)) rfl rfl rfl (by decide) (.inl ⟨_, rfl, rfl⟩) rfl (by decide) ?_
  refine r_val (v := .bool _) (v_pick (.inl rfl) (.inl rfl) (.inr ⟨_, rfl, fun h h2 => by simp_all⟩)) rfl rfl (by decide) ?_
  refine r_val (v := .bool _) (v_move (.inl rfl) (noOwn_flat rfl)) rfl rfl (by decide) ?_
  refine r_gval (v := .int _ _) (v_move (.inl rfl) (noOwn_flat rfl)) rfl rfl rfl (by decide) (.inl ⟨_, rfl, rfl⟩) rfl (by decide) ?_
  refine r_gval (v := .bool _) (v_eql (.inr ⟨_, rfl, fun h => h⟩) (.inl rfl)) rfl rfl rfl (by decide) (.inl ⟨_, rfl, rfl⟩) rfl (by decide) ?_
  refine r_val (v := .bool _) (v_pick (.inl rfl) (.inl rfl) (.inr ⟨_, rfl, fun h h2 => by simp_all⟩)) rfl rfl (by decide) ?_
  refine r_val (v := .bool _) (v_move (.inl rfl) (noOwn_flat rfl)) rfl rfl (by decide) ?_
  refine r_gval (v := .int _ _) (v_move (.inl rfl) (noOwn_flat rfl)) rfl rfl rfl (by decide) (.inl ⟨_, rfl, rfl⟩) rfl (by decide) ?_
  refine r_guard (v := .bool _) (q_call (vs := [.int _ _, .int _ _, .int _ _]) (args := [.int .i64 _, .int .i64 _, .int .i64 _]) hb55 ⟨.inr ⟨_, rfl, fun h => h⟩, .inl rfl, .inl rfl, trivial⟩ rfl (fun hA => l1In_c _ _ _) rfl rfl) rfl rfl rfl (by decide) (.inl ⟨_, rfl, rfl⟩) rfl (by decide) ?_
  refine r_val (v := .bool _) (v_pick (.inl rfl) (.inr ⟨_, rfl, fun h h2 => by simp_all⟩) (.inl rfl)) rfl rfl (by decide) ?_
  refine r_val (v := .bool _) (v_assign (.inl rfl) (noOwn_flat rfl)) rfl rfl (by decide) ?_
  refine r_nil ?_
  refine a_ret ?_
  refine ret1 Try.results59 (by decide) (by decide) (Weak.of_eq (bool_eq ?_)) rfl Leaves.nil
  unfold prime; cases h1 : decide (p = 2) <;> cases h2 : decide (p = 3) <;> cases h3 : decide (p = 5) <;> simp [h1, h2, h3]

theorem bitsOk_c (vars b : Int) (h : 0 ≤ vars ∧ vars ≤ 6) : ACall Try.prog 58 [.int .i64 vars, .int .i64 b] [] (.bool (inR b 0 ((2 : Int) ^ vars.toNat - 1))) [] := by
  refine ACall.intro Try.func58 rfl (N := 10) rfl (by decide) (by simp) ?_
  refine a_seq ?_
  refine a_region ?_
  refine r_val (v := .bool _) (v_assign (.inl rfl) (noOwn_flat rfl)) rfl rfl (by decide) ?_
  refine r_nil ?_
  refine a_seq ?_
  refine a_region ?_
  refine r_val (v := .int _ _) (v_move (.inl rfl) (noOwn_flat rfl)) rfl rfl (by decide) ?_
  refine r_val (v := .int _ _) (v_move (.inl rfl) (noOwn_flat rfl)) rfl rfl (by decide) ?_
  refine r_val (v := .int _ _) (v_shl (.inl rfl) (.inl rfl) (fun _ => by have := pow6 h; omega)) rfl rfl (by decide) ?_
  refine r_val (v := .int _ _) (v_sub (.inl rfl) (.inl rfl) (fun _ => by have := pow6 h; omega)) rfl rfl (by decide) ?_
  refine r_new (v := .bool _) (q_call (vs := [.int _ _, .int _ _, .int _ _]) (args := [.int .i64 _, .int .i64 _, .int .i64 _]) hb63 ⟨.inl rfl, .inl rfl, .inl rfl, trivial⟩ rfl (fun hA => within_c _ _ _) rfl rfl) rfl rfl (by decide) ?_
  refine r_val (v := .bool _) (v_assign (.inl rfl) (noOwn_flat rfl)) rfl rfl (by decide) ?_
  refine r_nil ?_
  refine a_ret ?_
  refine ret1 Try.results58 (by decide) (by decide) (Weak.of_eq (bool_eq ?_)) rfl Leaves.nil
  rw [Int.one_mul]

theorem ringOf_c (p vars : Int) : ACall Try.prog 52 [.int .i64 p, .int .i64 vars] [] (.tup [.agg [.int .i64 p, .int .i64 vars], .bool (prime p vars)]) [] := by
  refine ACall.intro Try.func52 rfl (N := 23) rfl (by decide) (by simp) ?_
  refine a_seq ?_
  refine a_region ?_
  refine r_new (v := .op [.int _ _, .int _ _]) (q_alloc zc58) rfl rfl (by decide) ?_
  refine r_val (v := .bool _) (v_assign (.inl rfl) (noOwn_flat rfl)) rfl rfl (by decide) ?_
  refine r_nil ?_
  refine a_seq ?_
  refine a_region ?_
  refine r_val (v := .int _ _) (v_move (.inl rfl) (noOwn_flat rfl)) rfl rfl (by decide) ?_
  refine r_val (v := .int _ _) (v_move (.inl rfl) (noOwn_flat rfl)) rfl rfl (by decide) ?_
  refine r_val (v := .agg [.int _ _, .int _ _]) (v_build sp58 rfl rfl) rfl rfl (by decide) ?_
  refine r_val (v := .int _ _) (v_move (.inl rfl) (noOwn_flat rfl)) rfl rfl (by decide) ?_
  refine r_val (v := .bool _) (v_eql (.inl rfl) (.inl rfl)) rfl rfl (by decide) ?_
  refine r_val (v := .bool _) (v_move (.inl rfl) (noOwn_flat rfl)) rfl rfl (by decide) ?_
  refine r_gval (v := .int _ _) (v_move (.inl rfl) (noOwn_flat rfl)) rfl rfl rfl (by decide) (.inl ⟨_, rfl, rfl⟩) rfl (by decide) ?_
  refine r_gval (v := .bool _) (v_eql (.inr ⟨_, rfl, fun h => h⟩) (.inl rfl)) rfl rfl rfl (by decide) (.inl ⟨_, rfl, rfl⟩) rfl (by decide) ?_
  refine r_val (v := .bool _) (v_pick (.inl rfl) (.inl rfl) (.inr ⟨_, rfl, fun h h2 => by simp_all⟩)) rfl rfl (by decide) ?_
  refine r_val (v := .bool _) (v_move (.inl rfl) (noOwn_flat rfl)) rfl rfl (by decide) ?_
  refine r_gval (v := .int _ _) (v_move (.inl rfl) (noOwn_flat rfl)) rfl rfl rfl (by decide) (.inl ⟨_, rfl, rfl⟩) rfl (by decide) ?_
  refine r_gval (v := .bool _) (v_eql (.inr ⟨_, rfl, fun h => h⟩) (.inl rfl)) rfl rfl rfl (by decide) (.inl ⟨_, rfl, rfl⟩) rfl (by decide) ?_
  refine r_val (v := .bool _) (v_pick (.inl rfl) (.inl rfl) (.inr ⟨_, rfl, fun h h2 => by simp_all⟩)) rfl rfl (by decide) ?_
  refine r_val (v := .bool _) (v_move (.inl rfl) (noOwn_flat rfl)) rfl rfl (by decide) ?_
  refine r_gval (v := .int _ _) (v_move (.inl rfl) (noOwn_flat rfl)) rfl rfl rfl (by decide) (.inl ⟨_, rfl, rfl⟩) rfl (by decide) ?_
  refine r_guard (v := .bool _) (q_call (vs := [.int _ _, .int _ _, .int _ _]) (args := [.int .i64 _, .int .i64 _, .int .i64 _]) hb63 ⟨.inr ⟨_, rfl, fun h => h⟩, .inl rfl, .inl rfl, trivial⟩ rfl (fun hA => within_c _ _ _) rfl rfl) rfl rfl rfl (by decide) (.inl ⟨_, rfl, rfl⟩) rfl (by decide) ?_
  refine r_val (v := .bool _) (v_pick (.inl rfl) (.inr ⟨_, rfl, fun h h2 => by simp_all⟩) (.inl rfl)) rfl rfl (by decide) ?_
  refine r_step rfl (o_store (v := .agg [.int _ _, .int _ _]) (y' := .op [.int _ _, .int _ _]) rfl rfl ta58 (.inl rfl) (.inl rfl) rfl rfl rfl rfl rfl rfl (Nat.le_of_ble_eq_true rfl) (by decide) rfl rfl) ?_
  refine r_val (v := .bool _) (v_assign (.inl rfl) (noOwn_flat rfl)) rfl rfl (by decide) ?_
  refine r_nil ?_
  refine a_ret ?_
  refine retL (rs := [.cell 4 58, .tmp 5]) [(4, _), (5, _)] ⟨Weak.rfl, Weak.rfl, trivial⟩ rfl Try.results52 (by decide) ⟨by decide, _, cell_agg rfl ta58, by decide, rfl⟩ (by decide) (by decide) (l2_eq (agg_eq (l2_eq (int_eq ?_) (int_eq ?_))) (bool_eq ?_)) rfl
  · rfl
  · rfl
  · unfold prime; cases h1 : decide (p = 2) <;> cases h2 : decide (p = 3) <;> cases h3 : decide (p = 5) <;> simp [h1, h2, h3]

theorem toTerm_c (a b : Int) : ACall Try.prog 51 [.agg [.int .i64 a, .int .i64 b]] [] (.agg [.int .i64 a, .int .i64 b]) [] := by
  refine ACall.intro Try.func51 rfl (N := 11) rfl (by decide) (by simp) ?_
  refine a_seq ?_
  refine a_region ?_
  refine r_new (v := .op [.int _ _, .int _ _]) (q_box (.inl rfl) rfl rfl) rfl rfl (by decide) ?_
  refine r_new (v := .op [.int _ _, .int _ _]) (q_alloc zc54) rfl rfl (by decide) ?_
  refine r_nil ?_
  refine a_seq ?_
  refine a_region ?_
  refine r_new (v := .op [.int _ _, .int _ _]) (q_alloc zc54) rfl rfl (by decide) ?_
  refine r_nil ?_
  refine a_seq ?_
  refine a_region ?_
  refine r_val (v := .rp _ _) (v_fieldAddr_rp fo56_0 (.inl rfl)) rfl rfl (by decide) ?_
  refine r_val (v := .int _ _) (v_load_rp1 ta3 (.inl rfl) rfl (fun _ => rfl) rfl) rfl rfl (by decide) ?_
  refine r_val (v := .rp _ _) (v_fieldAddr_rp fo54_0 (.inl rfl)) rfl rfl (by decide) ?_
  refine r_step rfl (o_store (v := .int _ _) (y' := .op [.int _ _, .int _ _]) rfl rfl ta3 (.inl rfl) (.inl rfl) rfl rfl rfl rfl rfl rfl (Nat.le_of_ble_eq_true rfl) (by decide) rfl rfl) ?_
  refine r_nil ?_
  refine a_seq ?_
  refine a_region ?_
  refine r_val (v := .rp _ _) (v_fieldAddr_rp fo56_1 (.inl rfl)) rfl rfl (by decide) ?_
  refine r_val (v := .int _ _) (v_load_rp1 ta3 (.inl rfl) rfl (fun _ => rfl) rfl) rfl rfl (by decide) ?_
  refine r_val (v := .rp _ _) (v_fieldAddr_rp fo54_1 (.inl rfl)) rfl rfl (by decide) ?_
  refine r_step rfl (o_store (v := .int _ _) (y' := .op [.int _ _, .int _ _]) rfl rfl ta3 (.inl rfl) (.inl rfl) rfl rfl rfl rfl rfl rfl (Nat.le_of_ble_eq_true rfl) (by decide) rfl rfl) ?_
  refine r_nil ?_
  refine a_seq ?_
  refine a_region ?_
  refine r_val (v := .agg [.int _ _, .int _ _]) (v_load_rpa1 ta54 (.inl rfl) rfl rfl (fun _ => rfl) rfl) rfl rfl (by decide) ?_
  refine r_step rfl (o_store (v := .agg [.int _ _, .int _ _]) (y' := .op [.int _ _, .int _ _]) rfl rfl ta54 (.inl rfl) (.inl rfl) rfl rfl rfl rfl rfl rfl (Nat.le_of_ble_eq_true rfl) (by decide) rfl rfl) ?_
  refine r_nil ?_
  refine a_ret ?_
  refine retC1 (r := .cell 2 54) Try.results51 ⟨by decide, _, cell_agg rfl ta54, rfl⟩ (by decide) (Weak.of_eq (agg_eq (l2_eq (int_eq ?_) (int_eq ?_)))) rfl Leaves.nil
  all_goals rfl

theorem eqTerm_c (a b c d : Int) : ACall Try.prog 54 [.agg [.int .i64 a, .int .i64 b], .agg [.int .i64 c, .int .i64 d]] [] (.bool (decide (a = c) && decide (b = d))) [] := by
  refine ACall.intro Try.func54 rfl (N := 15) rfl (by decide) (by simp) ?_
  refine a_seq ?_
  refine a_region ?_
  refine r_new (v := .op [.int _ _, .int _ _]) (q_box (.inl rfl) rfl rfl) rfl rfl (by decide) ?_
  refine r_new (v := .op [.int _ _, .int _ _]) (q_box (.inl rfl) rfl rfl) rfl rfl (by decide) ?_
  refine r_val (v := .bool _) (v_assign (.inl rfl) (noOwn_flat rfl)) rfl rfl (by decide) ?_
  refine r_nil ?_
  refine a_seq ?_
  refine a_seq ?_
  refine a_region ?_
  refine r_val (v := .rp _ _) (v_fieldAddr_rp fo54_0 (.inl rfl)) rfl rfl (by decide) ?_
  refine r_val (v := .int _ _) (v_load_rp1 ta3 (.inl rfl) rfl (fun _ => rfl) rfl) rfl rfl (by decide) ?_
  refine r_val (v := .rp _ _) (v_fieldAddr_rp fo54_0 (.inl rfl)) rfl rfl (by decide) ?_
  refine r_val (v := .int _ _) (v_load_rp1 ta3 (.inl rfl) rfl (fun _ => rfl) rfl) rfl rfl (by decide) ?_
  refine r_val (v := .bool _) (v_neq (.inl rfl) (.inl rfl)) rfl rfl (by decide) ?_
  refine r_nil ?_
  refine a_cond rfl (fun ht9 => ?_) (fun ht9 => ?_)
  ·
    skip
    refine a_seq ?_
    refine a_region ?_
    refine r_val (v := .bool _) (v_assign (.inl rfl) (noOwn_flat rfl)) rfl rfl (by decide) ?_
    refine r_nil ?_
    refine a_ret ?_
    refine ret1 Try.results54 (by decide) (by decide) (Weak.of_eq (bool_eq ?_)) rfl Leaves.nil
    simp_all
  ·
    skip
    refine a_skip ?_
    refine a_seq ?_
    refine a_seq ?_
    refine a_region ?_
    refine r_val (v := .rp _ _) (v_fieldAddr_rp fo54_1 (.inl rfl)) rfl rfl (by decide) ?_
    refine r_val (v := .int _ _) (v_load_rp1 ta3 (.inl rfl) rfl (fun _ => rfl) rfl) rfl rfl (by decide) ?_
    refine r_val (v := .rp _ _) (v_fieldAddr_rp fo54_1 (.inl rfl)) rfl rfl (by decide) ?_
    refine r_val (v := .int _ _) (v_load_rp1 ta3 (.inl rfl) rfl (fun _ => rfl) rfl) rfl rfl (by decide) ?_
    refine r_val (v := .bool _) (v_neq (.inl rfl) (.inl rfl)) rfl rfl (by decide) ?_
    refine r_nil ?_
    refine a_cond rfl (fun ht14 => ?_) (fun ht14 => ?_)
    ·
      skip
      refine a_seq ?_
      refine a_region ?_
      refine r_val (v := .bool _) (v_assign (.inl rfl) (noOwn_flat rfl)) rfl rfl (by decide) ?_
      refine r_nil ?_
      refine a_ret ?_
      refine ret1 Try.results54 (by decide) (by decide) (Weak.of_eq (bool_eq ?_)) rfl Leaves.nil
      simp_all
    ·
      skip
      refine a_skip ?_
      refine a_seq ?_
      refine a_region ?_
      refine r_val (v := .bool _) (v_assign (.inl rfl) (noOwn_flat rfl)) rfl rfl (by decide) ?_
      refine r_nil ?_
      refine a_ret ?_
      refine ret1 Try.results54 (by decide) (by decide) (Weak.of_eq (bool_eq ?_)) rfl Leaves.nil
      simp_all
end Go.Av
namespace Go.Av
open Go Go.Proofs
set_option maxRecDepth 10000
theorem es22 : elemSize Try.prog 22 = some 2 := by kernel_rfl
theorem es25 : elemSize Try.prog 25 = some 2 := by kernel_rfl
theorem hb51 : hasBody Try.prog 51 = true := by kernel_rfl
theorem hb54 : hasBody Try.prog 54 = true := by kernel_rfl
theorem sb54 : (Try.prog.info? 54).map (fun i => (i.size, i.bytes)) = some (2, 16) := by kernel_rfl
theorem sl22 : isSlice Try.prog 22 = true := by kernel_rfl
theorem sl25 : isSlice Try.prog 25 = true := by kernel_rfl
theorem ta56 : tyAgg Try.prog 56 = some (true, 2) := by kernel_rfl
theorem us25 : Try.prog.underlying 25 = some (.slice 54) := by kernel_rfl

theorem szTermS_c (xs : List (Int × Int)) (left : Int) (h : (xs.length : Int) ≤ 9223372036854775807 ∧ 0 ≤ left ∧ left ≤ 9223372036854775807) : ACall Try.prog 15 [.sl (tcells xs) xs.length, .int .i64 left] [] (.int .i64 (if left - xs.length < 0 then -1 else left - xs.length)) [] := by
  refine ACall.intro Try.func15 rfl (N := 12) rfl (by decide) (by simp) ?_
  refine a_seq ?_
  refine a_region ?_
  refine r_val (v := .int _ _) (v_assign (.inl rfl) (noOwn_flat rfl)) rfl rfl (by decide) ?_
  refine r_nil ?_
  refine a_seq ?_
  refine a_region ?_
  refine r_val (v := .int _ _) (v_move (.inl rfl) (noOwn_flat rfl)) rfl rfl (by decide) ?_
  refine r_val (v := .sl _ _) (v_move (.inl rfl) (noOwn_flat rfl)) rfl rfl (by decide) ?_
  refine r_val (v := .int _ _) (v_len_sl sl22 (.inl rfl)) rfl rfl (by decide) ?_
  refine r_val (v := .int _ _) (v_sub (.inl rfl) (.inl rfl) (fun _ => by omega)) rfl rfl (by decide) ?_
  refine r_val (v := .int _ _) (v_assign (.inl rfl) (noOwn_flat rfl)) rfl rfl (by decide) ?_
  refine r_nil ?_
  refine a_seq ?_
  refine a_seq ?_
  refine a_region ?_
  refine r_val (v := .int _ _) (v_move (.inl rfl) (noOwn_flat rfl)) rfl rfl (by decide) ?_
  refine r_val (v := .bool _) (v_lss (.inl rfl) (.inl rfl)) rfl rfl (by decide) ?_
  refine r_nil ?_
  refine a_cond rfl (fun ht10 => ?_) (fun ht10 => ?_)
  ·
    skip
    refine a_seq ?_
    refine a_region ?_
    refine r_val (v := .int _ _) (v_assign (.inl rfl) (noOwn_flat rfl)) rfl rfl (by decide) ?_
    refine r_nil ?_
    refine a_ret ?_
    refine ret1 Try.results15 (by decide) (by decide) (Weak.of_eq (int_eq ?_)) rfl Leaves.nil
    simp at ht10; rw [if_pos (by omega)]
  ·
    skip
    refine a_skip ?_
    refine a_seq ?_
    refine a_region ?_
    refine r_val (v := .int _ _) (v_move (.inl rfl) (noOwn_flat rfl)) rfl rfl (by decide) ?_
    refine r_val (v := .int _ _) (v_assign (.inl rfl) (noOwn_flat rfl)) rfl rfl (by decide) ?_
    refine r_nil ?_
    refine a_ret ?_
    refine ret1 Try.results15 (by decide) (by decide) (Weak.of_eq (int_eq ?_)) rfl Leaves.nil
    simp at ht10; rw [if_neg (by omega)]

theorem eqTermS_c (xs ys : List (Int × Int)) (hl : (xs.length : Int) ≤ 9223372036854775807) : ACall Try.prog 19 [.sl (tcells xs) xs.length, .sl (tcells ys) ys.length] [] (.bool (decide (xs = ys))) [] := by
  refine ACall.intro Try.func19 rfl (N := 27) rfl (by decide) (by simp) ?_
  refine a_seq ?_
  refine a_region ?_
  refine r_val (v := .bool _) (v_assign (.inl rfl) (noOwn_flat rfl)) rfl rfl (by decide) ?_
  refine r_nil ?_
  refine a_seq ?_
  refine a_seq ?_
  refine a_region ?_
  refine r_val (v := .sl _ _) (v_move (.inl rfl) (noOwn_flat rfl)) rfl rfl (by decide) ?_
  refine r_val (v := .int _ _) (v_len_sl sl25 (.inl rfl)) rfl rfl (by decide) ?_
  refine r_val (v := .sl _ _) (v_move (.inl rfl) (noOwn_flat rfl)) rfl rfl (by decide) ?_
  refine r_val (v := .int _ _) (v_len_sl sl25 (.inl rfl)) rfl rfl (by decide) ?_
  refine r_val (v := .bool _) (v_neq (.inl rfl) (.inl rfl)) rfl rfl (by decide) ?_
  refine r_nil ?_
  refine a_cond rfl (fun ht10 => ?_) (fun ht10 => ?_)
  ·
    skip
    refine a_seq ?_
    refine a_region ?_
    refine r_val (v := .bool _) (v_assign (.inl rfl) (noOwn_flat rfl)) rfl rfl (by decide) ?_
    refine r_nil ?_
    refine a_ret ?_
    refine ret1 Try.results19 (by decide) (by decide) (Weak.of_eq (bool_eq ?_)) rfl Leaves.nil
    simp at ht10; exact (decide_eq_false (fun h => ht10 (by rw [h]))).symm
  ·
    skip
    refine a_skip ?_
    refine a_seq ?_
    refine a_seq ?_
    refine a_region ?_
    refine r_val (v := .int _ _) (v_assign (.inl rfl) (noOwn_flat rfl)) rfl rfl (by decide) ?_
    refine r_nil ?_
    refine a_block ?_
    refine a_loop (X := Nat) (fun i => look [(0, .sl (tcells xs) xs.length), (1, .sl (tcells ys) ys.length), (5, .int .i64 (i : Int))]) (fun i => i ≤ xs.length ∧ xs.length = ys.length ∧ xs.take i = ys.take i) (fun i => xs.length - i) 0 (ent_look ⟨Weak.of_eq rfl, Weak.of_eq rfl, Weak.of_eq rfl, trivial⟩) ⟨Nat.zero_le _, by simp at ht10; omega, rfl⟩ (fun i hG => ?_)
    obtain ⟨h1, h2, h3⟩ := hG
    refine a_seq ?_
    refine a_seq ?_
    refine a_region ?_
    refine r_val (v := .int _ _) (v_move (.inl rfl) (noOwn_flat rfl)) rfl rfl (by decide) ?_
    refine r_val (v := .sl _ _) (v_move (.inl rfl) (noOwn_flat rfl)) rfl rfl (by decide) ?_
    refine r_val (v := .int _ _) (v_len_sl sl25 (.inl rfl)) rfl rfl (by decide) ?_
    refine r_val (v := .bool _) (v_lss (.inl rfl) (.inl rfl)) rfl rfl (by decide) ?_
    refine r_nil ?_
    refine a_cond rfl (fun ht14 => ?_) (fun ht14 => ?_)
    ·
      skip
      refine a_skip ?_
      refine a_seq ?_
      refine a_block ?_
      refine a_seq ?_
      refine a_region_any mixed (by kernel_rfl) ?_
      have hi : i < xs.length := (by simp at ht14; omega); have hi2 : i < ys.length := (by omega)
      refine y_val (v := .sl _ _) (v_move (.inl rfl) (noOwn_flat rfl)) rfl rfl (by decide) (by kernel_rfl) ?_
      refine y_val (v := .int _ _) (v_move (.inl rfl) (noOwn_flat rfl)) rfl rfl (by decide) (by kernel_rfl) ?_
      refine y_val (v := .pp _ _) (v_indexAddr_sl es25 (.inl rfl) (.inl rfl) (fun _ => ⟨by omega, by omega, tcells_ne hi⟩)) rfl rfl (by decide) (by kernel_rfl) ?_
      refine y_val (v := .agg [.int _ _, .int _ _]) (v_load_ppa1 ta54 (.inl rfl) rfl (fun _ => tcells_two (getElem?_of_lt hi)) rfl) rfl rfl (by decide) (by kernel_rfl) ?_
      refine y_val (v := .sl _ _) (v_move (.inl rfl) (noOwn_flat rfl)) rfl rfl (by decide) (by kernel_rfl) ?_
      refine y_val (v := .int _ _) (v_move (.inl rfl) (noOwn_flat rfl)) rfl rfl (by decide) (by kernel_rfl) ?_
      refine y_val (v := .pp _ _) (v_indexAddr_sl es25 (.inl rfl) (.inl rfl) (fun _ => ⟨by omega, by omega, tcells_ne hi2⟩)) rfl rfl (by decide) (by kernel_rfl) ?_
      refine y_val (v := .agg [.int _ _, .int _ _]) (v_load_ppa1 ta54 (.inl rfl) rfl (fun _ => tcells_two (getElem?_of_lt hi2)) rfl) rfl rfl (by decide) (by kernel_rfl) ?_
      refine y_new (v := .bool _) (q_call (vs := [.agg [.int _ _, .int _ _], .agg [.int _ _, .int _ _]]) (args := [.agg [.int .i64 _, .int .i64 _], .agg [.int .i64 _, .int .i64 _]]) hb54 ⟨.inl rfl, .inl rfl, trivial⟩ rfl (fun hA => eqTerm_c _ _ _ _) rfl rfl) rfl rfl (by decide) (by kernel_rfl) ?_
      refine y_val (v := .bool _) (v_not (.inl rfl)) rfl rfl (by decide) (by kernel_rfl) ?_
      refine y_nil ?_
      refine a_cond rfl (fun ht26 => ?_) (fun ht26 => ?_)
      ·
        skip
        refine a_seq ?_
        refine a_region ?_
        refine r_val (v := .bool _) (v_assign (.inl rfl) (noOwn_flat rfl)) rfl rfl (by decide) ?_
        refine r_nil ?_
        refine a_ret ?_
        refine ret1 Try.results19 (by decide) (by decide) (Weak.of_eq (bool_eq ?_)) rfl Leaves.nil
        simp at ht26; refine (decide_eq_false (fun h => ?_)).symm
        subst h
        simp at ht26
      ·
        skip
        refine a_skip ?_
        refine a_region ?_
        refine r_val (v := .int _ _) (v_move (.inl rfl) (noOwn_flat rfl)) rfl rfl (by decide) ?_
        refine r_val (v := .int _ _) (v_add (.inl rfl) (.inl rfl) (fun _ => by omega)) rfl rfl (by decide) ?_
        refine r_val (v := .int _ _) (v_assign (.inl rfl) (noOwn_flat rfl)) rfl rfl (by decide) ?_
        refine r_nil ?_
        refine ⟨i + 1, ent_look ⟨Weak.of_eq rfl, Weak.of_eq rfl, Weak.of_eq (int_eq (by omega)), trivial⟩, ⟨by omega, h2, take_step hi (by omega) h3 (by simp at ht26; exact Prod.ext ht26.1 ht26.2)⟩, by omega⟩
    ·
      skip
      refine a_exit ?_
      refine a_seq ?_
      refine a_region ?_
      refine r_val (v := .bool _) (v_assign (.inl rfl) (noOwn_flat rfl)) rfl rfl (by decide) ?_
      refine r_nil ?_
      refine a_ret ?_
      refine ret1 Try.results19 (by decide) (by decide) (Weak.of_eq (bool_eq ?_)) rfl Leaves.nil
      simp at ht14; refine (decide_eq_true ?_).symm
      rw [List.take_of_length_le (by omega), List.take_of_length_le (by omega)] at h3; exact h3

theorem toTermS_c (xs : List (Int × Int)) (hl : (xs.length : Int) ≤ 8388608) : ACall Try.prog 17 [.sl (tcells xs) xs.length] [] (.osl 2 (tcells xs) xs.length none) [] := by
  refine ACall.intro Try.func17 rfl (N := 23) rfl (by decide) (by simp) ?_
  refine a_seq ?_
  refine a_region ?_
  refine r_val (v := .nils) (v_assign (.inl rfl) (noOwn_flat rfl)) rfl rfl (by decide) ?_
  refine r_nil ?_
  refine a_seq ?_
  refine a_region ?_
  refine r_val (v := .sl _ _) (v_move (.inl rfl) (noOwn_flat rfl)) rfl rfl (by decide) ?_
  refine r_val (v := .int _ _) (v_len_sl sl22 (.inl rfl)) rfl rfl (by decide) ?_
  refine r_new (v := .osl _ _ _ _) (q_makeSlice us25 sb54 zc54 rfl (by decide) (.inl rfl) (.inl rfl) (fun _ => by omega)) rfl rfl (by decide) ?_
  refine r_val (v := .rsl _ _ _ _ _) (v_assign (.inl rfl) (noOwn_flat rfl)) rfl rfl (by decide) ?_
  refine r_pre (ent_reloc_sl (t := 3) rfl rfl) ?_
  refine r_nil ?_
  refine a_seq ?_
  refine a_seq ?_
  refine a_region ?_
  refine r_val (v := .int _ _) (v_assign (.inl rfl) (noOwn_flat rfl)) rfl rfl (by decide) ?_
  refine r_nil ?_
  refine a_block ?_
  refine a_loop (X := Nat) (fun i => look [(0, .sl (tcells xs) xs.length), (3, .osl 2 (tcells (part (0, 0) xs i)) xs.length (some xs.length)), (4, .int .i64 (i : Int))]) (fun i => i ≤ xs.length) (fun i => xs.length - i) 0 (ent_look ⟨Weak.of_eq rfl, Weak.of_eq (osl_eq (by rw [part_zero, ← tcells_rep])), Weak.of_eq rfl, trivial⟩) (Nat.zero_le _) (fun i hG => ?_)
  refine a_seq ?_
  refine a_seq ?_
  refine a_region ?_
  refine r_val (v := .int _ _) (v_move (.inl rfl) (noOwn_flat rfl)) rfl rfl (by decide) ?_
  refine r_val (v := .sl _ _) (v_move (.inl rfl) (noOwn_flat rfl)) rfl rfl (by decide) ?_
  refine r_val (v := .int _ _) (v_len_sl sl22 (.inl rfl)) rfl rfl (by decide) ?_
  refine r_val (v := .bool _) (v_lss (.inl rfl) (.inl rfl)) rfl rfl (by decide) ?_
  refine r_nil ?_
  refine a_cond rfl (fun ht11 => ?_) (fun ht11 => ?_)
  ·
    skip
    refine a_skip ?_
    refine a_seq ?_
    refine a_block ?_
    refine a_region ?_
    have hi : i < xs.length := (by simp at ht11; omega); have hpl : i * 2 + 2 ≤ (tcells (part (0, 0) xs i)).length := (by rw [tcells_length, part_length _ _ (by omega)]; omega)
    refine r_val (v := .rsl _ _ _ _ _) (v_move (.inl rfl) (noOwn_flat rfl)) rfl rfl (by decide) ?_
    refine r_val (v := .int _ _) (v_move (.inl rfl) (noOwn_flat rfl)) rfl rfl (by decide) ?_
    refine r_val (v := .sl _ _) (v_move (.inl rfl) (noOwn_flat rfl)) rfl rfl (by decide) ?_
    refine r_val (v := .int _ _) (v_move (.inl rfl) (noOwn_flat rfl)) rfl rfl (by decide) ?_
    refine r_val (v := .pp _ _) (v_indexAddr_sl es22 (.inl rfl) (.inl rfl) (fun _ => ⟨by omega, by omega, tcells_ne hi⟩)) rfl rfl (by decide) ?_
    refine r_val (v := .agg [.int _ _, .int _ _]) (v_load_ppa1 ta56 (.inl rfl) rfl (fun _ => tcells_two (getElem?_of_lt hi)) rfl) rfl rfl (by decide) ?_
    refine r_new (v := .agg [.int _ _, .int _ _]) (q_call (vs := [.agg [.int _ _, .int _ _]]) (args := [.agg [.int .i64 _, .int .i64 _]]) hb51 ⟨.inl rfl, trivial⟩ rfl (fun hA => toTerm_c _ _) rfl rfl) rfl rfl (by decide) ?_
    refine r_val (v := .rp _ _) (v_indexAddr_rsl0 es25 (.inl rfl) (.inl rfl) (fun _ => by omega)) rfl rfl (by decide) ?_
    refine r_step rfl (o_store (v := .agg [.int _ _, .int _ _]) (y' := .osl _ _ _ _) rfl rfl ta54 (.inl rfl) (.inl rfl) rfl rfl rfl rfl rfl rfl hpl (by decide) rfl (congrArg (fun c => AV.osl 2 c xs.length (some xs.length)) (tcells_set.trans (congrArg tcells (part_set (0, 0) xs (getElem?_of_lt hi)))))) ?_
    refine r_nil ?_
    refine a_region ?_
    refine r_val (v := .int _ _) (v_move (.inl rfl) (noOwn_flat rfl)) rfl rfl (by decide) ?_
    refine r_val (v := .int _ _) (v_add (.inl rfl) (.inl rfl) (fun _ => by omega)) rfl rfl (by decide) ?_
    refine r_val (v := .int _ _) (v_assign (.inl rfl) (noOwn_flat rfl)) rfl rfl (by decide) ?_
    refine r_nil ?_
    refine ⟨i + 1, ent_look ⟨Weak.of_eq rfl, Weak.of_eq rfl, Weak.of_eq (int_eq (by omega)), trivial⟩, by omega, by omega⟩
  ·
    skip
    refine a_exit ?_
    refine a_seq ?_
    refine a_region ?_
    refine r_val (v := .rsl _ _ _ _ _) (v_move (.inl rfl) (noOwn_flat rfl)) rfl rfl (by decide) ?_
    refine r_val (v := .rsl _ _ _ _ _) (v_assign (.inl rfl) (noOwn_flat rfl)) rfl rfl (by decide) ?_
    refine r_pre (ent_reloc_sl (t := 2) rfl rfl) ?_
    refine r_nil ?_
    refine a_ret ?_
    refine ret1 Try.results17 (by decide) (by decide) (Weak.osl ?_ ?_) rfl Leaves.nil
    · simp at ht11; rw [part_full _ _ (by omega)]
    · rfl
end Go.Av
namespace Go.Av
open Go Go.Proofs
set_option maxRecDepth 10000
theorem prime_spec {p vars : Int} (h : prime p vars = true) : (2 ≤ p ∧ p ≤ 5) ∧ 0 ≤ vars ∧ vars ≤ 6 := by
  simp [prime, inR] at h; omega
def okAt (p vars : Int) (xs : List (Int × Int)) (i : Nat) : Bool := inR (tm xs i).1 0 (2 ^ vars.toNat - 1) && inR (tm xs i).2 1 (p - 1) && (decide (i = 0) || decide ((tm xs (i - 1)).1 < (tm xs i).1))
def goodL (p vars : Int) (xs : List (Int × Int)) : Bool := (List.range xs.length).all (okAt p vars xs)
theorem good_false {p vars : Int} {xs : List (Int × Int)} {i : Nat} (hi : i < xs.length) (h : okAt p vars xs i = false) : goodL p vars xs = false := by
  unfold goodL
  rw [List.all_eq_false]
  exact ⟨i, by simpa using hi, by simp [h]⟩
theorem good_true {p vars : Int} {xs : List (Int × Int)} (h : ∀ j, j < xs.length → okAt p vars xs j = true) : goodL p vars xs = true := by
  unfold goodL
  rw [List.all_eq_true]
  intro j hj
  exact h j (by simpa using hj)
theorem ok_step {p : Nat → Bool} {i : Nat} (h : ∀ j, j < i → p j = true) (hi : p i = true) : ∀ j, j < i + 1 → p j = true := fun j hj => by
  rcases Nat.lt_or_ge j i with h' | h'
  · exact h j h'
  · rw [show j = i by omega]; exact hi
theorem hb59 : hasBody Try.prog 59 = true := by kernel_rfl

theorem l18Good_c (p vars : Int) (xs : List (Int × Int)) (hl : (xs.length : Int) ≤ 9223372036854775807) : ACall Try.prog 50 [.int .i64 p, .int .i64 vars, .sl (tcells xs) xs.length] [] (.bool (prime p vars && goodL p vars xs)) [] := by
  refine ACall.intro Try.func50 rfl (N := 57) rfl (by decide) (by simp) ?_
  refine a_seq ?_
  refine a_region ?_
  refine r_val (v := .bool _) (v_assign (.inl rfl) (noOwn_flat rfl)) rfl rfl (by decide) ?_
  refine r_nil ?_
  refine a_seq ?_
  refine a_seq ?_
  refine a_region ?_
  refine r_val (v := .int _ _) (v_move (.inl rfl) (noOwn_flat rfl)) rfl rfl (by decide) ?_
  refine r_val (v := .int _ _) (v_move (.inl rfl) (noOwn_flat rfl)) rfl rfl (by decide) ?_
  refine r_new (v := .bool _) (q_call (vs := [.int _ _, .int _ _]) (args := [.int .i64 _, .int .i64 _]) hb59 ⟨.inl rfl, .inl rfl, trivial⟩ rfl (fun hA => l18Prime_c _ _) rfl rfl) rfl rfl (by decide) ?_
  refine r_val (v := .bool _) (v_not (.inl rfl)) rfl rfl (by decide) ?_
  refine r_nil ?_
  refine a_cond rfl (fun ht11 => ?_) (fun ht11 => ?_)
  ·
    skip
    refine a_seq ?_
    refine a_region ?_
    refine r_val (v := .bool _) (v_assign (.inl rfl) (noOwn_flat rfl)) rfl rfl (by decide) ?_
    refine r_nil ?_
    refine a_ret ?_
    refine ret1 Try.results50 (by decide) (by decide) (Weak.of_eq (bool_eq ?_)) rfl Leaves.nil
    simp at ht11; rw [ht11]; rfl
  ·
    skip
    refine a_skip ?_
    refine a_seq ?_
    refine a_seq ?_
    refine a_region ?_
    have hp := prime_spec (by simpa using ht11)
    refine r_val (v := .int _ _) (v_assign (.inl rfl) (noOwn_flat rfl)) rfl rfl (by decide) ?_
    refine r_nil ?_
    refine a_block ?_
    refine a_loop (X := Nat) (fun i => look [(0, .int .i64 p), (1, .int .i64 vars), (2, .sl (tcells xs) xs.length), (7, .int .i64 (i : Int))]) (fun i => i ≤ xs.length ∧ ∀ j, j < i → okAt p vars xs j = true) (fun i => xs.length - i) 0 (ent_look ⟨Weak.of_eq rfl, Weak.of_eq rfl, Weak.of_eq rfl, Weak.of_eq rfl, trivial⟩) ⟨Nat.zero_le _, fun j h => by omega⟩ (fun i hG => ?_)
    obtain ⟨h1, h2⟩ := hG
    refine a_seq ?_
    refine a_seq ?_
    refine a_region ?_
    refine r_val (v := .int _ _) (v_move (.inl rfl) (noOwn_flat rfl)) rfl rfl (by decide) ?_
    refine r_val (v := .sl _ _) (v_move (.inl rfl) (noOwn_flat rfl)) rfl rfl (by decide) ?_
    refine r_val (v := .int _ _) (v_len_sl sl25 (.inl rfl)) rfl rfl (by decide) ?_
    refine r_val (v := .bool _) (v_lss (.inl rfl) (.inl rfl)) rfl rfl (by decide) ?_
    refine r_nil ?_
    refine a_cond rfl (fun ht15 => ?_) (fun ht15 => ?_)
    ·
      skip
      refine a_skip ?_
      refine a_seq ?_
      refine a_block ?_
      refine a_seq ?_
      refine a_region_any mixed (by kernel_rfl) ?_
      have hi : i < xs.length := (by simp at ht15; omega); have hw := pow6 hp.2
      refine y_val (v := .sl _ _) (v_move (.inl rfl) (noOwn_flat rfl)) rfl rfl (by decide) (by kernel_rfl) ?_
      refine y_val (v := .int _ _) (v_move (.inl rfl) (noOwn_flat rfl)) rfl rfl (by decide) (by kernel_rfl) ?_
      refine y_val (v := .pp _ _) (v_indexAddr_sl es25 (.inl rfl) (.inl rfl) (fun _ => ⟨by omega, by omega, tcells_ne hi⟩)) rfl rfl (by decide) (by kernel_rfl) ?_
      refine y_val (v := .pp _ _) (v_fieldAddr_pp fo54_0 (.inl rfl)) rfl rfl (by decide) (by kernel_rfl) ?_
      refine y_val (v := .int .i64 (tm xs i).1) (v_load_pp ta3 (.inl rfl) (fun _ => tcells_get0 (i := i) (tm_get hi)) rfl) rfl rfl (by decide) (by kernel_rfl) ?_
      refine y_val (v := .int _ _) (v_move (.inl rfl) (noOwn_flat rfl)) rfl rfl (by decide) (by kernel_rfl) ?_
      refine y_val (v := .int _ _) (v_shl (.inl rfl) (.inl rfl) (fun _ => by omega)) rfl rfl (by decide) (by kernel_rfl) ?_
      refine y_val (v := .int _ _) (v_sub (.inl rfl) (.inl rfl) (fun _ => by omega)) rfl rfl (by decide) (by kernel_rfl) ?_
      refine y_new (v := .bool _) (q_call (vs := [.int _ _, .int _ _, .int _ _]) (args := [.int .i64 _, .int .i64 _, .int .i64 _]) hb55 ⟨.inl rfl, .inl rfl, .inl rfl, trivial⟩ rfl (fun hA => l1In_c _ _ _) rfl rfl) rfl rfl (by decide) (by kernel_rfl) ?_
      refine y_val (v := .bool _) (v_not (.inl rfl)) rfl rfl (by decide) (by kernel_rfl) ?_
      refine y_val (v := .bool _) (v_move (.inl rfl) (noOwn_flat rfl)) rfl rfl (by decide) (by kernel_rfl) ?_
      refine y_guard (v := .sl _ _) (v_move (.inl rfl) (noOwn_flat rfl)).quiet rfl rfl rfl (by decide) (.inl ⟨_, rfl, rfl⟩) rfl (by decide) (by kernel_rfl) ?_
      refine y_guard (v := .int _ _) (v_move (.inl rfl) (noOwn_flat rfl)).quiet rfl rfl rfl (by decide) (.inl ⟨_, rfl, rfl⟩) rfl (by decide) (by kernel_rfl) ?_
      refine y_guard (v := .pp _ _) (v_indexAddr_sl es25 (.inr ⟨_, rfl, fun h => h⟩) (.inr ⟨_, rfl, fun h => h⟩) (fun _ => ⟨by omega, by omega, tcells_ne hi⟩)).quiet rfl rfl rfl (by decide) (.inl ⟨_, rfl, rfl⟩) rfl (by decide) (by kernel_rfl) ?_
      refine y_guard (v := .pp _ _) (v_fieldAddr_pp fo54_1 (.inr ⟨_, rfl, fun h => h⟩)).quiet rfl rfl rfl (by decide) (.inl ⟨_, rfl, rfl⟩) rfl (by decide) (by kernel_rfl) ?_
      refine y_guard (v := .int .i64 (tm xs i).2) (v_load_pp ta3 (.inr ⟨_, rfl, fun h => h⟩) (fun _ => tcells_get1 (i := i) (tm_get hi)) rfl).quiet rfl rfl rfl (by decide) (.inl ⟨_, rfl, rfl⟩) rfl (by decide) (by kernel_rfl) ?_
      refine y_guard (v := .int _ _) (v_move (.inl rfl) (noOwn_flat rfl)).quiet rfl rfl rfl (by decide) (.inl ⟨_, rfl, rfl⟩) rfl (by decide) (by kernel_rfl) ?_
      refine y_guard (v := .int _ _) (v_sub (.inr ⟨_, rfl, fun h => h⟩) (.inl rfl) (fun _ => by omega)).quiet rfl rfl rfl (by decide) (.inl ⟨_, rfl, rfl⟩) rfl (by decide) (by kernel_rfl) ?_
      refine y_guard (v := .bool _) (q_call (vs := [.int _ _, .int _ _, .int _ _]) (args := [.int .i64 _, .int .i64 _, .int .i64 _]) hb55 ⟨.inr ⟨_, rfl, fun h => h⟩, .inl rfl, .inr ⟨_, rfl, fun h => h⟩, trivial⟩ rfl (fun hA => l1In_c _ _ _) rfl rfl) rfl rfl rfl (by decide) (.inl ⟨_, rfl, rfl⟩) rfl (by decide) (by kernel_rfl) ?_
      refine y_guard (v := .bool _) (v_not (.inr ⟨_, rfl, fun h => h⟩)).quiet rfl rfl rfl (by decide) (.inl ⟨_, rfl, rfl⟩) rfl (by decide) (by kernel_rfl) ?_
      refine y_val (v := .bool _) (v_pick (.inl rfl) (.inl rfl) (.inr ⟨_, rfl, fun h h2 => by simp_all⟩)) rfl rfl (by decide) (by kernel_rfl) ?_
      refine y_val (v := .bool _) (v_move (.inl rfl) (noOwn_flat rfl)) rfl rfl (by decide) (by kernel_rfl) ?_
      refine y_guard (v := .int _ _) (v_move (.inl rfl) (noOwn_flat rfl)).quiet rfl rfl rfl (by decide) (.inl ⟨_, rfl, rfl⟩) rfl (by decide) (by kernel_rfl) ?_
      refine y_guard (v := .bool _) (v_gtr (.inr ⟨_, rfl, fun h => h⟩) (.inl rfl)).quiet rfl rfl rfl (by decide) (.inl ⟨_, rfl, rfl⟩) rfl (by decide) (by kernel_rfl) ?_
      refine y_guard (v := .bool _) (v_move (.inr ⟨_, rfl, fun h => h⟩) (noOwn_flat rfl)).quiet rfl rfl rfl (by decide) (.inl ⟨_, rfl, rfl⟩) rfl (by decide) (by kernel_rfl) ?_
      refine y_guard (v := .sl _ _) (v_move (.inl rfl) (noOwn_flat rfl)).quiet rfl rfl rfl (by decide) (.inr ⟨_, _, rfl, rfl⟩) rfl (by decide) (by kernel_rfl) ?_
      refine y_guard (v := .int _ _) (v_move (.inl rfl) (noOwn_flat rfl)).quiet rfl rfl rfl (by decide) (.inr ⟨_, _, rfl, rfl⟩) rfl (by decide) (by kernel_rfl) ?_
      refine y_guard (v := .int _ _) (v_sub (.inr ⟨_, rfl, fun h => h⟩) (.inl rfl) (fun hA => by omega)).quiet rfl rfl rfl (by decide) (.inr ⟨_, _, rfl, rfl⟩) rfl (by decide) (by kernel_rfl) ?_
      refine y_guard (v := .pp _ _) (v_indexAddr_sl es25 (.inr ⟨_, rfl, fun h => h⟩) (.inr ⟨_, rfl, fun h => h⟩) (fun hA => ⟨by simp at hA; omega, by omega, tcells_ne hi⟩)).quiet rfl rfl rfl (by decide) (.inr ⟨_, _, rfl, rfl⟩) rfl (by decide) (by kernel_rfl) ?_
      refine y_guard (v := .pp _ _) (v_fieldAddr_pp fo54_0 (.inr ⟨_, rfl, fun h => h⟩)).quiet rfl rfl rfl (by decide) (.inr ⟨_, _, rfl, rfl⟩) rfl (by decide) (by kernel_rfl) ?_
      refine y_guard (v := .int .i64 (tm xs (i - 1)).1) (v_load_pp ta3 (.inr ⟨_, rfl, fun h => h⟩) (fun hA => by rw [Nat.add_zero, show ((i : Int) - 1).toNat = i - 1 by omega]; exact tcells_get0 (tm_get (by omega))) rfl).quiet rfl rfl rfl (by decide) (.inr ⟨_, _, rfl, rfl⟩) rfl (by decide) (by kernel_rfl) ?_
      refine y_guard (v := .sl _ _) (v_move (.inl rfl) (noOwn_flat rfl)).quiet rfl rfl rfl (by decide) (.inr ⟨_, _, rfl, rfl⟩) rfl (by decide) (by kernel_rfl) ?_
      refine y_guard (v := .int _ _) (v_move (.inl rfl) (noOwn_flat rfl)).quiet rfl rfl rfl (by decide) (.inr ⟨_, _, rfl, rfl⟩) rfl (by decide) (by kernel_rfl) ?_
      refine y_guard (v := .pp _ _) (v_indexAddr_sl es25 (.inr ⟨_, rfl, fun h => h⟩) (.inr ⟨_, rfl, fun h => h⟩) (fun _ => ⟨by omega, by omega, tcells_ne hi⟩)).quiet rfl rfl rfl (by decide) (.inr ⟨_, _, rfl, rfl⟩) rfl (by decide) (by kernel_rfl) ?_
      refine y_guard (v := .pp _ _) (v_fieldAddr_pp fo54_0 (.inr ⟨_, rfl, fun h => h⟩)).quiet rfl rfl rfl (by decide) (.inr ⟨_, _, rfl, rfl⟩) rfl (by decide) (by kernel_rfl) ?_
      refine y_guard (v := .int .i64 (tm xs i).1) (v_load_pp ta3 (.inr ⟨_, rfl, fun h => h⟩) (fun _ => tcells_get0 (i := i) (tm_get hi)) rfl).quiet rfl rfl rfl (by decide) (.inr ⟨_, _, rfl, rfl⟩) rfl (by decide) (by kernel_rfl) ?_
      refine y_guard (v := .bool _) (v_geq (.inr ⟨_, rfl, fun h => h⟩) (.inr ⟨_, rfl, fun h => h⟩)).quiet rfl rfl rfl (by decide) (.inr ⟨_, _, rfl, rfl⟩) rfl (by decide) (by kernel_rfl) ?_
      refine y_guard (v := .bool _) (v_pick (.inr ⟨_, rfl, fun h => h⟩) (.inr ⟨_, rfl, fun h h2 => by simp_all⟩) (.inl rfl)).quiet rfl rfl rfl (by decide) (.inl ⟨_, rfl, rfl⟩) rfl (by decide) (by kernel_rfl) ?_
      refine y_val (v := .bool _) (v_pick (.inl rfl) (.inl rfl) (.inr ⟨_, rfl, fun h h2 => by simp_all⟩)) rfl rfl (by decide) (by kernel_rfl) ?_
      refine y_nil ?_
      refine a_cond rfl (fun ht56 => ?_) (fun ht56 => ?_)
      ·
        skip
        refine a_seq ?_
        refine a_pre (ent_look (L := [(0, .int _ _), (1, .int _ _), (2, .sl _ _), (7, .int _ _)]) ⟨Weak.rfl, Weak.rfl, Weak.rfl, Weak.rfl, trivial⟩) ?_
        refine a_region ?_
        refine r_val (v := .bool _) (v_assign (.inl rfl) (noOwn_flat rfl)) rfl rfl (by decide) ?_
        refine r_nil ?_
        refine a_ret ?_
        refine ret1 Try.results50 (by decide) (by decide) (Weak.of_eq (bool_eq ?_)) rfl Leaves.nil
        have hk : okAt p vars xs i = false := by unfold okAt; rw [Int.one_mul] at ht56; cases ha : inR (tm xs i).1 0 (2 ^ vars.toNat - 1) <;> cases hb : inR (tm xs i).2 1 (p - 1) <;> simp [ha, hb] at ht56 ⊢ <;> omega
        rw [good_false hi hk, Bool.and_false]
      ·
        skip
        refine a_skip ?_
        refine a_pre (ent_look (L := [(0, .int _ _), (1, .int _ _), (2, .sl _ _), (7, .int _ _)]) ⟨Weak.rfl, Weak.rfl, Weak.rfl, Weak.rfl, trivial⟩) ?_
        refine a_region ?_
        refine r_val (v := .int _ _) (v_move (.inl rfl) (noOwn_flat rfl)) rfl rfl (by decide) ?_
        refine r_val (v := .int _ _) (v_add (.inl rfl) (.inl rfl) (fun _ => by omega)) rfl rfl (by decide) ?_
        refine r_val (v := .int _ _) (v_assign (.inl rfl) (noOwn_flat rfl)) rfl rfl (by decide) ?_
        refine r_nil ?_
        have hk : okAt p vars xs i = true := by unfold okAt; rw [Int.one_mul] at ht56; cases ha : inR (tm xs i).1 0 (2 ^ vars.toNat - 1) <;> cases hb : inR (tm xs i).2 1 (p - 1) <;> simp [ha, hb] at ht56 ⊢ <;> omega
        refine ⟨i + 1, ent_look ⟨Weak.of_eq rfl, Weak.of_eq rfl, Weak.of_eq rfl, Weak.of_eq (int_eq (by omega)), trivial⟩, ⟨by omega, ok_step h2 hk⟩, by omega⟩
    ·
      skip
      refine a_exit ?_
      refine a_seq ?_
      refine a_region ?_
      refine r_val (v := .bool _) (v_assign (.inl rfl) (noOwn_flat rfl)) rfl rfl (by decide) ?_
      refine r_nil ?_
      refine a_ret ?_
      refine ret1 Try.results50 (by decide) (by decide) (Weak.of_eq (bool_eq ?_)) rfl Leaves.nil
      simp at ht11 ht15
      rw [ht11, good_true (fun j hj => h2 j (by omega))]; rfl
end Go.Av
namespace Go.Av
open Go Go.Proofs
set_option maxRecDepth 10000
theorem fo58_0 : fieldOff Try.prog 58 0 = some 0 := by kernel_rfl
theorem fo58_1 : fieldOff Try.prog 58 1 = some 1 := by kernel_rfl
theorem hb50 : hasBody Try.prog 50 = true := by kernel_rfl
theorem hb52 : hasBody Try.prog 52 = true := by kernel_rfl
theorem hb53 : hasBody Try.prog 53 = true := by kernel_rfl
theorem hb58 : hasBody Try.prog 58 = true := by kernel_rfl

theorem ringIs_c (p vars : Int) (xs : List (Int × Int)) (hl : (xs.length : Int) ≤ 9223372036854775807) (hp : prime p vars = true) : ACall Try.prog 53 [.agg [.int .i64 p, .int .i64 vars], .sl (tcells xs) xs.length] [] (.bool (goodL p vars xs)) [] := by
  have hp := prime_spec hp
  have hw := pow6 hp.2
  refine ACall.intro Try.func53 rfl (N := 45) rfl (by decide) (by simp) ?_
  refine a_seq ?_
  refine a_region ?_
  refine r_new (v := .op [.int _ _, .int _ _]) (q_box (.inl rfl) rfl rfl) rfl rfl (by decide) ?_
  refine r_val (v := .bool _) (v_assign (.inl rfl) (noOwn_flat rfl)) rfl rfl (by decide) ?_
  refine r_nil ?_
  refine a_seq ?_
  refine a_seq ?_
  refine a_region ?_
  refine r_val (v := .sl _ _) (v_move (.inl rfl) (noOwn_flat rfl)) rfl rfl (by decide) ?_
  refine r_val (v := .int _ _) (v_len_sl sl25 (.inl rfl)) rfl rfl (by decide) ?_
  refine r_val (v := .int _ _) (v_move (.inl rfl) (noOwn_flat rfl)) rfl rfl (by decide) ?_
  refine r_nil ?_
  refine a_block ?_
  refine a_loop (X := Nat) (fun i => look [(1, .sl (tcells xs) xs.length), (2, .op [.int .i64 p, .int .i64 vars]), (7, .sl (tcells xs) xs.length), (8, .int .i64 (xs.length : Int)), (9, .int .i64 (i : Int))]) (fun i => i ≤ xs.length ∧ ∀ j, j < i → okAt p vars xs j = true) (fun i => xs.length - i) 0 (ent_look ⟨Weak.of_eq rfl, Weak.of_eq rfl, Weak.of_eq rfl, Weak.of_eq rfl, Weak.of_eq rfl, trivial⟩) ⟨Nat.zero_le _, fun j h => by omega⟩ (fun i hG => ?_)
  obtain ⟨h1, h2⟩ := hG
  refine a_seq ?_
  refine a_region ?_
  refine r_val (v := .bool _) (v_lss (.inl rfl) (.inl rfl)) rfl rfl (by decide) ?_
  refine r_nil ?_
  refine a_seq ?_
  refine a_cond rfl (fun ht10 => ?_) (fun ht10 => ?_)
  ·
    skip
    refine a_skip ?_
    refine a_seq ?_
    refine a_block ?_
    refine a_seq ?_
    refine a_region ?_
    have hi : i < xs.length := (by simp at ht10; omega)
    refine r_val (v := .int _ _) (v_move (.inl rfl) (noOwn_flat rfl)) rfl rfl (by decide) ?_
    refine r_val (v := .pp _ _) (v_indexAddr_sl es25 (.inl rfl) (.inl rfl) (fun _ => ⟨by omega, by omega, tcells_ne hi⟩)) rfl rfl (by decide) ?_
    refine r_val (v := .agg [.int .i64 (tm xs i).1, .int .i64 (tm xs i).2]) (v_load_ppa1 ta54 (.inl rfl) rfl (fun _ => tcells_two (i := i) (tm_get hi)) rfl) rfl rfl (by decide) ?_
    refine r_new (v := .op [.int _ _, .int _ _]) (q_alloc zc54) rfl rfl (by decide) ?_
    refine r_val (v := .int _ _) (v_assign (.inl rfl) (noOwn_flat rfl)) rfl rfl (by decide) ?_
    refine r_step rfl (o_store (v := .agg [.int _ _, .int _ _]) (y' := .op [.int _ _, .int _ _]) rfl rfl ta54 (.inl rfl) (.inl rfl) rfl rfl rfl rfl rfl rfl (Nat.le_of_ble_eq_true rfl) (by decide) rfl rfl) ?_
    refine r_nil ?_
    refine a_seq ?_
    refine a_region_any mixed (by kernel_rfl) ?_
    refine y_val (v := .rp _ _) (v_fieldAddr_rp fo58_1 (.inl rfl)) rfl rfl (by decide) (by kernel_rfl) ?_
    refine y_val (v := .int _ _) (v_load_rp1 ta3 (.inl rfl) rfl (fun _ => rfl) rfl) rfl rfl (by decide) (by kernel_rfl) ?_
    refine y_val (v := .rp _ _) (v_fieldAddr_rp fo54_0 (.inl rfl)) rfl rfl (by decide) (by kernel_rfl) ?_
    refine y_val (v := .int _ _) (v_load_rp1 ta3 (.inl rfl) rfl (fun _ => rfl) rfl) rfl rfl (by decide) (by kernel_rfl) ?_
    refine y_new (v := .bool _) (q_call (vs := [.int _ _, .int _ _]) (args := [.int .i64 _, .int .i64 _]) hb58 ⟨.inl rfl, .inl rfl, trivial⟩ rfl (fun hA => bitsOk_c _ _ (by omega)) rfl rfl) rfl rfl (by decide) (by kernel_rfl) ?_
    refine y_val (v := .bool _) (v_not (.inl rfl)) rfl rfl (by decide) (by kernel_rfl) ?_
    refine y_val (v := .bool _) (v_move (.inl rfl) (noOwn_flat rfl)) rfl rfl (by decide) (by kernel_rfl) ?_
    refine y_guard (v := .rp _ _) (v_fieldAddr_rp fo54_1 (.inl rfl)).quiet rfl rfl rfl (by decide) (.inl ⟨_, rfl, rfl⟩) rfl (by decide) (by kernel_rfl) ?_
    refine y_guard (v := .int _ _) (v_load_rp1 ta3 (.inr ⟨_, rfl, fun h => h⟩) rfl (fun _ => rfl) rfl).quiet rfl rfl rfl (by decide) (.inl ⟨_, rfl, rfl⟩) rfl (by decide) (by kernel_rfl) ?_
    refine y_guard (v := .rp _ _) (v_fieldAddr_rp fo58_0 (.inl rfl)).quiet rfl rfl rfl (by decide) (.inl ⟨_, rfl, rfl⟩) rfl (by decide) (by kernel_rfl) ?_
    refine y_guard (v := .int _ _) (v_load_rp1 ta3 (.inr ⟨_, rfl, fun h => h⟩) rfl (fun _ => rfl) rfl).quiet rfl rfl rfl (by decide) (.inl ⟨_, rfl, rfl⟩) rfl (by decide) (by kernel_rfl) ?_
    refine y_guard (v := .int _ _) (v_sub (.inr ⟨_, rfl, fun h => h⟩) (.inl rfl) (fun hA => by omega)).quiet rfl rfl rfl (by decide) (.inl ⟨_, rfl, rfl⟩) rfl (by decide) (by kernel_rfl) ?_
    refine y_guard (v := .bool _) (q_call (vs := [.int _ _, .int _ _, .int _ _]) (args := [.int .i64 _, .int .i64 _, .int .i64 _]) hb63 ⟨.inr ⟨_, rfl, fun h => h⟩, .inl rfl, .inr ⟨_, rfl, fun h => h⟩, trivial⟩ rfl (fun hA => within_c _ _ _) rfl rfl) rfl rfl rfl (by decide) (.inl ⟨_, rfl, rfl⟩) rfl (by decide) (by kernel_rfl) ?_
    refine y_guard (v := .bool _) (v_not (.inr ⟨_, rfl, fun h => h⟩)).quiet rfl rfl rfl (by decide) (.inl ⟨_, rfl, rfl⟩) rfl (by decide) (by kernel_rfl) ?_
    refine y_val (v := .bool _) (v_pick (.inl rfl) (.inl rfl) (.inr ⟨_, rfl, fun h h2 => by simp_all⟩)) rfl rfl (by decide) (by kernel_rfl) ?_
    refine y_val (v := .bool _) (v_move (.inl rfl) (noOwn_flat rfl)) rfl rfl (by decide) (by kernel_rfl) ?_
    refine y_guard (v := .int _ _) (v_move (.inl rfl) (noOwn_flat rfl)).quiet rfl rfl rfl (by decide) (.inl ⟨_, rfl, rfl⟩) rfl (by decide) (by kernel_rfl) ?_
    refine y_guard (v := .bool _) (v_gtr (.inr ⟨_, rfl, fun h => h⟩) (.inl rfl)).quiet rfl rfl rfl (by decide) (.inl ⟨_, rfl, rfl⟩) rfl (by decide) (by kernel_rfl) ?_
    refine y_guard (v := .bool _) (v_move (.inr ⟨_, rfl, fun h => h⟩) (noOwn_flat rfl)).quiet rfl rfl rfl (by decide) (.inl ⟨_, rfl, rfl⟩) rfl (by decide) (by kernel_rfl) ?_
    refine y_guard (v := .rp _ _) (v_fieldAddr_rp fo54_0 (.inl rfl)).quiet rfl rfl rfl (by decide) (.inr ⟨_, _, rfl, rfl⟩) rfl (by decide) (by kernel_rfl) ?_
    refine y_guard (v := .int _ _) (v_load_rp1 ta3 (.inr ⟨_, rfl, fun h => h⟩) rfl (fun _ => rfl) rfl).quiet rfl rfl rfl (by decide) (.inr ⟨_, _, rfl, rfl⟩) rfl (by decide) (by kernel_rfl) ?_
    refine y_guard (v := .sl _ _) (v_move (.inl rfl) (noOwn_flat rfl)).quiet rfl rfl rfl (by decide) (.inr ⟨_, _, rfl, rfl⟩) rfl (by decide) (by kernel_rfl) ?_
    refine y_guard (v := .int _ _) (v_move (.inl rfl) (noOwn_flat rfl)).quiet rfl rfl rfl (by decide) (.inr ⟨_, _, rfl, rfl⟩) rfl (by decide) (by kernel_rfl) ?_
    refine y_guard (v := .int _ _) (v_sub (.inr ⟨_, rfl, fun h => h⟩) (.inl rfl) (fun hA => by omega)).quiet rfl rfl rfl (by decide) (.inr ⟨_, _, rfl, rfl⟩) rfl (by decide) (by kernel_rfl) ?_
    refine y_guard (v := .pp _ _) (v_indexAddr_sl es25 (.inr ⟨_, rfl, fun h => h⟩) (.inr ⟨_, rfl, fun h => h⟩) (fun hA => ⟨by simp at hA; omega, by omega, tcells_ne hi⟩)).quiet rfl rfl rfl (by decide) (.inr ⟨_, _, rfl, rfl⟩) rfl (by decide) (by kernel_rfl) ?_
    refine y_guard (v := .pp _ _) (v_fieldAddr_pp fo54_0 (.inr ⟨_, rfl, fun h => h⟩)).quiet rfl rfl rfl (by decide) (.inr ⟨_, _, rfl, rfl⟩) rfl (by decide) (by kernel_rfl) ?_
    refine y_guard (v := .int .i64 (tm xs (i - 1)).1) (v_load_pp ta3 (.inr ⟨_, rfl, fun h => h⟩) (fun hA => by rw [Nat.add_zero, show ((i : Int) - 1).toNat = i - 1 by omega]; exact tcells_get0 (tm_get (by omega))) rfl).quiet rfl rfl rfl (by decide) (.inr ⟨_, _, rfl, rfl⟩) rfl (by decide) (by kernel_rfl) ?_
    refine y_guard (v := .bool _) (v_leq (.inr ⟨_, rfl, fun h => h⟩) (.inr ⟨_, rfl, fun h => h⟩)).quiet rfl rfl rfl (by decide) (.inr ⟨_, _, rfl, rfl⟩) rfl (by decide) (by kernel_rfl) ?_
    refine y_guard (v := .bool _) (v_pick (.inr ⟨_, rfl, fun h => h⟩) (.inr ⟨_, rfl, fun h h2 => by simp_all⟩) (.inl rfl)).quiet rfl rfl rfl (by decide) (.inl ⟨_, rfl, rfl⟩) rfl (by decide) (by kernel_rfl) ?_
    refine y_val (v := .bool _) (v_pick (.inl rfl) (.inl rfl) (.inr ⟨_, rfl, fun h h2 => by simp_all⟩)) rfl rfl (by decide) (by kernel_rfl) ?_
    refine y_nil ?_
    refine a_cond rfl (fun ht43 => ?_) (fun ht43 => ?_)
    ·
      skip
      refine a_seq ?_
      refine a_pre (ent_look (L := [(1, .sl _ _), (2, .op [.int _ _, .int _ _]), (7, .sl _ _), (8, .int _ _), (9, .int _ _)]) ⟨Weak.rfl, Weak.rfl, Weak.rfl, Weak.rfl, Weak.rfl, trivial⟩) ?_
      refine a_region ?_
      refine r_val (v := .bool _) (v_assign (.inl rfl) (noOwn_flat rfl)) rfl rfl (by decide) ?_
      refine r_nil ?_
      refine a_ret ?_
      refine ret1 Try.results53 (by decide) (by decide) (Weak.of_eq (bool_eq ?_)) rfl Leaves.nil
      have hk : okAt p vars xs i = false := by unfold okAt; cases ha : inR (tm xs i).1 0 (2 ^ vars.toNat - 1) <;> cases hb : inR (tm xs i).2 1 (p - 1) <;> simp [ha, hb] at ht43 ⊢ <;> omega
      rw [good_false hi hk]
    ·
      skip
      refine a_skip ?_
      refine a_pre (ent_look (L := [(1, .sl _ _), (2, .op [.int _ _, .int _ _]), (7, .sl _ _), (8, .int _ _), (9, .int _ _)]) ⟨Weak.rfl, Weak.rfl, Weak.rfl, Weak.rfl, Weak.rfl, trivial⟩) ?_
      refine a_region ?_
      refine r_val (v := .int _ _) (v_add (.inl rfl) (.inl rfl) (fun _ => by omega)) rfl rfl (by decide) ?_
      refine r_val (v := .int _ _) (v_move (.inl rfl) (noOwn_flat rfl)) rfl rfl (by decide) ?_
      refine r_nil ?_
      have hk : okAt p vars xs i = true := by unfold okAt; cases ha : inR (tm xs i).1 0 (2 ^ vars.toNat - 1) <;> cases hb : inR (tm xs i).2 1 (p - 1) <;> simp [ha, hb] at ht43 ⊢ <;> omega
      refine ⟨i + 1, ent_look ⟨Weak.of_eq rfl, Weak.of_eq rfl, Weak.of_eq rfl, Weak.of_eq rfl, Weak.of_eq (int_eq (by omega)), trivial⟩, ⟨by omega, ok_step h2 hk⟩, by omega⟩
  ·
    skip
    refine a_exit ?_
    refine a_seq ?_
    refine a_region ?_
    refine r_val (v := .bool _) (v_assign (.inl rfl) (noOwn_flat rfl)) rfl rfl (by decide) ?_
    refine r_nil ?_
    refine a_ret ?_
    refine ret1 Try.results53 (by decide) (by decide) (Weak.of_eq (bool_eq ?_)) rfl Leaves.nil
    simp at ht10
    rw [good_true (fun j hj => h2 j (by omega))]

theorem sIsPoly_c (p vars : Int) (xs : List (Int × Int)) (hl : (xs.length : Int) ≤ 9223372036854775807) : ACall Try.prog 16 [.int .i64 p, .int .i64 vars, .sl (tcells xs) xs.length] [] (.bool (prime p vars && goodL p vars xs)) [] := by
  refine ACall.intro Try.func16 rfl (N := 11) rfl (by decide) (by simp) ?_
  refine a_seq ?_
  refine a_region ?_
  refine r_val (v := .bool _) (v_assign (.inl rfl) (noOwn_flat rfl)) rfl rfl (by decide) ?_
  refine r_nil ?_
  refine a_seq ?_
  refine a_region ?_
  refine r_val (v := .int _ _) (v_move (.inl rfl) (noOwn_flat rfl)) rfl rfl (by decide) ?_
  refine r_val (v := .int _ _) (v_move (.inl rfl) (noOwn_flat rfl)) rfl rfl (by decide) ?_
  refine r_val (v := .sl _ _) (v_move (.inl rfl) (noOwn_flat rfl)) rfl rfl (by decide) ?_
  refine r_new (v := .bool _) (q_call (vs := [.int _ _, .int _ _, .sl _ _]) (args := [.int .i64 _, .int .i64 _, .sl _ _]) hb50 ⟨.inl rfl, .inl rfl, .inl rfl, trivial⟩ rfl (fun hA => l18Good_c _ _ _ (by omega)) rfl rfl) rfl rfl (by decide) ?_
  refine r_val (v := .bool _) (v_assign (.inl rfl) (noOwn_flat rfl)) rfl rfl (by decide) ?_
  refine r_nil ?_
  refine a_ret ?_
  refine ret1 Try.results16 (by decide) (by decide) (Weak.of_eq (bool_eq ?_)) rfl Leaves.nil
  rfl

theorem iIsPoly_c (p vars : Int) (xs : List (Int × Int)) (hl : (xs.length : Int) ≤ 9223372036854775807) : ACall Try.prog 18 [.int .i64 p, .int .i64 vars, .sl (tcells xs) xs.length] [] (.bool (prime p vars && goodL p vars xs)) [] := by
  refine ACall.intro Try.func18 rfl (N := 21) rfl (by decide) (by simp) ?_
  refine a_seq ?_
  refine a_region ?_
  refine r_val (v := .bool _) (v_assign (.inl rfl) (noOwn_flat rfl)) rfl rfl (by decide) ?_
  refine r_nil ?_
  refine a_seq ?_
  refine a_region ?_
  refine r_val (v := .int _ _) (v_move (.inl rfl) (noOwn_flat rfl)) rfl rfl (by decide) ?_
  refine r_val (v := .int _ _) (v_move (.inl rfl) (noOwn_flat rfl)) rfl rfl (by decide) ?_
  refine r_new (v := .tup [.agg [.int _ _, .int _ _], .bool _]) (q_call (vs := [.int _ _, .int _ _]) (args := [.int .i64 _, .int .i64 _]) hb52 ⟨.inl rfl, .inl rfl, trivial⟩ rfl (fun hA => ringOf_c _ _) rfl rfl) rfl rfl (by decide) ?_
  refine r_val (v := .tup [.agg [.int _ _, .int _ _], .bool _]) (v_mv rfl) rfl rfl (by decide) ?_
  refine r_val (v := .agg [.int _ _, .int _ _]) (v_extract rfl rfl) rfl rfl (by decide) ?_
  refine r_val (v := .bool _) (v_extract rfl rfl) rfl rfl (by decide) ?_
  refine r_new (v := .op [.int _ _, .int _ _]) (q_alloc zc58) rfl rfl (by decide) ?_
  refine r_step rfl (o_store (v := .agg [.int _ _, .int _ _]) (y' := .op [.int _ _, .int _ _]) rfl rfl ta58 (.inl rfl) (.inl rfl) rfl rfl rfl rfl rfl rfl (Nat.le_of_ble_eq_true rfl) (by decide) rfl rfl) ?_
  refine r_val (v := .bool _) (v_assign (.inl rfl) (noOwn_flat rfl)) rfl rfl (by decide) ?_
  refine r_nil ?_
  refine a_seq ?_
  refine a_region ?_
  refine r_val (v := .bool _) (v_move (.inl rfl) (noOwn_flat rfl)) rfl rfl (by decide) ?_
  refine r_val (v := .bool _) (v_move (.inl rfl) (noOwn_flat rfl)) rfl rfl (by decide) ?_
  refine r_gval (v := .agg [.int _ _, .int _ _]) (v_load_rpa1 ta58 (.inl rfl) rfl rfl (fun _ => rfl) rfl) rfl rfl rfl (by decide) (.inl ⟨_, rfl, rfl⟩) rfl (by decide) ?_
  refine r_gval (v := .sl _ _) (v_move (.inl rfl) (noOwn_flat rfl)) rfl rfl rfl (by decide) (.inl ⟨_, rfl, rfl⟩) rfl (by decide) ?_
  refine r_guard (v := .bool _) (q_call (vs := [.agg [.int _ _, .int _ _], .sl _ _]) (args := [.agg [.int .i64 _, .int .i64 _], .sl _ _]) hb53 ⟨.inr ⟨_, rfl, fun h => h⟩, .inr ⟨_, rfl, fun h => h⟩, trivial⟩ rfl (fun hA => ringIs_c _ _ _ (by omega) (by simp_all)) rfl rfl) rfl rfl rfl (by decide) (.inl ⟨_, rfl, rfl⟩) rfl (by decide) ?_
  refine r_val (v := .bool _) (v_pick (.inl rfl) (.inr ⟨_, rfl, fun h h2 => by simp_all⟩) (.inl rfl)) rfl rfl (by decide) ?_
  refine r_val (v := .bool _) (v_assign (.inl rfl) (noOwn_flat rfl)) rfl rfl (by decide) ?_
  refine r_nil ?_
  refine a_ret ?_
  refine ret1 Try.results18 (by decide) (by decide) (Weak.of_eq (bool_eq ?_)) rfl Leaves.nil
  cases h : prime p vars <;> simp [h]
end Go.Av
namespace Go.Av
open Go Go.Proofs
set_option maxRecDepth 10000
theorem hb15 : hasBody Try.prog 15 = true := by kernel_rfl
theorem hb16 : hasBody Try.prog 16 = true := by kernel_rfl
theorem hb17 : hasBody Try.prog 17 = true := by kernel_rfl
theorem hb18 : hasBody Try.prog 18 = true := by kernel_rfl
theorem hb19 : hasBody Try.prog 19 = true := by kernel_rfl
theorem un4 : Try.prog.underlying 4 = some .bool := by kernel_rfl

theorem lawIsPoly_c (p vars : Int) (xs : List (Int × Int)) (hl : (xs.length : Int) ≤ 9223372036854775807) : ACall Try.prog 3 [.int .i64 p, .int .i64 vars, .sl (tcells xs) xs.length] [] (.bool true) [] := by
  refine ACall.intro Try.func3 rfl (N := 35) rfl (by decide) (by simp) ?_
  refine a_seq ?_
  refine a_region ?_
  refine r_val (v := .bool _) (v_assign (.inl rfl) (noOwn_flat rfl)) rfl rfl (by decide) ?_
  refine r_nil ?_
  refine a_seq ?_
  refine a_region ?_
  refine r_val (v := .int _ _) (v_assign (.inl rfl) (noOwn_flat rfl)) rfl rfl (by decide) ?_
  refine r_nil ?_
  refine a_seq ?_
  refine a_region ?_
  refine r_val (v := .sl _ _) (v_move (.inl rfl) (noOwn_flat rfl)) rfl rfl (by decide) ?_
  refine r_val (v := .int _ _) (v_move (.inl rfl) (noOwn_flat rfl)) rfl rfl (by decide) ?_
  refine r_new (v := .int _ _) (q_call (vs := [.sl _ _, .int _ _]) (args := [.sl _ _, .int .i64 _]) hb15 ⟨.inl rfl, .inl rfl, trivial⟩ rfl (fun hA => szTermS_c _ _ (by omega)) rfl rfl) rfl rfl (by decide) ?_
  refine r_val (v := .int _ _) (v_assign (.inl rfl) (noOwn_flat rfl)) rfl rfl (by decide) ?_
  refine r_nil ?_
  refine a_seq ?_
  refine a_seq ?_
  refine a_region ?_
  refine r_val (v := .int _ _) (v_move (.inl rfl) (noOwn_flat rfl)) rfl rfl (by decide) ?_
  refine r_val (v := .bool _) (v_lss (.inl rfl) (.inl rfl)) rfl rfl (by decide) ?_
  refine r_nil ?_
  refine a_cond rfl (fun ht15 => ?_) (fun ht15 => ?_)
  ·
    skip
    refine a_seq ?_
    refine a_region ?_
    refine r_val (v := .bool _) (v_assign (.inl rfl) (noOwn_flat rfl)) rfl rfl (by decide) ?_
    refine r_nil ?_
    refine a_ret ?_
    refine ret1 Try.results3 (by decide) (by decide) (Weak.of_eq (bool_eq ?_)) rfl Leaves.nil
    rfl
  ·
    skip
    refine a_skip ?_
    refine a_seq ?_
    refine a_region ?_
    have hle : (xs.length : Int) ≤ 1048576 := by simp at ht15; split at ht15 <;> omega
    refine r_val (v := .int _ _) (v_move (.inl rfl) (noOwn_flat rfl)) rfl rfl (by decide) ?_
    refine r_val (v := .int _ _) (v_move (.inl rfl) (noOwn_flat rfl)) rfl rfl (by decide) ?_
    refine r_val (v := .sl _ _) (v_move (.inl rfl) (noOwn_flat rfl)) rfl rfl (by decide) ?_
    refine r_new (v := .osl _ _ _ _) (q_call (vs := [.sl _ _]) (args := [.sl _ _]) hb17 ⟨.inl rfl, trivial⟩ rfl (fun hA => toTermS_c _ (by omega)) (tc_noSh _) (tc_noRef _)) rfl rfl (by decide) ?_
    refine r_new (v := .bool _) (q_call (vs := [.int _ _, .int _ _, .rsl _ _ _ _ _]) (args := [.int .i64 _, .int .i64 _, .sl _ _]) hb16 ⟨.inl rfl, .inl rfl, .inl rfl, trivial⟩ (l3_eq rfl rfl (sl_sh (tc_pure _))) (fun hA => sIsPoly_c _ _ _ (by omega)) rfl rfl) rfl rfl (by decide) ?_
    refine r_val (v := .bool _) (v_assign (.inl rfl) (noOwn_flat rfl)) rfl rfl (by decide) ?_
    refine r_nil ?_
    refine a_seq ?_
    refine a_region ?_
    refine r_val (v := .sl _ _) (v_move (.inl rfl) (noOwn_flat rfl)) rfl rfl (by decide) ?_
    refine r_new (v := .osl _ _ _ _) (q_call (vs := [.sl _ _]) (args := [.sl _ _]) hb17 ⟨.inl rfl, trivial⟩ rfl (fun hA => toTermS_c _ (by omega)) (tc_noSh _) (tc_noRef _)) rfl rfl (by decide) ?_
    refine r_val (v := .rsl _ _ _ _ _) (v_assign (.inl rfl) (noOwn_flat rfl)) rfl rfl (by decide) ?_
    refine r_pre (ent_reloc_sl (t := 9) rfl rfl) ?_
    refine r_nil ?_
    refine a_seq ?_
    refine a_region ?_
    refine r_val (v := .int _ _) (v_move (.inl rfl) (noOwn_flat rfl)) rfl rfl (by decide) ?_
    refine r_val (v := .int _ _) (v_move (.inl rfl) (noOwn_flat rfl)) rfl rfl (by decide) ?_
    refine r_val (v := .rsl _ _ _ _ _) (v_move (.inl rfl) (noOwn_flat rfl)) rfl rfl (by decide) ?_
    refine r_new (v := .bool _) (q_call (vs := [.int _ _, .int _ _, .rsl _ _ _ _ _]) (args := [.int .i64 _, .int .i64 _, .sl _ _]) hb18 ⟨.inl rfl, .inl rfl, .inl rfl, trivial⟩ (l3_eq rfl rfl (sl_sh (tc_pure _))) (fun hA => iIsPoly_c _ _ _ (by omega)) rfl rfl) rfl rfl (by decide) ?_
    refine r_val (v := .bool _) (v_assign (.inl rfl) (noOwn_flat rfl)) rfl rfl (by decide) ?_
    refine r_nil ?_
    refine a_seq ?_
    refine a_seq ?_
    refine a_region ?_
    refine r_val (v := .bool _) (v_move (.inl rfl) (noOwn_flat rfl)) rfl rfl (by decide) ?_
    refine r_val (v := .bool _) (v_move (.inl rfl) (noOwn_flat rfl)) rfl rfl (by decide) ?_
    refine r_val (v := .bool _) (v_bne un4 (.inl rfl) (.inl rfl)) rfl rfl (by decide) ?_
    refine r_nil ?_
    refine a_cond rfl (fun ht29 => ?_) (fun ht29 => ?_)
    ·
      skip
      refine a_seq ?_
      refine a_region ?_
      refine r_val (v := .bool _) (v_assign (.inl rfl) (noOwn_flat rfl)) rfl rfl (by decide) ?_
      refine r_nil ?_
      refine a_ret ?_
      refine ret1 Try.results3 (by decide) (by decide) (Weak.of_eq (bool_eq ?_)) rfl Leaves.nil
      exfalso; simp at ht29
    ·
      skip
      refine a_skip ?_
      refine a_seq ?_
      refine a_seq ?_
      refine a_region ?_
      refine r_val (v := .rsl _ _ _ _ _) (v_move (.inl rfl) (noOwn_flat rfl)) rfl rfl (by decide) ?_
      refine r_val (v := .sl _ _) (v_move (.inl rfl) (noOwn_flat rfl)) rfl rfl (by decide) ?_
      refine r_new (v := .osl _ _ _ _) (q_call (vs := [.sl _ _]) (args := [.sl _ _]) hb17 ⟨.inl rfl, trivial⟩ rfl (fun hA => toTermS_c _ (by omega)) (tc_noSh _) (tc_noRef _)) rfl rfl (by decide) ?_
      refine r_new (v := .bool _) (q_call (vs := [.rsl _ _ _ _ _, .rsl _ _ _ _ _]) (args := [.sl _ _, .sl _ _]) hb19 ⟨.inl rfl, .inl rfl, trivial⟩ (l2_eq (sl_sh (tc_pure _)) (sl_sh (tc_pure _))) (fun hA => eqTermS_c _ _ (by omega)) rfl rfl) rfl rfl (by decide) ?_
      refine r_val (v := .bool _) (v_not (.inl rfl)) rfl rfl (by decide) ?_
      refine r_nil ?_
      refine a_cond rfl (fun ht34 => ?_) (fun ht34 => ?_)
      ·
        skip
        refine a_seq ?_
        refine a_pre (ent_look (L := [(6, .bool _)]) ⟨Weak.rfl, trivial⟩) ?_
        refine a_region ?_
        refine r_val (v := .bool _) (v_assign (.inl rfl) (noOwn_flat rfl)) rfl rfl (by decide) ?_
        refine r_nil ?_
        refine a_ret ?_
        refine ret1 Try.results3 (by decide) (by decide) (Weak.of_eq (bool_eq ?_)) rfl Leaves.nil
        exfalso; simp at ht34
      ·
        skip
        refine a_skip ?_
        refine a_seq ?_
        refine a_pre (ent_look (L := [(6, .bool _)]) ⟨Weak.rfl, trivial⟩) ?_
        refine a_region ?_
        refine r_val (v := .bool _) (v_assign (.inl rfl) (noOwn_flat rfl)) rfl rfl (by decide) ?_
        refine r_nil ?_
        refine a_ret ?_
        refine ret1 Try.results3 (by decide) (by decide) (Weak.of_eq (bool_eq ?_)) rfl Leaves.nil
        rfl
end Go.Av
