/- Lemmas, part 4. -/
import Derived.Test.YtflabfgegbccjaaGreatB3
import Derived.Sort.LotD5
set_option linter.unusedVariables false
set_option linter.unusedSimpArgs false
set_option maxRecDepth 10000
namespace Go.Av
open Go
def cmpF (cf : Int → Int → Int) : List Int → List Int → Int
  | [], [] => 0
  | [], _ :: _ => -1
  | _ :: _, [] => 1
  | x :: a, y :: b => if cf x y ≠ 0 then cf x y else cmpF cf a b
theorem cmpF_more {cf : Int → Int → Int} {a b : List Int} {i : Nat} (ha : i < a.length) (hb : i < b.length) : cmpF cf (a.drop i) (b.drop i) = if cf (gd a i) (gd b i) ≠ 0 then cf (gd a i) (gd b i) else cmpF cf (a.drop (i + 1)) (b.drop (i + 1)) := by
  rw [drop_gd ha, drop_gd hb, cmpF]
theorem cmpF_nilr {cf : Int → Int → Int} {a b : List Int} {i : Nat} (ha : i < a.length) (hb : b.length ≤ i) : cmpF cf (a.drop i) (b.drop i) = 1 := by
  rw [drop_gd ha, List.drop_eq_nil_of_le hb, cmpF]
theorem cmpF_end {cf : Int → Int → Int} {a b : List Int} (h : a.length ≤ b.length) : cmpF cf (a.drop a.length) (b.drop a.length) = if a.length < b.length then -1 else 0 := by
  rw [List.drop_eq_nil_of_le (Nat.le_refl _)]
  split
  · rename_i hl; rw [drop_gd hl, cmpF]
  · rw [List.drop_eq_nil_of_le (by omega), cmpF]
def cC (a b : List Int) : Int := orL [cmpI (a.length : Int) (b.length : Int), cmpF cfLit a b]
def lexB : List Int → List Int → Bool
  | x :: a, y :: b => if x = y then lexB a b else decide (keyL x < keyL y)
  | _, _ => false
theorem lexB_more {a b : List Int} {i : Nat} (ha : i < a.length) (hb : i < b.length) : lexB (a.drop i) (b.drop i) = if gd a i = gd b i then lexB (a.drop (i + 1)) (b.drop (i + 1)) else decide (keyL (gd a i) < keyL (gd b i)) := by
  rw [drop_gd ha, drop_gd hb, lexB]
theorem lexB_end {a b : List Int} : lexB (a.drop a.length) b = false := by rw [List.drop_eq_nil_of_le (Nat.le_refl _)]; cases b <;> rfl
def bfL (a b : List Int) : Bool := if a.length = b.length then lexB a b else decide (a.length < b.length)
theorem keyL_inj {x y : Int} (h : keyL x = keyL y) : x = y := by unfold keyL at h; split at h <;> split at h <;> omega
theorem lexB_irr : ∀ a, lexB a a = false
  | [] => rfl
  | x :: a => by rw [lexB, if_pos rfl]; exact lexB_irr a
theorem lexB_trans : ∀ {a b c : List Int}, lexB a b = true → lexB b c = true → lexB a c = true
  | x :: a, y :: b, z :: c, h1, h2 => by
    rw [lexB] at h1 h2 ⊢
    by_cases e1 : x = y
    · subst e1
      rw [if_pos rfl] at h1
      by_cases e2 : x = z
      · subst e2; rw [if_pos rfl] at h2 ⊢; exact lexB_trans h1 h2
      · rw [if_neg e2] at h2 ⊢; exact h2
    · rw [if_neg e1] at h1
      by_cases e2 : y = z
      · subst e2; rw [if_neg e1]; exact h1
      · rw [if_neg e2] at h2
        have h3 := of_decide_eq_true h1
        have h4 := of_decide_eq_true h2
        rw [if_neg (fun e => by subst e; omega)]
        exact decide_eq_true (by omega)
  | [], _, _, h, _ => by simp [lexB] at h
  | _ :: _, [], _, h, _ => by simp [lexB] at h
  | _ :: _, _ :: _, [], _, h => by simp [lexB] at h
theorem lexB_tot : ∀ {a b : List Int}, a.length = b.length → lexB a b = false → lexB b a = false → a = b
  | [], [], _, _, _ => rfl
  | x :: a, y :: b, hl, h1, h2 => by
    rw [lexB] at h1 h2
    by_cases e : x = y
    · subst e
      rw [if_pos rfl] at h1 h2
      rw [lexB_tot (by simpa using hl) h1 h2]
    · rw [if_neg e] at h1
      rw [if_neg (Ne.symm e)] at h2
      have h3 := of_decide_eq_false h1
      have h4 := of_decide_eq_false h2
      exact absurd (keyL_inj (by omega)) e
theorem bfL_irr (a : List Int) : bfL a a = false := by unfold bfL; rw [if_pos rfl]; exact lexB_irr a
theorem bfL_trans {a b c : List Int} (h1 : bfL a b = true) (h2 : bfL b c = true) : bfL a c = true := by
  unfold bfL at *
  by_cases e1 : a.length = b.length
  · rw [if_pos e1] at h1
    by_cases e2 : b.length = c.length
    · rw [if_pos e2] at h2; rw [if_pos (by omega)]; exact lexB_trans h1 h2
    · rw [if_neg e2] at h2; have := of_decide_eq_true h2; rw [if_neg (by omega)]; exact decide_eq_true (by omega)
  · rw [if_neg e1] at h1
    have h3 := of_decide_eq_true h1
    by_cases e2 : b.length = c.length
    · rw [if_neg (by omega)]; exact decide_eq_true (by omega)
    · rw [if_neg e2] at h2; have := of_decide_eq_true h2; rw [if_neg (by omega)]; exact decide_eq_true (by omega)
theorem bfL_tot {a b : List Int} (h1 : bfL a b = false) (h2 : bfL b a = false) : a = b := by
  unfold bfL at *
  by_cases e : a.length = b.length
  · rw [if_pos e] at h1; rw [if_pos e.symm] at h2; exact lexB_tot e h1 h2
  · rw [if_neg e] at h1
    rw [if_neg (Ne.symm e)] at h2
    have := of_decide_eq_false h1
    have := of_decide_eq_false h2
    omega
theorem cfLit_key {x y : Int} (hx : -1000000 ≤ x ∧ x ≤ 1000000) (hy : -1000000 ≤ y ∧ y ≤ 1000000) : (cfLit x y = 0 ↔ x = y) ∧ (x ≠ y → (cfLit x y < 0 ↔ keyL x < keyL y)) := by
  have hax : absA x = if x < 0 then -x else x := by rw [absA_of (by omega)]; rfl
  have hay : absA y = if y < 0 then -y else y := by rw [absA_of (by omega)]; rfl
  rw [cfLit_eq, hax, hay]
  unfold keyL cmpI orL orL orL
  constructor
  · constructor
    · intro h
      split at h <;> split at h <;> (try split at h) <;> (try split at h) <;> (try split at h) <;> (try split at h) <;> omega
    · rintro rfl
      simp
  · intro hne
    split <;> split <;> (try split) <;> (try split) <;> (try split) <;> (try split) <;> (try split) <;> (try split) <;> omega
theorem cmpF_lex : ∀ {a b : List Int}, a.length = b.length → (∀ x ∈ a, -1000000 ≤ x ∧ x ≤ 1000000) → (∀ x ∈ b, -1000000 ≤ x ∧ x ≤ 1000000) → (cmpF cfLit a b < 0 ↔ lexB a b = true)
  | [], [], _, _, _ => by simp [cmpF, lexB]
  | x :: a, y :: b, hl, ha, hb => by
    have hk := cfLit_key (ha x List.mem_cons_self) (hb y List.mem_cons_self)
    rw [cmpF, lexB]
    by_cases e : x = y
    · rw [if_neg (by simpa using hk.1.2 e), if_pos e]
      exact cmpF_lex (by simpa using hl) (fun z hz => ha z (List.mem_cons_of_mem _ hz)) (fun z hz => hb z (List.mem_cons_of_mem _ hz))
    · rw [if_pos (fun h => e (hk.1.1 h)), if_neg e, hk.2 e, decide_eq_true_eq]
theorem cC_bef {a b : List Int} (ha : ∀ x ∈ a, -1000000 ≤ x ∧ x ≤ 1000000) (hb : ∀ x ∈ b, -1000000 ≤ x ∧ x ≤ 1000000) : decide (0 ≤ cC a b) = !bfL a b := by
  unfold cC bfL
  by_cases e : a.length = b.length
  · have h := cmpF_lex e ha hb
    rw [if_pos e, e, show cmpI (b.length : Int) (b.length : Int) = 0 by simp [cmpI], orL, if_neg (by simp), orL]
    have h2 : (if cmpF cfLit a b ≠ 0 then cmpF cfLit a b else orL []) = cmpF cfLit a b := by
      split
      · rfl
      · rename_i h0; rw [orL]; have := Classical.not_not.1 h0; omega
    rw [h2]
    cases hx : lexB a b with
    | true => have := h.2 hx; exact decide_eq_false (by omega)
    | false => exact decide_eq_true (by have : ¬ cmpF cfLit a b < 0 := fun h3 => by rw [h.1 h3] at hx; simp at hx
                                        omega)
  · rw [if_neg e]
    by_cases hl : a.length < b.length
    · rw [show cmpI (a.length : Int) (b.length : Int) = -1 from if_pos (by omega), decide_eq_true hl]; rfl
    · rw [show cmpI (a.length : Int) (b.length : Int) = 1 from by unfold cmpI; rw [if_neg (by omega), if_pos (by omega)], decide_eq_false hl]; rfl
def ascM (M : List (List Int)) : Prop := ∀ i, i + 1 < M.length → bfL (gl M i) (gl M (i + 1)) = true
theorem asc_lt {M : List (List Int)} (h : ascM M) {i : Nat} : ∀ k, i + (k + 1) < M.length → bfL (gl M i) (gl M (i + (k + 1))) = true
  | 0, hk => h i hk
  | k + 1, hk => bfL_trans (asc_lt h k (by omega)) (h _ hk)
theorem asc_at {M : List (List Int)} (h : ascM M) {i j : Nat} (hij : i < j) (hj : j < M.length) : bfL (gl M i) (gl M j) = true := by
  have := asc_lt h (i := i) (j - i - 1) (by omega)
  rw [show i + (j - i - 1 + 1) = j by omega] at this; exact this
def plc : List (List Int) → List Int → Nat
  | [], _ => 0
  | x :: M, c => if bfL x c then plc M c + 1 else 0
theorem plc_eq : ∀ {M : List (List Int)} {c : List Int} {k : Nat}, k ≤ M.length → (∀ j, j < k → bfL (gl M j) c = true) → (∀ j, k ≤ j → j < M.length → bfL (gl M j) c = false) → plc M c = k
  | [], c, k, h, _, _ => by rw [plc]; simp at h; omega
  | x :: M, c, 0, _, _, h2 => by
    have : bfL x c = false := h2 0 (Nat.le_refl _) (by simp)
    rw [plc, if_neg (by rw [this]; simp)]
  | x :: M, c, k + 1, h, h1, h2 => by
    have : bfL x c = true := h1 0 (by omega)
    rw [plc, if_pos this, plc_eq (k := k) (by simpa using h) (fun j hj => h1 (j + 1) (by omega)) (fun j hj hl => h2 (j + 1) (by omega) (by simpa using hl))]
theorem asc_low {M : List (List Int)} (h : ascM M) {c : List Int} {k : Nat} (hk : k < M.length) (hb : bfL (gl M k) c = true) : ∀ j, j < k + 1 → bfL (gl M j) c = true := fun j hj => by
  rcases Nat.lt_or_ge j k with h1 | h1
  · exact bfL_trans (asc_at h h1 hk) hb
  · rw [show j = k by omega]; exact hb
theorem asc_high {M : List (List Int)} (h : ascM M) {c : List Int} {k : Nat} (hb : bfL (gl M k) c = false) : ∀ j, k ≤ j → j < M.length → bfL (gl M j) c = false := fun j h1 h2 => by
  rcases Nat.eq_or_lt_of_le h1 with h3 | h3
  · rw [← h3]; exact hb
  · cases hx : bfL (gl M j) c with
    | false => rfl
    | true => rw [bfL_trans (asc_at h h3 h2) hx] at hb; exact hb
theorem plc_le : ∀ (M : List (List Int)) (c : List Int), plc M c ≤ M.length
  | [], c => by simp [plc]
  | x :: M, c => by
    rw [plc]; split
    · have := plc_le M c; simp; omega
    · exact Nat.zero_le _
def atL (M : List (List Int)) (c : List Int) : Int := if plc M c < M.length ∧ gl M (plc M c) = c then (plc M c : Int) else -1
theorem gl_ix {M : List (List Int)} {c : List Int} (h : c ∈ M) : ∃ i, i < M.length ∧ gl M i = c := by
  obtain ⟨i, hi, e⟩ := List.mem_iff_getElem.1 h
  exact ⟨i, hi, by unfold gl; rw [List.getElem?_eq_getElem hi]; exact e⟩
theorem atL_mem {M : List (List Int)} (h : ascM M) (c : List Int) : decide (0 ≤ atL M c) = decide (c ∈ M) := by
  rw [decide_eq_decide]
  unfold atL
  constructor
  · intro h1
    split at h1
    · rename_i h2; rw [← h2.2]; exact gl_mem h2.1
    · omega
  · intro h1
    obtain ⟨i, hi, e⟩ := gl_ix h1
    have hp : plc M c = i := plc_eq (by omega) (fun j hj => by rw [← e]; exact asc_at h hj hi) (fun j h2 h3 => by
      rcases Nat.eq_or_lt_of_le h2 with h4 | h4
      · rw [← h4, e]; exact bfL_irr c
      · have h5 := asc_at h h4 h3
        cases hx : bfL (gl M j) c with
        | false => rfl
        | true => rw [e] at h5; have := bfL_trans h5 hx; rw [bfL_irr] at this; simp at this)
    rw [hp, if_pos ⟨hi, e⟩]; omega
theorem atL_neg {M : List (List Int)} (h : ascM M) (c : List Int) : decide (atL M c < 0) = !decide (c ∈ M) := by
  rw [← atL_mem h c]
  by_cases h1 : 0 ≤ atL M c
  · rw [decide_eq_true h1]; exact decide_eq_false (by omega)
  · rw [decide_eq_false h1]; exact decide_eq_true (by omega)
theorem fidx_mem {M : List (List Int)} {c : List Int} : decide (0 ≤ fidx (fun i => decide (c = gl M i)) M.length) = decide (c ∈ M) := by
  rw [fidx_any, Bool.eq_iff_iff, List.any_eq_true, decide_eq_true_eq]
  constructor
  · rintro ⟨i, hi, e⟩; rw [of_decide_eq_true e]; exact gl_mem (List.mem_range.1 hi)
  · intro h
    obtain ⟨i, hi, e⟩ := gl_ix h
    exact ⟨i, List.mem_range.2 hi, decide_eq_true e.symm⟩
theorem bl_noSh : ∀ (B : List Bool), noShL (blcells B) = true
  | [] => rfl
  | x :: xs => by simp only [blcells, List.map_cons, noShL, noSh, Bool.true_and]; exact bl_noSh xs
theorem bl_pure (B : List Bool) : pureL (blcells B) = true ∧ noNilL (blcells B) = true := by
  constructor
  · refine pureL_iff.2 fun c hc => ?_
    obtain ⟨n, _, rfl⟩ := List.mem_map.1 hc; rfl
  · induction B with
    | nil => rfl
    | cons x xs ih => simp only [blcells, List.map_cons, noNilL, noNil, Bool.true_and]; exact ih
def gB (B : List Bool) (i : Nat) : Bool := (B[i]?).getD false
theorem gB_get {B : List Bool} {i : Nat} (h : i < B.length) : B[i]? = some (gB B i) := by unfold gB; rw [List.getElem?_eq_getElem h]; rfl
theorem mkB_gB {n : Nat} {M : List (List Int)} : ∀ {i c : Nat}, (∀ j, j < i → codeA (gl M j) < 3 ^ n) → (gB (mkB n M i) c = true ↔ ∃ j, j < i ∧ codeA (gl M j) = c)
  | 0, c, _ => by
    unfold mkB gB
    constructor
    · intro h
      by_cases hc : c < 3 ^ n
      · rw [List.getElem?_replicate_of_lt hc] at h; simp at h
      · rw [List.getElem?_eq_none (by simp; omega)] at h; simp at h
    · rintro ⟨j, hj, _⟩; omega
  | i + 1, c, h => by
    have ih := mkB_gB (n := n) (M := M) (i := i) (c := c) fun j hj => h j (by omega)
    have hlen := mkB_len n M i
    have hi := h i (by omega)
    unfold gB at *
    rw [mkB]
    by_cases e : codeA (gl M i) = c
    · rw [← e, List.getElem?_set_self (by omega)]
      exact ⟨fun _ => ⟨i, by omega, rfl⟩, fun _ => rfl⟩
    · rw [List.getElem?_set_ne e, ih]
      constructor
      · rintro ⟨j, hj, hc⟩; exact ⟨j, by omega, hc⟩
      · rintro ⟨j, hj, hc⟩
        rcases Nat.lt_or_ge j i with h1 | h1
        · exact ⟨j, h1, hc⟩
        · rw [show j = i by omega] at hc; exact absurd hc e
def AllA (vars : Int) (M : List (List Int)) : Prop := ∀ i, i < M.length → clB vars (gl M i) = true
theorem nz_cl {vars : Int} {c : List Int} (h : clB vars c = true) : ∀ l ∈ c, l ≠ 0 := fun _ hl => (clB_mem h hl).2.2.2
theorem mark_mem {vars : Int} {M : List (List Int)} (hM : AllA vars M) {c : List Int} (hc : clB vars c = true) : gB (mkB vars.toNat M M.length) (codeA c) = decide (c ∈ M) := by
  rw [Bool.eq_iff_iff, mkB_gB fun j hj => codeA_cl (hM j hj), decide_eq_true_eq]
  constructor
  · rintro ⟨j, hj, e⟩
    have hj2 := hM j hj
    rw [← codeA_inj (clB_strict hj2) (clB_strict hc) (nz_cl hj2) (nz_cl hc) e]; exact gl_mem hj
  · intro h
    obtain ⟨i, hi, e⟩ := gl_ix h
    exact ⟨i, hi, by rw [e]⟩
theorem erase_cl {vars : Int} {a : List Int} (h : clB vars a = true) {i : Nat} (hi : i < a.length) : clB vars (a.eraseIdx i) = true := by
  rw [erase_wo (clB_strict h) hi]; exact wo_cl h _
theorem put_cl {vars : Int} {a : List Int} {v : Int} (h : clB vars a = true) (hv : 1 ≤ v ∧ v ≤ vars) (ho : opB a v = true) : clB vars (putL a v) = true ∧ clB vars (putL a (-v)) = true := by
  obtain ⟨h1, h2⟩ := opB_spec.1 ho
  have e1 := set_new h (l := v) (litB_spec.2 (by omega)) h1 h2
  have e2 := set_new h (l := -v) (litB_spec.2 (by omega)) h2 (by rw [Int.neg_neg]; exact h1)
  rw [set_put h1 h2] at e1
  rw [set_put h2 (by rw [Int.neg_neg]; exact h1)] at e2
  exact ⟨e1.1, e2.1⟩
theorem code_put {a : List Int} {v : Int} (hv : 1 ≤ v) : codeA (putL a v) = codeA a + 2 * 3 ^ (v - 1).toNat ∧ codeA (putL a (-v)) = codeA a + 3 ^ (v - 1).toNat := by
  have h1 := dg_pos (l := v) (by omega)
  have h2 := dg_neg (l := -v) (by omega) (by omega)
  rw [codeA_put, codeA_put, h1.1, h1.2, h2.1, h2.2, Int.neg_neg, Nat.one_mul]; exact ⟨rfl, rfl⟩
theorem cl_sm6 {vars : Int} {a : List Int} (h : clB vars a = true) : ∀ x ∈ a, -1000000 ≤ x ∧ x ≤ 1000000 := fun x hx => by have := (clB_mem h hx).2; omega
def keepA (M : List (List Int)) (a : List Int) : Bool := (List.range a.length).all fun k => decide (woS a (vr (gd a k)) ∈ M)
def keepV (M : List (List Int)) (a : List Int) (v : Int) : Bool := !(opB a v && (!decide (putL a v ∈ M) && !decide (putL a (-v) ∈ M)))
def keepsB (vars w : Int) (M : List (List Int)) (a : List Int) : Bool := keepA M a && (decide (w < (a.length : Int)) || (upL vars).all fun v => keepV M a v)
theorem keepA_f {M : List (List Int)} {a : List Int} {k : Nat} (hk : k < a.length) (h : decide (woS a (vr (gd a k)) ∈ M) = false) : keepA M a = false :=
  List.all_eq_false.2 ⟨k, List.mem_range.2 hk, by rw [h]; simp⟩
theorem keepA_t {M : List (List Int)} {a : List Int} (h : ∀ k, k < a.length → decide (woS a (vr (gd a k)) ∈ M) = true) : keepA M a = true :=
  List.all_eq_true.2 fun k hk => h k (List.mem_range.1 hk)
theorem keepV_f {vars : Int} {M : List (List Int)} {a : List Int} {v : Int} (hv : 1 ≤ v ∧ v ≤ vars) (h : keepV M a v = false) : ((upL vars).all fun v => keepV M a v) = false :=
  List.all_eq_false.2 ⟨v, mem_upL.2 hv, by rw [h]; simp⟩
theorem keepV_t {vars : Int} {M : List (List Int)} {a : List Int} (h : ∀ v, 1 ≤ v → v ≤ vars → keepV M a v = true) : ((upL vars).all fun v => keepV M a v) = true :=
  List.all_eq_true.2 fun v hv => h v (mem_upL.1 hv).1 (mem_upL.1 hv).2
theorem keepV_open {vars : Int} {M : List (List Int)} {a : List Int} (h : ∀ i, i < (opensL vars a).length → keepV M a (gd (opensL vars a) i) = true) : ((upL vars).all fun v => keepV M a v) = true :=
  keepV_t fun v h1 h2 => by
    cases ho : opB a v with
    | false => unfold keepV; rw [ho]; rfl
    | true =>
      have hm : v ∈ opensL vars a := by unfold opensL; rw [List.mem_filter]; exact ⟨mem_upL.2 ⟨h1, h2⟩, by rw [ho]; rfl⟩
      obtain ⟨j, hj, rfl⟩ := mem_gd hm
      exact h j hj
theorem opens_gd {vars : Int} {a : List Int} {i : Nat} (h : i < (opensL vars a).length) : (1 ≤ gd (opensL vars a) i ∧ gd (opensL vars a) i ≤ vars) ∧ opB a (gd (opensL vars a) i) = true := by
  have := gd_mem h
  unfold opensL at this ⊢
  rw [List.mem_filter] at this
  exact ⟨mem_upL.1 this.1, by simpa using this.2⟩
theorem opens_len {vars : Int} (h : 0 ≤ vars ∧ vars ≤ 12) (a : List Int) : (opensL vars a).length ≤ 12 := by
  have h1 : (opensL vars a).length ≤ (upL vars).length := List.length_filter_le _ _
  have h2 := upL_len h
  omega
theorem nwB_spec {vars : Int} {L : List (List Int)} {w : Int} (h : nwB vars L w = true) : cnfB vars L = true ∧ vars ≤ 6 ∧ 0 ≤ w ∧ w ≤ 6 := by
  unfold nwB at h
  simp only [Bool.and_eq_true, inR_spec, decide_eq_true_eq] at h
  exact ⟨h.1.1, h.1.2, h.2.1, h.2.2⟩
theorem nodup_le : ∀ (n : Nat) (l : List Nat), l.Nodup → (∀ x ∈ l, x < n) → l.length ≤ n
  | 0, l, _, h => by
    cases l with
    | nil => simp
    | cons x l => have := h x List.mem_cons_self; omega
  | n + 1, l, hn, h => by
    have h1 := nodup_le n (l.erase n) (hn.erase n) fun x hx => by
      have h2 := h x (List.mem_of_mem_erase hx)
      have h3 : x ≠ n := fun e => by subst e; exact (List.Nodup.not_mem_erase hn) hx
      omega
    have h4 : l.length ≤ (l.erase n).length + 1 := by rw [List.length_erase]; split <;> omega
    omega
theorem fam_len {vars : Int} {M : List (List Int)} (hv : 0 ≤ vars ∧ vars ≤ 6) (h1 : AllA vars M) (h2 : ascM M) : M.length ≤ 729 := by
  have h3 := nodup_le (3 ^ vars.toNat) ((List.range M.length).map fun i => codeA (gl M i)) (by
    rw [List.nodup_iff_pairwise_ne, List.pairwise_map]
    refine List.Pairwise.imp_of_mem (R := fun i j => i < j) ?_ List.pairwise_lt_range
    intro i j hi hj hlt he
    have hi := List.mem_range.1 hi
    have hj := List.mem_range.1 hj
    have := codeA_inj (clB_strict (h1 i hi)) (clB_strict (h1 j hj)) (nz_cl (h1 i hi)) (nz_cl (h1 j hj)) he
    have h5 := asc_at h2 hlt hj
    rw [this, bfL_irr] at h5
    simp at h5) fun x hx => by
      obtain ⟨i, hi, rfl⟩ := List.mem_map.1 hx
      exact codeA_cl (h1 i (List.mem_range.1 hi))
  rw [List.length_map, List.length_range] at h3
  have h4 : 3 ^ vars.toNat ≤ 3 ^ 6 := Nat.pow_le_pow_right (by decide) (by omega)
  omega
def aapp (L : List (List Int)) (w : Int) (R : List (List Int)) (a : List Int) : List (List Int) := if alB L w a then R ++ [a] else R
def allL (f : Int → List Int → List (List Int) → List (List Int)) (v : Int) (c : List Int) : Nat → List (List Int) → List (List Int)
 | 0, R => R
 | k + 1, R => f (v + (k : Int) + 1) (c ++ [-(v + (k : Int))]) (f (v + (k : Int) + 1) (c ++ [v + (k : Int)]) (allL f v c k R))
def allG (L : List (List Int)) (w vars : Int) : Nat → Int → List Int → List (List Int) → List (List Int)
 | 0, _, c, R => aapp L w R c
 | d + 1, v, c, R => allL (allG L w vars d) v c (vars + 1 - v).toNat (aapp L w R c)
theorem aapp_length (L : List (List Int)) (w : Int) (R : List (List Int)) (a : List Int) : (aapp L w R a).length ≤ R.length + 1 := by
 unfold aapp; split <;> simp
theorem allL_length {f : Int → List Int → List (List Int) → List (List Int)} {v : Int} {c : List Int} {n : Nat} (h : ∀ k c R, k < n → (f (v + (k : Int) + 1) c R).length ≤ R.length + 3 ^ (n - k - 1)) :
  ∀ k R, k ≤ n → (allL f v c k R).length + 3 ^ (n - k) ≤ R.length + 3 ^ n
 | 0, R, _ => by simp [allL]
 | k + 1, R, hk => by
  have ih := allL_length (c := c) h k R (by omega)
  have h1 := h k (c ++ [v + (k : Int)]) (allL f v c k R) (by omega)
  have h2 := h k (c ++ [-(v + (k : Int))]) (f (v + (k : Int) + 1) (c ++ [v + (k : Int)]) (allL f v c k R)) (by omega)
  have h3 : 3 ^ (n - k) = 3 * 3 ^ (n - k - 1) := by rw [← Nat.pow_succ']; congr 1; omega
  have h4 : n - (k + 1) = n - k - 1 := by omega
  show (f _ _ (f _ _ (allL f v c k R))).length + 3 ^ (n - (k + 1)) ≤ _
  rw [h4]; omega
theorem allG_length (L : List (List Int)) (w vars : Int) : ∀ (d : Nat) (v : Int) (c : List Int) (R : List (List Int)), (allG L w vars d v c R).length ≤ R.length + 3 ^ (vars + 1 - v).toNat
 | 0, v, c, R => by
  have := aapp_length L w R c
  have := Nat.one_le_pow (vars + 1 - v).toNat 3 (by decide)
  simp only [allG]; omega
 | d + 1, v, c, R => by
  have h := allL_length (f := allG L w vars d) (v := v) (c := c) (n := (vars + 1 - v).toNat) (fun k c R hk => by
   have := allG_length L w vars d (v + (k : Int) + 1) c R
   rw [show (vars + 1 - (v + (k : Int) + 1)).toNat = (vars + 1 - v).toNat - k - 1 by omega] at this
   exact this) (vars + 1 - v).toNat (aapp L w R c) (Nat.le_refl _)
  have := aapp_length L w R c
  rw [Nat.sub_self] at h
  simp only [allG]; omega
theorem all_bound (L : List (List Int)) (w vars : Int) (d : Nat) (v : Int) (c : List Int) (R : List (List Int)) {k : Nat} (hk : k < (vars + 1 - v).toNat) :
  (allL (allG L w vars d) v c k (aapp L w R c)).length + 3 ^ (vars + 1 - (v + (k : Int) + 1)).toNat ≤ R.length + 3 ^ (vars + 1 - v).toNat ∧
  (allG L w vars d (v + (k : Int) + 1) (c ++ [v + (k : Int)]) (allL (allG L w vars d) v c k (aapp L w R c))).length + 3 ^ (vars + 1 - (v + (k : Int) + 1)).toNat ≤ R.length + 3 ^ (vars + 1 - v).toNat := by
 have h := allL_length (f := allG L w vars d) (v := v) (c := c) (n := (vars + 1 - v).toNat) (fun k c R hk => by
  have := allG_length L w vars d (v + (k : Int) + 1) c R
  rw [show (vars + 1 - (v + (k : Int) + 1)).toNat = (vars + 1 - v).toNat - k - 1 by omega] at this
  exact this) k (aapp L w R c) (by omega)
 have h1 := aapp_length L w R c
 have h2 := allG_length L w vars d (v + (k : Int) + 1) (c ++ [v + (k : Int)]) (allL (allG L w vars d) v c k (aapp L w R c))
 rw [show (vars + 1 - (v + (k : Int) + 1)).toNat = (vars + 1 - v).toNat - k - 1 by omega] at h2 ⊢
 have h3 : 3 ^ ((vars + 1 - v).toNat - k) = 3 * 3 ^ ((vars + 1 - v).toNat - k - 1) := by rw [← Nat.pow_succ']; congr 1; omega
 have h4 := Nat.one_le_pow ((vars + 1 - v).toNat - k - 1) 3 (by decide)
 omega
end Go.Av
namespace Go.Av
open Go Go.Proofs
end Go.Av
namespace Go.Av
open Go Go.Proofs Go.Sort
theorem insertion_c (f : Nat) (hb : hasBody Tryz.prog f = true) (cf : Int → Int → Int) (hc : ∀ x y, ACall Tryz.prog f [.int .i64 x, .int .i64 y] [] (.int .i64 (cf x y)) []) (d : Array Int) (n a b : Nat) (hd : d.size = n) (hab : a ≤ b ∧ b ≤ n) (hn : n ≤ 4611686018427387904) : ACall Tryz.prog 185 [.rsl (INH, []) 1 0 n none, .int .i64 ((a : Nat) : Int), .int .i64 ((b : Nat) : Int), .fn f [] []] [.osl 1 (acells d) n none] (.tup []) [.osl 1 (acells (insertionSort (ltc cf) d a b)) n none] := by
 refine ACall.intro Tryz.func185 rfl (N := 53) rfl (by decide) (by simp) ?_
 refine aq ?_
 refine rm (.int _ _) ?_
 refine rv (v := .int _ _) (v_add il il (fun _ => by omega)) ?_
 refine ra (.int _ _) ?_
 refine r_nil ?_
 refine a_block ?_
 refine a_loop (X := (Nat × Array Int)) (fun x => look [(0, .rsl (INH, []) 1 0 n none), (1, .int .i64 ((a : Nat) : Int)), (2, .int .i64 ((b : Nat) : Int)), (3, .fn f [] []), (8, .int .i64 ((x.1 : Nat) : Int)), (INH, .osl 1 (acells x.2) n none)]) (fun x => a + 1 ≤ x.1 ∧ x.2.size = n ∧ insOuter (ltc cf) a b x.1 x.2 = insertionSort (ltc cf) d a b) (fun x => b - x.1) (a + 1, d) (ent_look ⟨wr, wr, wr, wr, Weak.of_eq (int_eq (by omega)), wr, trivial⟩) ⟨Nat.le_refl _, hd, rfl⟩ (fun x hG => ?_)
 obtain ⟨g1, g2, g3⟩ := hG
 refine a_seq ?_
 refine aq ?_
 refine rm (.int _ _) ?_
 refine rm (.int _ _) ?_
 refine rv (v := .bool _) (v_lss il il) ?_
 refine r_nil ?_
 refine a_cond rfl (fun ht14 => ?_) (fun ht14 => ?_)
 ·
  refine a_skip ?_
  refine a_seq ?_
  refine a_block ?_
  refine a_seq ?_
  have hxb : x.1 < b := (by simpa using ht14)
  refine a_region ?_
  refine rm (.int _ _) ?_
  refine ra (.int _ _) ?_
  refine r_nil ?_
  refine a_block ?_
  refine a_loop (X := (Nat × Array Int)) (fun y => look [(0, .rsl (INH, []) 1 0 n none), (1, .int .i64 ((a : Nat) : Int)), (2, .int .i64 ((b : Nat) : Int)), (3, .fn f [] []), (8, .int .i64 ((x.1 : Nat) : Int)), (9, .int .i64 ((y.1 : Nat) : Int)), (INH, .osl 1 (acells y.2) n none)]) (fun y => a ≤ y.1 ∧ y.1 ≤ x.1 ∧ y.2.size = n ∧ insInner (ltc cf) a y.1 y.2 = insInner (ltc cf) a x.1 x.2) (fun y => y.1) (x.1, x.2) (ent_look ⟨wr, wr, wr, wr, wr, wr, wr, trivial⟩) ⟨by omega, Nat.le_refl _, g2, rfl⟩ (fun y hG => ?_)
  obtain ⟨k1, k2, k3, k4⟩ := hG
  refine a_seq ?_
  refine a_seq ?_
  refine a_region_any mixed (by kernel_rfl) ?_
  refine yv (v := .int _ _) (v_move il nf) ?_
  refine yv (v := .int _ _) (v_move il nf) ?_
  refine yv (v := .bool _) (v_gtr il il) ?_
  refine yv (v := .bool _) (v_move il nf) ?_
  refine yh (v := .fn _ _ _) (v_move il nf).quiet ?_
  refine yh (v := .rsl _ _ _ _ _) (v_move il nf).quiet ?_
  refine yh (v := .int _ _) (v_move il nf).quiet ?_
  refine yg (v := .rp _ _) (v_indexAddr_rsl0 es25 (.inr ⟨_, rfl, fun h => h⟩) (.inr ⟨_, rfl, fun h => h⟩) (fun hA => by simp at hA; omega)).quiet rfl rfl rfl (by decide) (.inl ⟨_, rfl, rfl⟩) ?_
  refine yg (v := .int .i64 y.2[y.1]!) (v_load_rp1 ta3 (.inr ⟨_, rfl, fun h => h⟩) rfl (fun hA => by simp at hA; rw [Nat.mul_one]; exact acells_get (by omega)) rfl).quiet rfl rfl rfl (by decide) (.inl ⟨_, rfl, rfl⟩) ?_
  refine yh (v := .rsl _ _ _ _ _) (v_move il nf).quiet ?_
  refine yh (v := .int _ _) (v_move il nf).quiet ?_
  refine yg (v := .int _ _) (v_sub (.inr ⟨_, rfl, fun h => h⟩) il (fun hA => by simp at hA; omega)).quiet rfl rfl rfl (by decide) (.inl ⟨_, rfl, rfl⟩) ?_
  refine yg (v := .rp _ _) (v_indexAddr_rsl0 es25 (.inr ⟨_, rfl, fun h => h⟩) (.inr ⟨_, rfl, fun h => h⟩) (fun hA => by simp at hA; omega)).quiet rfl rfl rfl (by decide) (.inl ⟨_, rfl, rfl⟩) ?_
  refine yg (v := .int .i64 y.2[y.1 - 1]!) (v_load_rp1 ta3 (.inr ⟨_, rfl, fun h => h⟩) rfl (fun hA => by simp at hA; rw [show ((y.1 : Int) - 1).toNat = y.1 - 1 by omega, Nat.mul_one]; exact acells_get (by omega)) rfl).quiet rfl rfl rfl (by decide) (.inl ⟨_, rfl, rfl⟩) ?_
  refine yg (v := .int _ _) (q_clo (vs := [.int _ _, .int _ _]) (args := [.int .i64 _, .int .i64 _]) hb (.inr ⟨_, rfl, fun h => h⟩) ⟨.inr ⟨_, rfl, fun h => h⟩, .inr ⟨_, rfl, fun h => h⟩, trivial⟩ rfl (fun hA => hc _ _) rfl rfl) rfl rfl rfl (by decide) (.inl ⟨_, rfl, rfl⟩) ?_
  refine yg (v := .bool _) (v_lss (.inr ⟨_, rfl, fun h => h⟩) il).quiet rfl rfl rfl (by decide) (.inl ⟨_, rfl, rfl⟩) ?_
  refine yv (v := .bool _) (v_pick (.inl rfl) (.inr ⟨_, rfl, fun h h2 => by simp_all⟩) (.inl rfl)) ?_
  refine y_nil ?_
  refine a_cond rfl (fun ht34 => ?_) (fun ht34 => ?_)
  ·
   refine a_skip ?_
   refine a_seq ?_
   refine a_block ?_
   have hjl : a < y.1 ∧ ltc cf y.2[y.1]! y.2[y.1 - 1]! = true := (by simpa [ltc] using ht34)
   obtain ⟨hj, hl⟩ := hjl
   have hp1 : y.1 * 1 + 1 ≤ (acells y.2).length := (by rw [acells_length]; omega)
   have hp2 : (y.1 - 1) * 1 + 1 ≤ ((acells y.2).set (y.1 * 1) (.int .i64 y.2[(y.1 - 1)]!)).length := (by rw [List.length_set, acells_length]; omega)
   have hset : ((acells y.2).set (y.1 * 1) (.int .i64 y.2[(y.1 - 1)]!)).set ((y.1 - 1) * 1) (.int .i64 y.2[y.1]!) = acells (swp y.2 y.1 (y.1 - 1)) := (by rw [Nat.mul_one, Nat.mul_one]; exact acells_swp _ _ _)
   refine a_region_w [(37, true), (38, true), (39, true), (40, true), (41, true), (42, true), (43, true), (44, true), (45, true), (46, true), (47, true), (48, true), (49, true), (50, true), (51, true), (INH, false), (52, true), (INH, false)] mixed (by kernel_rfl) ?_
   refine wv (v := .rsl _ _ _ _ _) (v_move il nf) ?_
   refine wv (v := .int _ _) (v_move il nf) ?_
   refine wv (v := .rsl _ _ _ _ _) (v_move il nf) ?_
   refine wv (v := .int _ _) (v_move il nf) ?_
   refine wv (v := .int .i64 ((y.1 - 1 : Nat) : Int)) ((v_sub il il (fun _ => by omega)).cast (int_eq (by omega))) ?_
   refine wv (v := .rsl _ _ _ _ _) (v_move il nf) ?_
   refine wv (v := .int _ _) (v_move il nf) ?_
   refine wv (v := .int .i64 ((y.1 - 1 : Nat) : Int)) ((v_sub il il (fun _ => by omega)).cast (int_eq (by omega))) ?_
   refine wv (v := .rp _ _) (v_indexAddr_rsl0 es25 il il (fun _ => by omega)) ?_
   refine wv (v := .int .i64 y.2[y.1 - 1]!) (v_load_rp1 ta3 il rfl (fun _ => by rw [Nat.mul_one]; exact acells_get (by omega)) rfl) ?_
   refine wv (v := .rsl _ _ _ _ _) (v_move il nf) ?_
   refine wv (v := .int _ _) (v_move il nf) ?_
   refine wv (v := .rp _ _) (v_indexAddr_rsl0 es25 il il (fun _ => by omega)) ?_
   refine wv (v := .int .i64 y.2[y.1]!) (v_load_rp1 ta3 il rfl (fun _ => by rw [Nat.mul_one]; exact acells_get (by omega)) rfl) ?_
   refine wv (v := .rp _ _) (v_indexAddr_rsl0 es25 il il (fun _ => by omega)) ?_
   refine w_store (v := .int _ _) (y' := .osl _ _ _ _) rfl rfl rfl ta3 (.inl rfl) (.inl rfl) rfl rfl rfl rfl rfl rfl hp1 (by decide) rfl rfl rfl (by kernel_rfl) ?_
   refine wv (v := .rp _ _) (v_indexAddr_rsl0 es25 il il (fun _ => by omega)) ?_
   refine w_store (v := .int _ _) (y' := .osl _ _ _ _) rfl rfl rfl ta3 (.inl rfl) (.inl rfl) rfl rfl rfl rfl rfl rfl hp2 (by decide) rfl (congrArg (fun c => AV.osl 1 c n none) hset) rfl (by kernel_rfl) ?_
   refine w_nil ?_
   refine a_pre (ent_look (L := [(0, .rsl _ _ _ _ _), (1, .int _ _), (2, .int _ _), (3, .fn _ _ _), (8, .int _ _), (9, .int _ _), (INH, .osl _ _ _ _)]) ⟨wr, wr, wr, wr, wr, wr, wr, trivial⟩) ?_
   refine a_region ?_
   refine rm (.int _ _) ?_
   refine rv (v := .int _ _) (v_sub il il (fun _ => by omega)) ?_
   refine ra (.int _ _) ?_
   refine r_nil ?_
   refine ⟨(y.1 - 1, swp y.2 y.1 (y.1 - 1)), ent_look ⟨wr, wr, wr, wr, wr, Weak.of_eq (int_eq (by omega)), wr, trivial⟩, ⟨by omega, by omega, by rw [swp_size]; exact k3, by rw [← k4, insInner_more hj hl]⟩, by omega⟩
  ·
   refine a_exit ?_
   have hdone : insInner (ltc cf) a y.1 y.2 = y.2 := insInner_stop (by simpa [ltc] using ht34)
   refine a_region ?_
   refine rm (.int _ _) ?_
   refine rv (v := .int _ _) (v_add il il (fun _ => by omega)) ?_
   refine ra (.int _ _) ?_
   refine r_nil ?_
   refine ⟨(x.1 + 1, y.2), ent_look ⟨wr, wr, wr, wr, Weak.of_eq (int_eq (by omega)), wr, trivial⟩, ⟨by omega, k3, by rw [← g3, insOuter.eq_1 _ _ _ x.1, if_pos hxb, ← k4, hdone]⟩, by omega⟩
 ·
  refine a_exit ?_
  refine ret0_look Tryz.results185 (by decide) ?_ rfl
  exact Weak.of_eq (osl_eq (by rw [← g3, insOuter.eq_1 _ _ _ x.1, if_neg (by simpa using ht14)]))
theorem hb194 : hasBody Tryz.prog 194 = true := by kernel_rfl
theorem siftDown_c (f : Nat) (hb : hasBody Tryz.prog f = true) (cf : Int → Int → Int) (hc : ∀ x y, ACall Tryz.prog f [.int .i64 x, .int .i64 y] [] (.int .i64 (cf x y)) []) (d : Array Int) (n lo hi first : Nat) (hd : d.size = n) (hab : first + hi ≤ n ∧ lo ≤ n) (hn : n ≤ 1152921504606846976) : ACall Tryz.prog 194 [.rsl (INH, []) 1 0 n none, .int .i64 ((lo : Nat) : Int), .int .i64 ((hi : Nat) : Int), .int .i64 ((first : Nat) : Int), .fn f [] []] [.osl 1 (acells d) n none] (.tup []) [.osl 1 (acells (siftDown (ltc cf) hi first lo d)) n none] := by
 refine ACall.intro Tryz.func194 rfl (N := 82) rfl (by decide) (by simp) ?_
 refine aq ?_
 refine rm (.int _ _) ?_
 refine ra (.int _ _) ?_
 refine r_nil ?_
 refine a_block ?_
 refine a_loop (X := (Nat × Array Int)) (fun x => look [(0, .rsl (INH, []) 1 0 n none), (2, .int .i64 ((hi : Nat) : Int)), (3, .int .i64 ((first : Nat) : Int)), (4, .fn f [] []), (10, .int .i64 ((x.1 : Nat) : Int)), (INH, .osl 1 (acells x.2) n none)]) (fun x => x.1 ≤ n ∧ x.2.size = n ∧ siftDown (ltc cf) hi first x.1 x.2 = siftDown (ltc cf) hi first lo d) (fun x => hi - x.1) (lo, d) (ent_look ⟨wr, wr, wr, wr, wr, wr, trivial⟩) ⟨by omega, hd, rfl⟩ (fun x hG => ?_)
 obtain ⟨g1, g2, g3⟩ := hG
 refine a_block ?_
 refine aq ?_
 refine rm (.int _ _) ?_
 refine rv (v := .int _ _) (v_mul il il (fun _ => by omega)) ?_
 refine rv (v := .int .i64 ((2 * x.1 + 1 : Nat) : Int)) ((v_add il il (fun _ => by omega)).cast (int_eq (by omega))) ?_
 refine ra (.int _ _) ?_
 refine r_nil ?_
 refine a_seq ?_
 refine aq ?_
 refine rm (.int _ _) ?_
 refine rm (.int _ _) ?_
 refine rv (v := .bool _) (v_geq il il) ?_
 refine r_nil ?_
 refine a_cond rfl (fun ht18 => ?_) (fun ht18 => ?_)
 ·
  refine a_exit ?_
  refine ret0_look Tryz.results194 (by decide) ?_ rfl
  exact Weak.of_eq (osl_eq (by rw [← g3, sift_end (by simp at ht18; omega)]))
 ·
  refine a_skip ?_
  refine a_seq ?_
  refine a_seq ?_
  have hch : 2 * x.1 + 1 < hi := (by simp at ht18; omega)
  have hcb := chi_bd (lt := ltc cf) (hi := hi) (first := first) (r := x.1) (d := x.2) hch
  refine a_region_any mixed (by kernel_rfl) ?_
  refine yv (v := .int _ _) (v_move il nf) ?_
  refine yv (v := .int _ _) (v_add il il (fun _ => by omega)) ?_
  refine yv (v := .int _ _) (v_move il nf) ?_
  refine yv (v := .bool _) (v_lss il il) ?_
  refine yv (v := .bool _) (v_move il nf) ?_
  refine yh (v := .fn _ _ _) (v_move il nf).quiet ?_
  refine yh (v := .rsl _ _ _ _ _) (v_move il nf).quiet ?_
  refine yh (v := .int _ _) (v_move il nf).quiet ?_
  refine yh (v := .int _ _) (v_move il nf).quiet ?_
  refine yg (v := .int .i64 ((first + (2 * x.1 + 1) : Nat) : Int)) ((v_add (.inr ⟨_, rfl, fun h => h⟩) (.inr ⟨_, rfl, fun h => h⟩) (fun _ => by omega)).cast (int_eq (by omega))).quiet rfl rfl rfl (by decide) (.inl ⟨_, rfl, rfl⟩) ?_
  refine yg (v := .rp _ _) (v_indexAddr_rsl0 es25 (.inr ⟨_, rfl, fun h => h⟩) (.inr ⟨_, rfl, fun h => h⟩) (fun hA => by simp at hA; omega)).quiet rfl rfl rfl (by decide) (.inl ⟨_, rfl, rfl⟩) ?_
  refine yg (v := .int .i64 x.2[first + (2 * x.1 + 1)]!) (v_load_rp1 ta3 (.inr ⟨_, rfl, fun h => h⟩) rfl (fun _ => by rw [Nat.mul_one]; exact acells_get (by omega)) rfl).quiet rfl rfl rfl (by decide) (.inl ⟨_, rfl, rfl⟩) ?_
  refine yh (v := .rsl _ _ _ _ _) (v_move il nf).quiet ?_
  refine yh (v := .int _ _) (v_move il nf).quiet ?_
  refine yh (v := .int _ _) (v_move il nf).quiet ?_
  refine yg (v := .int _ _) (v_add (.inr ⟨_, rfl, fun h => h⟩) (.inr ⟨_, rfl, fun h => h⟩) (fun _ => by omega)).quiet rfl rfl rfl (by decide) (.inl ⟨_, rfl, rfl⟩) ?_
  refine yg (v := .int .i64 ((first + (2 * x.1 + 1) + 1 : Nat) : Int)) ((v_add (.inr ⟨_, rfl, fun h => h⟩) il (fun _ => by omega)).cast (int_eq (by omega))).quiet rfl rfl rfl (by decide) (.inl ⟨_, rfl, rfl⟩) ?_
  refine yg (v := .rp _ _) (v_indexAddr_rsl0 es25 (.inr ⟨_, rfl, fun h => h⟩) (.inr ⟨_, rfl, fun h => h⟩) (fun hA => by simp at hA; omega)).quiet rfl rfl rfl (by decide) (.inl ⟨_, rfl, rfl⟩) ?_
  refine yg (v := .int .i64 x.2[first + (2 * x.1 + 1) + 1]!) (v_load_rp1 ta3 (.inr ⟨_, rfl, fun h => h⟩) rfl (fun hA => by simp at hA; rw [Nat.mul_one]; exact acells_get (by omega)) rfl).quiet rfl rfl rfl (by decide) (.inl ⟨_, rfl, rfl⟩) ?_
  refine yg (v := .int _ _) (q_clo (vs := [.int _ _, .int _ _]) (args := [.int .i64 _, .int .i64 _]) hb (.inr ⟨_, rfl, fun h => h⟩) ⟨.inr ⟨_, rfl, fun h => h⟩, .inr ⟨_, rfl, fun h => h⟩, trivial⟩ rfl (fun hA => hc _ _) rfl rfl) rfl rfl rfl (by decide) (.inl ⟨_, rfl, rfl⟩) ?_
  refine yg (v := .bool _) (v_lss (.inr ⟨_, rfl, fun h => h⟩) il).quiet rfl rfl rfl (by decide) (.inl ⟨_, rfl, rfl⟩) ?_
  refine yv (v := .bool _) (v_pick (.inl rfl) (.inr ⟨_, rfl, fun h h2 => by simp_all⟩) (.inl rfl)) ?_
  refine y_nil ?_
  refine a_cond rfl (fun ht40 => ?_) (fun ht40 => ?_)
  ·
   refine a_pre (ent_look (L := [(0, .rsl _ _ _ _ _), (2, .int _ _), (3, .int _ _), (4, .fn _ _ _), (10, .int _ _), (11, .int _ _), (INH, .osl _ _ _ _)]) ⟨wr, wr, wr, wr, wr, wr, wr, trivial⟩) ?_
   refine a_region ?_
   refine rm (.int _ _) ?_
   refine rv (v := .int .i64 ((2 * x.1 + 2 : Nat) : Int)) ((v_add il il (fun _ => by omega)).cast (int_eq (by omega))) ?_
   refine ra (.int _ _) ?_
   refine r_nil ?_
   refine a_seq ?_
   refine a_seq ?_
   have hcc : (decide (2 * x.1 + 1 + 1 < hi) && ltc cf x.2[first + (2 * x.1 + 1)]! x.2[first + (2 * x.1 + 1) + 1]!) = (bif decide (((2 * x.1 + 1 : Nat) : Int) + 1 < (hi : Int)) then decide (cf x.2[first + (2 * x.1 + 1)]! x.2[first + (2 * x.1 + 1) + 1]! < 0) else false) := (by rw [decide_eq_decide.2 (show 2 * x.1 + 1 + 1 < hi ↔ ((2 * x.1 + 1 : Nat) : Int) + 1 < (hi : Int) by omega)]; cases decide (((2 * x.1 + 1 : Nat) : Int) + 1 < (hi : Int)) <;> rfl)
   refine a_pre (ent_eq (t := 11) (v' := .int .i64 (((chi (ltc cf) hi first x.1 x.2) : Nat) : Int)) (Weak.of_eq (int_eq (by unfold chi; first | (rw [if_pos (by rw [hcc]; exact ht40)]; done) | (rw [if_neg (by rw [hcc, ht40]; decide)])))) ) ?_
   have hsw := sift_eq (lt := ltc cf) (hi := hi) (first := first) (r := x.1) (d := x.2) hch
   refine a_region_any mixed (by kernel_rfl) ?_
   refine yv (v := .fn _ _ _) (v_mv rfl) ?_
   refine yv (v := .rsl _ _ _ _ _) (v_move il nf) ?_
   refine yv (v := .int _ _) (v_move il nf) ?_
   refine yv (v := .int _ _) (v_move il nf) ?_
   refine yv (v := .int .i64 ((first + x.1 : Nat) : Int)) ((v_add il il (fun _ => by omega)).cast (int_eq (by omega))) ?_
   refine yv (v := .rp _ _) (v_indexAddr_rsl0 es25 il il (fun _ => by omega)) ?_
   refine yv (v := .int .i64 x.2[first + x.1]!) (v_load_rp1 ta3 il rfl (fun _ => by rw [Nat.mul_one]; exact acells_get (by omega)) rfl) ?_
   refine yv (v := .rsl _ _ _ _ _) (v_move il nf) ?_
   refine yv (v := .int _ _) (v_move il nf) ?_
   refine yv (v := .int _ _) (v_move il nf) ?_
   refine yv (v := .int .i64 ((first + (chi (ltc cf) hi first x.1 x.2) : Nat) : Int)) ((v_add il il (fun _ => by omega)).cast (int_eq (by omega))) ?_
   refine yv (v := .rp _ _) (v_indexAddr_rsl0 es25 il il (fun _ => by omega)) ?_
   refine yv (v := .int .i64 x.2[first + (chi (ltc cf) hi first x.1 x.2)]!) (v_load_rp1 ta3 il rfl (fun _ => by rw [Nat.mul_one]; exact acells_get (by omega)) rfl) ?_
   refine y_new (v := .int _ _) (q_clo (vs := [.int _ _, .int _ _]) (args := [.int .i64 _, .int .i64 _]) hb (.inl rfl) ⟨.inl rfl, .inl rfl, trivial⟩ rfl (fun hA => hc _ _) rfl rfl) rfl rfl (by decide) (by kernel_rfl) ?_
   refine yv (v := .bool _) (v_lss il il) ?_
   refine yv (v := .bool _) (v_not il) ?_
   refine y_nil ?_
   refine a_cond rfl (fun ht58 => ?_) (fun ht58 => ?_)
   ·
    refine a_ret ?_
    refine ret0_look Tryz.results194 (by decide) ?_ rfl
    exact Weak.of_eq (osl_eq (by rw [← g3, hsw, if_neg (by simpa [ltc] using ht58)]))
   ·
    refine a_skip ?_
    refine a_seq ?_
    have hl : ltc cf x.2[first + x.1]! x.2[first + (chi (ltc cf) hi first x.1 x.2)]! = true := (by simpa [ltc] using ht58)
    have hp1 : (first + x.1) * 1 + 1 ≤ (acells x.2).length := (by rw [acells_length]; omega)
    have hp2 : (first + (chi (ltc cf) hi first x.1 x.2)) * 1 + 1 ≤ ((acells x.2).set ((first + x.1) * 1) (.int .i64 x.2[(first + (chi (ltc cf) hi first x.1 x.2))]!)).length := (by rw [List.length_set, acells_length]; omega)
    have hset : ((acells x.2).set ((first + x.1) * 1) (.int .i64 x.2[(first + (chi (ltc cf) hi first x.1 x.2))]!)).set ((first + (chi (ltc cf) hi first x.1 x.2)) * 1) (.int .i64 x.2[(first + x.1)]!) = acells (swp x.2 (first + x.1) (first + (chi (ltc cf) hi first x.1 x.2))) := (by rw [Nat.mul_one, Nat.mul_one]; exact acells_swp _ _ _)
    refine a_region_w [(59, true), (60, true), (61, true), (62, true), (63, true), (64, true), (65, true), (66, true), (67, true), (68, true), (69, true), (70, true), (71, true), (72, true), (73, true), (74, true), (75, true), (76, true), (77, true), (78, true), (79, true), (INH, false), (80, true), (INH, false)] mixed (by kernel_rfl) ?_
    refine wv (v := .rsl _ _ _ _ _) (v_move il nf) ?_
    refine wv (v := .int _ _) (v_move il nf) ?_
    refine wv (v := .int _ _) (v_move il nf) ?_
    refine wv (v := .int .i64 ((first + x.1 : Nat) : Int)) ((v_add il il (fun _ => by omega)).cast (int_eq (by omega))) ?_
    refine wv (v := .rsl _ _ _ _ _) (v_move il nf) ?_
    refine wv (v := .int _ _) (v_move il nf) ?_
    refine wv (v := .int _ _) (v_move il nf) ?_
    refine wv (v := .int .i64 ((first + (chi (ltc cf) hi first x.1 x.2) : Nat) : Int)) ((v_add il il (fun _ => by omega)).cast (int_eq (by omega))) ?_
    refine wv (v := .rsl _ _ _ _ _) (v_move il nf) ?_
    refine wv (v := .int _ _) (v_move il nf) ?_
    refine wv (v := .int _ _) (v_move il nf) ?_
    refine wv (v := .int .i64 ((first + (chi (ltc cf) hi first x.1 x.2) : Nat) : Int)) ((v_add il il (fun _ => by omega)).cast (int_eq (by omega))) ?_
    refine wv (v := .rp _ _) (v_indexAddr_rsl0 es25 il il (fun _ => by omega)) ?_
    refine wv (v := .int .i64 x.2[first + (chi (ltc cf) hi first x.1 x.2)]!) (v_load_rp1 ta3 il rfl (fun _ => by rw [Nat.mul_one]; exact acells_get (by omega)) rfl) ?_
    refine wv (v := .rsl _ _ _ _ _) (v_move il nf) ?_
    refine wv (v := .int _ _) (v_move il nf) ?_
    refine wv (v := .int _ _) (v_move il nf) ?_
    refine wv (v := .int .i64 ((first + x.1 : Nat) : Int)) ((v_add il il (fun _ => by omega)).cast (int_eq (by omega))) ?_
    refine wv (v := .rp _ _) (v_indexAddr_rsl0 es25 il il (fun _ => by omega)) ?_
    refine wv (v := .int .i64 x.2[first + x.1]!) (v_load_rp1 ta3 il rfl (fun _ => by rw [Nat.mul_one]; exact acells_get (by omega)) rfl) ?_
    refine wv (v := .rp _ _) (v_indexAddr_rsl0 es25 il il (fun _ => by omega)) ?_
    refine w_store (v := .int _ _) (y' := .osl _ _ _ _) rfl rfl rfl ta3 (.inl rfl) (.inl rfl) rfl rfl rfl rfl rfl rfl hp1 (by decide) rfl rfl rfl (by kernel_rfl) ?_
    refine wv (v := .rp _ _) (v_indexAddr_rsl0 es25 il il (fun _ => by omega)) ?_
    refine w_store (v := .int _ _) (y' := .osl _ _ _ _) rfl rfl rfl ta3 (.inl rfl) (.inl rfl) rfl rfl rfl rfl rfl rfl hp2 (by decide) rfl (congrArg (fun c => AV.osl 1 c n none) hset) rfl (by kernel_rfl) ?_
    refine w_nil ?_
    refine a_pre (ent_look (L := [(0, .rsl _ _ _ _ _), (2, .int _ _), (3, .int _ _), (4, .fn _ _ _), (10, .int _ _), (11, .int _ _), (INH, .osl _ _ _ _)]) ⟨wr, wr, wr, wr, wr, wr, wr, trivial⟩) ?_
    refine a_region ?_
    refine rm (.int _ _) ?_
    refine ra (.int _ _) ?_
    refine r_nil ?_
    refine ⟨((chi (ltc cf) hi first x.1 x.2), swp x.2 (first + x.1) (first + (chi (ltc cf) hi first x.1 x.2))), ent_look ⟨wr, wr, wr, wr, wr, wr, trivial⟩, ⟨by omega, by rw [swp_size]; exact g2, by rw [← g3, sift_eq (r := x.1) (by omega), if_pos hl]⟩, by dsimp only; omega⟩
  ·
   refine a_skip ?_
   refine a_seq ?_
   refine a_seq ?_
   refine a_pre (ent_look (L := [(0, .rsl _ _ _ _ _), (2, .int _ _), (3, .int _ _), (4, .fn _ _ _), (10, .int _ _), (11, .int _ _), (INH, .osl _ _ _ _)]) ⟨wr, wr, wr, wr, wr, wr, wr, trivial⟩) ?_
   have hcc : (decide (2 * x.1 + 1 + 1 < hi) && ltc cf x.2[first + (2 * x.1 + 1)]! x.2[first + (2 * x.1 + 1) + 1]!) = (bif decide (((2 * x.1 + 1 : Nat) : Int) + 1 < (hi : Int)) then decide (cf x.2[first + (2 * x.1 + 1)]! x.2[first + (2 * x.1 + 1) + 1]! < 0) else false) := (by rw [decide_eq_decide.2 (show 2 * x.1 + 1 + 1 < hi ↔ ((2 * x.1 + 1 : Nat) : Int) + 1 < (hi : Int) by omega)]; cases decide (((2 * x.1 + 1 : Nat) : Int) + 1 < (hi : Int)) <;> rfl)
   refine a_pre (ent_eq (t := 11) (v' := .int .i64 (((chi (ltc cf) hi first x.1 x.2) : Nat) : Int)) (Weak.of_eq (int_eq (by unfold chi; first | (rw [if_pos (by rw [hcc]; exact ht40)]; done) | (rw [if_neg (by rw [hcc, ht40]; decide)])))) ) ?_
   have hsw := sift_eq (lt := ltc cf) (hi := hi) (first := first) (r := x.1) (d := x.2) hch
   refine a_region_any mixed (by kernel_rfl) ?_
   refine yv (v := .fn _ _ _) (v_mv rfl) ?_
   refine yv (v := .rsl _ _ _ _ _) (v_move il nf) ?_
   refine yv (v := .int _ _) (v_move il nf) ?_
   refine yv (v := .int _ _) (v_move il nf) ?_
   refine yv (v := .int .i64 ((first + x.1 : Nat) : Int)) ((v_add il il (fun _ => by omega)).cast (int_eq (by omega))) ?_
   refine yv (v := .rp _ _) (v_indexAddr_rsl0 es25 il il (fun _ => by omega)) ?_
   refine yv (v := .int .i64 x.2[first + x.1]!) (v_load_rp1 ta3 il rfl (fun _ => by rw [Nat.mul_one]; exact acells_get (by omega)) rfl) ?_
   refine yv (v := .rsl _ _ _ _ _) (v_move il nf) ?_
   refine yv (v := .int _ _) (v_move il nf) ?_
   refine yv (v := .int _ _) (v_move il nf) ?_
   refine yv (v := .int .i64 ((first + (chi (ltc cf) hi first x.1 x.2) : Nat) : Int)) ((v_add il il (fun _ => by omega)).cast (int_eq (by omega))) ?_
   refine yv (v := .rp _ _) (v_indexAddr_rsl0 es25 il il (fun _ => by omega)) ?_
   refine yv (v := .int .i64 x.2[first + (chi (ltc cf) hi first x.1 x.2)]!) (v_load_rp1 ta3 il rfl (fun _ => by rw [Nat.mul_one]; exact acells_get (by omega)) rfl) ?_
   refine y_new (v := .int _ _) (q_clo (vs := [.int _ _, .int _ _]) (args := [.int .i64 _, .int .i64 _]) hb (.inl rfl) ⟨.inl rfl, .inl rfl, trivial⟩ rfl (fun hA => hc _ _) rfl rfl) rfl rfl (by decide) (by kernel_rfl) ?_
   refine yv (v := .bool _) (v_lss il il) ?_
   refine yv (v := .bool _) (v_not il) ?_
   refine y_nil ?_
   refine a_cond rfl (fun ht58 => ?_) (fun ht58 => ?_)
   ·
    refine a_ret ?_
    refine ret0_look Tryz.results194 (by decide) ?_ rfl
    exact Weak.of_eq (osl_eq (by rw [← g3, hsw, if_neg (by simpa [ltc] using ht58)]))
   ·
    refine a_skip ?_
    refine a_seq ?_
    have hl : ltc cf x.2[first + x.1]! x.2[first + (chi (ltc cf) hi first x.1 x.2)]! = true := (by simpa [ltc] using ht58)
    have hp1 : (first + x.1) * 1 + 1 ≤ (acells x.2).length := (by rw [acells_length]; omega)
    have hp2 : (first + (chi (ltc cf) hi first x.1 x.2)) * 1 + 1 ≤ ((acells x.2).set ((first + x.1) * 1) (.int .i64 x.2[(first + (chi (ltc cf) hi first x.1 x.2))]!)).length := (by rw [List.length_set, acells_length]; omega)
    have hset : ((acells x.2).set ((first + x.1) * 1) (.int .i64 x.2[(first + (chi (ltc cf) hi first x.1 x.2))]!)).set ((first + (chi (ltc cf) hi first x.1 x.2)) * 1) (.int .i64 x.2[(first + x.1)]!) = acells (swp x.2 (first + x.1) (first + (chi (ltc cf) hi first x.1 x.2))) := (by rw [Nat.mul_one, Nat.mul_one]; exact acells_swp _ _ _)
    refine a_region_w [(59, true), (60, true), (61, true), (62, true), (63, true), (64, true), (65, true), (66, true), (67, true), (68, true), (69, true), (70, true), (71, true), (72, true), (73, true), (74, true), (75, true), (76, true), (77, true), (78, true), (79, true), (INH, false), (80, true), (INH, false)] mixed (by kernel_rfl) ?_
    refine wv (v := .rsl _ _ _ _ _) (v_move il nf) ?_
    refine wv (v := .int _ _) (v_move il nf) ?_
    refine wv (v := .int _ _) (v_move il nf) ?_
    refine wv (v := .int .i64 ((first + x.1 : Nat) : Int)) ((v_add il il (fun _ => by omega)).cast (int_eq (by omega))) ?_
    refine wv (v := .rsl _ _ _ _ _) (v_move il nf) ?_
    refine wv (v := .int _ _) (v_move il nf) ?_
    refine wv (v := .int _ _) (v_move il nf) ?_
    refine wv (v := .int .i64 ((first + (chi (ltc cf) hi first x.1 x.2) : Nat) : Int)) ((v_add il il (fun _ => by omega)).cast (int_eq (by omega))) ?_
    refine wv (v := .rsl _ _ _ _ _) (v_move il nf) ?_
    refine wv (v := .int _ _) (v_move il nf) ?_
    refine wv (v := .int _ _) (v_move il nf) ?_
    refine wv (v := .int .i64 ((first + (chi (ltc cf) hi first x.1 x.2) : Nat) : Int)) ((v_add il il (fun _ => by omega)).cast (int_eq (by omega))) ?_
    refine wv (v := .rp _ _) (v_indexAddr_rsl0 es25 il il (fun _ => by omega)) ?_
    refine wv (v := .int .i64 x.2[first + (chi (ltc cf) hi first x.1 x.2)]!) (v_load_rp1 ta3 il rfl (fun _ => by rw [Nat.mul_one]; exact acells_get (by omega)) rfl) ?_
    refine wv (v := .rsl _ _ _ _ _) (v_move il nf) ?_
    refine wv (v := .int _ _) (v_move il nf) ?_
    refine wv (v := .int _ _) (v_move il nf) ?_
    refine wv (v := .int .i64 ((first + x.1 : Nat) : Int)) ((v_add il il (fun _ => by omega)).cast (int_eq (by omega))) ?_
    refine wv (v := .rp _ _) (v_indexAddr_rsl0 es25 il il (fun _ => by omega)) ?_
    refine wv (v := .int .i64 x.2[first + x.1]!) (v_load_rp1 ta3 il rfl (fun _ => by rw [Nat.mul_one]; exact acells_get (by omega)) rfl) ?_
    refine wv (v := .rp _ _) (v_indexAddr_rsl0 es25 il il (fun _ => by omega)) ?_
    refine w_store (v := .int _ _) (y' := .osl _ _ _ _) rfl rfl rfl ta3 (.inl rfl) (.inl rfl) rfl rfl rfl rfl rfl rfl hp1 (by decide) rfl rfl rfl (by kernel_rfl) ?_
    refine wv (v := .rp _ _) (v_indexAddr_rsl0 es25 il il (fun _ => by omega)) ?_
    refine w_store (v := .int _ _) (y' := .osl _ _ _ _) rfl rfl rfl ta3 (.inl rfl) (.inl rfl) rfl rfl rfl rfl rfl rfl hp2 (by decide) rfl (congrArg (fun c => AV.osl 1 c n none) hset) rfl (by kernel_rfl) ?_
    refine w_nil ?_
    refine a_pre (ent_look (L := [(0, .rsl _ _ _ _ _), (2, .int _ _), (3, .int _ _), (4, .fn _ _ _), (10, .int _ _), (11, .int _ _), (INH, .osl _ _ _ _)]) ⟨wr, wr, wr, wr, wr, wr, wr, trivial⟩) ?_
    refine a_region ?_
    refine rm (.int _ _) ?_
    refine ra (.int _ _) ?_
    refine r_nil ?_
    refine ⟨((chi (ltc cf) hi first x.1 x.2), swp x.2 (first + x.1) (first + (chi (ltc cf) hi first x.1 x.2))), ent_look ⟨wr, wr, wr, wr, wr, wr, trivial⟩, ⟨by omega, by rw [swp_size]; exact g2, by rw [← g3, sift_eq (r := x.1) (by omega), if_pos hl]⟩, by dsimp only; omega⟩
theorem reverse_c (f : Nat) (d : Array Int) (n a b : Nat) (hd : d.size = n) (hab : a < b ∧ b ≤ n) (hn : n ≤ 1152921504606846976) : ACall Tryz.prog 189 [.rsl (INH, []) 1 0 n none, .int .i64 ((a : Nat) : Int), .int .i64 ((b : Nat) : Int), .fn f [] []] [.osl 1 (acells d) n none] (.tup []) [.osl 1 (acells (reverseRange d a b)) n none] := by
 refine ACall.intro Tryz.func189 rfl (N := 34) rfl (by decide) (by simp) ?_
 refine aq ?_
 refine rm (.int _ _) ?_
 refine ra (.int _ _) ?_
 refine r_nil ?_
 refine aq ?_
 refine rm (.int _ _) ?_
 refine rv (v := .int _ _) (v_sub il il (fun _ => by omega)) ?_
 refine ra (.int _ _) ?_
 refine r_nil ?_
 refine a_block ?_
 refine a_loop (X := (Nat × Nat × Array Int)) (fun x => look [(0, .rsl (INH, []) 1 0 n none), (8, .int .i64 ((x.1 : Nat) : Int)), (9, .int .i64 ((x.2.1 : Nat) : Int)), (INH, .osl 1 (acells x.2.2) n none)]) (fun x => x.1 ≤ n ∧ x.2.1 < n ∧ x.2.2.size = n ∧ reverseLoop x.1 x.2.1 x.2.2 = reverseRange d a b) (fun x => x.2.1 - x.1) (a, b - 1, d) (ent_look ⟨wr, wr, Weak.of_eq (int_eq (by dsimp only; omega)), wr, trivial⟩) ⟨by omega, by dsimp only; omega, hd, rfl⟩ (fun x hG => ?_)
 obtain ⟨g1, g2, g3, g4⟩ := hG
 refine a_seq ?_
 refine aq ?_
 refine rm (.int _ _) ?_
 refine rm (.int _ _) ?_
 refine rv (v := .bool _) (v_lss il il) ?_
 refine r_nil ?_
 refine a_cond rfl (fun ht15 => ?_) (fun ht15 => ?_)
 ·
  refine a_skip ?_
  refine a_block ?_
  refine a_seq ?_
  have hij : x.1 < x.2.1 := (by simpa using ht15)
  have hp1 : x.1 * 1 + 1 ≤ (acells x.2.2).length := (by rw [acells_length]; omega)
  have hp2 : x.2.1 * 1 + 1 ≤ ((acells x.2.2).set (x.1 * 1) (.int .i64 x.2.2[x.2.1]!)).length := (by rw [List.length_set, acells_length]; omega)
  have hset : ((acells x.2.2).set (x.1 * 1) (.int .i64 x.2.2[x.2.1]!)).set (x.2.1 * 1) (.int .i64 x.2.2[x.1]!) = acells (swp x.2.2 x.1 x.2.1) := (by rw [Nat.mul_one, Nat.mul_one]; exact acells_swp _ _ _)
  refine a_region_w [(16, true), (17, true), (18, true), (19, true), (20, true), (21, true), (22, true), (23, true), (24, true), (25, true), (26, true), (27, true), (28, true), (INH, false), (29, true), (INH, false)] mixed (by kernel_rfl) ?_
  refine wv (v := .rsl _ _ _ _ _) (v_move il nf) ?_
  refine wv (v := .int _ _) (v_move il nf) ?_
  refine wv (v := .rsl _ _ _ _ _) (v_move il nf) ?_
  refine wv (v := .int _ _) (v_move il nf) ?_
  refine wv (v := .rsl _ _ _ _ _) (v_move il nf) ?_
  refine wv (v := .int _ _) (v_move il nf) ?_
  refine wv (v := .rp _ _) (v_indexAddr_rsl0 es25 il il (fun _ => by omega)) ?_
  refine wv (v := .int .i64 x.2.2[x.2.1]!) (v_load_rp1 ta3 il rfl (fun _ => by rw [Nat.mul_one]; exact acells_get (by omega)) rfl) ?_
  refine wv (v := .rsl _ _ _ _ _) (v_move il nf) ?_
  refine wv (v := .int _ _) (v_move il nf) ?_
  refine wv (v := .rp _ _) (v_indexAddr_rsl0 es25 il il (fun _ => by omega)) ?_
  refine wv (v := .int .i64 x.2.2[x.1]!) (v_load_rp1 ta3 il rfl (fun _ => by rw [Nat.mul_one]; exact acells_get (by omega)) rfl) ?_
  refine wv (v := .rp _ _) (v_indexAddr_rsl0 es25 il il (fun _ => by omega)) ?_
  refine w_store (v := .int _ _) (y' := .osl _ _ _ _) rfl rfl rfl ta3 (.inl rfl) (.inl rfl) rfl rfl rfl rfl rfl rfl hp1 (by decide) rfl rfl rfl (by kernel_rfl) ?_
  refine wv (v := .rp _ _) (v_indexAddr_rsl0 es25 il il (fun _ => by omega)) ?_
  refine w_store (v := .int _ _) (y' := .osl _ _ _ _) rfl rfl rfl ta3 (.inl rfl) (.inl rfl) rfl rfl rfl rfl rfl rfl hp2 (by decide) rfl (congrArg (fun c => AV.osl 1 c n none) hset) rfl (by kernel_rfl) ?_
  refine w_nil ?_
  refine aq ?_
  refine rm (.int _ _) ?_
  refine rv (v := .int _ _) (v_add il il (fun _ => by omega)) ?_
  refine ra (.int _ _) ?_
  refine r_nil ?_
  refine a_region ?_
  refine rm (.int _ _) ?_
  refine rv (v := .int _ _) (v_sub il il (fun _ => by omega)) ?_
  refine ra (.int _ _) ?_
  refine r_nil ?_
  refine ⟨(x.1 + 1, x.2.1 - 1, swp x.2.2 x.1 x.2.1), ent_look ⟨wr, Weak.of_eq (int_eq (by omega)), Weak.of_eq (int_eq (by dsimp only; omega)), wr, trivial⟩, ⟨by dsimp only; omega, by dsimp only; omega, by rw [swp_size]; exact g3, by rw [← g4, reverse_more (i := x.1) hij]⟩, by dsimp only; omega⟩
 ·
  refine a_exit ?_
  refine ret0_look Tryz.results189 (by decide) ?_ rfl
  exact Weak.of_eq (osl_eq (by rw [← g4, reverse_end (by simpa using ht15)]))
theorem heapSort_c (f : Nat) (hb : hasBody Tryz.prog f = true) (cf : Int → Int → Int) (hc : ∀ x y, ACall Tryz.prog f [.int .i64 x, .int .i64 y] [] (.int .i64 (cf x y)) []) (d : Array Int) (n a b : Nat) (hd : d.size = n) (hab : a < b ∧ b ≤ n) (hn : n ≤ 1152921504606846976) : ACall Tryz.prog 186 [.rsl (INH, []) 1 0 n none, .int .i64 ((a : Nat) : Int), .int .i64 ((b : Nat) : Int), .fn f [] []] [.osl 1 (acells d) n none] (.tup []) [.osl 1 (acells (heapSort (ltc cf) d a b)) n none] := by
 refine ACall.intro Tryz.func186 rfl (N := 60) rfl (by decide) (by simp) ?_
 refine aq ?_
 refine rm (.int _ _) ?_
 refine ra (.int _ _) ?_
 refine r_nil ?_
 refine aq ?_
 refine ra (.int _ _) ?_
 refine r_nil ?_
 refine aq ?_
 refine rm (.int _ _) ?_
 refine rm (.int _ _) ?_
 refine rv (v := .int .i64 ((b - a : Nat) : Int)) ((v_sub il il (fun _ => by omega)).cast (int_eq (by omega))) ?_
 refine ra (.int _ _) ?_
 refine r_nil ?_
 refine a_seq ?_
 refine aq ?_
 refine rm (.int _ _) ?_
 refine rv (v := .int _ _) (v_sub il il (fun _ => by omega)) ?_
 refine rv (v := .int _ _) (v_quo il il (fun _ => by omega)) ?_
 refine ra (.int _ _) ?_
 refine r_nil ?_
 refine a_block ?_
 refine a_loop (X := (Nat × Array Int)) (fun x => look [(0, .rsl (INH, []) 1 0 n none), (3, .fn f [] []), (8, .int .i64 ((a : Nat) : Int)), (9, .int .i64 0), (10, .int .i64 ((b - a : Nat) : Int)), (11, .int .i64 ((x.1 : Nat) - 1 : Int)), (INH, .osl 1 (acells x.2) n none)]) (fun x => x.1 ≤ n ∧ x.2.size = n ∧ heapBuild (ltc cf) (b - a) a x.1 x.2 = heapBuild (ltc cf) (b - a) a ((b - a - 1) / 2 + 1) d) (fun x => x.1) ((b - a - 1) / 2 + 1, d) (ent_look ⟨wr, wr, wr, wr, wr, Weak.of_eq (int_eq (by omega)), wr, trivial⟩) ⟨by dsimp only; omega, hd, rfl⟩ (fun x hG => ?_)
 obtain ⟨g1, g2, g3⟩ := hG
 refine a_seq ?_
 refine aq ?_
 refine rm (.int _ _) ?_
 refine rv (v := .bool _) (v_geq il il) ?_
 refine r_nil ?_
 refine a_cond rfl (fun ht21 => ?_) (fun ht21 => ?_)
 ·
  refine a_skip ?_
  refine a_seq ?_
  refine a_block ?_
  have hx1 : 1 ≤ x.1 := (by simp at ht21; omega)
  refine a_region ?_
  refine rm (.rsl _ _ _ _ _) ?_
  refine rv (v := .int .i64 ((x.1 - 1 : Nat) : Int)) ((v_move il nf).cast (int_eq (by omega))) ?_
  refine rm (.int _ _) ?_
  refine rm (.int _ _) ?_
  refine rv (v := .fn _ _ _) (v_mv rfl) ?_
  refine r_step rfl (o_callIOk (q := (INH, [])) (vs := [.rsl _ _ _ _ _, .int _ _, .int _ _, .int _ _, .fn _ _ _]) (args := [.rsl (INH, []) _ _ _ _, .int .i64 _, .int .i64 _, .int .i64 _, .fn _ _ _]) (x0 := .osl _ _ _ _) (x1 := .osl _ _ _ _) (res := .tup []) rfl hb194 rfl (by decide) ⟨.inl rfl, .inl rfl, .inl rfl, .inl rfl, .inl rfl, trivial⟩ rfl rfl (siftDown_c f hb cf hc x.2 n (x.1 - 1) (b - a) a g2 (by omega) hn) (by simp [stays]; omega) rfl rfl rfl (ac_noSh _) (ac_noRef _) (Nat.le_of_ble_eq_true rfl) (by decide) rfl) ?_
  refine r_nil ?_
  refine a_region ?_
  refine rm (.int _ _) ?_
  refine rv (v := .int _ _) (v_sub il il (fun _ => by omega)) ?_
  refine ra (.int _ _) ?_
  refine r_nil ?_
  refine ⟨(x.1 - 1, siftDown (ltc cf) (b - a) a (x.1 - 1) x.2), ent_look ⟨wr, wr, wr, wr, wr, Weak.of_eq (int_eq (by omega)), wr, trivial⟩, ⟨by dsimp only; omega, by rw [sift_size]; exact g2, by rw [← g3]; exact heapBuild_more (by omega)⟩, by dsimp only; omega⟩
 ·
  refine a_exit ?_
  refine aq ?_
  refine rm (.int _ _) ?_
  refine rv (v := .int _ _) (v_sub il il (fun _ => by omega)) ?_
  refine ra (.int _ _) ?_
  refine r_nil ?_
  refine a_block ?_
  refine a_loop (X := (Nat × Array Int)) (fun y => look [(0, .rsl (INH, []) 1 0 n none), (3, .fn f [] []), (8, .int .i64 ((a : Nat) : Int)), (9, .int .i64 0), (12, .int .i64 ((y.1 : Nat) - 1 : Int)), (INH, .osl 1 (acells y.2) n none)]) (fun y => y.1 ≤ b - a ∧ y.2.size = n ∧ heapPop (ltc cf) a y.1 y.2 = heapSort (ltc cf) d a b) (fun y => y.1) (b - a, x.2) (ent_look ⟨wr, wr, wr, wr, Weak.of_eq (int_eq (by omega)), wr, trivial⟩) ⟨Nat.le_refl _, g2, by unfold heapSort; rw [← g3, show x.1 = 0 by simp at ht21; omega]; rfl⟩ (fun y hG => ?_)
  obtain ⟨k1, k2, k3⟩ := hG
  refine a_seq ?_
  refine aq ?_
  refine rm (.int _ _) ?_
  refine rv (v := .bool _) (v_geq il il) ?_
  refine r_nil ?_
  refine a_cond rfl (fun ht33 => ?_) (fun ht33 => ?_)
  ·
   refine a_skip ?_
   refine a_seq ?_
   refine a_block ?_
   refine a_seq ?_
   have hy1 : 1 ≤ y.1 := (by simp at ht33; omega)
   have hp1 : a * 1 + 1 ≤ (acells y.2).length := (by rw [acells_length]; omega)
   have hp2 : (a + (y.1 - 1)) * 1 + 1 ≤ ((acells y.2).set (a * 1) (.int .i64 y.2[(a + (y.1 - 1))]!)).length := (by rw [List.length_set, acells_length]; omega)
   have hset : ((acells y.2).set (a * 1) (.int .i64 y.2[(a + (y.1 - 1))]!)).set ((a + (y.1 - 1)) * 1) (.int .i64 y.2[a]!) = acells (swp y.2 a (a + (y.1 - 1))) := (by rw [Nat.mul_one, Nat.mul_one]; exact acells_swp _ _ _)
   refine a_region_w [(36, true), (37, true), (38, true), (39, true), (40, true), (41, true), (42, true), (43, true), (44, true), (45, true), (46, true), (47, true), (48, true), (49, true), (50, true), (51, true), (52, true), (INH, false), (53, true), (INH, false)] mixed (by kernel_rfl) ?_
   refine wv (v := .rsl _ _ _ _ _) (v_move il nf) ?_
   refine wv (v := .int _ _) (v_move il nf) ?_
   refine wv (v := .rsl _ _ _ _ _) (v_move il nf) ?_
   refine wv (v := .int _ _) (v_move il nf) ?_
   refine wv (v := .int _ _) (v_move il nf) ?_
   refine wv (v := .int .i64 ((a + (y.1 - 1) : Nat) : Int)) ((v_add il il (fun _ => by omega)).cast (int_eq (by omega))) ?_
   refine wv (v := .rsl _ _ _ _ _) (v_move il nf) ?_
   refine wv (v := .int _ _) (v_move il nf) ?_
   refine wv (v := .int _ _) (v_move il nf) ?_
   refine wv (v := .int .i64 ((a + (y.1 - 1) : Nat) : Int)) ((v_add il il (fun _ => by omega)).cast (int_eq (by omega))) ?_
   refine wv (v := .rp _ _) (v_indexAddr_rsl0 es25 il il (fun _ => by omega)) ?_
   refine wv (v := .int .i64 y.2[a + (y.1 - 1)]!) (v_load_rp1 ta3 il rfl (fun _ => by rw [Nat.mul_one]; exact acells_get (by omega)) rfl) ?_
   refine wv (v := .rsl _ _ _ _ _) (v_move il nf) ?_
   refine wv (v := .int _ _) (v_move il nf) ?_
   refine wv (v := .rp _ _) (v_indexAddr_rsl0 es25 il il (fun _ => by omega)) ?_
   refine wv (v := .int .i64 y.2[a]!) (v_load_rp1 ta3 il rfl (fun _ => by rw [Nat.mul_one]; exact acells_get (by omega)) rfl) ?_
   refine wv (v := .rp _ _) (v_indexAddr_rsl0 es25 il il (fun _ => by omega)) ?_
   refine w_store (v := .int _ _) (y' := .osl _ _ _ _) rfl rfl rfl ta3 (.inl rfl) (.inl rfl) rfl rfl rfl rfl rfl rfl hp1 (by decide) rfl rfl rfl (by kernel_rfl) ?_
   refine wv (v := .rp _ _) (v_indexAddr_rsl0 es25 il il (fun _ => by omega)) ?_
   refine w_store (v := .int _ _) (y' := .osl _ _ _ _) rfl rfl rfl ta3 (.inl rfl) (.inl rfl) rfl rfl rfl rfl rfl rfl hp2 (by decide) rfl (congrArg (fun c => AV.osl 1 c n none) hset) rfl (by kernel_rfl) ?_
   refine w_nil ?_
   refine a_region ?_
   refine rm (.rsl _ _ _ _ _) ?_
   refine rv (v := .int .i64 ((0 : Nat) : Int)) ((v_move il nf).cast (int_eq (by omega))) ?_
   refine rv (v := .int .i64 ((y.1 - 1 : Nat) : Int)) ((v_move il nf).cast (int_eq (by omega))) ?_
   refine rm (.int _ _) ?_
   refine rv (v := .fn _ _ _) (v_mv rfl) ?_
   refine r_step rfl (o_callIOk (q := (INH, [])) (vs := [.rsl _ _ _ _ _, .int _ _, .int _ _, .int _ _, .fn _ _ _]) (args := [.rsl (INH, []) _ _ _ _, .int .i64 _, .int .i64 _, .int .i64 _, .fn _ _ _]) (x0 := .osl _ _ _ _) (x1 := .osl _ _ _ _) (res := .tup []) rfl hb194 rfl (by decide) ⟨.inl rfl, .inl rfl, .inl rfl, .inl rfl, .inl rfl, trivial⟩ rfl rfl (siftDown_c f hb cf hc _ n 0 (y.1 - 1) a (by rw [swp_size]; exact k2) (by omega) hn) (by simp [stays]; omega) rfl rfl rfl (ac_noSh _) (ac_noRef _) (Nat.le_of_ble_eq_true rfl) (by decide) rfl) ?_
   refine r_nil ?_
   refine a_pre (ent_look (L := [(0, .rsl _ _ _ _ _), (3, .fn _ _ _), (8, .int _ _), (9, .int _ _), (12, .int _ _), (INH, .osl _ _ _ _)]) ⟨wr, wr, wr, wr, wr, wr, trivial⟩) ?_
   refine a_region ?_
   refine rm (.int _ _) ?_
   refine rv (v := .int _ _) (v_sub il il (fun _ => by omega)) ?_
   refine ra (.int _ _) ?_
   refine r_nil ?_
   refine ⟨(y.1 - 1, siftDown (ltc cf) (y.1 - 1) a 0 (swp y.2 a (a + (y.1 - 1)))), ent_look ⟨wr, wr, wr, wr, Weak.of_eq (int_eq (by omega)), wr, trivial⟩, ⟨by dsimp only; omega, by rw [sift_size, swp_size]; exact k2, by rw [← k3]; exact heapPop_more (by omega)⟩, by dsimp only; omega⟩
  ·
   refine a_exit ?_
   refine ret0_look Tryz.results186 (by decide) ?_ rfl
   exact Weak.of_eq (osl_eq (by rw [← k3, show y.1 = 0 by simp at ht33; omega]; rfl))
theorem partEq_c (f : Nat) (hb : hasBody Tryz.prog f = true) (cf : Int → Int → Int) (hc : ∀ x y, ACall Tryz.prog f [.int .i64 x, .int .i64 y] [] (.int .i64 (cf x y)) []) (d : Array Int) (n a b pivot : Nat) (hd : d.size = n) (hab : a ≤ pivot ∧ pivot < b ∧ b ≤ n) (hn : n ≤ 1152921504606846976) : ACall Tryz.prog 191 [.rsl (INH, []) 1 0 n none, .int .i64 ((a : Nat) : Int), .int .i64 ((b : Nat) : Int), .int .i64 ((pivot : Nat) : Int), .fn f [] []] [.osl 1 (acells d) n none] (.int .i64 (((partitionEqual (ltc cf) d a b pivot).1 : Nat) : Int)) [.osl 1 (acells (partitionEqual (ltc cf) d a b pivot).2) n none] := by
 refine ACall.intro Tryz.func191 rfl (N := 90) rfl (by decide) (by simp) ?_
 refine aq ?_
 refine ra (.int _ _) ?_
 refine r_nil ?_
 refine a_seq ?_
 have hp1 : a * 1 + 1 ≤ (acells d).length := (by rw [acells_length]; omega)
 have hp2 : pivot * 1 + 1 ≤ ((acells d).set (a * 1) (.int .i64 d[pivot]!)).length := (by rw [List.length_set, acells_length]; omega)
 have hset : ((acells d).set (a * 1) (.int .i64 d[pivot]!)).set (pivot * 1) (.int .i64 d[a]!) = acells (swp d a pivot) := (by rw [Nat.mul_one, Nat.mul_one]; exact acells_swp _ _ _)
 refine a_region_w [(13, true), (14, true), (15, true), (16, true), (17, true), (18, true), (19, true), (20, true), (21, true), (22, true), (23, true), (24, true), (25, true), (INH, false), (26, true), (INH, false)] mixed (by kernel_rfl) ?_
 refine wv (v := .rsl _ _ _ _ _) (v_move il nf) ?_
 refine wv (v := .int _ _) (v_move il nf) ?_
 refine wv (v := .rsl _ _ _ _ _) (v_move il nf) ?_
 refine wv (v := .int _ _) (v_move il nf) ?_
 refine wv (v := .rsl _ _ _ _ _) (v_move il nf) ?_
 refine wv (v := .int _ _) (v_move il nf) ?_
 refine wv (v := .rp _ _) (v_indexAddr_rsl0 es25 il il (fun _ => by omega)) ?_
 refine wv (v := .int .i64 d[pivot]!) (v_load_rp1 ta3 il rfl (fun _ => by rw [Nat.mul_one]; exact acells_get (by omega)) rfl) ?_
 refine wv (v := .rsl _ _ _ _ _) (v_move il nf) ?_
 refine wv (v := .int _ _) (v_move il nf) ?_
 refine wv (v := .rp _ _) (v_indexAddr_rsl0 es25 il il (fun _ => by omega)) ?_
 refine wv (v := .int .i64 d[a]!) (v_load_rp1 ta3 il rfl (fun _ => by rw [Nat.mul_one]; exact acells_get (by omega)) rfl) ?_
 refine wv (v := .rp _ _) (v_indexAddr_rsl0 es25 il il (fun _ => by omega)) ?_
 refine w_store (v := .int _ _) (y' := .osl _ _ _ _) rfl rfl rfl ta3 (.inl rfl) (.inl rfl) rfl rfl rfl rfl rfl rfl hp1 (by decide) rfl rfl rfl (by kernel_rfl) ?_
 refine wv (v := .rp _ _) (v_indexAddr_rsl0 es25 il il (fun _ => by omega)) ?_
 refine w_store (v := .int _ _) (y' := .osl _ _ _ _) rfl rfl rfl ta3 (.inl rfl) (.inl rfl) rfl rfl rfl rfl rfl rfl hp2 (by decide) rfl (congrArg (fun c => AV.osl 1 c n none) hset) rfl (by kernel_rfl) ?_
 refine w_nil ?_
 refine aq ?_
 refine rm (.int _ _) ?_
 refine rv (v := .int _ _) (v_add il il (fun _ => by omega)) ?_
 refine rm (.int _ _) ?_
 refine rv (v := .int _ _) (v_sub il il (fun _ => by omega)) ?_
 refine ra (.int _ _) ?_
 refine ra (.int _ _) ?_
 refine r_nil ?_
 refine a_seq ?_
 refine a_block ?_
 refine a_loop (X := (Nat × Nat × Array Int)) (fun x => look [(0, .rsl (INH, []) 1 0 n none), (1, .int .i64 ((a : Nat) : Int)), (4, .fn f [] []), (11, .int .i64 ((x.1 : Nat) : Int)), (12, .int .i64 ((x.2.1 : Nat) : Int)), (INH, .osl 1 (acells x.2.2) n none)]) (fun x => a < x.1 ∧ x.2.1 < b ∧ x.2.2.size = n ∧ x.1 ≤ n ∧ partEqLoop (ltc cf) a x.1 x.2.1 x.2.2 = partitionEqual (ltc cf) d a b pivot) (fun x => x.2.1 + 1 - x.1) (a + 1, b - 1, swp d a pivot) (ent_look ⟨wr, wr, wr, Weak.of_eq (int_eq (by dsimp only; omega)), Weak.of_eq (int_eq (by dsimp only; omega)), wr, trivial⟩) ⟨by dsimp only; omega, by dsimp only; omega, by rw [swp_size]; exact hd, by dsimp only; omega, rfl⟩ (fun x hG => ?_)
 obtain ⟨g1, g2, g3, g4, g5⟩ := hG
 refine a_block ?_
 refine a_seq ?_
 refine a_block ?_
 refine a_loop (X := Nat) (fun u => look [(0, .rsl (INH, []) 1 0 n none), (1, .int .i64 ((a : Nat) : Int)), (4, .fn f [] []), (11, .int .i64 ((u : Nat) : Int)), (12, .int .i64 ((x.2.1 : Nat) : Int)), (INH, .osl 1 (acells x.2.2) n none)]) (fun u => x.1 ≤ u ∧ u ≤ n ∧ scanUp (fun w => !ltc cf x.2.2[a]! w) x.2.2 x.2.1 u = scanUp (fun w => !ltc cf x.2.2[a]! w) x.2.2 x.2.1 x.1) (fun u => x.2.1 + 1 - u) x.1 (ent_look ⟨wr, wr, wr, wr, wr, wr, trivial⟩) ⟨Nat.le_refl _, g4, rfl⟩ (fun u hG => ?_)
 obtain ⟨u1, u2, u3⟩ := hG
 refine a_seq ?_
 refine a_seq ?_
 refine a_region_any mixed (by kernel_rfl) ?_
 refine yv (v := .int _ _) (v_move il nf) ?_
 refine yv (v := .int _ _) (v_move il nf) ?_
 refine yv (v := .bool _) (v_leq il il) ?_
 refine yv (v := .bool _) (v_move il nf) ?_
 refine yh (v := .fn _ _ _) (v_move il nf).quiet ?_
 refine yh (v := .rsl _ _ _ _ _) (v_move il nf).quiet ?_
 refine yh (v := .int _ _) (v_move il nf).quiet ?_
 refine yg (v := .rp _ _) (v_indexAddr_rsl0 es25 (.inr ⟨_, rfl, fun h => h⟩) (.inr ⟨_, rfl, fun h => h⟩) (fun hA => by simp at hA; omega)).quiet rfl rfl rfl (by decide) (.inl ⟨_, rfl, rfl⟩) ?_
 refine yg (v := .int .i64 x.2.2[a]!) (v_load_rp1 ta3 (.inr ⟨_, rfl, fun h => h⟩) rfl (fun hA => by simp at hA; rw [Nat.mul_one]; exact acells_get (by omega)) rfl).quiet rfl rfl rfl (by decide) (.inl ⟨_, rfl, rfl⟩) ?_
 refine yh (v := .rsl _ _ _ _ _) (v_move il nf).quiet ?_
 refine yh (v := .int _ _) (v_move il nf).quiet ?_
 refine yg (v := .rp _ _) (v_indexAddr_rsl0 es25 (.inr ⟨_, rfl, fun h => h⟩) (.inr ⟨_, rfl, fun h => h⟩) (fun hA => by simp at hA; omega)).quiet rfl rfl rfl (by decide) (.inl ⟨_, rfl, rfl⟩) ?_
 refine yg (v := .int .i64 x.2.2[u]!) (v_load_rp1 ta3 (.inr ⟨_, rfl, fun h => h⟩) rfl (fun hA => by simp at hA; rw [Nat.mul_one]; exact acells_get (by omega)) rfl).quiet rfl rfl rfl (by decide) (.inl ⟨_, rfl, rfl⟩) ?_
 refine yg (v := .int _ _) (q_clo (vs := [.int _ _, .int _ _]) (args := [.int .i64 _, .int .i64 _]) hb (.inr ⟨_, rfl, fun h => h⟩) ⟨.inr ⟨_, rfl, fun h => h⟩, .inr ⟨_, rfl, fun h => h⟩, trivial⟩ rfl (fun hA => hc _ _) rfl rfl) rfl rfl rfl (by decide) (.inl ⟨_, rfl, rfl⟩) ?_
 refine yg (v := .bool _) (v_lss (.inr ⟨_, rfl, fun h => h⟩) il).quiet rfl rfl rfl (by decide) (.inl ⟨_, rfl, rfl⟩) ?_
 refine yg (v := .bool _) (v_not (.inr ⟨_, rfl, fun h => h⟩)).quiet rfl rfl rfl (by decide) (.inl ⟨_, rfl, rfl⟩) ?_
 refine yv (v := .bool _) (v_pick (.inl rfl) (.inr ⟨_, rfl, fun h h2 => by simp_all⟩) (.inl rfl)) ?_
 refine y_nil ?_
 refine a_cond rfl (fun ht47 => ?_) (fun ht47 => ?_)
 ·
  refine a_skip ?_
  refine a_block ?_
  refine a_region ?_
  refine rm (.int _ _) ?_
  refine rv (v := .int _ _) (v_add il il (fun _ => by omega)) ?_
  refine ra (.int _ _) ?_
  refine r_nil ?_
  have hcu : (decide (u ≤ x.2.1) && !ltc cf x.2.2[a]! x.2.2[u]!) = true := (by simpa [ltc] using ht47)
  refine ⟨u + 1, ent_look ⟨wr, wr, wr, Weak.of_eq (int_eq (by omega)), wr, wr, trivial⟩, ⟨by omega, by simp at hcu; omega, by rw [← u3]; exact up_more hcu⟩, by simp at hcu; omega⟩
 ·
  refine a_exit ?_
  refine a_seq ?_
  refine a_block ?_
  refine a_loop (X := Nat) (fun v => look [(0, .rsl (INH, []) 1 0 n none), (1, .int .i64 ((a : Nat) : Int)), (4, .fn f [] []), (11, .int .i64 ((u : Nat) : Int)), (12, .int .i64 ((v : Nat) : Int)), (INH, .osl 1 (acells x.2.2) n none)]) (fun v => v ≤ x.2.1 ∧ scanDown (fun w => ltc cf x.2.2[a]! w) x.2.2 u v = scanDown (fun w => ltc cf x.2.2[a]! w) x.2.2 u x.2.1) (fun v => v) x.2.1 (ent_look ⟨wr, wr, wr, wr, wr, wr, trivial⟩) ⟨Nat.le_refl _, rfl⟩ (fun v hG => ?_)
  obtain ⟨v1, v2⟩ := hG
  refine a_seq ?_
  refine a_seq ?_
  refine a_region_any mixed (by kernel_rfl) ?_
  refine yv (v := .int _ _) (v_move il nf) ?_
  refine yv (v := .int _ _) (v_move il nf) ?_
  refine yv (v := .bool _) (v_leq il il) ?_
  refine yv (v := .bool _) (v_move il nf) ?_
  refine yh (v := .fn _ _ _) (v_move il nf).quiet ?_
  refine yh (v := .rsl _ _ _ _ _) (v_move il nf).quiet ?_
  refine yh (v := .int _ _) (v_move il nf).quiet ?_
  refine yg (v := .rp _ _) (v_indexAddr_rsl0 es25 (.inr ⟨_, rfl, fun h => h⟩) (.inr ⟨_, rfl, fun h => h⟩) (fun hA => by simp at hA; omega)).quiet rfl rfl rfl (by decide) (.inl ⟨_, rfl, rfl⟩) ?_
  refine yg (v := .int .i64 x.2.2[a]!) (v_load_rp1 ta3 (.inr ⟨_, rfl, fun h => h⟩) rfl (fun hA => by simp at hA; rw [Nat.mul_one]; exact acells_get (by omega)) rfl).quiet rfl rfl rfl (by decide) (.inl ⟨_, rfl, rfl⟩) ?_
  refine yh (v := .rsl _ _ _ _ _) (v_move il nf).quiet ?_
  refine yh (v := .int _ _) (v_move il nf).quiet ?_
  refine yg (v := .rp _ _) (v_indexAddr_rsl0 es25 (.inr ⟨_, rfl, fun h => h⟩) (.inr ⟨_, rfl, fun h => h⟩) (fun hA => by simp at hA; omega)).quiet rfl rfl rfl (by decide) (.inl ⟨_, rfl, rfl⟩) ?_
  refine yg (v := .int .i64 x.2.2[v]!) (v_load_rp1 ta3 (.inr ⟨_, rfl, fun h => h⟩) rfl (fun hA => by simp at hA; rw [Nat.mul_one]; exact acells_get (by omega)) rfl).quiet rfl rfl rfl (by decide) (.inl ⟨_, rfl, rfl⟩) ?_
  refine yg (v := .int _ _) (q_clo (vs := [.int _ _, .int _ _]) (args := [.int .i64 _, .int .i64 _]) hb (.inr ⟨_, rfl, fun h => h⟩) ⟨.inr ⟨_, rfl, fun h => h⟩, .inr ⟨_, rfl, fun h => h⟩, trivial⟩ rfl (fun hA => hc _ _) rfl rfl) rfl rfl rfl (by decide) (.inl ⟨_, rfl, rfl⟩) ?_
  refine yg (v := .bool _) (v_lss (.inr ⟨_, rfl, fun h => h⟩) il).quiet rfl rfl rfl (by decide) (.inl ⟨_, rfl, rfl⟩) ?_
  refine yv (v := .bool _) (v_pick (.inl rfl) (.inr ⟨_, rfl, fun h h2 => by simp_all⟩) (.inl rfl)) ?_
  refine y_nil ?_
  refine a_cond rfl (fun ht65 => ?_) (fun ht65 => ?_)
  ·
   refine a_skip ?_
   refine a_block ?_
   refine a_region ?_
   refine rm (.int _ _) ?_
   refine rv (v := .int _ _) (v_sub il il (fun _ => by omega)) ?_
   refine ra (.int _ _) ?_
   refine r_nil ?_
   have hcv : (decide (u ≤ v) && ltc cf x.2.2[a]! x.2.2[v]!) = true := (by simpa [ltc] using ht65)
   refine ⟨v - 1, ent_look ⟨wr, wr, wr, wr, Weak.of_eq (int_eq (by simp at hcv; omega)), wr, trivial⟩, ⟨by omega, by rw [← v2]; exact down_more (by simp at hcv; omega) hcv⟩, by simp at hcv; omega⟩
  ·
   refine a_exit ?_
   refine a_seq ?_
   refine a_seq ?_
   have hup : scanUp (fun w => !ltc cf x.2.2[a]! w) x.2.2 x.2.1 x.1 = u := (by rw [← u3]; exact up_stop (by simpa [ltc] using ht47))
   have hdn : scanDown (fun w => ltc cf x.2.2[a]! w) x.2.2 u x.2.1 = v := (by rw [← v2]; exact down_stop (by simpa [ltc] using ht65))
   refine a_region ?_
   refine rm (.int _ _) ?_
   refine rm (.int _ _) ?_
   refine rv (v := .bool _) (v_gtr il il) ?_
   refine r_nil ?_
   refine a_cond rfl (fun ht70 => ?_) (fun ht70 => ?_)
   ·
    refine a_exit ?_
    refine a_seq ?_
    have hfin : partitionEqual (ltc cf) d a b pivot = (u, x.2.2) := (by rw [← g5]; exact peq_end hup hdn (by simp at ht70; omega))
    refine a_region ?_
    refine rm (.int _ _) ?_
    refine ra (.int _ _) ?_
    refine r_nil ?_
    refine a_ret ?_
    refine ret1 Tryz.results191 (by decide) (by decide) (Weak.of_eq (int_eq ?_)) rfl (Leaves.one (Weak.of_eq (osl_eq (by rw [hfin]))) rfl)
    rw [hfin]
   ·
    refine a_skip ?_
    refine a_seq ?_
    have huv : u ≤ v := (by simp at ht70; omega)
    have hp1 : u * 1 + 1 ≤ (acells x.2.2).length := (by rw [acells_length]; omega)
    have hp2 : v * 1 + 1 ≤ ((acells x.2.2).set (u * 1) (.int .i64 x.2.2[v]!)).length := (by rw [List.length_set, acells_length]; omega)
    have hset : ((acells x.2.2).set (u * 1) (.int .i64 x.2.2[v]!)).set (v * 1) (.int .i64 x.2.2[u]!) = acells (swp x.2.2 u v) := (by rw [Nat.mul_one, Nat.mul_one]; exact acells_swp _ _ _)
    refine a_region_w [(71, true), (72, true), (73, true), (74, true), (75, true), (76, true), (77, true), (78, true), (79, true), (80, true), (81, true), (82, true), (83, true), (INH, false), (84, true), (INH, false)] mixed (by kernel_rfl) ?_
    refine wv (v := .rsl _ _ _ _ _) (v_move il nf) ?_
    refine wv (v := .int _ _) (v_move il nf) ?_
    refine wv (v := .rsl _ _ _ _ _) (v_move il nf) ?_
    refine wv (v := .int _ _) (v_move il nf) ?_
    refine wv (v := .rsl _ _ _ _ _) (v_move il nf) ?_
    refine wv (v := .int _ _) (v_move il nf) ?_
    refine wv (v := .rp _ _) (v_indexAddr_rsl0 es25 il il (fun _ => by omega)) ?_
    refine wv (v := .int .i64 x.2.2[v]!) (v_load_rp1 ta3 il rfl (fun _ => by rw [Nat.mul_one]; exact acells_get (by omega)) rfl) ?_
    refine wv (v := .rsl _ _ _ _ _) (v_move il nf) ?_
    refine wv (v := .int _ _) (v_move il nf) ?_
    refine wv (v := .rp _ _) (v_indexAddr_rsl0 es25 il il (fun _ => by omega)) ?_
    refine wv (v := .int .i64 x.2.2[u]!) (v_load_rp1 ta3 il rfl (fun _ => by rw [Nat.mul_one]; exact acells_get (by omega)) rfl) ?_
    refine wv (v := .rp _ _) (v_indexAddr_rsl0 es25 il il (fun _ => by omega)) ?_
    refine w_store (v := .int _ _) (y' := .osl _ _ _ _) rfl rfl rfl ta3 (.inl rfl) (.inl rfl) rfl rfl rfl rfl rfl rfl hp1 (by decide) rfl rfl rfl (by kernel_rfl) ?_
    refine wv (v := .rp _ _) (v_indexAddr_rsl0 es25 il il (fun _ => by omega)) ?_
    refine w_store (v := .int _ _) (y' := .osl _ _ _ _) rfl rfl rfl ta3 (.inl rfl) (.inl rfl) rfl rfl rfl rfl rfl rfl hp2 (by decide) rfl (congrArg (fun c => AV.osl 1 c n none) hset) rfl (by kernel_rfl) ?_
    refine w_nil ?_
    refine a_seq ?_
    refine a_pre (ent_look (L := [(0, .rsl _ _ _ _ _), (1, .int _ _), (4, .fn _ _ _), (11, .int _ _), (12, .int _ _), (INH, .osl _ _ _ _)]) ⟨wr, wr, wr, wr, wr, wr, trivial⟩) ?_
    refine a_region ?_
    refine rm (.int _ _) ?_
    refine rv (v := .int _ _) (v_add il il (fun _ => by omega)) ?_
    refine ra (.int _ _) ?_
    refine r_nil ?_
    refine a_region ?_
    refine rm (.int _ _) ?_
    refine rv (v := .int _ _) (v_sub il il (fun _ => by omega)) ?_
    refine ra (.int _ _) ?_
    refine r_nil ?_
    refine ⟨(u + 1, v - 1, swp x.2.2 u v), ent_look ⟨wr, wr, wr, Weak.of_eq (int_eq (by dsimp only; omega)), Weak.of_eq (int_eq (by dsimp only; omega)), wr, trivial⟩, ⟨by dsimp only; omega, by dsimp only; omega, by rw [swp_size]; exact g3, by dsimp only; omega, by rw [← g5]; exact (peq_more hup hdn (by omega)).symm⟩, by dsimp only; omega⟩
theorem partition_c (f : Nat) (hb : hasBody Tryz.prog f = true) (cf : Int → Int → Int) (hc : ∀ x y, ACall Tryz.prog f [.int .i64 x, .int .i64 y] [] (.int .i64 (cf x y)) []) (d : Array Int) (n a b pivot : Nat) (hd : d.size = n) (hab : a ≤ pivot ∧ pivot < b ∧ b ≤ n) (hn : n ≤ 1152921504606846976) : ACall Tryz.prog 192 [.rsl (INH, []) 1 0 n none, .int .i64 ((a : Nat) : Int), .int .i64 ((b : Nat) : Int), .int .i64 ((pivot : Nat) : Int), .fn f [] []] [.osl 1 (acells d) n none] (.tup [.int .i64 (((partition (ltc cf) d a b pivot).1 : Nat) : Int), .bool (partition (ltc cf) d a b pivot).2.1]) [.osl 1 (acells ((partition (ltc cf) d a b pivot).2.2)) n none] := by
  refine ACall.intro Tryz.func192 rfl (N := 178) rfl (by decide) (by simp) ?_
  refine aq ?_
  refine ra (.int _ _) ?_
  refine ra (.bool _) ?_
  refine r_nil ?_
  refine a_seq ?_
  have hp1 : a * 1 + 1 ≤ (acells d).length := (by rw [acells_length]; omega)
  have hp2 : pivot * 1 + 1 ≤ ((acells d).set (a * 1) (.int .i64 d[pivot]!)).length := (by rw [List.length_set, acells_length]; omega)
  have hset : ((acells d).set (a * 1) (.int .i64 d[pivot]!)).set (pivot * 1) (.int .i64 d[a]!) = acells (swp d a pivot) := (by rw [Nat.mul_one, Nat.mul_one]; exact acells_swp _ _ _)
  refine a_region_w [(14, true), (15, true), (16, true), (17, true), (18, true), (19, true), (20, true), (21, true), (22, true), (23, true), (24, true), (25, true), (26, true), (INH, false), (27, true), (INH, false)] mixed (by kernel_rfl) ?_
  refine wv (v := .rsl _ _ _ _ _) (v_move il nf) ?_
  refine wv (v := .int _ _) (v_move il nf) ?_
  refine wv (v := .rsl _ _ _ _ _) (v_move il nf) ?_
  refine wv (v := .int _ _) (v_move il nf) ?_
  refine wv (v := .rsl _ _ _ _ _) (v_move il nf) ?_
  refine wv (v := .int _ _) (v_move il nf) ?_
  refine wv (v := .rp _ _) (v_indexAddr_rsl0 es25 il il (fun _ => by omega)) ?_
  refine wv (v := .int .i64 d[pivot]!) (v_load_rp1 ta3 il rfl (fun _ => by rw [Nat.mul_one]; exact acells_get (by omega)) rfl) ?_
  refine wv (v := .rsl _ _ _ _ _) (v_move il nf) ?_
  refine wv (v := .int _ _) (v_move il nf) ?_
  refine wv (v := .rp _ _) (v_indexAddr_rsl0 es25 il il (fun _ => by omega)) ?_
  refine wv (v := .int .i64 d[a]!) (v_load_rp1 ta3 il rfl (fun _ => by rw [Nat.mul_one]; exact acells_get (by omega)) rfl) ?_
  refine wv (v := .rp _ _) (v_indexAddr_rsl0 es25 il il (fun _ => by omega)) ?_
  refine w_store (v := .int _ _) (y' := .osl _ _ _ _) rfl rfl rfl ta3 (.inl rfl) (.inl rfl) rfl rfl rfl rfl rfl rfl hp1 (by decide) rfl rfl rfl (by kernel_rfl) ?_
  refine wv (v := .rp _ _) (v_indexAddr_rsl0 es25 il il (fun _ => by omega)) ?_
  refine w_store (v := .int _ _) (y' := .osl _ _ _ _) rfl rfl rfl ta3 (.inl rfl) (.inl rfl) rfl rfl rfl rfl rfl rfl hp2 (by decide) rfl (congrArg (fun c => AV.osl 1 c n none) hset) rfl (by kernel_rfl) ?_
  refine w_nil ?_
  refine aq ?_
  refine rm (.int _ _) ?_
  refine rv (v := .int _ _) (v_add il il (fun _ => by omega)) ?_
  refine rm (.int _ _) ?_
  refine rv (v := .int _ _) (v_sub il il (fun _ => by omega)) ?_
  refine ra (.int _ _) ?_
  refine ra (.int _ _) ?_
  refine r_nil ?_
  refine a_seq ?_
  refine a_block ?_
  refine a_loop (X := Nat) (fun u0 => look [(0, .rsl (INH, []) 1 0 n none), (1, .int .i64 ((a : Nat) : Int)), (4, .fn f [] []), (12, .int .i64 ((u0 : Nat) : Int)), (13, .int .i64 ((b - 1 : Nat) : Int)), (INH, .osl 1 (acells (swp d a pivot)) n none)]) (fun u0 => a + 1 ≤ u0 ∧ u0 ≤ n ∧ scanUp (fun w => ltc cf w (swp d a pivot)[a]!) (swp d a pivot) (b - 1) u0 = scanUp (fun w => ltc cf w (swp d a pivot)[a]!) (swp d a pivot) (b - 1) (a + 1)) (fun u0 => b - u0) (a + 1) (ent_look ⟨wr, wr, wr, Weak.of_eq (int_eq (by omega)), Weak.of_eq (int_eq (by omega)), wr, trivial⟩) ⟨Nat.le_refl _, by omega, rfl⟩ (fun u0 hG => ?_)
  obtain ⟨a1, a2, a3⟩ := hG
  refine a_seq ?_
  refine a_seq ?_
  have hsz := swp_size (d := d) (i := a) (j := pivot)
  refine a_region_any mixed (by kernel_rfl) ?_
  refine yv (v := .int _ _) (v_move il nf) ?_
  refine yv (v := .int _ _) (v_move il nf) ?_
  refine yv (v := .bool _) (v_leq il il) ?_
  refine yv (v := .bool _) (v_move il nf) ?_
  refine yh (v := .fn _ _ _) (v_move il nf).quiet ?_
  refine yh (v := .rsl _ _ _ _ _) (v_move il nf).quiet ?_
  refine yh (v := .int _ _) (v_move il nf).quiet ?_
  refine yg (v := .rp _ _) (v_indexAddr_rsl0 es25 (.inr ⟨_, rfl, fun h => h⟩) (.inr ⟨_, rfl, fun h => h⟩) (fun hA => by simp at hA; omega)).quiet rfl rfl rfl (by decide) (.inl ⟨_, rfl, rfl⟩) ?_
  refine yg (v := .int .i64 (swp d a pivot)[u0]!) (v_load_rp1 ta3 (.inr ⟨_, rfl, fun h => h⟩) rfl (fun hA => by simp at hA; rw [Nat.mul_one]; exact acells_get (by omega)) rfl).quiet rfl rfl rfl (by decide) (.inl ⟨_, rfl, rfl⟩) ?_
  refine yh (v := .rsl _ _ _ _ _) (v_move il nf).quiet ?_
  refine yh (v := .int _ _) (v_move il nf).quiet ?_
  refine yg (v := .rp _ _) (v_indexAddr_rsl0 es25 (.inr ⟨_, rfl, fun h => h⟩) (.inr ⟨_, rfl, fun h => h⟩) (fun hA => by simp at hA; omega)).quiet rfl rfl rfl (by decide) (.inl ⟨_, rfl, rfl⟩) ?_
  refine yg (v := .int .i64 (swp d a pivot)[a]!) (v_load_rp1 ta3 (.inr ⟨_, rfl, fun h => h⟩) rfl (fun hA => by simp at hA; rw [Nat.mul_one]; exact acells_get (by omega)) rfl).quiet rfl rfl rfl (by decide) (.inl ⟨_, rfl, rfl⟩) ?_
  refine yg (v := .int _ _) (q_clo (vs := [.int _ _, .int _ _]) (args := [.int .i64 _, .int .i64 _]) hb (.inr ⟨_, rfl, fun h => h⟩) ⟨.inr ⟨_, rfl, fun h => h⟩, .inr ⟨_, rfl, fun h => h⟩, trivial⟩ rfl (fun hA => hc _ _) rfl rfl) rfl rfl rfl (by decide) (.inl ⟨_, rfl, rfl⟩) ?_
  refine yg (v := .bool _) (v_lss (.inr ⟨_, rfl, fun h => h⟩) il).quiet rfl rfl rfl (by decide) (.inl ⟨_, rfl, rfl⟩) ?_
  refine yv (v := .bool _) (v_pick (.inl rfl) (.inr ⟨_, rfl, fun h h2 => by simp_all⟩) (.inl rfl)) ?_
  refine y_nil ?_
  refine a_cond rfl (fun ht47 => ?_) (fun ht47 => ?_)
  ·
    refine a_skip ?_
    refine a_block ?_
    refine a_region ?_
    refine rm (.int _ _) ?_
    refine rv (v := .int _ _) (v_add il il (fun _ => by omega)) ?_
    refine ra (.int _ _) ?_
    refine r_nil ?_
    have hcu : (decide (u0 ≤ b - 1) && ltc cf (swp d a pivot)[u0]! (swp d a pivot)[a]!) = true := (by simpa [ltc] using ht47)
    refine ⟨u0 + 1, ent_look ⟨wr, wr, wr, Weak.of_eq (int_eq (by omega)), wr, wr, trivial⟩, ⟨by omega, by simp at hcu; omega, by rw [← a3]; exact up_more hcu⟩, by simp at hcu; omega⟩
  ·
    refine a_exit ?_
    refine a_seq ?_
    refine a_block ?_
    refine a_loop (X := Nat) (fun v0 => look [(0, .rsl (INH, []) 1 0 n none), (1, .int .i64 ((a : Nat) : Int)), (4, .fn f [] []), (12, .int .i64 ((u0 : Nat) : Int)), (13, .int .i64 ((v0 : Nat) : Int)), (INH, .osl 1 (acells (swp d a pivot)) n none)]) (fun v0 => v0 ≤ b - 1 ∧ scanDown (fun w => !ltc cf w (swp d a pivot)[a]!) (swp d a pivot) u0 v0 = scanDown (fun w => !ltc cf w (swp d a pivot)[a]!) (swp d a pivot) u0 (b - 1)) (fun v0 => v0) (b - 1) (ent_look ⟨wr, wr, wr, wr, wr, wr, trivial⟩) ⟨Nat.le_refl _, rfl⟩ (fun v0 hG => ?_)
    obtain ⟨b1, b2⟩ := hG
    refine a_seq ?_
    refine a_seq ?_
    have hsz := swp_size (d := d) (i := a) (j := pivot)
    refine a_region_any mixed (by kernel_rfl) ?_
    refine yv (v := .int _ _) (v_move il nf) ?_
    refine yv (v := .int _ _) (v_move il nf) ?_
    refine yv (v := .bool _) (v_leq il il) ?_
    refine yv (v := .bool _) (v_move il nf) ?_
    refine yh (v := .fn _ _ _) (v_move il nf).quiet ?_
    refine yh (v := .rsl _ _ _ _ _) (v_move il nf).quiet ?_
    refine yh (v := .int _ _) (v_move il nf).quiet ?_
    refine yg (v := .rp _ _) (v_indexAddr_rsl0 es25 (.inr ⟨_, rfl, fun h => h⟩) (.inr ⟨_, rfl, fun h => h⟩) (fun hA => by simp at hA; omega)).quiet rfl rfl rfl (by decide) (.inl ⟨_, rfl, rfl⟩) ?_
    refine yg (v := .int .i64 (swp d a pivot)[v0]!) (v_load_rp1 ta3 (.inr ⟨_, rfl, fun h => h⟩) rfl (fun hA => by simp at hA; rw [Nat.mul_one]; exact acells_get (by omega)) rfl).quiet rfl rfl rfl (by decide) (.inl ⟨_, rfl, rfl⟩) ?_
    refine yh (v := .rsl _ _ _ _ _) (v_move il nf).quiet ?_
    refine yh (v := .int _ _) (v_move il nf).quiet ?_
    refine yg (v := .rp _ _) (v_indexAddr_rsl0 es25 (.inr ⟨_, rfl, fun h => h⟩) (.inr ⟨_, rfl, fun h => h⟩) (fun hA => by simp at hA; omega)).quiet rfl rfl rfl (by decide) (.inl ⟨_, rfl, rfl⟩) ?_
    refine yg (v := .int .i64 (swp d a pivot)[a]!) (v_load_rp1 ta3 (.inr ⟨_, rfl, fun h => h⟩) rfl (fun hA => by simp at hA; rw [Nat.mul_one]; exact acells_get (by omega)) rfl).quiet rfl rfl rfl (by decide) (.inl ⟨_, rfl, rfl⟩) ?_
    refine yg (v := .int _ _) (q_clo (vs := [.int _ _, .int _ _]) (args := [.int .i64 _, .int .i64 _]) hb (.inr ⟨_, rfl, fun h => h⟩) ⟨.inr ⟨_, rfl, fun h => h⟩, .inr ⟨_, rfl, fun h => h⟩, trivial⟩ rfl (fun hA => hc _ _) rfl rfl) rfl rfl rfl (by decide) (.inl ⟨_, rfl, rfl⟩) ?_
    refine yg (v := .bool _) (v_lss (.inr ⟨_, rfl, fun h => h⟩) il).quiet rfl rfl rfl (by decide) (.inl ⟨_, rfl, rfl⟩) ?_
    refine yg (v := .bool _) (v_not (.inr ⟨_, rfl, fun h => h⟩)).quiet rfl rfl rfl (by decide) (.inl ⟨_, rfl, rfl⟩) ?_
    refine yv (v := .bool _) (v_pick (.inl rfl) (.inr ⟨_, rfl, fun h h2 => by simp_all⟩) (.inl rfl)) ?_
    refine y_nil ?_
    refine a_cond rfl (fun ht66 => ?_) (fun ht66 => ?_)
    ·
      refine a_skip ?_
      refine a_block ?_
      refine a_region ?_
      refine rm (.int _ _) ?_
      refine rv (v := .int _ _) (v_sub il il (fun _ => by omega)) ?_
      refine ra (.int _ _) ?_
      refine r_nil ?_
      have hcv : (decide (u0 ≤ v0) && !ltc cf (swp d a pivot)[v0]! (swp d a pivot)[a]!) = true := (by simpa [ltc] using ht66)
      refine ⟨v0 - 1, ent_look ⟨wr, wr, wr, wr, Weak.of_eq (int_eq (by simp at hcv; omega)), wr, trivial⟩, ⟨by omega, by rw [← b2]; exact down_more (by simp at hcv; omega) hcv⟩, by simp at hcv; omega⟩
    ·
      refine a_exit ?_
      refine a_seq ?_
      refine a_seq ?_
      have hsz := swp_size (d := d) (i := a) (j := pivot)
      have hup0 : scanUp (fun w => ltc cf w (swp d a pivot)[a]!) (swp d a pivot) (b - 1) (a + 1) = u0 := (by rw [← a3]; exact up_stop (by simpa [ltc] using ht47))
      have hdn0 : scanDown (fun w => !ltc cf w (swp d a pivot)[a]!) (swp d a pivot) u0 (b - 1) = v0 := (by rw [← b2]; exact down_stop (by simpa [ltc] using ht66))
      refine a_region ?_
      refine rm (.int _ _) ?_
      refine rm (.int _ _) ?_
      refine rv (v := .bool _) (v_gtr il il) ?_
      refine r_nil ?_
      refine a_cond rfl (fun ht71 => ?_) (fun ht71 => ?_)
      ·
        refine a_seq ?_
        have hfin : (partition (ltc cf) d a b pivot) = (v0, true, swp (swp d a pivot) v0 a) := part_end hup0 hdn0 (by simp at ht71; omega)
        have hp1 : v0 * 1 + 1 ≤ (acells (swp d a pivot)).length := (by rw [acells_length]; omega)
        have hp2 : a * 1 + 1 ≤ ((acells (swp d a pivot)).set (v0 * 1) (.int .i64 (swp d a pivot)[a]!)).length := (by rw [List.length_set, acells_length]; omega)
        have hset : ((acells (swp d a pivot)).set (v0 * 1) (.int .i64 (swp d a pivot)[a]!)).set (a * 1) (.int .i64 (swp d a pivot)[v0]!) = acells (swp (swp d a pivot) v0 a) := (by rw [Nat.mul_one, Nat.mul_one]; exact acells_swp _ _ _)
        refine a_region_w [(72, true), (73, true), (74, true), (75, true), (76, true), (77, true), (78, true), (79, true), (80, true), (81, true), (82, true), (83, true), (84, true), (INH, false), (85, true), (INH, false)] mixed (by kernel_rfl) ?_
        refine wv (v := .rsl _ _ _ _ _) (v_move il nf) ?_
        refine wv (v := .int _ _) (v_move il nf) ?_
        refine wv (v := .rsl _ _ _ _ _) (v_move il nf) ?_
        refine wv (v := .int _ _) (v_move il nf) ?_
        refine wv (v := .rsl _ _ _ _ _) (v_move il nf) ?_
        refine wv (v := .int _ _) (v_move il nf) ?_
        refine wv (v := .rp _ _) (v_indexAddr_rsl0 es25 il il (fun _ => by omega)) ?_
        refine wv (v := .int .i64 (swp d a pivot)[a]!) (v_load_rp1 ta3 il rfl (fun _ => by rw [Nat.mul_one]; exact acells_get (by omega)) rfl) ?_
        refine wv (v := .rsl _ _ _ _ _) (v_move il nf) ?_
        refine wv (v := .int _ _) (v_move il nf) ?_
        refine wv (v := .rp _ _) (v_indexAddr_rsl0 es25 il il (fun _ => by omega)) ?_
        refine wv (v := .int .i64 (swp d a pivot)[v0]!) (v_load_rp1 ta3 il rfl (fun _ => by rw [Nat.mul_one]; exact acells_get (by omega)) rfl) ?_
        refine wv (v := .rp _ _) (v_indexAddr_rsl0 es25 il il (fun _ => by omega)) ?_
        refine w_store (v := .int _ _) (y' := .osl _ _ _ _) rfl rfl rfl ta3 (.inl rfl) (.inl rfl) rfl rfl rfl rfl rfl rfl hp1 (by decide) rfl rfl rfl (by kernel_rfl) ?_
        refine wv (v := .rp _ _) (v_indexAddr_rsl0 es25 il il (fun _ => by omega)) ?_
        refine w_store (v := .int _ _) (y' := .osl _ _ _ _) rfl rfl rfl ta3 (.inl rfl) (.inl rfl) rfl rfl rfl rfl rfl rfl hp2 (by decide) rfl (congrArg (fun c => AV.osl 1 c n none) hset) rfl (by kernel_rfl) ?_
        refine w_nil ?_
        refine a_seq ?_
        refine a_pre (ent_look (L := [(0, .rsl _ _ _ _ _), (1, .int _ _), (4, .fn _ _ _), (12, .int _ _), (13, .int _ _), (INH, .osl _ _ _ _)]) ⟨wr, wr, wr, wr, wr, wr, trivial⟩) ?_
        refine a_region ?_
        refine rm (.int _ _) ?_
        refine ra (.int _ _) ?_
        refine ra (.bool _) ?_
        refine r_nil ?_
        refine a_ret ?_
        refine retLO (rs := [.tmp 10, .tmp 11]) [(10, _), (11, _)] ⟨(Weak.of_eq (osl_eq (by rw [hfin]))), wr, wr, trivial⟩ rfl Tryz.results192 (by decide) ⟨by decide, by decide, rfl⟩ (by decide) (by decide) (l2_eq (int_eq ?_) (bool_eq ?_)) rfl rfl
        · rw [hfin]
        · rw [hfin]
      ·
        refine a_skip ?_
        refine a_seq ?_
        have huv0 : u0 ≤ v0 := (by simp at ht71; omega)
        have hpm := part_more (lt := ltc cf) (d := d) (a := a) (b := b) (pivot := pivot) hup0 hdn0 (by omega)
        have hp1 : u0 * 1 + 1 ≤ (acells (swp d a pivot)).length := (by rw [acells_length]; omega)
        have hp2 : v0 * 1 + 1 ≤ ((acells (swp d a pivot)).set (u0 * 1) (.int .i64 (swp d a pivot)[v0]!)).length := (by rw [List.length_set, acells_length]; omega)
        have hset : ((acells (swp d a pivot)).set (u0 * 1) (.int .i64 (swp d a pivot)[v0]!)).set (v0 * 1) (.int .i64 (swp d a pivot)[u0]!) = acells (swp (swp d a pivot) u0 v0) := (by rw [Nat.mul_one, Nat.mul_one]; exact acells_swp _ _ _)
        refine a_region_w [(87, true), (88, true), (89, true), (90, true), (91, true), (92, true), (93, true), (94, true), (95, true), (96, true), (97, true), (98, true), (99, true), (INH, false), (100, true), (INH, false)] mixed (by kernel_rfl) ?_
        refine wv (v := .rsl _ _ _ _ _) (v_move il nf) ?_
        refine wv (v := .int _ _) (v_move il nf) ?_
        refine wv (v := .rsl _ _ _ _ _) (v_move il nf) ?_
        refine wv (v := .int _ _) (v_move il nf) ?_
        refine wv (v := .rsl _ _ _ _ _) (v_move il nf) ?_
        refine wv (v := .int _ _) (v_move il nf) ?_
        refine wv (v := .rp _ _) (v_indexAddr_rsl0 es25 il il (fun _ => by omega)) ?_
        refine wv (v := .int .i64 (swp d a pivot)[v0]!) (v_load_rp1 ta3 il rfl (fun _ => by rw [Nat.mul_one]; exact acells_get (by omega)) rfl) ?_
        refine wv (v := .rsl _ _ _ _ _) (v_move il nf) ?_
        refine wv (v := .int _ _) (v_move il nf) ?_
        refine wv (v := .rp _ _) (v_indexAddr_rsl0 es25 il il (fun _ => by omega)) ?_
        refine wv (v := .int .i64 (swp d a pivot)[u0]!) (v_load_rp1 ta3 il rfl (fun _ => by rw [Nat.mul_one]; exact acells_get (by omega)) rfl) ?_
        refine wv (v := .rp _ _) (v_indexAddr_rsl0 es25 il il (fun _ => by omega)) ?_
        refine w_store (v := .int _ _) (y' := .osl _ _ _ _) rfl rfl rfl ta3 (.inl rfl) (.inl rfl) rfl rfl rfl rfl rfl rfl hp1 (by decide) rfl rfl rfl (by kernel_rfl) ?_
        refine wv (v := .rp _ _) (v_indexAddr_rsl0 es25 il il (fun _ => by omega)) ?_
        refine w_store (v := .int _ _) (y' := .osl _ _ _ _) rfl rfl rfl ta3 (.inl rfl) (.inl rfl) rfl rfl rfl rfl rfl rfl hp2 (by decide) rfl (congrArg (fun c => AV.osl 1 c n none) hset) rfl (by kernel_rfl) ?_
        refine w_nil ?_
        refine a_seq ?_
        refine a_pre (ent_look (L := [(0, .rsl _ _ _ _ _), (1, .int _ _), (4, .fn _ _ _), (12, .int _ _), (13, .int _ _), (INH, .osl _ _ _ _)]) ⟨wr, wr, wr, wr, wr, wr, trivial⟩) ?_
        refine a_region ?_
        refine rm (.int _ _) ?_
        refine rv (v := .int _ _) (v_add il il (fun _ => by omega)) ?_
        refine ra (.int _ _) ?_
        refine r_nil ?_
        refine aq ?_
        refine rm (.int _ _) ?_
        refine rv (v := .int _ _) (v_sub il il (fun _ => by omega)) ?_
        refine ra (.int _ _) ?_
        refine r_nil ?_
        refine a_seq ?_
        refine a_block ?_
        refine a_loop (X := (Nat × Nat × Array Int)) (fun x => look [(0, .rsl (INH, []) 1 0 n none), (1, .int .i64 ((a : Nat) : Int)), (4, .fn f [] []), (12, .int .i64 ((x.1 : Nat) : Int)), (13, .int .i64 ((x.2.1 : Nat) : Int)), (INH, .osl 1 (acells x.2.2) n none)]) (fun x => a < x.1 ∧ x.2.1 < b ∧ x.2.2.size = n ∧ x.1 ≤ n ∧ partLoop (ltc cf) a x.1 x.2.1 x.2.2 = partLoop (ltc cf) a (u0 + 1) (v0 - 1) (swp (swp d a pivot) u0 v0)) (fun x => x.2.1 + 1 - x.1) (u0 + 1, v0 - 1, swp (swp d a pivot) u0 v0) (ent_look ⟨wr, wr, wr, Weak.of_eq (int_eq (by dsimp only; omega)), Weak.of_eq (int_eq (by dsimp only; omega)), wr, trivial⟩) ⟨by dsimp only; omega, by dsimp only; omega, by rw [swp_size, swp_size]; exact hd, by dsimp only; omega, rfl⟩ (fun x hG => ?_)
        obtain ⟨g1, g2, g3, g4, g5⟩ := hG
        refine a_block ?_
        refine a_seq ?_
        refine a_block ?_
        refine a_loop (X := Nat) (fun u => look [(0, .rsl (INH, []) 1 0 n none), (1, .int .i64 ((a : Nat) : Int)), (4, .fn f [] []), (12, .int .i64 ((u : Nat) : Int)), (13, .int .i64 ((x.2.1 : Nat) : Int)), (INH, .osl 1 (acells x.2.2) n none)]) (fun u => x.1 ≤ u ∧ u ≤ n ∧ scanUp (fun w => ltc cf w x.2.2[a]!) x.2.2 x.2.1 u = scanUp (fun w => ltc cf w x.2.2[a]!) x.2.2 x.2.1 x.1) (fun u => x.2.1 + 1 - u) x.1 (ent_look ⟨wr, wr, wr, wr, wr, wr, trivial⟩) ⟨Nat.le_refl _, g4, rfl⟩ (fun u hG => ?_)
        obtain ⟨u1, u2, u3⟩ := hG
        refine a_seq ?_
        refine a_seq ?_
        refine a_region_any mixed (by kernel_rfl) ?_
        refine yv (v := .int _ _) (v_move il nf) ?_
        refine yv (v := .int _ _) (v_move il nf) ?_
        refine yv (v := .bool _) (v_leq il il) ?_
        refine yv (v := .bool _) (v_move il nf) ?_
        refine yh (v := .fn _ _ _) (v_move il nf).quiet ?_
        refine yh (v := .rsl _ _ _ _ _) (v_move il nf).quiet ?_
        refine yh (v := .int _ _) (v_move il nf).quiet ?_
        refine yg (v := .rp _ _) (v_indexAddr_rsl0 es25 (.inr ⟨_, rfl, fun h => h⟩) (.inr ⟨_, rfl, fun h => h⟩) (fun hA => by simp at hA; omega)).quiet rfl rfl rfl (by decide) (.inl ⟨_, rfl, rfl⟩) ?_
        refine yg (v := .int .i64 x.2.2[u]!) (v_load_rp1 ta3 (.inr ⟨_, rfl, fun h => h⟩) rfl (fun hA => by simp at hA; rw [Nat.mul_one]; exact acells_get (by omega)) rfl).quiet rfl rfl rfl (by decide) (.inl ⟨_, rfl, rfl⟩) ?_
        refine yh (v := .rsl _ _ _ _ _) (v_move il nf).quiet ?_
        refine yh (v := .int _ _) (v_move il nf).quiet ?_
        refine yg (v := .rp _ _) (v_indexAddr_rsl0 es25 (.inr ⟨_, rfl, fun h => h⟩) (.inr ⟨_, rfl, fun h => h⟩) (fun hA => by simp at hA; omega)).quiet rfl rfl rfl (by decide) (.inl ⟨_, rfl, rfl⟩) ?_
        refine yg (v := .int .i64 x.2.2[a]!) (v_load_rp1 ta3 (.inr ⟨_, rfl, fun h => h⟩) rfl (fun hA => by simp at hA; rw [Nat.mul_one]; exact acells_get (by omega)) rfl).quiet rfl rfl rfl (by decide) (.inl ⟨_, rfl, rfl⟩) ?_
        refine yg (v := .int _ _) (q_clo (vs := [.int _ _, .int _ _]) (args := [.int .i64 _, .int .i64 _]) hb (.inr ⟨_, rfl, fun h => h⟩) ⟨.inr ⟨_, rfl, fun h => h⟩, .inr ⟨_, rfl, fun h => h⟩, trivial⟩ rfl (fun hA => hc _ _) rfl rfl) rfl rfl rfl (by decide) (.inl ⟨_, rfl, rfl⟩) ?_
        refine yg (v := .bool _) (v_lss (.inr ⟨_, rfl, fun h => h⟩) il).quiet rfl rfl rfl (by decide) (.inl ⟨_, rfl, rfl⟩) ?_
        refine yv (v := .bool _) (v_pick (.inl rfl) (.inr ⟨_, rfl, fun h h2 => by simp_all⟩) (.inl rfl)) ?_
        refine y_nil ?_
        refine a_cond rfl (fun ht120 => ?_) (fun ht120 => ?_)
        ·
          refine a_skip ?_
          refine a_block ?_
          refine a_region ?_
          refine rm (.int _ _) ?_
          refine rv (v := .int _ _) (v_add il il (fun _ => by omega)) ?_
          refine ra (.int _ _) ?_
          refine r_nil ?_
          have hcu : (decide (u ≤ x.2.1) && ltc cf x.2.2[u]! x.2.2[a]!) = true := (by simpa [ltc] using ht120)
          refine ⟨u + 1, ent_look ⟨wr, wr, wr, Weak.of_eq (int_eq (by omega)), wr, wr, trivial⟩, ⟨by omega, by simp at hcu; omega, by rw [← u3]; exact up_more hcu⟩, by simp at hcu; omega⟩
        ·
          refine a_exit ?_
          refine a_seq ?_
          refine a_block ?_
          refine a_loop (X := Nat) (fun v => look [(0, .rsl (INH, []) 1 0 n none), (1, .int .i64 ((a : Nat) : Int)), (4, .fn f [] []), (12, .int .i64 ((u : Nat) : Int)), (13, .int .i64 ((v : Nat) : Int)), (INH, .osl 1 (acells x.2.2) n none)]) (fun v => v ≤ x.2.1 ∧ scanDown (fun w => !ltc cf w x.2.2[a]!) x.2.2 u v = scanDown (fun w => !ltc cf w x.2.2[a]!) x.2.2 u x.2.1) (fun v => v) x.2.1 (ent_look ⟨wr, wr, wr, wr, wr, wr, trivial⟩) ⟨Nat.le_refl _, rfl⟩ (fun v hG => ?_)
          obtain ⟨v1, v2⟩ := hG
          refine a_seq ?_
          refine a_seq ?_
          refine a_region_any mixed (by kernel_rfl) ?_
          refine yv (v := .int _ _) (v_move il nf) ?_
          refine yv (v := .int _ _) (v_move il nf) ?_
          refine yv (v := .bool _) (v_leq il il) ?_
          refine yv (v := .bool _) (v_move il nf) ?_
          refine yh (v := .fn _ _ _) (v_move il nf).quiet ?_
          refine yh (v := .rsl _ _ _ _ _) (v_move il nf).quiet ?_
          refine yh (v := .int _ _) (v_move il nf).quiet ?_
          refine yg (v := .rp _ _) (v_indexAddr_rsl0 es25 (.inr ⟨_, rfl, fun h => h⟩) (.inr ⟨_, rfl, fun h => h⟩) (fun hA => by simp at hA; omega)).quiet rfl rfl rfl (by decide) (.inl ⟨_, rfl, rfl⟩) ?_
          refine yg (v := .int .i64 x.2.2[v]!) (v_load_rp1 ta3 (.inr ⟨_, rfl, fun h => h⟩) rfl (fun hA => by simp at hA; rw [Nat.mul_one]; exact acells_get (by omega)) rfl).quiet rfl rfl rfl (by decide) (.inl ⟨_, rfl, rfl⟩) ?_
          refine yh (v := .rsl _ _ _ _ _) (v_move il nf).quiet ?_
          refine yh (v := .int _ _) (v_move il nf).quiet ?_
          refine yg (v := .rp _ _) (v_indexAddr_rsl0 es25 (.inr ⟨_, rfl, fun h => h⟩) (.inr ⟨_, rfl, fun h => h⟩) (fun hA => by simp at hA; omega)).quiet rfl rfl rfl (by decide) (.inl ⟨_, rfl, rfl⟩) ?_
          refine yg (v := .int .i64 x.2.2[a]!) (v_load_rp1 ta3 (.inr ⟨_, rfl, fun h => h⟩) rfl (fun hA => by simp at hA; rw [Nat.mul_one]; exact acells_get (by omega)) rfl).quiet rfl rfl rfl (by decide) (.inl ⟨_, rfl, rfl⟩) ?_
          refine yg (v := .int _ _) (q_clo (vs := [.int _ _, .int _ _]) (args := [.int .i64 _, .int .i64 _]) hb (.inr ⟨_, rfl, fun h => h⟩) ⟨.inr ⟨_, rfl, fun h => h⟩, .inr ⟨_, rfl, fun h => h⟩, trivial⟩ rfl (fun hA => hc _ _) rfl rfl) rfl rfl rfl (by decide) (.inl ⟨_, rfl, rfl⟩) ?_
          refine yg (v := .bool _) (v_lss (.inr ⟨_, rfl, fun h => h⟩) il).quiet rfl rfl rfl (by decide) (.inl ⟨_, rfl, rfl⟩) ?_
          refine yg (v := .bool _) (v_not (.inr ⟨_, rfl, fun h => h⟩)).quiet rfl rfl rfl (by decide) (.inl ⟨_, rfl, rfl⟩) ?_
          refine yv (v := .bool _) (v_pick (.inl rfl) (.inr ⟨_, rfl, fun h h2 => by simp_all⟩) (.inl rfl)) ?_
          refine y_nil ?_
          refine a_cond rfl (fun ht139 => ?_) (fun ht139 => ?_)
          ·
            refine a_skip ?_
            refine a_block ?_
            refine a_region ?_
            refine rm (.int _ _) ?_
            refine rv (v := .int _ _) (v_sub il il (fun _ => by omega)) ?_
            refine ra (.int _ _) ?_
            refine r_nil ?_
            have hcv : (decide (u ≤ v) && !ltc cf x.2.2[v]! x.2.2[a]!) = true := (by simpa [ltc] using ht139)
            refine ⟨v - 1, ent_look ⟨wr, wr, wr, wr, Weak.of_eq (int_eq (by simp at hcv; omega)), wr, trivial⟩, ⟨by omega, by rw [← v2]; exact down_more (by simp at hcv; omega) hcv⟩, by simp at hcv; omega⟩
          ·
            refine a_exit ?_
            refine a_seq ?_
            refine a_seq ?_
            have hup : scanUp (fun w => ltc cf w x.2.2[a]!) x.2.2 x.2.1 x.1 = u := (by rw [← u3]; exact up_stop (by simpa [ltc] using ht120))
            have hdn : scanDown (fun w => !ltc cf w x.2.2[a]!) x.2.2 u x.2.1 = v := (by rw [← v2]; exact down_stop (by simpa [ltc] using ht139))
            refine a_region ?_
            refine rm (.int _ _) ?_
            refine rm (.int _ _) ?_
            refine rv (v := .bool _) (v_gtr il il) ?_
            refine r_nil ?_
            refine a_cond rfl (fun ht144 => ?_) (fun ht144 => ?_)
            ·
              refine a_exit ?_
              refine a_seq ?_
              have hfin : (partition (ltc cf) d a b pivot) = (v, false, swp x.2.2 v a) := (by rw [hpm, ← g5, pl_end hup hdn (by simp at ht144; omega)])
              have hp1 : v * 1 + 1 ≤ (acells x.2.2).length := (by rw [acells_length]; omega)
              have hp2 : a * 1 + 1 ≤ ((acells x.2.2).set (v * 1) (.int .i64 x.2.2[a]!)).length := (by rw [List.length_set, acells_length]; omega)
              have hset : ((acells x.2.2).set (v * 1) (.int .i64 x.2.2[a]!)).set (a * 1) (.int .i64 x.2.2[v]!) = acells (swp x.2.2 v a) := (by rw [Nat.mul_one, Nat.mul_one]; exact acells_swp _ _ _)
              refine a_region_w [(163, true), (164, true), (165, true), (166, true), (167, true), (168, true), (169, true), (170, true), (171, true), (172, true), (173, true), (174, true), (175, true), (INH, false), (176, true), (INH, false)] mixed (by kernel_rfl) ?_
              refine wv (v := .rsl _ _ _ _ _) (v_move il nf) ?_
              refine wv (v := .int _ _) (v_move il nf) ?_
              refine wv (v := .rsl _ _ _ _ _) (v_move il nf) ?_
              refine wv (v := .int _ _) (v_move il nf) ?_
              refine wv (v := .rsl _ _ _ _ _) (v_move il nf) ?_
              refine wv (v := .int _ _) (v_move il nf) ?_
              refine wv (v := .rp _ _) (v_indexAddr_rsl0 es25 il il (fun _ => by omega)) ?_
              refine wv (v := .int .i64 x.2.2[a]!) (v_load_rp1 ta3 il rfl (fun _ => by rw [Nat.mul_one]; exact acells_get (by omega)) rfl) ?_
              refine wv (v := .rsl _ _ _ _ _) (v_move il nf) ?_
              refine wv (v := .int _ _) (v_move il nf) ?_
              refine wv (v := .rp _ _) (v_indexAddr_rsl0 es25 il il (fun _ => by omega)) ?_
              refine wv (v := .int .i64 x.2.2[v]!) (v_load_rp1 ta3 il rfl (fun _ => by rw [Nat.mul_one]; exact acells_get (by omega)) rfl) ?_
              refine wv (v := .rp _ _) (v_indexAddr_rsl0 es25 il il (fun _ => by omega)) ?_
              refine w_store (v := .int _ _) (y' := .osl _ _ _ _) rfl rfl rfl ta3 (.inl rfl) (.inl rfl) rfl rfl rfl rfl rfl rfl hp1 (by decide) rfl rfl rfl (by kernel_rfl) ?_
              refine wv (v := .rp _ _) (v_indexAddr_rsl0 es25 il il (fun _ => by omega)) ?_
              refine w_store (v := .int _ _) (y' := .osl _ _ _ _) rfl rfl rfl ta3 (.inl rfl) (.inl rfl) rfl rfl rfl rfl rfl rfl hp2 (by decide) rfl (congrArg (fun c => AV.osl 1 c n none) hset) rfl (by kernel_rfl) ?_
              refine w_nil ?_
              refine a_seq ?_
              refine a_pre (ent_look (L := [(0, .rsl _ _ _ _ _), (1, .int _ _), (4, .fn _ _ _), (12, .int _ _), (13, .int _ _), (INH, .osl _ _ _ _)]) ⟨wr, wr, wr, wr, wr, wr, trivial⟩) ?_
              refine a_region ?_
              refine rm (.int _ _) ?_
              refine ra (.int _ _) ?_
              refine ra (.bool _) ?_
              refine r_nil ?_
              refine a_ret ?_
              refine retLO (rs := [.tmp 10, .tmp 11]) [(10, _), (11, _)] ⟨(Weak.of_eq (osl_eq (by rw [hfin]))), wr, wr, trivial⟩ rfl Tryz.results192 (by decide) ⟨by decide, by decide, rfl⟩ (by decide) (by decide) (l2_eq (int_eq ?_) (bool_eq ?_)) rfl rfl
              · rw [hfin]
              · rw [hfin]
            ·
              refine a_skip ?_
              refine a_seq ?_
              have huv : u ≤ v := (by simp at ht144; omega)
              have hp1 : u * 1 + 1 ≤ (acells x.2.2).length := (by rw [acells_length]; omega)
              have hp2 : v * 1 + 1 ≤ ((acells x.2.2).set (u * 1) (.int .i64 x.2.2[v]!)).length := (by rw [List.length_set, acells_length]; omega)
              have hset : ((acells x.2.2).set (u * 1) (.int .i64 x.2.2[v]!)).set (v * 1) (.int .i64 x.2.2[u]!) = acells (swp x.2.2 u v) := (by rw [Nat.mul_one, Nat.mul_one]; exact acells_swp _ _ _)
              refine a_region_w [(145, true), (146, true), (147, true), (148, true), (149, true), (150, true), (151, true), (152, true), (153, true), (154, true), (155, true), (156, true), (157, true), (INH, false), (158, true), (INH, false)] mixed (by kernel_rfl) ?_
              refine wv (v := .rsl _ _ _ _ _) (v_move il nf) ?_
              refine wv (v := .int _ _) (v_move il nf) ?_
              refine wv (v := .rsl _ _ _ _ _) (v_move il nf) ?_
              refine wv (v := .int _ _) (v_move il nf) ?_
              refine wv (v := .rsl _ _ _ _ _) (v_move il nf) ?_
              refine wv (v := .int _ _) (v_move il nf) ?_
              refine wv (v := .rp _ _) (v_indexAddr_rsl0 es25 il il (fun _ => by omega)) ?_
              refine wv (v := .int .i64 x.2.2[v]!) (v_load_rp1 ta3 il rfl (fun _ => by rw [Nat.mul_one]; exact acells_get (by omega)) rfl) ?_
              refine wv (v := .rsl _ _ _ _ _) (v_move il nf) ?_
              refine wv (v := .int _ _) (v_move il nf) ?_
              refine wv (v := .rp _ _) (v_indexAddr_rsl0 es25 il il (fun _ => by omega)) ?_
              refine wv (v := .int .i64 x.2.2[u]!) (v_load_rp1 ta3 il rfl (fun _ => by rw [Nat.mul_one]; exact acells_get (by omega)) rfl) ?_
              refine wv (v := .rp _ _) (v_indexAddr_rsl0 es25 il il (fun _ => by omega)) ?_
              refine w_store (v := .int _ _) (y' := .osl _ _ _ _) rfl rfl rfl ta3 (.inl rfl) (.inl rfl) rfl rfl rfl rfl rfl rfl hp1 (by decide) rfl rfl rfl (by kernel_rfl) ?_
              refine wv (v := .rp _ _) (v_indexAddr_rsl0 es25 il il (fun _ => by omega)) ?_
              refine w_store (v := .int _ _) (y' := .osl _ _ _ _) rfl rfl rfl ta3 (.inl rfl) (.inl rfl) rfl rfl rfl rfl rfl rfl hp2 (by decide) rfl (congrArg (fun c => AV.osl 1 c n none) hset) rfl (by kernel_rfl) ?_
              refine w_nil ?_
              refine a_seq ?_
              refine a_pre (ent_look (L := [(0, .rsl _ _ _ _ _), (1, .int _ _), (4, .fn _ _ _), (12, .int _ _), (13, .int _ _), (INH, .osl _ _ _ _)]) ⟨wr, wr, wr, wr, wr, wr, trivial⟩) ?_
              refine a_region ?_
              refine rm (.int _ _) ?_
              refine rv (v := .int _ _) (v_add il il (fun _ => by omega)) ?_
              refine ra (.int _ _) ?_
              refine r_nil ?_
              refine a_region ?_
              refine rm (.int _ _) ?_
              refine rv (v := .int _ _) (v_sub il il (fun _ => by omega)) ?_
              refine ra (.int _ _) ?_
              refine r_nil ?_
              refine ⟨(u + 1, v - 1, swp x.2.2 u v), ent_look ⟨wr, wr, wr, Weak.of_eq (int_eq (by dsimp only; omega)), Weak.of_eq (int_eq (by dsimp only; omega)), wr, trivial⟩, ⟨by dsimp only; omega, by dsimp only; omega, by rw [swp_size]; exact g3, by dsimp only; omega, by rw [← g5]; exact (pl_more hup hdn (by omega)).symm⟩, by dsimp only; omega⟩
theorem partialIns_c (f : Nat) (hb : hasBody Tryz.prog f = true) (cf : Int → Int → Int) (hc : ∀ x y, ACall Tryz.prog f [.int .i64 x, .int .i64 y] [] (.int .i64 (cf x y)) []) (d : Array Int) (n a b : Nat) (hd : d.size = n) (hab : a < b ∧ b ≤ n) (hn : n ≤ 1152921504606846976) : ACall Tryz.prog 190 [.rsl (INH, []) 1 0 n none, .int .i64 ((a : Nat) : Int), .int .i64 ((b : Nat) : Int), .fn f [] []] [.osl 1 (acells d) n none] (.bool (partialInsertionSort (ltc cf) d a b).2) [.osl 1 (acells ((partialInsertionSort (ltc cf) d a b).1)) n none] := by
 refine ACall.intro Tryz.func190 rfl (N := 141) rfl (by decide) (by simp) ?_
 refine aq ?_
 refine ra (.bool _) ?_
 refine r_nil ?_
 refine aq ?_
 refine rm (.int _ _) ?_
 refine rv (v := .int _ _) (v_add il il (fun _ => by omega)) ?_
 refine ra (.int _ _) ?_
 refine r_nil ?_
 refine a_seq ?_
 refine aq ?_
 refine ra (.int _ _) ?_
 refine r_nil ?_
 refine a_block ?_
 refine a_loop (X := (Nat × Nat × Array Int)) (fun x => look [(0, .rsl (INH, []) 1 0 n none), (1, .int .i64 ((a : Nat) : Int)), (2, .int .i64 ((b : Nat) : Int)), (3, .fn f [] []), (9, .int .i64 ((x.2.1 : Nat) : Int)), (10, .int .i64 ((x.1 : Nat) : Int)), (INH, .osl 1 (acells x.2.2) n none)]) (fun x => x.1 ≤ 5 ∧ a < x.2.1 ∧ x.2.1 ≤ b ∧ x.2.2.size = n ∧ partialIns (ltc cf) a b (5 - x.1) x.2.1 x.2.2 = (partialInsertionSort (ltc cf) d a b)) (fun x => 5 - x.1) (0, a + 1, d) (ent_look ⟨wr, wr, wr, wr, Weak.of_eq (int_eq (by dsimp only; omega)), Weak.of_eq (int_eq (by dsimp only; omega)), wr, trivial⟩) ⟨by dsimp only; omega, by dsimp only; omega, by dsimp only; omega, hd, rfl⟩ (fun x hG => ?_)
 obtain ⟨g1, g2, g3, g4, g5⟩ := hG
 refine a_seq ?_
 refine aq ?_
 refine rm (.int _ _) ?_
 refine rv (v := .bool _) (v_lss il il) ?_
 refine r_nil ?_
 refine a_cond rfl (fun ht16 => ?_) (fun ht16 => ?_)
 ·
  refine a_skip ?_
  refine a_seq ?_
  refine a_block ?_
  refine a_seq ?_
  refine a_block ?_
  refine a_loop (X := Nat) (fun u => look [(0, .rsl (INH, []) 1 0 n none), (1, .int .i64 ((a : Nat) : Int)), (2, .int .i64 ((b : Nat) : Int)), (3, .fn f [] []), (9, .int .i64 ((u : Nat) : Int)), (10, .int .i64 ((x.1 : Nat) : Int)), (INH, .osl 1 (acells x.2.2) n none)]) (fun u => x.2.1 ≤ u ∧ u ≤ b ∧ scanSorted (ltc cf) x.2.2 b u = scanSorted (ltc cf) x.2.2 b x.2.1) (fun u => b - u) x.2.1 (ent_look ⟨wr, wr, wr, wr, wr, wr, wr, trivial⟩) ⟨Nat.le_refl _, g3, rfl⟩ (fun u hG => ?_)
  obtain ⟨u1, u2, u3⟩ := hG
  refine a_seq ?_
  refine a_seq ?_
  refine a_region_any mixed (by kernel_rfl) ?_
  refine yv (v := .int _ _) (v_move il nf) ?_
  refine yv (v := .int _ _) (v_move il nf) ?_
  refine yv (v := .bool _) (v_lss il il) ?_
  refine yv (v := .bool _) (v_move il nf) ?_
  refine yh (v := .fn _ _ _) (v_move il nf).quiet ?_
  refine yh (v := .rsl _ _ _ _ _) (v_move il nf).quiet ?_
  refine yh (v := .int _ _) (v_move il nf).quiet ?_
  refine yg (v := .rp _ _) (v_indexAddr_rsl0 es25 (.inr ⟨_, rfl, fun h => h⟩) (.inr ⟨_, rfl, fun h => h⟩) (fun hA => by simp at hA; omega)).quiet rfl rfl rfl (by decide) (.inl ⟨_, rfl, rfl⟩) ?_
  refine yg (v := .int .i64 x.2.2[u]!) (v_load_rp1 ta3 (.inr ⟨_, rfl, fun h => h⟩) rfl (fun hA => by simp at hA; rw [Nat.mul_one]; exact acells_get (by omega)) rfl).quiet rfl rfl rfl (by decide) (.inl ⟨_, rfl, rfl⟩) ?_
  refine yh (v := .rsl _ _ _ _ _) (v_move il nf).quiet ?_
  refine yh (v := .int _ _) (v_move il nf).quiet ?_
  refine yg (v := .int _ _) (v_sub (.inr ⟨_, rfl, fun h => h⟩) il (fun hA => by simp at hA; omega)).quiet rfl rfl rfl (by decide) (.inl ⟨_, rfl, rfl⟩) ?_
  refine yg (v := .rp _ _) (v_indexAddr_rsl0 es25 (.inr ⟨_, rfl, fun h => h⟩) (.inr ⟨_, rfl, fun h => h⟩) (fun hA => by simp at hA; omega)).quiet rfl rfl rfl (by decide) (.inl ⟨_, rfl, rfl⟩) ?_
  refine yg (v := .int .i64 x.2.2[u - 1]!) (v_load_rp1 ta3 (.inr ⟨_, rfl, fun h => h⟩) rfl (fun hA => by simp at hA; rw [show ((u : Int) - 1).toNat = u - 1 by omega, Nat.mul_one]; exact acells_get (by omega)) rfl).quiet rfl rfl rfl (by decide) (.inl ⟨_, rfl, rfl⟩) ?_
  refine yg (v := .int _ _) (q_clo (vs := [.int _ _, .int _ _]) (args := [.int .i64 _, .int .i64 _]) hb (.inr ⟨_, rfl, fun h => h⟩) ⟨.inr ⟨_, rfl, fun h => h⟩, .inr ⟨_, rfl, fun h => h⟩, trivial⟩ rfl (fun hA => hc _ _) rfl rfl) rfl rfl rfl (by decide) (.inl ⟨_, rfl, rfl⟩) ?_
  refine yg (v := .bool _) (v_lss (.inr ⟨_, rfl, fun h => h⟩) il).quiet rfl rfl rfl (by decide) (.inl ⟨_, rfl, rfl⟩) ?_
  refine yg (v := .bool _) (v_not (.inr ⟨_, rfl, fun h => h⟩)).quiet rfl rfl rfl (by decide) (.inl ⟨_, rfl, rfl⟩) ?_
  refine yv (v := .bool _) (v_pick (.inl rfl) (.inr ⟨_, rfl, fun h h2 => by simp_all⟩) (.inl rfl)) ?_
  refine y_nil ?_
  refine a_cond rfl (fun ht36 => ?_) (fun ht36 => ?_)
  ·
   refine a_skip ?_
   refine a_block ?_
   refine a_region ?_
   refine rm (.int _ _) ?_
   refine rv (v := .int _ _) (v_add il il (fun _ => by omega)) ?_
   refine ra (.int _ _) ?_
   refine r_nil ?_
   have hcu : (decide (u < b) && !ltc cf x.2.2[u]! x.2.2[u - 1]!) = true := (by simpa [ltc] using ht36)
   refine ⟨u + 1, ent_look ⟨wr, wr, wr, wr, Weak.of_eq (int_eq (by omega)), wr, wr, trivial⟩, ⟨by omega, by simp at hcu; omega, by rw [← u3]; exact ss_more hcu⟩, by simp at hcu; omega⟩
  ·
   refine a_exit ?_
   refine a_seq ?_
   refine a_seq ?_
   have hss : scanSorted (ltc cf) x.2.2 b x.2.1 = u := (by rw [← u3]; exact ss_stop (by simpa [ltc] using ht36))
   have hx4 : x.1 < 5 := (by simp at ht16; omega)
   have e5 : 5 - x.1 = (5 - (x.1 + 1)) + 1 := (by omega)
   refine a_region ?_
   refine rm (.int _ _) ?_
   refine rm (.int _ _) ?_
   refine rv (v := .bool _) (v_eql il il) ?_
   refine r_nil ?_
   refine a_cond rfl (fun ht41 => ?_) (fun ht41 => ?_)
   ·
    refine a_seq ?_
    have hfin : (partialInsertionSort (ltc cf) d a b) = (x.2.2, true) := (by rw [← g5, e5]; exact pi_true hss (by simp at ht41; omega))
    refine a_region ?_
    refine ra (.bool _) ?_
    refine r_nil ?_
    refine a_ret ?_
    refine ret1 Tryz.results190 (by decide) (by decide) (Weak.of_eq (bool_eq ?_)) rfl (Leaves.one (Weak.of_eq (osl_eq (by rw [hfin]))) rfl)
    rw [hfin]
   ·
    refine a_skip ?_
    refine a_seq ?_
    refine a_seq ?_
    have hub : ¬ u = b := (by simp at ht41; omega)
    refine a_region ?_
    refine rm (.int _ _) ?_
    refine rm (.int _ _) ?_
    refine rv (v := .int _ _) (v_sub il il (fun _ => by omega)) ?_
    refine rv (v := .bool _) (v_lss il il) ?_
    refine r_nil ?_
    refine a_cond rfl (fun ht45 => ?_) (fun ht45 => ?_)
    ·
     refine a_seq ?_
     refine a_pre (ent_look (L := [(0, .rsl _ _ _ _ _), (1, .int _ _), (2, .int _ _), (3, .fn _ _ _), (9, .int _ _), (10, .int _ _), (INH, .osl _ _ _ _)]) ⟨wr, wr, wr, wr, wr, wr, wr, trivial⟩) ?_
     have hfin : (partialInsertionSort (ltc cf) d a b) = (x.2.2, false) := (by rw [← g5, e5]; exact pi_false hss hub (by simp at ht45; omega))
     refine a_region ?_
     refine ra (.bool _) ?_
     refine r_nil ?_
     refine a_ret ?_
     refine ret1 Tryz.results190 (by decide) (by decide) (Weak.of_eq (bool_eq ?_)) rfl (Leaves.one (Weak.of_eq (osl_eq (by rw [hfin]))) rfl)
     rw [hfin]
    ·
     refine a_skip ?_
     refine a_seq ?_
     refine a_pre (ent_look (L := [(0, .rsl _ _ _ _ _), (1, .int _ _), (2, .int _ _), (3, .fn _ _ _), (9, .int _ _), (10, .int _ _), (INH, .osl _ _ _ _)]) ⟨wr, wr, wr, wr, wr, wr, wr, trivial⟩) ?_
     have h50 : ¬ b - a < 50 := (by simp at ht45; omega)
     have hp1 : u * 1 + 1 ≤ (acells x.2.2).length := (by rw [acells_length]; omega)
     have hp2 : (u - 1) * 1 + 1 ≤ ((acells x.2.2).set (u * 1) (.int .i64 x.2.2[(u - 1)]!)).length := (by rw [List.length_set, acells_length]; omega)
     have hset : ((acells x.2.2).set (u * 1) (.int .i64 x.2.2[(u - 1)]!)).set ((u - 1) * 1) (.int .i64 x.2.2[u]!) = acells (swp x.2.2 u (u - 1)) := (by rw [Nat.mul_one, Nat.mul_one]; exact acells_swp _ _ _)
     refine a_region_w [(46, true), (47, true), (48, true), (49, true), (50, true), (51, true), (52, true), (53, true), (54, true), (55, true), (56, true), (57, true), (58, true), (59, true), (60, true), (INH, false), (61, true), (INH, false)] mixed (by kernel_rfl) ?_
     refine wv (v := .rsl _ _ _ _ _) (v_move il nf) ?_
     refine wv (v := .int _ _) (v_move il nf) ?_
     refine wv (v := .rsl _ _ _ _ _) (v_move il nf) ?_
     refine wv (v := .int _ _) (v_move il nf) ?_
     refine wv (v := .int .i64 ((u - 1 : Nat) : Int)) ((v_sub il il (fun _ => by omega)).cast (int_eq (by omega))) ?_
     refine wv (v := .rsl _ _ _ _ _) (v_move il nf) ?_
     refine wv (v := .int _ _) (v_move il nf) ?_
     refine wv (v := .int .i64 ((u - 1 : Nat) : Int)) ((v_sub il il (fun _ => by omega)).cast (int_eq (by omega))) ?_
     refine wv (v := .rp _ _) (v_indexAddr_rsl0 es25 il il (fun _ => by omega)) ?_
     refine wv (v := .int .i64 x.2.2[u - 1]!) (v_load_rp1 ta3 il rfl (fun _ => by rw [Nat.mul_one]; exact acells_get (by omega)) rfl) ?_
     refine wv (v := .rsl _ _ _ _ _) (v_move il nf) ?_
     refine wv (v := .int _ _) (v_move il nf) ?_
     refine wv (v := .rp _ _) (v_indexAddr_rsl0 es25 il il (fun _ => by omega)) ?_
     refine wv (v := .int .i64 x.2.2[u]!) (v_load_rp1 ta3 il rfl (fun _ => by rw [Nat.mul_one]; exact acells_get (by omega)) rfl) ?_
     refine wv (v := .rp _ _) (v_indexAddr_rsl0 es25 il il (fun _ => by omega)) ?_
     refine w_store (v := .int _ _) (y' := .osl _ _ _ _) rfl rfl rfl ta3 (.inl rfl) (.inl rfl) rfl rfl rfl rfl rfl rfl hp1 (by decide) rfl rfl rfl (by kernel_rfl) ?_
     refine wv (v := .rp _ _) (v_indexAddr_rsl0 es25 il il (fun _ => by omega)) ?_
     refine w_store (v := .int _ _) (y' := .osl _ _ _ _) rfl rfl rfl ta3 (.inl rfl) (.inl rfl) rfl rfl rfl rfl rfl rfl hp2 (by decide) rfl (congrArg (fun c => AV.osl 1 c n none) hset) rfl (by kernel_rfl) ?_
     refine w_nil ?_
     refine a_seq ?_
     refine aq ?_
     refine rm (.int _ _) ?_
     refine rm (.int _ _) ?_
     refine rv (v := .int _ _) (v_sub il il (fun _ => by omega)) ?_
     refine rv (v := .bool _) (v_geq il il) ?_
     refine r_nil ?_
     refine a_cond rfl (fun ht65 => ?_) (fun ht65 => ?_)
     ·
      refine aq ?_
      refine rm (.int _ _) ?_
      refine rv (v := .int _ _) (v_sub il il (fun _ => by omega)) ?_
      refine ra (.int _ _) ?_
      refine r_nil ?_
      refine a_block ?_
      refine a_loop (X := (Nat × Array Int)) (fun y => look [(0, .rsl (INH, []) 1 0 n none), (1, .int .i64 ((a : Nat) : Int)), (2, .int .i64 ((b : Nat) : Int)), (3, .fn f [] []), (9, .int .i64 ((u : Nat) : Int)), (10, .int .i64 ((x.1 : Nat) : Int)), (11, .int .i64 ((y.1 : Nat) : Int)), (INH, .osl 1 (acells y.2) n none)]) (fun y => y.1 < n ∧ y.2.size = n ∧ shiftDown (ltc cf) y.1 y.2 = shiftDown (ltc cf) (u - 1) (swp x.2.2 u (u - 1))) (fun y => y.1) (u - 1, swp x.2.2 u (u - 1)) (ent_look ⟨wr, wr, wr, wr, wr, wr, Weak.of_eq (int_eq (by dsimp only; omega)), wr, trivial⟩) ⟨by dsimp only; omega, by rw [swp_size]; exact g4, rfl⟩ (fun y hG => ?_)
      obtain ⟨y1, y2, y3⟩ := hG
      refine a_seq ?_
      refine aq ?_
      refine rm (.int _ _) ?_
      refine rv (v := .bool _) (v_geq il il) ?_
      refine r_nil ?_
      refine a_cond rfl (fun ht69 => ?_) (fun ht69 => ?_)
      ·
       refine a_skip ?_
       refine a_seq ?_
       refine a_block ?_
       refine a_seq ?_
       refine a_seq ?_
       have hy1 : 1 ≤ y.1 := (by simp at ht69; omega)
       refine a_region_any mixed (by kernel_rfl) ?_
       refine yv (v := .fn _ _ _) (v_mv rfl) ?_
       refine yv (v := .rsl _ _ _ _ _) (v_move il nf) ?_
       refine yv (v := .int _ _) (v_move il nf) ?_
       refine yv (v := .rp _ _) (v_indexAddr_rsl0 es25 il il (fun _ => by omega)) ?_
       refine yv (v := .int .i64 y.2[y.1]!) (v_load_rp1 ta3 il rfl (fun _ => by rw [Nat.mul_one]; exact acells_get (by omega)) rfl) ?_
       refine yv (v := .rsl _ _ _ _ _) (v_move il nf) ?_
       refine yv (v := .int _ _) (v_move il nf) ?_
       refine yv (v := .int .i64 ((y.1 - 1 : Nat) : Int)) ((v_sub il il (fun _ => by omega)).cast (int_eq (by omega))) ?_
       refine yv (v := .rp _ _) (v_indexAddr_rsl0 es25 il il (fun _ => by omega)) ?_
       refine yv (v := .int .i64 y.2[y.1 - 1]!) (v_load_rp1 ta3 il rfl (fun _ => by rw [Nat.mul_one]; exact acells_get (by omega)) rfl) ?_
       refine y_new (v := .int _ _) (q_clo (vs := [.int _ _, .int _ _]) (args := [.int .i64 _, .int .i64 _]) hb (.inl rfl) ⟨.inl rfl, .inl rfl, trivial⟩ rfl (fun hA => hc _ _) rfl rfl) rfl rfl (by decide) (by kernel_rfl) ?_
       refine yv (v := .bool _) (v_lss il il) ?_
       refine yv (v := .bool _) (v_not il) ?_
       refine y_nil ?_
       refine a_cond rfl (fun ht84 => ?_) (fun ht84 => ?_)
       ·
        refine a_exit ?_
        refine a_seq ?_
        refine a_pre (ent_eq (t := INH) (v' := .osl 1 (acells (afterDown (ltc cf) a u (swp x.2.2 u (u - 1)))) n none) (Weak.of_eq (osl_eq (by unfold afterDown; first | (rw [if_pos (by simp at ht65; omega), ← y3, show y.1 = 0 by simp at ht69; omega]; rfl) | (rw [if_pos (by simp at ht65; omega), ← y3, sd_stop (by simpa [ltc] using ht84)]; done) | (rw [if_neg (by simp at ht65; omega)]))))) ?_
        refine a_region ?_
        refine rm (.int _ _) ?_
        refine rm (.int _ _) ?_
        refine rv (v := .int _ _) (v_sub il il (fun _ => by omega)) ?_
        refine rv (v := .bool _) (v_geq il il) ?_
        refine r_nil ?_
        refine a_cond rfl (fun ht104 => ?_) (fun ht104 => ?_)
        ·
         refine a_seq ?_
         have hup2 : b - u ≥ 2 := (by simp at ht104; omega)
         refine a_region ?_
         refine rm (.int _ _) ?_
         refine rv (v := .int _ _) (v_add il il (fun _ => by omega)) ?_
         refine ra (.int _ _) ?_
         refine r_nil ?_
         refine a_block ?_
         refine a_loop (X := (Nat × Array Int)) (fun z => look [(0, .rsl (INH, []) 1 0 n none), (1, .int .i64 ((a : Nat) : Int)), (2, .int .i64 ((b : Nat) : Int)), (3, .fn f [] []), (9, .int .i64 ((u : Nat) : Int)), (10, .int .i64 ((x.1 : Nat) : Int)), (12, .int .i64 ((z.1 : Nat) : Int)), (INH, .osl 1 (acells z.2) n none)]) (fun z => 1 ≤ z.1 ∧ z.1 ≤ n ∧ z.2.size = n ∧ shiftUp (ltc cf) b z.1 z.2 = shiftUp (ltc cf) b (u + 1) (afterDown (ltc cf) a u (swp x.2.2 u (u - 1)))) (fun z => b - z.1) (u + 1, (afterDown (ltc cf) a u (swp x.2.2 u (u - 1)))) (ent_look ⟨wr, wr, wr, wr, wr, wr, Weak.of_eq (int_eq (by dsimp only; omega)), wr, trivial⟩) ⟨by dsimp only; omega, by dsimp only; omega, by rw [ad_size, swp_size]; exact g4, rfl⟩ (fun z hG => ?_)
         obtain ⟨w0, w1, w2, w3⟩ := hG
         refine a_seq ?_
         refine aq ?_
         refine rm (.int _ _) ?_
         refine rm (.int _ _) ?_
         refine rv (v := .bool _) (v_lss il il) ?_
         refine r_nil ?_
         refine a_cond rfl (fun ht109 => ?_) (fun ht109 => ?_)
         ·
          refine a_skip ?_
          refine a_seq ?_
          refine a_block ?_
          refine a_seq ?_
          refine a_seq ?_
          have hzb : z.1 < b := (by simpa using ht109)
          refine a_region_any mixed (by kernel_rfl) ?_
          refine yv (v := .fn _ _ _) (v_mv rfl) ?_
          refine yv (v := .rsl _ _ _ _ _) (v_move il nf) ?_
          refine yv (v := .int _ _) (v_move il nf) ?_
          refine yv (v := .rp _ _) (v_indexAddr_rsl0 es25 il il (fun _ => by omega)) ?_
          refine yv (v := .int .i64 z.2[z.1]!) (v_load_rp1 ta3 il rfl (fun _ => by rw [Nat.mul_one]; exact acells_get (by omega)) rfl) ?_
          refine yv (v := .rsl _ _ _ _ _) (v_move il nf) ?_
          refine yv (v := .int _ _) (v_move il nf) ?_
          refine yv (v := .int .i64 ((z.1 - 1 : Nat) : Int)) ((v_sub il il (fun _ => by omega)).cast (int_eq (by omega))) ?_
          refine yv (v := .rp _ _) (v_indexAddr_rsl0 es25 il il (fun _ => by omega)) ?_
          refine yv (v := .int .i64 z.2[z.1 - 1]!) (v_load_rp1 ta3 il rfl (fun _ => by rw [Nat.mul_one]; exact acells_get (by omega)) rfl) ?_
          refine y_new (v := .int _ _) (q_clo (vs := [.int _ _, .int _ _]) (args := [.int .i64 _, .int .i64 _]) hb (.inl rfl) ⟨.inl rfl, .inl rfl, trivial⟩ rfl (fun hA => hc _ _) rfl rfl) rfl rfl (by decide) (by kernel_rfl) ?_
          refine yv (v := .bool _) (v_lss il il) ?_
          refine yv (v := .bool _) (v_not il) ?_
          refine y_nil ?_
          refine a_cond rfl (fun ht124 => ?_) (fun ht124 => ?_)
          ·
           refine a_exit ?_
           refine a_region ?_
           refine rm (.int _ _) ?_
           refine rv (v := .int _ _) (v_add il il (fun _ => by omega)) ?_
           refine ra (.int _ _) ?_
           refine r_nil ?_
           refine ⟨(x.1 + 1, u, afterUp (ltc cf) b u (afterDown (ltc cf) a u (swp x.2.2 u (u - 1)))), ent_look ⟨wr, wr, wr, wr, wr, Weak.of_eq (int_eq (by dsimp only; omega)), Weak.of_eq (osl_eq (by unfold afterUp; first | (rw [if_pos hup2, ← w3, su_end (by simpa using ht109)]; done) | (rw [if_pos hup2, ← w3, su_stop (by simpa [ltc] using ht124)]; done) | (rw [if_neg (by simp at ht104; omega)]))), trivial⟩, ⟨by dsimp only; omega, by dsimp only; omega, by dsimp only; omega, by rw [au_size, ad_size, swp_size]; exact g4, by rw [← g5, show 5 - x.1 = (5 - (x.1 + 1)) + 1 by omega]; exact (pi_more hss hub h50).symm⟩, by dsimp only; omega⟩
          ·
           refine a_skip ?_
           have hzl : ltc cf z.2[z.1]! z.2[z.1 - 1]! = true := (by simpa [ltc] using ht124)
           have hp1 : z.1 * 1 + 1 ≤ (acells z.2).length := (by rw [acells_length]; omega)
           have hp2 : (z.1 - 1) * 1 + 1 ≤ ((acells z.2).set (z.1 * 1) (.int .i64 z.2[(z.1 - 1)]!)).length := (by rw [List.length_set, acells_length]; omega)
           have hset : ((acells z.2).set (z.1 * 1) (.int .i64 z.2[(z.1 - 1)]!)).set ((z.1 - 1) * 1) (.int .i64 z.2[z.1]!) = acells (swp z.2 z.1 (z.1 - 1)) := (by rw [Nat.mul_one, Nat.mul_one]; exact acells_swp _ _ _)
           refine a_region_w [(125, true), (126, true), (127, true), (128, true), (129, true), (130, true), (131, true), (132, true), (133, true), (134, true), (135, true), (136, true), (137, true), (138, true), (139, true), (INH, false), (140, true), (INH, false)] mixed (by kernel_rfl) ?_
           refine wv (v := .rsl _ _ _ _ _) (v_move il nf) ?_
           refine wv (v := .int _ _) (v_move il nf) ?_
           refine wv (v := .rsl _ _ _ _ _) (v_move il nf) ?_
           refine wv (v := .int _ _) (v_move il nf) ?_
           refine wv (v := .int .i64 ((z.1 - 1 : Nat) : Int)) ((v_sub il il (fun _ => by omega)).cast (int_eq (by omega))) ?_
           refine wv (v := .rsl _ _ _ _ _) (v_move il nf) ?_
           refine wv (v := .int _ _) (v_move il nf) ?_
           refine wv (v := .int .i64 ((z.1 - 1 : Nat) : Int)) ((v_sub il il (fun _ => by omega)).cast (int_eq (by omega))) ?_
           refine wv (v := .rp _ _) (v_indexAddr_rsl0 es25 il il (fun _ => by omega)) ?_
           refine wv (v := .int .i64 z.2[z.1 - 1]!) (v_load_rp1 ta3 il rfl (fun _ => by rw [Nat.mul_one]; exact acells_get (by omega)) rfl) ?_
           refine wv (v := .rsl _ _ _ _ _) (v_move il nf) ?_
           refine wv (v := .int _ _) (v_move il nf) ?_
           refine wv (v := .rp _ _) (v_indexAddr_rsl0 es25 il il (fun _ => by omega)) ?_
           refine wv (v := .int .i64 z.2[z.1]!) (v_load_rp1 ta3 il rfl (fun _ => by rw [Nat.mul_one]; exact acells_get (by omega)) rfl) ?_
           refine wv (v := .rp _ _) (v_indexAddr_rsl0 es25 il il (fun _ => by omega)) ?_
           refine w_store (v := .int _ _) (y' := .osl _ _ _ _) rfl rfl rfl ta3 (.inl rfl) (.inl rfl) rfl rfl rfl rfl rfl rfl hp1 (by decide) rfl rfl rfl (by kernel_rfl) ?_
           refine wv (v := .rp _ _) (v_indexAddr_rsl0 es25 il il (fun _ => by omega)) ?_
           refine w_store (v := .int _ _) (y' := .osl _ _ _ _) rfl rfl rfl ta3 (.inl rfl) (.inl rfl) rfl rfl rfl rfl rfl rfl hp2 (by decide) rfl (congrArg (fun c => AV.osl 1 c n none) hset) rfl (by kernel_rfl) ?_
           refine w_nil ?_
           refine a_pre (ent_look (L := [(0, .rsl _ _ _ _ _), (1, .int _ _), (2, .int _ _), (3, .fn _ _ _), (9, .int _ _), (10, .int _ _), (12, .int _ _), (INH, .osl _ _ _ _)]) ⟨wr, wr, wr, wr, wr, wr, wr, wr, trivial⟩) ?_
           refine a_region ?_
           refine rm (.int _ _) ?_
           refine rv (v := .int _ _) (v_add il il (fun _ => by omega)) ?_
           refine ra (.int _ _) ?_
           refine r_nil ?_
           refine ⟨(z.1 + 1, swp z.2 z.1 (z.1 - 1)), ent_look ⟨wr, wr, wr, wr, wr, wr, Weak.of_eq (int_eq (by dsimp only; omega)), wr, trivial⟩, ⟨by dsimp only; omega, by dsimp only; omega, by rw [swp_size]; exact w2, by rw [← w3]; exact su_more hzb hzl⟩, by dsimp only; omega⟩
         ·
          refine a_exit ?_
          refine a_region ?_
          refine rm (.int _ _) ?_
          refine rv (v := .int _ _) (v_add il il (fun _ => by omega)) ?_
          refine ra (.int _ _) ?_
          refine r_nil ?_
          refine ⟨(x.1 + 1, u, afterUp (ltc cf) b u (afterDown (ltc cf) a u (swp x.2.2 u (u - 1)))), ent_look ⟨wr, wr, wr, wr, wr, Weak.of_eq (int_eq (by dsimp only; omega)), Weak.of_eq (osl_eq (by unfold afterUp; first | (rw [if_pos hup2, ← w3, su_end (by simpa using ht109)]; done) | (rw [if_pos hup2, ← w3, su_stop (by simpa [ltc] using ht124)]; done) | (rw [if_neg (by simp at ht104; omega)]))), trivial⟩, ⟨by dsimp only; omega, by dsimp only; omega, by dsimp only; omega, by rw [au_size, ad_size, swp_size]; exact g4, by rw [← g5, show 5 - x.1 = (5 - (x.1 + 1)) + 1 by omega]; exact (pi_more hss hub h50).symm⟩, by dsimp only; omega⟩
        ·
         refine a_skip ?_
         refine a_region ?_
         refine rm (.int _ _) ?_
         refine rv (v := .int _ _) (v_add il il (fun _ => by omega)) ?_
         refine ra (.int _ _) ?_
         refine r_nil ?_
         refine ⟨(x.1 + 1, u, afterUp (ltc cf) b u (afterDown (ltc cf) a u (swp x.2.2 u (u - 1)))), ent_look ⟨wr, wr, wr, wr, wr, Weak.of_eq (int_eq (by dsimp only; omega)), Weak.of_eq (osl_eq (by unfold afterUp; first | (rw [if_pos hup2, ← w3, su_end (by simpa using ht109)]; done) | (rw [if_pos hup2, ← w3, su_stop (by simpa [ltc] using ht124)]; done) | (rw [if_neg (by simp at ht104; omega)]))), trivial⟩, ⟨by dsimp only; omega, by dsimp only; omega, by dsimp only; omega, by rw [au_size, ad_size, swp_size]; exact g4, by rw [← g5, show 5 - x.1 = (5 - (x.1 + 1)) + 1 by omega]; exact (pi_more hss hub h50).symm⟩, by dsimp only; omega⟩
       ·
        refine a_skip ?_
        have hyl : ltc cf y.2[y.1]! y.2[y.1 - 1]! = true := (by simpa [ltc] using ht84)
        have hp1 : y.1 * 1 + 1 ≤ (acells y.2).length := (by rw [acells_length]; omega)
        have hp2 : (y.1 - 1) * 1 + 1 ≤ ((acells y.2).set (y.1 * 1) (.int .i64 y.2[(y.1 - 1)]!)).length := (by rw [List.length_set, acells_length]; omega)
        have hset : ((acells y.2).set (y.1 * 1) (.int .i64 y.2[(y.1 - 1)]!)).set ((y.1 - 1) * 1) (.int .i64 y.2[y.1]!) = acells (swp y.2 y.1 (y.1 - 1)) := (by rw [Nat.mul_one, Nat.mul_one]; exact acells_swp _ _ _)
        refine a_region_w [(85, true), (86, true), (87, true), (88, true), (89, true), (90, true), (91, true), (92, true), (93, true), (94, true), (95, true), (96, true), (97, true), (98, true), (99, true), (INH, false), (100, true), (INH, false)] mixed (by kernel_rfl) ?_
        refine wv (v := .rsl _ _ _ _ _) (v_move il nf) ?_
        refine wv (v := .int _ _) (v_move il nf) ?_
        refine wv (v := .rsl _ _ _ _ _) (v_move il nf) ?_
        refine wv (v := .int _ _) (v_move il nf) ?_
        refine wv (v := .int .i64 ((y.1 - 1 : Nat) : Int)) ((v_sub il il (fun _ => by omega)).cast (int_eq (by omega))) ?_
        refine wv (v := .rsl _ _ _ _ _) (v_move il nf) ?_
        refine wv (v := .int _ _) (v_move il nf) ?_
        refine wv (v := .int .i64 ((y.1 - 1 : Nat) : Int)) ((v_sub il il (fun _ => by omega)).cast (int_eq (by omega))) ?_
        refine wv (v := .rp _ _) (v_indexAddr_rsl0 es25 il il (fun _ => by omega)) ?_
        refine wv (v := .int .i64 y.2[y.1 - 1]!) (v_load_rp1 ta3 il rfl (fun _ => by rw [Nat.mul_one]; exact acells_get (by omega)) rfl) ?_
        refine wv (v := .rsl _ _ _ _ _) (v_move il nf) ?_
        refine wv (v := .int _ _) (v_move il nf) ?_
        refine wv (v := .rp _ _) (v_indexAddr_rsl0 es25 il il (fun _ => by omega)) ?_
        refine wv (v := .int .i64 y.2[y.1]!) (v_load_rp1 ta3 il rfl (fun _ => by rw [Nat.mul_one]; exact acells_get (by omega)) rfl) ?_
        refine wv (v := .rp _ _) (v_indexAddr_rsl0 es25 il il (fun _ => by omega)) ?_
        refine w_store (v := .int _ _) (y' := .osl _ _ _ _) rfl rfl rfl ta3 (.inl rfl) (.inl rfl) rfl rfl rfl rfl rfl rfl hp1 (by decide) rfl rfl rfl (by kernel_rfl) ?_
        refine wv (v := .rp _ _) (v_indexAddr_rsl0 es25 il il (fun _ => by omega)) ?_
        refine w_store (v := .int _ _) (y' := .osl _ _ _ _) rfl rfl rfl ta3 (.inl rfl) (.inl rfl) rfl rfl rfl rfl rfl rfl hp2 (by decide) rfl (congrArg (fun c => AV.osl 1 c n none) hset) rfl (by kernel_rfl) ?_
        refine w_nil ?_
        refine a_pre (ent_look (L := [(0, .rsl _ _ _ _ _), (1, .int _ _), (2, .int _ _), (3, .fn _ _ _), (9, .int _ _), (10, .int _ _), (11, .int _ _), (INH, .osl _ _ _ _)]) ⟨wr, wr, wr, wr, wr, wr, wr, wr, trivial⟩) ?_
        refine a_region ?_
        refine rm (.int _ _) ?_
        refine rv (v := .int _ _) (v_sub il il (fun _ => by omega)) ?_
        refine ra (.int _ _) ?_
        refine r_nil ?_
        refine ⟨(y.1 - 1, swp y.2 y.1 (y.1 - 1)), ent_look ⟨wr, wr, wr, wr, wr, wr, Weak.of_eq (int_eq (by dsimp only; omega)), wr, trivial⟩, ⟨by dsimp only; omega, by rw [swp_size]; exact y2, by rw [← y3]; exact sd_more hy1 hyl⟩, by dsimp only; omega⟩
      ·
       refine a_exit ?_
       refine a_seq ?_
       refine a_pre (ent_eq (t := INH) (v' := .osl 1 (acells (afterDown (ltc cf) a u (swp x.2.2 u (u - 1)))) n none) (Weak.of_eq (osl_eq (by unfold afterDown; first | (rw [if_pos (by simp at ht65; omega), ← y3, show y.1 = 0 by simp at ht69; omega]; rfl) | (rw [if_pos (by simp at ht65; omega), ← y3, sd_stop (by simpa [ltc] using ht84)]; done) | (rw [if_neg (by simp at ht65; omega)]))))) ?_
       refine a_region ?_
       refine rm (.int _ _) ?_
       refine rm (.int _ _) ?_
       refine rv (v := .int _ _) (v_sub il il (fun _ => by omega)) ?_
       refine rv (v := .bool _) (v_geq il il) ?_
       refine r_nil ?_
       refine a_cond rfl (fun ht104 => ?_) (fun ht104 => ?_)
       ·
        refine a_seq ?_
        have hup2 : b - u ≥ 2 := (by simp at ht104; omega)
        refine a_region ?_
        refine rm (.int _ _) ?_
        refine rv (v := .int _ _) (v_add il il (fun _ => by omega)) ?_
        refine ra (.int _ _) ?_
        refine r_nil ?_
        refine a_block ?_
        refine a_loop (X := (Nat × Array Int)) (fun z => look [(0, .rsl (INH, []) 1 0 n none), (1, .int .i64 ((a : Nat) : Int)), (2, .int .i64 ((b : Nat) : Int)), (3, .fn f [] []), (9, .int .i64 ((u : Nat) : Int)), (10, .int .i64 ((x.1 : Nat) : Int)), (12, .int .i64 ((z.1 : Nat) : Int)), (INH, .osl 1 (acells z.2) n none)]) (fun z => 1 ≤ z.1 ∧ z.1 ≤ n ∧ z.2.size = n ∧ shiftUp (ltc cf) b z.1 z.2 = shiftUp (ltc cf) b (u + 1) (afterDown (ltc cf) a u (swp x.2.2 u (u - 1)))) (fun z => b - z.1) (u + 1, (afterDown (ltc cf) a u (swp x.2.2 u (u - 1)))) (ent_look ⟨wr, wr, wr, wr, wr, wr, Weak.of_eq (int_eq (by dsimp only; omega)), wr, trivial⟩) ⟨by dsimp only; omega, by dsimp only; omega, by rw [ad_size, swp_size]; exact g4, rfl⟩ (fun z hG => ?_)
        obtain ⟨w0, w1, w2, w3⟩ := hG
        refine a_seq ?_
        refine aq ?_
        refine rm (.int _ _) ?_
        refine rm (.int _ _) ?_
        refine rv (v := .bool _) (v_lss il il) ?_
        refine r_nil ?_
        refine a_cond rfl (fun ht109 => ?_) (fun ht109 => ?_)
        ·
         refine a_skip ?_
         refine a_seq ?_
         refine a_block ?_
         refine a_seq ?_
         refine a_seq ?_
         have hzb : z.1 < b := (by simpa using ht109)
         refine a_region_any mixed (by kernel_rfl) ?_
         refine yv (v := .fn _ _ _) (v_mv rfl) ?_
         refine yv (v := .rsl _ _ _ _ _) (v_move il nf) ?_
         refine yv (v := .int _ _) (v_move il nf) ?_
         refine yv (v := .rp _ _) (v_indexAddr_rsl0 es25 il il (fun _ => by omega)) ?_
         refine yv (v := .int .i64 z.2[z.1]!) (v_load_rp1 ta3 il rfl (fun _ => by rw [Nat.mul_one]; exact acells_get (by omega)) rfl) ?_
         refine yv (v := .rsl _ _ _ _ _) (v_move il nf) ?_
         refine yv (v := .int _ _) (v_move il nf) ?_
         refine yv (v := .int .i64 ((z.1 - 1 : Nat) : Int)) ((v_sub il il (fun _ => by omega)).cast (int_eq (by omega))) ?_
         refine yv (v := .rp _ _) (v_indexAddr_rsl0 es25 il il (fun _ => by omega)) ?_
         refine yv (v := .int .i64 z.2[z.1 - 1]!) (v_load_rp1 ta3 il rfl (fun _ => by rw [Nat.mul_one]; exact acells_get (by omega)) rfl) ?_
         refine y_new (v := .int _ _) (q_clo (vs := [.int _ _, .int _ _]) (args := [.int .i64 _, .int .i64 _]) hb (.inl rfl) ⟨.inl rfl, .inl rfl, trivial⟩ rfl (fun hA => hc _ _) rfl rfl) rfl rfl (by decide) (by kernel_rfl) ?_
         refine yv (v := .bool _) (v_lss il il) ?_
         refine yv (v := .bool _) (v_not il) ?_
         refine y_nil ?_
         refine a_cond rfl (fun ht124 => ?_) (fun ht124 => ?_)
         ·
          refine a_exit ?_
          refine a_region ?_
          refine rm (.int _ _) ?_
          refine rv (v := .int _ _) (v_add il il (fun _ => by omega)) ?_
          refine ra (.int _ _) ?_
          refine r_nil ?_
          refine ⟨(x.1 + 1, u, afterUp (ltc cf) b u (afterDown (ltc cf) a u (swp x.2.2 u (u - 1)))), ent_look ⟨wr, wr, wr, wr, wr, Weak.of_eq (int_eq (by dsimp only; omega)), Weak.of_eq (osl_eq (by unfold afterUp; first | (rw [if_pos hup2, ← w3, su_end (by simpa using ht109)]; done) | (rw [if_pos hup2, ← w3, su_stop (by simpa [ltc] using ht124)]; done) | (rw [if_neg (by simp at ht104; omega)]))), trivial⟩, ⟨by dsimp only; omega, by dsimp only; omega, by dsimp only; omega, by rw [au_size, ad_size, swp_size]; exact g4, by rw [← g5, show 5 - x.1 = (5 - (x.1 + 1)) + 1 by omega]; exact (pi_more hss hub h50).symm⟩, by dsimp only; omega⟩
         ·
          refine a_skip ?_
          have hzl : ltc cf z.2[z.1]! z.2[z.1 - 1]! = true := (by simpa [ltc] using ht124)
          have hp1 : z.1 * 1 + 1 ≤ (acells z.2).length := (by rw [acells_length]; omega)
          have hp2 : (z.1 - 1) * 1 + 1 ≤ ((acells z.2).set (z.1 * 1) (.int .i64 z.2[(z.1 - 1)]!)).length := (by rw [List.length_set, acells_length]; omega)
          have hset : ((acells z.2).set (z.1 * 1) (.int .i64 z.2[(z.1 - 1)]!)).set ((z.1 - 1) * 1) (.int .i64 z.2[z.1]!) = acells (swp z.2 z.1 (z.1 - 1)) := (by rw [Nat.mul_one, Nat.mul_one]; exact acells_swp _ _ _)
          refine a_region_w [(125, true), (126, true), (127, true), (128, true), (129, true), (130, true), (131, true), (132, true), (133, true), (134, true), (135, true), (136, true), (137, true), (138, true), (139, true), (INH, false), (140, true), (INH, false)] mixed (by kernel_rfl) ?_
          refine wv (v := .rsl _ _ _ _ _) (v_move il nf) ?_
          refine wv (v := .int _ _) (v_move il nf) ?_
          refine wv (v := .rsl _ _ _ _ _) (v_move il nf) ?_
          refine wv (v := .int _ _) (v_move il nf) ?_
          refine wv (v := .int .i64 ((z.1 - 1 : Nat) : Int)) ((v_sub il il (fun _ => by omega)).cast (int_eq (by omega))) ?_
          refine wv (v := .rsl _ _ _ _ _) (v_move il nf) ?_
          refine wv (v := .int _ _) (v_move il nf) ?_
          refine wv (v := .int .i64 ((z.1 - 1 : Nat) : Int)) ((v_sub il il (fun _ => by omega)).cast (int_eq (by omega))) ?_
          refine wv (v := .rp _ _) (v_indexAddr_rsl0 es25 il il (fun _ => by omega)) ?_
          refine wv (v := .int .i64 z.2[z.1 - 1]!) (v_load_rp1 ta3 il rfl (fun _ => by rw [Nat.mul_one]; exact acells_get (by omega)) rfl) ?_
          refine wv (v := .rsl _ _ _ _ _) (v_move il nf) ?_
          refine wv (v := .int _ _) (v_move il nf) ?_
          refine wv (v := .rp _ _) (v_indexAddr_rsl0 es25 il il (fun _ => by omega)) ?_
          refine wv (v := .int .i64 z.2[z.1]!) (v_load_rp1 ta3 il rfl (fun _ => by rw [Nat.mul_one]; exact acells_get (by omega)) rfl) ?_
          refine wv (v := .rp _ _) (v_indexAddr_rsl0 es25 il il (fun _ => by omega)) ?_
          refine w_store (v := .int _ _) (y' := .osl _ _ _ _) rfl rfl rfl ta3 (.inl rfl) (.inl rfl) rfl rfl rfl rfl rfl rfl hp1 (by decide) rfl rfl rfl (by kernel_rfl) ?_
          refine wv (v := .rp _ _) (v_indexAddr_rsl0 es25 il il (fun _ => by omega)) ?_
          refine w_store (v := .int _ _) (y' := .osl _ _ _ _) rfl rfl rfl ta3 (.inl rfl) (.inl rfl) rfl rfl rfl rfl rfl rfl hp2 (by decide) rfl (congrArg (fun c => AV.osl 1 c n none) hset) rfl (by kernel_rfl) ?_
          refine w_nil ?_
          refine a_pre (ent_look (L := [(0, .rsl _ _ _ _ _), (1, .int _ _), (2, .int _ _), (3, .fn _ _ _), (9, .int _ _), (10, .int _ _), (12, .int _ _), (INH, .osl _ _ _ _)]) ⟨wr, wr, wr, wr, wr, wr, wr, wr, trivial⟩) ?_
          refine a_region ?_
          refine rm (.int _ _) ?_
          refine rv (v := .int _ _) (v_add il il (fun _ => by omega)) ?_
          refine ra (.int _ _) ?_
          refine r_nil ?_
          refine ⟨(z.1 + 1, swp z.2 z.1 (z.1 - 1)), ent_look ⟨wr, wr, wr, wr, wr, wr, Weak.of_eq (int_eq (by dsimp only; omega)), wr, trivial⟩, ⟨by dsimp only; omega, by dsimp only; omega, by rw [swp_size]; exact w2, by rw [← w3]; exact su_more hzb hzl⟩, by dsimp only; omega⟩
        ·
         refine a_exit ?_
         refine a_region ?_
         refine rm (.int _ _) ?_
         refine rv (v := .int _ _) (v_add il il (fun _ => by omega)) ?_
         refine ra (.int _ _) ?_
         refine r_nil ?_
         refine ⟨(x.1 + 1, u, afterUp (ltc cf) b u (afterDown (ltc cf) a u (swp x.2.2 u (u - 1)))), ent_look ⟨wr, wr, wr, wr, wr, Weak.of_eq (int_eq (by dsimp only; omega)), Weak.of_eq (osl_eq (by unfold afterUp; first | (rw [if_pos hup2, ← w3, su_end (by simpa using ht109)]; done) | (rw [if_pos hup2, ← w3, su_stop (by simpa [ltc] using ht124)]; done) | (rw [if_neg (by simp at ht104; omega)]))), trivial⟩, ⟨by dsimp only; omega, by dsimp only; omega, by dsimp only; omega, by rw [au_size, ad_size, swp_size]; exact g4, by rw [← g5, show 5 - x.1 = (5 - (x.1 + 1)) + 1 by omega]; exact (pi_more hss hub h50).symm⟩, by dsimp only; omega⟩
       ·
        refine a_skip ?_
        refine a_region ?_
        refine rm (.int _ _) ?_
        refine rv (v := .int _ _) (v_add il il (fun _ => by omega)) ?_
        refine ra (.int _ _) ?_
        refine r_nil ?_
        refine ⟨(x.1 + 1, u, afterUp (ltc cf) b u (afterDown (ltc cf) a u (swp x.2.2 u (u - 1)))), ent_look ⟨wr, wr, wr, wr, wr, Weak.of_eq (int_eq (by dsimp only; omega)), Weak.of_eq (osl_eq (by unfold afterUp; first | (rw [if_pos hup2, ← w3, su_end (by simpa using ht109)]; done) | (rw [if_pos hup2, ← w3, su_stop (by simpa [ltc] using ht124)]; done) | (rw [if_neg (by simp at ht104; omega)]))), trivial⟩, ⟨by dsimp only; omega, by dsimp only; omega, by dsimp only; omega, by rw [au_size, ad_size, swp_size]; exact g4, by rw [← g5, show 5 - x.1 = (5 - (x.1 + 1)) + 1 by omega]; exact (pi_more hss hub h50).symm⟩, by dsimp only; omega⟩
     ·
      refine a_skip ?_
      refine a_seq ?_
      refine a_pre (ent_eq (t := INH) (v' := .osl 1 (acells (afterDown (ltc cf) a u (swp x.2.2 u (u - 1)))) n none) (Weak.of_eq (osl_eq (by unfold afterDown; first | (rw [if_pos (by simp at ht65; omega), ← y3, show y.1 = 0 by simp at ht69; omega]; rfl) | (rw [if_pos (by simp at ht65; omega), ← y3, sd_stop (by simpa [ltc] using ht84)]; done) | (rw [if_neg (by simp at ht65; omega)]))))) ?_
      refine a_region ?_
      refine rm (.int _ _) ?_
      refine rm (.int _ _) ?_
      refine rv (v := .int _ _) (v_sub il il (fun _ => by omega)) ?_
      refine rv (v := .bool _) (v_geq il il) ?_
      refine r_nil ?_
      refine a_cond rfl (fun ht104 => ?_) (fun ht104 => ?_)
      ·
       refine a_seq ?_
       refine a_pre (ent_look (L := [(0, .rsl _ _ _ _ _), (1, .int _ _), (2, .int _ _), (3, .fn _ _ _), (9, .int _ _), (10, .int _ _), (INH, .osl _ _ _ _)]) ⟨wr, wr, wr, wr, wr, wr, wr, trivial⟩) ?_
       have hup2 : b - u ≥ 2 := (by simp at ht104; omega)
       refine a_region ?_
       refine rm (.int _ _) ?_
       refine rv (v := .int _ _) (v_add il il (fun _ => by omega)) ?_
       refine ra (.int _ _) ?_
       refine r_nil ?_
       refine a_block ?_
       refine a_loop (X := (Nat × Array Int)) (fun z => look [(0, .rsl (INH, []) 1 0 n none), (1, .int .i64 ((a : Nat) : Int)), (2, .int .i64 ((b : Nat) : Int)), (3, .fn f [] []), (9, .int .i64 ((u : Nat) : Int)), (10, .int .i64 ((x.1 : Nat) : Int)), (12, .int .i64 ((z.1 : Nat) : Int)), (INH, .osl 1 (acells z.2) n none)]) (fun z => 1 ≤ z.1 ∧ z.1 ≤ n ∧ z.2.size = n ∧ shiftUp (ltc cf) b z.1 z.2 = shiftUp (ltc cf) b (u + 1) (afterDown (ltc cf) a u (swp x.2.2 u (u - 1)))) (fun z => b - z.1) (u + 1, (afterDown (ltc cf) a u (swp x.2.2 u (u - 1)))) (ent_look ⟨wr, wr, wr, wr, wr, wr, Weak.of_eq (int_eq (by dsimp only; omega)), wr, trivial⟩) ⟨by dsimp only; omega, by dsimp only; omega, by rw [ad_size, swp_size]; exact g4, rfl⟩ (fun z hG => ?_)
       obtain ⟨w0, w1, w2, w3⟩ := hG
       refine a_seq ?_
       refine aq ?_
       refine rm (.int _ _) ?_
       refine rm (.int _ _) ?_
       refine rv (v := .bool _) (v_lss il il) ?_
       refine r_nil ?_
       refine a_cond rfl (fun ht109 => ?_) (fun ht109 => ?_)
       ·
        refine a_skip ?_
        refine a_seq ?_
        refine a_block ?_
        refine a_seq ?_
        refine a_seq ?_
        have hzb : z.1 < b := (by simpa using ht109)
        refine a_region_any mixed (by kernel_rfl) ?_
        refine yv (v := .fn _ _ _) (v_mv rfl) ?_
        refine yv (v := .rsl _ _ _ _ _) (v_move il nf) ?_
        refine yv (v := .int _ _) (v_move il nf) ?_
        refine yv (v := .rp _ _) (v_indexAddr_rsl0 es25 il il (fun _ => by omega)) ?_
        refine yv (v := .int .i64 z.2[z.1]!) (v_load_rp1 ta3 il rfl (fun _ => by rw [Nat.mul_one]; exact acells_get (by omega)) rfl) ?_
        refine yv (v := .rsl _ _ _ _ _) (v_move il nf) ?_
        refine yv (v := .int _ _) (v_move il nf) ?_
        refine yv (v := .int .i64 ((z.1 - 1 : Nat) : Int)) ((v_sub il il (fun _ => by omega)).cast (int_eq (by omega))) ?_
        refine yv (v := .rp _ _) (v_indexAddr_rsl0 es25 il il (fun _ => by omega)) ?_
        refine yv (v := .int .i64 z.2[z.1 - 1]!) (v_load_rp1 ta3 il rfl (fun _ => by rw [Nat.mul_one]; exact acells_get (by omega)) rfl) ?_
        refine y_new (v := .int _ _) (q_clo (vs := [.int _ _, .int _ _]) (args := [.int .i64 _, .int .i64 _]) hb (.inl rfl) ⟨.inl rfl, .inl rfl, trivial⟩ rfl (fun hA => hc _ _) rfl rfl) rfl rfl (by decide) (by kernel_rfl) ?_
        refine yv (v := .bool _) (v_lss il il) ?_
        refine yv (v := .bool _) (v_not il) ?_
        refine y_nil ?_
        refine a_cond rfl (fun ht124 => ?_) (fun ht124 => ?_)
        ·
         refine a_exit ?_
         refine a_region ?_
         refine rm (.int _ _) ?_
         refine rv (v := .int _ _) (v_add il il (fun _ => by omega)) ?_
         refine ra (.int _ _) ?_
         refine r_nil ?_
         refine ⟨(x.1 + 1, u, afterUp (ltc cf) b u (afterDown (ltc cf) a u (swp x.2.2 u (u - 1)))), ent_look ⟨wr, wr, wr, wr, wr, Weak.of_eq (int_eq (by dsimp only; omega)), Weak.of_eq (osl_eq (by unfold afterUp; first | (rw [if_pos hup2, ← w3, su_end (by simpa using ht109)]; done) | (rw [if_pos hup2, ← w3, su_stop (by simpa [ltc] using ht124)]; done) | (rw [if_neg (by simp at ht104; omega)]))), trivial⟩, ⟨by dsimp only; omega, by dsimp only; omega, by dsimp only; omega, by rw [au_size, ad_size, swp_size]; exact g4, by rw [← g5, show 5 - x.1 = (5 - (x.1 + 1)) + 1 by omega]; exact (pi_more hss hub h50).symm⟩, by dsimp only; omega⟩
        ·
         refine a_skip ?_
         have hzl : ltc cf z.2[z.1]! z.2[z.1 - 1]! = true := (by simpa [ltc] using ht124)
         have hp1 : z.1 * 1 + 1 ≤ (acells z.2).length := (by rw [acells_length]; omega)
         have hp2 : (z.1 - 1) * 1 + 1 ≤ ((acells z.2).set (z.1 * 1) (.int .i64 z.2[(z.1 - 1)]!)).length := (by rw [List.length_set, acells_length]; omega)
         have hset : ((acells z.2).set (z.1 * 1) (.int .i64 z.2[(z.1 - 1)]!)).set ((z.1 - 1) * 1) (.int .i64 z.2[z.1]!) = acells (swp z.2 z.1 (z.1 - 1)) := (by rw [Nat.mul_one, Nat.mul_one]; exact acells_swp _ _ _)
         refine a_region_w [(125, true), (126, true), (127, true), (128, true), (129, true), (130, true), (131, true), (132, true), (133, true), (134, true), (135, true), (136, true), (137, true), (138, true), (139, true), (INH, false), (140, true), (INH, false)] mixed (by kernel_rfl) ?_
         refine wv (v := .rsl _ _ _ _ _) (v_move il nf) ?_
         refine wv (v := .int _ _) (v_move il nf) ?_
         refine wv (v := .rsl _ _ _ _ _) (v_move il nf) ?_
         refine wv (v := .int _ _) (v_move il nf) ?_
         refine wv (v := .int .i64 ((z.1 - 1 : Nat) : Int)) ((v_sub il il (fun _ => by omega)).cast (int_eq (by omega))) ?_
         refine wv (v := .rsl _ _ _ _ _) (v_move il nf) ?_
         refine wv (v := .int _ _) (v_move il nf) ?_
         refine wv (v := .int .i64 ((z.1 - 1 : Nat) : Int)) ((v_sub il il (fun _ => by omega)).cast (int_eq (by omega))) ?_
         refine wv (v := .rp _ _) (v_indexAddr_rsl0 es25 il il (fun _ => by omega)) ?_
         refine wv (v := .int .i64 z.2[z.1 - 1]!) (v_load_rp1 ta3 il rfl (fun _ => by rw [Nat.mul_one]; exact acells_get (by omega)) rfl) ?_
         refine wv (v := .rsl _ _ _ _ _) (v_move il nf) ?_
         refine wv (v := .int _ _) (v_move il nf) ?_
         refine wv (v := .rp _ _) (v_indexAddr_rsl0 es25 il il (fun _ => by omega)) ?_
         refine wv (v := .int .i64 z.2[z.1]!) (v_load_rp1 ta3 il rfl (fun _ => by rw [Nat.mul_one]; exact acells_get (by omega)) rfl) ?_
         refine wv (v := .rp _ _) (v_indexAddr_rsl0 es25 il il (fun _ => by omega)) ?_
         refine w_store (v := .int _ _) (y' := .osl _ _ _ _) rfl rfl rfl ta3 (.inl rfl) (.inl rfl) rfl rfl rfl rfl rfl rfl hp1 (by decide) rfl rfl rfl (by kernel_rfl) ?_
         refine wv (v := .rp _ _) (v_indexAddr_rsl0 es25 il il (fun _ => by omega)) ?_
         refine w_store (v := .int _ _) (y' := .osl _ _ _ _) rfl rfl rfl ta3 (.inl rfl) (.inl rfl) rfl rfl rfl rfl rfl rfl hp2 (by decide) rfl (congrArg (fun c => AV.osl 1 c n none) hset) rfl (by kernel_rfl) ?_
         refine w_nil ?_
         refine a_pre (ent_look (L := [(0, .rsl _ _ _ _ _), (1, .int _ _), (2, .int _ _), (3, .fn _ _ _), (9, .int _ _), (10, .int _ _), (12, .int _ _), (INH, .osl _ _ _ _)]) ⟨wr, wr, wr, wr, wr, wr, wr, wr, trivial⟩) ?_
         refine a_region ?_
         refine rm (.int _ _) ?_
         refine rv (v := .int _ _) (v_add il il (fun _ => by omega)) ?_
         refine ra (.int _ _) ?_
         refine r_nil ?_
         refine ⟨(z.1 + 1, swp z.2 z.1 (z.1 - 1)), ent_look ⟨wr, wr, wr, wr, wr, wr, Weak.of_eq (int_eq (by dsimp only; omega)), wr, trivial⟩, ⟨by dsimp only; omega, by dsimp only; omega, by rw [swp_size]; exact w2, by rw [← w3]; exact su_more hzb hzl⟩, by dsimp only; omega⟩
       ·
        refine a_exit ?_
        refine a_region ?_
        refine rm (.int _ _) ?_
        refine rv (v := .int _ _) (v_add il il (fun _ => by omega)) ?_
        refine ra (.int _ _) ?_
        refine r_nil ?_
        refine ⟨(x.1 + 1, u, afterUp (ltc cf) b u (afterDown (ltc cf) a u (swp x.2.2 u (u - 1)))), ent_look ⟨wr, wr, wr, wr, wr, Weak.of_eq (int_eq (by dsimp only; omega)), Weak.of_eq (osl_eq (by unfold afterUp; first | (rw [if_pos hup2, ← w3, su_end (by simpa using ht109)]; done) | (rw [if_pos hup2, ← w3, su_stop (by simpa [ltc] using ht124)]; done) | (rw [if_neg (by simp at ht104; omega)]))), trivial⟩, ⟨by dsimp only; omega, by dsimp only; omega, by dsimp only; omega, by rw [au_size, ad_size, swp_size]; exact g4, by rw [← g5, show 5 - x.1 = (5 - (x.1 + 1)) + 1 by omega]; exact (pi_more hss hub h50).symm⟩, by dsimp only; omega⟩
      ·
       refine a_skip ?_
       refine a_pre (ent_look (L := [(0, .rsl _ _ _ _ _), (1, .int _ _), (2, .int _ _), (3, .fn _ _ _), (9, .int _ _), (10, .int _ _), (INH, .osl _ _ _ _)]) ⟨wr, wr, wr, wr, wr, wr, wr, trivial⟩) ?_
       refine a_region ?_
       refine rm (.int _ _) ?_
       refine rv (v := .int _ _) (v_add il il (fun _ => by omega)) ?_
       refine ra (.int _ _) ?_
       refine r_nil ?_
       refine ⟨(x.1 + 1, u, afterUp (ltc cf) b u (afterDown (ltc cf) a u (swp x.2.2 u (u - 1)))), ent_look ⟨wr, wr, wr, wr, wr, Weak.of_eq (int_eq (by dsimp only; omega)), Weak.of_eq (osl_eq (by unfold afterUp; first | (rw [if_pos hup2, ← w3, su_end (by simpa using ht109)]; done) | (rw [if_pos hup2, ← w3, su_stop (by simpa [ltc] using ht124)]; done) | (rw [if_neg (by simp at ht104; omega)]))), trivial⟩, ⟨by dsimp only; omega, by dsimp only; omega, by dsimp only; omega, by rw [au_size, ad_size, swp_size]; exact g4, by rw [← g5, show 5 - x.1 = (5 - (x.1 + 1)) + 1 by omega]; exact (pi_more hss hub h50).symm⟩, by dsimp only; omega⟩
 ·
  refine a_exit ?_
  refine a_seq ?_
  have hfin : (partialInsertionSort (ltc cf) d a b) = (x.2.2, false) := (by rw [← g5, show 5 - x.1 = 0 by simp at ht16; omega]; rfl)
  refine a_region ?_
  refine ra (.bool _) ?_
  refine r_nil ?_
  refine a_ret ?_
  refine ret1 Tryz.results190 (by decide) (by decide) (Weak.of_eq (bool_eq ?_)) rfl (Leaves.one (Weak.of_eq (osl_eq (by rw [hfin]))) rfl)
  rw [hfin]
theorem order2_c (f : Nat) (hb : hasBody Tryz.prog f = true) (cf : Int → Int → Int) (hc : ∀ x y, ACall Tryz.prog f [.int .i64 x, .int .i64 y] [] (.int .i64 (cf x y)) []) (d : Array Int) (n a b s : Nat) (hd : d.size = n) (hab : a < n ∧ b < n ∧ s ≤ 1000) (hn : n ≤ 1152921504606846976) : ACall Tryz.prog 197 [.sl (acells d) n, .int .i64 ((a : Nat) : Int), .int .i64 ((b : Nat) : Int), .rp (INH, []) 0, .fn f [] []] [.op [.int .i64 ((s : Nat) : Int)]] (.tup [.int .i64 (((order2 (ltc cf) d a b s).1 : Nat) : Int), .int .i64 (((order2 (ltc cf) d a b s).2.1 : Nat) : Int)]) [.op [.int .i64 (((order2 (ltc cf) d a b s).2.2 : Nat) : Int)]] := by
  refine ACall.intro Tryz.func197 rfl (N := 32) rfl (by decide) (by simp) ?_
  refine aq ?_
  refine ra (.int _ _) ?_
  refine ra (.int _ _) ?_
  refine r_nil ?_
  refine a_seq ?_
  refine a_seq ?_
  refine a_region_any mixed (by kernel_rfl) ?_
  refine yv (v := .fn _ _ _) (v_mv rfl) ?_
  refine yv (v := .sl _ _) (v_move il nf) ?_
  refine yv (v := .int _ _) (v_move il nf) ?_
  refine yv (v := .pp _ _) (v_indexAddr_sl es25 il il (fun _ => ⟨by omega, by omega, acells_ne (d := d) (i := b) (by omega)⟩)) ?_
  refine yv (v := .int .i64 d[b]!) (v_load_pp ta3 il (fun _ => by rw [Nat.mul_one]; exact acells_get (by omega)) rfl) ?_
  refine yv (v := .sl _ _) (v_move il nf) ?_
  refine yv (v := .int _ _) (v_move il nf) ?_
  refine yv (v := .pp _ _) (v_indexAddr_sl es25 il il (fun _ => ⟨by omega, by omega, acells_ne (d := d) (i := a) (by omega)⟩)) ?_
  refine yv (v := .int .i64 d[a]!) (v_load_pp ta3 il (fun _ => by rw [Nat.mul_one]; exact acells_get (by omega)) rfl) ?_
  refine y_new (v := .int _ _) (q_clo (vs := [.int _ _, .int _ _]) (args := [.int .i64 _, .int .i64 _]) hb (.inl rfl) ⟨.inl rfl, .inl rfl, trivial⟩ rfl (fun hA => hc _ _) rfl rfl) rfl rfl (by decide) (by kernel_rfl) ?_
  refine yv (v := .bool _) (v_lss il il) ?_
  refine y_nil ?_
  refine a_cond rfl (fun ht22 => ?_) (fun ht22 => ?_)
  ·
    refine a_seq ?_
    have hl : ltc cf d[b]! d[a]! = true := (by simpa [ltc] using ht22)
    have hfin : (order2 (ltc cf) d a b s) = (b, a, s + 1) := (by unfold order2; rw [if_pos hl])
    refine a_region ?_
    refine rm (.rp _ _) ?_
    refine rv (v := .rp _ _) (v_nilCheck il rfl) ?_
    refine rv (v := .int _ _) (v_load_rp1 ta3 il rfl (fun _ => rfl) rfl) ?_
    refine rv (v := .int .i64 ((s + 1 : Nat) : Int)) ((v_add il il (fun _ => by omega)).cast (int_eq (by omega))) ?_
    refine rv (v := .rp _ _) (v_nilCheck il rfl) ?_
    refine r_step rfl (o_store (v := .int _ _) (y' := .op [.int _ _]) rfl rfl ta3 il il rfl rfl rfl rfl rfl rfl (Nat.le_of_ble_eq_true rfl) (by decide) rfl rfl) ?_
    refine r_nil ?_
    refine aq ?_
    refine rm (.int _ _) ?_
    refine rm (.int _ _) ?_
    refine ra (.int _ _) ?_
    refine ra (.int _ _) ?_
    refine r_nil ?_
    refine a_ret ?_
    refine retLO (rs := [.tmp 10, .tmp 11]) [(10, _), (11, _)] ⟨(Weak.of_eq (congrArg (fun z : Nat => AV.op [.int .i64 (z : Int)]) (by rw [hfin]))), wr, wr, trivial⟩ rfl Tryz.results197 (by decide) ⟨by decide, by decide, rfl⟩ (by decide) (by decide) (l2_eq (int_eq ?_) (int_eq ?_)) rfl rfl
    · rw [hfin]
    · rw [hfin]
  ·
    refine a_skip ?_
    refine a_seq ?_
    have hl : ¬ ltc cf d[b]! d[a]! = true := (by simpa [ltc] using ht22)
    have hfin : (order2 (ltc cf) d a b s) = (a, b, s) := (by unfold order2; rw [if_neg hl])
    refine a_region ?_
    refine rm (.int _ _) ?_
    refine rm (.int _ _) ?_
    refine ra (.int _ _) ?_
    refine ra (.int _ _) ?_
    refine r_nil ?_
    refine a_ret ?_
    refine retLO (rs := [.tmp 10, .tmp 11]) [(10, _), (11, _)] ⟨(Weak.of_eq (congrArg (fun z : Nat => AV.op [.int .i64 (z : Int)]) (by rw [hfin]))), wr, wr, trivial⟩ rfl Tryz.results197 (by decide) ⟨by decide, by decide, rfl⟩ (by decide) (by decide) (l2_eq (int_eq ?_) (int_eq ?_)) rfl rfl
    · rw [hfin]
    · rw [hfin]
theorem hb196 : hasBody Tryz.prog 196 = true := by kernel_rfl
theorem hb197 : hasBody Tryz.prog 197 = true := by kernel_rfl
theorem median_c (f : Nat) (hb : hasBody Tryz.prog f = true) (cf : Int → Int → Int) (hc : ∀ x y, ACall Tryz.prog f [.int .i64 x, .int .i64 y] [] (.int .i64 (cf x y)) []) (d : Array Int) (n a b c s : Nat) (hd : d.size = n) (hab : a < n ∧ b < n ∧ c < n ∧ s ≤ 900) (hn : n ≤ 1152921504606846976) : ACall Tryz.prog 196 [.sl (acells d) n, .int .i64 ((a : Nat) : Int), .int .i64 ((b : Nat) : Int), .int .i64 ((c : Nat) : Int), .rp (INH, []) 0, .fn f [] []] [.op [.int .i64 ((s : Nat) : Int)]] (.int .i64 (((median (ltc cf) d a b c s).1 : Nat) : Int)) [.op [.int .i64 (((median (ltc cf) d a b c s).2 : Nat) : Int)]] := by
 have q1 := o2_bd (lt := ltc cf) (d := d) (s := s) hab.1 hab.2.1
 have q2 := o2_bd (lt := ltc cf) (d := d) (s := (order2 (ltc cf) d a b s).2.2) q1.2.1 hab.2.2.1
 have q3 := o2_bd (lt := ltc cf) (d := d) (s := (order2 (ltc cf) d (order2 (ltc cf) d a b s).2.1 c (order2 (ltc cf) d a b s).2.2).2.2) q1.1 q2.1
 refine ACall.intro Tryz.func196 rfl (N := 41) rfl (by decide) (by simp) ?_
 refine aq ?_
 refine ra (.int _ _) ?_
 refine r_nil ?_
 refine aq ?_
 refine rm (.sl _ _) ?_
 refine rm (.int _ _) ?_
 refine rm (.int _ _) ?_
 refine rm (.rp _ _) ?_
 refine rv (v := .fn _ _ _) (v_mv rfl) ?_
 refine r_step rfl (o_callIOp (q := (INH, [])) (vs := [.sl _ _, .int _ _, .int _ _, .rp _ _, .fn _ _ _]) (args := [.sl _ _, .int .i64 _, .int .i64 _, .rp (INH, []) _, .fn _ _ _]) (cs0 := [.int _ _]) (cs1 := [.int _ _]) (res := .tup [.int _ _, .int _ _]) rfl hb197 rfl (by decide) ⟨.inl rfl, .inl rfl, .inl rfl, .inl rfl, .inl rfl, trivial⟩ rfl rfl (order2_c f hb cf hc d n _ _ _ hd (by omega) hn) rfl rfl rfl rfl rfl (Nat.le_of_ble_eq_true rfl) (by decide) rfl) ?_
 refine rv (v := .tup [.int _ _, .int _ _]) (v_mv rfl) ?_
 refine rv (v := .int _ _) (v_extract rfl rfl) ?_
 refine rv (v := .int _ _) (v_extract rfl rfl) ?_
 refine ra (.int _ _) ?_
 refine ra (.int _ _) ?_
 refine r_nil ?_
 refine aq ?_
 refine rm (.sl _ _) ?_
 refine rm (.int _ _) ?_
 refine rm (.int _ _) ?_
 refine rm (.rp _ _) ?_
 refine rv (v := .fn _ _ _) (v_mv rfl) ?_
 refine r_step rfl (o_callIOp (q := (INH, [])) (vs := [.sl _ _, .int _ _, .int _ _, .rp _ _, .fn _ _ _]) (args := [.sl _ _, .int .i64 _, .int .i64 _, .rp (INH, []) _, .fn _ _ _]) (cs0 := [.int _ _]) (cs1 := [.int _ _]) (res := .tup [.int _ _, .int _ _]) rfl hb197 rfl (by decide) ⟨.inl rfl, .inl rfl, .inl rfl, .inl rfl, .inl rfl, trivial⟩ rfl rfl (order2_c f hb cf hc d n _ _ _ hd (by omega) hn) rfl rfl rfl rfl rfl (Nat.le_of_ble_eq_true rfl) (by decide) rfl) ?_
 refine rv (v := .tup [.int _ _, .int _ _]) (v_mv rfl) ?_
 refine rv (v := .int _ _) (v_extract rfl rfl) ?_
 refine rv (v := .int _ _) (v_extract rfl rfl) ?_
 refine ra (.int _ _) ?_
 refine ra (.int _ _) ?_
 refine r_nil ?_
 refine aq ?_
 refine rm (.sl _ _) ?_
 refine rm (.int _ _) ?_
 refine rm (.int _ _) ?_
 refine rm (.rp _ _) ?_
 refine rv (v := .fn _ _ _) (v_mv rfl) ?_
 refine r_step rfl (o_callIOp (q := (INH, [])) (vs := [.sl _ _, .int _ _, .int _ _, .rp _ _, .fn _ _ _]) (args := [.sl _ _, .int .i64 _, .int .i64 _, .rp (INH, []) _, .fn _ _ _]) (cs0 := [.int _ _]) (cs1 := [.int _ _]) (res := .tup [.int _ _, .int _ _]) rfl hb197 rfl (by decide) ⟨.inl rfl, .inl rfl, .inl rfl, .inl rfl, .inl rfl, trivial⟩ rfl rfl (order2_c f hb cf hc d n _ _ _ hd (by omega) hn) rfl rfl rfl rfl rfl (Nat.le_of_ble_eq_true rfl) (by decide) rfl) ?_
 refine rv (v := .tup [.int _ _, .int _ _]) (v_mv rfl) ?_
 refine rv (v := .int _ _) (v_extract rfl rfl) ?_
 refine rv (v := .int _ _) (v_extract rfl rfl) ?_
 refine ra (.int _ _) ?_
 refine ra (.int _ _) ?_
 refine r_nil ?_
 refine a_seq ?_
 refine a_pre (ent_look (L := [(2, .int _ _), (12, .int _ _), (INH, .op [.int _ _])]) ⟨wr, wr, wr, trivial⟩) ?_
 refine a_region ?_
 refine rm (.int _ _) ?_
 refine ra (.int _ _) ?_
 refine r_nil ?_
 refine a_ret ?_
 refine ret1 Tryz.results196 (by decide) (by decide) (Weak.of_eq (int_eq ?_)) rfl (Leaves.one (wr) rfl)
 rfl
theorem medianAdj_c (f : Nat) (hb : hasBody Tryz.prog f = true) (cf : Int → Int → Int) (hc : ∀ x y, ACall Tryz.prog f [.int .i64 x, .int .i64 y] [] (.int .i64 (cf x y)) []) (d : Array Int) (n a s : Nat) (hd : d.size = n) (hab : 1 ≤ a ∧ a + 1 < n ∧ s ≤ 900) (hn : n ≤ 1152921504606846976) : ACall Tryz.prog 195 [.sl (acells d) n, .int .i64 ((a : Nat) : Int), .rp (INH, []) 0, .fn f [] []] [.op [.int .i64 ((s : Nat) : Int)]] (.int .i64 (((medianAdjacent (ltc cf) d a s).1 : Nat) : Int)) [.op [.int .i64 (((medianAdjacent (ltc cf) d a s).2 : Nat) : Int)]] := by
 refine ACall.intro Tryz.func195 rfl (N := 18) rfl (by decide) (by simp) ?_
 refine aq ?_
 refine ra (.int _ _) ?_
 refine r_nil ?_
 refine aq ?_
 refine rm (.sl _ _) ?_
 refine rm (.int _ _) ?_
 refine rv (v := .int .i64 ((a - 1 : Nat) : Int)) ((v_sub il il (fun _ => by omega)).cast (int_eq (by omega))) ?_
 refine rm (.int _ _) ?_
 refine rm (.int _ _) ?_
 refine rv (v := .int .i64 ((a + 1 : Nat) : Int)) ((v_add il il (fun _ => by omega)).cast (int_eq (by omega))) ?_
 refine rm (.rp _ _) ?_
 refine rv (v := .fn _ _ _) (v_mv rfl) ?_
 refine r_step rfl (o_callIOp (q := (INH, [])) (vs := [.sl _ _, .int _ _, .int _ _, .int _ _, .rp _ _, .fn _ _ _]) (args := [.sl _ _, .int .i64 _, .int .i64 _, .int .i64 _, .rp (INH, []) _, .fn _ _ _]) (cs0 := [.int _ _]) (cs1 := [.int _ _]) (res := .int _ _) rfl hb196 rfl (by decide) ⟨.inl rfl, .inl rfl, .inl rfl, .inl rfl, .inl rfl, .inl rfl, trivial⟩ rfl rfl (median_c f hb cf hc d n (a - 1) a (a + 1) s hd (by omega) hn) rfl rfl rfl rfl rfl (Nat.le_of_ble_eq_true rfl) (by decide) rfl) ?_
 refine ra (.int _ _) ?_
 refine r_nil ?_
 refine a_ret ?_
 refine ret1 Tryz.results195 (by decide) (by decide) (Weak.of_eq (int_eq ?_)) rfl (Leaves.one (wr) rfl)
 rfl
theorem hb195 : hasBody Tryz.prog 195 = true := by kernel_rfl
theorem choosePivot_c (f : Nat) (hb : hasBody Tryz.prog f = true) (cf : Int → Int → Int) (hc : ∀ x y, ACall Tryz.prog f [.int .i64 x, .int .i64 y] [] (.int .i64 (cf x y)) []) (d : Array Int) (n a b : Nat) (hd : d.size = n) (hab : a < b ∧ b ≤ n) (hn : n ≤ 1152921504606846976) : ACall Tryz.prog 188 [.sl (acells d) n, .int .i64 ((a : Nat) : Int), .int .i64 ((b : Nat) : Int), .fn f [] []] [] (.tup [.int .i64 (((choosePivot (ltc cf) d a b).1 : Nat) : Int), .int .i64 ((hintN (choosePivot (ltc cf) d a b).2 : Nat) : Int)]) [] := by
  refine ACall.intro Tryz.func188 rfl (N := 63) rfl (by decide) (by simp) ?_
  refine aq ?_
  refine ra (.int _ _) ?_
  refine ra (.int _ _) ?_
  refine r_nil ?_
  refine aq ?_
  refine rm (.int _ _) ?_
  refine rm (.int _ _) ?_
  refine rv (v := .int .i64 ((b - a : Nat) : Int)) ((v_sub il il (fun _ => by omega)).cast (int_eq (by omega))) ?_
  refine ra (.int _ _) ?_
  refine r_nil ?_
  refine aq ?_
  refine rn (v := .op [.int _ _]) (q_alloc zc3) ?_
  refine r_nil ?_
  refine a_seq ?_
  refine a_pre (ent_eq (t := 11) (v' := .op [.int .i64 ((0 : Nat) : Int)]) (wr)) ?_
  refine a_region ?_
  refine rm (.int _ _) ?_
  refine rm (.int _ _) ?_
  refine rv (v := .int .i64 (((b - a) / 4 : Nat) : Int)) ((v_quo il il (fun _ => by omega)).cast (int_eq (by omega))) ?_
  refine rv (v := .int .i64 (((b - a) / 4 * 1 : Nat) : Int)) ((v_mul il il (fun _ => by omega)).cast (int_eq (by omega))) ?_
  refine rv (v := .int .i64 ((a + (b - a) / 4 * 1 : Nat) : Int)) ((v_add il il (fun _ => by omega)).cast (int_eq (by omega))) ?_
  refine ra (.int _ _) ?_
  refine r_nil ?_
  refine aq ?_
  refine rm (.int _ _) ?_
  refine rm (.int _ _) ?_
  refine rv (v := .int .i64 (((b - a) / 4 : Nat) : Int)) ((v_quo il il (fun _ => by omega)).cast (int_eq (by omega))) ?_
  refine rv (v := .int .i64 (((b - a) / 4 * 2 : Nat) : Int)) ((v_mul il il (fun _ => by omega)).cast (int_eq (by omega))) ?_
  refine rv (v := .int .i64 ((a + (b - a) / 4 * 2 : Nat) : Int)) ((v_add il il (fun _ => by omega)).cast (int_eq (by omega))) ?_
  refine ra (.int _ _) ?_
  refine r_nil ?_
  refine aq ?_
  refine rm (.int _ _) ?_
  refine rm (.int _ _) ?_
  refine rv (v := .int .i64 (((b - a) / 4 : Nat) : Int)) ((v_quo il il (fun _ => by omega)).cast (int_eq (by omega))) ?_
  refine rv (v := .int .i64 (((b - a) / 4 * 3 : Nat) : Int)) ((v_mul il il (fun _ => by omega)).cast (int_eq (by omega))) ?_
  refine rv (v := .int .i64 ((a + (b - a) / 4 * 3 : Nat) : Int)) ((v_add il il (fun _ => by omega)).cast (int_eq (by omega))) ?_
  refine ra (.int _ _) ?_
  refine r_nil ?_
  refine a_seq ?_
  refine aq ?_
  refine rm (.int _ _) ?_
  refine rv (v := .bool _) (v_geq il il) ?_
  refine r_nil ?_
  refine a_cond rfl (fun ht34 => ?_) (fun ht34 => ?_)
  ·
    refine a_seq ?_
    refine a_seq ?_
    have h8 : b - a ≥ 8 := (by simp at ht34; omega)
    refine a_region ?_
    refine rm (.int _ _) ?_
    refine rv (v := .bool _) (v_geq il il) ?_
    refine r_nil ?_
    refine a_cond rfl (fun ht36 => ?_) (fun ht36 => ?_)
    ·
      refine a_seq ?_
      have h50 : b - a ≥ 50 := (by simp at ht36; omega)
      have m1 : (medianAdjacent (ltc cf) d (a + (b - a) / 4 * 1) 0).1 < n ∧ (medianAdjacent (ltc cf) d (a + (b - a) / 4 * 1) 0).2 ≤ 0 + 3 := med_bd (by omega) (by omega) (by omega)
      have m2 : (medianAdjacent (ltc cf) d (a + (b - a) / 4 * 2) (medianAdjacent (ltc cf) d (a + (b - a) / 4 * 1) 0).2).1 < n ∧ (medianAdjacent (ltc cf) d (a + (b - a) / 4 * 2) (medianAdjacent (ltc cf) d (a + (b - a) / 4 * 1) 0).2).2 ≤ (medianAdjacent (ltc cf) d (a + (b - a) / 4 * 1) 0).2 + 3 := med_bd (by omega) (by omega) (by omega)
      have m3 : (medianAdjacent (ltc cf) d (a + (b - a) / 4 * 3) (medianAdjacent (ltc cf) d (a + (b - a) / 4 * 2) (medianAdjacent (ltc cf) d (a + (b - a) / 4 * 1) 0).2).2).1 < n ∧ (medianAdjacent (ltc cf) d (a + (b - a) / 4 * 3) (medianAdjacent (ltc cf) d (a + (b - a) / 4 * 2) (medianAdjacent (ltc cf) d (a + (b - a) / 4 * 1) 0).2).2).2 ≤ (medianAdjacent (ltc cf) d (a + (b - a) / 4 * 2) (medianAdjacent (ltc cf) d (a + (b - a) / 4 * 1) 0).2).2 + 3 := med_bd (by omega) (by omega) (by omega)
      refine a_region ?_
      refine rm (.sl _ _) ?_
      refine rm (.int _ _) ?_
      refine rv (v := .fn _ _ _) (v_mv rfl) ?_
      refine r_step rfl (o_callIOp (q := (11, [])) (vs := [.sl _ _, .int _ _, .rp _ _, .fn _ _ _]) (args := [.sl _ _, .int .i64 _, .rp (INH, []) _, .fn _ _ _]) (cs0 := [.int _ _]) (cs1 := [.int _ _]) (res := .int _ _) rfl hb195 rfl (by decide) ⟨.inl rfl, .inl rfl, .inl rfl, .inl rfl, trivial⟩ rfl rfl (medianAdj_c f hb cf hc d n (a + (b - a) / 4 * 1) 0 hd (by omega) hn) rfl rfl rfl rfl rfl (Nat.le_of_ble_eq_true rfl) (by decide) rfl) ?_
      refine ra (.int _ _) ?_
      refine r_nil ?_
      refine a_seq ?_
      refine a_pre (ent_look (L := [(0, .sl _ _), (3, .fn _ _ _), (8, .int _ _), (9, .int _ _), (11, .op [.int _ _]), (12, .int _ _), (13, .int _ _), (14, .int _ _)]) ⟨wr, wr, wr, wr, wr, wr, wr, wr, trivial⟩) ?_
      refine a_region ?_
      refine rm (.sl _ _) ?_
      refine rm (.int _ _) ?_
      refine rv (v := .fn _ _ _) (v_mv rfl) ?_
      refine r_step rfl (o_callIOp (q := (11, [])) (vs := [.sl _ _, .int _ _, .rp _ _, .fn _ _ _]) (args := [.sl _ _, .int .i64 _, .rp (INH, []) _, .fn _ _ _]) (cs0 := [.int _ _]) (cs1 := [.int _ _]) (res := .int _ _) rfl hb195 rfl (by decide) ⟨.inl rfl, .inl rfl, .inl rfl, .inl rfl, trivial⟩ rfl rfl (medianAdj_c f hb cf hc d n (a + (b - a) / 4 * 2) _ hd (by omega) hn) rfl rfl rfl rfl rfl (Nat.le_of_ble_eq_true rfl) (by decide) rfl) ?_
      refine ra (.int _ _) ?_
      refine r_nil ?_
      refine a_region ?_
      refine rm (.sl _ _) ?_
      refine rm (.int _ _) ?_
      refine rv (v := .fn _ _ _) (v_mv rfl) ?_
      refine r_step rfl (o_callIOp (q := (11, [])) (vs := [.sl _ _, .int _ _, .rp _ _, .fn _ _ _]) (args := [.sl _ _, .int .i64 _, .rp (INH, []) _, .fn _ _ _]) (cs0 := [.int _ _]) (cs1 := [.int _ _]) (res := .int _ _) rfl hb195 rfl (by decide) ⟨.inl rfl, .inl rfl, .inl rfl, .inl rfl, trivial⟩ rfl rfl (medianAdj_c f hb cf hc d n (a + (b - a) / 4 * 3) _ hd (by omega) hn) rfl rfl rfl rfl rfl (Nat.le_of_ble_eq_true rfl) (by decide) rfl) ?_
      refine ra (.int _ _) ?_
      refine r_nil ?_
      refine a_region ?_
      refine rm (.sl _ _) ?_
      refine rm (.int _ _) ?_
      refine rm (.int _ _) ?_
      refine rm (.int _ _) ?_
      refine rv (v := .fn _ _ _) (v_mv rfl) ?_
      refine r_step rfl (o_callIOp (q := (11, [])) (vs := [.sl _ _, .int _ _, .int _ _, .int _ _, .rp _ _, .fn _ _ _]) (args := [.sl _ _, .int .i64 _, .int .i64 _, .int .i64 _, .rp (INH, []) _, .fn _ _ _]) (cs0 := [.int _ _]) (cs1 := [.int _ _]) (res := .int _ _) rfl hb196 rfl (by decide) ⟨.inl rfl, .inl rfl, .inl rfl, .inl rfl, .inl rfl, .inl rfl, trivial⟩ rfl rfl (median_c f hb cf hc d n _ _ _ _ hd (by omega) hn) rfl rfl rfl rfl rfl (Nat.le_of_ble_eq_true rfl) (by decide) rfl) ?_
      refine ra (.int _ _) ?_
      refine r_nil ?_
      refine a_seq ?_
      refine a_pre (ent_eq (t := 13) (v' := .int .i64 (((cpR (ltc cf) d a b).1 : Nat) : Int)) (Weak.of_eq (int_eq (congrArg Nat.cast (by unfold cpR; first | (rw [if_pos h8, if_pos h50]; done) | (rw [if_pos h8, if_neg (by simp at ht36; omega)]; done) | (rw [if_neg (by simp at ht34; omega)])))))) ?_
      refine a_pre (ent_eq (t := 11) (v' := .op [.int .i64 (((cpR (ltc cf) d a b).2 : Nat) : Int)]) (Weak.of_eq (congrArg (fun z : Nat => AV.op [.int .i64 (z : Int)]) (by unfold cpR; first | (rw [if_pos h8, if_pos h50]; done) | (rw [if_pos h8, if_neg (by simp at ht36; omega)]; done) | (rw [if_neg (by simp at ht34; omega)]))))) ?_
      refine a_region ?_
      refine rv (v := .int _ _) (v_load_rp1 ta3 il rfl (fun _ => rfl) rfl) ?_
      refine r_nil ?_
      refine a_block ?_
      refine aq ?_
      refine rv (v := .bool _) (v_eql il il) ?_
      refine ra (.bool _) ?_
      refine r_nil ?_
      refine a_cond rfl (fun ht57 => ?_) (fun ht57 => ?_)
      ·
        refine aq ?_
        refine rm (.int _ _) ?_
        refine ra (.int _ _) ?_
        refine ra (.int _ _) ?_
        refine r_nil ?_
        refine a_ret ?_
        refine retL (rs := [.tmp 8, .tmp 9]) [(8, _), (9, _)] ⟨wr, wr, trivial⟩ rfl Tryz.results188 (by decide) ⟨by decide, by decide, rfl⟩ (by decide) (by decide) (l2_eq (int_eq ?_) (int_eq ?_)) rfl
        · rw [cp_eq]
        · rw [cp_eq]; dsimp only; rw [if_pos (by simp at ht57; omega)]; rfl
      ·
        refine aq ?_
        refine rv (v := .bool _) (v_eql il il) ?_
        refine ra (.bool _) ?_
        refine r_nil ?_
        refine a_cond rfl (fun ht60 => ?_) (fun ht60 => ?_)
        ·
          refine a_seq ?_
          refine a_pre (ent_look (L := [(8, .int _ _), (9, .int _ _), (13, .int _ _)]) ⟨wr, wr, wr, trivial⟩) ?_
          refine a_region ?_
          refine rm (.int _ _) ?_
          refine ra (.int _ _) ?_
          refine ra (.int _ _) ?_
          refine r_nil ?_
          refine a_ret ?_
          refine retL (rs := [.tmp 8, .tmp 9]) [(8, _), (9, _)] ⟨wr, wr, trivial⟩ rfl Tryz.results188 (by decide) ⟨by decide, by decide, rfl⟩ (by decide) (by decide) (l2_eq (int_eq ?_) (int_eq ?_)) rfl
          · rw [cp_eq]
          · rw [cp_eq]; dsimp only; rw [if_neg (by simp at ht57; omega), if_pos (by simp at ht60; omega)]; rfl
        ·
          refine a_seq ?_
          refine a_pre (ent_look (L := [(8, .int _ _), (9, .int _ _), (13, .int _ _)]) ⟨wr, wr, wr, trivial⟩) ?_
          refine a_region ?_
          refine rm (.int _ _) ?_
          refine ra (.int _ _) ?_
          refine ra (.int _ _) ?_
          refine r_nil ?_
          refine a_ret ?_
          refine retL (rs := [.tmp 8, .tmp 9]) [(8, _), (9, _)] ⟨wr, wr, trivial⟩ rfl Tryz.results188 (by decide) ⟨by decide, by decide, rfl⟩ (by decide) (by decide) (l2_eq (int_eq ?_) (int_eq ?_)) rfl
          · rw [cp_eq]
          · rw [cp_eq]; dsimp only; rw [if_neg (by simp at ht57; omega), if_neg (by simp at ht60; omega)]; rfl
    ·
      refine a_skip ?_
      refine a_region ?_
      refine rm (.sl _ _) ?_
      refine rm (.int _ _) ?_
      refine rm (.int _ _) ?_
      refine rm (.int _ _) ?_
      refine rv (v := .fn _ _ _) (v_mv rfl) ?_
      refine r_step rfl (o_callIOp (q := (11, [])) (vs := [.sl _ _, .int _ _, .int _ _, .int _ _, .rp _ _, .fn _ _ _]) (args := [.sl _ _, .int .i64 _, .int .i64 _, .int .i64 _, .rp (INH, []) _, .fn _ _ _]) (cs0 := [.int _ _]) (cs1 := [.int _ _]) (res := .int _ _) rfl hb196 rfl (by decide) ⟨.inl rfl, .inl rfl, .inl rfl, .inl rfl, .inl rfl, .inl rfl, trivial⟩ rfl rfl (median_c f hb cf hc d n _ _ _ _ hd (by omega) hn) rfl rfl rfl rfl rfl (Nat.le_of_ble_eq_true rfl) (by decide) rfl) ?_
      refine ra (.int _ _) ?_
      refine r_nil ?_
      refine a_seq ?_
      refine a_pre (ent_look (L := [(8, .int _ _), (9, .int _ _), (11, .op [.int _ _]), (13, .int _ _)]) ⟨wr, wr, wr, wr, trivial⟩) ?_
      refine a_pre (ent_eq (t := 13) (v' := .int .i64 (((cpR (ltc cf) d a b).1 : Nat) : Int)) (Weak.of_eq (int_eq (congrArg Nat.cast (by unfold cpR; first | (rw [if_pos h8, if_pos h50]; done) | (rw [if_pos h8, if_neg (by simp at ht36; omega)]; done) | (rw [if_neg (by simp at ht34; omega)])))))) ?_
      refine a_pre (ent_eq (t := 11) (v' := .op [.int .i64 (((cpR (ltc cf) d a b).2 : Nat) : Int)]) (Weak.of_eq (congrArg (fun z : Nat => AV.op [.int .i64 (z : Int)]) (by unfold cpR; first | (rw [if_pos h8, if_pos h50]; done) | (rw [if_pos h8, if_neg (by simp at ht36; omega)]; done) | (rw [if_neg (by simp at ht34; omega)]))))) ?_
      refine a_region ?_
      refine rv (v := .int _ _) (v_load_rp1 ta3 il rfl (fun _ => rfl) rfl) ?_
      refine r_nil ?_
      refine a_block ?_
      refine aq ?_
      refine rv (v := .bool _) (v_eql il il) ?_
      refine ra (.bool _) ?_
      refine r_nil ?_
      refine a_cond rfl (fun ht57 => ?_) (fun ht57 => ?_)
      ·
        refine aq ?_
        refine rm (.int _ _) ?_
        refine ra (.int _ _) ?_
        refine ra (.int _ _) ?_
        refine r_nil ?_
        refine a_ret ?_
        refine retL (rs := [.tmp 8, .tmp 9]) [(8, _), (9, _)] ⟨wr, wr, trivial⟩ rfl Tryz.results188 (by decide) ⟨by decide, by decide, rfl⟩ (by decide) (by decide) (l2_eq (int_eq ?_) (int_eq ?_)) rfl
        · rw [cp_eq]
        · rw [cp_eq]; dsimp only; rw [if_pos (by simp at ht57; omega)]; rfl
      ·
        refine aq ?_
        refine rv (v := .bool _) (v_eql il il) ?_
        refine ra (.bool _) ?_
        refine r_nil ?_
        refine a_cond rfl (fun ht60 => ?_) (fun ht60 => ?_)
        ·
          refine aq ?_
          refine rm (.int _ _) ?_
          refine ra (.int _ _) ?_
          refine ra (.int _ _) ?_
          refine r_nil ?_
          refine a_ret ?_
          refine retL (rs := [.tmp 8, .tmp 9]) [(8, _), (9, _)] ⟨wr, wr, trivial⟩ rfl Tryz.results188 (by decide) ⟨by decide, by decide, rfl⟩ (by decide) (by decide) (l2_eq (int_eq ?_) (int_eq ?_)) rfl
          · rw [cp_eq]
          · rw [cp_eq]; dsimp only; rw [if_neg (by simp at ht57; omega), if_pos (by simp at ht60; omega)]; rfl
        ·
          refine aq ?_
          refine rm (.int _ _) ?_
          refine ra (.int _ _) ?_
          refine ra (.int _ _) ?_
          refine r_nil ?_
          refine a_ret ?_
          refine retL (rs := [.tmp 8, .tmp 9]) [(8, _), (9, _)] ⟨wr, wr, trivial⟩ rfl Tryz.results188 (by decide) ⟨by decide, by decide, rfl⟩ (by decide) (by decide) (l2_eq (int_eq ?_) (int_eq ?_)) rfl
          · rw [cp_eq]
          · rw [cp_eq]; dsimp only; rw [if_neg (by simp at ht57; omega), if_neg (by simp at ht60; omega)]; rfl
  ·
    refine a_skip ?_
    refine a_seq ?_
    refine a_pre (ent_eq (t := 13) (v' := .int .i64 (((cpR (ltc cf) d a b).1 : Nat) : Int)) (Weak.of_eq (int_eq (congrArg Nat.cast (by unfold cpR; first | (rw [if_pos h8, if_pos h50]; done) | (rw [if_pos h8, if_neg (by simp at ht36; omega)]; done) | (rw [if_neg (by simp at ht34; omega)])))))) ?_
    refine a_pre (ent_eq (t := 11) (v' := .op [.int .i64 (((cpR (ltc cf) d a b).2 : Nat) : Int)]) (Weak.of_eq (congrArg (fun z : Nat => AV.op [.int .i64 (z : Int)]) (by unfold cpR; first | (rw [if_pos h8, if_pos h50]; done) | (rw [if_pos h8, if_neg (by simp at ht36; omega)]; done) | (rw [if_neg (by simp at ht34; omega)]))))) ?_
    refine a_region ?_
    refine rv (v := .int _ _) (v_load_rp1 ta3 il rfl (fun _ => rfl) rfl) ?_
    refine r_nil ?_
    refine a_block ?_
    refine aq ?_
    refine rv (v := .bool _) (v_eql il il) ?_
    refine ra (.bool _) ?_
    refine r_nil ?_
    refine a_cond rfl (fun ht57 => ?_) (fun ht57 => ?_)
    ·
      refine a_seq ?_
      refine a_pre (ent_look (L := [(8, .int _ _), (9, .int _ _), (13, .int _ _), (55, .int _ _)]) ⟨wr, wr, wr, wr, trivial⟩) ?_
      refine a_region ?_
      refine rm (.int _ _) ?_
      refine ra (.int _ _) ?_
      refine ra (.int _ _) ?_
      refine r_nil ?_
      refine a_ret ?_
      refine retL (rs := [.tmp 8, .tmp 9]) [(8, _), (9, _)] ⟨wr, wr, trivial⟩ rfl Tryz.results188 (by decide) ⟨by decide, by decide, rfl⟩ (by decide) (by decide) (l2_eq (int_eq ?_) (int_eq ?_)) rfl
      · rw [cp_eq]
      · rw [cp_eq]; dsimp only; rw [if_pos (by simp at ht57; omega)]; rfl
    ·
      refine a_seq ?_
      refine a_pre (ent_look (L := [(8, .int _ _), (9, .int _ _), (13, .int _ _), (55, .int _ _)]) ⟨wr, wr, wr, wr, trivial⟩) ?_
      refine a_region ?_
      refine rv (v := .bool _) (v_eql il il) ?_
      refine ra (.bool _) ?_
      refine r_nil ?_
      refine a_cond rfl (fun ht60 => ?_) (fun ht60 => ?_)
      ·
        refine aq ?_
        refine rm (.int _ _) ?_
        refine ra (.int _ _) ?_
        refine ra (.int _ _) ?_
        refine r_nil ?_
        refine a_ret ?_
        refine retL (rs := [.tmp 8, .tmp 9]) [(8, _), (9, _)] ⟨wr, wr, trivial⟩ rfl Tryz.results188 (by decide) ⟨by decide, by decide, rfl⟩ (by decide) (by decide) (l2_eq (int_eq ?_) (int_eq ?_)) rfl
        · rw [cp_eq]
        · rw [cp_eq]; dsimp only; rw [if_neg (by simp at ht57; omega), if_pos (by simp at ht60; omega)]; rfl
      ·
        refine aq ?_
        refine rm (.int _ _) ?_
        refine ra (.int _ _) ?_
        refine ra (.int _ _) ?_
        refine r_nil ?_
        refine a_ret ?_
        refine retL (rs := [.tmp 8, .tmp 9]) [(8, _), (9, _)] ⟨wr, wr, trivial⟩ rfl Tryz.results188 (by decide) ⟨by decide, by decide, rfl⟩ (by decide) (by decide) (l2_eq (int_eq ?_) (int_eq ?_)) rfl
        · rw [cp_eq]
        · rw [cp_eq]; dsimp only; rw [if_neg (by simp at ht57; omega), if_neg (by simp at ht60; omega)]; rfl
theorem ta173 : tyAgg Tryz.prog 173 = some (false, 1) := by kernel_rfl
theorem next_c (r : Nat) (h : r < 18446744073709551616) : ACall Tryz.prog 177 [.rp (INH, []) 0] [.op [.int .u64 ((r : Nat) : Int)]] (.int .u64 ((xorNextN r : Nat) : Int)) [.op [.int .u64 ((xorNextN r : Nat) : Int)]] := by
 have ha : (r ^^^ (r * 8192 % 18446744073709551616)) < 2 ^ 64 := Nat.xor_lt_two_pow (by omega) (by omega)
 have hb0 : ((r ^^^ (r * 8192 % 18446744073709551616)) ^^^ ((r ^^^ (r * 8192 % 18446744073709551616)) / 128)) < 2 ^ 64 := Nat.xor_lt_two_pow ha (by omega)
 refine ACall.intro Tryz.func177 rfl (N := 33) rfl (by decide) (by simp) ?_
 refine aq ?_
 refine ra (.int _ _) ?_
 refine r_nil ?_
 refine a_seq ?_
 refine a_region_w [(3, true), (4, true), (5, true), (6, true), (7, true), (8, true), (9, true), (10, true), (11, true), (INH, false)] mixed (by kernel_rfl) ?_
 refine wv (v := .rp _ _) (v_move il nf) ?_
 refine wv (v := .rp _ _) (v_nilCheck il rfl) ?_
 refine wv (v := .int _ _) (v_load_rp1 ta173 il rfl (fun _ => rfl) rfl) ?_
 refine wv (v := .rp _ _) (v_move il nf) ?_
 refine wv (v := .rp _ _) (v_nilCheck il rfl) ?_
 refine wv (v := .int _ _) (v_load_rp1 ta173 il rfl (fun _ => rfl) rfl) ?_
 refine wv (v := .int .u64 ((r * 8192 % 18446744073709551616 : Nat) : Int)) ((v_shlu il il (fun _ => by omega)).cast (int_eq rfl)) ?_
 refine wv (v := .int .u64 (((r ^^^ (r * 8192 % 18446744073709551616)) : Nat) : Int)) (v_xoru il il (fun _ => by omega)) ?_
 refine wv (v := .rp _ _) (v_nilCheck il rfl) ?_
 refine w_store (v := .int _ _) (y' := .op [.int _ _]) rfl rfl rfl ta173 (.inl rfl) (.inl rfl) rfl rfl rfl rfl rfl rfl (Nat.le_of_ble_eq_true rfl) (by decide) rfl rfl rfl (by kernel_rfl) ?_
 refine w_nil ?_
 refine a_seq ?_
 refine a_region_w [(12, true), (13, true), (14, true), (15, true), (16, true), (17, true), (18, true), (19, true), (20, true), (INH, false)] mixed (by kernel_rfl) ?_
 refine wv (v := .rp _ _) (v_move il nf) ?_
 refine wv (v := .rp _ _) (v_nilCheck il rfl) ?_
 refine wv (v := .int _ _) (v_load_rp1 ta173 il rfl (fun _ => rfl) rfl) ?_
 refine wv (v := .rp _ _) (v_move il nf) ?_
 refine wv (v := .rp _ _) (v_nilCheck il rfl) ?_
 refine wv (v := .int _ _) (v_load_rp1 ta173 il rfl (fun _ => rfl) rfl) ?_
 refine wv (v := .int .u64 (((r ^^^ (r * 8192 % 18446744073709551616)) / 128 : Nat) : Int)) ((v_shru il il (fun _ => by omega)).cast (int_eq (by simp))) ?_
 refine wv (v := .int .u64 ((((r ^^^ (r * 8192 % 18446744073709551616)) ^^^ ((r ^^^ (r * 8192 % 18446744073709551616)) / 128)) : Nat) : Int)) (v_xoru il il (fun _ => by omega)) ?_
 refine wv (v := .rp _ _) (v_nilCheck il rfl) ?_
 refine w_store (v := .int _ _) (y' := .op [.int _ _]) rfl rfl rfl ta173 (.inl rfl) (.inl rfl) rfl rfl rfl rfl rfl rfl (Nat.le_of_ble_eq_true rfl) (by decide) rfl rfl rfl (by kernel_rfl) ?_
 refine w_nil ?_
 refine a_seq ?_
 refine a_region_w [(21, true), (22, true), (23, true), (24, true), (25, true), (26, true), (27, true), (28, true), (29, true), (INH, false)] mixed (by kernel_rfl) ?_
 refine wv (v := .rp _ _) (v_move il nf) ?_
 refine wv (v := .rp _ _) (v_nilCheck il rfl) ?_
 refine wv (v := .int _ _) (v_load_rp1 ta173 il rfl (fun _ => rfl) rfl) ?_
 refine wv (v := .rp _ _) (v_move il nf) ?_
 refine wv (v := .rp _ _) (v_nilCheck il rfl) ?_
 refine wv (v := .int _ _) (v_load_rp1 ta173 il rfl (fun _ => rfl) rfl) ?_
 refine wv (v := .int .u64 ((((r ^^^ (r * 8192 % 18446744073709551616)) ^^^ ((r ^^^ (r * 8192 % 18446744073709551616)) / 128)) * 131072 % 18446744073709551616 : Nat) : Int)) ((v_shlu il il (fun _ => by omega)).cast (int_eq rfl)) ?_
 refine wv (v := .int .u64 ((xorNextN r : Nat) : Int)) ((v_xoru il il (fun _ => by omega)).cast (int_eq rfl)) ?_
 refine wv (v := .rp _ _) (v_nilCheck il rfl) ?_
 refine w_store (v := .int _ _) (y' := .op [.int _ _]) rfl rfl rfl ta173 (.inl rfl) (.inl rfl) rfl rfl rfl rfl rfl rfl (Nat.le_of_ble_eq_true rfl) (by decide) rfl rfl rfl (by kernel_rfl) ?_
 refine w_nil ?_
 refine a_seq ?_
 refine a_pre (ent_look (L := [(0, .rp _ _), (2, .int _ _), (INH, .op [.int _ _])]) ⟨wr, wr, wr, trivial⟩) ?_
 refine a_region ?_
 refine rm (.rp _ _) ?_
 refine rv (v := .rp _ _) (v_nilCheck il rfl) ?_
 refine rv (v := .int _ _) (v_load_rp1 ta173 il rfl (fun _ => rfl) rfl) ?_
 refine ra (.int _ _) ?_
 refine r_nil ?_
 refine a_ret ?_
 refine ret1 Tryz.results177 (by decide) (by decide) (Weak.of_eq (int_eq ?_)) rfl (Leaves.one (wr) rfl)
 rfl
theorem iss166 : (Tryz.prog.underlying 166).isSome = true := by kernel_rfl
theorem iss5 : (Tryz.prog.underlying 5).isSome = true := by kernel_rfl
theorem un9 : Tryz.prog.underlying 9 = some .string := by kernel_rfl
theorem uni3 : Tryz.prog.underlying 3 = some (.int .i64) := by kernel_rfl
theorem uni5 : Tryz.prog.underlying 5 = some (.int .u8) := by kernel_rfl
theorem len64_c (n : Nat) (h : n < 18446744073709551616) : ACall Tryz.prog 162 [.int .u64 ((n : Nat) : Int)] [] (.int .i64 ((bitsLen n : Nat) : Int)) [] := by
 have hx1 : lx 32 n < 4294967296 := (by unfold lx; split <;> omega)
 have hx2 : lx 16 (lx 32 n) < 65536 := (by have h9 := hx1; generalize lx 32 n = m at h9 ⊢; unfold lx; split <;> omega)
 have hx3 : lx 8 (lx 16 (lx 32 n)) < 256 := (by have h9 := hx2; generalize lx 16 (lx 32 n) = m at h9 ⊢; unfold lx; split <;> omega)
 have hl3 : bitsLen (lx 8 (lx 16 (lx 32 n))) ≤ 8 := (bitsLen_le_iff _ _).2 hx3
 have hlen : bitsLen n = ll 32 n + ll 16 (lx 32 n) + ll 8 (lx 16 (lx 32 n)) + bitsLen (lx 8 (lx 16 (lx 32 n))) := (by have e1 := lx_len 32 n; have e2 := lx_len 16 (lx 32 n); have e3 := lx_len 8 (lx 16 (lx 32 n)); omega)
 have hb1 : ll 32 n ≤ 32 := (by unfold ll; split <;> omega)
 have hb2 : ll 16 (lx 32 n) ≤ 16 := (by unfold ll; split <;> omega)
 have hb3 : ll 8 (lx 16 (lx 32 n)) ≤ 8 := (by unfold ll; split <;> omega)
 refine ACall.intro Tryz.func162 rfl (N := 25) rfl (by decide) (by simp) ?_
 refine aq ?_
 refine ra (.int _ _) ?_
 refine r_nil ?_
 refine a_seq ?_
 refine aq ?_
 refine rm (.int _ _) ?_
 refine rv (v := .bool _) (v_geq il il) ?_
 refine r_nil ?_
 refine a_cond rfl (fun ht4 => ?_) (fun ht4 => ?_)
 ·
  refine aq ?_
  refine rm (.int _ _) ?_
  refine rv (v := .int .u64 ((n / 4294967296 : Nat) : Int)) ((v_shru il il (fun _ => by omega)).cast (int_eq (by simp))) ?_
  refine ra (.int _ _) ?_
  refine r_nil ?_
  refine a_region ?_
  refine ra (.int _ _) ?_
  refine r_nil ?_
  refine a_seq ?_
  refine a_seq ?_
  refine a_pre (ent_eq (t := 0) (v' := .int .u64 ((lx 32 n : Nat) : Int)) (Weak.of_eq (int_eq (congrArg Nat.cast (by first | exact (if_pos (show 2 ^ 32 ≤ n by simp at ht4; omega)).symm | exact (if_neg (show ¬ 2 ^ 32 ≤ n by simp at ht4; omega)).symm))))) ?_
  refine a_pre (ent_eq (t := 2) (v' := .int .i64 ((ll 32 n : Nat) : Int)) (Weak.of_eq (int_eq (by first | (rw [show ll 32 (n) = 32 from if_pos (show 2 ^ 32 ≤ n by simp at ht4; omega)]; rfl) | (rw [show ll 32 (n) = 0 from if_neg (show ¬ 2 ^ 32 ≤ n by simp at ht4; omega)]; rfl))))) ?_
  refine a_region ?_
  refine rm (.int _ _) ?_
  refine rv (v := .bool _) (v_geq il il) ?_
  refine r_nil ?_
  refine a_cond rfl (fun ht8 => ?_) (fun ht8 => ?_)
  ·
   refine aq ?_
   refine rm (.int _ _) ?_
   refine rv (v := .int .u64 ((lx 32 n / 65536 : Nat) : Int)) ((v_shru il il (fun _ => by omega)).cast (int_eq (by simp))) ?_
   refine ra (.int _ _) ?_
   refine r_nil ?_
   refine a_region ?_
   refine rm (.int _ _) ?_
   refine rv (v := .int _ _) (v_add il il (fun _ => by omega)) ?_
   refine ra (.int _ _) ?_
   refine r_nil ?_
   refine a_seq ?_
   refine a_seq ?_
   refine a_pre (ent_eq (t := 0) (v' := .int .u64 ((lx 16 (lx 32 n) : Nat) : Int)) (Weak.of_eq (int_eq (congrArg Nat.cast (by first | exact (if_pos (show 2 ^ 16 ≤ lx 32 n by simp at ht8; omega)).symm | exact (if_neg (show ¬ 2 ^ 16 ≤ lx 32 n by simp at ht8; omega)).symm))))) ?_
   refine a_pre (ent_eq (t := 2) (v' := .int .i64 ((ll 32 n + ll 16 (lx 32 n) : Nat) : Int)) (Weak.of_eq (int_eq (by first | (rw [show ll 16 (lx 32 n) = 16 from if_pos (show 2 ^ 16 ≤ lx 32 n by simp at ht8; omega)]; rfl) | (rw [show ll 16 (lx 32 n) = 0 from if_neg (show ¬ 2 ^ 16 ≤ lx 32 n by simp at ht8; omega)]; rfl))))) ?_
   refine a_region ?_
   refine rm (.int _ _) ?_
   refine rv (v := .bool _) (v_geq il il) ?_
   refine r_nil ?_
   refine a_cond rfl (fun ht14 => ?_) (fun ht14 => ?_)
   ·
    refine aq ?_
    refine rm (.int _ _) ?_
    refine rv (v := .int .u64 ((lx 16 (lx 32 n) / 256 : Nat) : Int)) ((v_shru il il (fun _ => by omega)).cast (int_eq (by simp))) ?_
    refine ra (.int _ _) ?_
    refine r_nil ?_
    refine a_region ?_
    refine rm (.int _ _) ?_
    refine rv (v := .int _ _) (v_add il il (fun _ => by omega)) ?_
    refine ra (.int _ _) ?_
    refine r_nil ?_
    refine a_seq ?_
    refine a_pre (ent_eq (t := 0) (v' := .int .u64 ((lx 8 (lx 16 (lx 32 n)) : Nat) : Int)) (Weak.of_eq (int_eq (congrArg Nat.cast (by first | exact (if_pos (show 2 ^ 8 ≤ lx 16 (lx 32 n) by simp at ht14; omega)).symm | exact (if_neg (show ¬ 2 ^ 8 ≤ lx 16 (lx 32 n) by simp at ht14; omega)).symm))))) ?_
    refine a_pre (ent_eq (t := 2) (v' := .int .i64 ((ll 32 n + ll 16 (lx 32 n) + ll 8 (lx 16 (lx 32 n)) : Nat) : Int)) (Weak.of_eq (int_eq (by first | (rw [show ll 8 (lx 16 (lx 32 n)) = 8 from if_pos (show 2 ^ 8 ≤ lx 16 (lx 32 n) by simp at ht14; omega)]; rfl) | (rw [show ll 8 (lx 16 (lx 32 n)) = 0 from if_neg (show ¬ 2 ^ 8 ≤ lx 16 (lx 32 n) by simp at ht14; omega)]; rfl))))) ?_
    refine a_region ?_
    refine rm (.int _ _) ?_
    refine rm (.int _ _) ?_
    refine rv (v := .int .u8 ((lx 8 (lx 16 (lx 32 n)) : Nat) : Int)) (v_conv iss166 uni5 il (fun _ => IntWalk.u8_in _ (by omega))) ?_
    refine rv (v := .int .u8 ((bitsLen (lx 8 (lx 16 (lx 32 n))) : Nat) : Int)) ((v_index_str un9 il il (fun _ => ⟨by omega, Int.lt_of_lt_of_le (Int.ofNat_lt.2 hx3) (by decide +kernel)⟩)).cast (int_eq (congrArg Nat.cast (by revert hx3; generalize lx 8 (lx 16 (lx 32 n)) = m; revert m; decide +kernel)))) ?_
    refine rv (v := .int _ _) (v_conv iss5 uni3 il (fun _ => by first | rfl | exact IntWalk.i64_in _ (by omega))) ?_
    refine rv (v := .int _ _) (v_add il il (fun _ => by omega)) ?_
    refine ra (.int _ _) ?_
    refine r_nil ?_
    refine a_ret ?_
    refine ret1 Tryz.results162 (by decide) (by decide) (Weak.of_eq (int_eq ?_)) rfl Leaves.nil
    rw [hlen]; simp
   ·
    refine a_skip ?_
    refine a_seq ?_
    refine a_pre (ent_eq (t := 0) (v' := .int .u64 ((lx 8 (lx 16 (lx 32 n)) : Nat) : Int)) (Weak.of_eq (int_eq (congrArg Nat.cast (by first | exact (if_pos (show 2 ^ 8 ≤ lx 16 (lx 32 n) by simp at ht14; omega)).symm | exact (if_neg (show ¬ 2 ^ 8 ≤ lx 16 (lx 32 n) by simp at ht14; omega)).symm))))) ?_
    refine a_pre (ent_eq (t := 2) (v' := .int .i64 ((ll 32 n + ll 16 (lx 32 n) + ll 8 (lx 16 (lx 32 n)) : Nat) : Int)) (Weak.of_eq (int_eq (by first | (rw [show ll 8 (lx 16 (lx 32 n)) = 8 from if_pos (show 2 ^ 8 ≤ lx 16 (lx 32 n) by simp at ht14; omega)]; rfl) | (rw [show ll 8 (lx 16 (lx 32 n)) = 0 from if_neg (show ¬ 2 ^ 8 ≤ lx 16 (lx 32 n) by simp at ht14; omega)]; rfl))))) ?_
    refine a_region ?_
    refine rm (.int _ _) ?_
    refine rm (.int _ _) ?_
    refine rv (v := .int .u8 ((lx 8 (lx 16 (lx 32 n)) : Nat) : Int)) (v_conv iss166 uni5 il (fun _ => IntWalk.u8_in _ (by omega))) ?_
    refine rv (v := .int .u8 ((bitsLen (lx 8 (lx 16 (lx 32 n))) : Nat) : Int)) ((v_index_str un9 il il (fun _ => ⟨by omega, Int.lt_of_lt_of_le (Int.ofNat_lt.2 hx3) (by decide +kernel)⟩)).cast (int_eq (congrArg Nat.cast (by revert hx3; generalize lx 8 (lx 16 (lx 32 n)) = m; revert m; decide +kernel)))) ?_
    refine rv (v := .int _ _) (v_conv iss5 uni3 il (fun _ => by first | rfl | exact IntWalk.i64_in _ (by omega))) ?_
    refine rv (v := .int _ _) (v_add il il (fun _ => by omega)) ?_
    refine ra (.int _ _) ?_
    refine r_nil ?_
    refine a_ret ?_
    refine ret1 Tryz.results162 (by decide) (by decide) (Weak.of_eq (int_eq ?_)) rfl Leaves.nil
    rw [hlen]; simp
  ·
   refine a_skip ?_
   refine a_seq ?_
   refine a_seq ?_
   refine a_pre (ent_eq (t := 0) (v' := .int .u64 ((lx 16 (lx 32 n) : Nat) : Int)) (Weak.of_eq (int_eq (congrArg Nat.cast (by first | exact (if_pos (show 2 ^ 16 ≤ lx 32 n by simp at ht8; omega)).symm | exact (if_neg (show ¬ 2 ^ 16 ≤ lx 32 n by simp at ht8; omega)).symm))))) ?_
   refine a_pre (ent_eq (t := 2) (v' := .int .i64 ((ll 32 n + ll 16 (lx 32 n) : Nat) : Int)) (Weak.of_eq (int_eq (by first | (rw [show ll 16 (lx 32 n) = 16 from if_pos (show 2 ^ 16 ≤ lx 32 n by simp at ht8; omega)]; rfl) | (rw [show ll 16 (lx 32 n) = 0 from if_neg (show ¬ 2 ^ 16 ≤ lx 32 n by simp at ht8; omega)]; rfl))))) ?_
   refine a_region ?_
   refine rm (.int _ _) ?_
   refine rv (v := .bool _) (v_geq il il) ?_
   refine r_nil ?_
   refine a_cond rfl (fun ht14 => ?_) (fun ht14 => ?_)
   ·
    refine aq ?_
    refine rm (.int _ _) ?_
    refine rv (v := .int .u64 ((lx 16 (lx 32 n) / 256 : Nat) : Int)) ((v_shru il il (fun _ => by omega)).cast (int_eq (by simp))) ?_
    refine ra (.int _ _) ?_
    refine r_nil ?_
    refine a_region ?_
    refine rm (.int _ _) ?_
    refine rv (v := .int _ _) (v_add il il (fun _ => by omega)) ?_
    refine ra (.int _ _) ?_
    refine r_nil ?_
    refine a_seq ?_
    refine a_pre (ent_eq (t := 0) (v' := .int .u64 ((lx 8 (lx 16 (lx 32 n)) : Nat) : Int)) (Weak.of_eq (int_eq (congrArg Nat.cast (by first | exact (if_pos (show 2 ^ 8 ≤ lx 16 (lx 32 n) by simp at ht14; omega)).symm | exact (if_neg (show ¬ 2 ^ 8 ≤ lx 16 (lx 32 n) by simp at ht14; omega)).symm))))) ?_
    refine a_pre (ent_eq (t := 2) (v' := .int .i64 ((ll 32 n + ll 16 (lx 32 n) + ll 8 (lx 16 (lx 32 n)) : Nat) : Int)) (Weak.of_eq (int_eq (by first | (rw [show ll 8 (lx 16 (lx 32 n)) = 8 from if_pos (show 2 ^ 8 ≤ lx 16 (lx 32 n) by simp at ht14; omega)]; rfl) | (rw [show ll 8 (lx 16 (lx 32 n)) = 0 from if_neg (show ¬ 2 ^ 8 ≤ lx 16 (lx 32 n) by simp at ht14; omega)]; rfl))))) ?_
    refine a_region ?_
    refine rm (.int _ _) ?_
    refine rm (.int _ _) ?_
    refine rv (v := .int .u8 ((lx 8 (lx 16 (lx 32 n)) : Nat) : Int)) (v_conv iss166 uni5 il (fun _ => IntWalk.u8_in _ (by omega))) ?_
    refine rv (v := .int .u8 ((bitsLen (lx 8 (lx 16 (lx 32 n))) : Nat) : Int)) ((v_index_str un9 il il (fun _ => ⟨by omega, Int.lt_of_lt_of_le (Int.ofNat_lt.2 hx3) (by decide +kernel)⟩)).cast (int_eq (congrArg Nat.cast (by revert hx3; generalize lx 8 (lx 16 (lx 32 n)) = m; revert m; decide +kernel)))) ?_
    refine rv (v := .int _ _) (v_conv iss5 uni3 il (fun _ => by first | rfl | exact IntWalk.i64_in _ (by omega))) ?_
    refine rv (v := .int _ _) (v_add il il (fun _ => by omega)) ?_
    refine ra (.int _ _) ?_
    refine r_nil ?_
    refine a_ret ?_
    refine ret1 Tryz.results162 (by decide) (by decide) (Weak.of_eq (int_eq ?_)) rfl Leaves.nil
    rw [hlen]; simp
   ·
    refine a_skip ?_
    refine a_seq ?_
    refine a_pre (ent_eq (t := 0) (v' := .int .u64 ((lx 8 (lx 16 (lx 32 n)) : Nat) : Int)) (Weak.of_eq (int_eq (congrArg Nat.cast (by first | exact (if_pos (show 2 ^ 8 ≤ lx 16 (lx 32 n) by simp at ht14; omega)).symm | exact (if_neg (show ¬ 2 ^ 8 ≤ lx 16 (lx 32 n) by simp at ht14; omega)).symm))))) ?_
    refine a_pre (ent_eq (t := 2) (v' := .int .i64 ((ll 32 n + ll 16 (lx 32 n) + ll 8 (lx 16 (lx 32 n)) : Nat) : Int)) (Weak.of_eq (int_eq (by first | (rw [show ll 8 (lx 16 (lx 32 n)) = 8 from if_pos (show 2 ^ 8 ≤ lx 16 (lx 32 n) by simp at ht14; omega)]; rfl) | (rw [show ll 8 (lx 16 (lx 32 n)) = 0 from if_neg (show ¬ 2 ^ 8 ≤ lx 16 (lx 32 n) by simp at ht14; omega)]; rfl))))) ?_
    refine a_region ?_
    refine rm (.int _ _) ?_
    refine rm (.int _ _) ?_
    refine rv (v := .int .u8 ((lx 8 (lx 16 (lx 32 n)) : Nat) : Int)) (v_conv iss166 uni5 il (fun _ => IntWalk.u8_in _ (by omega))) ?_
    refine rv (v := .int .u8 ((bitsLen (lx 8 (lx 16 (lx 32 n))) : Nat) : Int)) ((v_index_str un9 il il (fun _ => ⟨by omega, Int.lt_of_lt_of_le (Int.ofNat_lt.2 hx3) (by decide +kernel)⟩)).cast (int_eq (congrArg Nat.cast (by revert hx3; generalize lx 8 (lx 16 (lx 32 n)) = m; revert m; decide +kernel)))) ?_
    refine rv (v := .int _ _) (v_conv iss5 uni3 il (fun _ => by first | rfl | exact IntWalk.i64_in _ (by omega))) ?_
    refine rv (v := .int _ _) (v_add il il (fun _ => by omega)) ?_
    refine ra (.int _ _) ?_
    refine r_nil ?_
    refine a_ret ?_
    refine ret1 Tryz.results162 (by decide) (by decide) (Weak.of_eq (int_eq ?_)) rfl Leaves.nil
    rw [hlen]; simp
 ·
  refine a_skip ?_
  refine a_seq ?_
  refine a_seq ?_
  refine a_pre (ent_eq (t := 0) (v' := .int .u64 ((lx 32 n : Nat) : Int)) (Weak.of_eq (int_eq (congrArg Nat.cast (by first | exact (if_pos (show 2 ^ 32 ≤ n by simp at ht4; omega)).symm | exact (if_neg (show ¬ 2 ^ 32 ≤ n by simp at ht4; omega)).symm))))) ?_
  refine a_pre (ent_eq (t := 2) (v' := .int .i64 ((ll 32 n : Nat) : Int)) (Weak.of_eq (int_eq (by first | (rw [show ll 32 (n) = 32 from if_pos (show 2 ^ 32 ≤ n by simp at ht4; omega)]; rfl) | (rw [show ll 32 (n) = 0 from if_neg (show ¬ 2 ^ 32 ≤ n by simp at ht4; omega)]; rfl))))) ?_
  refine a_region ?_
  refine rm (.int _ _) ?_
  refine rv (v := .bool _) (v_geq il il) ?_
  refine r_nil ?_
  refine a_cond rfl (fun ht8 => ?_) (fun ht8 => ?_)
  ·
   refine aq ?_
   refine rm (.int _ _) ?_
   refine rv (v := .int .u64 ((lx 32 n / 65536 : Nat) : Int)) ((v_shru il il (fun _ => by omega)).cast (int_eq (by simp))) ?_
   refine ra (.int _ _) ?_
   refine r_nil ?_
   refine a_region ?_
   refine rm (.int _ _) ?_
   refine rv (v := .int _ _) (v_add il il (fun _ => by omega)) ?_
   refine ra (.int _ _) ?_
   refine r_nil ?_
   refine a_seq ?_
   refine a_seq ?_
   refine a_pre (ent_eq (t := 0) (v' := .int .u64 ((lx 16 (lx 32 n) : Nat) : Int)) (Weak.of_eq (int_eq (congrArg Nat.cast (by first | exact (if_pos (show 2 ^ 16 ≤ lx 32 n by simp at ht8; omega)).symm | exact (if_neg (show ¬ 2 ^ 16 ≤ lx 32 n by simp at ht8; omega)).symm))))) ?_
   refine a_pre (ent_eq (t := 2) (v' := .int .i64 ((ll 32 n + ll 16 (lx 32 n) : Nat) : Int)) (Weak.of_eq (int_eq (by first | (rw [show ll 16 (lx 32 n) = 16 from if_pos (show 2 ^ 16 ≤ lx 32 n by simp at ht8; omega)]; rfl) | (rw [show ll 16 (lx 32 n) = 0 from if_neg (show ¬ 2 ^ 16 ≤ lx 32 n by simp at ht8; omega)]; rfl))))) ?_
   refine a_region ?_
   refine rm (.int _ _) ?_
   refine rv (v := .bool _) (v_geq il il) ?_
   refine r_nil ?_
   refine a_cond rfl (fun ht14 => ?_) (fun ht14 => ?_)
   ·
    refine aq ?_
    refine rm (.int _ _) ?_
    refine rv (v := .int .u64 ((lx 16 (lx 32 n) / 256 : Nat) : Int)) ((v_shru il il (fun _ => by omega)).cast (int_eq (by simp))) ?_
    refine ra (.int _ _) ?_
    refine r_nil ?_
    refine a_region ?_
    refine rm (.int _ _) ?_
    refine rv (v := .int _ _) (v_add il il (fun _ => by omega)) ?_
    refine ra (.int _ _) ?_
    refine r_nil ?_
    refine a_seq ?_
    refine a_pre (ent_eq (t := 0) (v' := .int .u64 ((lx 8 (lx 16 (lx 32 n)) : Nat) : Int)) (Weak.of_eq (int_eq (congrArg Nat.cast (by first | exact (if_pos (show 2 ^ 8 ≤ lx 16 (lx 32 n) by simp at ht14; omega)).symm | exact (if_neg (show ¬ 2 ^ 8 ≤ lx 16 (lx 32 n) by simp at ht14; omega)).symm))))) ?_
    refine a_pre (ent_eq (t := 2) (v' := .int .i64 ((ll 32 n + ll 16 (lx 32 n) + ll 8 (lx 16 (lx 32 n)) : Nat) : Int)) (Weak.of_eq (int_eq (by first | (rw [show ll 8 (lx 16 (lx 32 n)) = 8 from if_pos (show 2 ^ 8 ≤ lx 16 (lx 32 n) by simp at ht14; omega)]; rfl) | (rw [show ll 8 (lx 16 (lx 32 n)) = 0 from if_neg (show ¬ 2 ^ 8 ≤ lx 16 (lx 32 n) by simp at ht14; omega)]; rfl))))) ?_
    refine a_region ?_
    refine rm (.int _ _) ?_
    refine rm (.int _ _) ?_
    refine rv (v := .int .u8 ((lx 8 (lx 16 (lx 32 n)) : Nat) : Int)) (v_conv iss166 uni5 il (fun _ => IntWalk.u8_in _ (by omega))) ?_
    refine rv (v := .int .u8 ((bitsLen (lx 8 (lx 16 (lx 32 n))) : Nat) : Int)) ((v_index_str un9 il il (fun _ => ⟨by omega, Int.lt_of_lt_of_le (Int.ofNat_lt.2 hx3) (by decide +kernel)⟩)).cast (int_eq (congrArg Nat.cast (by revert hx3; generalize lx 8 (lx 16 (lx 32 n)) = m; revert m; decide +kernel)))) ?_
    refine rv (v := .int _ _) (v_conv iss5 uni3 il (fun _ => by first | rfl | exact IntWalk.i64_in _ (by omega))) ?_
    refine rv (v := .int _ _) (v_add il il (fun _ => by omega)) ?_
    refine ra (.int _ _) ?_
    refine r_nil ?_
    refine a_ret ?_
    refine ret1 Tryz.results162 (by decide) (by decide) (Weak.of_eq (int_eq ?_)) rfl Leaves.nil
    rw [hlen]; simp
   ·
    refine a_skip ?_
    refine a_seq ?_
    refine a_pre (ent_eq (t := 0) (v' := .int .u64 ((lx 8 (lx 16 (lx 32 n)) : Nat) : Int)) (Weak.of_eq (int_eq (congrArg Nat.cast (by first | exact (if_pos (show 2 ^ 8 ≤ lx 16 (lx 32 n) by simp at ht14; omega)).symm | exact (if_neg (show ¬ 2 ^ 8 ≤ lx 16 (lx 32 n) by simp at ht14; omega)).symm))))) ?_
    refine a_pre (ent_eq (t := 2) (v' := .int .i64 ((ll 32 n + ll 16 (lx 32 n) + ll 8 (lx 16 (lx 32 n)) : Nat) : Int)) (Weak.of_eq (int_eq (by first | (rw [show ll 8 (lx 16 (lx 32 n)) = 8 from if_pos (show 2 ^ 8 ≤ lx 16 (lx 32 n) by simp at ht14; omega)]; rfl) | (rw [show ll 8 (lx 16 (lx 32 n)) = 0 from if_neg (show ¬ 2 ^ 8 ≤ lx 16 (lx 32 n) by simp at ht14; omega)]; rfl))))) ?_
    refine a_region ?_
    refine rm (.int _ _) ?_
    refine rm (.int _ _) ?_
    refine rv (v := .int .u8 ((lx 8 (lx 16 (lx 32 n)) : Nat) : Int)) (v_conv iss166 uni5 il (fun _ => IntWalk.u8_in _ (by omega))) ?_
    refine rv (v := .int .u8 ((bitsLen (lx 8 (lx 16 (lx 32 n))) : Nat) : Int)) ((v_index_str un9 il il (fun _ => ⟨by omega, Int.lt_of_lt_of_le (Int.ofNat_lt.2 hx3) (by decide +kernel)⟩)).cast (int_eq (congrArg Nat.cast (by revert hx3; generalize lx 8 (lx 16 (lx 32 n)) = m; revert m; decide +kernel)))) ?_
    refine rv (v := .int _ _) (v_conv iss5 uni3 il (fun _ => by first | rfl | exact IntWalk.i64_in _ (by omega))) ?_
    refine rv (v := .int _ _) (v_add il il (fun _ => by omega)) ?_
    refine ra (.int _ _) ?_
    refine r_nil ?_
    refine a_ret ?_
    refine ret1 Tryz.results162 (by decide) (by decide) (Weak.of_eq (int_eq ?_)) rfl Leaves.nil
    rw [hlen]; simp
  ·
   refine a_skip ?_
   refine a_seq ?_
   refine a_seq ?_
   refine a_pre (ent_eq (t := 0) (v' := .int .u64 ((lx 16 (lx 32 n) : Nat) : Int)) (Weak.of_eq (int_eq (congrArg Nat.cast (by first | exact (if_pos (show 2 ^ 16 ≤ lx 32 n by simp at ht8; omega)).symm | exact (if_neg (show ¬ 2 ^ 16 ≤ lx 32 n by simp at ht8; omega)).symm))))) ?_
   refine a_pre (ent_eq (t := 2) (v' := .int .i64 ((ll 32 n + ll 16 (lx 32 n) : Nat) : Int)) (Weak.of_eq (int_eq (by first | (rw [show ll 16 (lx 32 n) = 16 from if_pos (show 2 ^ 16 ≤ lx 32 n by simp at ht8; omega)]; rfl) | (rw [show ll 16 (lx 32 n) = 0 from if_neg (show ¬ 2 ^ 16 ≤ lx 32 n by simp at ht8; omega)]; rfl))))) ?_
   refine a_region ?_
   refine rm (.int _ _) ?_
   refine rv (v := .bool _) (v_geq il il) ?_
   refine r_nil ?_
   refine a_cond rfl (fun ht14 => ?_) (fun ht14 => ?_)
   ·
    refine aq ?_
    refine rm (.int _ _) ?_
    refine rv (v := .int .u64 ((lx 16 (lx 32 n) / 256 : Nat) : Int)) ((v_shru il il (fun _ => by omega)).cast (int_eq (by simp))) ?_
    refine ra (.int _ _) ?_
    refine r_nil ?_
    refine a_region ?_
    refine rm (.int _ _) ?_
    refine rv (v := .int _ _) (v_add il il (fun _ => by omega)) ?_
    refine ra (.int _ _) ?_
    refine r_nil ?_
    refine a_seq ?_
    refine a_pre (ent_eq (t := 0) (v' := .int .u64 ((lx 8 (lx 16 (lx 32 n)) : Nat) : Int)) (Weak.of_eq (int_eq (congrArg Nat.cast (by first | exact (if_pos (show 2 ^ 8 ≤ lx 16 (lx 32 n) by simp at ht14; omega)).symm | exact (if_neg (show ¬ 2 ^ 8 ≤ lx 16 (lx 32 n) by simp at ht14; omega)).symm))))) ?_
    refine a_pre (ent_eq (t := 2) (v' := .int .i64 ((ll 32 n + ll 16 (lx 32 n) + ll 8 (lx 16 (lx 32 n)) : Nat) : Int)) (Weak.of_eq (int_eq (by first | (rw [show ll 8 (lx 16 (lx 32 n)) = 8 from if_pos (show 2 ^ 8 ≤ lx 16 (lx 32 n) by simp at ht14; omega)]; rfl) | (rw [show ll 8 (lx 16 (lx 32 n)) = 0 from if_neg (show ¬ 2 ^ 8 ≤ lx 16 (lx 32 n) by simp at ht14; omega)]; rfl))))) ?_
    refine a_region ?_
    refine rm (.int _ _) ?_
    refine rm (.int _ _) ?_
    refine rv (v := .int .u8 ((lx 8 (lx 16 (lx 32 n)) : Nat) : Int)) (v_conv iss166 uni5 il (fun _ => IntWalk.u8_in _ (by omega))) ?_
    refine rv (v := .int .u8 ((bitsLen (lx 8 (lx 16 (lx 32 n))) : Nat) : Int)) ((v_index_str un9 il il (fun _ => ⟨by omega, Int.lt_of_lt_of_le (Int.ofNat_lt.2 hx3) (by decide +kernel)⟩)).cast (int_eq (congrArg Nat.cast (by revert hx3; generalize lx 8 (lx 16 (lx 32 n)) = m; revert m; decide +kernel)))) ?_
    refine rv (v := .int _ _) (v_conv iss5 uni3 il (fun _ => by first | rfl | exact IntWalk.i64_in _ (by omega))) ?_
    refine rv (v := .int _ _) (v_add il il (fun _ => by omega)) ?_
    refine ra (.int _ _) ?_
    refine r_nil ?_
    refine a_ret ?_
    refine ret1 Tryz.results162 (by decide) (by decide) (Weak.of_eq (int_eq ?_)) rfl Leaves.nil
    rw [hlen]; simp
   ·
    refine a_skip ?_
    refine a_seq ?_
    refine a_pre (ent_eq (t := 0) (v' := .int .u64 ((lx 8 (lx 16 (lx 32 n)) : Nat) : Int)) (Weak.of_eq (int_eq (congrArg Nat.cast (by first | exact (if_pos (show 2 ^ 8 ≤ lx 16 (lx 32 n) by simp at ht14; omega)).symm | exact (if_neg (show ¬ 2 ^ 8 ≤ lx 16 (lx 32 n) by simp at ht14; omega)).symm))))) ?_
    refine a_pre (ent_eq (t := 2) (v' := .int .i64 ((ll 32 n + ll 16 (lx 32 n) + ll 8 (lx 16 (lx 32 n)) : Nat) : Int)) (Weak.of_eq (int_eq (by first | (rw [show ll 8 (lx 16 (lx 32 n)) = 8 from if_pos (show 2 ^ 8 ≤ lx 16 (lx 32 n) by simp at ht14; omega)]; rfl) | (rw [show ll 8 (lx 16 (lx 32 n)) = 0 from if_neg (show ¬ 2 ^ 8 ≤ lx 16 (lx 32 n) by simp at ht14; omega)]; rfl))))) ?_
    refine a_region ?_
    refine rm (.int _ _) ?_
    refine rm (.int _ _) ?_
    refine rv (v := .int .u8 ((lx 8 (lx 16 (lx 32 n)) : Nat) : Int)) (v_conv iss166 uni5 il (fun _ => IntWalk.u8_in _ (by omega))) ?_
    refine rv (v := .int .u8 ((bitsLen (lx 8 (lx 16 (lx 32 n))) : Nat) : Int)) ((v_index_str un9 il il (fun _ => ⟨by omega, Int.lt_of_lt_of_le (Int.ofNat_lt.2 hx3) (by decide +kernel)⟩)).cast (int_eq (congrArg Nat.cast (by revert hx3; generalize lx 8 (lx 16 (lx 32 n)) = m; revert m; decide +kernel)))) ?_
    refine rv (v := .int _ _) (v_conv iss5 uni3 il (fun _ => by first | rfl | exact IntWalk.i64_in _ (by omega))) ?_
    refine rv (v := .int _ _) (v_add il il (fun _ => by omega)) ?_
    refine ra (.int _ _) ?_
    refine r_nil ?_
    refine a_ret ?_
    refine ret1 Tryz.results162 (by decide) (by decide) (Weak.of_eq (int_eq ?_)) rfl Leaves.nil
    rw [hlen]; simp
theorem hb142 : hasBody Tryz.prog 142 = true := by kernel_rfl
theorem hb162 : hasBody Tryz.prog 162 = true := by kernel_rfl
theorem iss3 : (Tryz.prog.underlying 3).isSome = true := by kernel_rfl
theorem uni146 : Tryz.prog.underlying 146 = some (.int .u64) := by kernel_rfl
theorem len_c (n : Nat) (h : n < 18446744073709551616) : ACall Tryz.prog 142 [.int .u64 ((n : Nat) : Int)] [] (.int .i64 ((bitsLen n : Nat) : Int)) [] := by
 refine ACall.intro Tryz.func142 rfl (N := 8) rfl (by decide) (by simp) ?_
 refine aq ?_
 refine ra (.int _ _) ?_
 refine r_nil ?_
 refine a_seq ?_
 refine a_condF ?_
 refine a_skip ?_
 refine aq ?_
 refine rm (.int _ _) ?_
 refine rn (v := .int _ _) (q_call (vs := [.int _ _]) (args := [.int .u64 ((_ : Nat) : Int)]) hb162 ⟨il, trivial⟩ rfl (fun hA => len64_c _ h) rfl rfl) ?_
 refine ra (.int _ _) ?_
 refine r_nil ?_
 refine a_ret ?_
 refine ret1 Tryz.results142 (by decide) (by decide) (Weak.of_eq (int_eq ?_)) rfl Leaves.nil
 rfl
theorem nextPow_c (n : Nat) (h : n ≤ 1152921504606846976) : ACall Tryz.prog 176 [.int .i64 ((n : Nat) : Int)] [] (.int .u64 ((2 ^ bitsLen n : Nat) : Int)) [] := by
 have hb : bitsLen n ≤ 61 := (bitsLen_le_iff _ _).2 (by omega)
 have hp : 2 ^ bitsLen n ≤ 2 ^ 61 := Nat.pow_le_pow_right (by decide) hb
 refine ACall.intro Tryz.func176 rfl (N := 7) rfl (by decide) (by simp) ?_
 refine aq ?_
 refine ra (.int _ _) ?_
 refine r_nil ?_
 refine aq ?_
 refine rm (.int _ _) ?_
 refine rv (v := .int _ _) (v_conv iss3 uni146 il (fun _ => IntWalk.u64_in _ (by omega))) ?_
 refine rn (v := .int _ _) (q_call (vs := [.int _ _]) (args := [.int .u64 ((_ : Nat) : Int)]) hb142 ⟨il, trivial⟩ rfl (fun hA => len_c _ (by omega)) rfl rfl) ?_
 refine rv (v := .int .u64 ((2 ^ bitsLen n : Nat) : Int)) ((v_shlu (m := 1) il il (fun _ => by omega)).cast (int_eq (congrArg Nat.cast (by rw [Nat.one_mul, Int.toNat_natCast]; exact Nat.mod_eq_of_lt (by omega))))) ?_
 refine ra (.int _ _) ?_
 refine r_nil ?_
 refine a_ret ?_
 refine ret1 Tryz.results176 (by decide) (by decide) (Weak.of_eq (int_eq ?_)) rfl Leaves.nil
 rfl
theorem hb176 : hasBody Tryz.prog 176 = true := by kernel_rfl
theorem hb177 : hasBody Tryz.prog 177 = true := by kernel_rfl
theorem iss146 : (Tryz.prog.underlying 146).isSome = true := by kernel_rfl
theorem uni173 : Tryz.prog.underlying 173 = some (.int .u64) := by kernel_rfl
theorem zc173 : zeroCells Tryz.prog 173 = some [.int .u64 0] := by kernel_rfl
theorem breakPatterns_c (f : Nat) (d : Array Int) (n a b : Nat) (hd : d.size = n) (hab : a < b ∧ b ≤ n) (hn : n ≤ 1152921504606846976) : ACall Tryz.prog 187 [.rsl (INH, []) 1 0 n none, .int .i64 ((a : Nat) : Int), .int .i64 ((b : Nat) : Int), .fn f [] []] [.osl 1 (acells d) n none] (.tup []) [.osl 1 (acells (breakPatterns d a b)) n none] := by
 have hbl : bitsLen (b - a) ≤ 61 := (bitsLen_le_iff _ _).2 (by omega)
 have hpw : 2 ^ bitsLen (b - a) ≤ 2 ^ 61 := Nat.pow_le_pow_right (by decide) hbl
 have hp0 : 0 < 2 ^ bitsLen (b - a) := Nat.two_pow_pos _
 refine ACall.intro Tryz.func187 rfl (N := 67) rfl (by decide) (by simp) ?_
 refine aq ?_
 refine rm (.int _ _) ?_
 refine rm (.int _ _) ?_
 refine rv (v := .int .i64 ((b - a : Nat) : Int)) ((v_sub il il (fun _ => by omega)).cast (int_eq (by omega))) ?_
 refine ra (.int _ _) ?_
 refine r_nil ?_
 refine aq ?_
 refine rm (.int _ _) ?_
 refine rv (v := .bool _) (v_geq il il) ?_
 refine r_nil ?_
 refine a_cond rfl (fun ht17 => ?_) (fun ht17 => ?_)
 ·
  refine a_seq ?_
  have h8 : b - a ≥ 8 := (by simp at ht17; omega)
  refine a_region ?_
  refine rm (.int _ _) ?_
  refine rv (v := .int _ _) (v_conv iss3 uni173 il (fun _ => IntWalk.u64_in _ (by omega))) ?_
  refine rn (v := .op [.int _ _]) (q_alloc zc173) ?_
  refine r_step rfl (o_store (v := .int _ _) (y' := .op [.int _ _]) rfl rfl ta173 il il rfl rfl rfl rfl rfl rfl (Nat.le_of_ble_eq_true rfl) (by decide) rfl rfl) ?_
  refine r_nil ?_
  refine aq ?_
  refine rm (.int _ _) ?_
  refine rn (v := .int _ _) (q_call (vs := [.int _ _]) (args := [.int .i64 ((_ : Nat) : Int)]) hb176 ⟨il, trivial⟩ rfl (fun hA => nextPow_c (b - a) (by omega)) rfl rfl) ?_
  refine ra (.int _ _) ?_
  refine r_nil ?_
  refine aq ?_
  refine rm (.int _ _) ?_
  refine rm (.int _ _) ?_
  refine rv (v := .int .i64 (((b - a) / 4 : Nat) : Int)) ((v_quo il il (fun _ => by omega)).cast (int_eq (by omega))) ?_
  refine rv (v := .int .i64 (((b - a) / 4 * 2 : Nat) : Int)) ((v_mul il il (fun _ => by omega)).cast (int_eq (by omega))) ?_
  refine rv (v := .int .i64 ((a + (b - a) / 4 * 2 : Nat) : Int)) ((v_add il il (fun _ => by omega)).cast (int_eq (by omega))) ?_
  refine rv (v := .int .i64 ((a + (b - a) / 4 * 2 - 1 : Nat) : Int)) ((v_sub il il (fun _ => by omega)).cast (int_eq (by omega))) ?_
  refine ra (.int _ _) ?_
  refine r_nil ?_
  refine a_block ?_
  refine a_loop (X := (Nat × Nat × Array Int)) (fun x => look [(0, .rsl (INH, []) 1 0 n none), (1, .int .i64 ((a : Nat) : Int)), (8, .int .i64 ((b - a : Nat) : Int)), (9, .op [.int .u64 ((x.2.1 : Nat) : Int)]), (10, .int .u64 ((2 ^ bitsLen (b - a) : Nat) : Int)), (11, .int .i64 (((a + (b - a) / 4 * 2 - 1 + x.1) : Nat) : Int)), (INH, .osl 1 (acells x.2.2) n none)]) (fun x => x.1 ≤ 3 ∧ x.2.1 < 18446744073709551616 ∧ x.2.2.size = n ∧ bpN a (b - a) (3 - x.1) (a + (b - a) / 4 * 2 - 1 + x.1) x.2.1 x.2.2 = breakPatterns d a b) (fun x => 3 - x.1) (0, b - a, d) (ent_look ⟨wr, wr, wr, wr, wr, Weak.of_eq (int_eq (by dsimp only; omega)), wr, trivial⟩) ⟨by dsimp only; omega, by dsimp only; omega, hd, (bp_eq h8 (by omega)).symm⟩ (fun x hG => ?_)
  obtain ⟨g1, g2, g3, g4⟩ := hG
  refine a_seq ?_
  refine aq ?_
  refine rm (.int _ _) ?_
  refine rm (.int _ _) ?_
  refine rm (.int _ _) ?_
  refine rv (v := .int .i64 (((b - a) / 4 : Nat) : Int)) ((v_quo il il (fun _ => by omega)).cast (int_eq (by omega))) ?_
  refine rv (v := .int .i64 (((b - a) / 4 * 2 : Nat) : Int)) ((v_mul il il (fun _ => by omega)).cast (int_eq (by omega))) ?_
  refine rv (v := .int .i64 ((a + (b - a) / 4 * 2 : Nat) : Int)) ((v_add il il (fun _ => by omega)).cast (int_eq (by omega))) ?_
  refine rv (v := .int .i64 ((a + (b - a) / 4 * 2 + 1 : Nat) : Int)) ((v_add il il (fun _ => by omega)).cast (int_eq (by omega))) ?_
  refine rv (v := .bool _) (v_leq il il) ?_
  refine r_nil ?_
  refine a_cond rfl (fun ht35 => ?_) (fun ht35 => ?_)
  ·
   refine a_skip ?_
   refine a_seq ?_
   refine a_block ?_
   refine a_seq ?_
   have hx3 : x.1 < 3 := (by simp at ht35; omega)
   have hmk : xorNextN x.2.1 &&& (2 ^ bitsLen (b - a) - 1) ≤ 2 ^ bitsLen (b - a) - 1 := Nat.and_le_right
   have hnx := xorNextN_lt _ g2
   have hbo := bpO_lt (L := b - a) (r := x.2.1) (by omega)
   refine a_region ?_
   refine r_step rfl (o_callIOp (q := (9, [])) (vs := [.rp _ _]) (args := [.rp (INH, []) _]) (cs0 := [.int _ _]) (cs1 := [.int _ _]) (res := .int _ _) rfl hb177 rfl (by decide) ⟨.inl rfl, trivial⟩ rfl rfl (next_c x.2.1 g2) rfl rfl rfl rfl rfl (Nat.le_of_ble_eq_true rfl) (by decide) rfl) ?_
   refine rm (.int _ _) ?_
   refine rv (v := .int .u64 ((2 ^ bitsLen (b - a) - 1 : Nat) : Int)) ((v_subu il il (fun _ => by omega)).cast (int_eq (by omega))) ?_
   refine rv (v := .int _ _) (v_andn il il (fun _ => by omega)) ?_
   refine rv (v := .int _ _) (v_conv iss146 uni3 il (fun _ => IntWalk.i64_in _ (by omega))) ?_
   refine ra (.int _ _) ?_
   refine r_nil ?_
   refine a_seq ?_
   refine aq ?_
   refine rm (.int _ _) ?_
   refine rm (.int _ _) ?_
   refine rv (v := .bool _) (v_geq il il) ?_
   refine r_nil ?_
   refine a_cond rfl (fun ht45 => ?_) (fun ht45 => ?_)
   ·
    refine a_region ?_
    refine rm (.int _ _) ?_
    refine rm (.int _ _) ?_
    refine rv (v := .int _ _) (v_sub il il (fun _ => by omega)) ?_
    refine ra (.int _ _) ?_
    refine r_nil ?_
    refine a_pre (ent_eq (t := 12) (v' := .int .i64 ((bpO (b - a) x.2.1 : Nat) : Int)) (Weak.of_eq (int_eq (by first | (have h45 := of_decide_eq_true ht45; rw [show bpO (b - a) x.2.1 = (xorNextN x.2.1 &&& (2 ^ bitsLen (b - a) - 1)) - (b - a) from if_pos (by omega)]; omega) | (have h45 := of_decide_eq_false ht45; rw [show bpO (b - a) x.2.1 = (xorNextN x.2.1 &&& (2 ^ bitsLen (b - a) - 1)) from if_neg (by omega)]))))) ?_
    have hp1 : (a + (b - a) / 4 * 2 - 1 + x.1) * 1 + 1 ≤ (acells x.2.2).length := (by rw [acells_length]; omega)
    have hp2 : (a + bpO (b - a) x.2.1) * 1 + 1 ≤ ((acells x.2.2).set ((a + (b - a) / 4 * 2 - 1 + x.1) * 1) (.int .i64 x.2.2[(a + bpO (b - a) x.2.1)]!)).length := (by rw [List.length_set, acells_length]; omega)
    have hset : ((acells x.2.2).set ((a + (b - a) / 4 * 2 - 1 + x.1) * 1) (.int .i64 x.2.2[(a + bpO (b - a) x.2.1)]!)).set ((a + bpO (b - a) x.2.1) * 1) (.int .i64 x.2.2[(a + (b - a) / 4 * 2 - 1 + x.1)]!) = acells (swp x.2.2 (a + (b - a) / 4 * 2 - 1 + x.1) (a + bpO (b - a) x.2.1)) := (by rw [Nat.mul_one, Nat.mul_one]; exact acells_swp _ _ _)
    refine a_region_w [(49, true), (50, true), (51, true), (52, true), (53, true), (54, true), (55, true), (56, true), (57, true), (58, true), (59, true), (60, true), (61, true), (62, true), (63, true), (64, true), (65, true), (INH, false), (66, true), (INH, false)] mixed (by kernel_rfl) ?_
    refine wv (v := .rsl _ _ _ _ _) (v_move il nf) ?_
    refine wv (v := .int _ _) (v_move il nf) ?_
    refine wv (v := .rsl _ _ _ _ _) (v_move il nf) ?_
    refine wv (v := .int _ _) (v_move il nf) ?_
    refine wv (v := .int _ _) (v_move il nf) ?_
    refine wv (v := .int .i64 (((a + bpO (b - a) x.2.1) : Nat) : Int)) ((v_add il il (fun _ => by omega)).cast (int_eq (by omega))) ?_
    refine wv (v := .rsl _ _ _ _ _) (v_move il nf) ?_
    refine wv (v := .int _ _) (v_move il nf) ?_
    refine wv (v := .int _ _) (v_move il nf) ?_
    refine wv (v := .int .i64 (((a + bpO (b - a) x.2.1) : Nat) : Int)) ((v_add il il (fun _ => by omega)).cast (int_eq (by omega))) ?_
    refine wv (v := .rp _ _) (v_indexAddr_rsl0 es25 il il (fun _ => by omega)) ?_
    refine wv (v := .int .i64 x.2.2[(a + bpO (b - a) x.2.1)]!) (v_load_rp1 ta3 il rfl (fun _ => by rw [Nat.mul_one]; exact acells_get (by omega)) rfl) ?_
    refine wv (v := .rsl _ _ _ _ _) (v_move il nf) ?_
    refine wv (v := .int _ _) (v_move il nf) ?_
    refine wv (v := .rp _ _) (v_indexAddr_rsl0 es25 il il (fun _ => by omega)) ?_
    refine wv (v := .int .i64 x.2.2[(a + (b - a) / 4 * 2 - 1 + x.1)]!) (v_load_rp1 ta3 il rfl (fun _ => by rw [Nat.mul_one]; exact acells_get (by omega)) rfl) ?_
    refine wv (v := .rp _ _) (v_indexAddr_rsl0 es25 il il (fun _ => by omega)) ?_
    refine w_store (v := .int _ _) (y' := .osl _ _ _ _) rfl rfl rfl ta3 (.inl rfl) (.inl rfl) rfl rfl rfl rfl rfl rfl hp1 (by decide) rfl rfl rfl (by kernel_rfl) ?_
    refine wv (v := .rp _ _) (v_indexAddr_rsl0 es25 il il (fun _ => by omega)) ?_
    refine w_store (v := .int _ _) (y' := .osl _ _ _ _) rfl rfl rfl ta3 (.inl rfl) (.inl rfl) rfl rfl rfl rfl rfl rfl hp2 (by decide) rfl (congrArg (fun c => AV.osl 1 c n none) hset) rfl (by kernel_rfl) ?_
    refine w_nil ?_
    refine a_pre (ent_look (L := [(0, .rsl _ _ _ _ _), (1, .int _ _), (8, .int _ _), (9, .op [.int _ _]), (10, .int _ _), (11, .int _ _), (INH, .osl _ _ _ _)]) ⟨wr, wr, wr, wr, wr, wr, wr, trivial⟩) ?_
    refine a_region ?_
    refine rm (.int _ _) ?_
    refine rv (v := .int _ _) (v_add il il (fun _ => by omega)) ?_
    refine ra (.int _ _) ?_
    refine r_nil ?_
    refine ⟨(x.1 + 1, xorNextN x.2.1, swp x.2.2 (a + (b - a) / 4 * 2 - 1 + x.1) (a + bpO (b - a) x.2.1)), ent_look ⟨wr, wr, wr, wr, wr, Weak.of_eq (int_eq (by dsimp only; omega)), wr, trivial⟩, ⟨by dsimp only; omega, xorNextN_lt _ g2, by rw [swp_size]; exact g3, by rw [← g4, show 3 - x.1 = (3 - (x.1 + 1)) + 1 by omega]; rfl⟩, by dsimp only; omega⟩
   ·
    refine a_skip ?_
    refine a_pre (ent_eq (t := 12) (v' := .int .i64 ((bpO (b - a) x.2.1 : Nat) : Int)) (Weak.of_eq (int_eq (by first | (have h45 := of_decide_eq_true ht45; rw [show bpO (b - a) x.2.1 = (xorNextN x.2.1 &&& (2 ^ bitsLen (b - a) - 1)) - (b - a) from if_pos (by omega)]; omega) | (have h45 := of_decide_eq_false ht45; rw [show bpO (b - a) x.2.1 = (xorNextN x.2.1 &&& (2 ^ bitsLen (b - a) - 1)) from if_neg (by omega)]))))) ?_
    have hp1 : (a + (b - a) / 4 * 2 - 1 + x.1) * 1 + 1 ≤ (acells x.2.2).length := (by rw [acells_length]; omega)
    have hp2 : (a + bpO (b - a) x.2.1) * 1 + 1 ≤ ((acells x.2.2).set ((a + (b - a) / 4 * 2 - 1 + x.1) * 1) (.int .i64 x.2.2[(a + bpO (b - a) x.2.1)]!)).length := (by rw [List.length_set, acells_length]; omega)
    have hset : ((acells x.2.2).set ((a + (b - a) / 4 * 2 - 1 + x.1) * 1) (.int .i64 x.2.2[(a + bpO (b - a) x.2.1)]!)).set ((a + bpO (b - a) x.2.1) * 1) (.int .i64 x.2.2[(a + (b - a) / 4 * 2 - 1 + x.1)]!) = acells (swp x.2.2 (a + (b - a) / 4 * 2 - 1 + x.1) (a + bpO (b - a) x.2.1)) := (by rw [Nat.mul_one, Nat.mul_one]; exact acells_swp _ _ _)
    refine a_region_w [(49, true), (50, true), (51, true), (52, true), (53, true), (54, true), (55, true), (56, true), (57, true), (58, true), (59, true), (60, true), (61, true), (62, true), (63, true), (64, true), (65, true), (INH, false), (66, true), (INH, false)] mixed (by kernel_rfl) ?_
    refine wv (v := .rsl _ _ _ _ _) (v_move il nf) ?_
    refine wv (v := .int _ _) (v_move il nf) ?_
    refine wv (v := .rsl _ _ _ _ _) (v_move il nf) ?_
    refine wv (v := .int _ _) (v_move il nf) ?_
    refine wv (v := .int _ _) (v_move il nf) ?_
    refine wv (v := .int .i64 (((a + bpO (b - a) x.2.1) : Nat) : Int)) ((v_add il il (fun _ => by omega)).cast (int_eq (by omega))) ?_
    refine wv (v := .rsl _ _ _ _ _) (v_move il nf) ?_
    refine wv (v := .int _ _) (v_move il nf) ?_
    refine wv (v := .int _ _) (v_move il nf) ?_
    refine wv (v := .int .i64 (((a + bpO (b - a) x.2.1) : Nat) : Int)) ((v_add il il (fun _ => by omega)).cast (int_eq (by omega))) ?_
    refine wv (v := .rp _ _) (v_indexAddr_rsl0 es25 il il (fun _ => by omega)) ?_
    refine wv (v := .int .i64 x.2.2[(a + bpO (b - a) x.2.1)]!) (v_load_rp1 ta3 il rfl (fun _ => by rw [Nat.mul_one]; exact acells_get (by omega)) rfl) ?_
    refine wv (v := .rsl _ _ _ _ _) (v_move il nf) ?_
    refine wv (v := .int _ _) (v_move il nf) ?_
    refine wv (v := .rp _ _) (v_indexAddr_rsl0 es25 il il (fun _ => by omega)) ?_
    refine wv (v := .int .i64 x.2.2[(a + (b - a) / 4 * 2 - 1 + x.1)]!) (v_load_rp1 ta3 il rfl (fun _ => by rw [Nat.mul_one]; exact acells_get (by omega)) rfl) ?_
    refine wv (v := .rp _ _) (v_indexAddr_rsl0 es25 il il (fun _ => by omega)) ?_
    refine w_store (v := .int _ _) (y' := .osl _ _ _ _) rfl rfl rfl ta3 (.inl rfl) (.inl rfl) rfl rfl rfl rfl rfl rfl hp1 (by decide) rfl rfl rfl (by kernel_rfl) ?_
    refine wv (v := .rp _ _) (v_indexAddr_rsl0 es25 il il (fun _ => by omega)) ?_
    refine w_store (v := .int _ _) (y' := .osl _ _ _ _) rfl rfl rfl ta3 (.inl rfl) (.inl rfl) rfl rfl rfl rfl rfl rfl hp2 (by decide) rfl (congrArg (fun c => AV.osl 1 c n none) hset) rfl (by kernel_rfl) ?_
    refine w_nil ?_
    refine a_pre (ent_look (L := [(0, .rsl _ _ _ _ _), (1, .int _ _), (8, .int _ _), (9, .op [.int _ _]), (10, .int _ _), (11, .int _ _), (INH, .osl _ _ _ _)]) ⟨wr, wr, wr, wr, wr, wr, wr, trivial⟩) ?_
    refine a_region ?_
    refine rm (.int _ _) ?_
    refine rv (v := .int _ _) (v_add il il (fun _ => by omega)) ?_
    refine ra (.int _ _) ?_
    refine r_nil ?_
    refine ⟨(x.1 + 1, xorNextN x.2.1, swp x.2.2 (a + (b - a) / 4 * 2 - 1 + x.1) (a + bpO (b - a) x.2.1)), ent_look ⟨wr, wr, wr, wr, wr, Weak.of_eq (int_eq (by dsimp only; omega)), wr, trivial⟩, ⟨by dsimp only; omega, xorNextN_lt _ g2, by rw [swp_size]; exact g3, by rw [← g4, show 3 - x.1 = (3 - (x.1 + 1)) + 1 by omega]; rfl⟩, by dsimp only; omega⟩
  ·
   refine a_exit ?_
   refine ret0_look Tryz.results187 (by decide) ?_ rfl
   exact Weak.of_eq (osl_eq (by rw [← g4, show 3 - x.1 = 0 by simp at ht35; omega]; rfl))
 ·
  refine a_skip ?_
  refine ret0_look Tryz.results187 (by decide) ?_ rfl
  exact Weak.of_eq (osl_eq (by unfold breakPatterns; simp only []; rw [if_neg (by simp at ht17; omega)]))
end Go.Av
