/- Lemmas, part 6. -/
import Derived.Test.YtflabfgegbccjaaGreatA5
import Derived.RangeFuncLeaves
import Derived.RangeFuncRecord
import Derived.RangeFuncSeq
import Derived.RangeFuncBound
import Derived.RangeFuncBox
import Derived.Shelf.Abstract
import Derived.WalkKit
import Derived.OwnWalkIn
import Derived.TacticsInMore
import Derived.LoopNIn
import Derived.LoopIn
import Derived.Test.YtflabfgegbccjaaGreatProg
set_option linter.unusedVariables false
set_option linter.unusedSimpArgs false
set_option maxRecDepth 10000
namespace Go.Av
open Go Go.Sort
abbrev TN := Int × Int × Int × Int
def tncells (xs : List TN) : List AV := xs.flatMap fun x => [.int .i64 x.1, .int .i64 x.2.1, .int .i64 x.2.2.1, .int .i64 x.2.2.2]
def gn (xs : List TN) (i : Nat) : TN := xs.getD i (0, 0, 0, 0)
def tnv (x : TN) : Value := .agg #[.int .i64 x.1, .int .i64 x.2.1, .int .i64 x.2.2.1, .int .i64 x.2.2.2]
theorem tncells_length (xs : List TN) : (tncells xs).length = xs.length * 4 := by
  induction xs with
  | nil => rfl
  | cons x xs ih => simp only [tncells, List.flatMap_cons, List.length_append, List.length_cons, List.length_nil] at ih ⊢; omega
theorem tncells_get : ∀ {xs : List TN} {i : Nat}, i < xs.length → (tncells xs)[i * 4]? = some (.int .i64 (gn xs i).1) ∧ (tncells xs)[i * 4 + 1]? = some (.int .i64 (gn xs i).2.1) ∧
    (tncells xs)[i * 4 + 2]? = some (.int .i64 (gn xs i).2.2.1) ∧ (tncells xs)[i * 4 + 3]? = some (.int .i64 (gn xs i).2.2.2)
  | [], i, h => by simp at h
  | x :: xs, 0, _ => by simp [tncells, gn]
  | x :: xs, i + 1, h => by
    have ih := tncells_get (xs := xs) (i := i) (by simpa using h)
    have e : ∀ j, (tncells (x :: xs))[(i + 1) * 4 + j]? = (tncells xs)[i * 4 + j]? := fun j => by
      have : tncells (x :: xs) = [.int .i64 x.1, .int .i64 x.2.1, .int .i64 x.2.2.1, .int .i64 x.2.2.2] ++ tncells xs := rfl
      rw [this, List.getElem?_append_right (by simp; omega)]
      congr 1; simp; omega
    have e0 := e 0
    simp only [Nat.add_zero] at e0
    have eg : gn (x :: xs) (i + 1) = gn xs i := by simp [gn]
    rw [e0, e 1, e 2, e 3, eg]; exact ih
def nodeB (vars m : Int) (i : Int) (x : TN) : Bool :=
  if x.1 = 0 then decide (x.2.1 = 0) && decide (x.2.2.1 = 0) && inR x.2.2.2 0 (m - 1)
  else inR x.1 1 vars && decide (x.2.1 ≠ x.2.2.1) && inR x.2.1 0 (i - 1) && inR x.2.2.1 0 (i - 1) && decide (x.2.2.2 = 0)
def allN (vars m : Int) (xs : List TN) : Bool := (List.range xs.length).all fun i => nodeB vars m i (gn xs i)
theorem allN_no {vars m : Int} {xs : List TN} {i : Nat} (hi : i < xs.length) (h : nodeB vars m i (gn xs i) = false) : allN vars m xs = false := by
  unfold allN; rw [List.all_eq_false]; exact ⟨i, List.mem_range.2 hi, by simp [h]⟩
theorem allN_yes {vars m : Int} {xs : List TN} (h : ∀ i : Nat, i < xs.length → nodeB vars m i (gn xs i) = true) : allN vars m xs = true := by
  unfold allN; rw [List.all_eq_true]; exact fun i hi => h i (List.mem_range.1 hi)
theorem allN_spec {vars m : Int} {xs : List TN} (h : allN vars m xs = true) (i : Nat) (hi : i < xs.length) : nodeB vars m i (gn xs i) = true := by
  unfold allN at h; rw [List.all_eq_true] at h; exact h i (List.mem_range.2 hi)
def nLo (xs : List TN) (i : Nat) : Nat := (gn xs i).2.1.toNat
def nHi (xs : List TN) (i : Nat) : Nat := (gn xs i).2.2.1.toNat
def nV (xs : List TN) (i : Nat) : Int := (gn xs i).1
theorem inner_spec {vars m : Int} {xs : List TN} {i : Nat} (h : nodeB vars m i (gn xs i) = true) (hv : nV xs i ≠ 0) :
    (1 ≤ nV xs i ∧ nV xs i ≤ vars) ∧ (((nLo xs i : Nat) : Int) = (gn xs i).2.1 ∧ nLo xs i < i) ∧ (((nHi xs i : Nat) : Int) = (gn xs i).2.2.1 ∧ nHi xs i < i) ∧ nLo xs i ≠ nHi xs i ∧ (gn xs i).2.2.2 = 0 := by
  unfold nV at hv
  unfold nodeB at h
  rw [if_neg hv] at h
  simp only [Bool.and_eq_true, decide_eq_true_eq, inR] at h
  unfold nLo nHi nV
  omega
theorem leaf_spec {vars m : Int} {xs : List TN} {i : Nat} (h : nodeB vars m i (gn xs i) = true) (hv : nV xs i = 0) : 0 ≤ (gn xs i).2.2.2 ∧ (gn xs i).2.2.2 ≤ m - 1 := by
  unfold nV at hv
  unfold nodeB at h
  rw [if_pos hv] at h
  simp only [Bool.and_eq_true, decide_eq_true_eq, inR] at h
  omega
def nHit (xs : List TN) (i j : Nat) : Nat := if nV xs i = 0 then 0 else (if nLo xs i = j then 1 else 0) + (if nHi xs i = j then 1 else 0)
def nCnt (xs : List TN) : Nat → Nat → Nat
  | 0, _ => 0
  | i + 1, j => nCnt xs i j + nHit xs i j
theorem nCnt_mono (xs : List TN) (j : Nat) : ∀ {i k : Nat}, i ≤ k → nCnt xs i j ≤ nCnt xs k j
  | i, 0, h => by
    have h0 : i = 0 := by omega
    rw [h0]; exact Nat.le_refl _
  | i, k + 1, h => by
    rcases Nat.lt_or_ge i (k + 1) with h1 | h1
    · have := nCnt_mono xs j (i := i) (k := k) (by omega); simp only [nCnt]; omega
    · obtain rfl : i = k + 1 := by omega
      exact Nat.le_refl _
theorem nHit_le (xs : List TN) (i j : Nat) : nHit xs i j ≤ 2 := by unfold nHit; split <;> (try split) <;> (try split) <;> omega
theorem nCnt_le (xs : List TN) (j : Nat) : ∀ i, nCnt xs i j ≤ 2 * i
  | 0 => by simp [nCnt]
  | i + 1 => by have := nCnt_le xs j i; have := nHit_le xs i j; simp only [nCnt]; omega
def nCntL (xs : List TN) (i : Nat) : List Int := (List.range xs.length).map fun j => ((nCnt xs i j : Nat) : Int)
theorem nCntL_len (xs : List TN) (i : Nat) : (nCntL xs i).length = xs.length := by simp [nCntL]
theorem nCntL_gd {xs : List TN} {i j : Nat} (h : j < xs.length) : gd (nCntL xs i) j = nCnt xs i j := by simp [gd, nCntL, h]
theorem nCntL_zero (xs : List TN) : nCntL xs 0 = List.replicate xs.length 0 := by
  apply List.ext_getElem
  · simp [nCntL]
  · intro i h1 h2; simp [nCntL, nCnt]
theorem nCntL_leaf {xs : List TN} {i : Nat} (h : nV xs i = 0) : nCntL xs (i + 1) = nCntL xs i := by
  unfold nCntL; congr 1; funext j; simp [nCnt, nHit, h]
theorem nCntL_inner {xs : List TN} {i : Nat} (h : nV xs i ≠ 0) (hlt : i < xs.length) (h1 : nLo xs i < i) (h2 : nHi xs i < i) (hne : nLo xs i ≠ nHi xs i) :
    ((nCntL xs i).set (nLo xs i) (gd (nCntL xs i) (nLo xs i) + 1)).set (nHi xs i) (gd ((nCntL xs i).set (nLo xs i) (gd (nCntL xs i) (nLo xs i) + 1)) (nHi xs i) + 1) = nCntL xs (i + 1) := by
  have hg : gd ((nCntL xs i).set (nLo xs i) (gd (nCntL xs i) (nLo xs i) + 1)) (nHi xs i) = nCnt xs i (nHi xs i) := by
    rw [gd_setc, if_neg (fun h => hne h.1), nCntL_gd (by omega)]
  rw [hg, nCntL_gd (by omega)]
  apply List.ext_getElem
  · simp [nCntL]
  · intro j hj1 hj2
    simp only [List.getElem_set]
    simp only [nCntL, List.getElem_map, List.getElem_range, nCnt, nHit, if_neg h]
    split
    · rename_i he; subst he; simp [hne]
    · rename_i he
      split
      · rename_i he2; subst he2; simp [Ne.symm hne]
      · rename_i he2; simp [he, he2]
def onceB (xs : List TN) : Bool := (List.range (xs.length - 1)).all fun j => decide (nCnt xs xs.length j = 1)
theorem onceB_no {xs : List TN} {j : Nat} (hj : j < xs.length - 1) (h : nCnt xs xs.length j ≠ 1) : onceB xs = false := by
  unfold onceB; rw [List.all_eq_false]; exact ⟨j, List.mem_range.2 hj, by simp [h]⟩
theorem onceB_yes {xs : List TN} (h : ∀ j, j < xs.length - 1 → nCnt xs xs.length j = 1) : onceB xs = true := by
  unfold onceB; rw [List.all_eq_true]; exact fun i hi => by simpa using h i (List.mem_range.1 hi)
theorem onceB_spec {xs : List TN} (h : onceB xs = true) (j : Nat) (hj : j < xs.length - 1) : nCnt xs xs.length j = 1 := by
  unfold onceB at h; rw [List.all_eq_true] at h; simpa using h j (List.mem_range.2 hj)
def trPut (xs : List TN) (k : Nat) (P : List (List Int)) : List (List Int) := (P.set (nLo xs k) (putL (gl P k) (-(nV xs k)))).set (nHi xs k) (putL (gl P k) (nV xs k))
def trOn (xs : List TN) (k : Nat) (P : List (List Int)) : Bool := decide (nV xs k ∈ gl P k) || decide (-(nV xs k) ∈ gl P k)
def stepP (xs : List TN) (k : Nat) (P : List (List Int)) : Option (List (List Int)) := if nV xs k = 0 then some P else if trOn xs k P then none else some (trPut xs k P)
def seenB (xs : List TN) (k j : Nat) : Bool := decide (j = xs.length - 1) || decide (nCnt xs k j < nCnt xs xs.length j)
def seenL (xs : List TN) (k : Nat) : List Bool := (List.range xs.length).map (seenB xs k)
def stepI (xs : List TN) (k : Nat) (P : List (List Int)) : Option (List (List Int)) :=
  if seenB xs (k + 1) k = false then none
  else if nV xs k = 0 then some P
  else if (seenB xs (k + 1) (nLo xs k) || seenB xs (k + 1) (nHi xs k) || trOn xs k P) = true then none
  else some (trPut xs k P)
def pG (st : Nat → List (List Int) → Option (List (List Int))) (n : Nat) : Nat → Option (List (List Int))
  | 0 => some (List.replicate n [])
  | d + 1 => (pG st n d).bind (st (n - 1 - d))
def trS (xs : List TN) (k : Nat) : Option (List (List Int)) := pG (stepP xs) xs.length (xs.length - k)
def trI (xs : List TN) (k : Nat) : Option (List (List Int)) := pG (stepI xs) xs.length (xs.length - k)
theorem pG_step {st : Nat → List (List Int) → Option (List (List Int))} {n k : Nat} (h : k < n) : pG st n (n - k) = (pG st n (n - (k + 1))).bind (st k) := by
  rw [show n - k = (n - (k + 1)) + 1 by omega, pG, show n - 1 - (n - (k + 1)) = k by omega]
theorem trS_step {xs : List TN} {k : Nat} (h : k < xs.length) : trS xs k = (trS xs (k + 1)).bind (stepP xs k) := pG_step h
theorem trI_step {xs : List TN} {k : Nat} (h : k < xs.length) : trI xs k = (trI xs (k + 1)).bind (stepI xs k) := pG_step h
theorem trS_top (xs : List TN) : trS xs xs.length = some (List.replicate xs.length []) := by unfold trS; rw [Nat.sub_self]; rfl
theorem trI_top (xs : List TN) : trI xs xs.length = some (List.replicate xs.length []) := by unfold trI; rw [Nat.sub_self]; rfl
theorem trI_none {xs : List TN} : ∀ {k : Nat}, k ≤ xs.length → trI xs k = none → trI xs 0 = none
  | 0, _, h => h
  | k + 1, hk, h => trI_none (k := k) (by omega) (by rw [trI_step (by omega), h]; rfl)
theorem trS_none {xs : List TN} : ∀ {k : Nat}, k ≤ xs.length → trS xs k = none → trS xs 0 = none
  | 0, _, h => h
  | k + 1, hk, h => trS_none (k := k) (by omega) (by rw [trS_step (by omega), h]; rfl)
theorem trI_some {xs : List TN} (h : (trI xs 0).isSome = true) {k : Nat} (hk : k ≤ xs.length) : (trI xs k).isSome = true := by
  cases he : trI xs k with
  | none => rw [trI_none hk he] at h; exact h
  | some P => rfl
theorem seenL_len (xs : List TN) (k : Nat) : (seenL xs k).length = xs.length := by simp [seenL]
theorem seenL_get {xs : List TN} {k j : Nat} (h : j < xs.length) : (seenL xs k)[j]? = some (seenB xs k j) := by simp [seenL, h]
theorem seen_top (xs : List TN) : seenL xs xs.length = (List.replicate xs.length false).set (xs.length - 1) true := by
  apply List.ext_getElem
  · simp [seenL]
  · intro j h1 h2
    simp only [seenL, List.getElem_map, List.getElem_range, List.getElem_set, seenB, Nat.lt_irrefl, decide_false, Bool.or_false, List.getElem_replicate]
    split
    · rename_i h; subst h; simp
    · rename_i h; simp; omega
theorem seen_more {xs : List TN} {k j : Nat} (hk : k < xs.length) : seenB xs k j = (seenB xs (k + 1) j || decide (0 < nHit xs k j)) := by
  have h1 := nCnt_mono xs j (show k + 1 ≤ xs.length by omega)
  have h2 : nCnt xs (k + 1) j = nCnt xs k j + nHit xs k j := rfl
  unfold seenB
  rw [Bool.or_assoc]; congr 1
  rw [Bool.eq_iff_iff]; simp only [Bool.or_eq_true, decide_eq_true_eq]; omega
theorem seen_leaf {xs : List TN} {k : Nat} (hk : k < xs.length) (h : nV xs k = 0) : seenL xs k = seenL xs (k + 1) := by
  unfold seenL; congr 1; funext j; rw [seen_more hk]; simp [nHit, h]
theorem seen_inner {xs : List TN} {k : Nat} (hk : k < xs.length) (h : nV xs k ≠ 0) : ((seenL xs (k + 1)).set (nLo xs k) true).set (nHi xs k) true = seenL xs k := by
  apply List.ext_getElem
  · simp [seenL]
  · intro j h1 h2
    simp only [seenL, List.getElem_set, List.getElem_map, List.getElem_range]
    rw [seen_more hk]
    simp only [nHit, if_neg h]
    split
    · rename_i he; subst he; simp
    · rename_i he
      split
      · rename_i he2; subst he2; simp
      · rename_i he2; simp [he, he2]
section
variable {vars m : Int} {xs : List TN}
theorem nCnt_low (ha : allN vars m xs = true) {j : Nat} : ∀ {i : Nat}, i ≤ xs.length → i ≤ j + 1 → nCnt xs i j = 0
  | 0, _, _ => rfl
  | i + 1, h1, h2 => by
    simp only [nCnt]
    rw [nCnt_low ha (by omega) (by omega)]
    unfold nHit
    split
    · rfl
    · rename_i hv
      have := inner_spec (allN_spec ha i (by omega)) hv
      rw [if_neg (by omega), if_neg (by omega)]
theorem step_same (ha : allN vars m xs = true) (ho : onceB xs = true) {k : Nat} (hk : k < xs.length) (P : List (List Int)) : stepI xs k P = stepP xs k P := by
  have hs : seenB xs (k + 1) k = true := by
    unfold seenB
    rcases Nat.lt_or_ge k (xs.length - 1) with h | h
    · rw [nCnt_low ha (by omega) (by omega), onceB_spec ho k h]; simp
    · simp; omega
  unfold stepI stepP
  rw [hs, if_neg (by simp)]
  split
  · rfl
  · rename_i hv
    have hi := inner_spec (allN_spec ha k hk) hv
    have key : ∀ j, j < k → 0 < nHit xs k j → seenB xs (k + 1) j = false := fun j hj hh => by
      have h1 := onceB_spec ho j (by omega)
      have h2 : nCnt xs (k + 1) j = nCnt xs k j + nHit xs k j := rfl
      unfold seenB
      simp; omega
    rw [key _ hi.2.1.2 (by unfold nHit; rw [if_neg hv, if_pos rfl]; omega), key _ hi.2.2.1.2 (by unfold nHit; rw [if_neg hv, if_pos rfl]; omega)]
    simp
theorem trI_same (ha : allN vars m xs = true) (ho : onceB xs = true) : ∀ (d k : Nat), k + d = xs.length → trI xs k = trS xs k
  | 0, k, h => by obtain rfl : k = xs.length := by omega
                  rw [trI_top, trS_top]
  | d + 1, k, h => by
    rw [trI_step (by omega), trS_step (by omega), trI_same ha ho d (k + 1) (by omega)]
    congr 1; funext P; exact step_same ha ho (by omega) P
theorem trI_once (ha : allN vars m xs = true) (h0 : 0 < xs.length) (h : (trI xs 0).isSome = true) : onceB xs = true := by
  have step : ∀ k, k < xs.length → seenB xs (k + 1) k = true ∧ (nV xs k ≠ 0 → seenB xs (k + 1) (nLo xs k) = false ∧ seenB xs (k + 1) (nHi xs k) = false) := fun k hk => by
    have h1 := trI_some h (k := k) (by omega)
    rw [trI_step hk] at h1
    cases hP : trI xs (k + 1) with
    | none => rw [hP] at h1; cases h1
    | some P =>
      rw [hP] at h1
      simp only [Option.bind_some, stepI] at h1
      split at h1
      · cases h1
      · rename_i hs
        refine ⟨by simpa using hs, fun hv => ?_⟩
        rw [if_neg hv] at h1
        split at h1
        · cases h1
        · rename_i hn; simp at hn; exact ⟨hn.1.1, hn.1.2⟩
  have up : ∀ (d k j : Nat), k + d = xs.length → nCnt xs xs.length j ≤ nCnt xs k j + 1 := by
    intro d
    induction d with
    | zero => intro k j hk; obtain rfl : k = xs.length := by omega
              omega
    | succ d ih =>
      intro k j hk
      have h1 := ih (k + 1) j (by omega)
      have h2 : nCnt xs (k + 1) j = nCnt xs k j + nHit xs k j := rfl
      by_cases hh : nHit xs k j = 0
      · omega
      · have hv : nV xs k ≠ 0 := fun hv => hh (by simp [nHit, hv])
        have hi := inner_spec (allN_spec ha k (by omega)) hv
        have hs := (step k (by omega)).2 hv
        have hj : j = nLo xs k ∨ j = nHi xs k := by
          unfold nHit at hh; rw [if_neg hv] at hh
          by_cases h3 : nLo xs k = j
          · exact .inl h3.symm
          · by_cases h4 : nHi xs k = j
            · exact .inr h4.symm
            · rw [if_neg h3, if_neg h4] at hh; omega
        have hle : nCnt xs xs.length j ≤ nCnt xs (k + 1) j := by
          have key : ∀ i, seenB xs (k + 1) i = false → nCnt xs xs.length i ≤ nCnt xs (k + 1) i := fun i h5 => by
            unfold seenB at h5; simp at h5; omega
          rcases hj with rfl | rfl
          · exact key _ hs.1
          · exact key _ hs.2
        have h6 : nHit xs k j ≤ 1 := by
          unfold nHit; rw [if_neg hv]
          split <;> split <;> omega
        omega
  refine onceB_yes fun j hj => ?_
  have h1 := (step j (by omega)).1
  unfold seenB at h1
  have h2 := nCnt_low ha (i := j + 1) (j := j) (by omega) (by omega)
  have h3 := up xs.length 0 j (by omega)
  have h4 : nCnt xs 0 j = 0 := rfl
  simp at h1
  omega
theorem trI_eq (ha : allN vars m xs = true) (h0 : 0 < xs.length) : trI xs 0 = if onceB xs then trS xs 0 else none := by
  cases ho : onceB xs with
  | true => rw [if_pos rfl]; exact trI_same ha ho xs.length 0 (by omega)
  | false =>
    cases hP : trI xs 0 with
    | none => rfl
    | some P => rw [trI_once ha h0 (by rw [hP]; rfl)] at ho; cases ho
end
def PathsOk (vars : Int) (xs : List TN) (P : List (List Int)) : Prop := P.length = xs.length ∧ ∀ j, clB vars (gl P j) = true
theorem gl_set {P : List (List Int)} {i j : Nat} {p : List Int} : gl (P.set i p) j = if i = j ∧ i < P.length then p else gl P j := by
  unfold gl
  rw [List.getElem?_set]
  by_cases h : i = j
  · subst h
    by_cases h2 : i < P.length
    · simp [h2]
    · simp [h2, List.getElem?_eq_none (Nat.le_of_not_lt h2)]
  · simp [h]
theorem set_put {a : List Int} {l : Int} (h1 : ¬ l ∈ a) (h2 : ¬ -l ∈ a) : setLit a l = putL a l := by unfold setLit; rw [wo_new h1 h2]
section
variable {vars m : Int} {xs : List TN} {P : List (List Int)}
theorem trOn_no {k : Nat} (h : trOn xs k P = false) : ¬ nV xs k ∈ gl P k ∧ ¬ -(nV xs k) ∈ gl P k := by unfold trOn at h; simpa using h
theorem put_clB {k : Nat} (hv : nodeB vars m k (gn xs k) = true) (hi : nV xs k ≠ 0) (hP : PathsOk vars xs P) (ho : trOn xs k P = false) :
    clB vars (putL (gl P k) (nV xs k)) = true ∧ clB vars (putL (gl P k) (-(nV xs k))) = true := by
  have h1 := trOn_no ho
  have h2 := inner_spec hv hi
  have hl : litB vars (nV xs k) = true := litB_spec.2 ⟨by omega, by omega⟩
  have hl' : litB vars (-(nV xs k)) = true := litB_spec.2 ⟨by omega, by omega⟩
  rw [← set_put h1.1 h1.2, ← set_put h1.2 (by rw [Int.neg_neg]; exact h1.1)]
  exact ⟨(set_new (hP.2 k) hl h1.1 h1.2).1, (set_new (hP.2 k) hl' h1.2 (by rw [Int.neg_neg]; exact h1.1)).1⟩
theorem trPut_ok {k : Nat} (hk : k < xs.length) (hv : nodeB vars m k (gn xs k) = true) (hi : nV xs k ≠ 0) (hP : PathsOk vars xs P) (ho : trOn xs k P = false) : PathsOk vars xs (trPut xs k P) := by
  have h := put_clB hv hi hP ho
  refine ⟨by simp [trPut, hP.1], fun j => ?_⟩
  unfold trPut
  rw [gl_set, gl_set]
  split
  · exact h.1
  · split
    · exact h.2
    · exact hP.2 j
theorem nil_clB (hv : 0 ≤ vars ∧ vars ≤ 12) : clB vars [] = true := clB_true (by simp [inR]; omega) (fun j hj => by simp at hj)
theorem rep_ok (hv : 0 ≤ vars ∧ vars ≤ 12) (n : Nat) (hn : n = xs.length) : PathsOk vars xs (List.replicate n []) := by
  refine ⟨by simp [hn], fun j => ?_⟩
  have : gl (List.replicate n ([] : List Int)) j = [] := by
    unfold gl; rw [List.getElem?_replicate]; split <;> rfl
  rw [this]; exact nil_clB hv
theorem pG_ok {st : Nat → List (List Int) → Option (List (List Int))} (hv : 0 ≤ vars ∧ vars ≤ 12) (hst : ∀ k, k < xs.length → ∀ P Q, PathsOk vars xs P → st k P = some Q → PathsOk vars xs Q) :
    ∀ (d : Nat), d ≤ xs.length → ∀ P, pG st xs.length d = some P → PathsOk vars xs P
  | 0, _, P, h => by simp only [pG, Option.some.injEq] at h; subst h; exact rep_ok hv _ rfl
  | d + 1, hd, P, h => by
    simp only [pG] at h
    cases hQ : pG st xs.length d with
    | none => rw [hQ] at h; cases h
    | some Q => rw [hQ] at h; exact hst _ (by omega) Q P (pG_ok hv hst d (by omega) Q hQ) h
theorem trI_ok (hv : 0 ≤ vars ∧ vars ≤ 12) (ha : allN vars m xs = true) {k : Nat} (h : trI xs k = some P) : PathsOk vars xs P :=
  pG_ok hv (fun k hk P Q hP hs => by
    unfold stepI at hs
    split at hs
    · cases hs
    · split at hs
      · cases hs; exact hP
      · rename_i hvn
        split at hs
        · cases hs
        · rename_i hn; cases hs; simp at hn; exact trPut_ok hk (allN_spec ha k hk) hvn hP hn.2) _ (Nat.sub_le _ _) P h
theorem trS_ok (hv : 0 ≤ vars ∧ vars ≤ 12) (ha : allN vars m xs = true) {k : Nat} (h : trS xs k = some P) : PathsOk vars xs P :=
  pG_ok hv (fun k hk P Q hP hs => by
    unfold stepP at hs
    split at hs
    · cases hs; exact hP
    · rename_i hvn
      split at hs
      · cases hs
      · rename_i hn; cases hs; exact trPut_ok hk (allN_spec ha k hk) hvn hP (by simpa using hn)) _ (Nat.sub_le _ _) P h
end
end Go.Av
namespace Go.Av
open Go Go.Sort
def ncell (x : TN) : List AV := [.int .i64 x.1, .int .i64 x.2.1, .int .i64 x.2.2.1, .int .i64 x.2.2.2]
theorem tncells_flat (xs : List TN) : xs.flatMap (fun x => [AV.int .i64 x.1] ++ ([AV.int .i64 x.2.1] ++ ([AV.int .i64 x.2.2.1] ++ [AV.int .i64 x.2.2.2]))) = tncells xs := rfl
theorem gn_get {xs : List TN} {i : Nat} (h : i < xs.length) : xs[i]? = some (gn xs i) := by simp [gn, List.getD, List.getElem?_eq_getElem h]
theorem tn_ne {xs : List TN} {i : Nat} (h : i < xs.length) : tncells xs ≠ [] := fun he => by
 have := tncells_length xs; rw [he] at this; simp at this; omega
theorem tn_four : ∀ {xs : List TN} {i : Nat}, i < xs.length → ((tncells xs).drop (i * 4)).take 4 = ncell (gn xs i)
 | [], i, h => by simp at h
 | x :: xs, 0, _ => rfl
 | x :: xs, i + 1, h => by
  have e : tncells (x :: xs) = ncell x ++ tncells xs := rfl
  rw [e, show (i + 1) * 4 = (ncell x).length + i * 4 by simp [ncell]; omega, List.drop_append]
  rw [show (ncell x).length + i * 4 - (ncell x).length = i * 4 by omega, List.drop_eq_nil_of_le (by omega), List.nil_append]
  exact tn_four (xs := xs) (by simpa using h)
theorem tn_at {xs : List TN} {i j : Nat} (h : i < xs.length) (hj : j < 4) : (tncells xs)[i * 4 + j]? = (ncell (gn xs i))[j]? := by
 rw [← tn_four h, List.getElem?_take_of_lt hj, List.getElem?_drop]
theorem tn_pureL : ∀ (xs : List TN), pureL (tncells xs) = true
 | [] => rfl
 | x :: xs => by
  have := tn_pureL xs
  have e : tncells (x :: xs) = ncell x ++ tncells xs := rfl
  rw [e]; simp [ncell, pureL, pureV, this]
theorem tn_noNil : ∀ (xs : List TN), noNilL (tncells xs) = true
 | [] => rfl
 | x :: xs => by
  have := tn_noNil xs
  have e : tncells (x :: xs) = ncell x ++ tncells xs := rfl
  rw [e]; simp [ncell, noNilL, noNil, this]
theorem tn_pure (xs : List TN) : pureL (tncells xs) = true ∧ noNilL (tncells xs) = true := ⟨tn_pureL xs, tn_noNil xs⟩
theorem tn_noRef (xs : List TN) : noRefL (tncells xs) = true := noRefL_pure _ (tn_pureL xs)
theorem tn_noSh : ∀ (xs : List TN), noShL (tncells xs) = true
 | [] => rfl
 | x :: xs => by
  have := tn_noSh xs
  have e : tncells (x :: xs) = ncell x ++ tncells xs := rfl
  rw [e]; simp [ncell, noShL, noSh, this]
theorem tn_append (xs ys : List TN) : tncells (xs ++ ys) = tncells xs ++ tncells ys := by simp [tncells]
def zn : TN := (0, 0, 0, 0)
def partN (xs : List TN) (i : Nat) : List TN := xs.take i ++ List.replicate (xs.length - i) zn
theorem partN_len {xs : List TN} {i : Nat} (h : i ≤ xs.length) : (partN xs i).length = xs.length := by simp [partN]; omega
theorem partN_zero (xs : List TN) : tncells (partN xs 0) = rep xs.length [.int .i64 0, .int .i64 0, .int .i64 0, .int .i64 0] := by
 unfold partN rep
 simp only [List.take_zero, List.nil_append, Nat.sub_zero]
 generalize xs.length = n
 induction n with
 | zero => rfl
 | succ n ih => rw [List.replicate_succ, List.replicate_succ, List.flatten_cons, ← ih]; rfl
theorem partN_full {xs : List TN} {i : Nat} (h : xs.length ≤ i) : partN xs i = xs := by
 unfold partN; rw [List.take_of_length_le h, show xs.length - i = 0 by omega]; simp
theorem partN_set {xs : List TN} {i : Nat} (h : i < xs.length) : setL (tncells (partN xs i)) (i * 4) (ncell (gn xs i)) = tncells (partN xs (i + 1)) := by
 have e1 : tncells (partN xs i) = tncells (xs.take i) ++ (ncell zn ++ tncells (List.replicate (xs.length - (i + 1)) zn)) := by
  unfold partN
  rw [show xs.length - i = (xs.length - (i + 1)) + 1 by omega, List.replicate_succ, tn_append]; rfl
 have hl : (tncells (xs.take i)).length = i * 4 := by rw [tncells_length, List.length_take]; congr 1; omega
 have h1 := setL_app (ncell (gn xs i)) (ncell zn) (tncells (xs.take i)) (tncells (List.replicate (xs.length - (i + 1)) zn)) rfl
 rw [hl] at h1
 rw [e1, h1]
 have hg : xs[i] = gn xs i := by have := gn_get h; rw [List.getElem?_eq_getElem h] at this; exact Option.some.inj this
 unfold partN
 rw [List.take_succ_eq_append_getElem h, hg, tn_append, tn_append, List.append_assoc]; rfl
theorem gn_take {xs ys : List TN} {i : Nat} (hi : i < xs.length) (hi2 : i < ys.length) (h : xs.take i = ys.take i) (he : gn xs i = gn ys i) : xs.take (i + 1) = ys.take (i + 1) := by
 have e1 := gn_get hi
 have e2 := gn_get hi2
 rw [List.getElem?_eq_getElem hi] at e1
 rw [List.getElem?_eq_getElem hi2] at e2
 rw [List.take_succ_eq_append_getElem hi, List.take_succ_eq_append_getElem hi2, h, Option.some.inj e1, Option.some.inj e2, he]
def blcells (B : List Bool) : List AV := B.map .bool
theorem bl_len (B : List Bool) : (blcells B).length = B.length := by simp [blcells]
theorem bl_rep (n : Nat) : blcells (List.replicate n false) = rep n [.bool false] := by
 unfold blcells rep
 induction n with
 | zero => rfl
 | succ n ih => rw [List.replicate_succ, List.map_cons, ih, List.replicate_succ, List.flatten_cons]; rfl
theorem bl_set (B : List Bool) (i : Nat) (b : Bool) : (blcells B).set i (.bool b) = blcells (B.set i b) := by simp [blcells, List.map_set]
theorem bl_get {B : List Bool} {i : Nat} {b : Bool} (h : B[i]? = some b) : (blcells B)[i]? = some (.bool b) := by simp [blcells, h]
theorem bl_noRef (B : List Bool) : noRefL (blcells B) = true := by
 induction B with
 | nil => rfl
 | cons b B ih => simpa [blcells, noRefL, noRef] using ih
theorem tn_rep {x : TN} (β : Place → Option (Nat × Nat)) (F : Nat → Prop) (w : World) (p : Place) : Rep β F w (.agg [.int .i64 x.1, .int .i64 x.2.1, .int .i64 x.2.2.1, .int .i64 x.2.2.2]) p (tnv x) := by
 simp only [Rep, RepL]
 exact ⟨[.int .i64 x.1, .int .i64 x.2.1, .int .i64 x.2.2.1, .int .i64 x.2.2.2], rfl, rfl, rfl, rfl, rfl, rfl, trivial⟩
theorem rep_nils (n : Nat) : sls (List.replicate n []) = rep n [.sl [] 0] := by
 unfold sls rep
 induction n with
 | zero => rfl
 | succ n ih => rw [List.replicate_succ, List.map_cons, ih, List.replicate_succ, List.flatten_cons]; rfl
theorem sls_set (L : List (List Int)) (i : Nat) (c : List Int) : (sls L).set i (.sl (icells c) c.length) = sls (L.set i c) := by simp [sls, List.map_set]
end Go.Av
namespace Go.Av
open Go
section
variable {e : Ctx} {σ σ' : Sig} {val val' : Nat → Value} {w w' : World} {β β' : Place → Option (Nat × Nat)} {F F' : Nat → Prop} {ds : List Deferred}
def Ctx.here (w : World) (σ : Sig) (β : Place → Option (Nat × Nat)) (F : Nat → Prop) (ds : List Deferred) : Ctx := ⟨w, fun b => ∃ q s, OwnAt σ q ∧ β q = some (b, s), F, ds⟩
theorem Inv.here (h : Inv e σ val w β F) (ds : List Deferred) : Inv (Ctx.here w σ β F ds) σ val w β F where
  rep := h.rep
  disj := h.disj
  sep q b s hq hb := ⟨(h.sep q b s hq hb).1, .inr ⟨q, s, hq, hb⟩⟩
  fr b hb := ⟨(h.fr b hb).1, fun _ => hb⟩
  kept _ _ _ := rfl
  grow := Nat.le_refl _
  tame := Tame.refl' w fun b arr t fz ⟨q, s, hq, hb⟩ hh => h.tame.2.2 b arr t fz (h.sep q b s hq hb).2 hh
theorem Inv.unbase (h : Inv e σ val w β F) (h' : Inv (Ctx.here w σ β F ds) σ' val' w' β' F') : Inv e σ' val' w' β' F' where
  rep := h'.rep
  disj := h'.disj
  sep q b s hq hb := ⟨(h'.sep q b s hq hb).1, by
    rcases (h'.sep q b s hq hb).2 with hl | ⟨q0, s0, ho, hb0⟩
    · exact .inl (Nat.le_trans h.grow hl)
    · exact (h.sep q0 b s0 ho hb0).2⟩
  fr b hb := ⟨(h'.fr b hb).1, fun hlt => (h.fr b ((h'.fr b hb).2 (Nat.lt_of_lt_of_le hlt h.grow))).2 hlt⟩
  kept b hb hi := (h'.kept b (Nat.lt_of_lt_of_le hb h.grow) fun ⟨q, s, ho, hb0⟩ => by
    rcases (h.sep q b s ho hb0).2 with hl | hl
    · omega
    · exact hi hl).trans (h.kept b hb hi)
  grow := Nat.le_trans h.grow h'.grow
  tame := h.tame.trans' h'.tame fun b hb hn => h'.kept b hb hn
theorem Inv.own_cells (h : Inv e σ val w β F) {q : Place} {b s : Nat} (ho : OwnAt σ q) (hb : β q = some (b, s)) : ∃ arr t fz, w.heap[b]? = some (.cells arr t fz) := by
  obtain ⟨x, hx, ho⟩ := ho
  obtain ⟨u, hu⟩ := (h.rep q.1).sub hx
  have hb' : β (q.1, [] ++ q.2) = some (b, s) := by simpa using hb
  cases x <;> simp [AV.isOwn] at ho <;> simp only [Rep] at hu
  · rcases hu with ⟨h0, _⟩ | ⟨_, b', _, _, _, h0, _, _, _, hh, _⟩
    · rw [h0] at hb'; cases hb'
    · rw [h0] at hb'; cases hb'; exact ⟨_, _, _, hh⟩
  · obtain ⟨_, b', _, _, h0, _, hh, _⟩ := hu
    rw [h0] at hb'; cases hb'; exact ⟨_, _, _, hh⟩
def nonCells : Obj → Prop
  | .cells .. => False
  | _ => True
theorem Inv.kept_other (h : Inv e σ val w β F) (h' : Inv (Ctx.here w σ β F ds) σ' val' w' β' F') {b : Nat} {o : Obj} (ho : w.heap[b]? = some o) (hc : nonCells o) : w'.heap[b]? = some o := by
  have hlt : b < w.heap.size := (Array.getElem?_eq_some_iff.1 ho).1
  refine (h'.kept b hlt fun ⟨q, s, hq, hb⟩ => ?_).trans ho
  obtain ⟨arr, t, fz, hh⟩ := h.own_cells hq hb
  rw [ho] at hh; cases hh; exact hc
theorem Inv.kept_fr (h : Inv e σ val w β F) (h' : Inv (Ctx.here w σ β F ds) σ' val' w' β' F') {b : Nat} (hF : F b) : w'.heap[b]? = w.heap[b]? :=
  h'.kept b (h.fr b hF).1 fun ⟨q, s, hq, hb⟩ => (h.sep q b s hq hb).1 hF
theorem Inv.unionF (h : Inv e σ val w β F) (h' : Inv (Ctx.here w σ β F ds) σ' val' w' β' F') : Inv (Ctx.here w σ β F ds) σ' val' w' β' (fun b => F' b ∨ F b) :=
  h'.moreF (fun b hb => .inl hb) (fun b hb => by
    rcases hb with hb | hb
    · exact h'.fr b hb
    · exact ⟨Nat.lt_of_lt_of_le (h.fr b hb).1 h'.grow, fun _ => hb⟩) (fun q b s hq hb hF => by
    rcases hF with hF | hF
    · exact (h'.sep q b s hq hb).1 hF
    · rcases (h'.sep q b s hq hb).2 with hl | ⟨q0, s0, ho, hb0⟩
      · have := (h.fr b hF).1
        exact Nat.lt_irrefl _ (Nat.lt_of_lt_of_le this hl)
      · exact (h.sep q0 b s0 ho hb0).1 hF)
theorem here_fr (h' : Inv (Ctx.here w σ β F ds) σ' val' w' β' F') {b : Nat} (hlt : b < w.heap.size) (hF : ¬ F b) : ¬ F' b := fun hb => hF ((h'.fr b hb).2 hlt)
theorem Inv.putObj (h : Inv e σ val w β F) {l : Nat} {o o' : Obj} (hl : w.heap[l]? = some o) (hc : nonCells o) (hc' : nonCells o') (hF : ¬ F l) (hk : e.w0.heap.size ≤ l) : Inv e σ val (w.putObj l o') β F := by
  have hlt : l < w.heap.size := (Array.getElem?_eq_some_iff.1 hl).1
  refine h.ext (fun b hb => World.putObj_heap_other (fun e => by subst e; exact hF hb)) (fun q b s hq hb => World.putObj_heap_other fun e => ?_) (fun b hb _ => World.putObj_heap_other (by omega)) (by simp) ?_
  · subst e
    obtain ⟨arr, t, fz, hh⟩ := h.own_cells hq hb
    rw [hl] at hh; cases hh; exact hc
  · refine ⟨h.tame.1, h.tame.2.1, fun b arr t fz hb hh => ?_⟩
    by_cases hbl : b = l
    · subst hbl
      rw [World.putObj_heap_same hlt] at hh
      cases hh; exact hc'.elim
    · rw [World.putObj_heap_other hbl] at hh
      exact h.tame.2.2 b arr t fz hb hh
def mvSig (s d : Nat) (σ : Sig) : Sig := fun i => if i = d then σ s else if i = s then refd (d, []) (σ s) else purgeV s (purgeV d (σ i))
theorem purge_own {d : Nat} {x : AV} {r : List Nat} {y : AV} (hy : node (purgeV d x) r = some y) (ho : y.isOwn = true) : node x r = some y := by
  rw [purgeV_eq] at hy
  split at hy
  · cases r with
    | nil => simp [node] at hy; subst hy; simp [AV.isOwn] at ho
    | cons j r => simp [node, kids] at hy
  · exact hy
theorem Inv.mv (h : Inv e σ val w β F) {s d : Nat} (hne : s ≠ d) (hv : val d = val s) (hnr : noRef (σ s) = true) : ∃ β', Inv e (mvSig s d σ) val w β' F := by
  have hφ : ∀ q, OwnAt (mvSig s d σ) q → OwnAt σ (if q.1 = d then (s, q.2) else q) ∧ (q.1 ≠ s) := fun q ⟨y, hy, ho⟩ => by
    unfold mvSig at hy
    by_cases h1 : q.1 = d
    · rw [if_pos h1] at hy ⊢; exact ⟨⟨y, hy, ho⟩, by omega⟩
    · rw [if_neg h1] at hy ⊢
      by_cases h2 : q.1 = s
      · rw [if_pos h2] at hy; rw [noOwn_refd _ _ _ _ hy] at ho; cases ho
      · rw [if_neg h2] at hy; exact ⟨⟨y, purge_own (purge_own hy ho) ho, ho⟩, h2⟩
  refine ⟨fun q => β (if q.1 = d then (s, q.2) else q), fun i => ?_, fun q q' b m m' hq hq' hb hb' => ?_, fun q b m hq hb => h.sep _ b m (hφ q hq).1 hb, h.fr, h.kept, h.grow, h.tame⟩
  · have hd : Rep (fun q => β (if q.1 = d then (s, q.2) else q)) F w (σ s) (d, []) (val s) := by
      refine (h.rep s).tr _ (fun b hb => ⟨hb, rfl⟩) (fun r y _ _ => ⟨by simp, fun _ _ _ => rfl⟩) (fun q hq => by rw [refs_of_noRef _ hnr] at hq; cases hq)
    unfold mvSig
    by_cases h1 : i = d
    · subst h1; rw [if_pos rfl, hv]; exact hd
    · rw [if_neg h1]
      by_cases h2 : i = s
      · subst h2; rw [if_pos rfl]; exact hd.refd
      · rw [if_neg h2]
        have h3 : Rep β F w (purgeV s (purgeV d (σ i))) (i, []) (val i) := ((h.purge d).purge s).rep i
        refine h3.tr _ (fun b hb => ⟨hb, rfl⟩) (fun r y _ _ => ⟨by simp [h1], fun _ _ _ => rfl⟩) (fun q hq => ?_)
        have h4 : q.1 ≠ d := by
          rw [purgeV_eq] at hq
          split at hq
          · simp [refs] at hq
          · exact refs_purge q hq
        simp [h4]
  · have h1 := h.disj _ _ b m m' (hφ q hq).1 (hφ q' hq').1 hb hb'
    have h2 := (hφ q hq).2
    have h3 := (hφ q' hq').2
    obtain ⟨q1, q2⟩ := q
    obtain ⟨p1, p2⟩ := q'
    dsimp only at h1 h2 h3
    by_cases ha : q1 = d <;> by_cases hb : p1 = d
    · rw [if_pos ha, if_pos hb] at h1; rw [ha, hb]; exact congrArg (Prod.mk d) (congrArg Prod.snd h1)
    · rw [if_pos ha, if_neg hb] at h1; exact absurd (congrArg Prod.fst h1).symm h3
    · rw [if_neg ha, if_pos hb] at h1; exact absurd (congrArg Prod.fst h1) h2
    · rw [if_neg ha, if_neg hb] at h1; exact h1
end
def LND : Nat := 2000000
def cutS (σ : Sig) : Sig := fun i => if i < LND then σ i else .undef
def lendS : List Nat → Sig → Sig
  | [], σ => σ
  | s :: S, σ => lendS S (mvSig s (LND + s) σ)
def lendOk (N : Nat) : List Nat → Sig → Bool
  | [], _ => true
  | s :: S, σ => decide (s < N) && noRef (σ s) && lendOk N S (mvSig s (LND + s) σ)
def unlendS : List Nat → Sig → Sig
  | [], σ => σ
  | s :: S, σ => unlendS S (mvSig (LND + s) s σ)
def unlendOk (N : Nat) : List Nat → Sig → Bool
  | [], _ => true
  | s :: S, σ => decide (s < N) && noRef (σ (LND + s)) && unlendOk N S (mvSig (LND + s) s σ)
def gvL (N : Nat) (gv : Nat → Value) (a : Act) : Nat → Value := fun j => if LND ≤ j ∧ j - LND < N then a.tmps.getD (j - LND) undef else gv j
section
variable {N : Nat} {e : Ctx} {σ σ' : Sig} {w w' : World} {β β' : Place → Option (Nat × Nat)} {F F' : Nat → Prop} {gv : Nat → Value} {a a' : Act}
theorem gvL_link (hN : N ≤ INH) {s : Nat} (hs : s < N) : valOf N (gvL N gv a) a (LND + s) = valOf N (gvL N gv a) a s := by
  have h1 : ¬ LND + s < N := by simp [LND, INH] at *; omega
  simp only [valOf, if_neg h1, if_pos hs, gvL, Nat.le_add_right, Nat.add_sub_cancel_left, hs, and_self, if_true]
theorem own_cut {q : Place} (h : OwnAt (cutS σ) q) : OwnAt σ q := by
  obtain ⟨y, hy, ho⟩ := h
  unfold cutS at hy
  split at hy
  · exact ⟨y, hy, ho⟩
  · cases hr : q.2 with
    | nil => rw [hr] at hy; simp [node] at hy; subst hy; simp [AV.isOwn] at ho
    | cons j r => rw [hr] at hy; simp [node, kids] at hy
theorem Inv.cutG (h : Inv e σ (valOf N gv a) w β F) {gv' : Nat → Value} (hg : ∀ i, i < LND → gv' i = gv i) : Inv e (cutS σ) (valOf N gv' a) w β F := by
  refine ⟨fun i => ?_, fun q q' b s s' hq hq' => h.disj q q' b s s' (own_cut hq) (own_cut hq'), fun q b s hq => h.sep q b s (own_cut hq), h.fr, h.kept, h.grow, h.tame⟩
  unfold cutS
  by_cases hi : i < LND
  · rw [if_pos hi]
    have : valOf N gv' a i = valOf N gv a i := by
      simp only [valOf]; split
      · rfl
      · exact hg i hi
    rw [this]; exact h.rep i
  · rw [if_neg hi]; simp [Rep]
theorem gvL_lt {i : Nat} (h : i < LND) : gvL N gv a i = gv i := by unfold gvL; rw [if_neg (by omega)]
theorem Inv.lend (hN : N ≤ INH) : ∀ {S : List Nat} {σ : Sig} {β : Place → Option (Nat × Nat)}, lendOk N S σ = true → Inv e σ (valOf N (gvL N gv a) a) w β F → ∃ β', Inv e (lendS S σ) (valOf N (gvL N gv a) a) w β' F
  | [], _, β, _, h => ⟨β, h⟩
  | s :: S, σ, β, hk, h => by
    simp only [lendOk, Bool.and_eq_true, decide_eq_true_eq] at hk
    obtain ⟨β1, h1⟩ := h.mv (s := s) (d := LND + s) (fun h => by unfold LND at h; omega) (gvL_link hN hk.1.1) hk.1.2
    exact Inv.lend (S := S) hN hk.2 h1
theorem Inv.unlend (hN : N ≤ INH) : ∀ {S : List Nat} {σ : Sig} {β : Place → Option (Nat × Nat)}, unlendOk N S σ = true → Inv e σ (valOf N (gvL N gv a) a) w β F → ∃ β', Inv e (unlendS S σ) (valOf N (gvL N gv a) a) w β' F
  | [], _, β, _, h => ⟨β, h⟩
  | s :: S, σ, β, hk, h => by
    simp only [unlendOk, Bool.and_eq_true, decide_eq_true_eq] at hk
    obtain ⟨β1, h1⟩ := h.mv (s := LND + s) (d := s) (fun h => by unfold LND at h; omega) (gvL_link hN hk.1.1).symm hk.1.2
    exact Inv.unlend (S := S) hN hk.2 h1
def BaseOk (N : Nat) (τ : Sig) : List (Nat × AV) → Prop
  | [] => True
  | (i, v) :: L => (i < N ∧ (pureV v = true ∨ v = refd (LND + i, []) (τ (LND + i)))) ∧ BaseOk N τ L
theorem BaseOk.get {τ : Sig} : ∀ {L : List (Nat × AV)}, BaseOk N τ L → ∀ i, (look L i = .undef ∧ True) ∨ (i < N ∧ (pureV (look L i) = true ∨ look L i = refd (LND + i, []) (τ (LND + i))))
  | [], _, i => .inl ⟨rfl, trivial⟩
  | (d, v) :: L, h, i => by
    obtain ⟨⟨h1, h2⟩, h3⟩ := h
    simp only [look, upd]
    split
    · rename_i he; subst he; exact .inr ⟨h1, h2⟩
    · exact h3.get i
def keysFrom (N : Nat) : List (Nat × AV) → Bool
  | [] => true
  | (i, _) :: L => decide (N ≤ i) && keysFrom N L
def keysBelow (N : Nat) : List (Nat × AV) → Bool
  | [] => true
  | (i, _) :: L => decide (i < N) && keysBelow N L
theorem look_from : ∀ {L : List (Nat × AV)}, keysFrom N L = true → ∀ i, i < N → look L i = .undef
  | [], _, _, _ => rfl
  | (d, v) :: L, h, i, hi => by
    simp only [keysFrom, Bool.and_eq_true, decide_eq_true_eq] at h
    simp only [look, upd]
    rw [if_neg (by omega)]
    exact look_from h.2 i hi
theorem BaseOk.below {τ : Sig} : ∀ {L : List (Nat × AV)}, BaseOk N τ L → keysBelow N L = true
  | [], _ => rfl
  | (d, v) :: L, h => by
    obtain ⟨⟨h1, _⟩, h3⟩ := h
    simp only [keysBelow, Bool.and_eq_true, decide_eq_true_eq]
    exact ⟨h1, h3.below⟩
theorem look_app_lt : ∀ {L M : List (Nat × AV)} {i : Nat}, look M i = .undef → look (L ++ M) i = look L i
  | [], _, _, h => h
  | (d, v) :: L, M, i, h => by
    simp only [List.cons_append, look, upd]
    split
    · rfl
    · exact look_app_lt h
theorem look_app_ge : ∀ {L M : List (Nat × AV)} {i : Nat}, keysBelow N L = true → N ≤ i → look (L ++ M) i = look M i
  | [], _, _, _, _ => rfl
  | (d, v) :: L, M, i, h, hi => by
    simp only [keysBelow, Bool.and_eq_true, decide_eq_true_eq] at h
    simp only [List.cons_append, look, upd]
    rw [if_neg (by omega)]
    exact look_app_ge h.2 hi
theorem node_undef {r : List Nat} {y : AV} (h : node .undef r = some y) : y = .undef := by
  cases r with
  | nil => simpa [node] using h.symm
  | cons j r => simp [node, kids] at h
theorem own_base {τ : Sig} {LB LP : List (Nat × AV)} (hB : BaseOk N τ LB) (hP : keysFrom N LP = true) {q : Place} (h : OwnAt (look (LB ++ LP)) q) : OwnAt (look LP) q := by
  obtain ⟨y, hy, ho⟩ := h
  rcases Nat.lt_or_ge q.1 N with hq | hq
  · rw [look_app_lt (look_from hP _ hq)] at hy
    rcases hB.get q.1 with ⟨h1, _⟩ | ⟨_, h1 | h1⟩
    · rw [h1] at hy; rw [node_undef hy] at ho; cases ho
    · rw [pure_own h1 hy] at ho; cases ho
    · rw [h1] at hy; rw [noOwn_refd _ _ _ _ hy] at ho; cases ho
  · rw [look_app_ge hB.below hq] at hy; exact ⟨y, hy, ho⟩
theorem Inv.reframe (hN : N ≤ INH) {LB LP LP' : List (Nat × AV)} (hB : BaseOk N (look LP) LB) (hB' : BaseOk N (look LP') LB) (hP : keysFrom N LP = true) (hP' : keysFrom N LP' = true)
    (h : Inv e (look (LB ++ LP)) (valOf N (gvL N gv a) a) w β F) (h' : Inv e (look LP') (valOf N (gvL N gv a) a') w' β' F') (hF : ∀ b, F b → F' b ∧ w'.heap[b]? = w.heap[b]?) :
    Inv e (look (LB ++ LP')) (valOf N (gvL N gv a) a) w' β' F' := by
  refine ⟨fun i => ?_, fun q q' b s s' hq hq' => h'.disj q q' b s s' (own_base hB' hP' hq) (own_base hB' hP' hq'), fun q b s hq => h'.sep q b s (own_base hB' hP' hq), h'.fr, h'.kept, h'.grow, h'.tame⟩
  rcases Nat.lt_or_ge i N with hi | hi
  · rw [look_app_lt (look_from hP' _ hi)]
    have h1 := h.rep i
    rw [look_app_lt (look_from hP _ hi)] at h1
    rcases hB'.get i with ⟨h2, _⟩ | ⟨_, h2 | h2⟩
    · rw [h2]; simp [Rep]
    · exact h1.tr _ hF (fun r y hy ho => by rw [pure_own h2 hy] at ho; cases ho) (fun q hq => by rw [refs_pure h2] at hq; cases hq)
    · rw [h2]
      have h3 := h'.rep (LND + i)
      have h4 := gvL_link (gv := gv) (a := a) hN hi
      have h5 : valOf N (gvL N gv a) a' (LND + i) = valOf N (gvL N gv a) a (LND + i) := by
        have : ¬ LND + i < N := by simp [LND, INH] at *; omega
        simp only [valOf, if_neg this]
      rw [h5, h4] at h3
      exact h3.refd
  · rw [look_app_ge hB'.below hi]
    have h3 := h'.rep i
    have h5 : valOf N (gvL N gv a) a' i = valOf N (gvL N gv a) a i := by
      have : ¬ i < N := by omega
      simp only [valOf, if_neg this]
    rw [h5] at h3
    exact h3
end
end Go.Av
namespace Go.Av
open Go
def MkOk (e : Ctx) (ds : List Deferred) (w : World) (F : Nat → Prop) : Prop :=
  ds = [] ∨ ∃ D, ds = [{ target := .collected D, args := #[] }] ∧ w.heap[D]? = some (.deferred (some [])) ∧ e.w0.heap.size ≤ D ∧ ¬ F D
structure AllM (N : Nat) (gv : Nat → Value) (e : Ctx) (σ : Sig) (a : Act) (w : World) : Prop where
  size : a.tmps.size = N
  inv : ∃ β F, MkOk e a.defers w F ∧ Inv e σ (valOf N gv a) w β F
def BCode (P : Program) (N : Nat) (m : Bool) (c : Code) (σ : Sig) (Φ : Exit → Sig → Prop) : Prop :=
  ∀ (gv : Nat → Value) (e : Ctx) (a : Act) (w : World), (m = false → a.defers = []) → AllM N gv e σ a w → ∀ Q : Exit → Act → World → Prop, (∀ x a' w' σ', Φ x σ' → AllM N gv e σ' a' w' → Q x a' w') → c.wp P Q a w
section
variable {P : Program} {N : Nat} {m : Bool} {σ σ' : Sig} {Φ : Exit → Sig → Prop} {c c' : Code}
theorem b_pre (h : Ent σ σ') (hc : BCode P N m c σ' Φ) : BCode P N m c σ Φ := fun gv e a w hm ⟨hsz, β, F, hk, hi⟩ Q hQ => by
  obtain ⟨β', hi'⟩ := h _ _ _ _ _ hi
  exact hc gv e a w hm ⟨hsz, β', F, hk, hi'⟩ Q hQ
theorem lift_core (h : ACode P N c σ Φ) {gv : Nat → Value} {e : Ctx} {a : Act} {w : World} (ha : AllM N gv e σ a w) {Q : Exit → Act → World → Prop} (hQ : ∀ x a' w' σ', Φ x σ' → AllM N gv e σ' a' w' → a'.defers = a.defers → Q x a' w') : c.wp P Q a w := by
  obtain ⟨hsz, β, F, hk, hi⟩ := ha
  refine SWp.wp (h gv (Ctx.here w σ β F a.defers) a w ⟨rfl, hsz, β, F, hi.here _⟩ Q fun x a' w' σ' hx ha' => ?_)
  obtain ⟨hdf, hsz', β', F', hi'⟩ := ha'
  have hdf' : a'.defers = a.defers := hdf
  refine hQ x a' w' σ' hx ⟨hsz', β', F', ?_, hi.unbase hi'⟩ hdf'
  rw [hdf']
  rcases hk with hk | ⟨D, h1, h2, h3, h4⟩
  · exact .inl hk
  · exact .inr ⟨D, h1, hi.kept_other hi' h2 trivial, h3, here_fr hi' (Array.getElem?_eq_some_iff.1 h2).1 h4⟩
theorem b_lift (h : ACode P N c σ Φ) : BCode P N m c σ Φ := fun gv e a w _ ha Q hQ => lift_core h ha fun x a' w' σ' hx ha' _ => hQ x a' w' σ' hx ha'
theorem b_seqA (h : ACode P N c σ (fun x s => match x with | .normal => BCode P N m c' s Φ | x => Φ x s)) : BCode P N m (.seq c c') σ Φ := fun gv e a w hm ha Q hQ =>
  wp_seq (lift_core h ha fun x a' w' σ' hx ha' hd => by
    cases x <;> simp only [Exit.then] <;> first | exact hx gv e a' w' (fun h => hd.trans (hm h)) ha' Q hQ | exact hQ _ _ _ _ hx ha')
theorem b_seqB (h : BCode P N m c σ (fun x s => match x with | .normal => BCode P N true c' s Φ | x => Φ x s)) : BCode P N m (.seq c c') σ Φ := fun gv e a w hm ha Q hQ =>
  wp_seq (h gv e a w hm ha _ fun x a' w' σ' hx ha' => by
    cases x <;> simp only [Exit.then] <;> first | exact hx gv e a' w' (fun h => by cases h) ha' Q hQ | exact hQ _ _ _ _ hx ha')
theorem b_block {id : Nat} (h : BCode P N m c σ (fun x s => match x with | .exit i => if i = id then Φ .normal s else Φ (.exit i) s | x => Φ x s)) : BCode P N m (.block id c) σ Φ := fun gv e a w hm ha Q hQ =>
  wp_block (h gv e a w hm ha _ fun x a' w' s hx ha' => by
    cases x <;> simp only [Exit.inBlock] <;> try exact hQ _ _ _ _ hx ha'
    dsimp only at hx
    split
    · rename_i h; rw [if_pos h] at hx; exact hQ _ _ _ _ hx ha'
    · rename_i h; rw [if_neg h] at hx; exact hQ _ _ _ _ hx ha')
theorem BCall.intro {f : FuncId} {fn : Func} {args objs objs2 : List AV} {res : AV} (hf : P.funcs[f]? = some fn) (hb : fn.body = some c) (hN : fn.ntmps = N) (hNI : N < INH) (ha : args.length ≤ N)
    (h : BCode P N false c (argSig args objs) (fun x s => match x with | .normal => Returns P fn N s res objs2 | .ret => Returns P fn N s res objs2 | _ => False)) : ACall P f args objs res objs2 := by
  intro e vs val w β F hl hval hi
  refine (callsIn_wide (n := 1)).1 (callsIn_of_wp_marks hf hb trivial (wpIn_wide.2 ?_))
  have hsz : (vs.toArray ++ Array.replicate (fn.ntmps - vs.toArray.size) undef).size = N := by simp [hN]; omega
  refine h (fun i => val i) e _ w (fun _ => rfl) ⟨hsz, β, F, .inl rfl, ?_⟩ _ fun x a' w' s hx ha' => ?_
  · refine ⟨fun i => ?_, hi.disj, hi.sep, hi.fr, hi.kept, hi.grow, hi.tame⟩
    by_cases hlt : i < vs.length
    · have := hi.rep i
      rw [hval i hlt] at this
      have e1 : valOf N (fun i => val i) { tmps := vs.toArray ++ Array.replicate (fn.ntmps - vs.toArray.size) undef, defers := [] } i = vs.getD i undef := by
        have : i < N := by omega
        simp only [valOf, this, if_true]
        rw [Array.getD_eq_getD_getElem?, Array.getElem?_append_left (by simpa using hlt)]
        simp
      rw [e1]; exact this
    · by_cases hN' : i < N
      · have : argSig args objs i = .undef := by
          have h1 : i < INH := by omega
          have h2 : args[i]? = none := List.getElem?_eq_none (by omega)
          simp [argSig, h1, h2]
        rw [this]; simp [Rep]
      · have := hi.rep i
        simpa [valOf, hN'] using this
  · have key : ∀ (_ : Returns P fn N s res objs2), LeavesInM Fence.wide 1 P fn a'.tmps (fun en w' => ∃ v β' F', en = .returned v ∧ Inv e (argSig [res] objs2) (upd val 0 v) w' β' F') a'.defers .returning w' := by
      intro hret
      obtain ⟨hsz', β', F', hk, hi'⟩ := ha'
      rcases hk with hk | ⟨D, h1, h2, h3, h4⟩
      · obtain ⟨v, hr, β'', F'', hi''⟩ := hret (fun i => val i) { e with ds := [] } a' w' ⟨hk, hsz', β', F', ⟨hi'.rep, hi'.disj, hi'.sep, hi'.fr, hi'.kept, hi'.grow, hi'.tame⟩⟩
        rw [hk]
        exact ⟨v, hr, v, β'', F'', rfl, ⟨hi''.rep, hi''.disj, hi''.sep, hi''.fr, hi''.kept, hi''.grow, hi''.tame⟩⟩
      · rw [h1]
        have hi2 : Inv e s (valOf N (fun i => val i) a') (w'.putObj D (.deferred none)) β' F' := hi'.putObj h2 trivial trivial h4 h3
        obtain ⟨v, hr, β'', F'', hi''⟩ := hret (fun i => val i) { e with ds := a'.defers } a' _ ⟨rfl, hsz', β', F', ⟨hi2.rep, hi2.disj, hi2.sep, hi2.fr, hi2.kept, hi2.grow, hi2.tame⟩⟩
        refine ⟨by simp, .inl ⟨D, _, rfl, run_takeDeferred h2, ?_⟩⟩
        exact ⟨v, hr, v, β'', F'', rfl, ⟨hi''.rep, hi''.disj, hi''.sep, hi''.fr, hi''.kept, hi''.grow, hi''.tame⟩⟩
    cases x <;> simp only at hx
    · exact key hx
    · exact key hx
end
end Go.Av
namespace Go.Av
open Go
def BackIter (P : Program) (gf : FuncId) (lb : Array Value) (w1 : World) (Fz : Nat → Prop) (n : Nat) (ev : Nat → Value) : Prop :=
  ∀ (l : Nat) (J : Nat → World → Prop) (Jx : World → Prop),
    (∀ k W, J k W → ∀ b, Fz b → W.heap[b]? = w1.heap[b]?) →
    (∀ k W, k < n → J (k + 1) W → ∀ m, YieldAt Fence.wide m P l #[.int .i64 (k : Int), ev k] W fun e W' => (e = .returned (.bool true) ∧ J k W') ∨ (e = .returned (.bool false) ∧ Jx W')) →
    ∀ W, J n W → Calls P gf (#[.func (.yield l) #[] #[]] ++ lb) W fun e W' => (∃ v, e = .returned v) ∧ (J 0 W' ∨ Jx W')
def endSig (S : List Nat) (LB LP : List (Nat × AV)) : Sig := cutS (unlendS S (look (LB ++ LP)))
def NrAll (τ : Sig) : List Nat → Prop
  | [] => True
  | s :: S => noRef (τ (LND + s)) = true ∧ NrAll τ S
theorem NrAll.get {τ : Sig} : ∀ {S : List Nat}, NrAll τ S → ∀ s ∈ S, noRef (τ (LND + s)) = true
  | [], _, s, hs => by cases hs
  | x :: S, h, s, hs => by
    rcases List.mem_cons.1 hs with rfl | hs
    · exact h.1
    · exact h.2.get s hs
def lentB (N : Nat) : List Nat → Bool
  | [] => true
  | s :: S => decide (s < N) && !S.contains s && lentB N S
structure LpOk (N : Nat) (S : List Nat) (LB LP : List (Nat × AV)) : Prop where
  keys : keysFrom N LP = true
  base : BaseOk N (look LP) LB
  nr : NrAll (look LP) S
theorem purge_noRef {d : Nat} {x : AV} (h : noRef x = true) : purgeV d x = x := by rw [purgeV_eq, refs_of_noRef x h]; rfl
theorem unlend_ok {N : Nat} (hN : N ≤ INH) : ∀ {S : List Nat} {σ : Sig}, lentB N S = true → (∀ s ∈ S, noRef (σ (LND + s)) = true) → unlendOk N S σ = true
  | [], _, _, _ => rfl
  | s :: S, σ, h, hn => by
    simp only [lentB, Bool.and_eq_true, decide_eq_true_eq, Bool.not_eq_true'] at h
    simp only [unlendOk, Bool.and_eq_true, decide_eq_true_eq]
    refine ⟨⟨h.1.1, hn s (by simp)⟩, unlend_ok hN h.2 fun s' hs' => ?_⟩
    have h1 : s' ≠ s := fun e => by subst e; have := h.1.2; rw [List.contains_iff_mem.2 hs'] at this; cases this
    have h2 := hn s' (by simp [hs'])
    have h3 : s < LND := by have := h.1.1; unfold LND; unfold INH at hN; omega
    unfold mvSig
    rw [if_neg (by omega), if_neg (by omega), purge_noRef h2, purge_noRef h2]
    exact h2
theorem lend_ok {N : Nat} (hN : N ≤ INH) : ∀ {S : List Nat} {σ : Sig}, lentB N S = true → (∀ s ∈ S, noRef (σ s) = true) → lendOk N S σ = true
  | [], _, _, _ => rfl
  | s :: S, σ, h, hn => by
    simp only [lentB, Bool.and_eq_true, decide_eq_true_eq, Bool.not_eq_true'] at h
    simp only [lendOk, Bool.and_eq_true, decide_eq_true_eq]
    refine ⟨⟨h.1.1, hn s (by simp)⟩, lend_ok hN h.2 fun s' hs' => ?_⟩
    have h1 : s' ≠ s := fun e => by subst e; have := h.1.2; rw [List.contains_iff_mem.2 hs'] at this; cases this
    have h2 := hn s' (by simp [hs'])
    have h3 : ∀ (S : List Nat), lentB N S = true → ∀ s ∈ S, s < N := fun S => by
      induction S with
      | nil => intro _ s hs; cases hs
      | cons x S ih =>
        intro h s hs
        simp only [lentB, Bool.and_eq_true, decide_eq_true_eq] at h
        rcases List.mem_cons.1 hs with rfl | hs
        · exact h.1.1
        · exact ih h.2 s hs
    have h4 := h3 S h.2 s' hs'
    have h5 : N ≤ LND := by unfold LND; unfold INH at hN; omega
    unfold mvSig
    rw [if_neg (by omega), if_neg h1, purge_noRef h2, purge_noRef h2]
    exact h2
def NrFr (τ : Sig) : List Nat → Prop
  | [] => True
  | s :: S => noRef (τ s) = true ∧ NrFr τ S
theorem NrFr.get {τ : Sig} : ∀ {S : List Nat}, NrFr τ S → ∀ s ∈ S, noRef (τ s) = true
  | [], _, s, hs => by cases hs
  | x :: S, h, s, hs => by
    rcases List.mem_cons.1 hs with rfl | hs
    · exact h.1
    · exact h.2.get s hs
theorem Returns.pre {P : Program} {fn : Func} {N : Nat} {σ σ' : Sig} {res : AV} {objs2 : List AV} (h : Ent σ σ') (hr : Returns P fn N σ' res objs2) : Returns P fn N σ res objs2 :=
  fun gv e a w ha => hr gv e a w (h.all ha)
section
variable {P : Program} {N : Nat} {σ : Sig} {Φ : Exit → Sig → Prop}
theorem b_range {assign body : Code} {g p0 p1 : Nat} {gf : FuncId} {caps : List AV} {n : Nat} {ev : Nat → Value} (el : Nat → AV) (S : List Nat) (LB : List (Nat × AV)) (LP : Nat → List (Nat × AV)) (G : Nat → Prop)
    (hN : N ≤ INH) (hg : g < N) (hσ : σ g = .fn gf [] caps) (hb : hasBody P gf = true)
    (hit : ∀ β F w v p, Rep β F w (.fn gf [] caps) p v → ∃ lb, v = .func (.func gf) #[] lb ∧ BackIter P gf lb w F n ev)
    (hel : ∀ k, k < n → pureV (el k) = true ∧ ∀ β F w p, Rep β F w (el k) p (ev k)) (hp : p0 < N ∧ p1 < N ∧ p0 ≠ p1)
    (hS : lentB N S = true) (hlend : NrFr (cutS σ) S) (h0 : Ent (lendS S (cutS σ)) (look (LB ++ LP n))) (hG : G n) (hLP : ∀ k, k ≤ n → LpOk N S LB (LP k))
    (round : ∀ k, k < n → G (k + 1) → ACode P N assign (look ((p1, el k) :: (p0, .int .i64 (k : Int)) :: (LB ++ LP (k + 1)))) fun x s => x = .normal ∧
      ACode P N body s fun x s => match x with
        | .normal => Ent s (look (LP k)) ∧ G k
        | .ret => ∃ L, Ent s (look L) ∧ LpOk N S LB L ∧ Φ .ret (endSig S LB L)
        | _ => False)
    (done : G 0 → Φ .normal (endSig S LB (LP 0))) : BCode P N false (.rangeFunc (.tmp g) #[p0, p1] assign body) σ Φ := by
  intro gv e a w hm ⟨hsz, β, F, hk, hi⟩ Q hQ
  have hdf := hm rfl
  have hNL : N ≤ LND := by unfold LND; unfold INH at hN; omega
  have hgr := hi.rep g
  rw [hσ] at hgr
  obtain ⟨lb, hgv, hiter⟩ := hit _ _ _ _ _ hgr
  have hge : a.eval (.tmp g) = .func (.func gf) #[] lb := by rw [← hgv]; simp [Act.eval, valOf, hg]
  have hc0 := hi.cutG (gv' := gvL N gv a) (fun i h => gvL_lt h)
  obtain ⟨β1, hl1⟩ := Inv.lend hN (lend_ok hN hS hlend.get) hc0
  obtain ⟨β2, hb2⟩ := h0 _ _ _ _ _ hl1
  have hend : ∀ (D : Nat) (L : List (Nat × AV)) (β' : Place → Option (Nat × Nat)) (F' : Nat → Prop) (W : World), w.heap.size ≤ D → LpOk N S LB L → Inv (Ctx.here w (look (LB ++ LP n)) β2 F []) (look (LB ++ L)) (valOf N (gvL N gv a) a) W β' F' → ¬ F' D → W.heap[D]? = some (.deferred (some [])) →
      AllM N gv e (endSig S LB L) { a with defers := [{ target := .collected D, args := #[] }] } W := fun D L β' F' W hD hL h hFD hWD => by
    have h1 := hb2.unbase h
    have hback : ∀ s ∈ S, noRef (look (LB ++ L) (LND + s)) = true := fun s hs => by rw [look_app_ge hL.base.below (by omega)]; exact hL.nr.get s hs
    obtain ⟨β3, h3⟩ := Inv.unlend hN (unlend_ok hN hS hback) h1
    have h4 := h3.cutG (gv' := gv) (fun i h => (gvL_lt h).symm)
    exact ⟨hsz, β3, F', .inr ⟨D, rfl, hWD, Nat.le_trans hi.grow hD, hFD⟩, h4⟩
  refine (wpIn_wide (n := 2)).1 (wpIn_rangeFunc ?_)
  intro fn hfn
  obtain ⟨rec, hrec⟩ : ∃ rec : LoopState → Option Code → Loop, rec = fun st pe => { state := st, pending := pe, fn, tmps := a.tmps, params := #[p0, p1], assign, body, defers := w.heap.size } := ⟨_, rfl⟩
  obtain ⟨W1, hW1⟩ : ∃ W1, (w.alloc (.deferred (some []))).alloc (.loop (rec .ready none)) = W1 := ⟨_, rfl⟩
  have hL1 : W1.heap[w.heap.size + 1]? = some (.loop (rec .ready none)) := by
    rw [← hW1]; have := World.alloc_heap_new (w.alloc (.deferred (some []))) (.loop (rec .ready none)); rwa [World.size_alloc] at this
  have hK1 : W1.heap[w.heap.size]? = some (.deferred (some [])) := by
    rw [← hW1, heap_alloc_lt (by simp)]; exact World.alloc_heap_new w _
  obtain ⟨I, hI⟩ : ∃ I : List (Nat × AV) → LoopState → Option Code → World → Prop, I = fun L st pe W => ∃ β' F', Inv (Ctx.here w (look (LB ++ LP n)) β2 F []) (look (LB ++ L)) (valOf N (gvL N gv a) a) W β' F' ∧ (∀ b, F b → F' b) ∧ ¬ F' w.heap.size ∧ ¬ F' (w.heap.size + 1) ∧
      W.heap[w.heap.size + 1]? = some (.loop (rec st pe)) ∧ W.heap[w.heap.size]? = some (.deferred (some [])) ∧ (∀ b, F b → W.heap[b]? = w.heap[b]?) := ⟨_, rfl⟩
  have hFn : ∀ b, F b → b < w.heap.size := fun b hb => (hi.fr b hb).1
  have hI0 : I (LP n) .ready none W1 := by
    rw [hI]
    have h1 := (hb2.here []).alloc (.deferred (some [])) (fun _ _ _ h => by cases h)
    have h2 := h1.alloc (.loop (rec .ready none)) (fun _ _ _ h => by cases h)
    rw [hW1] at h2
    refine ⟨β2, F, h2, fun b hb => hb, fun h => by have := hFn _ h; omega, fun h => by have := hFn _ h; omega, hL1, hK1, fun b hb => ?_⟩
    rw [← hW1, heap_alloc_lt (by simp; have := hFn b hb; omega), heap_alloc_lt (hFn b hb)]
  refine ⟨w.heap.size + 1, [{ target := .collected w.heap.size, args := #[] }], W1, { target := .fn (.func gf) lb, args := #[.func (.yield (w.heap.size + 1)) #[] #[]] }, W1, gf,
    #[.func (.yield (w.heap.size + 1)) #[] #[]] ++ lb, W1, ?_, ?_, fun _ _ => trivial, ?_, fun h => by simp [Fence.wide] at h, ?_⟩
  · rw [← hW1, hrec]; exact run_enterLoop_outer _ _ _ _ _
  · simp only [resolve, hge]
    simp [go_sem]
  · simp [invoke, go_sem, run_callFunc_body hb]
  · refine callsIn_wide.2 ((hiter (w.heap.size + 1) (fun k W => G k ∧ k ≤ n ∧ I (LP k) .ready none W) (fun W => ∃ L, LpOk N S LB L ∧ Φ .ret (endSig S LB L) ∧ I L .done (some .ret) W)
      (fun k W ⟨_, _, h⟩ b hb => by rw [hI] at h; obtain ⟨_, _, _, _, _, _, _, _, h⟩ := h; exact h b hb) (fun k W hk ⟨hGk, hkn, hIk⟩ m => ?_) W1 ⟨hG, Nat.le_refl _, hI0⟩).mono ?_)
    · -- one round
      have hIk0 := hIk
      rw [hI] at hIk
      obtain ⟨β3, F3, h3, hF3, hD3, hl3, hrl, hrd, hkp3⟩ := hIk
      have hltD : w.heap.size < W.heap.size := (Array.getElem?_eq_some_iff.1 hrd).1
      have hltl : w.heap.size + 1 < W.heap.size := (Array.getElem?_eq_some_iff.1 hrl).1
      have hy := run_yield (P := P) (args := #[.int .i64 (k : Int), ev k]) hrl (by rw [hrec]; rfl)
      rw [hrec] at hy
      refine ⟨fn, _, assign, body, hy, roundIn_of_wpIn hfn ?_⟩
      have htm : ((#[p0, p1] : Array Tmp).zip #[.int .i64 (k : Int), ev k]).foldl (fun t (p, v) => t.setIfInBounds p v) a.tmps = (a.tmps.setIfInBounds p0 (.int .i64 (k : Int))).setIfInBounds p1 (ev k) := by simp
      dsimp only
      rw [htm]
      obtain ⟨ar, har⟩ : ∃ ar : Act, ar = { tmps := (a.tmps.setIfInBounds p0 (.int .i64 (k : Int))).setIfInBounds p1 (ev k), defers := [] } := ⟨_, rfl⟩
      rw [← har]
      have har0 : ar = ({ a with defers := [] }.put (some p0) (.int .i64 (k : Int))).put (some p1) (ev k) := har
      have hszr : ar.tmps.size = N := by rw [har]; simp [hsz]
      have hval : valOf N (gvL N gv a) ar = upd (upd (valOf N (gvL N gv a) a) p0 (.int .i64 (k : Int))) p1 (ev k) := by
        rw [har0, valOf_put (by rw [size_put]; exact hsz) hp.2.1, valOf_put (a := { a with defers := [] }) hsz hp.1]; rfl
      have hst : Inv (Ctx.here w (look (LB ++ LP n)) β2 F []) (look ((p1, el k) :: (p0, .int .i64 (k : Int)) :: (LB ++ LP (k + 1)))) (valOf N (gvL N gv a) ar) W β3 F3 := by
        rw [hval]
        exact (h3.set p0 (by simp [Rep]) (noOwn_scalar rfl)).set p1 ((hel k hk).2 _ _ _ _) (fun r y hy => pure_own (hel k hk).1 hy)
      refine round k hk hGk (gvL N gv a) (Ctx.here W _ β3 F3 []) ar W ⟨by rw [har]; rfl, hszr, β3, F3, hst.here []⟩ _ (fun x a1 w1 s1 hx ha1 => ?_) (some (w.heap.size + 1)) m
      obtain ⟨rfl, hbody⟩ := hx
      obtain ⟨hdf1, hsz1, β4, F4, h4⟩ := ha1
      have h4u := hst.unionF h4
      have hrl4 := hst.kept_other h4 hrl trivial
      have hrd4 := hst.kept_other h4 hrd trivial
      have hu4 := hst.unbase h4u
      have hl4 : ¬ (F4 (w.heap.size + 1) ∨ F3 (w.heap.size + 1)) := fun h => h.elim (here_fr h4 hltl hl3) hl3
      have hD4 : ¬ (F4 w.heap.size ∨ F3 w.heap.size) := fun h => h.elim (here_fr h4 hltD hD3) hD3
      refine ⟨_, run_beginRound hrl4 (by rw [hrec]), ?_⟩
      obtain ⟨w2, hw2⟩ : ∃ w2, w2 = w1.putObj (w.heap.size + 1) (.loop { rec .ready none with state := .busy }) := ⟨_, rfl⟩
      rw [← hw2]
      have hlt1 : w.heap.size + 1 < w1.heap.size := (Array.getElem?_eq_some_iff.1 hrl4).1
      have hu5 : Inv (Ctx.here w (look (LB ++ LP n)) β2 F []) s1 (valOf N (gvL N gv a) a1) w2 β4 (fun b => F4 b ∨ F3 b) := by
        rw [hw2]; exact hu4.putObj hrl4 trivial trivial hl4 (by show w.heap.size ≤ _; omega)
      have hrl5 : w2.heap[w.heap.size + 1]? = some (.loop { rec .ready none with state := .busy }) := by rw [hw2]; exact World.putObj_heap_same hlt1
      have hrd5 : w2.heap[w.heap.size]? = some (.deferred (some [])) := by rw [hw2]; exact (World.putObj_heap_other (by omega)).trans hrd4
      have hlt2 : w.heap.size + 1 < w2.heap.size := (Array.getElem?_eq_some_iff.1 hrl5).1
      refine hbody (gvL N gv a) (Ctx.here w2 _ β4 (fun b => F4 b ∨ F3 b) []) a1 w2 ⟨hdf1, hsz1, β4, _, hu5.here []⟩ _ (fun x a3 w3 s3 hx ha3 => ?_) (some (w.heap.size + 1)) m
      obtain ⟨hdf3, hsz3, β6, F6, h6⟩ := ha3
      have hrl6 := hu5.kept_other h6 hrl5 trivial
      have hrd6 := hu5.kept_other h6 hrd5 trivial
      have hkk : ∀ b, F3 b → w3.heap[b]? = W.heap[b]? := fun b hb => by
        have e1 := hst.kept_fr h4 hb
        have e3 := hu5.kept_fr h6 (b := b) (.inr hb)
        have hne : b ≠ w.heap.size + 1 := fun h => by subst h; exact hl3 hb
        have e2 : w2.heap[b]? = w1.heap[b]? := by rw [hw2]; exact World.putObj_heap_other hne
        exact e3.trans (e2.trans e1)
      have fin : ∀ (st : LoopState) (jump : Option Code) (L : List (Nat × AV)), LpOk N S LB L → Ent s3 (look L) → I L st jump (w3.putObj (w.heap.size + 1) (.loop (rec st jump))) := fun st jump L hL hent => by
        obtain ⟨β7, h7⟩ := hent _ _ _ _ _ h6
        have h7u := hu5.unionF h7
        have h8 := hu5.unbase h7u
        have hl8 : ¬ (F6 (w.heap.size + 1) ∨ F4 (w.heap.size + 1) ∨ F3 (w.heap.size + 1)) := fun h => h.elim (here_fr h6 hlt2 hl4) hl4
        have hD8 : ¬ (F6 w.heap.size ∨ F4 w.heap.size ∨ F3 w.heap.size) := fun h => h.elim (here_fr h6 (by omega) hD4) hD4
        have h9 := Inv.reframe hN (hLP (k + 1) hk).base hL.base (hLP (k + 1) hk).keys hL.keys h3 h8 (fun b hb => ⟨.inr (.inr hb), hkk b hb⟩)
        have hlt3 : w.heap.size + 1 < w3.heap.size := (Array.getElem?_eq_some_iff.1 hrl6).1
        rw [hI]
        refine ⟨β7, _, h9.putObj hrl6 trivial trivial hl8 (by show w.heap.size ≤ _; omega), fun b hb => .inr (.inr (hF3 b hb)), hD8, hl8, World.putObj_heap_same hlt3, (World.putObj_heap_other (by omega)).trans hrd6, fun b hb => ?_⟩
        have hne : b ≠ w.heap.size + 1 := fun h => by subst h; have := hFn _ hb; omega
        exact (World.putObj_heap_other hne).trans ((hkk b (hF3 b hb)).trans (hkp3 b hb))
      have erun : ∀ jump : Option Code, (Instr.endRound (w.heap.size + 1) jump).run P w3 = .ok (.bool jump.isNone) (w3.putObj (w.heap.size + 1) (.loop (rec (if jump.isNone then .ready else .done) jump))) := fun jump => by
        have := run_endRound (P := P) jump hrl6
        rw [hrec] at this ⊢
        exact this
      cases x with
      | normal =>
        obtain ⟨hent, hG'⟩ := hx
        exact ⟨_, _, erun none, .inl ⟨rfl, hG', by omega, fin .ready none (LP k) (hLP k (by omega)) hent⟩⟩
      | ret =>
        obtain ⟨L, hent, hL, hΦ⟩ := hx
        exact ⟨_, _, erun (some .ret), .inr ⟨rfl, L, hL, hΦ, fin .done (some .ret) L hL hent⟩⟩
      | exit id => exact hx.elim
      | goto t => exact hx.elim
      | panic ch => exact hx.elim
      | outgrown => exact hx.elim
    · -- behind the iterator
      have close : ∀ (st : LoopState) (pe : Option Code) (L : List (Nat × AV)) (W : World), st ≠ .busy → LpOk N S LB L → I L st pe W → ∃ W', (Instr.endLoop (w.heap.size + 1)).run P W = .ok pe W' ∧ AllM N gv e (endSig S LB L) { a with defers := [{ target := .collected w.heap.size, args := #[] }] ++ a.defers } W' := fun st pe L W hst hL h => by
        rw [hI] at h
        obtain ⟨β3, F3, h3, hF3, hD3, hl3, hrl, hrd, _⟩ := h
        have hlt : w.heap.size + 1 < W.heap.size := (Array.getElem?_eq_some_iff.1 hrl).1
        have := run_endLoop (P := P) hrl (by rw [hrec]; exact hst)
        rw [hrec] at this
        refine ⟨_, this, ?_⟩
        rw [hdf]
        have h4 := h3.putObj hrl (o' := .loop { rec st pe with state := .exhausted }) trivial trivial hl3 (by show w.heap.size ≤ _; omega)
        rw [hrec] at h4
        exact hend _ L _ _ _ (Nat.le_refl _) hL h4 hD3 ((World.putObj_heap_other (by omega)).trans hrd)
      rintro en W2 ⟨⟨v, rfl⟩, (⟨hG0, _, h⟩ | ⟨L, hL, hΦ, h⟩)⟩
      · obtain ⟨W', h1, h2⟩ := close _ _ _ _ (by simp) (hLP 0 (Nat.zero_le _)) h
        exact ⟨none, W', h1, hQ _ _ _ _ (done hG0) h2⟩
      · obtain ⟨W', h1, h2⟩ := close _ _ _ _ (by simp) hL h
        exact ⟨some .ret, W', h1, wpIn_ret (hQ _ _ _ _ hΦ h2)⟩
end
end Go.Av
namespace Go.Av
open Go
section
variable {P : Program} {N : Nat} {A : Bool} {σ : Sig} {ty : TypeId} {x : Operand}
theorem q_boxZ {t : Nat} {v : AV} (hx : RdTo N A σ x v) (hb : boxable v = true) (hp : pureL (cellsOf v) = true) : QSem P N A (.box t x) ty σ (slots x) (.pp (shL (cellsOf v)) 0) := by
  intro hA σ' hD gv e a w β F hi d o ho hty K Q hK
  have ex := hx.rep hA hD hi (0, [])
  obtain ⟨hl, hr⟩ := cells_of ex hb hp
  obtain ⟨β', h'⟩ := hi.new_op hl hr hp t d
  have hfz := h'.freeze (fun r y b s hy hyo hb => by
    cases r with
    | nil =>
      have hrep := h'.rep d
      rw [upd_same, upd_same] at hrep
      simp only [Rep] at hrep
      obtain ⟨_, b', _, _, h1, h2, _⟩ := hrep
      rw [h1] at hb; cases hb
      simp only [Value.pointer.injEq, Option.some.injEq, Addr.mk.injEq] at h2
      have := hi.grow
      omega
    | cons j r =>
      simp only [node, kids] at hy
      cases hc : (cellsOf v)[j]? with
      | none => rw [hc] at hy; cases hy
      | some c =>
        rw [hc] at hy
        rw [pure_own (pureL_mem hp (List.mem_of_getElem? hc)) hy] at hyo; cases hyo)
  refine wp_value (v := .pointer (some ⟨w.heap.size, 0, none⟩)) (w' := w.alloc (.cells (a.eval x).cells t)) ?_ (hK _ _ ⟨β', _, by simpa [sh] using hfz⟩)
  simp [execOp, ho, Instr.box, newVar, newRow]
end
end Go.Av
namespace Go.Av
open Go
section
variable {P : Program} {N : Nat} {A : Bool} {σ : Sig} {ty : TypeId} {x : Operand}
theorem q_sliceLit1Z {t sz : Nat} {zs cs : List AV} {v : AV} (hx : RdTo N A σ x v) (hno : NoOwn v) (h : litTy P t = some (sz, zs)) (hsm : Nat.ble (1 * sz) 16777216 = true)
    (hf : fillA (fun i => some (i * sz, sz)) (rep 1 zs) [(0, v)] = some cs) (hl : Nat.beq cs.length (1 * sz) = true) (hp : pureL cs = true) :
    QSem P N A (sliceLit t 1 [(0, x)]) ty σ (slotsL [x]) (.sl (shL cs) 1) := by
  intro hA σ' hD gv e a w β F hi d o ho hty K Q hK
  obtain ⟨el, arr0, harr, hrun⟩ := run_lit h (Nat.le_of_ble_eq_true hsm)
  have ex := hx.rep hA (fun i hi' => hD i (by simpa [slotsL] using hi')) hi (0, [])
  obtain ⟨cells, he, hc1, hc2, hc3⟩ := fill_spec (β := β) (F := F) (w := w) [(0, v)] [(0, a.eval x)] _ arr0 cs (harr β F w) (by simp)
      (fun j i u hj => by
        cases j with
        | zero => simp at hj; obtain ⟨rfl, rfl⟩ := hj; exact ⟨hno, a.eval x, (0, []), rfl, ex⟩
        | succ j => simp at hj) hf
  have hr := hrun [(0, a.eval x)].toArray cells w (by simpa using he)
  obtain ⟨β', h'⟩ := hi.new_osl (us := cells.toList) (by simpa using hc1) hc3 hp el d (arr := cells) (sz := sz) (n := 1) (capv := 1) (cap := some 1) (fun j x hx => hx) (by rw [hc1]; exact Nat.eq_of_beq_eq_true hl) (Nat.le_refl _) (fun c hc => by cases hc; rfl)
  have hfz := h'.freeze (fun r y b s hy hyo hb => by
    cases r with
    | nil =>
      have hrep := h'.rep d
      rw [upd_same, upd_same] at hrep
      simp only [Rep] at hrep
      rcases hrep with ⟨h1, _⟩ | ⟨_, b', _, _, _, h1, h2, _⟩
      · rw [h1] at hb; cases hb
      · rw [h1] at hb; cases hb
        simp only [Value.slice.injEq, Option.some.injEq, Addr.mk.injEq] at h2
        have := hi.grow
        omega
    | cons j r =>
      simp only [node, kids] at hy
      cases hc : cs[j]? with
      | none => rw [hc] at hy; cases hy
      | some c =>
        rw [hc] at hy
        rw [pure_own (pureL_mem hp (List.mem_of_getElem? hc)) hy] at hyo; cases hyo)
  refine wp_value (v := .slice (some ⟨w.heap.size, 0, none⟩) 1 1) (w' := w.alloc (.cells cells el)) ?_ (hK _ _ ⟨β', _, hfz⟩)
  simp only [execOp, ho, sliceLit, List.map_toArray, List.map_cons, List.map_nil, hr, Sem.run_bind, Sem.run_pure, Result.andThen_ok]
end
end Go.Av
namespace Go.Av
open Go Go.Sort
def trP (xs : List TN) (k : Nat) : List (List Int) := (trI xs k).getD []
def trQ (xs : List TN) (k : Nat) : List (List Int) := (trS xs k).getD []
section
variable {vars m : Int} {xs : List TN} {k : Nat}
theorem tr_get (h : (trI xs k).isSome = true) : trI xs k = some (trP xs k) := by
  unfold trP; cases he : trI xs k with
  | none => rw [he] at h; cases h
  | some P => rfl
theorem tr_ok (hv : 0 ≤ vars ∧ vars ≤ 12) (ha : allN vars m xs = true) (h : (trI xs k).isSome = true) : PathsOk vars xs (trP xs k) := trI_ok hv ha (tr_get h)
theorem tr_next (hk : k < xs.length) (h : (trI xs (k + 1)).isSome = true) : trI xs k = stepI xs k (trP xs (k + 1)) := by rw [trI_step hk, tr_get h]; rfl
theorem tr_top (xs : List TN) : trP xs xs.length = List.replicate xs.length [] := by unfold trP; rw [trI_top]; rfl
theorem tr_none (hk : k < xs.length) (h : (trI xs (k + 1)).isSome = true) (hs : stepI xs k (trP xs (k + 1)) = none) : (trI xs 0).isSome = false := by
  rw [trI_none (k := k) (by omega) (by rw [tr_next hk h, hs])]; rfl
theorem tr_unseen (hk : k < xs.length) (h : (trI xs (k + 1)).isSome = true) (hs : seenB xs (k + 1) k = false) : (trI xs 0).isSome = false :=
  tr_none hk h (by unfold stepI; rw [if_pos hs])
theorem tr_leaf (hk : k < xs.length) (h : (trI xs (k + 1)).isSome = true) (hs : seenB xs (k + 1) k = true) (hv : nV xs k = 0) : trP xs k = trP xs (k + 1) ∧ (trI xs k).isSome = true := by
  have e : trI xs k = some (trP xs (k + 1)) := by rw [tr_next hk h]; unfold stepI; rw [hs, if_neg (by simp), if_pos hv]
  exact ⟨by unfold trP; rw [e]; rfl, by rw [e]; rfl⟩
theorem tr_bad (hk : k < xs.length) (h : (trI xs (k + 1)).isSome = true) (hv : nV xs k ≠ 0)
    (hb : (seenB xs (k + 1) (nLo xs k) || seenB xs (k + 1) (nHi xs k) || trOn xs k (trP xs (k + 1))) = true) : (trI xs 0).isSome = false :=
  tr_none hk h (by unfold stepI; rw [if_neg hv, if_pos hb]; split <;> rfl)
theorem tr_good (hk : k < xs.length) (h : (trI xs (k + 1)).isSome = true) (hs : seenB xs (k + 1) k = true) (hv : nV xs k ≠ 0)
    (hb : (seenB xs (k + 1) (nLo xs k) || seenB xs (k + 1) (nHi xs k) || trOn xs k (trP xs (k + 1))) = false) : trP xs k = trPut xs k (trP xs (k + 1)) ∧ (trI xs k).isSome = true := by
  have e : trI xs k = some (trPut xs k (trP xs (k + 1))) := by rw [tr_next hk h]; unfold stepI; rw [hs, if_neg (by simp), if_neg hv, hb]; rfl
  exact ⟨by unfold trP; rw [e]; rfl, by rw [e]; rfl⟩
theorem ts_get (h : (trS xs k).isSome = true) : trS xs k = some (trQ xs k) := by
  unfold trQ; cases he : trS xs k with
  | none => rw [he] at h; cases h
  | some P => rfl
theorem ts_ok (hv : 0 ≤ vars ∧ vars ≤ 12) (ha : allN vars m xs = true) (h : (trS xs k).isSome = true) : PathsOk vars xs (trQ xs k) := trS_ok hv ha (ts_get h)
theorem ts_next (hk : k < xs.length) (h : (trS xs (k + 1)).isSome = true) : trS xs k = stepP xs k (trQ xs (k + 1)) := by rw [trS_step hk, ts_get h]; rfl
theorem ts_top (xs : List TN) : trQ xs xs.length = List.replicate xs.length [] := by unfold trQ; rw [trS_top]; rfl
theorem ts_leaf (hk : k < xs.length) (h : (trS xs (k + 1)).isSome = true) (hv : nV xs k = 0) : trQ xs k = trQ xs (k + 1) ∧ (trS xs k).isSome = true := by
  have e : trS xs k = some (trQ xs (k + 1)) := by rw [ts_next hk h]; unfold stepP; rw [if_pos hv]
  exact ⟨by unfold trQ; rw [e]; rfl, by rw [e]; rfl⟩
theorem ts_bad (hk : k < xs.length) (h : (trS xs (k + 1)).isSome = true) (hv : nV xs k ≠ 0) (hb : trOn xs k (trQ xs (k + 1)) = true) : (trS xs 0).isSome = false := by
  rw [trS_none (k := k) (by omega) (by rw [ts_next hk h]; unfold stepP; rw [if_neg hv, if_pos hb])]; rfl
theorem ts_good (hk : k < xs.length) (h : (trS xs (k + 1)).isSome = true) (hv : nV xs k ≠ 0) (hb : trOn xs k (trQ xs (k + 1)) = false) : trQ xs k = trPut xs k (trQ xs (k + 1)) ∧ (trS xs k).isSome = true := by
  have e : trS xs k = some (trPut xs k (trQ xs (k + 1))) := by rw [ts_next hk h]; unfold stepP; rw [if_neg hv, hb]; rfl
  exact ⟨by unfold trQ; rw [e]; rfl, by rw [e]; rfl⟩
theorem tr_isSome (ha : allN vars m xs = true) (h0 : 0 < xs.length) : (trI xs 0).isSome = (onceB xs && (trS xs 0).isSome) := by
  rw [trI_eq ha h0]; cases onceB xs <;> rfl
theorem tr_val (ha : allN vars m xs = true) (h0 : 0 < xs.length) (h : (trI xs 0).isSome = true) : trP xs 0 = trQ xs 0 := by
  have h1 := h
  rw [tr_isSome ha h0] at h1
  simp only [Bool.and_eq_true] at h1
  unfold trP trQ; rw [trI_eq ha h0, if_pos h1.1]
end
theorem ded_on {p : List Int} {v : Int} (hv : 1 ≤ v) : decide (v ∈ dedN (insertionSort (fun x y : Int => decide (x < y)) (p.map fun x => max x (-x)).toArray 0 (p.map fun x => max x (-x)).length) (p.map fun x => max x (-x)).length) = (decide (v ∈ p) || decide (-v ∈ p)) := by
  have h := (ins_facts (p.map fun x => max x (-x))).1 v
  rw [Bool.eq_iff_iff]
  simp only [decide_eq_true_eq, Bool.or_eq_true]
  rw [h, List.mem_map]
  constructor
  · rintro ⟨x, hx, he⟩
    by_cases h2 : x = v
    · exact .inl (h2 ▸ hx)
    · have : x = -v := by omega
      exact .inr (this ▸ hx)
  · rintro (hx | hx)
    · exact ⟨v, hx, by omega⟩
    · exact ⟨-v, hx, by omega⟩
theorem ded_few9 {p : List Int} (h : p.length ≤ 12) : (dedN (insertionSort (fun x y : Int => decide (x < y)) (p.map fun x => max x (-x)).toArray 0 (p.map fun x => max x (-x)).length) (p.map fun x => max x (-x)).length).length ≤ 1048576 :=
  Nat.le_trans (dedN_le _ _) (by simp; omega)
theorem weakL_nils : ∀ (n : Nat), WeakL (rep n [.nils]) (rep n [.sl [] 0])
  | 0 => trivial
  | n + 1 => by
    have e1 : rep (n + 1) [AV.nils] = .nils :: rep n [.nils] := by simp [rep, List.replicate_succ]
    have e2 : rep (n + 1) [AV.sl [] 0] = .sl [] 0 :: rep n [.sl [] 0] := by simp [rep, List.replicate_succ]
    rw [e1, e2]; exact ⟨Weak.nils_sl, weakL_nils n⟩
theorem weak_rows {n : Nat} {cap : Option Nat} : Weak (.osl 1 (rep n [.nils]) n cap) (.osl 1 (sls (List.replicate n [])) n none) := by
  rw [rep_nils]
  exact Weak.oslL (weakL_nils n) (by rw [← rep_nils]; exact noRefL_pure _ (sls_pureL _)) rfl
theorem nr_rows {L : List (List Int)} {n : Nat} {cap : Option Nat} : noRef (.op [.osl 1 (sls L) n cap]) = true := by simp [noRef, noRefL, sls_noRef]
theorem nr_bools {B : List Bool} {n : Nat} {cap : Option Nat} : noRef (.op [.osl 1 (blcells B) n cap]) = true := by simp [noRef, noRefL, bl_noRef]
end Go.Av
namespace Go.Av
open Go
def pthL (xs : List TN) : List (List Int) := trP xs 0
theorem pth_none {xs : List TN} (h : (trI xs 0).isSome = false) : pthL xs = [] := by
  unfold pthL trP; cases he : trI xs 0 with
  | none => rfl
  | some P => rw [he] at h; cases h
end Go.Av
namespace Go.Av
open Go Go.Sort
def treeB (vars : Int) (L : List (List Int)) (xs : List TN) : Bool := cnfB vars L && inR xs.length 1 199 && allN vars L.length xs && (trI xs 0).isSome
def pthT (vars : Int) (L : List (List Int)) (xs : List TN) : List (List Int) := if treeB vars L xs then trP xs 0 else []
section
variable {vars : Int} {L : List (List Int)} {xs : List TN}
theorem treeB_spec (h : treeB vars L xs = true) : cnfB vars L = true ∧ (0 < xs.length ∧ xs.length ≤ 199) ∧ allN vars L.length xs = true ∧ (trI xs 0).isSome = true := by
  unfold treeB at h
  simp only [Bool.and_eq_true, inR, decide_eq_true_eq] at h
  exact ⟨h.1.1.1, by omega, h.1.2, h.2⟩
theorem treeB_len (h : (cnfB vars L && inR xs.length 1 199) = false) : treeB vars L xs = false := by unfold treeB; rw [h]; rfl
theorem treeB_node (h : allN vars L.length xs = false) : treeB vars L xs = false := by unfold treeB; rw [h]; simp
theorem treeB_yes (h1 : cnfB vars L = true) (h2 : 0 < xs.length ∧ xs.length ≤ 199) (h3 : allN vars L.length xs = true) : treeB vars L xs = (trI xs 0).isSome := by
  unfold treeB; rw [h1, h3]; simp [inR]; omega
theorem treeB_once (h2 : 0 < xs.length ∧ xs.length ≤ 199) (h3 : allN vars L.length xs = true) (h : onceB xs = false) : treeB vars L xs = false := by
  unfold treeB; rw [tr_isSome h3 h2.1, h]; simp
theorem treeB_path (h2 : 0 < xs.length ∧ xs.length ≤ 199) (h3 : allN vars L.length xs = true) (h : (trS xs 0).isSome = false) : treeB vars L xs = false := by
  unfold treeB; rw [tr_isSome h3 h2.1, h]; simp
theorem treeB_ok (h1 : cnfB vars L = true) (h2 : 0 < xs.length ∧ xs.length ≤ 199) (h3 : allN vars L.length xs = true) (ho : onceB xs = true) (h : (trS xs 0).isSome = true) : treeB vars L xs = true ∧ pthT vars L xs = trQ xs 0 := by
  have h4 : treeB vars L xs = true := by rw [treeB_yes h1 h2 h3, tr_isSome h3 h2.1, ho, h]; rfl
  refine ⟨h4, ?_⟩
  unfold pthT; rw [h4, if_pos rfl]
  exact tr_val h3 h2.1 (treeB_spec h4).2.2.2
theorem pthT_no (h : treeB vars L xs = false) : pthT vars L xs = [] := by unfold pthT; rw [h]; rfl
theorem pthT_yes (h : treeB vars L xs = true) : pthT vars L xs = pthL xs := by unfold pthT; rw [h]; rfl
theorem pth_ok (h : treeB vars L xs = true) : PathsOk vars xs (pthL xs) := by
  obtain ⟨h1, _, h3, h4⟩ := treeB_spec h
  exact tr_ok (cnfB_spec h1).1 h3 h4
theorem rep_set {n i : Nat} : (List.replicate n ([] : List Int)).set i [] = List.replicate n [] := by
  apply List.ext_getElem
  · simp
  · intro j h1 h2; simp [List.getElem_set]
end
def badB (L : List (List Int)) (xs : List TN) (P : List (List Int)) (i : Nat) : Bool := decide (nV xs i = 0) && decide (0 ≤ cval (gl L (gn xs i).2.2.2.toNat) (gl P i))
def badI (L : List (List Int)) (xs : List TN) (P : List (List Int)) : Int := fidx (badB L xs P) xs.length
end Go.Av
namespace Go.Av
open Go
theorem ct_gd_lt {A B : List Int} {i : Nat} (h : i < A.length) : gd (A ++ B) i = gd A i := by unfold gd; rw [List.getElem?_append_left h]
theorem ct_gd_end {A : List Int} {x : Int} : gd (A ++ [x]) A.length = x := by unfold gd; rw [List.getElem?_append_right (Nat.le_refl _), Nat.sub_self]; rfl
theorem clP_app {p : Int} {n : Nat} {c d : List Int} : ∀ i, i ≤ c.length → clP p n (c ++ d) i = clP p n c i
  | 0, _ => rfl
  | i + 1, h => by rw [clP, clP, clP_app i (by omega), ct_gd_lt (by omega)]
theorem clD_snoc (p vars : Int) (c : List Int) (x : Int) : clD p vars (c ++ [x]) = mulp p (dn vars) (clD p vars c) (litP p (dn vars) (-x)) := by
  unfold clD
  rw [List.length_append]
  show clP p (dn vars) (c ++ [x]) (c.length + 1) = _
  rw [clP, clP_app _ (Nat.le_refl _), ct_gd_end]
def ngK (C P : List Int) : Nat → List Int
  | 0 => []
  | j + 1 => if -(gd P j) ∈ C then ngK C P j else ngK C P j ++ [-(gd P j)]
theorem ngK_len (C P : List Int) : ∀ j, (ngK C P j).length ≤ j
  | 0 => by simp [ngK]
  | j + 1 => by
    have := ngK_len C P j
    rw [ngK]; split
    · omega
    · simp; omega
theorem ngK_eq (C P : List Int) : ∀ j, j ≤ P.length → ngK C P j = ((ngL P).take j).filter fun x => decide (¬ x ∈ C)
  | 0, _ => by simp [ngK]
  | j + 1, h => by
    have hl : j < (ngL P).length := by rw [ngL_len]; omega
    have hg : (ngL P)[j] = -(gd P j) := by simp [ngL, gd, List.getElem?_eq_getElem (show j < P.length by omega)]
    rw [ngK, ngK_eq C P j (by omega), List.take_succ_eq_append_getElem hl, List.filter_append, hg]
    split
    · rename_i h1; simp [h1]
    · rename_i h1; simp [h1]
theorem clB_sub {vars : Int} {c d : List Int} (hv : 0 ≤ vars ∧ vars ≤ 12) (h : clB vars c = true) (hs : List.Sublist d c) : clB vars d = true :=
  clB_of hv ((clB_strict h).sublist hs) fun x hx => (clB_mem h (hs.subset hx)).1
theorem ngK_cl {vars : Int} {C P : List Int} (hv : 0 ≤ vars ∧ vars ≤ 12) (h : clB vars P = true) {j : Nat} (hj : j ≤ P.length) : clB vars (ngK C P j) = true := by
  rw [ngK_eq C P j hj]
  exact clB_sub hv (ngL_cl h) ((List.filter_sublist).trans (List.take_sublist _ _))
def rsC (L : List (List Int)) (xs : List TN) (i k : Nat) : List Int := ngK (gl L i) (gl (pthL xs) k) (gl (pthL xs) k).length
def colD (p vars : Int) (L : List (List Int)) (xs : List TN) (i : Nat) : Nat → List Int
  | 0 => List.replicate (dn vars) 0
  | k + 1 => if (gn xs k).1 = 0 ∧ (gn xs k).2.2.2 = (i : Int) then modp p (linz 1 (colD p vars L xs i k) (clD p vars (rsC L xs i k))) else colD p vars L xs i k
theorem colD_len {p vars : Int} {L : List (List Int)} {xs : List TN} {i : Nat} : ∀ k, (colD p vars L xs i k).length = dn vars
  | 0 => List.length_replicate
  | k + 1 => by
    rw [colD]; split
    · rw [modp_length, linz_length, colD_len k]
    · exact colD_len k
theorem colD_bd {p vars : Int} {L : List (List Int)} {xs : List TN} {i : Nat} (hp : 1 ≤ p) : ∀ k, Bd p (colD p vars L xs i k)
  | 0 => rep_bd hp _
  | k + 1 => by
    rw [colD]; split
    · exact modp_bd hp _
    · exact colD_bd hp k
def ctG (p vars : Int) (L : List (List Int)) (xs : List TN) (k : Nat) : List (List Int) := (List.range L.length).map fun i => colD p vars L xs i k
section
variable {p vars : Int} {L : List (List Int)} {xs : List TN} {k : Nat}
theorem ctG_len : (ctG p vars L xs k).length = L.length := by simp [ctG]
theorem ctG_get {i : Nat} (h : i < L.length) : gl (ctG p vars L xs k) i = colD p vars L xs i k := by
  unfold gl ctG; rw [List.getElem?_map, List.getElem?_range h]; rfl
theorem ctG_no (h : ¬ (gn xs k).1 = 0) : ctG p vars L xs (k + 1) = ctG p vars L xs k := by
  unfold ctG
  refine List.map_congr_left fun i _ => ?_
  rw [colD, if_neg fun h2 => h h2.1]
theorem ctG_yes (h : (gn xs k).1 = 0) {c : Nat} (hc : (gn xs k).2.2.2 = (c : Int)) (hl : c < L.length) : ctG p vars L xs (k + 1) = (ctG p vars L xs k).set c (modp p (linz 1 (colD p vars L xs c k) (clD p vars (rsC L xs c k)))) := by
  refine List.ext_getElem (by simp [ctG]) fun i h1 h2 => ?_
  have hi : i < L.length := by simpa [ctG] using h1
  simp only [ctG, List.getElem_map, List.getElem_range, List.getElem_set]
  rw [colD]
  by_cases e : c = i
  · subst e; rw [if_pos ⟨h, hc⟩, if_pos rfl]
  · rw [if_neg (fun h3 => e (by have := h3.2; omega)), if_neg e]
theorem ctG_zero : ctG p vars L xs 0 = List.replicate L.length (List.replicate (dn vars) 0) := by
  refine List.ext_getElem (by simp [ctG]) fun i h1 h2 => ?_
  simp [ctG, colD]
end
theorem node_var {vars m : Int} {xs : List TN} {i : Nat} (h : nodeB vars m i (gn xs i) = true) : 0 ≤ (gn xs i).1 := by
  by_cases h0 : (gn xs i).1 = 0
  · omega
  · have := (inner_spec h h0).1.1; unfold nV at this; omega
def zP (vars : Int) (n i : Nat) : List (List Int) := List.replicate i (List.replicate (dn vars) 0) ++ List.replicate (n - i) []
theorem zP_zero (vars : Int) (n : Nat) : zP vars n 0 = List.replicate n [] := by simp [zP]
theorem zP_len {vars : Int} {n i : Nat} (h : i ≤ n) : (zP vars n i).length = n := by simp [zP]; omega
theorem zP_set {vars : Int} {n i : Nat} (h : i < n) : (zP vars n i).set i (List.replicate (dn vars) 0) = zP vars n (i + 1) := by
  unfold zP
  have hl : (List.replicate i (List.replicate (dn vars) (0 : Int))).length = i := List.length_replicate
  rw [show n - i = (n - (i + 1)) + 1 by omega, List.replicate_succ, List.set_append_right _ _ (by omega), hl, Nat.sub_self, List.set_cons_zero, List.replicate_succ']
  simp
theorem zP_full (vars : Int) (n : Nat) : zP vars n n = List.replicate n (List.replicate (dn vars) 0) := by simp [zP]
def ctP (p vars : Int) (L : List (List Int)) (xs : List TN) (i : Nat) : List (List (Int × Int)) := (List.range i).map fun j => trm (colD p vars L xs j xs.length)
theorem ctP_succ (p vars : Int) (L : List (List Int)) (xs : List TN) (i : Nat) : ctP p vars L xs (i + 1) = ctP p vars L xs i ++ [trm (colD p vars L xs i xs.length)] := by unfold ctP; rw [List.range_succ, List.map_append]; rfl
theorem ctP_len (p vars : Int) (L : List (List Int)) (xs : List TN) (i : Nat) : (ctP p vars L xs i).length = i := by simp [ctP]
theorem oacl_append (A B : List (List (Int × Int))) : oacl (A ++ B) = oacl A ++ oacl B := by simp [oacl]
def ctB (p vars : Int) (L : List (List Int)) (xs : List TN) : Bool := aOk p vars L && (treeB vars L xs && decide (badI L xs (pthL xs) < 0))
def ctR (p vars : Int) (L : List (List Int)) (xs : List TN) : List (List (Int × Int)) := if ctB p vars L xs then ctP p vars L xs L.length else []
theorem ct_no {p vars : Int} {L : List (List Int)} {xs : List TN} (h : ctB p vars L xs = false) : ctR p vars L xs = [] := by unfold ctR; rw [h]; rfl
theorem ct_yes {p vars : Int} {L : List (List Int)} {xs : List TN} (h : ctB p vars L xs = true) : ctR p vars L xs = ctP p vars L xs L.length := by unfold ctR; rw [h]; rfl
theorem trm_le (D : List Int) : (trm D).length ≤ D.length := trm_len D
theorem ctP_tot (p vars : Int) (L : List (List Int)) (xs : List TN) {n : Nat} : ∀ i, i ≤ n → totA (ctP p vars L xs n) i ≤ i * dn vars
  | 0, _ => by simp [totA_zero]
  | i + 1, h => by
    have hi : i < (ctP p vars L xs n).length := by rw [ctP_len]; omega
    rw [totA_more hi, Nat.succ_mul]
    have h1 := ctP_tot p vars L xs i (by omega : i ≤ n)
    have h2 : nth (ctP p vars L xs n) i = trm (colD p vars L xs i xs.length) := by
      unfold nth ctP; rw [List.getElem?_map, List.getElem?_range (by omega)]; rfl
    have h3 := trm_le (colD p vars L xs i xs.length)
    rw [colD_len] at h3
    rw [h2]; omega
theorem ctR_tot {p vars : Int} {L : List (List Int)} {xs : List TN} : (ctR p vars L xs).length ≤ 60 ∧ totA (ctR p vars L xs) (ctR p vars L xs).length ≤ 3840 := by
  cases h : ctB p vars L xs with
  | false => rw [ct_no h]; simp [totA]
  | true =>
    rw [ct_yes h, ctP_len]
    unfold ctB at h
    simp only [Bool.and_eq_true] at h
    obtain ⟨h1, h2⟩ := aOk_spec h.1
    have h3 := (cnfB_spec h2).2.1
    have h4 := (dn_le (prime_spec h1).2).2
    have h5 := ctP_tot p vars L xs (n := L.length) L.length (Nat.le_refl _)
    have h6 := Nat.mul_le_mul h3 h4
    exact ⟨h3, by omega⟩
def mkTS (k : Int) (A : List (List (Int × Int))) : List (List (Int × Int)) := (List.range A.length).map fun i => mkT (k + 2 * (totA A i : Nat)) (nth A i).length
theorem mkTS_length (k : Int) (A : List (List (Int × Int))) : (mkTS k A).length = A.length := by simp [mkTS]
theorem mkTS_get {k : Int} {A : List (List (Int × Int))} {i : Nat} (h : i < A.length) : nth (mkTS k A) i = mkT (k + 2 * (totA A i : Nat)) (nth A i).length := by
  unfold mkTS; rw [nth, List.getElem?_map, List.getElem?_range h]; rfl
def mkTSP (k : Int) (A : List (List (Int × Int))) (i : Nat) : List (List (Int × Int)) := (mkTS k A).take i ++ A.drop i
theorem mkTSP_zero (k : Int) (A : List (List (Int × Int))) : mkTSP k A 0 = A := by simp [mkTSP]
theorem mkTSP_length {k : Int} {A : List (List (Int × Int))} {i : Nat} (h : i ≤ A.length) : (mkTSP k A i).length = A.length := by
  unfold mkTSP; rw [List.length_append, List.length_take, mkTS_length, List.length_drop]; omega
theorem mkTSP_full {k : Int} {A : List (List (Int × Int))} {i : Nat} (h : A.length ≤ i) : mkTSP k A i = mkTS k A := by
  unfold mkTSP; rw [List.take_of_length_le (by rw [mkTS_length]; exact h), List.drop_of_length_le h, List.append_nil]
theorem mkTSP_get {k : Int} {A : List (List (Int × Int))} {i : Nat} (h : i < A.length) : nth (mkTSP k A i) i = nth A i := by
  unfold mkTSP nth
  have h1 : ((mkTS k A).take i).length = i := by rw [List.length_take, mkTS_length]; omega
  rw [List.getElem?_append_right (by omega), h1, Nat.sub_self, List.getElem?_drop, Nat.add_zero]
theorem mkTSP_set {k : Int} {A : List (List (Int × Int))} {i : Nat} (h : i < A.length) : (mkTSP k A i).set i (mkT (k + 2 * (totA A i : Nat)) (nth A i).length) = mkTSP k A (i + 1) := by
  unfold mkTSP
  have h1 : ((mkTS k A).take i).length = i := by rw [List.length_take, mkTS_length]; omega
  rw [List.set_append_right _ _ (by omega), h1, Nat.sub_self, List.drop_eq_getElem_cons h, List.set_cons_zero]
  have h2 : i < (mkTS k A).length := by rw [mkTS_length]; exact h
  rw [List.take_succ_eq_append_getElem h2, List.append_assoc]
  congr 1
  have := mkTS_get (k := k) h
  unfold nth at this ⊢
  rw [List.getElem?_eq_getElem h2] at this
  simp only [Option.getD_some] at this
  rw [this]; rfl
theorem oacl_get {A : List (List (Int × Int))} {i : Nat} (h : i < A.length) : (oacl A)[i]? = some (.osl 2 (tcells (nth A i)) (nth A i).length none) := by
  unfold oacl; rw [List.getElem?_map, nth_get h]; rfl
theorem oacl_set (A : List (List (Int × Int))) (i : Nat) (c : List (Int × Int)) : (oacl A).set i (.osl 2 (tcells c) c.length none) = oacl (A.set i c) := by
  unfold oacl; rw [List.map_set]
theorem lenA_tot {A : List (List (Int × Int))} {i : Nat} : (nth A i).length ≤ totA A A.length := by
  rcases Nat.lt_or_ge i A.length with h | h
  · have h1 := totA_le A (i + 1)
    rw [totA_more h] at h1; omega
  · unfold nth; rw [List.getElem?_eq_none h]; simp
end Go.Av
namespace Go.Av
open Go Go.Proofs Go.Sort
theorem hb66 : hasBody Tryz.prog 66 = true := by kernel_rfl
theorem hb67 : hasBody Tryz.prog 67 = true := by kernel_rfl
theorem markTSS_c (A : List (List (Int × Int))) (k : Int) (h : -1000000000 ≤ k ∧ k ≤ 1000000000) (hL : A.length ≤ 1048576) (ht : totA A A.length ≤ 1048576) : ACall Tryz.prog 24 [.rsl (INH, []) 1 0 A.length none, .int .i64 k] [.osl 1 (oacl A) A.length none] (.int .i64 (k + 2 * (totA A A.length : Nat))) [.osl 1 (oacl (mkTS k A)) A.length none] := by
 refine ACall.intro Tryz.func24 rfl (N := 19) rfl (by decide) (by simp) ?_
 refine aq ?_
 refine ra (.int _ _) ?_
 refine r_nil ?_
 refine a_seq ?_
 refine aq ?_
 refine ra (.int _ _) ?_
 refine r_nil ?_
 refine a_block ?_
 refine a_loop (X := Nat) (fun i => look [(0, .rsl (INH, []) 1 0 A.length none), (1, .int .i64 (k + 2 * (totA A i : Nat))), (5, .int .i64 ((i : Nat) : Int)), (INH, .osl 1 (oacl (mkTSP k A i)) A.length none)]) (fun i => i ≤ A.length) (fun i => A.length - i) 0 (ent_look ⟨wr, Weak.of_eq (int_eq (by simp [totA_zero])), wr, Weak.of_eq (osl_eq (by rw [mkTSP_zero])), trivial⟩) (Nat.zero_le _) (fun i hG => ?_)
 have htl := totA_le A i
 have htl1 := totA_le A (i + 1)
 have hle := lenA_tot (A := A) (i := i)
 refine a_seq ?_
 refine aq ?_
 refine rm (.int _ _) ?_
 refine rm (.rsl _ _ _ _ _) ?_
 refine rv (v := .int _ _) (v_len_rsl sl41 il) ?_
 refine rv (v := .bool _) (v_lss il il) ?_
 refine r_nil ?_
 refine a_cond rfl (fun ht9 => ?_) (fun ht9 => ?_)
 ·
  refine a_skip ?_
  refine a_seq ?_
  refine a_block ?_
  have hi : i < A.length := (by simp at ht9; omega)
  have hil : i < (mkTSP k A i).length := (by rw [mkTSP_length (by omega)]; omega)
  have hz : (oacl (mkTSP k A i))[i]? = some (.osl 2 (tcells (nth A i)) (nth A i).length none) := (by rw [oacl_get hil, mkTSP_get hi])
  have hset : (oacl (mkTSP k A i)).set i (.osl 2 (tcells (mkT (k + 2 * (totA A i : Nat)) (nth A i).length)) (nth A i).length none) = oacl (mkTSP k A (i + 1)) := (by rw [← mkTSP_set hi, ← oacl_set, mkT_length])
  refine a_region ?_
  refine rm (.rsl _ _ _ _ _) ?_
  refine rm (.int _ _) ?_
  refine rv (v := .rp _ _) (v_indexAddr_rsl0 es41 il il (fun _ => by omega)) ?_
  refine rv (v := .rsl (INH, [i]) 2 0 (nth A i).length none) ((v_load_rp (c := .osl 2 (tcells (nth A i)) (nth A i).length none) ta72 il rfl (fun _ => by rw [Nat.mul_one]; exact hz)).cast (by show AV.rsl (INH, [] ++ [(i : Int).toNat * 1]) 2 0 (nth A i).length none = _; rw [Nat.mul_one]; rfl)) ?_
  refine rm (.int _ _) ?_
  refine r_step rfl (o_callIOa (q := (INH, [i])) (vs := [.rsl _ _ _ _ _, .int _ _]) (args := [.rsl (INH, []) 2 0 (nth A i).length none, .int .i64 _]) (x0 := .osl 2 (tcells (nth A i)) (nth A i).length none) (x1 := .osl 2 (tcells (mkT (k + 2 * (totA A i : Nat)) (nth A i).length)) (nth A i).length none) (res := .int _ _) rfl hb66 rfl (by decide) ⟨.inl rfl, .inl rfl, trivial⟩ (by show (match (oacl (mkTSP k A i))[i]? with | some y => node y [] | none => none) = _; rw [hz]; rfl) (by simp only [passL, passV, underP_self, snapV]) (markTermS_c (nth A i) _ (by omega)) rfl rfl rfl (tc_noSh _) (tc_noRef _) (Nat.le_of_ble_eq_true rfl) (by show 17 ≠ INH; decide) rfl) ?_
  refine r_pre (ent_eq (t := INH) (v' := .osl 1 (oacl (mkTSP k A (i + 1))) A.length none) (Weak.of_eq (by show setNode (AV.osl 1 (oacl (mkTSP k A i)) A.length none) [i] _ = _; simp only [setNode, kids, hz, setKids]; rw [hset]))) ?_
  refine ra (.int _ _) ?_
  refine r_nil ?_
  refine a_region ?_
  refine rm (.int _ _) ?_
  refine rv (v := .int _ _) (v_add il il (fun _ => by omega)) ?_
  refine ra (.int _ _) ?_
  refine r_nil ?_
  refine ⟨i + 1, ent_look ⟨wr, Weak.of_eq (int_eq (by rw [totA_more hi]; omega)), Weak.of_eq (int_eq (by omega)), wr, trivial⟩, by omega, by omega⟩
 ·
  refine a_exit ?_
  refine aq ?_
  refine rm (.int _ _) ?_
  refine ra (.int _ _) ?_
  refine r_nil ?_
  refine a_ret ?_
  refine ret1 Tryz.results24 (by decide) (by decide) (Weak.of_eq (int_eq ?_)) rfl (Leaves.one (Weak.of_eq (osl_eq (by simp at ht9; rw [mkTSP_full (by omega)]))) rfl)
  simp at ht9; rw [show i = A.length by omega]
theorem heldTSS_c (A : List (List (Int × Int))) (k : Int) (h : 0 ≤ k ∧ k ≤ 1000000000) (hL : A.length ≤ 1048576) (ht : totA A A.length ≤ 1048576) : ACall Tryz.prog 25 [.sl (acl (mkTS k A)) A.length, .int .i64 k] [] (.int .i64 (k + 2 * (totA A A.length : Nat))) [] := by
 refine ACall.intro Tryz.func25 rfl (N := 21) rfl (by decide) (by simp) ?_
 refine aq ?_
 refine ra (.int _ _) ?_
 refine r_nil ?_
 refine a_seq ?_
 refine aq ?_
 refine ra (.int _ _) ?_
 refine r_nil ?_
 refine a_block ?_
 refine a_loop (X := Nat) (fun i => look [(0, .sl (acl (mkTS k A)) A.length), (1, .int .i64 (k + 2 * (totA A i : Nat))), (5, .int .i64 ((i : Nat) : Int))]) (fun i => i ≤ A.length) (fun i => A.length - i) 0 (ent_look ⟨wr, Weak.of_eq (int_eq (by simp [totA_zero])), wr, trivial⟩) (Nat.zero_le _) (fun i hG => ?_)
 have htl := totA_le A i
 have htl1 := totA_le A (i + 1)
 have hle := lenA_tot (A := A) (i := i)
 refine a_seq ?_
 refine aq ?_
 refine rm (.int _ _) ?_
 refine rm (.sl _ _) ?_
 refine rv (v := .int _ _) (v_len_sl sl41 il) ?_
 refine rv (v := .bool _) (v_lss il il) ?_
 refine r_nil ?_
 refine a_cond rfl (fun ht9 => ?_) (fun ht9 => ?_)
 ·
  refine a_skip ?_
  refine a_seq ?_
  refine a_block ?_
  refine a_seq ?_
  have hi : i < A.length := (by simp at ht9; omega)
  have hil : i < (mkTS k A).length := (by rw [mkTS_length]; exact hi)
  have hgm := mkTS_get (k := k) hi
  refine a_region ?_
  refine rm (.sl _ _) ?_
  refine rm (.int _ _) ?_
  refine rv (v := .pp _ _) (v_indexAddr_sl es41 il il (fun _ => ⟨by omega, by omega, acl_ne hil⟩)) ?_
  refine rv (v := .sl (tcells (mkT (k + 2 * (totA A i : Nat)) (nth A i).length)) (nth A i).length) (v_load_pp ta72 il (fun _ => by rw [Nat.mul_one]; have := acl_get hil; rw [hgm, mkT_length] at this; exact this) rfl) ?_
  refine rm (.int _ _) ?_
  refine rn (v := .int _ _) (q_call (vs := [.sl _ _, .int _ _]) (args := [.sl _ _, .int .i64 _]) hb67 ⟨il, il, trivial⟩ rfl (fun hA => heldTermS_c (nth A i).length _ (by omega)) rfl rfl) ?_
  refine ra (.int _ _) ?_
  refine r_nil ?_
  refine aq ?_
  refine rm (.int _ _) ?_
  refine rv (v := .bool _) (v_lss il il) ?_
  refine r_nil ?_
  refine a_cond rfl (fun ht19 => ?_) (fun ht19 => ?_)
  ·
   refine aq ?_
   refine ra (.int _ _) ?_
   refine r_nil ?_
   refine a_ret ?_
   refine ret1 Tryz.results25 (by decide) (by decide) (Weak.of_eq (int_eq ?_)) rfl Leaves.nil
   exfalso; simp at ht19; omega
  ·
   refine a_skip ?_
   refine a_region ?_
   refine rm (.int _ _) ?_
   refine rv (v := .int _ _) (v_add il il (fun _ => by omega)) ?_
   refine ra (.int _ _) ?_
   refine r_nil ?_
   refine ⟨i + 1, ent_look ⟨wr, Weak.of_eq (int_eq (by rw [totA_more hi]; omega)), Weak.of_eq (int_eq (by omega)), trivial⟩, by omega, by omega⟩
 ·
  refine a_exit ?_
  refine aq ?_
  refine rm (.int _ _) ?_
  refine ra (.int _ _) ?_
  refine r_nil ?_
  refine a_ret ?_
  refine ret1 Tryz.results25 (by decide) (by decide) (Weak.of_eq (int_eq ?_)) rfl Leaves.nil
  simp at ht9; rw [show i = A.length by omega]
def mkC (k : Int) (cs : List AV) (m : Nat) : List AV := (List.range m).map (fun (i : Nat) => AV.int .i64 (k + (i : Int))) ++ cs.drop m
theorem mkC_zero (k : Int) (cs : List AV) : mkC k cs 0 = cs := by simp [mkC]
theorem mkC_length {k : Int} {cs : List AV} {m : Nat} (h : m ≤ cs.length) : (mkC k cs m).length = cs.length := by simp [mkC]; omega
theorem mkC_set {k : Int} {cs : List AV} {m : Nat} (h : m < cs.length) : (mkC k cs m).set m (.int .i64 (k + (m : Int))) = mkC k cs (m + 1) := by
 unfold mkC
 rw [List.set_append_right _ _ (by simp), List.length_map, List.length_range, Nat.sub_self, List.drop_eq_getElem_cons h, List.set_cons_zero, List.range_succ, List.map_append, List.append_assoc]
 rfl
theorem hb152 : hasBody Tryz.prog 152 = true := by kernel_rfl
theorem hb166 : hasBody Tryz.prog 166 = true := by kernel_rfl
theorem hb172 : hasBody Tryz.prog 172 = true := by kernel_rfl
theorem isNaNi_c (a : Int) : ACall Tryz.prog 163 [.int .i64 a] [] (.bool false) [] := by
 refine ACall.intro Tryz.func163 rfl (N := 6) rfl (by decide) (by simp) ?_
 refine aq ?_
 refine ra (.bool _) ?_
 refine r_nil ?_
 refine aq ?_
 refine rm (.int _ _) ?_
 refine rm (.int _ _) ?_
 refine rv (v := .bool _) (v_neq il il) ?_
 refine ra (.bool _) ?_
 refine r_nil ?_
 refine a_ret ?_
 refine ret1 Tryz.results163 (by decide) (by decide) (Weak.of_eq (bool_eq ?_)) rfl Leaves.nil
 simp
theorem lessi_c (a b : Int) : ACall Tryz.prog 172 [.int .i64 a, .int .i64 b] [] (.bool (decide (a < b))) [] := by
 refine ACall.intro Tryz.func172 rfl (N := 17) rfl (by decide) (by simp) ?_
 refine aq ?_
 refine ra (.bool _) ?_
 refine r_nil ?_
 refine aq ?_
 refine rm (.int _ _) ?_
 refine rn (v := .bool _) (q_call (vs := [.int _ _]) (args := [.int .i64 _]) hb163 ⟨il, trivial⟩ rfl (fun hA => isNaNi_c _) rfl rfl) ?_
 refine rm (.bool _) ?_
 refine rg (v := .int _ _) (v_move il nf) ?_
 refine r_guard (v := .bool _) (q_call (vs := [.int _ _]) (args := [.int .i64 _]) hb163 ⟨.inr ⟨_, rfl, fun h => h⟩, trivial⟩ rfl (fun hA => isNaNi_c _) rfl rfl) rfl rfl rfl (by decide) (.inl ⟨_, rfl, rfl⟩) rfl (by decide) ?_
 refine r_gval (v := .bool _) (v_not (.inr ⟨_, rfl, fun h => h⟩)) rfl rfl rfl (by decide) (.inl ⟨_, rfl, rfl⟩) rfl (by decide) ?_
 refine rv (v := .bool _) (v_pick (.inl rfl) (.inr ⟨_, rfl, fun h h2 => by simp_all⟩) (.inl rfl)) ?_
 refine rm (.bool _) ?_
 refine rg (v := .int _ _) (v_move il nf) ?_
 refine rg (v := .int _ _) (v_move il nf) ?_
 refine r_gval (v := .bool _) (v_lss (.inr ⟨_, rfl, fun h => h⟩) (.inr ⟨_, rfl, fun h => h⟩)) rfl rfl rfl (by decide) (.inl ⟨_, rfl, rfl⟩) rfl (by decide) ?_
 refine rv (v := .bool _) (v_pick (.inl rfl) (.inl rfl) (.inr ⟨_, rfl, fun h h2 => by simp_all⟩)) ?_
 refine ra (.bool _) ?_
 refine r_nil ?_
 refine a_ret ?_
 refine ret1 Tryz.results172 (by decide) (by decide) (Weak.of_eq (bool_eq ?_)) rfl Leaves.nil
 simp
theorem insertO_c (d : Array Int) (n a b : Nat) (hd : d.size = n) (hab : a ≤ b ∧ b ≤ n) (hn : n ≤ 4611686018427387904) : ACall Tryz.prog 166 [.rsl (INH, []) 1 0 n none, .int .i64 ((a : Nat) : Int), .int .i64 ((b : Nat) : Int)] [.osl 1 (acells d) n none] (.tup []) [.osl 1 (acells (insertionSort (fun x y : Int => decide (x < y)) d a b)) n none] := by
 refine ACall.intro Tryz.func166 rfl (N := 49) rfl (by decide) (by simp) ?_
 refine aq ?_
 refine rm (.int _ _) ?_
 refine rv (v := .int _ _) (v_add il il (fun _ => by omega)) ?_
 refine ra (.int _ _) ?_
 refine r_nil ?_
 refine a_block ?_
 refine a_loop (X := (Nat × Array Int)) (fun x => look [(0, .rsl (INH, []) 1 0 n none), (1, .int .i64 ((a : Nat) : Int)), (2, .int .i64 ((b : Nat) : Int)), (6, .int .i64 ((x.1 : Nat) : Int)), (INH, .osl 1 (acells x.2) n none)]) (fun x => a + 1 ≤ x.1 ∧ x.2.size = n ∧ insOuter (fun x y : Int => decide (x < y)) a b x.1 x.2 = insertionSort (fun x y : Int => decide (x < y)) d a b) (fun x => b - x.1) (a + 1, d) (ent_look ⟨wr, wr, wr, Weak.of_eq (int_eq (by omega)), wr, trivial⟩) ⟨Nat.le_refl _, hd, rfl⟩ (fun x hG => ?_)
 obtain ⟨g1, g2, g3⟩ := hG
 refine a_seq ?_
 refine aq ?_
 refine rm (.int _ _) ?_
 refine rm (.int _ _) ?_
 refine rv (v := .bool _) (v_lss il il) ?_
 refine r_nil ?_
 refine a_cond rfl (fun ht12 => ?_) (fun ht12 => ?_)
 ·
  refine a_skip ?_
  refine a_seq ?_
  refine a_block ?_
  refine a_seq ?_
  have hxb : x.1 < b := (by simpa using ht12)
  refine a_region ?_
  refine rm (.int _ _) ?_
  refine ra (.int _ _) ?_
  refine r_nil ?_
  refine a_block ?_
  refine a_loop (X := (Nat × Array Int)) (fun y => look [(0, .rsl (INH, []) 1 0 n none), (1, .int .i64 ((a : Nat) : Int)), (2, .int .i64 ((b : Nat) : Int)), (6, .int .i64 ((x.1 : Nat) : Int)), (7, .int .i64 ((y.1 : Nat) : Int)), (INH, .osl 1 (acells y.2) n none)]) (fun y => a ≤ y.1 ∧ y.1 ≤ x.1 ∧ y.2.size = n ∧ insInner (fun x y : Int => decide (x < y)) a y.1 y.2 = insInner (fun x y : Int => decide (x < y)) a x.1 x.2) (fun y => y.1) (x.1, x.2) (ent_look ⟨wr, wr, wr, wr, wr, wr, trivial⟩) ⟨by omega, Nat.le_refl _, g2, rfl⟩ (fun y hG => ?_)
  obtain ⟨k1, k2, k3, k4⟩ := hG
  refine a_seq ?_
  refine a_seq ?_
  refine a_region_any mixed (by kernel_rfl) ?_
  refine yv (v := .int _ _) (v_move il nf) ?_
  refine yv (v := .int _ _) (v_move il nf) ?_
  refine yv (v := .bool _) (v_gtr il il) ?_
  refine yv (v := .bool _) (v_move il nf) ?_
  refine yh (v := .rsl _ _ _ _ _) (v_move il nf).quiet ?_
  refine yh (v := .int _ _) (v_move il nf).quiet ?_
  refine yg (v := .rp _ _) (v_indexAddr_rsl0 es25 (.inr ⟨_, rfl, fun h => h⟩) (.inr ⟨_, rfl, fun h => h⟩) (fun hA => by simp at hA; omega)).quiet rfl rfl rfl (by decide) (.inl ⟨_, rfl, rfl⟩) ?_
  refine yg (v := .int .i64 y.2[y.1]!) (v_load_rp1 ta3 (.inr ⟨_, rfl, fun h => h⟩) rfl (fun hA => by simp at hA; rw [Nat.mul_one]; exact acells_get (by omega)) rfl).quiet rfl rfl rfl (by decide) (.inl ⟨_, rfl, rfl⟩) ?_
  refine yh (v := .rsl _ _ _ _ _) (v_move il nf).quiet ?_
  refine yh (v := .int _ _) (v_move il nf).quiet ?_
  refine yg (v := .int _ _) (v_sub (.inr ⟨_, rfl, fun h => h⟩) il (fun hA => by simp at hA; omega)).quiet rfl rfl rfl (by decide) (.inl ⟨_, rfl, rfl⟩) ?_
  refine yg (v := .rp _ _) (v_indexAddr_rsl0 es25 (.inr ⟨_, rfl, fun h => h⟩) (.inr ⟨_, rfl, fun h => h⟩) (fun hA => by simp at hA; omega)).quiet rfl rfl rfl (by decide) (.inl ⟨_, rfl, rfl⟩) ?_
  refine yg (v := .int .i64 y.2[y.1 - 1]!) (v_load_rp1 ta3 (.inr ⟨_, rfl, fun h => h⟩) rfl (fun hA => by simp at hA; rw [show ((y.1 : Int) - 1).toNat = y.1 - 1 by omega, Nat.mul_one]; exact acells_get (by omega)) rfl).quiet rfl rfl rfl (by decide) (.inl ⟨_, rfl, rfl⟩) ?_
  refine yg (v := .bool _) (q_call (vs := [.int _ _, .int _ _]) (args := [.int .i64 _, .int .i64 _]) hb172 ⟨.inr ⟨_, rfl, fun h => h⟩, .inr ⟨_, rfl, fun h => h⟩, trivial⟩ rfl (fun hA => lessi_c _ _) rfl rfl) rfl rfl rfl (by decide) (.inl ⟨_, rfl, rfl⟩) ?_
  refine yv (v := .bool _) (v_pick (.inl rfl) (.inr ⟨_, rfl, fun h h2 => by simp_all⟩) (.inl rfl)) ?_
  refine y_nil ?_
  refine a_cond rfl (fun ht30 => ?_) (fun ht30 => ?_)
  ·
   refine a_skip ?_
   refine a_seq ?_
   refine a_block ?_
   have hjl : a < y.1 ∧ (fun x y : Int => decide (x < y)) y.2[y.1]! y.2[y.1 - 1]! = true := (by simpa using ht30)
   obtain ⟨hj, hl⟩ := hjl
   have hp1 : y.1 * 1 + 1 ≤ (acells y.2).length := (by rw [acells_length]; omega)
   have hp2 : (y.1 - 1) * 1 + 1 ≤ ((acells y.2).set (y.1 * 1) (.int .i64 y.2[(y.1 - 1)]!)).length := (by rw [List.length_set, acells_length]; omega)
   have hset : ((acells y.2).set (y.1 * 1) (.int .i64 y.2[(y.1 - 1)]!)).set ((y.1 - 1) * 1) (.int .i64 y.2[y.1]!) = acells (swp y.2 y.1 (y.1 - 1)) := (by rw [Nat.mul_one, Nat.mul_one]; exact acells_swp _ _ _)
   refine a_region_w [(33, true), (34, true), (35, true), (36, true), (37, true), (38, true), (39, true), (40, true), (41, true), (42, true), (43, true), (44, true), (45, true), (46, true), (47, true), (INH, false), (48, true), (INH, false)] mixed (by kernel_rfl) ?_
   refine wv (v := .rsl _ _ _ _ _) (v_move il nf) ?_
   refine wv (v := .int _ _) (v_move il nf) ?_
   refine wv (v := .rsl _ _ _ _ _) (v_move il nf) ?_
   refine wv (v := .int _ _) (v_move il nf) ?_
   refine wv (v := .int .i64 ((y.1 - 1 : Nat) : Int)) ((v_sub il il (fun _ => by omega)).cast (int_eq (by omega))) ?_
   refine wv (v := .rsl _ _ _ _ _) (v_move il nf) ?_
   refine wv (v := .int _ _) (v_move il nf) ?_
   refine wv (v := .int .i64 ((y.1 - 1 : Nat) : Int)) ((v_sub il il (fun _ => by omega)).cast (int_eq (by omega))) ?_
   refine wv (v := .rp _ _) (v_indexAddr_rsl0 es25 il il (fun _ => by omega)) ?_
   refine wv (v := .int .i64 y.2[y.1 - 1]!) (v_load_rp1 ta3 il rfl (fun _ => by rw [Nat.mul_one]; exact acells_get (by omega)) rfl) ?_
   refine wv (v := .rsl _ _ _ _ _) (v_move il nf) ?_
   refine wv (v := .int _ _) (v_move il nf) ?_
   refine wv (v := .rp _ _) (v_indexAddr_rsl0 es25 il il (fun _ => by omega)) ?_
   refine wv (v := .int .i64 y.2[y.1]!) (v_load_rp1 ta3 il rfl (fun _ => by rw [Nat.mul_one]; exact acells_get (by omega)) rfl) ?_
   refine wv (v := .rp _ _) (v_indexAddr_rsl0 es25 il il (fun _ => by omega)) ?_
   refine w_store (v := .int _ _) (y' := .osl _ _ _ _) rfl rfl rfl ta3 (.inl rfl) (.inl rfl) rfl rfl rfl rfl rfl rfl hp1 (by decide) rfl rfl rfl (by kernel_rfl) ?_
   refine wv (v := .rp _ _) (v_indexAddr_rsl0 es25 il il (fun _ => by omega)) ?_
   refine w_store (v := .int _ _) (y' := .osl _ _ _ _) rfl rfl rfl ta3 (.inl rfl) (.inl rfl) rfl rfl rfl rfl rfl rfl hp2 (by decide) rfl (congrArg (fun c => AV.osl 1 c n none) hset) rfl (by kernel_rfl) ?_
   refine w_nil ?_
   refine a_pre (ent_look (L := [(0, .rsl _ _ _ _ _), (1, .int _ _), (2, .int _ _), (6, .int _ _), (7, .int _ _), (INH, .osl _ _ _ _)]) ⟨wr, wr, wr, wr, wr, wr, trivial⟩) ?_
   refine a_region ?_
   refine rm (.int _ _) ?_
   refine rv (v := .int _ _) (v_sub il il (fun _ => by omega)) ?_
   refine ra (.int _ _) ?_
   refine r_nil ?_
   refine ⟨(y.1 - 1, swp y.2 y.1 (y.1 - 1)), ent_look ⟨wr, wr, wr, wr, Weak.of_eq (int_eq (by omega)), wr, trivial⟩, ⟨by omega, by omega, by rw [swp_size]; exact k3, by rw [← k4, insInner_more hj hl]⟩, by omega⟩
  ·
   refine a_exit ?_
   have hdone : insInner (fun x y : Int => decide (x < y)) a y.1 y.2 = y.2 := insInner_stop (by simpa using ht30)
   refine a_region ?_
   refine rm (.int _ _) ?_
   refine rv (v := .int _ _) (v_add il il (fun _ => by omega)) ?_
   refine ra (.int _ _) ?_
   refine r_nil ?_
   refine ⟨(x.1 + 1, y.2), ent_look ⟨wr, wr, wr, Weak.of_eq (int_eq (by omega)), wr, trivial⟩, ⟨by omega, k3, by rw [← g3, insOuter.eq_1 _ _ _ x.1, if_pos hxb, ← k4, hdone]⟩, by omega⟩
 ·
  refine a_exit ?_
  refine ret0_look Tryz.results166 (by decide) ?_ rfl
  exact Weak.of_eq (osl_eq (by rw [← g3, insOuter.eq_1 _ _ _ x.1, if_neg (by simpa using ht12)]))
theorem pdqO_c (d : Array Int) (n : Nat) (lim : Int) (hd : d.size = n) (hn : n ≤ 12) : ACall Tryz.prog 152 [.rsl (INH, []) 1 0 n none, .int .i64 ((0 : Nat) : Int), .int .i64 ((n : Nat) : Int), .int .i64 lim] [.osl 1 (acells d) n none] (.tup []) [.osl 1 (acells (insertionSort (fun x y : Int => decide (x < y)) d 0 n)) n none] := by
 refine ACall.intro Tryz.func152 rfl (N := 134) rfl (by decide) (by simp) ?_
 refine aq ?_
 refine ra (.bool _) ?_
 refine r_nil ?_
 refine aq ?_
 refine ra (.bool _) ?_
 refine r_nil ?_
 refine a_block ?_
 refine a_loop (X := Unit) (fun _u => look [(0, .rsl (INH, []) 1 0 n none), (1, .int .i64 ((0 : Nat) : Int)), (2, .int .i64 ((n : Nat) : Int)), (3, .int .i64 lim), (8, .bool true), (9, .bool true), (INH, .osl 1 (acells d) n none)]) (fun _u => True) (fun _u => 0) () (ent_look ⟨wr, wr, wr, wr, wr, wr, wr, trivial⟩) trivial (fun _u hG => ?_)
 refine a_block ?_
 refine aq ?_
 refine rm (.int _ _) ?_
 refine rm (.int _ _) ?_
 refine rv (v := .int _ _) (v_sub il il (fun _ => by omega)) ?_
 refine ra (.int _ _) ?_
 refine r_nil ?_
 refine a_seq ?_
 refine aq ?_
 refine rm (.int _ _) ?_
 refine rv (v := .bool _) (v_leq il il) ?_
 refine r_nil ?_
 refine a_cond rfl (fun ht23 => ?_) (fun ht23 => ?_)
 ·
  refine aq ?_
  refine rm (.rsl _ _ _ _ _) ?_
  refine rm (.int _ _) ?_
  refine rm (.int _ _) ?_
  refine r_step rfl (o_callIO (q := (INH, [])) (vs := [.rsl _ _ _ _ _, .int _ _, .int _ _]) (args := [.rsl (INH, []) _ _ _ _, .int .i64 _, .int .i64 _]) (x0 := .osl _ _ _ _) (x1 := .osl _ _ _ _) (res := .tup []) rfl hb166 rfl (by decide) ⟨.inl rfl, .inl rfl, .inl rfl, trivial⟩ rfl rfl (insertO_c d n 0 n hd (by omega) (by omega)) rfl rfl rfl (ac_noSh _) (ac_noRef _) (Nat.le_of_ble_eq_true rfl) (by decide) rfl) ?_
  refine r_nil ?_
  refine a_ret ?_
  refine ret0_look Tryz.results152 (by decide) ?_ rfl
  exact wr
 ·
  refine a_skip ?_
  refine a_seq ?_
  refine a_seq ?_
  exfalso
  simp at ht23; omega
theorem sortO_c (d : Array Int) (n : Nat) (hd : d.size = n) (hn : n ≤ 12) : ACall Tryz.prog 138 [.rsl (INH, []) 1 0 n none] [.osl 1 (acells d) n none] (.tup []) [.osl 1 (acells (insertionSort (fun x y : Int => decide (x < y)) d 0 n)) n none] := by
 have hbl : bitsLen n ≤ 61 := (bitsLen_le_iff _ _).2 (by omega)
 refine ACall.intro Tryz.func138 rfl (N := 11) rfl (by decide) (by simp) ?_
 refine aq ?_
 refine rm (.rsl _ _ _ _ _) ?_
 refine rv (v := .int _ _) (v_len_rsl sl25 il) ?_
 refine ra (.int _ _) ?_
 refine r_nil ?_
 refine a_region ?_
 refine rm (.rsl _ _ _ _ _) ?_
 refine rm (.int _ _) ?_
 refine rm (.int _ _) ?_
 refine rv (v := .int .u64 ((n : Nat) : Int)) ((v_conv iss3 uni146 il (fun _ => IntWalk.u64_in _ (by omega))).cast (int_eq rfl)) ?_
 refine rn (v := .int _ _) (q_call (vs := [.int _ _]) (args := [.int .u64 ((_ : Nat) : Int)]) hb142 ⟨il, trivial⟩ rfl (fun hA => len_c n (by omega)) rfl rfl) ?_
 refine r_step rfl (o_callIO (q := (INH, [])) (vs := [.rsl _ _ _ _ _, .int _ _, .int _ _, .int _ _]) (args := [.rsl (INH, []) _ _ _ _, .int .i64 _, .int .i64 _, .int .i64 _]) (x0 := .osl _ _ _ _) (x1 := .osl _ _ _ _) (res := .tup []) rfl hb152 rfl (by decide) ⟨.inl rfl, .inl rfl, .inl rfl, .inl rfl, trivial⟩ rfl rfl (pdqO_c d n _ hd hn) rfl rfl rfl (ac_noSh _) (ac_noRef _) (Nat.le_of_ble_eq_true rfl) (by decide) rfl) ?_
 refine r_nil ?_
 refine ret0_look Tryz.results138 (by decide) ?_ rfl
 exact wr
theorem hb138 : hasBody Tryz.prog 138 = true := by kernel_rfl
theorem absI_c (x : Int) (h : -4611686018427387904 ≤ x ∧ x ≤ 4611686018427387904) : ACall Tryz.prog 119 [.int .i64 x] [] (.int .i64 (max x (-x))) [] := by
 refine ACall.intro Tryz.func119 rfl (N := 7) rfl (by decide) (by simp) ?_
 refine aq ?_
 refine ra (.int _ _) ?_
 refine r_nil ?_
 refine aq ?_
 refine rm (.int _ _) ?_
 refine rm (.int _ _) ?_
 refine rv (v := .int _ _) (v_neg il (fun _ => by omega)) ?_
 refine rv (v := .int _ _) (v_max il il) ?_
 refine ra (.int _ _) ?_
 refine r_nil ?_
 refine a_ret ?_
 refine ret1 Tryz.results119 (by decide) (by decide) (Weak.of_eq (int_eq ?_)) rfl Leaves.nil
 rfl
theorem varsOf1_c (p : List Int) (hp : p.length ≤ 12) (hs : SmI p) : ACall Tryz.prog 108 [.sl [.sl (icells p) p.length] 1] [] (.osl 1 (icells (dedN (insertionSort (fun x y : Int => decide (x < y)) (p.map fun x => max x (-x)).toArray 0 (p.map fun x => max x (-x)).length) (p.map fun x => max x (-x)).length)) (dedN (insertionSort (fun x y : Int => decide (x < y)) (p.map fun x => max x (-x)).toArray 0 (p.map fun x => max x (-x)).length) (p.map fun x => max x (-x)).length).length none) [] := by
 refine ACall.intro Tryz.func108 rfl (N := 31) rfl (by decide) (by simp) ?_
 refine aq ?_
 refine ra .nils ?_
 refine r_nil ?_
 refine aq ?_
 refine ra .nils ?_
 refine r_nil ?_
 refine a_seq ?_
 refine aq ?_
 refine rm (.sl _ _) ?_
 refine rv (v := .int _ _) (v_len_sl sl22 il) ?_
 refine rm (.int _ _) ?_
 refine r_nil ?_
 refine a_block ?_
 refine a_pre (ent_nil (t := 3) (sz := 1) (cap := none) (.inl rfl) (fun _ h => by cases h)) ?_
 refine a_loop (X := Nat) (fun q => look [(3, .osl 1 (icells ((p.take (q * p.length)).map fun x => max x (-x))) ((p.take (q * p.length)).map fun x => max x (-x)).length none), (8, .sl [.sl (icells p) p.length] 1), (9, .int .i64 ((1 : Nat) : Int)), (10, .int .i64 ((q : Nat) : Int))]) (fun q => q ≤ 1) (fun q => 1 - q) 0 (ent_look ⟨Weak.osl (by simp [icells]) (by simp), wr, wr, wr, trivial⟩) (by omega) (fun q hG => ?_)
 refine aq ?_
 refine rv (v := .bool _) (v_lss il il) ?_
 refine r_nil ?_
 refine a_seq ?_
 refine a_cond rfl (fun ht11 => ?_) (fun ht11 => ?_)
 ·
  refine a_skip ?_
  refine a_seq ?_
  refine a_block ?_
  refine a_seq ?_
  have hq0 : q = 0 := (by simp at ht11; omega)
  refine a_region ?_
  refine rv (v := .pp _ _) (v_indexAddr_sl es22 il il (fun _ => ⟨by omega, by omega, by simp⟩)) ?_
  refine rv (v := .sl (icells p) p.length) (v_load_pp ta25 il (fun _ => by rw [hq0]; rfl) rfl) ?_
  refine ra (.sl _ _) ?_
  refine r_nil ?_
  refine aq ?_
  refine rm (.sl _ _) ?_
  refine rv (v := .int _ _) (v_len_sl sl25 il) ?_
  refine rm (.int _ _) ?_
  refine r_nil ?_
  refine a_block ?_
  refine a_loop (X := Nat) (fun i => look [(3, .osl 1 (icells ((p.take i).map fun x => max x (-x))) ((p.take i).map fun x => max x (-x)).length none), (8, .sl [.sl (icells p) p.length] 1), (9, .int .i64 ((1 : Nat) : Int)), (10, .int .i64 ((q : Nat) : Int)), (14, .sl (icells p) p.length), (15, .int .i64 ((p.length : Nat) : Int)), (16, .int .i64 ((i : Nat) : Int))]) (fun i => i ≤ p.length) (fun i => p.length - i) 0 (ent_look ⟨Weak.osl (by rw [hq0, Nat.zero_mul]) (by rw [hq0, Nat.zero_mul]), wr, wr, wr, wr, wr, wr, trivial⟩) (Nat.zero_le _) (fun i hG => ?_)
  refine aq ?_
  refine rv (v := .bool _) (v_lss il il) ?_
  refine r_nil ?_
  refine a_seq ?_
  refine a_cond rfl (fun ht17 => ?_) (fun ht17 => ?_)
  ·
   refine a_skip ?_
   refine a_seq ?_
   refine a_block ?_
   refine a_seq ?_
   have hi : i < p.length := (by simp at ht17; omega)
   have hti : p.take (i + 1) = p.take i ++ [gd p i] := (by unfold gd; rw [List.take_succ_eq_append_getElem hi, List.getElem?_eq_getElem hi]; rfl)
   have hsx := hs i
   refine a_region ?_
   refine rv (v := .pp _ _) (v_indexAddr_sl es25 il il (fun _ => ⟨by omega, by omega, icells_ne hi⟩)) ?_
   refine rv (v := .int .i64 (gd p i)) (v_load_pp ta3 il (fun _ => by rw [Nat.mul_one]; exact icells_get (gd_get hi)) rfl) ?_
   refine ra (.int _ _) ?_
   refine r_nil ?_
   refine a_region ?_
   refine rm (.rsl _ _ _ _ _) ?_
   refine rm (.int _ _) ?_
   refine rn (v := .int _ _) (q_call (vs := [.int _ _]) (args := [.int .i64 _]) hb119 ⟨il, trivial⟩ rfl (fun hA => absI_c _ (by omega)) rfl rfl) ?_
   refine rn (v := .osl _ _ _ _) (q_sliceLit (n := 1) (parts := [(0, .tmp 22)]) lt25 rfl rfl rfl rfl) ?_
   refine r_pre (ent_reloc_sl (t := 20) rfl rfl) ?_
   refine r_step rfl (o_append rfl ap25 rfl (by decide) (by decide) rfl (src_lit (.inl rfl) rfl rfl rfl) rfl (by simp [icells_length]) (by simp; omega)) ?_
   refine ra (.rsl _ _ _ _ _) ?_
   refine r_pre (ent_reloc_sl (t := 3) rfl rfl) ?_
   refine r_nil ?_
   refine a_region ?_
   refine rv (v := .int _ _) (v_add il il (fun _ => by omega)) ?_
   refine rm (.int _ _) ?_
   refine r_nil ?_
   refine ⟨i + 1, ent_look ⟨Weak.osl (by rw [hti, List.map_append, icells_append]; rfl) (by rw [hti, List.map_append, List.length_append]; rfl), wr, wr, wr, wr, wr, Weak.of_eq (int_eq (by omega)), trivial⟩, (by omega), by omega⟩
  ·
   refine a_exit ?_
   refine a_region ?_
   refine rv (v := .int _ _) (v_add il il (fun _ => by omega)) ?_
   refine rm (.int _ _) ?_
   refine r_nil ?_
   refine ⟨q + 1, ent_look ⟨Weak.osl (by rw [show i = p.length by simp at ht17; omega, hq0, Nat.zero_add, Nat.one_mul]) (by rw [show i = p.length by simp at ht17; omega, hq0, Nat.zero_add, Nat.one_mul]), wr, wr, Weak.of_eq (int_eq (by omega)), trivial⟩, (by omega), by omega⟩
 ·
  refine a_exit ?_
  refine a_seq ?_
  have hq1 : q = 1 := (by simp at ht11; omega)
  refine a_pre (ent_eq (t := 3) (v' := .osl 1 (acells (p.map fun x => max x (-x)).toArray) (p.map fun x => max x (-x)).length none) (Weak.osl (by rw [hq1, Nat.one_mul, List.take_of_length_le (Nat.le_refl _)]; rfl) (by rw [hq1, Nat.one_mul, List.take_of_length_le (Nat.le_refl _)]))) ?_
  refine a_region ?_
  refine rm (.rsl _ _ _ _ _) ?_
  refine r_step rfl (o_callIO (q := (3, [])) (vs := [.rsl _ _ _ _ _]) (args := [.rsl (INH, []) _ _ _ _]) (x0 := .osl _ _ _ _) (x1 := .osl _ _ _ _) (res := .tup []) rfl hb138 rfl (by decide) ⟨.inl rfl, trivial⟩ rfl rfl (sortO_c (p.map fun x => max x (-x)).toArray (p.map fun x => max x (-x)).length (by simp) (by simp; omega)) rfl rfl rfl (ac_noSh _) (ac_noRef _) (Nat.le_of_ble_eq_true rfl) (by decide) rfl) ?_
  refine r_nil ?_
  refine aq ?_
  refine rm (.rsl _ _ _ _ _) ?_
  refine r_step rfl (o_callIO (q := (3, [])) (vs := [.rsl _ _ _ _ _]) (args := [.rsl (INH, []) _ _ _ _]) (x0 := .osl _ _ _ _) (x1 := .undef) (res := .osl _ _ _ _) rfl hb139 rfl (by decide) ⟨.inl rfl, trivial⟩ rfl rfl (compact_c (insertionSort (fun x y : Int => decide (x < y)) (p.map fun x => max x (-x)).toArray 0 (p.map fun x => max x (-x)).length) (p.map fun x => max x (-x)).length (by rw [insertionSort_size]; simp) (by simp; omega)) rfl (ic_noSh _) (ic_noRef _) rfl rfl (Nat.le_of_ble_eq_true rfl) (by decide) rfl) ?_
  refine ra (.rsl _ _ _ _ _) ?_
  refine r_pre (ent_reloc_sl (t := 2) rfl rfl) ?_
  refine r_nil ?_
  refine a_ret ?_
  refine ret1 Tryz.results108 (by decide) (by decide) (Weak.osl ?_ ?_) rfl Leaves.nil
  all_goals rfl
theorem idx_mem (xs : List Int) (v : Int) : decide (fidx (fun i => decide (v = gd xs i)) xs.length ≥ 0) = decide (v ∈ xs) := by
  rw [show decide (fidx (fun i => decide (v = gd xs i)) xs.length ≥ 0) = decide (0 ≤ fidx (fun i => decide (v = gd xs i)) xs.length) from rfl, fidx_any, Bool.eq_iff_iff, decide_eq_true_iff]
  constructor
  · intro h
    obtain ⟨i, hi, hx⟩ := List.any_eq_true.1 h
    rw [of_decide_eq_true hx]; exact gd_mem (by simpa using hi)
  · intro h
    obtain ⟨j, hj, hx⟩ := mem_gd h
    exact List.any_eq_true.2 ⟨j, by simpa using hj, by simp [hx]⟩
theorem hb109 : hasBody Tryz.prog 109 = true := by kernel_rfl
theorem hb50 : hasBody Tryz.prog 50 = true := by kernel_rfl
theorem hb59 : hasBody Tryz.prog 59 = true := by kernel_rfl
theorem index_c (xs : List Int) (v : Int) (hl : xs.length ≤ 1048576) : ACall Tryz.prog 109 [.sl (icells xs) xs.length, .int .i64 v] [] (.int .i64 (fidx (fun i => decide (v = gd xs i)) xs.length)) [] := by
  refine ACall.intro Tryz.func109 rfl (N := 19) rfl (by decide) (by simp) ?_
  refine aq ?_
  refine ra (.int _ _) ?_
  refine r_nil ?_
  refine a_seq ?_
  refine aq ?_
  refine rm (.sl _ _) ?_
  refine rv (v := .int _ _) (v_len_sl sl25 il) ?_
  refine rm (.int _ _) ?_
  refine r_nil ?_
  refine a_block ?_
  refine a_loop (X := Nat) (fun i => look [(0, .sl (icells xs) xs.length), (1, .int .i64 v), (7, .int .i64 ((xs.length : Nat) : Int)), (8, .int .i64 ((i : Nat) : Int))]) (fun i => i ≤ xs.length ∧ ∀ j, j < i → decide (v = gd xs j) = false) (fun i => xs.length - i) 0 (ent_look ⟨wr, wr, wr, wr, trivial⟩) ⟨Nat.zero_le _, fun j h => by omega⟩ (fun i hG => ?_)
  obtain ⟨h1, h2⟩ := hG
  refine aq ?_
  refine rv (v := .bool _) (v_lss il il) ?_
  refine r_nil ?_
  refine a_seq ?_
  refine a_cond rfl (fun ht9 => ?_) (fun ht9 => ?_)
  ·
    refine a_skip ?_
    refine a_seq ?_
    refine a_block ?_
    refine a_seq ?_
    have hi : i < xs.length := (by simp at ht9; omega)
    refine a_region ?_
    refine rm (.int _ _) ?_
    refine ra (.int _ _) ?_
    refine r_nil ?_
    refine aq ?_
    refine rm (.int _ _) ?_
    refine rm (.sl _ _) ?_
    refine rm (.int _ _) ?_
    refine rv (v := .pp _ _) (v_indexAddr_sl es25 il il (fun _ => ⟨by omega, by omega, icells_ne hi⟩)) ?_
    refine rv (v := .int .i64 (gd xs i)) (v_load_pp ta3 il (fun _ => by rw [Nat.mul_one]; exact icells_get (gd_get hi)) rfl) ?_
    refine rv (v := .bool _) (v_eql il il) ?_
    refine r_nil ?_
    refine a_cond rfl (fun ht16 => ?_) (fun ht16 => ?_)
    ·
      refine aq ?_
      refine rm (.int _ _) ?_
      refine ra (.int _ _) ?_
      refine r_nil ?_
      refine a_ret ?_
      refine ret1 Tryz.results109 (by decide) (by decide) (Weak.of_eq (int_eq ?_)) rfl Leaves.nil
      exact (fidx_found (p := fun j => decide (v = gd xs j)) hi (by simpa using ht16) h2).symm
    ·
      refine a_skip ?_
      refine a_region ?_
      refine rv (v := .int _ _) (v_add il il (fun _ => by omega)) ?_
      refine rm (.int _ _) ?_
      refine r_nil ?_
      refine ⟨i + 1, ent_look ⟨wr, wr, wr, Weak.of_eq (int_eq (by omega)), trivial⟩, ⟨by omega, ok_stepF (p := fun j => decide (v = gd xs j)) h2 (by simpa using ht16)⟩, by omega⟩
  ·
    refine a_exit ?_
    refine aq ?_
    refine ra (.int _ _) ?_
    refine r_nil ?_
    refine a_ret ?_
    refine ret1 Tryz.results109 (by decide) (by decide) (Weak.of_eq (int_eq ?_)) rfl Leaves.nil
    simp at ht9; exact (fidx_none (p := fun j => decide (v = gd xs j)) (fun j hj => h2 j (by omega))).symm
theorem contains_c (xs : List Int) (v : Int) (hl : xs.length ≤ 1048576) : ACall Tryz.prog 59 [.sl (icells xs) xs.length, .int .i64 v] [] (.bool (decide (v ∈ xs))) [] := by
  refine ACall.intro Tryz.func59 rfl (N := 9) rfl (by decide) (by simp) ?_
  refine aq ?_
  refine ra (.bool _) ?_
  refine r_nil ?_
  refine aq ?_
  refine rm (.sl _ _) ?_
  refine rm (.int _ _) ?_
  refine rn (v := .int _ _) (q_call (vs := [.sl _ _, .int _ _]) (args := [.sl _ _, .int .i64 _]) hb109 ⟨il, il, trivial⟩ rfl (fun hA => index_c xs v hl) rfl rfl) ?_
  refine rv (v := .bool _) (v_geq il il) ?_
  refine ra (.bool _) ?_
  refine r_nil ?_
  refine a_ret ?_
  refine ret1 Tryz.results59 (by decide) (by decide) (Weak.of_eq (bool_eq ?_)) rfl Leaves.nil
  exact idx_mem xs v
theorem iClv_c (c a : List Int) (hs : SmI c) (hc : c.length ≤ 1048576) (ha : a.length ≤ 1048576) : ACall Tryz.prog 86 [.sl (icells c) c.length, .sl (icells a) a.length] [] (.int .i64 (cval c a)) [] := by
  refine ACall.intro Tryz.func86 rfl (N := 26) rfl (by decide) (by simp) ?_
  refine aq ?_
  refine ra (.int _ _) ?_
  refine r_nil ?_
  refine aq ?_
  refine ra (.int _ _) ?_
  refine r_nil ?_
  refine a_seq ?_
  refine aq ?_
  refine rm (.sl _ _) ?_
  refine rv (v := .int _ _) (v_len_sl sl25 il) ?_
  refine rm (.int _ _) ?_
  refine r_nil ?_
  refine a_block ?_
  refine a_loop (X := Nat) (fun i => look [(1, .sl (icells a) a.length), (5, .int .i64 (cvP c a i)), (8, .sl (icells c) c.length), (9, .int .i64 ((c.length : Nat) : Int)), (10, .int .i64 ((i : Nat) : Int))]) (fun i => i ≤ c.length ∧ ∀ j, j < i → ¬ gd c j ∈ a) (fun i => c.length - i) 0 (ent_look ⟨wr, wr, wr, wr, wr, trivial⟩) ⟨Nat.zero_le _, fun j h => by omega⟩ (fun i hG => ?_)
  obtain ⟨g1, g2⟩ := hG
  have hsi := hs i
  refine aq ?_
  refine rv (v := .bool _) (v_lss il il) ?_
  refine r_nil ?_
  refine a_seq ?_
  refine a_cond rfl (fun ht11 => ?_) (fun ht11 => ?_)
  ·
    refine a_skip ?_
    refine a_seq ?_
    refine a_block ?_
    refine a_seq ?_
    have hi : i < c.length := (by simp at ht11; omega)
    refine a_region ?_
    refine rv (v := .pp _ _) (v_indexAddr_sl es25 il il (fun _ => ⟨by omega, by omega, icells_ne hi⟩)) ?_
    refine rv (v := .int .i64 (gd c i)) (v_load_pp ta3 il (fun _ => by rw [Nat.mul_one]; exact icells_get (gd_get hi)) rfl) ?_
    refine ra (.int _ _) ?_
    refine r_nil ?_
    refine a_block ?_
    refine aq ?_
    refine rm (.sl _ _) ?_
    refine rm (.int _ _) ?_
    refine rn (v := .bool _) (q_call (vs := [.sl _ _, .int _ _]) (args := [.sl _ _, .int .i64 _]) hb59 ⟨il, il, trivial⟩ rfl (fun hA => contains_c a _ ha) rfl rfl) ?_
    refine ra (.bool _) ?_
    refine r_nil ?_
    refine a_cond rfl (fun ht14 => ?_) (fun ht14 => ?_)
    ·
      refine aq ?_
      refine ra (.int _ _) ?_
      refine r_nil ?_
      refine a_ret ?_
      refine ret1 Tryz.results86 (by decide) (by decide) (Weak.of_eq (int_eq ?_)) rfl Leaves.nil
      exact (cval_one hi (by simpa using ht14)).symm
    ·
      refine aq ?_
      refine rm (.sl _ _) ?_
      refine rm (.int _ _) ?_
      refine rv (v := .int _ _) (v_neg il (fun _ => by omega)) ?_
      refine rn (v := .bool _) (q_call (vs := [.sl _ _, .int _ _]) (args := [.sl _ _, .int .i64 _]) hb59 ⟨il, il, trivial⟩ rfl (fun hA => contains_c a _ ha) rfl rfl) ?_
      refine rv (v := .bool _) (v_not il) ?_
      refine ra (.bool _) ?_
      refine r_nil ?_
      refine a_cond rfl (fun ht18 => ?_) (fun ht18 => ?_)
      ·
        refine a_region ?_
        refine ra (.int _ _) ?_
        refine r_nil ?_
        refine a_region ?_
        refine rv (v := .int _ _) (v_add il il (fun _ => by omega)) ?_
        refine rm (.int _ _) ?_
        refine r_nil ?_
        refine ⟨i + 1, ent_look ⟨wr, Weak.of_eq (int_eq (by rw [cvP_succ hi, if_neg (by simpa using ht18)])), wr, wr, Weak.of_eq (int_eq (by omega)), trivial⟩, ⟨by omega, fun j h1 => by rcases Nat.lt_or_ge j i with h | h; exact g2 j h; (obtain rfl : j = i := by omega); simpa using ht14⟩, by omega⟩
      ·
        refine a_skip ?_
        refine a_region ?_
        refine rv (v := .int _ _) (v_add il il (fun _ => by omega)) ?_
        refine rm (.int _ _) ?_
        refine r_nil ?_
        refine ⟨i + 1, ent_look ⟨wr, Weak.of_eq (int_eq (by rw [cvP_succ hi, if_pos (by simpa using ht18)])), wr, wr, Weak.of_eq (int_eq (by omega)), trivial⟩, ⟨by omega, fun j h1 => by rcases Nat.lt_or_ge j i with h | h; exact g2 j h; (obtain rfl : j = i := by omega); simpa using ht14⟩, by omega⟩
  ·
    refine a_exit ?_
    refine a_seq ?_
    have hcv := cval_end (c := c) (a := a) (i := i) (by simp at ht11; omega) g2
    refine a_region ?_
    refine rm (.int _ _) ?_
    refine ra (.int _ _) ?_
    refine r_nil ?_
    refine a_ret ?_
    refine ret1 Tryz.results86 (by decide) (by decide) (Weak.of_eq (int_eq ?_)) rfl Leaves.nil
    exact hcv.symm
theorem sClv_c (c a : List Int) (hs : SmI c) (hc : c.length ≤ 1048576) (ha : a.length ≤ 1048576) : ACall Tryz.prog 72 [.sl (icells c) c.length, .sl (icells a) a.length] [] (.int .i64 (cval c a)) [] := by
  refine ACall.intro Tryz.func72 rfl (N := 28) rfl (by decide) (by simp) ?_
  refine aq ?_
  refine ra (.int _ _) ?_
  refine r_nil ?_
  refine aq ?_
  refine ra (.int _ _) ?_
  refine r_nil ?_
  refine a_seq ?_
  refine aq ?_
  refine ra (.int _ _) ?_
  refine r_nil ?_
  refine a_block ?_
  refine a_loop (X := Nat) (fun i => look [(0, .sl (icells c) c.length), (1, .sl (icells a) a.length), (5, .int .i64 (cvP c a i)), (6, .int .i64 ((i : Nat) : Int))]) (fun i => i ≤ c.length ∧ ∀ j, j < i → ¬ gd c j ∈ a) (fun i => c.length - i) 0 (ent_look ⟨wr, wr, wr, wr, trivial⟩) ⟨Nat.zero_le _, fun j h => by omega⟩ (fun i hG => ?_)
  obtain ⟨g1, g2⟩ := hG
  have hsi := hs i
  refine a_seq ?_
  refine aq ?_
  refine rm (.int _ _) ?_
  refine rm (.sl _ _) ?_
  refine rv (v := .int _ _) (v_len_sl sl25 il) ?_
  refine rv (v := .bool _) (v_lss il il) ?_
  refine r_nil ?_
  refine a_cond rfl (fun ht10 => ?_) (fun ht10 => ?_)
  ·
    refine a_skip ?_
    refine a_seq ?_
    refine a_block ?_
    refine a_seq ?_
    refine a_seq ?_
    have hi : i < c.length := (by simp at ht10; omega)
    refine a_region ?_
    refine rm (.sl _ _) ?_
    refine rm (.sl _ _) ?_
    refine rm (.int _ _) ?_
    refine rv (v := .pp _ _) (v_indexAddr_sl es25 il il (fun _ => ⟨by omega, by omega, icells_ne hi⟩)) ?_
    refine rv (v := .int .i64 (gd c i)) (v_load_pp ta3 il (fun _ => by rw [Nat.mul_one]; exact icells_get (gd_get hi)) rfl) ?_
    refine rn (v := .bool _) (q_call (vs := [.sl _ _, .int _ _]) (args := [.sl _ _, .int .i64 _]) hb50 ⟨il, il, trivial⟩ rfl (fun hA => has2_c _ _ _ ⟨rfl, by omega⟩) rfl rfl) ?_
    refine r_nil ?_
    refine a_cond rfl (fun ht18 => ?_) (fun ht18 => ?_)
    ·
      refine aq ?_
      refine ra (.int _ _) ?_
      refine r_nil ?_
      refine a_ret ?_
      refine ret1 Tryz.results72 (by decide) (by decide) (Weak.of_eq (int_eq ?_)) rfl Leaves.nil
      exact (cval_one hi (by simpa using ht18)).symm
    ·
      refine a_skip ?_
      refine aq ?_
      refine rm (.sl _ _) ?_
      refine rm (.sl _ _) ?_
      refine rm (.int _ _) ?_
      refine rv (v := .pp _ _) (v_indexAddr_sl es25 il il (fun _ => ⟨by omega, by omega, icells_ne hi⟩)) ?_
      refine rv (v := .int .i64 (gd c i)) (v_load_pp ta3 il (fun _ => by rw [Nat.mul_one]; exact icells_get (gd_get hi)) rfl) ?_
      refine rv (v := .int _ _) (v_neg il (fun _ => by omega)) ?_
      refine rn (v := .bool _) (q_call (vs := [.sl _ _, .int _ _]) (args := [.sl _ _, .int .i64 _]) hb50 ⟨il, il, trivial⟩ rfl (fun hA => has2_c _ _ _ ⟨rfl, by omega⟩) rfl rfl) ?_
      refine rv (v := .bool _) (v_not il) ?_
      refine r_nil ?_
      refine a_cond rfl (fun ht26 => ?_) (fun ht26 => ?_)
      ·
        refine a_region ?_
        refine ra (.int _ _) ?_
        refine r_nil ?_
        refine a_region ?_
        refine rm (.int _ _) ?_
        refine rv (v := .int _ _) (v_add il il (fun _ => by omega)) ?_
        refine ra (.int _ _) ?_
        refine r_nil ?_
        refine ⟨i + 1, ent_look ⟨wr, wr, Weak.of_eq (int_eq (by rw [cvP_succ hi, if_neg (by simpa using ht26)])), Weak.of_eq (int_eq (by omega)), trivial⟩, ⟨by omega, fun j h1 => by rcases Nat.lt_or_ge j i with h | h; exact g2 j h; (obtain rfl : j = i := by omega); simpa using ht18⟩, by omega⟩
      ·
        refine a_skip ?_
        refine a_region ?_
        refine rm (.int _ _) ?_
        refine rv (v := .int _ _) (v_add il il (fun _ => by omega)) ?_
        refine ra (.int _ _) ?_
        refine r_nil ?_
        refine ⟨i + 1, ent_look ⟨wr, wr, Weak.of_eq (int_eq (by rw [cvP_succ hi, if_pos (by simpa using ht26)])), Weak.of_eq (int_eq (by omega)), trivial⟩, ⟨by omega, fun j h1 => by rcases Nat.lt_or_ge j i with h | h; exact g2 j h; (obtain rfl : j = i := by omega); simpa using ht18⟩, by omega⟩
  ·
    refine a_exit ?_
    refine a_seq ?_
    have hcv := cval_end (c := c) (a := a) (i := i) (by simp at ht10; omega) g2
    refine a_region ?_
    refine rm (.int _ _) ?_
    refine ra (.int _ _) ?_
    refine r_nil ?_
    refine a_ret ?_
    refine ret1 Tryz.results72 (by decide) (by decide) (Weak.of_eq (int_eq ?_)) rfl Leaves.nil
    exact hcv.symm
theorem fo75_0 : fieldOff Tryz.prog 75 0 = some 0 := by kernel_rfl
theorem fo75_1 : fieldOff Tryz.prog 75 1 = some 1 := by kernel_rfl
theorem fo75_2 : fieldOff Tryz.prog 75 2 = some 2 := by kernel_rfl
theorem fo75_3 : fieldOff Tryz.prog 75 3 = some 3 := by kernel_rfl
theorem hb165 : hasBody Tryz.prog 165 = true := by kernel_rfl
theorem hb49 : hasBody Tryz.prog 49 = true := by kernel_rfl
theorem ta75 : tyAgg Tryz.prog 75 = some (true, 4) := by kernel_rfl
theorem leaf_c (x : TN) : ACall Tryz.prog 49 [.agg [.int .i64 x.1, .int .i64 x.2.1, .int .i64 x.2.2.1, .int .i64 x.2.2.2]] [] (.bool (decide (x.1 = 0))) [] := by
 refine ACall.intro Tryz.func49 rfl (N := 6) rfl (by decide) (by simp) ?_
 refine aq ?_
 refine rn (v := .op [.int _ _, .int _ _, .int _ _, .int _ _]) (q_box il rfl rfl) ?_
 refine ra (.bool _) ?_
 refine r_nil ?_
 refine aq ?_
 refine rv (v := .rp _ _) (v_fieldAddr_rp fo75_0 il) ?_
 refine rv (v := .int _ _) (v_load_rp1 ta3 il rfl (fun _ => rfl) rfl) ?_
 refine rv (v := .bool _) (v_eql il il) ?_
 refine ra (.bool _) ?_
 refine r_nil ?_
 refine a_ret ?_
 refine ret1 Tryz.results49 (by decide) (by decide) (Weak.of_eq (bool_eq ?_)) rfl Leaves.nil
 rfl
theorem nodeOk_c (vars : Int) (L : List (List Int)) (x : TN) (i : Int) (hL : (L.length : Int) ≤ 1000000) (hi : 0 ≤ i ∧ i ≤ 1000000) : ACall Tryz.prog 150 [.agg [.int .i64 vars, .sl (sls L) L.length], .int .i64 i, .agg [.int .i64 x.1, .int .i64 x.2.1, .int .i64 x.2.2.1, .int .i64 x.2.2.2]] [] (.bool (nodeB vars L.length i x)) [] := by
 refine ACall.intro Tryz.func150 rfl (N := 58) rfl (by decide) (by simp) ?_
 refine aq ?_
 refine rn (v := .op [.int _ _, .sl _ _]) (q_box il rfl rfl) ?_
 refine rn (v := .op [.int _ _, .int _ _, .int _ _, .int _ _]) (q_box il rfl rfl) ?_
 refine ra (.bool _) ?_
 refine r_nil ?_
 refine a_seq ?_
 refine aq ?_
 refine rv (v := .rp _ _) (v_fieldAddr_rp fo75_0 il) ?_
 refine rv (v := .int _ _) (v_load_rp1 ta3 il rfl (fun _ => rfl) rfl) ?_
 refine rv (v := .bool _) (v_eql il il) ?_
 refine r_nil ?_
 refine a_cond rfl (fun ht9 => ?_) (fun ht9 => ?_)
 ·
  refine aq ?_
  refine rv (v := .rp _ _) (v_fieldAddr_rp fo75_1 il) ?_
  refine rv (v := .int _ _) (v_load_rp1 ta3 il rfl (fun _ => rfl) rfl) ?_
  refine rv (v := .bool _) (v_eql il il) ?_
  refine rm (.bool _) ?_
  refine rg (v := .rp _ _) (v_fieldAddr_rp fo75_2 il) ?_
  refine r_gval (v := .int _ _) (v_load_rp1 ta3 (.inr ⟨_, rfl, fun h => h⟩) rfl (fun _ => rfl) rfl) rfl rfl rfl (by decide) (.inl ⟨_, rfl, rfl⟩) rfl (by decide) ?_
  refine r_gval (v := .bool _) (v_eql (.inr ⟨_, rfl, fun h => h⟩) il) rfl rfl rfl (by decide) (.inl ⟨_, rfl, rfl⟩) rfl (by decide) ?_
  refine rv (v := .bool _) (v_pick (.inl rfl) (.inr ⟨_, rfl, fun h h2 => by simp_all⟩) (.inl rfl)) ?_
  refine rm (.bool _) ?_
  refine rg (v := .rp _ _) (v_fieldAddr_rp fo75_3 il) ?_
  refine r_gval (v := .int _ _) (v_load_rp1 ta3 (.inr ⟨_, rfl, fun h => h⟩) rfl (fun _ => rfl) rfl) rfl rfl rfl (by decide) (.inl ⟨_, rfl, rfl⟩) rfl (by decide) ?_
  refine rg (v := .rp _ _) (v_fieldAddr_rp fo29_1 il) ?_
  refine r_gval (v := .sl _ _) (v_load_rp1 ta22 (.inr ⟨_, rfl, fun h => h⟩) rfl (fun _ => rfl) rfl) rfl rfl rfl (by decide) (.inl ⟨_, rfl, rfl⟩) rfl (by decide) ?_
  refine r_gval (v := .int _ _) (v_len_sl sl22 (.inr ⟨_, rfl, fun h => h⟩)) rfl rfl rfl (by decide) (.inl ⟨_, rfl, rfl⟩) rfl (by decide) ?_
  refine r_gval (v := .int _ _) (v_sub (.inr ⟨_, rfl, fun h => h⟩) il (fun hA => by simp at hA; omega)) rfl rfl rfl (by decide) (.inl ⟨_, rfl, rfl⟩) rfl (by decide) ?_
  refine r_guard (v := .bool _) (q_call (vs := [.int _ _, .int _ _, .int _ _]) (args := [.int .i64 _, .int .i64 _, .int .i64 _]) hb82 ⟨.inr ⟨_, rfl, fun h => h⟩, .inl rfl, .inr ⟨_, rfl, fun h => h⟩, trivial⟩ rfl (fun hA => within_c _ _ _) rfl rfl) rfl rfl rfl (by decide) (.inl ⟨_, rfl, rfl⟩) rfl (by decide) ?_
  refine rv (v := .bool _) (v_pick (.inl rfl) (.inr ⟨_, rfl, fun h h2 => by simp_all⟩) (.inl rfl)) ?_
  refine ra (.bool _) ?_
  refine r_nil ?_
  refine a_ret ?_
  refine ret1 Tryz.results150 (by decide) (by decide) (Weak.of_eq (bool_eq ?_)) rfl Leaves.nil
  all_goals (unfold nodeB; rw [if_pos (by simpa using ht9)]; simp [Bool.and_assoc]; done)
 ·
  refine a_skip ?_
  refine aq ?_
  refine rv (v := .rp _ _) (v_fieldAddr_rp fo29_0 il) ?_
  refine rv (v := .int _ _) (v_load_rp1 ta3 il rfl (fun _ => rfl) rfl) ?_
  refine rv (v := .rp _ _) (v_fieldAddr_rp fo75_0 il) ?_
  refine rv (v := .int _ _) (v_load_rp1 ta3 il rfl (fun _ => rfl) rfl) ?_
  refine rn (v := .bool _) (q_call (vs := [.int _ _, .int _ _]) (args := [.int .i64 _, .int .i64 _]) hb165 ⟨il, il, trivial⟩ rfl (fun hA => isVar_c _ _) rfl rfl) ?_
  refine rm (.bool _) ?_
  refine rg (v := .rp _ _) (v_fieldAddr_rp fo75_1 il) ?_
  refine r_gval (v := .int _ _) (v_load_rp1 ta3 (.inr ⟨_, rfl, fun h => h⟩) rfl (fun _ => rfl) rfl) rfl rfl rfl (by decide) (.inl ⟨_, rfl, rfl⟩) rfl (by decide) ?_
  refine rg (v := .rp _ _) (v_fieldAddr_rp fo75_2 il) ?_
  refine r_gval (v := .int _ _) (v_load_rp1 ta3 (.inr ⟨_, rfl, fun h => h⟩) rfl (fun _ => rfl) rfl) rfl rfl rfl (by decide) (.inl ⟨_, rfl, rfl⟩) rfl (by decide) ?_
  refine r_gval (v := .bool _) (v_neq (.inr ⟨_, rfl, fun h => h⟩) (.inr ⟨_, rfl, fun h => h⟩)) rfl rfl rfl (by decide) (.inl ⟨_, rfl, rfl⟩) rfl (by decide) ?_
  refine rv (v := .bool _) (v_pick (.inl rfl) (.inr ⟨_, rfl, fun h h2 => by simp_all⟩) (.inl rfl)) ?_
  refine rm (.bool _) ?_
  refine rg (v := .rp _ _) (v_fieldAddr_rp fo75_1 il) ?_
  refine r_gval (v := .int _ _) (v_load_rp1 ta3 (.inr ⟨_, rfl, fun h => h⟩) rfl (fun _ => rfl) rfl) rfl rfl rfl (by decide) (.inl ⟨_, rfl, rfl⟩) rfl (by decide) ?_
  refine rg (v := .int _ _) (v_move il nf) ?_
  refine r_gval (v := .int _ _) (v_sub (.inr ⟨_, rfl, fun h => h⟩) il (fun hA => by simp at hA; omega)) rfl rfl rfl (by decide) (.inl ⟨_, rfl, rfl⟩) rfl (by decide) ?_
  refine r_guard (v := .bool _) (q_call (vs := [.int _ _, .int _ _, .int _ _]) (args := [.int .i64 _, .int .i64 _, .int .i64 _]) hb82 ⟨.inr ⟨_, rfl, fun h => h⟩, .inl rfl, .inr ⟨_, rfl, fun h => h⟩, trivial⟩ rfl (fun hA => within_c _ _ _) rfl rfl) rfl rfl rfl (by decide) (.inl ⟨_, rfl, rfl⟩) rfl (by decide) ?_
  refine rv (v := .bool _) (v_pick (.inl rfl) (.inr ⟨_, rfl, fun h h2 => by simp_all⟩) (.inl rfl)) ?_
  refine rm (.bool _) ?_
  refine rg (v := .rp _ _) (v_fieldAddr_rp fo75_2 il) ?_
  refine r_gval (v := .int _ _) (v_load_rp1 ta3 (.inr ⟨_, rfl, fun h => h⟩) rfl (fun _ => rfl) rfl) rfl rfl rfl (by decide) (.inl ⟨_, rfl, rfl⟩) rfl (by decide) ?_
  refine rg (v := .int _ _) (v_move il nf) ?_
  refine r_gval (v := .int _ _) (v_sub (.inr ⟨_, rfl, fun h => h⟩) il (fun hA => by simp at hA; omega)) rfl rfl rfl (by decide) (.inl ⟨_, rfl, rfl⟩) rfl (by decide) ?_
  refine r_guard (v := .bool _) (q_call (vs := [.int _ _, .int _ _, .int _ _]) (args := [.int .i64 _, .int .i64 _, .int .i64 _]) hb82 ⟨.inr ⟨_, rfl, fun h => h⟩, .inl rfl, .inr ⟨_, rfl, fun h => h⟩, trivial⟩ rfl (fun hA => within_c _ _ _) rfl rfl) rfl rfl rfl (by decide) (.inl ⟨_, rfl, rfl⟩) rfl (by decide) ?_
  refine rv (v := .bool _) (v_pick (.inl rfl) (.inr ⟨_, rfl, fun h h2 => by simp_all⟩) (.inl rfl)) ?_
  refine rm (.bool _) ?_
  refine rg (v := .rp _ _) (v_fieldAddr_rp fo75_3 il) ?_
  refine r_gval (v := .int _ _) (v_load_rp1 ta3 (.inr ⟨_, rfl, fun h => h⟩) rfl (fun _ => rfl) rfl) rfl rfl rfl (by decide) (.inl ⟨_, rfl, rfl⟩) rfl (by decide) ?_
  refine r_gval (v := .bool _) (v_eql (.inr ⟨_, rfl, fun h => h⟩) il) rfl rfl rfl (by decide) (.inl ⟨_, rfl, rfl⟩) rfl (by decide) ?_
  refine rv (v := .bool _) (v_pick (.inl rfl) (.inr ⟨_, rfl, fun h h2 => by simp_all⟩) (.inl rfl)) ?_
  refine ra (.bool _) ?_
  refine r_nil ?_
  refine a_ret ?_
  refine ret1 Tryz.results150 (by decide) (by decide) (Weak.of_eq (bool_eq ?_)) rfl Leaves.nil
  all_goals (unfold nodeB; rw [if_neg (by simpa using ht9)]; cases h1 : inR x.1 1 vars <;> cases h2 : inR x.2.1 0 (i - 1) <;> cases h3 : inR x.2.2.1 0 (i - 1) <;> simp_all <;> (cases h4 : decide (x.2.1 = x.2.2.1) <;> simp_all))
theorem node9_c (vars : Int) (L : List (List Int)) (x : TN) (i : Int) (hL : (L.length : Int) ≤ 1000000) (hi : 0 ≤ i ∧ i ≤ 1000000) : ACall Tryz.prog 134 [.agg [.int .i64 vars, .sl (sls L) L.length], .agg [.int .i64 x.1, .int .i64 x.2.1, .int .i64 x.2.2.1, .int .i64 x.2.2.2], .int .i64 i] [] (.bool (nodeB vars L.length i x)) [] := by
 refine ACall.intro Tryz.func134 rfl (N := 57) rfl (by decide) (by simp) ?_
 refine aq ?_
 refine rn (v := .op [.int _ _, .sl _ _]) (q_box il rfl rfl) ?_
 refine rn (v := .op [.int _ _, .int _ _, .int _ _, .int _ _]) (q_box il rfl rfl) ?_
 refine ra (.bool _) ?_
 refine r_nil ?_
 refine a_seq ?_
 refine aq ?_
 refine rv (v := .agg [.int _ _, .int _ _, .int _ _, .int _ _]) (v_load_rpa1 ta75 il rfl rfl (fun _ => rfl) rfl) ?_
 refine rn (v := .bool _) (q_call (vs := [.agg [.int _ _, .int _ _, .int _ _, .int _ _]]) (args := [.agg [.int .i64 _, .int .i64 _, .int .i64 _, .int .i64 _]]) hb49 ⟨il, trivial⟩ rfl (fun hA => leaf_c _) rfl rfl) ?_
 refine r_nil ?_
 refine a_cond rfl (fun ht8 => ?_) (fun ht8 => ?_)
 ·
  refine aq ?_
  refine rv (v := .rp _ _) (v_fieldAddr_rp fo75_1 il) ?_
  refine rv (v := .int _ _) (v_load_rp1 ta3 il rfl (fun _ => rfl) rfl) ?_
  refine rv (v := .bool _) (v_eql il il) ?_
  refine rm (.bool _) ?_
  refine rg (v := .rp _ _) (v_fieldAddr_rp fo75_2 il) ?_
  refine r_gval (v := .int _ _) (v_load_rp1 ta3 (.inr ⟨_, rfl, fun h => h⟩) rfl (fun _ => rfl) rfl) rfl rfl rfl (by decide) (.inl ⟨_, rfl, rfl⟩) rfl (by decide) ?_
  refine r_gval (v := .bool _) (v_eql (.inr ⟨_, rfl, fun h => h⟩) il) rfl rfl rfl (by decide) (.inl ⟨_, rfl, rfl⟩) rfl (by decide) ?_
  refine rv (v := .bool _) (v_pick (.inl rfl) (.inr ⟨_, rfl, fun h h2 => by simp_all⟩) (.inl rfl)) ?_
  refine rm (.bool _) ?_
  refine rg (v := .rp _ _) (v_fieldAddr_rp fo75_3 il) ?_
  refine r_gval (v := .int _ _) (v_load_rp1 ta3 (.inr ⟨_, rfl, fun h => h⟩) rfl (fun _ => rfl) rfl) rfl rfl rfl (by decide) (.inl ⟨_, rfl, rfl⟩) rfl (by decide) ?_
  refine rg (v := .rp _ _) (v_fieldAddr_rp fo29_1 il) ?_
  refine r_gval (v := .sl _ _) (v_load_rp1 ta22 (.inr ⟨_, rfl, fun h => h⟩) rfl (fun _ => rfl) rfl) rfl rfl rfl (by decide) (.inl ⟨_, rfl, rfl⟩) rfl (by decide) ?_
  refine r_gval (v := .int _ _) (v_len_sl sl22 (.inr ⟨_, rfl, fun h => h⟩)) rfl rfl rfl (by decide) (.inl ⟨_, rfl, rfl⟩) rfl (by decide) ?_
  refine r_gval (v := .int _ _) (v_sub (.inr ⟨_, rfl, fun h => h⟩) il (fun hA => by simp at hA; omega)) rfl rfl rfl (by decide) (.inl ⟨_, rfl, rfl⟩) rfl (by decide) ?_
  refine r_guard (v := .bool _) (q_call (vs := [.int _ _, .int _ _, .int _ _]) (args := [.int .i64 _, .int .i64 _, .int .i64 _]) hb112 ⟨.inr ⟨_, rfl, fun h => h⟩, .inl rfl, .inr ⟨_, rfl, fun h => h⟩, trivial⟩ rfl (fun hA => l1In_c _ _ _) rfl rfl) rfl rfl rfl (by decide) (.inl ⟨_, rfl, rfl⟩) rfl (by decide) ?_
  refine rv (v := .bool _) (v_pick (.inl rfl) (.inr ⟨_, rfl, fun h h2 => by simp_all⟩) (.inl rfl)) ?_
  refine ra (.bool _) ?_
  refine r_nil ?_
  refine a_ret ?_
  refine ret1 Tryz.results134 (by decide) (by decide) (Weak.of_eq (bool_eq ?_)) rfl Leaves.nil
  all_goals (unfold nodeB; rw [if_pos (by simpa using ht8)]; simp [Bool.and_assoc]; done)
 ·
  refine a_skip ?_
  refine aq ?_
  refine rv (v := .rp _ _) (v_fieldAddr_rp fo75_0 il) ?_
  refine rv (v := .int _ _) (v_load_rp1 ta3 il rfl (fun _ => rfl) rfl) ?_
  refine rv (v := .rp _ _) (v_fieldAddr_rp fo29_0 il) ?_
  refine rv (v := .int _ _) (v_load_rp1 ta3 il rfl (fun _ => rfl) rfl) ?_
  refine rn (v := .bool _) (q_call (vs := [.int _ _, .int _ _, .int _ _]) (args := [.int .i64 _, .int .i64 _, .int .i64 _]) hb112 ⟨il, il, il, trivial⟩ rfl (fun hA => l1In_c _ _ _) rfl rfl) ?_
  refine rm (.bool _) ?_
  refine rg (v := .rp _ _) (v_fieldAddr_rp fo75_1 il) ?_
  refine r_gval (v := .int _ _) (v_load_rp1 ta3 (.inr ⟨_, rfl, fun h => h⟩) rfl (fun _ => rfl) rfl) rfl rfl rfl (by decide) (.inl ⟨_, rfl, rfl⟩) rfl (by decide) ?_
  refine rg (v := .int _ _) (v_move il nf) ?_
  refine r_gval (v := .int _ _) (v_sub (.inr ⟨_, rfl, fun h => h⟩) il (fun hA => by simp at hA; omega)) rfl rfl rfl (by decide) (.inl ⟨_, rfl, rfl⟩) rfl (by decide) ?_
  refine r_guard (v := .bool _) (q_call (vs := [.int _ _, .int _ _, .int _ _]) (args := [.int .i64 _, .int .i64 _, .int .i64 _]) hb112 ⟨.inr ⟨_, rfl, fun h => h⟩, .inl rfl, .inr ⟨_, rfl, fun h => h⟩, trivial⟩ rfl (fun hA => l1In_c _ _ _) rfl rfl) rfl rfl rfl (by decide) (.inl ⟨_, rfl, rfl⟩) rfl (by decide) ?_
  refine rv (v := .bool _) (v_pick (.inl rfl) (.inr ⟨_, rfl, fun h h2 => by simp_all⟩) (.inl rfl)) ?_
  refine rm (.bool _) ?_
  refine rg (v := .rp _ _) (v_fieldAddr_rp fo75_2 il) ?_
  refine r_gval (v := .int _ _) (v_load_rp1 ta3 (.inr ⟨_, rfl, fun h => h⟩) rfl (fun _ => rfl) rfl) rfl rfl rfl (by decide) (.inl ⟨_, rfl, rfl⟩) rfl (by decide) ?_
  refine rg (v := .int _ _) (v_move il nf) ?_
  refine r_gval (v := .int _ _) (v_sub (.inr ⟨_, rfl, fun h => h⟩) il (fun hA => by simp at hA; omega)) rfl rfl rfl (by decide) (.inl ⟨_, rfl, rfl⟩) rfl (by decide) ?_
  refine r_guard (v := .bool _) (q_call (vs := [.int _ _, .int _ _, .int _ _]) (args := [.int .i64 _, .int .i64 _, .int .i64 _]) hb112 ⟨.inr ⟨_, rfl, fun h => h⟩, .inl rfl, .inr ⟨_, rfl, fun h => h⟩, trivial⟩ rfl (fun hA => l1In_c _ _ _) rfl rfl) rfl rfl rfl (by decide) (.inl ⟨_, rfl, rfl⟩) rfl (by decide) ?_
  refine rv (v := .bool _) (v_pick (.inl rfl) (.inr ⟨_, rfl, fun h h2 => by simp_all⟩) (.inl rfl)) ?_
  refine rm (.bool _) ?_
  refine rg (v := .rp _ _) (v_fieldAddr_rp fo75_1 il) ?_
  refine r_gval (v := .int _ _) (v_load_rp1 ta3 (.inr ⟨_, rfl, fun h => h⟩) rfl (fun _ => rfl) rfl) rfl rfl rfl (by decide) (.inl ⟨_, rfl, rfl⟩) rfl (by decide) ?_
  refine rg (v := .rp _ _) (v_fieldAddr_rp fo75_2 il) ?_
  refine r_gval (v := .int _ _) (v_load_rp1 ta3 (.inr ⟨_, rfl, fun h => h⟩) rfl (fun _ => rfl) rfl) rfl rfl rfl (by decide) (.inl ⟨_, rfl, rfl⟩) rfl (by decide) ?_
  refine r_gval (v := .bool _) (v_neq (.inr ⟨_, rfl, fun h => h⟩) (.inr ⟨_, rfl, fun h => h⟩)) rfl rfl rfl (by decide) (.inl ⟨_, rfl, rfl⟩) rfl (by decide) ?_
  refine rv (v := .bool _) (v_pick (.inl rfl) (.inr ⟨_, rfl, fun h h2 => by simp_all⟩) (.inl rfl)) ?_
  refine rm (.bool _) ?_
  refine rg (v := .rp _ _) (v_fieldAddr_rp fo75_3 il) ?_
  refine r_gval (v := .int _ _) (v_load_rp1 ta3 (.inr ⟨_, rfl, fun h => h⟩) rfl (fun _ => rfl) rfl) rfl rfl rfl (by decide) (.inl ⟨_, rfl, rfl⟩) rfl (by decide) ?_
  refine r_gval (v := .bool _) (v_eql (.inr ⟨_, rfl, fun h => h⟩) il) rfl rfl rfl (by decide) (.inl ⟨_, rfl, rfl⟩) rfl (by decide) ?_
  refine rv (v := .bool _) (v_pick (.inl rfl) (.inr ⟨_, rfl, fun h h2 => by simp_all⟩) (.inl rfl)) ?_
  refine ra (.bool _) ?_
  refine r_nil ?_
  refine a_ret ?_
  refine ret1 Tryz.results134 (by decide) (by decide) (Weak.of_eq (bool_eq ?_)) rfl Leaves.nil
  all_goals (unfold nodeB; rw [if_neg (by simpa using ht8)]; cases h1 : inR x.1 1 vars <;> cases h2 : inR x.2.1 0 (i - 1) <;> cases h3 : inR x.2.2.1 0 (i - 1) <;> simp_all <;> (cases h4 : decide (x.2.1 = x.2.2.1) <;> simp_all))
theorem es39 : elemSize Tryz.prog 39 = some 4 := by kernel_rfl
theorem es44 : elemSize Tryz.prog 44 = some 4 := by kernel_rfl
theorem fo80_0 : fieldOff Tryz.prog 80 0 = some 0 := by kernel_rfl
theorem fo80_1 : fieldOff Tryz.prog 80 1 = some 1 := by kernel_rfl
theorem fo80_2 : fieldOff Tryz.prog 80 2 = some 2 := by kernel_rfl
theorem fo80_3 : fieldOff Tryz.prog 80 3 = some 3 := by kernel_rfl
theorem hb53 : hasBody Tryz.prog 53 = true := by kernel_rfl
theorem hb65 : hasBody Tryz.prog 65 = true := by kernel_rfl
theorem sb75 : (Tryz.prog.info? 75).map (fun i => (i.size, i.bytes)) = some (4, 32) := by kernel_rfl
theorem sl39 : isSlice Tryz.prog 39 = true := by kernel_rfl
theorem sl44 : isSlice Tryz.prog 44 = true := by kernel_rfl
theorem ta80 : tyAgg Tryz.prog 80 = some (true, 4) := by kernel_rfl
theorem us44 : Tryz.prog.underlying 44 = some (.slice 75) := by kernel_rfl
theorem zc75 : zeroCells Tryz.prog 75 = some [.int .i64 0, .int .i64 0, .int .i64 0, .int .i64 0] := by kernel_rfl
theorem szTN_c (xs : List TN) (left : Int) (h : (xs.length : Int) ≤ 9223372036854775807 ∧ 0 ≤ left ∧ left ≤ 9223372036854775807) : ACall Tryz.prog 17 [.sl (tncells xs) xs.length, .int .i64 left] [] (.int .i64 (if left - xs.length < 0 then -1 else left - xs.length)) [] := by
  refine ACall.intro Tryz.func17 rfl (N := 12) rfl (by decide) (by simp) ?_
  refine aq ?_
  refine ra (.int _ _) ?_
  refine r_nil ?_
  refine aq ?_
  refine rm (.int _ _) ?_
  refine rm (.sl _ _) ?_
  refine rv (v := .int _ _) (v_len_sl sl39 il) ?_
  refine rv (v := .int _ _) (v_sub il il (fun _ => by omega)) ?_
  refine ra (.int _ _) ?_
  refine r_nil ?_
  refine a_seq ?_
  refine aq ?_
  refine rm (.int _ _) ?_
  refine rv (v := .bool _) (v_lss il il) ?_
  refine r_nil ?_
  refine a_cond rfl (fun ht10 => ?_) (fun ht10 => ?_)
  ·
    refine aq ?_
    refine ra (.int _ _) ?_
    refine r_nil ?_
    refine a_ret ?_
    refine ret1 Tryz.results17 (by decide) (by decide) (Weak.of_eq (int_eq ?_)) rfl Leaves.nil
    simp at ht10; rw [if_pos (by omega)]
  ·
    refine a_skip ?_
    refine aq ?_
    refine rm (.int _ _) ?_
    refine ra (.int _ _) ?_
    refine r_nil ?_
    refine a_ret ?_
    refine ret1 Tryz.results17 (by decide) (by decide) (Weak.of_eq (int_eq ?_)) rfl Leaves.nil
    simp at ht10; rw [if_neg (by omega)]
theorem toTN_c (x : TN) : ACall Tryz.prog 53 [.agg [.int .i64 x.1, .int .i64 x.2.1, .int .i64 x.2.2.1, .int .i64 x.2.2.2]] [] (.agg [.int .i64 x.1, .int .i64 x.2.1, .int .i64 x.2.2.1, .int .i64 x.2.2.2]) [] := by
  refine ACall.intro Tryz.func53 rfl (N := 17) rfl (by decide) (by simp) ?_
  refine aq ?_
  refine rn (v := .op [.int _ _, .int _ _, .int _ _, .int _ _]) (q_box il rfl rfl) ?_
  refine rn (v := .op [.int _ _, .int _ _, .int _ _, .int _ _]) (q_alloc zc75) ?_
  refine r_nil ?_
  refine aq ?_
  refine rn (v := .op [.int _ _, .int _ _, .int _ _, .int _ _]) (q_alloc zc75) ?_
  refine r_nil ?_
  refine aq ?_
  refine rv (v := .rp _ _) (v_fieldAddr_rp fo80_0 il) ?_
  refine rv (v := .int _ _) (v_load_rp1 ta3 il rfl (fun _ => rfl) rfl) ?_
  refine rv (v := .rp _ _) (v_fieldAddr_rp fo75_0 il) ?_
  refine r_step rfl (o_store (v := .int _ _) (y' := .op [.int _ _, .int _ _, .int _ _, .int _ _]) rfl rfl ta3 il il rfl rfl rfl rfl rfl rfl (Nat.le_of_ble_eq_true rfl) (by decide) rfl rfl) ?_
  refine r_nil ?_
  refine aq ?_
  refine rv (v := .rp _ _) (v_fieldAddr_rp fo80_1 il) ?_
  refine rv (v := .int _ _) (v_load_rp1 ta3 il rfl (fun _ => rfl) rfl) ?_
  refine rv (v := .rp _ _) (v_fieldAddr_rp fo75_1 il) ?_
  refine r_step rfl (o_store (v := .int _ _) (y' := .op [.int _ _, .int _ _, .int _ _, .int _ _]) rfl rfl ta3 il il rfl rfl rfl rfl rfl rfl (Nat.le_of_ble_eq_true rfl) (by decide) rfl rfl) ?_
  refine r_nil ?_
  refine aq ?_
  refine rv (v := .rp _ _) (v_fieldAddr_rp fo80_2 il) ?_
  refine rv (v := .int _ _) (v_load_rp1 ta3 il rfl (fun _ => rfl) rfl) ?_
  refine rv (v := .rp _ _) (v_fieldAddr_rp fo75_2 il) ?_
  refine r_step rfl (o_store (v := .int _ _) (y' := .op [.int _ _, .int _ _, .int _ _, .int _ _]) rfl rfl ta3 il il rfl rfl rfl rfl rfl rfl (Nat.le_of_ble_eq_true rfl) (by decide) rfl rfl) ?_
  refine r_nil ?_
  refine aq ?_
  refine rv (v := .rp _ _) (v_fieldAddr_rp fo80_3 il) ?_
  refine rv (v := .int _ _) (v_load_rp1 ta3 il rfl (fun _ => rfl) rfl) ?_
  refine rv (v := .rp _ _) (v_fieldAddr_rp fo75_3 il) ?_
  refine r_step rfl (o_store (v := .int _ _) (y' := .op [.int _ _, .int _ _, .int _ _, .int _ _]) rfl rfl ta3 il il rfl rfl rfl rfl rfl rfl (Nat.le_of_ble_eq_true rfl) (by decide) rfl rfl) ?_
  refine r_nil ?_
  refine aq ?_
  refine rv (v := .agg [.int _ _, .int _ _, .int _ _, .int _ _]) (v_load_rpa1 ta75 il rfl rfl (fun _ => rfl) rfl) ?_
  refine r_step rfl (o_store (v := .agg [.int _ _, .int _ _, .int _ _, .int _ _]) (y' := .op [.int _ _, .int _ _, .int _ _, .int _ _]) rfl rfl ta75 il il rfl rfl rfl rfl rfl rfl (Nat.le_of_ble_eq_true rfl) (by decide) rfl rfl) ?_
  refine r_nil ?_
  refine a_ret ?_
  refine retC1 (r := .cell 2 75) Tryz.results53 ⟨by decide, _, cell_agg rfl ta75, rfl⟩ (by decide) (Weak.of_eq (agg_eq (l4_eq (int_eq ?_) (int_eq ?_) (int_eq ?_) (int_eq ?_)))) rfl Leaves.nil
  all_goals rfl
theorem toTNS_c (xs : List TN) (hl : (xs.length : Int) ≤ 1048576) : ACall Tryz.prog 19 [.sl (tncells xs) xs.length] [] (.osl 4 (tncells xs) xs.length none) [] := by
  refine ACall.intro Tryz.func19 rfl (N := 23) rfl (by decide) (by simp) ?_
  refine aq ?_
  refine ra .nils ?_
  refine r_nil ?_
  refine aq ?_
  refine rm (.sl _ _) ?_
  refine rv (v := .int _ _) (v_len_sl sl39 il) ?_
  refine rn (v := .osl _ _ _ _) (q_makeSlice us44 sb75 zc75 rfl (by decide) il il (fun _ => by omega)) ?_
  refine ra (.rsl _ _ _ _ _) ?_
  refine r_pre (ent_reloc_sl (t := 3) rfl rfl) ?_
  refine r_nil ?_
  refine a_seq ?_
  refine aq ?_
  refine ra (.int _ _) ?_
  refine r_nil ?_
  refine a_block ?_
  refine a_loop (X := Nat) (fun i => look [(0, .sl (tncells xs) xs.length), (3, .osl 4 (tncells (partN xs i)) xs.length (some xs.length)), (4, .int .i64 ((i : Nat) : Int))]) (fun i => i ≤ xs.length) (fun i => xs.length - i) 0 (ent_look ⟨wr, Weak.of_eq (osl_eq (partN_zero xs).symm), wr, trivial⟩) (Nat.zero_le _) (fun i hG => ?_)
  refine a_seq ?_
  refine aq ?_
  refine rm (.int _ _) ?_
  refine rm (.sl _ _) ?_
  refine rv (v := .int _ _) (v_len_sl sl39 il) ?_
  refine rv (v := .bool _) (v_lss il il) ?_
  refine r_nil ?_
  refine a_cond rfl (fun ht11 => ?_) (fun ht11 => ?_)
  ·
    refine a_skip ?_
    refine a_seq ?_
    refine a_block ?_
    have hi : i < xs.length := (by simp at ht11; omega)
    have hpl : i * 4 + 4 ≤ (tncells (partN xs i)).length := (by rw [tncells_length, partN_len (by omega)]; omega)
    have hset := partN_set hi
    refine a_region ?_
    refine rm (.rsl _ _ _ _ _) ?_
    refine rm (.int _ _) ?_
    refine rm (.sl _ _) ?_
    refine rm (.int _ _) ?_
    refine rv (v := .pp _ _) (v_indexAddr_sl es39 il il (fun _ => ⟨by omega, by omega, tn_ne hi⟩)) ?_
    refine rv (v := .agg [.int .i64 (gn xs i).1, .int .i64 (gn xs i).2.1, .int .i64 (gn xs i).2.2.1, .int .i64 (gn xs i).2.2.2]) (v_load_ppa1 ta80 il rfl (fun _ => tn_four hi) rfl) ?_
    refine rn (v := .agg [.int _ _, .int _ _, .int _ _, .int _ _]) (q_call (vs := [.agg [.int _ _, .int _ _, .int _ _, .int _ _]]) (args := [.agg [.int .i64 _, .int .i64 _, .int .i64 _, .int .i64 _]]) hb53 ⟨il, trivial⟩ rfl (fun hA => toTN_c _) rfl rfl) ?_
    refine rv (v := .rp _ _) (v_indexAddr_rsl0 es44 il il (fun _ => by omega)) ?_
    refine r_step rfl (o_store (v := .agg [.int _ _, .int _ _, .int _ _, .int _ _]) (y' := .osl _ _ _ _) rfl rfl ta75 il il rfl rfl rfl rfl rfl rfl hpl (by decide) rfl (congrArg (fun c => AV.osl 4 c xs.length (some xs.length)) hset)) ?_
    refine r_nil ?_
    refine a_region ?_
    refine rm (.int _ _) ?_
    refine rv (v := .int _ _) (v_add il il (fun _ => by omega)) ?_
    refine ra (.int _ _) ?_
    refine r_nil ?_
    refine ⟨i + 1, ent_look ⟨wr, wr, Weak.of_eq (int_eq (by omega)), trivial⟩, by omega, by omega⟩
  ·
    refine a_exit ?_
    refine aq ?_
    refine rm (.rsl _ _ _ _ _) ?_
    refine ra (.rsl _ _ _ _ _) ?_
    refine r_pre (ent_reloc_sl (t := 2) rfl rfl) ?_
    refine r_nil ?_
    refine a_ret ?_
    refine ret1 Tryz.results19 (by decide) (by decide) (Weak.osl ?_ ?_) rfl Leaves.nil
    · simp at ht11; rw [partN_full (by omega)]
    · rfl
theorem eqTN_c (x y : TN) : ACall Tryz.prog 65 [.agg [.int .i64 x.1, .int .i64 x.2.1, .int .i64 x.2.2.1, .int .i64 x.2.2.2], .agg [.int .i64 y.1, .int .i64 y.2.1, .int .i64 y.2.2.1, .int .i64 y.2.2.2]] [] (.bool (decide (x = y))) [] := by
  refine ACall.intro Tryz.func65 rfl (N := 25) rfl (by decide) (by simp) ?_
  refine aq ?_
  refine rn (v := .op [.int _ _, .int _ _, .int _ _, .int _ _]) (q_box il rfl rfl) ?_
  refine rn (v := .op [.int _ _, .int _ _, .int _ _, .int _ _]) (q_box il rfl rfl) ?_
  refine ra (.bool _) ?_
  refine r_nil ?_
  refine a_seq ?_
  refine aq ?_
  refine rv (v := .rp _ _) (v_fieldAddr_rp fo75_0 il) ?_
  refine rv (v := .int _ _) (v_load_rp1 ta3 il rfl (fun _ => rfl) rfl) ?_
  refine rv (v := .rp _ _) (v_fieldAddr_rp fo75_0 il) ?_
  refine rv (v := .int _ _) (v_load_rp1 ta3 il rfl (fun _ => rfl) rfl) ?_
  refine rv (v := .bool _) (v_neq il il) ?_
  refine r_nil ?_
  refine a_cond rfl (fun ht9 => ?_) (fun ht9 => ?_)
  ·
    refine aq ?_
    refine ra (.bool _) ?_
    refine r_nil ?_
    refine a_ret ?_
    refine ret1 Tryz.results65 (by decide) (by decide) (Weak.of_eq (bool_eq ?_)) rfl Leaves.nil
    exact (decide_eq_false (fun h => by subst h; simp at ht9)).symm
  ·
    refine a_skip ?_
    refine a_seq ?_
    refine aq ?_
    refine rv (v := .rp _ _) (v_fieldAddr_rp fo75_1 il) ?_
    refine rv (v := .int _ _) (v_load_rp1 ta3 il rfl (fun _ => rfl) rfl) ?_
    refine rv (v := .rp _ _) (v_fieldAddr_rp fo75_1 il) ?_
    refine rv (v := .int _ _) (v_load_rp1 ta3 il rfl (fun _ => rfl) rfl) ?_
    refine rv (v := .bool _) (v_neq il il) ?_
    refine r_nil ?_
    refine a_cond rfl (fun ht14 => ?_) (fun ht14 => ?_)
    ·
      refine aq ?_
      refine ra (.bool _) ?_
      refine r_nil ?_
      refine a_ret ?_
      refine ret1 Tryz.results65 (by decide) (by decide) (Weak.of_eq (bool_eq ?_)) rfl Leaves.nil
      exact (decide_eq_false (fun h => by subst h; simp at ht14)).symm
    ·
      refine a_skip ?_
      refine a_seq ?_
      refine aq ?_
      refine rv (v := .rp _ _) (v_fieldAddr_rp fo75_2 il) ?_
      refine rv (v := .int _ _) (v_load_rp1 ta3 il rfl (fun _ => rfl) rfl) ?_
      refine rv (v := .rp _ _) (v_fieldAddr_rp fo75_2 il) ?_
      refine rv (v := .int _ _) (v_load_rp1 ta3 il rfl (fun _ => rfl) rfl) ?_
      refine rv (v := .bool _) (v_neq il il) ?_
      refine r_nil ?_
      refine a_cond rfl (fun ht19 => ?_) (fun ht19 => ?_)
      ·
        refine aq ?_
        refine ra (.bool _) ?_
        refine r_nil ?_
        refine a_ret ?_
        refine ret1 Tryz.results65 (by decide) (by decide) (Weak.of_eq (bool_eq ?_)) rfl Leaves.nil
        exact (decide_eq_false (fun h => by subst h; simp at ht19)).symm
      ·
        refine a_skip ?_
        refine a_seq ?_
        refine aq ?_
        refine rv (v := .rp _ _) (v_fieldAddr_rp fo75_3 il) ?_
        refine rv (v := .int _ _) (v_load_rp1 ta3 il rfl (fun _ => rfl) rfl) ?_
        refine rv (v := .rp _ _) (v_fieldAddr_rp fo75_3 il) ?_
        refine rv (v := .int _ _) (v_load_rp1 ta3 il rfl (fun _ => rfl) rfl) ?_
        refine rv (v := .bool _) (v_neq il il) ?_
        refine r_nil ?_
        refine a_cond rfl (fun ht24 => ?_) (fun ht24 => ?_)
        ·
          refine aq ?_
          refine ra (.bool _) ?_
          refine r_nil ?_
          refine a_ret ?_
          refine ret1 Tryz.results65 (by decide) (by decide) (Weak.of_eq (bool_eq ?_)) rfl Leaves.nil
          exact (decide_eq_false (fun h => by subst h; simp at ht24)).symm
        ·
          refine a_skip ?_
          refine aq ?_
          refine ra (.bool _) ?_
          refine r_nil ?_
          refine a_ret ?_
          refine ret1 Tryz.results65 (by decide) (by decide) (Weak.of_eq (bool_eq ?_)) rfl Leaves.nil
          exact (decide_eq_true (Prod.ext (by simpa using ht9) (Prod.ext (by simpa using ht14) (Prod.ext (by simpa using ht19) (by simpa using ht24))))).symm
theorem eqTNS_c (xs ys : List TN) (hl : (xs.length : Int) ≤ 9223372036854775807) (hl2 : (ys.length : Int) ≤ 9223372036854775807) : ACall Tryz.prog 22 [.sl (tncells xs) xs.length, .sl (tncells ys) ys.length] [] (.bool (decide (xs = ys))) [] := by
  refine ACall.intro Tryz.func22 rfl (N := 27) rfl (by decide) (by simp) ?_
  refine aq ?_
  refine ra (.bool _) ?_
  refine r_nil ?_
  refine a_seq ?_
  refine aq ?_
  refine rm (.sl _ _) ?_
  refine rv (v := .int _ _) (v_len_sl sl44 il) ?_
  refine rm (.sl _ _) ?_
  refine rv (v := .int _ _) (v_len_sl sl44 il) ?_
  refine rv (v := .bool _) (v_neq il il) ?_
  refine r_nil ?_
  refine a_cond rfl (fun ht10 => ?_) (fun ht10 => ?_)
  ·
    refine aq ?_
    refine ra (.bool _) ?_
    refine r_nil ?_
    refine a_ret ?_
    refine ret1 Tryz.results22 (by decide) (by decide) (Weak.of_eq (bool_eq ?_)) rfl Leaves.nil
    simp at ht10; exact (decide_eq_false (fun h => ht10 (by rw [h]))).symm
  ·
    refine a_skip ?_
    refine a_seq ?_
    refine aq ?_
    refine ra (.int _ _) ?_
    refine r_nil ?_
    refine a_block ?_
    refine a_loop (X := Nat) (fun i => look [(0, .sl (tncells xs) xs.length), (1, .sl (tncells ys) ys.length), (5, .int .i64 ((i : Nat) : Int))]) (fun i => i ≤ xs.length ∧ xs.length = ys.length ∧ xs.take i = ys.take i) (fun i => xs.length - i) 0 (ent_look ⟨wr, wr, wr, trivial⟩) ⟨Nat.zero_le _, by simp at ht10; omega, rfl⟩ (fun i hG => ?_)
    obtain ⟨g1, g2, g3⟩ := hG
    refine a_seq ?_
    refine aq ?_
    refine rm (.int _ _) ?_
    refine rm (.sl _ _) ?_
    refine rv (v := .int _ _) (v_len_sl sl44 il) ?_
    refine rv (v := .bool _) (v_lss il il) ?_
    refine r_nil ?_
    refine a_cond rfl (fun ht14 => ?_) (fun ht14 => ?_)
    ·
      refine a_skip ?_
      refine a_seq ?_
      refine a_block ?_
      refine a_seq ?_
      have hi : i < xs.length := (by simp at ht14; omega)
      refine a_region_any mixed (by kernel_rfl) ?_
      refine yv (v := .sl _ _) (v_move il nf) ?_
      refine yv (v := .int _ _) (v_move il nf) ?_
      refine yv (v := .pp _ _) (v_indexAddr_sl es44 il il (fun _ => ⟨by omega, by omega, tn_ne hi⟩)) ?_
      refine yv (v := .agg [.int .i64 (gn xs i).1, .int .i64 (gn xs i).2.1, .int .i64 (gn xs i).2.2.1, .int .i64 (gn xs i).2.2.2]) (v_load_ppa1 ta75 il rfl (fun _ => tn_four hi) rfl) ?_
      refine yv (v := .sl _ _) (v_move il nf) ?_
      refine yv (v := .int _ _) (v_move il nf) ?_
      refine yv (v := .pp _ _) (v_indexAddr_sl es44 il il (fun _ => ⟨by omega, by omega, tn_ne (xs := ys) (i := i) (by omega)⟩)) ?_
      refine yv (v := .agg [.int .i64 (gn ys i).1, .int .i64 (gn ys i).2.1, .int .i64 (gn ys i).2.2.1, .int .i64 (gn ys i).2.2.2]) (v_load_ppa1 ta75 il rfl (fun _ => tn_four (xs := ys) (by omega)) rfl) ?_
      refine y_new (v := .bool _) (q_call (vs := [.agg [.int _ _, .int _ _, .int _ _, .int _ _], .agg [.int _ _, .int _ _, .int _ _, .int _ _]]) (args := [.agg [.int .i64 _, .int .i64 _, .int .i64 _, .int .i64 _], .agg [.int .i64 _, .int .i64 _, .int .i64 _, .int .i64 _]]) hb65 ⟨.inl rfl, .inl rfl, trivial⟩ rfl (fun hA => eqTN_c (gn xs i) (gn ys i)) rfl rfl) rfl rfl (by decide) (by kernel_rfl) ?_
      refine yv (v := .bool _) (v_not il) ?_
      refine y_nil ?_
      refine a_cond rfl (fun ht26 => ?_) (fun ht26 => ?_)
      ·
        refine aq ?_
        refine ra (.bool _) ?_
        refine r_nil ?_
        refine a_ret ?_
        refine ret1 Tryz.results22 (by decide) (by decide) (Weak.of_eq (bool_eq ?_)) rfl Leaves.nil
        simp at ht26; refine (decide_eq_false (fun h => ?_)).symm
        subst h
        simp at ht26
      ·
        refine a_skip ?_
        refine a_region ?_
        refine rm (.int _ _) ?_
        refine rv (v := .int _ _) (v_add il il (fun _ => by omega)) ?_
        refine ra (.int _ _) ?_
        refine r_nil ?_
        refine ⟨i + 1, ent_look ⟨wr, wr, Weak.of_eq (int_eq (by omega)), trivial⟩, ⟨by omega, g2, gn_take hi (by omega) g3 (by simpa using ht26)⟩, by omega⟩
    ·
      refine a_exit ?_
      refine aq ?_
      refine ra (.bool _) ?_
      refine r_nil ?_
      refine a_ret ?_
      refine ret1 Tryz.results22 (by decide) (by decide) (Weak.of_eq (bool_eq ?_)) rfl Leaves.nil
      simp at ht14; refine (decide_eq_true ?_).symm
      rw [List.take_of_length_le (by omega), List.take_of_length_le (by omega)] at g3; exact g3
end Go.Av
namespace Go.Proofs
open Go.RowKit Go.Shelf
attribute [local go_sem] Oper.semAt_some
set_option maxRecDepth 100000 in
set_option maxHeartbeats 2000000 in
theorem back_loop (F : Fence) (n : Nat) (h7 : F.fn 137) (hro : F.round = none) (hn : 1 ≤ n) (l Bs Bo b off len cap : Nat) (f0 f1 f2 f3 : Nat → Int) (hreach : len ≤ 1000000) (J : Nat → World → Prop) (Jx : World → Prop)
    (hBs : ∀ k W, J k W → W.cell? ⟨Bs, Bo, none⟩ = some (.slice (some ⟨b, off, none⟩) len cap))
    (hc : ∀ k W, J k W → ∀ j, j < len → W.cell? ⟨b, off + j * 4, none⟩ = some (.int .i64 (f0 j)) ∧ W.cell? ⟨b, off + j * 4 + 1, none⟩ = some (.int .i64 (f1 j)) ∧ W.cell? ⟨b, off + j * 4 + 2, none⟩ = some (.int .i64 (f2 j)) ∧ W.cell? ⟨b, off + j * 4 + 3, none⟩ = some (.int .i64 (f3 j)))
    (hY : ∀ k W, k < len → J (k + 1) W → YieldAt F (n - 1) Tryz.prog l #[.int .i64 (k : Int), .agg #[.int .i64 (f0 k), .int .i64 (f1 k), .int .i64 (f2 k), .int .i64 (f3 k)]] W fun e W' =>
      (e = .returned (.bool true) ∧ J k W') ∨ (e = .returned (.bool false) ∧ Jx W'))
    (W : World) (h0 : J len W) :
    CallsIn F n Tryz.prog 137 #[.func (.yield l) #[] #[], .pointer (some ⟨Bs, Bo, none⟩)] W fun e W' => (∃ v, e = .returned v) ∧ (J 0 W' ∨ Jx W') := by
  refine callsIn_of_wp Tryz.func137 rfl h7 ?_ hro
  simp only [Tryz.ntmps137, List.size_toArray, List.length_cons, List.length_nil, Nat.reduceAdd, Nat.reduceSub, Array.replicate_succ, Array.replicate_zero, List.push_toArray, List.append_toArray, List.nil_append, List.cons_append]
  have hB0 := hBs _ _ h0
  gi_wp2
  gi_loopw [3] (fun i wr => ∃ k : Nat, k ≤ len ∧ i = .int .i64 ((k : Int) - 1) ∧ J k wr)
    (fun i _ => (intOf i + 1).toNat)
  case atStart => exact ⟨len, Nat.le_refl _, rfl, h0⟩
  case round =>
    obtain ⟨k, hk, rfl, hJs⟩ := hrel
    by_cases hlt : 0 < k
    · obtain ⟨m, rfl⟩ : ∃ m, k = m + 1 := ⟨k - 1, by omega⟩
      obtain ⟨fn, tmps, assign, body, hy, hR⟩ := hY m wr (by omega) hJs
      have hBk := hBs _ _ hJs
      obtain ⟨c0, c1, c2, c3⟩ := hc _ _ hJs m (by omega)
      gi_wp2
      refine hR.mono ?_
      rintro e W3 (⟨rfl, hJ3⟩ | ⟨rfl, hJx3⟩)
      · gi_wp2
        go_roundw
        case rel => exact ⟨m, by omega, by simp, hJ3⟩
        case measure => simp [intOf]
      · gi_wp2
        refine bodyPost_ret (results_none rfl _ _ _) rfl ?_
        exact ⟨⟨_, rfl⟩, .inr hJx3⟩
    · obtain rfl : k = 0 := by omega
      gi_wp2
      go_end0
      exact ⟨⟨_, rfl⟩, .inl hJs⟩
end Go.Proofs
namespace Go.Av
open Go Go.Proofs
theorem repL_at {β : Place → Option (Nat × Nat)} {F : Nat → Prop} {w : World} {cs : List AV} {p : Place} {vs : List Value} (h : RepL β F w cs p 0 vs) {i : Nat} {n : Int} (hi : cs[i]? = some (.int .i64 n)) : vs[i]? = some (.int .i64 n) := by
  obtain ⟨u, hu, hr⟩ := RepL_iff.1 h i _ hi
  simp only [Rep] at hr
  rw [hu, hr]
theorem back_it {xs : List TN} (h0 : 0 < xs.length) (hl : xs.length ≤ 1000000) (β : Place → Option (Nat × Nat)) (F : Nat → Prop) (w : World) (v : Value) (p : Place) (h : Rep β F w (.fn 137 [] [.pp [.sl (tncells xs) xs.length] 0]) p v) :
    ∃ lb, v = .func (.func 137) #[] lb ∧ BackIter Tryz.prog 137 lb w F xs.length (fun k => tnv (gn xs k)) := by
  simp only [Rep] at h
  obtain ⟨us, vs, rfl, hu, hv, _, _, _, h⟩ := h
  obtain rfl : us = [] := by simpa using hu
  obtain ⟨vp, rfl⟩ : ∃ vp, vs = [vp] := by
    match vs, hv with
    | [x], _ => exact ⟨x, rfl⟩
  simp only [RepL, Rep] at h
  obtain ⟨⟨_, b, o, arr, t, fz, rfl, hFb, hh, hr⟩, _⟩ := h
  refine ⟨_, rfl, ?_⟩
  cases hd : arr.toList.drop o with
  | nil => rw [hd] at hr; simp [RepL] at hr
  | cons sv rest =>
    rw [hd] at hr
    simp only [RepL, Rep] at hr
    obtain ⟨⟨_, a, cap, rfl, hn, hc⟩, _⟩ := hr
    obtain ⟨b2, off, arr2, t2, fz2, rfl, hF2, hh2, hr2⟩ := hc (by intro h; have := tncells_length xs; rw [h] at this; simp at this; omega)
    intro l J Jx hFz hY W hJ
    have hs : arr[o]? = some (.slice (some ⟨b2, off, none⟩) xs.length cap) := by
      have : (arr.toList.drop o)[0]? = some (.slice (some ⟨b2, off, none⟩) xs.length cap) := by rw [hd]; rfl
      simpa using this
    have e1 : ∀ k W, J k W → W.heap[b]? = some (.cells arr t fz) := fun k W h => (hFz k W h b hFb).trans hh
    have e2 : ∀ k W, J k W → W.heap[b2]? = some (.cells arr2 t2 fz2) := fun k W h => (hFz k W h b2 hF2).trans hh2
    have hg : ∀ (i : Nat) (n : Int), (tncells xs)[i]? = some (.int .i64 n) → ∀ k W, J k W → W.cell? ⟨b2, off + i, none⟩ = some (.int .i64 n) := fun i n hi k W h => by
      have := repL_at hr2 hi
      rw [List.getElem?_drop] at this
      simp only [World.cell?, e2 k W h]
      simpa using this
    refine callsIn_wide.1 (Go.Proofs.back_loop Fence.wide 1 trivial rfl (Nat.le_refl _) l b (o + 0) b2 off xs.length cap (fun k => (gn xs k).1) (fun k => (gn xs k).2.1) (fun k => (gn xs k).2.2.1) (fun k => (gn xs k).2.2.2) hl J Jx
      (fun k W h => by simp only [World.cell?, e1 k W h]; simpa using hs) (fun k W h j hj => ?_) (fun k W hk h => hY k W hk h _) W hJ)
    obtain ⟨g0, g1, g2, g3⟩ := tncells_get hj
    exact ⟨hg _ _ g0 k W h, hg _ _ g1 k W h, hg _ _ g2 k W h, hg _ _ g3 k W h⟩
end Go.Av
namespace Go.Av
open Go Go.Proofs Go.Sort
theorem es64 : elemSize Tryz.prog 64 = some 1 := by kernel_rfl
theorem hb107 : hasBody Tryz.prog 107 = true := by kernel_rfl
theorem hb108 : hasBody Tryz.prog 108 = true := by kernel_rfl
theorem hb137 : hasBody Tryz.prog 137 = true := by kernel_rfl
theorem hb94 : hasBody Tryz.prog 94 = true := by kernel_rfl
theorem lt22 : litTy Tryz.prog 22 = some (1, [.nils]) := by kernel_rfl
theorem sb4 : (Tryz.prog.info? 4).map (fun i => (i.size, i.bytes)) = some (1, 1) := by kernel_rfl
theorem ta4 : tyAgg Tryz.prog 4 = some (false, 1) := by kernel_rfl
theorem ta64 : tyAgg Tryz.prog 64 = some (false, 1) := by kernel_rfl
theorem us64 : Tryz.prog.underlying 64 = some (.slice 4) := by kernel_rfl
theorem zc22 : zeroCells Tryz.prog 22 = some [.nils] := by kernel_rfl
theorem zc4 : zeroCells Tryz.prog 4 = some [.bool false] := by kernel_rfl
theorem zc64 : zeroCells Tryz.prog 64 = some [.nils] := by kernel_rfl
theorem back_c (xs : List TN) : ACall Tryz.prog 107 [.sl (tncells xs) xs.length] [] (.fn 137 [] [.pp [.sl (tncells xs) xs.length] 0]) [] := by
 refine ACall.intro Tryz.func107 rfl (N := 4) rfl (by decide) (by simp) ?_
 refine aq ?_
 refine rn (v := .pp _ _) (QSem.cast (q_boxZ il rfl rfl) (rfl)) ?_
 refine ra .undef ?_
 refine r_nil ?_
 refine aq ?_
 refine rv (v := .fn _ _ _) (v_makeFunc (first := []) (caps := [.tmp 1]) rfl rfl) ?_
 refine rv (v := .fn _ _ _) (v_as rfl) ?_
 refine r_nil ?_
 refine a_ret ?_
 refine ret1 Tryz.results107 (by decide) (by decide) (Weak.of_eq ?_) rfl Leaves.nil
 rfl
theorem iPaths_c (vars m : Int) (xs : List TN) (hv : 0 ≤ vars ∧ vars ≤ 12) (h0 : 0 < xs.length) (hl : xs.length ≤ 199) (ha : allN vars m xs = true) : ACall Tryz.prog 56 [.sl (tncells xs) xs.length] [] (.tup [.osl 1 (sls (pthL xs)) (pthL xs).length none, .bool (trI xs 0).isSome]) [] := by
 refine BCall.intro Tryz.func56 rfl (N := 86) rfl (by decide) (by simp) ?_
 refine b_seqA ?_
 refine a_region ?_
 refine rn (v := .op [.nils]) (q_alloc zc22) ?_
 refine rn (v := .op [.bool _]) (q_alloc zc4) ?_
 refine r_nil ?_
 refine b_seqA ?_
 refine a_region ?_
 refine rm (.sl _ _) ?_
 refine rv (v := .int _ _) (v_len_sl sl44 il) ?_
 refine rn (v := .osl _ _ _ _) (q_makeSlice us22 sb25 zc25 rfl (by decide) il il (fun _ => by omega)) ?_
 refine rn (v := .op [.nils]) (q_alloc zc22) ?_
 refine r_pre (ent_eq (t := 10) (v' := .osl 1 (sls (List.replicate xs.length [])) xs.length none) weak_rows) ?_
 refine r_step rfl (o_store_own (v := .osl _ _ _ _) (y' := .op [.osl _ _ _ _]) rfl rfl ta22 (.inl rfl) (by decide) rfl (by decide) rfl (by simp [cellsOf, noRefL, noRef, sls_noRef]) rfl rfl rfl rfl rfl (Nat.le_of_ble_eq_true rfl) rfl rfl) ?_
 refine r_nil ?_
 refine b_seqA ?_
 refine a_region ?_
 refine rm (.sl _ _) ?_
 refine rv (v := .int _ _) (v_len_sl sl44 il) ?_
 refine rn (v := .osl _ _ _ _) (q_makeSlice us64 sb4 zc4 rfl (by decide) il il (fun _ => by omega)) ?_
 refine rn (v := .op [.nils]) (q_alloc zc64) ?_
 refine r_pre (ent_eq (t := 13) (v' := .osl 1 (blcells (List.replicate xs.length false)) xs.length none) (Weak.osl (bl_rep _).symm rfl)) ?_
 refine r_step rfl (o_store_own (v := .osl _ _ _ _) (y' := .op [.osl _ _ _ _]) rfl rfl ta64 (.inl rfl) (by decide) rfl (by decide) rfl (by simp [cellsOf, noRefL, noRef, bl_noRef]) rfl rfl rfl rfl rfl (Nat.le_of_ble_eq_true rfl) rfl rfl) ?_
 refine r_nil ?_
 refine b_seqA ?_
 have hpl : (((xs.length : Int) - 1).toNat) * 1 + 1 ≤ (blcells (List.replicate xs.length false)).length := (by rw [bl_len]; simp; omega)
 have hset : (blcells (List.replicate xs.length false)).set (((xs.length : Int) - 1).toNat * 1) (.bool true) = blcells (seenL xs xs.length) := (by rw [Nat.mul_one, bl_set, seen_top, show ((xs.length : Int) - 1).toNat = xs.length - 1 by omega])
 refine a_region ?_
 refine rv (v := .rsl _ _ _ _ _) (v_load_rp (c := .osl _ _ _ _) ta64 il rfl (fun _ => rfl)) ?_
 refine rm (.sl _ _) ?_
 refine rv (v := .int _ _) (v_len_sl sl44 il) ?_
 refine rv (v := .int _ _) (v_sub il il (fun _ => by omega)) ?_
 refine rv (v := .rp _ _) (v_indexAddr_rsl0 es64 il il (fun _ => by omega)) ?_
 refine r_step rfl (o_store (v := .bool _) (y' := .op [.osl _ _ _ _]) rfl rfl ta4 il il rfl rfl rfl rfl rfl rfl hpl (by decide) rfl (congrArg (fun c => AV.op [AV.osl 1 c xs.length none]) hset)) ?_
 refine r_nil ?_
 refine b_seqB ?_
 refine b_seqA ?_
 refine a_region ?_
 refine rm (.sl _ _) ?_
 refine rn (v := .fn _ _ _) (q_callF (vs := [.sl _ _]) (args := [.sl _ _]) hb107 ⟨il, trivial⟩ rfl (fun hA => back_c xs) rfl rfl) ?_
 refine r_nil ?_
 refine b_block ?_
 refine b_pre (ent_look (L := [(2, .op [.nils]), (3, .op [.bool _]), (4, .op [.osl _ _ _ _]), (5, .op [.osl _ _ _ _]), (20, .fn _ _ _)]) ⟨wr, wr, wr, wr, wr, trivial⟩) ?_
 refine b_range (fun k => .agg [.int .i64 (gn xs k).1, .int .i64 (gn xs k).2.1, .int .i64 (gn xs k).2.2.1, .int .i64 (gn xs k).2.2.2]) [2, 3, 4, 5] [(2, .rp (2000002, []) 0), (3, .rp (2000003, []) 0), (4, .rp (2000004, []) 0), (5, .rp (2000005, []) 0)] (fun k => [(2000002, .op [.nils]), (2000003, .op [.bool false]), (2000004, .op [.osl 1 (sls (trP xs k)) xs.length none]), (2000005, .op [.osl 1 (blcells (seenL xs k)) xs.length none])]) (fun k => (trI xs k).isSome = true) (by decide) (by decide) rfl hb137 (back_it h0 (by omega)) (fun k hk => ⟨rfl, fun β F w p => tn_rep β F w p⟩) ⟨by decide, by decide, by decide⟩ rfl ⟨rfl, rfl, nr_rows, nr_bools, trivial⟩ (ent_look ⟨wr, wr, wr, wr, wr, wr, Weak.of_eq (congrArg (fun P => AV.op [AV.osl 1 (sls P) xs.length none]) (tr_top xs).symm), wr, trivial⟩) (by rw [trI_top]; rfl) (fun k hk => ⟨rfl, ⟨⟨by decide, .inr rfl⟩, ⟨by decide, .inr rfl⟩, ⟨by decide, .inr rfl⟩, ⟨by decide, .inr rfl⟩, trivial⟩, ⟨rfl, rfl, nr_rows, nr_bools, trivial⟩⟩) (fun k hk hG => ?_) (fun hG => ?_)
 ·
  have hPo := tr_ok hv ha hG
  refine a_pre (ent_look (L := [(22, .agg [.int .i64 (gn xs k).1, .int .i64 (gn xs k).2.1, .int .i64 (gn xs k).2.2.1, .int .i64 (gn xs k).2.2.2]), (21, .int .i64 ((k : Nat) : Int)), (2, .rp (2000002, []) 0), (3, .rp (2000003, []) 0), (4, .rp (2000004, []) 0), (5, .rp (2000005, []) 0), (2000002, .op [.nils]), (2000003, .op [.bool false]), (2000004, .op [.osl 1 (sls (trP xs (k + 1))) xs.length none]), (2000005, .op [.osl 1 (blcells (seenL xs (k + 1))) xs.length none])]) ⟨wr, wr, wr, wr, wr, wr, wr, wr, wr, wr, trivial⟩) ?_
  refine aq ?_
  refine ra (.int _ _) ?_
  refine r_nil ?_
  refine a_region ?_
  refine rn (v := .op [.int _ _, .int _ _, .int _ _, .int _ _]) (q_alloc zc75) ?_
  refine r_step rfl (o_store (v := .agg [.int _ _, .int _ _, .int _ _, .int _ _]) (y' := .op [.int _ _, .int _ _, .int _ _, .int _ _]) rfl rfl ta75 il il rfl rfl rfl rfl rfl rfl (Nat.le_of_ble_eq_true rfl) (by decide) rfl rfl) ?_
  refine r_nil ?_
  refine ⟨rfl, ?_⟩
  refine a_block ?_
  refine a_seq ?_
  refine aq ?_
  refine rv (v := .rsl _ _ _ _ _) (v_load_rp (c := .osl _ _ _ _) ta64 il rfl (fun _ => rfl)) ?_
  refine rm (.int _ _) ?_
  refine rv (v := .rp _ _) (v_indexAddr_rsl0 es64 il il (fun _ => by omega)) ?_
  refine rv (v := .bool (seenB xs (k + 1) k)) (v_load_rp1 ta4 il rfl (fun _ => by rw [Nat.mul_one]; exact bl_get (seenL_get hk)) rfl) ?_
  refine rv (v := .bool _) (v_not il) ?_
  refine r_nil ?_
  refine a_cond rfl (fun ht27 => ?_) (fun ht27 => ?_)
  ·
   refine a_seq ?_
   have hun := tr_unseen hk hG (by simpa using ht27)
   refine a_region ?_
   refine r_step rfl (o_store (v := .nils) (y' := .op [.nils]) rfl rfl ta22 il il rfl rfl rfl rfl rfl rfl (Nat.le_of_ble_eq_true rfl) (by decide) rfl rfl) ?_
   refine r_step rfl (o_store (v := .bool _) (y' := .op [.bool _]) rfl rfl ta4 il il rfl rfl rfl rfl rfl rfl (Nat.le_of_ble_eq_true rfl) (by decide) rfl rfl) ?_
   refine r_nil ?_
   refine a_pre (ent_nil_at (t := 2000002) (r := [0]) (sz := 1) rfl (.inl rfl) rfl rfl) ?_
   refine a_ret ?_
   refine ⟨[(2000002, .op [.osl 1 [] 0 none]), (2000003, .op [.bool false]), (2000004, .op [.osl 1 (sls (trP xs (k + 1))) xs.length none]), (2000005, .op [.osl 1 (blcells (seenL xs (k + 1))) xs.length none])], ent_look ⟨wr, wr, wr, wr, trivial⟩, ⟨rfl, ⟨⟨by decide, .inr rfl⟩, ⟨by decide, .inr rfl⟩, ⟨by decide, .inr rfl⟩, ⟨by decide, .inr rfl⟩, trivial⟩, ⟨rfl, rfl, nr_rows, nr_bools, trivial⟩⟩, ?_⟩
   refine Returns.pre (ent_look (L := [(2, .op [.osl 1 [] 0 none]), (3, .op [.bool false]), (4, .op [.osl 1 (sls (trP xs (k + 1))) xs.length none]), (5, .op [.osl 1 (blcells (seenL xs (k + 1))) xs.length none])]) ⟨wr, wr, wr, wr, trivial⟩) ?_
   refine retL (rs := [.cell 2 22, .cell 3 4]) [(2, .op [.osl _ _ _ none]), (3, .op [.bool _])] ⟨wr, wr, trivial⟩ rfl Tryz.results56 (by decide) ⟨by decide, .osl _ _ _ none, cell_one rfl ta22, by decide, .bool _, cell_one rfl ta4, rfl⟩ (by decide) (by decide) (l2_eq (osl_eq2 ?_ ?_) (bool_eq ?_)) rfl
   all_goals (first | exact hun.symm | (rw [pth_none hun]; rfl))
  ·
   refine a_skip ?_
   refine a_seq ?_
   refine a_seq ?_
   have hse : seenB xs (k + 1) k = true := (by simpa using ht27)
   refine a_region ?_
   refine rv (v := .rp _ _) (v_fieldAddr_rp fo75_0 il) ?_
   refine rv (v := .int _ _) (v_load_rp1 ta3 il rfl (fun _ => rfl) rfl) ?_
   refine rv (v := .bool _) (v_eql il il) ?_
   refine r_nil ?_
   refine a_cond rfl (fun ht30 => ?_) (fun ht30 => ?_)
   ·
    refine a_exit ?_
    exact ⟨ent_look ⟨wr, wr, Weak.of_eq (congrArg (fun P => AV.op [AV.osl 1 (sls P) xs.length none]) (tr_leaf hk hG hse (by simpa [nV] using ht30)).1.symm), Weak.of_eq (congrArg (fun B => AV.op [AV.osl 1 (blcells B) xs.length none]) (seen_leaf hk (by simpa [nV] using ht30)).symm), trivial⟩, (tr_leaf hk hG hse (by simpa [nV] using ht30)).2⟩
   ·
    refine a_skip ?_
    refine a_seq ?_
    refine a_seq ?_
    have hvn : nV xs k ≠ 0 := (by simpa [nV] using ht30)
    have hin := inner_spec (allN_spec ha k hk) hvn
    have hde := ded_on (p := gl (trP xs (k + 1)) k) (v := (gn xs k).1) (by unfold nV at hin; omega)
    have hpc := clB_len (hPo.2 k)
    have hps := clB_sm (hPo.2 k)
    refine a_region_any mixed (by kernel_rfl) ?_
    refine yv (v := .rsl _ _ _ _ _) (v_load_rp (c := .osl _ _ _ _) ta64 il rfl (fun _ => rfl)) ?_
    refine yv (v := .rp _ _) (v_fieldAddr_rp fo75_1 il) ?_
    refine yv (v := .int _ _) (v_load_rp1 ta3 il rfl (fun _ => rfl) rfl) ?_
    refine yv (v := .rp _ _) (v_indexAddr_rsl0 es64 il il (fun _ => by omega)) ?_
    refine yv (v := .bool (seenB xs (k + 1) (nLo xs k))) (v_load_rp1 ta4 il rfl (fun _ => by rw [Nat.mul_one]; exact bl_get (seenL_get (show nLo xs k < xs.length by omega))) rfl) ?_
    refine yv (v := .bool _) (v_move il nf) ?_
    refine yh (v := .rsl _ _ _ _ _) (v_load_rp (c := .osl _ _ _ _) ta64 il rfl (fun _ => rfl)).quiet ?_
    refine yh (v := .rp _ _) (v_fieldAddr_rp fo75_2 il).quiet ?_
    refine yg (v := .int _ _) (v_load_rp1 ta3 (.inr ⟨_, rfl, fun h => h⟩) rfl (fun _ => rfl) rfl).quiet rfl rfl rfl (by decide) (.inl ⟨_, rfl, rfl⟩) ?_
    refine yg (v := .rp _ _) (v_indexAddr_rsl0 es64 (.inr ⟨_, rfl, fun h => h⟩) (.inr ⟨_, rfl, fun h => h⟩) (fun _ => by omega)).quiet rfl rfl rfl (by decide) (.inl ⟨_, rfl, rfl⟩) ?_
    refine yg (v := .bool (seenB xs (k + 1) (nHi xs k))) (v_load_rp1 ta4 (.inr ⟨_, rfl, fun h => h⟩) rfl (fun _ => by rw [Nat.mul_one]; exact bl_get (seenL_get (show nHi xs k < xs.length by omega))) rfl).quiet rfl rfl rfl (by decide) (.inl ⟨_, rfl, rfl⟩) ?_
    refine yv (v := .bool _) (v_pick (.inl rfl) (.inl rfl) (.inr ⟨_, rfl, fun h h2 => by simp_all⟩)) ?_
    refine yv (v := .bool _) (v_move il nf) ?_
    refine yh (v := .rsl _ _ _ _ _) (v_load_rp (c := .osl _ _ _ _) ta22 il rfl (fun _ => rfl)).quiet ?_
    refine yh (v := .int _ _) (v_move il nf).quiet ?_
    refine yg (v := .rp _ _) (v_indexAddr_rsl0 es22 (.inr ⟨_, rfl, fun h => h⟩) (.inr ⟨_, rfl, fun h => h⟩) (fun _ => by omega)).quiet rfl rfl rfl (by decide) (.inl ⟨_, rfl, rfl⟩) ?_
    refine yg (v := .sl (icells (gl (trP xs (k + 1)) k)) (gl (trP xs (k + 1)) k).length) (v_load_rp1 ta25 (.inr ⟨_, rfl, fun h => h⟩) rfl (fun _ => by rw [Nat.mul_one]; exact sls_get (show k < (trP xs (k + 1)).length by rw [hPo.1]; exact hk)) rfl).quiet rfl rfl rfl (by decide) (.inl ⟨_, rfl, rfl⟩) ?_
    refine yg (v := .sl [.sl (icells (gl (trP xs (k + 1)) k)) (gl (trP xs (k + 1)) k).length] 1) ((q_sliceLit1Z (v := .sl _ _) (cs := [.sl (icells (gl (trP xs (k + 1)) k)) (gl (trP xs (k + 1)) k).length]) (.inr ⟨_, rfl, fun h => h⟩) nf lt22 rfl rfl rfl rfl).cast (by first | rfl | rw [shL_id _ (ic_pure _).1 (ic_pure _).2])) rfl rfl rfl (by decide) (.inl ⟨_, rfl, rfl⟩) ?_
    refine yg (v := .sl _ _) (QSem.cast (q_callZ (vs := [.sl _ _]) (args := [.sl _ _]) hb108 ⟨.inr ⟨_, rfl, fun h => h⟩, trivial⟩ rfl (fun hA => varsOf1_c (gl (trP xs (k + 1)) k) hpc hps) (ic_noSh _) (ic_noRef _)) (sl_shZ (ic_pure _))) rfl rfl rfl (by decide) (.inl ⟨_, rfl, rfl⟩) ?_
    refine yh (v := .rp _ _) (v_fieldAddr_rp fo75_0 il).quiet ?_
    refine yg (v := .int _ _) (v_load_rp1 ta3 (.inr ⟨_, rfl, fun h => h⟩) rfl (fun _ => rfl) rfl).quiet rfl rfl rfl (by decide) (.inl ⟨_, rfl, rfl⟩) ?_
    refine yg (v := .bool _) (q_call (vs := [.sl _ _, .int _ _]) (args := [.sl _ _, .int .i64 _]) hb59 ⟨.inr ⟨_, rfl, fun h => h⟩, .inr ⟨_, rfl, fun h => h⟩, trivial⟩ rfl (fun hA => contains_c (dedN (insertionSort (fun x y : Int => decide (x < y)) ((gl (trP xs (k + 1)) k).map fun x => max x (-x)).toArray 0 ((gl (trP xs (k + 1)) k).map fun x => max x (-x)).length) ((gl (trP xs (k + 1)) k).map fun x => max x (-x)).length) _ (ded_few9 hpc)) rfl rfl) rfl rfl rfl (by decide) (.inl ⟨_, rfl, rfl⟩) ?_
    refine yv (v := .bool _) (v_pick (.inl rfl) (.inl rfl) (.inr ⟨_, rfl, fun h h2 => by simp_all⟩)) ?_
    refine y_nil ?_
    refine a_cond rfl (fun ht53 => ?_) (fun ht53 => ?_)
    ·
     refine a_seq ?_
     refine a_pre (ent_look (L := [(2, .rp _ _), (3, .rp _ _), (4, .rp _ _), (5, .rp _ _), (6, .int _ _), (7, .op [.int _ _, .int _ _, .int _ _, .int _ _]), (2000002, .op [.nils]), (2000003, .op [.bool _]), (2000004, .op [.osl _ _ _ _]), (2000005, .op [.osl _ _ _ _])]) ⟨wr, wr, wr, wr, wr, wr, wr, wr, wr, wr, trivial⟩) ?_
     have hbad := tr_bad hk hG hvn (by rw [hde] at ht53; unfold trOn nV; revert ht53; cases seenB xs (k + 1) (nLo xs k) <;> cases seenB xs (k + 1) (nHi xs k) <;> simp)
     refine a_region ?_
     refine r_step rfl (o_store (v := .nils) (y' := .op [.nils]) rfl rfl ta22 il il rfl rfl rfl rfl rfl rfl (Nat.le_of_ble_eq_true rfl) (by decide) rfl rfl) ?_
     refine r_step rfl (o_store (v := .bool _) (y' := .op [.bool _]) rfl rfl ta4 il il rfl rfl rfl rfl rfl rfl (Nat.le_of_ble_eq_true rfl) (by decide) rfl rfl) ?_
     refine r_nil ?_
     refine a_pre (ent_nil_at (t := 2000002) (r := [0]) (sz := 1) rfl (.inl rfl) rfl rfl) ?_
     refine a_ret ?_
     refine ⟨[(2000002, .op [.osl 1 [] 0 none]), (2000003, .op [.bool false]), (2000004, .op [.osl 1 (sls (trP xs (k + 1))) xs.length none]), (2000005, .op [.osl 1 (blcells (seenL xs (k + 1))) xs.length none])], ent_look ⟨wr, wr, wr, wr, trivial⟩, ⟨rfl, ⟨⟨by decide, .inr rfl⟩, ⟨by decide, .inr rfl⟩, ⟨by decide, .inr rfl⟩, ⟨by decide, .inr rfl⟩, trivial⟩, ⟨rfl, rfl, nr_rows, nr_bools, trivial⟩⟩, ?_⟩
     refine Returns.pre (ent_look (L := [(2, .op [.osl 1 [] 0 none]), (3, .op [.bool false]), (4, .op [.osl 1 (sls (trP xs (k + 1))) xs.length none]), (5, .op [.osl 1 (blcells (seenL xs (k + 1))) xs.length none])]) ⟨wr, wr, wr, wr, trivial⟩) ?_
     refine retL (rs := [.cell 2 22, .cell 3 4]) [(2, .op [.osl _ _ _ none]), (3, .op [.bool _])] ⟨wr, wr, trivial⟩ rfl Tryz.results56 (by decide) ⟨by decide, .osl _ _ _ none, cell_one rfl ta22, by decide, .bool _, cell_one rfl ta4, rfl⟩ (by decide) (by decide) (l2_eq (osl_eq2 ?_ ?_) (bool_eq ?_)) rfl
     all_goals (first | exact hbad.symm | (rw [pth_none hbad]; rfl))
    ·
     refine a_skip ?_
     refine a_seq ?_
     refine a_pre (ent_look (L := [(2, .rp _ _), (3, .rp _ _), (4, .rp _ _), (5, .rp _ _), (6, .int _ _), (7, .op [.int _ _, .int _ _, .int _ _, .int _ _]), (2000002, .op [.nils]), (2000003, .op [.bool _]), (2000004, .op [.osl _ _ _ _]), (2000005, .op [.osl _ _ _ _])]) ⟨wr, wr, wr, wr, wr, wr, wr, wr, wr, wr, trivial⟩) ?_
     have hgo : (seenB xs (k + 1) (nLo xs k) || seenB xs (k + 1) (nHi xs k) || trOn xs k (trP xs (k + 1))) = false := (by rw [hde] at ht53; unfold trOn nV; revert ht53; cases seenB xs (k + 1) (nLo xs k) <;> cases seenB xs (k + 1) (nHi xs k) <;> simp)
     have hgood := tr_good hk hG hse hvn hgo
     have hon := trOn_no (by simp at hgo; exact hgo.2)
     have hl1 : litB vars (nV xs k) = true := litB_spec.2 ⟨by omega, by omega⟩
     have hl2 : litB vars (-(nV xs k)) = true := litB_spec.2 ⟨by omega, by omega⟩
     have hp1 : (nLo xs k) * 1 + 1 ≤ (blcells (seenL xs (k + 1))).length := (by rw [bl_len]; simp [seenL_len]; omega)
     have hs1 : (blcells (seenL xs (k + 1))).set ((nLo xs k) * 1) (.bool true) = blcells ((seenL xs (k + 1)).set (nLo xs k) true) := (by rw [Nat.mul_one, bl_set])
     have hp2 : (nHi xs k) * 1 + 1 ≤ (blcells ((seenL xs (k + 1)).set (nLo xs k) true)).length := (by rw [bl_len]; simp [seenL_len]; omega)
     have hs2 : (blcells ((seenL xs (k + 1)).set (nLo xs k) true)).set ((nHi xs k) * 1) (.bool true) = blcells (((seenL xs (k + 1)).set (nLo xs k) true).set (nHi xs k) true) := (by rw [Nat.mul_one, bl_set])
     have hp3 : (nLo xs k) * 1 + 1 ≤ (sls (trP xs (k + 1))).length := (by rw [sls_length]; simp [hPo.1]; omega)
     have hs3 : (sls (trP xs (k + 1))).set ((nLo xs k) * 1) (.sl (icells (setLit (gl (trP xs (k + 1)) k) (-(nV xs k)))) (setLit (gl (trP xs (k + 1)) k) (-(nV xs k))).length) = sls ((trP xs (k + 1)).set (nLo xs k) (setLit (gl (trP xs (k + 1)) k) (-(nV xs k)))) := (by rw [Nat.mul_one, sls_set])
     have hp4 : (nHi xs k) * 1 + 1 ≤ (sls ((trP xs (k + 1)).set (nLo xs k) (setLit (gl (trP xs (k + 1)) k) (-(nV xs k))))).length := (by rw [sls_length]; simp [hPo.1]; omega)
     have hs4 : (sls ((trP xs (k + 1)).set (nLo xs k) (setLit (gl (trP xs (k + 1)) k) (-(nV xs k))))).set ((nHi xs k) * 1) (.sl (icells (setLit (gl (trP xs (k + 1)) k) (nV xs k))) (setLit (gl (trP xs (k + 1)) k) (nV xs k)).length) = sls (((trP xs (k + 1)).set (nLo xs k) (setLit (gl (trP xs (k + 1)) k) (-(nV xs k)))).set (nHi xs k) (setLit (gl (trP xs (k + 1)) k) (nV xs k))) := (by rw [Nat.mul_one, sls_set])
     have hrow : gl ((trP xs (k + 1)).set (nLo xs k) (setLit (gl (trP xs (k + 1)) k) (-(nV xs k)))) k = gl (trP xs (k + 1)) k := (by rw [gl_set, if_neg (by omega)])
     have hPf : ((trP xs (k + 1)).set (nLo xs k) (setLit (gl (trP xs (k + 1)) k) (-(nV xs k)))).set (nHi xs k) (setLit (gl (trP xs (k + 1)) k) (nV xs k)) = trP xs k := (by rw [hgood.1]; unfold trPut; rw [set_put hon.1 hon.2, set_put hon.2 (by rw [Int.neg_neg]; exact hon.1)])
     refine a_region ?_
     refine rv (v := .rsl _ _ _ _ _) (v_load_rp (c := .osl _ _ _ _) ta64 il rfl (fun _ => rfl)) ?_
     refine rv (v := .rp _ _) (v_fieldAddr_rp fo75_1 il) ?_
     refine rv (v := .int _ _) (v_load_rp1 ta3 il rfl (fun _ => rfl) rfl) ?_
     refine rv (v := .rp _ _) (v_indexAddr_rsl0 es64 il il (fun _ => by omega)) ?_
     refine r_step rfl (o_store (v := .bool _) (y' := .op [.osl _ _ _ _]) rfl rfl ta4 il il rfl rfl rfl rfl rfl rfl hp1 (by decide) rfl (congrArg (fun c => AV.op [AV.osl 1 c xs.length none]) hs1)) ?_
     refine r_nil ?_
     refine aq ?_
     refine rv (v := .rsl _ _ _ _ _) (v_load_rp (c := .osl _ _ _ _) ta64 il rfl (fun _ => rfl)) ?_
     refine rv (v := .rp _ _) (v_fieldAddr_rp fo75_2 il) ?_
     refine rv (v := .int _ _) (v_load_rp1 ta3 il rfl (fun _ => rfl) rfl) ?_
     refine rv (v := .rp _ _) (v_indexAddr_rsl0 es64 il il (fun _ => by omega)) ?_
     refine r_step rfl (o_store (v := .bool _) (y' := .op [.osl _ _ _ _]) rfl rfl ta4 il il rfl rfl rfl rfl rfl rfl hp2 (by decide) rfl (congrArg (fun c => AV.op [AV.osl 1 c xs.length none]) hs2)) ?_
     refine r_nil ?_
     refine a_seq ?_
     refine a_region_z (n := 12) [[(62, true)], [(63, true)], [(64, true)], [(65, true)], [(66, true)], [(67, true)], [(68, true)], [(69, true)], [(70, true)], [(71, true)], [(72, true)], [(73, true)]] mixed (by kernel_rfl) ?_
     refine z_val (v := .rsl _ _ _ _ _) (v_load_rp (c := .osl _ _ _ _) ta22 il rfl (fun _ => rfl)) rfl rfl (by decide) rfl (by kernel_rfl) ?_
     refine z_val (v := .rp _ _) (v_fieldAddr_rp fo75_1 il) rfl rfl (by decide) rfl (by kernel_rfl) ?_
     refine z_val (v := .int _ _) (v_load_rp1 ta3 il rfl (fun _ => rfl) rfl) rfl rfl (by decide) rfl (by kernel_rfl) ?_
     refine z_val (v := .rsl _ _ _ _ _) (v_load_rp (c := .osl _ _ _ _) ta22 il rfl (fun _ => rfl)) rfl rfl (by decide) rfl (by kernel_rfl) ?_
     refine z_val (v := .int _ _) (v_move il nf) rfl rfl (by decide) rfl (by kernel_rfl) ?_
     refine z_val (v := .rp _ _) (v_indexAddr_rsl0 es22 il il (fun _ => by omega)) rfl rfl (by decide) rfl (by kernel_rfl) ?_
     refine z_val (v := .sl (icells (gl (trP xs (k + 1)) k)) (gl (trP xs (k + 1)) k).length) (v_load_rp1 ta25 il rfl (fun _ => by rw [Nat.mul_one]; exact sls_get (show k < (trP xs (k + 1)).length by rw [hPo.1]; exact hk)) rfl) rfl rfl (by decide) rfl (by kernel_rfl) ?_
     refine z_val (v := .rp _ _) (v_fieldAddr_rp fo75_0 il) rfl rfl (by decide) rfl (by kernel_rfl) ?_
     refine z_val (v := .int _ _) (v_load_rp1 ta3 il rfl (fun _ => rfl) rfl) rfl rfl (by decide) rfl (by kernel_rfl) ?_
     refine z_val (v := .int _ _) (v_neg il (fun _ => by unfold nV at hin; omega)) rfl rfl (by decide) rfl (by kernel_rfl) ?_
     refine z_new (v := .sl _ _) (QSem.cast (q_callZ (vs := [.sl _ _, .int _ _]) (args := [.sl _ _, .int .i64 _]) hb94 ⟨il, il, trivial⟩ rfl (fun hA => set_c vars (gl (trP xs (k + 1)) k) (-(nV xs k)) (hPo.2 k) hl2) (ic_noSh _) (ic_noRef _)) (sl_shZ (ic_pure _))) rfl rfl (by decide) rfl (by kernel_rfl) ?_
     refine z_val (v := .rp _ _) (v_indexAddr_rsl0 es22 il il (fun _ => by omega)) rfl rfl (by decide) rfl (by kernel_rfl) ?_
     refine z_nil ?_
     refine r_step rfl (o_store (v := .sl _ _) (y' := .op [.osl _ _ _ _]) rfl rfl ta25 il il rfl rfl rfl rfl rfl rfl hp3 (by decide) rfl (congrArg (fun c => AV.op [AV.osl 1 c xs.length none]) hs3)) ?_
     refine r_nil ?_
     refine a_pre (ent_look (L := [(2, .rp _ _), (3, .rp _ _), (4, .rp _ _), (5, .rp _ _), (6, .int _ _), (7, .op [.int _ _, .int _ _, .int _ _, .int _ _]), (2000002, .op [.nils]), (2000003, .op [.bool _]), (2000004, .op [.osl _ _ _ _]), (2000005, .op [.osl _ _ _ _])]) ⟨wr, wr, wr, wr, wr, wr, wr, wr, wr, wr, trivial⟩) ?_
     refine a_region_z (n := 11) [[(74, true)], [(75, true)], [(76, true)], [(77, true)], [(78, true)], [(79, true)], [(80, true)], [(81, true)], [(82, true)], [(83, true)], [(84, true)]] mixed (by kernel_rfl) ?_
     refine z_val (v := .rsl _ _ _ _ _) (v_load_rp (c := .osl _ _ _ _) ta22 il rfl (fun _ => rfl)) rfl rfl (by decide) rfl (by kernel_rfl) ?_
     refine z_val (v := .rp _ _) (v_fieldAddr_rp fo75_2 il) rfl rfl (by decide) rfl (by kernel_rfl) ?_
     refine z_val (v := .int _ _) (v_load_rp1 ta3 il rfl (fun _ => rfl) rfl) rfl rfl (by decide) rfl (by kernel_rfl) ?_
     refine z_val (v := .rsl _ _ _ _ _) (v_load_rp (c := .osl _ _ _ _) ta22 il rfl (fun _ => rfl)) rfl rfl (by decide) rfl (by kernel_rfl) ?_
     refine z_val (v := .int _ _) (v_move il nf) rfl rfl (by decide) rfl (by kernel_rfl) ?_
     refine z_val (v := .rp _ _) (v_indexAddr_rsl0 es22 il il (fun _ => by omega)) rfl rfl (by decide) rfl (by kernel_rfl) ?_
     refine z_val (v := .sl (icells (gl (trP xs (k + 1)) k)) (gl (trP xs (k + 1)) k).length) (v_load_rp1 ta25 il rfl (fun _ => by rw [Nat.mul_one]; have := sls_get (L := ((trP xs (k + 1)).set (nLo xs k) (setLit (gl (trP xs (k + 1)) k) (-(nV xs k))))) (i := k) (by rw [List.length_set, hPo.1]; exact hk); rw [hrow] at this; exact this) rfl) rfl rfl (by decide) rfl (by kernel_rfl) ?_
     refine z_val (v := .rp _ _) (v_fieldAddr_rp fo75_0 il) rfl rfl (by decide) rfl (by kernel_rfl) ?_
     refine z_val (v := .int _ _) (v_load_rp1 ta3 il rfl (fun _ => rfl) rfl) rfl rfl (by decide) rfl (by kernel_rfl) ?_
     refine z_new (v := .sl _ _) (QSem.cast (q_callZ (vs := [.sl _ _, .int _ _]) (args := [.sl _ _, .int .i64 _]) hb94 ⟨il, il, trivial⟩ rfl (fun hA => set_c vars (gl (trP xs (k + 1)) k) (nV xs k) (hPo.2 k) hl1) (ic_noSh _) (ic_noRef _)) (sl_shZ (ic_pure _))) rfl rfl (by decide) rfl (by kernel_rfl) ?_
     refine z_val (v := .rp _ _) (v_indexAddr_rsl0 es22 il il (fun _ => by omega)) rfl rfl (by decide) rfl (by kernel_rfl) ?_
     refine z_nil ?_
     refine r_step rfl (o_store (v := .sl _ _) (y' := .op [.osl _ _ _ _]) rfl rfl ta25 il il rfl rfl rfl rfl rfl rfl hp4 (by decide) rfl (congrArg (fun c => AV.op [AV.osl 1 c xs.length none]) hs4)) ?_
     refine r_nil ?_
     exact ⟨ent_look ⟨wr, wr, Weak.of_eq (congrArg (fun P => AV.op [AV.osl 1 (sls P) xs.length none]) hPf), Weak.of_eq (congrArg (fun B => AV.op [AV.osl 1 (blcells B) xs.length none]) (seen_inner hk hvn)), trivial⟩, hgood.2⟩
 ·
  refine b_pre (ent_look (L := [(2, .op [.nils]), (3, .op [.bool false]), (4, .op [.osl 1 (sls (trP xs 0)) xs.length none]), (5, .op [.osl 1 (blcells (seenL xs 0)) xs.length none])]) ⟨wr, wr, wr, wr, trivial⟩) ?_
  refine b_lift ?_
  refine aq ?_
  refine rv (v := .rsl _ _ _ _ _) (v_load_rp (c := .osl _ _ _ _) ta22 il rfl (fun _ => rfl)) ?_
  refine r_pre (ent_reloc_sl (t := 85) rfl rfl) ?_
  refine r_step rfl (o_store_own (v := .osl _ _ _ _) (y' := .op [.osl _ _ _ _]) rfl rfl ta22 (.inl rfl) (by decide) rfl (by decide) rfl (by simp [cellsOf, noRefL, noRef, sls_noRef]) rfl rfl rfl rfl rfl (Nat.le_of_ble_eq_true rfl) rfl rfl) ?_
  refine r_step rfl (o_store (v := .bool _) (y' := .op [.bool _]) rfl rfl ta4 il il rfl rfl rfl rfl rfl rfl (Nat.le_of_ble_eq_true rfl) (by decide) rfl rfl) ?_
  refine r_nil ?_
  refine a_ret ?_
  refine retL (rs := [.cell 2 22, .cell 3 4]) [(2, .op [.osl _ _ _ none]), (3, .op [.bool _])] ⟨wr, wr, trivial⟩ rfl Tryz.results56 (by decide) ⟨by decide, .osl _ _ _ none, cell_one rfl ta22, by decide, .bool _, cell_one rfl ta4, rfl⟩ (by decide) (by decide) (l2_eq (osl_eq2 ?_ ?_) (bool_eq ?_)) rfl
  all_goals (first | rfl | exact hG.symm | exact (tr_ok hv ha hG).1.symm)
theorem hb150 : hasBody Tryz.prog 150 = true := by kernel_rfl
theorem hb56 : hasBody Tryz.prog 56 = true := by kernel_rfl
theorem isTree_c (vars : Int) (L : List (List Int)) (xs : List TN) (hk : CnfOk vars L) (hl : xs.length ≤ 1048576) : ACall Tryz.prog 135 [.agg [.int .i64 vars, .sl (sls L) L.length], .sl (tncells xs) xs.length] [] (.bool (treeB vars L xs)) [] := by
 refine ACall.intro Tryz.func135 rfl (N := 37) rfl (by decide) (by simp) ?_
 refine aq ?_
 refine rn (v := .op [.int _ _, .sl _ _]) (q_box il rfl rfl) ?_
 refine ra (.bool _) ?_
 refine r_nil ?_
 refine a_seq ?_
 refine aq ?_
 refine rv (v := .agg [.int _ _, .sl _ _]) (v_load_rpa1 ta29 il rfl rfl (fun _ => rfl) rfl) ?_
 refine rn (v := .bool _) (q_call (vs := [.agg [.int _ _, .sl _ _]]) (args := [.agg [.int .i64 _, .sl _ _]]) hb81 ⟨il, trivial⟩ rfl (fun hA => isCnf_c vars L hk) rfl rfl) ?_
 refine rv (v := .bool _) (v_not il) ?_
 refine rm (.bool _) ?_
 refine rg (v := .sl _ _) (v_move il nf) ?_
 refine r_gval (v := .int _ _) (v_len_sl sl44 (.inr ⟨_, rfl, fun h => h⟩)) rfl rfl rfl (by decide) (.inl ⟨_, rfl, rfl⟩) rfl (by decide) ?_
 refine r_guard (v := .bool _) (q_call (vs := [.int _ _, .int _ _, .int _ _]) (args := [.int .i64 _, .int .i64 _, .int .i64 _]) hb82 ⟨.inr ⟨_, rfl, fun h => h⟩, .inl rfl, .inl rfl, trivial⟩ rfl (fun hA => within_c _ _ _) rfl rfl) rfl rfl rfl (by decide) (.inl ⟨_, rfl, rfl⟩) rfl (by decide) ?_
 refine r_gval (v := .bool _) (v_not (.inr ⟨_, rfl, fun h => h⟩)) rfl rfl rfl (by decide) (.inl ⟨_, rfl, rfl⟩) rfl (by decide) ?_
 refine rv (v := .bool _) (v_pick (.inl rfl) (.inl rfl) (.inr ⟨_, rfl, fun h h2 => by simp_all⟩)) ?_
 refine r_nil ?_
 refine a_cond rfl (fun ht17 => ?_) (fun ht17 => ?_)
 ·
  refine a_seq ?_
  have hno : (cnfB vars L && inR xs.length 1 199) = false := (by cases h1 : cnfB vars L <;> cases h2 : inR xs.length 1 199 <;> simp_all)
  have htn := treeB_len hno
  refine a_region ?_
  refine ra (.bool _) ?_
  refine r_nil ?_
  refine a_ret ?_
  refine ret1 Tryz.results135 (by decide) (by decide) (Weak.of_eq (bool_eq ?_)) rfl Leaves.nil
  exact htn.symm
 ·
  refine a_skip ?_
  refine a_seq ?_
  refine a_seq ?_
  have hyes : cnfB vars L = true ∧ inR xs.length 1 199 = true := (by cases h1 : cnfB vars L <;> cases h2 : inR xs.length 1 199 <;> simp_all)
  have hcs := cnfB_spec hyes.1
  have hrg : 0 < xs.length ∧ xs.length ≤ 199 := (by have := hyes.2; simp [inR] at this; omega)
  have hLl : (L.length : Int) ≤ 1000000 := (by omega)
  refine a_region ?_
  refine rm (.sl _ _) ?_
  refine rv (v := .int _ _) (v_len_sl sl44 il) ?_
  refine rm (.int _ _) ?_
  refine r_nil ?_
  refine a_block ?_
  refine a_loop (X := Nat) (fun i => look [(1, .sl (tncells xs) xs.length), (2, .op [.int .i64 vars, .sl (sls L) L.length]), (18, .sl (tncells xs) xs.length), (19, .int .i64 ((xs.length : Nat) : Int)), (20, .int .i64 ((i : Nat) : Int))]) (fun i => i ≤ xs.length ∧ ∀ j : Nat, j < i → nodeB vars L.length j (gn xs j) = true) (fun i => xs.length - i) 0 (ent_look ⟨wr, wr, wr, wr, wr, trivial⟩) ⟨Nat.zero_le _, fun j h => by omega⟩ (fun i hG => ?_)
  obtain ⟨g1, g2⟩ := hG
  refine aq ?_
  refine rv (v := .bool _) (v_lss il il) ?_
  refine r_nil ?_
  refine a_seq ?_
  refine a_cond rfl (fun ht21 => ?_) (fun ht21 => ?_)
  ·
   refine a_skip ?_
   refine a_seq ?_
   refine a_block ?_
   refine a_seq ?_
   have hi : i < xs.length := (by simp at ht21; omega)
   refine a_region ?_
   refine rm (.int _ _) ?_
   refine rv (v := .pp _ _) (v_indexAddr_sl es44 il il (fun _ => ⟨by omega, by omega, tn_ne hi⟩)) ?_
   refine rv (v := .agg [.int .i64 (gn xs i).1, .int .i64 (gn xs i).2.1, .int .i64 (gn xs i).2.2.1, .int .i64 (gn xs i).2.2.2]) (v_load_ppa1 ta75 il rfl (fun _ => tn_four hi) rfl) ?_
   refine rn (v := .op [.int _ _, .int _ _, .int _ _, .int _ _]) (q_alloc zc75) ?_
   refine ra (.int _ _) ?_
   refine r_step rfl (o_store (v := .agg [.int _ _, .int _ _, .int _ _, .int _ _]) (y' := .op [.int _ _, .int _ _, .int _ _, .int _ _]) rfl rfl ta75 il il rfl rfl rfl rfl rfl rfl (Nat.le_of_ble_eq_true rfl) (by decide) rfl rfl) ?_
   refine r_nil ?_
   refine aq ?_
   refine rv (v := .agg [.int _ _, .sl _ _]) (v_load_rpa1 ta29 il rfl rfl (fun _ => rfl) rfl) ?_
   refine rm (.int _ _) ?_
   refine rv (v := .agg [.int _ _, .int _ _, .int _ _, .int _ _]) (v_load_rpa1 ta75 il rfl rfl (fun _ => rfl) rfl) ?_
   refine rn (v := .bool _) (q_call (vs := [.agg [.int _ _, .sl _ _], .int _ _, .agg [.int _ _, .int _ _, .int _ _, .int _ _]]) (args := [.agg [.int .i64 _, .sl _ _], .int .i64 _, .agg [.int .i64 _, .int .i64 _, .int .i64 _, .int .i64 _]]) hb150 ⟨il, il, il, trivial⟩ rfl (fun hA => nodeOk_c vars L (gn xs i) i hLl (by omega)) rfl rfl) ?_
   refine rv (v := .bool _) (v_not il) ?_
   refine r_nil ?_
   refine a_cond rfl (fun ht29 => ?_) (fun ht29 => ?_)
   ·
    refine a_seq ?_
    have htn := treeB_node (L := L) (allN_no hi (by simpa using ht29))
    refine a_region ?_
    refine ra (.bool _) ?_
    refine r_nil ?_
    refine a_ret ?_
    refine ret1 Tryz.results135 (by decide) (by decide) (Weak.of_eq (bool_eq ?_)) rfl Leaves.nil
    exact htn.symm
   ·
    refine a_skip ?_
    refine a_region ?_
    refine rv (v := .int _ _) (v_add il il (fun _ => by omega)) ?_
    refine rm (.int _ _) ?_
    refine r_nil ?_
    refine ⟨i + 1, ent_look ⟨wr, wr, wr, wr, Weak.of_eq (int_eq (by omega)), trivial⟩, ⟨by omega, fun j h1 => by rcases Nat.lt_or_ge j i with h | h; exact g2 j h; (obtain rfl : j = i := by omega); simpa using ht29⟩, by omega⟩
  ·
   refine a_exit ?_
   refine a_seq ?_
   have hie : i = xs.length := (by simp at ht21; omega)
   have hall : allN vars L.length xs = true := allN_yes (fun j hj => g2 j (by omega))
   refine a_region ?_
   refine rm (.sl _ _) ?_
   refine rn (v := .tup [.osl _ _ _ _, .bool _]) (q_callF (vs := [.sl _ _]) (args := [.sl _ _]) hb56 ⟨il, trivial⟩ rfl (fun hA => iPaths_c vars L.length xs hcs.1 hrg.1 hrg.2 hall) rfl (by simp [noRef, noRefL, sls_noRef])) ?_
   refine rv (v := .tup [.rsl _ _ _ _ _, .bool _]) (v_mv rfl) ?_
   refine rv (v := .rsl _ _ _ _ _) (v_extract rfl rfl) ?_
   refine rv (v := .bool _) (v_extract rfl rfl) ?_
   refine ra (.rsl _ _ _ _ _) ?_
   refine r_pre (ent_reloc_sl (t := 7) rfl rfl) ?_
   refine ra (.bool _) ?_
   refine r_nil ?_
   refine aq ?_
   refine rm (.bool _) ?_
   refine ra (.bool _) ?_
   refine r_nil ?_
   refine a_ret ?_
   refine ret1 Tryz.results135 (by decide) (by decide) (Weak.of_eq (bool_eq ?_)) rfl Leaves.nil
   exact (treeB_yes hyes.1 hrg hall).symm
theorem hb134 : hasBody Tryz.prog 134 = true := by kernel_rfl
theorem hb78 : hasBody Tryz.prog 78 = true := by kernel_rfl
theorem paths9_c (vars : Int) (L : List (List Int)) (xs : List TN) (hk : CnfOk vars L) (hl : xs.length ≤ 1048576) : ACall Tryz.prog 98 [.agg [.int .i64 vars, .sl (sls L) L.length], .sl (tncells xs) xs.length] [] (.tup [.osl 1 (sls (pthT vars L xs)) (pthT vars L xs).length none, .bool (treeB vars L xs)]) [] := by
 refine ACall.intro Tryz.func98 rfl (N := 155) rfl (by decide) (by simp) ?_
 refine aq ?_
 refine rn (v := .op [.int _ _, .sl _ _]) (q_box il rfl rfl) ?_
 refine ra .nils ?_
 refine ra (.bool _) ?_
 refine r_nil ?_
 refine a_seq ?_
 refine aq ?_
 refine rv (v := .agg [.int _ _, .sl _ _]) (v_load_rpa1 ta29 il rfl rfl (fun _ => rfl) rfl) ?_
 refine rn (v := .bool _) (q_call (vs := [.agg [.int _ _, .sl _ _]]) (args := [.agg [.int .i64 _, .sl _ _]]) hb96 ⟨il, trivial⟩ rfl (fun hA => l2Good_c vars L hk) rfl rfl) ?_
 refine rv (v := .bool _) (v_not il) ?_
 refine rm (.bool _) ?_
 refine rg (v := .sl _ _) (v_move il nf) ?_
 refine r_gval (v := .int _ _) (v_len_sl sl44 (.inr ⟨_, rfl, fun h => h⟩)) rfl rfl rfl (by decide) (.inl ⟨_, rfl, rfl⟩) rfl (by decide) ?_
 refine r_guard (v := .bool _) (q_call (vs := [.int _ _, .int _ _, .int _ _]) (args := [.int .i64 _, .int .i64 _, .int .i64 _]) hb112 ⟨.inr ⟨_, rfl, fun h => h⟩, .inl rfl, .inl rfl, trivial⟩ rfl (fun hA => l1In_c _ _ _) rfl rfl) rfl rfl rfl (by decide) (.inl ⟨_, rfl, rfl⟩) rfl (by decide) ?_
 refine r_gval (v := .bool _) (v_not (.inr ⟨_, rfl, fun h => h⟩)) rfl rfl rfl (by decide) (.inl ⟨_, rfl, rfl⟩) rfl (by decide) ?_
 refine rv (v := .bool _) (v_pick (.inl rfl) (.inl rfl) (.inr ⟨_, rfl, fun h h2 => by simp_all⟩)) ?_
 refine r_nil ?_
 refine a_cond rfl (fun ht20 => ?_) (fun ht20 => ?_)
 ·
  refine a_seq ?_
  have hno : (cnfB vars L && inR xs.length 1 199) = false := (by cases h1 : cnfB vars L <;> cases h2 : inR xs.length 1 199 <;> simp_all)
  have htn := treeB_len hno
  refine a_region ?_
  refine rn (v := .osl _ _ _ _) (q_sliceLit (n := 0) (parts := []) lt22 rfl rfl rfl rfl) ?_
  refine ra (.rsl _ _ _ _ _) ?_
  refine r_pre (ent_reloc_sl (t := 4) rfl rfl) ?_
  refine ra (.bool _) ?_
  refine r_nil ?_
  refine a_ret ?_
  refine retL (rs := [.tmp 4, .tmp 5]) [(4, .osl _ _ _ none), (5, _)] ⟨Weak.osl rfl rfl, wr, trivial⟩ rfl Tryz.results98 (by decide) ⟨by decide, by decide, rfl⟩ (by decide) (by decide) (l2_eq (osl_eq2 ?_ ?_) (bool_eq ?_)) rfl
  all_goals (first | exact htn.symm | (rw [pthT_no htn]; rfl))
 ·
  refine a_skip ?_
  refine a_seq ?_
  have hyes : cnfB vars L = true ∧ inR xs.length 1 199 = true := (by cases h1 : cnfB vars L <;> cases h2 : inR xs.length 1 199 <;> simp_all)
  have hcs := cnfB_spec hyes.1
  have hrg : 0 < xs.length ∧ xs.length ≤ 199 := (by have := hyes.2; simp [inR] at this; omega)
  have hLl : (L.length : Int) ≤ 1000000 := (by omega)
  refine a_region ?_
  refine rm (.sl _ _) ?_
  refine rv (v := .int _ _) (v_len_sl sl44 il) ?_
  refine rn (v := .osl _ _ _ _) (q_makeSlice us25 sb3 zc3 rfl (by decide) il il (fun _ => by omega)) ?_
  refine ra (.rsl _ _ _ _ _) ?_
  refine r_pre (ent_reloc_sl (t := 6) rfl rfl) ?_
  refine r_nil ?_
  refine a_seq ?_
  refine aq ?_
  refine ra (.int _ _) ?_
  refine r_nil ?_
  refine a_block ?_
  refine a_loop (X := Nat) (fun i => look [(1, .sl (tncells xs) xs.length), (2, .op [.int .i64 vars, .sl (sls L) L.length]), (6, .osl 1 (icells (nCntL xs i)) xs.length none), (7, .int .i64 ((i : Nat) : Int))]) (fun i => i ≤ xs.length ∧ ∀ j : Nat, j < i → nodeB vars L.length j (gn xs j) = true) (fun i => xs.length - i) 0 (ent_look ⟨wr, wr, Weak.osl (by rw [nCntL_zero, icells_rep]) rfl, wr, trivial⟩) ⟨Nat.zero_le _, fun j h => by omega⟩ (fun i hG => ?_)
  obtain ⟨g1, g2⟩ := hG
  refine a_seq ?_
  refine aq ?_
  refine rm (.int _ _) ?_
  refine rm (.sl _ _) ?_
  refine rv (v := .int _ _) (v_len_sl sl44 il) ?_
  refine rv (v := .bool _) (v_lss il il) ?_
  refine r_nil ?_
  refine a_cond rfl (fun ht28 => ?_) (fun ht28 => ?_)
  ·
   refine a_skip ?_
   refine a_seq ?_
   refine a_block ?_
   refine a_seq ?_
   refine a_seq ?_
   have hi : i < xs.length := (by simp at ht28; omega)
   refine a_region_any mixed (by kernel_rfl) ?_
   refine yv (v := .agg [.int _ _, .sl _ _]) (v_load_rpa1 ta29 il rfl rfl (fun _ => rfl) rfl) ?_
   refine yv (v := .sl _ _) (v_move il nf) ?_
   refine yv (v := .int _ _) (v_move il nf) ?_
   refine yv (v := .pp _ _) (v_indexAddr_sl es44 il il (fun _ => ⟨by omega, by omega, tn_ne hi⟩)) ?_
   refine yv (v := .agg [.int .i64 (gn xs i).1, .int .i64 (gn xs i).2.1, .int .i64 (gn xs i).2.2.1, .int .i64 (gn xs i).2.2.2]) (v_load_ppa1 ta75 il rfl (fun _ => tn_four hi) rfl) ?_
   refine yv (v := .int _ _) (v_move il nf) ?_
   refine y_new (v := .bool _) (q_call (vs := [.agg [.int _ _, .sl _ _], .agg [.int _ _, .int _ _, .int _ _, .int _ _], .int _ _]) (args := [.agg [.int .i64 _, .sl _ _], .agg [.int .i64 _, .int .i64 _, .int .i64 _, .int .i64 _], .int .i64 _]) hb134 ⟨.inl rfl, .inl rfl, .inl rfl, trivial⟩ rfl (fun hA => node9_c vars L (gn xs i) i hLl (by omega)) rfl rfl) rfl rfl (by decide) (by kernel_rfl) ?_
   refine yv (v := .bool _) (v_not il) ?_
   refine y_nil ?_
   refine a_cond rfl (fun ht38 => ?_) (fun ht38 => ?_)
   ·
    refine a_seq ?_
    have htn := treeB_node (L := L) (allN_no hi (by simpa using ht38))
    refine a_region ?_
    refine rn (v := .osl _ _ _ _) (q_sliceLit (n := 0) (parts := []) lt22 rfl rfl rfl rfl) ?_
    refine ra (.rsl _ _ _ _ _) ?_
    refine r_pre (ent_reloc_sl (t := 4) rfl rfl) ?_
    refine ra (.bool _) ?_
    refine r_nil ?_
    refine a_ret ?_
    refine retL (rs := [.tmp 4, .tmp 5]) [(4, .osl _ _ _ none), (5, _)] ⟨Weak.osl rfl rfl, wr, trivial⟩ rfl Tryz.results98 (by decide) ⟨by decide, by decide, rfl⟩ (by decide) (by decide) (l2_eq (osl_eq2 ?_ ?_) (bool_eq ?_)) rfl
    all_goals (first | exact htn.symm | (rw [pthT_no htn]; rfl))
   ·
    refine a_skip ?_
    refine a_seq ?_
    have hnd : nodeB vars L.length i (gn xs i) = true := (by simpa using ht38)
    refine a_region ?_
    refine rm (.sl _ _) ?_
    refine rm (.int _ _) ?_
    refine rv (v := .pp _ _) (v_indexAddr_sl es44 il il (fun _ => ⟨by omega, by omega, tn_ne hi⟩)) ?_
    refine rv (v := .agg [.int .i64 (gn xs i).1, .int .i64 (gn xs i).2.1, .int .i64 (gn xs i).2.2.1, .int .i64 (gn xs i).2.2.2]) (v_load_ppa1 ta75 il rfl (fun _ => tn_four hi) rfl) ?_
    refine rn (v := .bool _) (q_call (vs := [.agg [.int _ _, .int _ _, .int _ _, .int _ _]]) (args := [.agg [.int .i64 _, .int .i64 _, .int .i64 _, .int .i64 _]]) hb49 ⟨il, trivial⟩ rfl (fun hA => leaf_c _) rfl rfl) ?_
    refine rv (v := .bool _) (v_not il) ?_
    refine r_nil ?_
    refine a_cond rfl (fun ht45 => ?_) (fun ht45 => ?_)
    ·
     refine a_seq ?_
     have hvn : nV xs i ≠ 0 := (by simpa [nV] using ht45)
     have hin := inner_spec hnd hvn
     have hcb := nCnt_le xs (nLo xs i) i
     have hcb2 := nCnt_le xs (nHi xs i) i
     have hp1 : (nLo xs i) * 1 + 1 ≤ (icells (nCntL xs i)).length := (by rw [icells_length]; simp [nCntL_len]; omega)
     have hs1 : (icells (nCntL xs i)).set ((nLo xs i) * 1) (.int .i64 (gd (nCntL xs i) (nLo xs i) + 1)) = icells ((nCntL xs i).set (nLo xs i) (gd (nCntL xs i) (nLo xs i) + 1)) := (by rw [Nat.mul_one, icells_set])
     have hp2 : (nHi xs i) * 1 + 1 ≤ (icells ((nCntL xs i).set (nLo xs i) (gd (nCntL xs i) (nLo xs i) + 1))).length := (by rw [icells_length]; simp [nCntL_len]; omega)
     have hs2 : (icells ((nCntL xs i).set (nLo xs i) (gd (nCntL xs i) (nLo xs i) + 1))).set ((nHi xs i) * 1) (.int .i64 (gd ((nCntL xs i).set (nLo xs i) (gd (nCntL xs i) (nLo xs i) + 1)) (nHi xs i) + 1)) = icells (((nCntL xs i).set (nLo xs i) (gd (nCntL xs i) (nLo xs i) + 1)).set (nHi xs i) (gd ((nCntL xs i).set (nLo xs i) (gd (nCntL xs i) (nLo xs i) + 1)) (nHi xs i) + 1)) := (by rw [Nat.mul_one, icells_set])
     have hg1 : gd (nCntL xs i) (nLo xs i) = nCnt xs i (nLo xs i) := nCntL_gd (by omega)
     have hg2 : gd ((nCntL xs i).set (nLo xs i) (gd (nCntL xs i) (nLo xs i) + 1)) (nHi xs i) = nCnt xs i (nHi xs i) := (by rw [gd_setc, if_neg (fun h => hin.2.2.2.1 h.1)]; exact nCntL_gd (by omega))
     have hs2e : ((nCntL xs i).set (nLo xs i) (gd (nCntL xs i) (nLo xs i) + 1)).set (nHi xs i) (gd ((nCntL xs i).set (nLo xs i) (gd (nCntL xs i) (nLo xs i) + 1)) (nHi xs i) + 1) = ((nCntL xs i).set (nLo xs i) (gd (nCntL xs i) (nLo xs i) + 1)).set (nHi xs i) (gd ((nCntL xs i).set (nLo xs i) (gd (nCntL xs i) (nLo xs i) + 1)) (nHi xs i) + 1) := rfl
     refine a_region_z (n := 16) [[(46, true)], [(47, true)], [(48, true)], [(49, true)], [(50, true)], [(51, true)], [(52, true)], [(53, true)], [(54, true)], [(55, true)], [(56, true)], [(57, true)], [(58, true)], [(59, true)], [(60, true)], [(61, true)]] mixed (by kernel_rfl) ?_
     refine z_val (v := .rsl _ _ _ _ _) (v_move il nf) rfl rfl (by decide) rfl (by kernel_rfl) ?_
     refine z_val (v := .sl _ _) (v_move il nf) rfl rfl (by decide) rfl (by kernel_rfl) ?_
     refine z_val (v := .int _ _) (v_move il nf) rfl rfl (by decide) rfl (by kernel_rfl) ?_
     refine z_val (v := .pp _ _) (v_indexAddr_sl es44 il il (fun _ => ⟨by omega, by omega, tn_ne hi⟩)) rfl rfl (by decide) rfl (by kernel_rfl) ?_
     refine z_val (v := .pp _ _) (v_fieldAddr_pp fo75_1 il) rfl rfl (by decide) rfl (by kernel_rfl) ?_
     refine z_val (v := .int .i64 (gn xs i).2.1) (v_load_pp ta3 il (fun _ => by have := tn_at (j := 1) hi (by omega); exact this) rfl) rfl rfl (by decide) rfl (by kernel_rfl) ?_
     refine z_val (v := .rsl _ _ _ _ _) (v_move il nf) rfl rfl (by decide) rfl (by kernel_rfl) ?_
     refine z_val (v := .sl _ _) (v_move il nf) rfl rfl (by decide) rfl (by kernel_rfl) ?_
     refine z_val (v := .int _ _) (v_move il nf) rfl rfl (by decide) rfl (by kernel_rfl) ?_
     refine z_val (v := .pp _ _) (v_indexAddr_sl es44 il il (fun _ => ⟨by omega, by omega, tn_ne hi⟩)) rfl rfl (by decide) rfl (by kernel_rfl) ?_
     refine z_val (v := .pp _ _) (v_fieldAddr_pp fo75_1 il) rfl rfl (by decide) rfl (by kernel_rfl) ?_
     refine z_val (v := .int .i64 (gn xs i).2.1) (v_load_pp ta3 il (fun _ => by have := tn_at (j := 1) hi (by omega); exact this) rfl) rfl rfl (by decide) rfl (by kernel_rfl) ?_
     refine z_val (v := .rp _ _) (v_indexAddr_rsl0 es25 il il (fun _ => by omega)) rfl rfl (by decide) rfl (by kernel_rfl) ?_
     refine z_val (v := .int .i64 (gd (nCntL xs i) (nLo xs i))) (v_load_rp1 ta3 il rfl (fun _ => by rw [Nat.mul_one]; exact icells_get (gd_get (show nLo xs i < _ by simp [nCntL_len]; omega))) rfl) rfl rfl (by decide) rfl (by kernel_rfl) ?_
     refine z_val (v := .int _ _) (v_add il il (fun _ => by omega)) rfl rfl (by decide) rfl (by kernel_rfl) ?_
     refine z_val (v := .rp _ _) (v_indexAddr_rsl0 es25 il il (fun _ => by omega)) rfl rfl (by decide) rfl (by kernel_rfl) ?_
     refine z_nil ?_
     refine r_step rfl (o_store (v := .int _ _) (y' := .osl _ _ _ _) rfl rfl ta3 il il rfl rfl rfl rfl rfl rfl hp1 (by decide) rfl (congrArg (fun c => AV.osl 1 c xs.length none) hs1)) ?_
     refine r_nil ?_
     refine a_pre (ent_look (L := [(1, .sl _ _), (2, .op [.int _ _, .sl _ _]), (6, .osl _ _ _ _), (7, .int _ _)]) ⟨wr, wr, wr, wr, trivial⟩) ?_
     refine a_region_z (n := 16) [[(62, true)], [(63, true)], [(64, true)], [(65, true)], [(66, true)], [(67, true)], [(68, true)], [(69, true)], [(70, true)], [(71, true)], [(72, true)], [(73, true)], [(74, true)], [(75, true)], [(76, true)], [(77, true)]] mixed (by kernel_rfl) ?_
     refine z_val (v := .rsl _ _ _ _ _) (v_move il nf) rfl rfl (by decide) rfl (by kernel_rfl) ?_
     refine z_val (v := .sl _ _) (v_move il nf) rfl rfl (by decide) rfl (by kernel_rfl) ?_
     refine z_val (v := .int _ _) (v_move il nf) rfl rfl (by decide) rfl (by kernel_rfl) ?_
     refine z_val (v := .pp _ _) (v_indexAddr_sl es44 il il (fun _ => ⟨by omega, by omega, tn_ne hi⟩)) rfl rfl (by decide) rfl (by kernel_rfl) ?_
     refine z_val (v := .pp _ _) (v_fieldAddr_pp fo75_2 il) rfl rfl (by decide) rfl (by kernel_rfl) ?_
     refine z_val (v := .int .i64 (gn xs i).2.2.1) (v_load_pp ta3 il (fun _ => by have := tn_at (j := 2) hi (by omega); exact this) rfl) rfl rfl (by decide) rfl (by kernel_rfl) ?_
     refine z_val (v := .rsl _ _ _ _ _) (v_move il nf) rfl rfl (by decide) rfl (by kernel_rfl) ?_
     refine z_val (v := .sl _ _) (v_move il nf) rfl rfl (by decide) rfl (by kernel_rfl) ?_
     refine z_val (v := .int _ _) (v_move il nf) rfl rfl (by decide) rfl (by kernel_rfl) ?_
     refine z_val (v := .pp _ _) (v_indexAddr_sl es44 il il (fun _ => ⟨by omega, by omega, tn_ne hi⟩)) rfl rfl (by decide) rfl (by kernel_rfl) ?_
     refine z_val (v := .pp _ _) (v_fieldAddr_pp fo75_2 il) rfl rfl (by decide) rfl (by kernel_rfl) ?_
     refine z_val (v := .int .i64 (gn xs i).2.2.1) (v_load_pp ta3 il (fun _ => by have := tn_at (j := 2) hi (by omega); exact this) rfl) rfl rfl (by decide) rfl (by kernel_rfl) ?_
     refine z_val (v := .rp _ _) (v_indexAddr_rsl0 es25 il il (fun _ => by omega)) rfl rfl (by decide) rfl (by kernel_rfl) ?_
     refine z_val (v := .int .i64 (gd ((nCntL xs i).set (nLo xs i) (gd (nCntL xs i) (nLo xs i) + 1)) (nHi xs i))) (v_load_rp1 ta3 il rfl (fun _ => by rw [Nat.mul_one]; exact icells_get (gd_get (show nHi xs i < _ by simp [nCntL_len]; omega))) rfl) rfl rfl (by decide) rfl (by kernel_rfl) ?_
     refine z_val (v := .int _ _) (v_add il il (fun _ => by omega)) rfl rfl (by decide) rfl (by kernel_rfl) ?_
     refine z_val (v := .rp _ _) (v_indexAddr_rsl0 es25 il il (fun _ => by omega)) rfl rfl (by decide) rfl (by kernel_rfl) ?_
     refine z_nil ?_
     refine r_step rfl (o_store (v := .int _ _) (y' := .osl _ _ _ _) rfl rfl ta3 il il rfl rfl rfl rfl rfl rfl hp2 (by decide) rfl (congrArg (fun c => AV.osl 1 c xs.length none) hs2)) ?_
     refine r_nil ?_
     refine a_region ?_
     refine rm (.int _ _) ?_
     refine rv (v := .int _ _) (v_add il il (fun _ => by omega)) ?_
     refine ra (.int _ _) ?_
     refine r_nil ?_
     refine ⟨i + 1, ent_look ⟨wr, wr, Weak.osl (by rw [hs2e, nCntL_inner hvn hi hin.2.1.2 hin.2.2.1.2 hin.2.2.2.1]) rfl, Weak.of_eq (int_eq (by omega)), trivial⟩, ⟨by omega, fun j h1 => by rcases Nat.lt_or_ge j i with h | h; exact g2 j h; (obtain rfl : j = i := by omega); simpa using ht38⟩, by omega⟩
    ·
     refine a_skip ?_
     refine a_region ?_
     refine rm (.int _ _) ?_
     refine rv (v := .int _ _) (v_add il il (fun _ => by omega)) ?_
     refine ra (.int _ _) ?_
     refine r_nil ?_
     refine ⟨i + 1, ent_look ⟨wr, wr, Weak.osl (by rw [nCntL_leaf (by simpa [nV] using ht45)]) rfl, Weak.of_eq (int_eq (by omega)), trivial⟩, ⟨by omega, fun j h1 => by rcases Nat.lt_or_ge j i with h | h; exact g2 j h; (obtain rfl : j = i := by omega); simpa using ht38⟩, by omega⟩
  ·
   refine a_exit ?_
   refine a_seq ?_
   refine a_seq ?_
   have hie : i = xs.length := (by simp at ht28; omega)
   have hall : allN vars L.length xs = true := allN_yes (fun j hj => g2 j (by omega))
   refine a_region ?_
   refine ra (.int _ _) ?_
   refine r_nil ?_
   refine a_block ?_
   refine a_loop (X := Nat) (fun i => look [(1, .sl (tncells xs) xs.length), (6, .osl 1 (icells (nCntL xs xs.length)) xs.length none), (8, .int .i64 ((i : Nat) : Int))]) (fun i => i ≤ xs.length - 1 ∧ ∀ j, j < i → nCnt xs xs.length j = 1) (fun i => xs.length - i) 0 (ent_look ⟨wr, Weak.osl (by rw [hie]) rfl, wr, trivial⟩) ⟨Nat.zero_le _, fun j h => by omega⟩ (fun i hG => ?_)
   obtain ⟨c1, c2⟩ := hG
   refine a_seq ?_
   refine aq ?_
   refine rm (.int _ _) ?_
   refine rm (.sl _ _) ?_
   refine rv (v := .int _ _) (v_len_sl sl44 il) ?_
   refine rv (v := .int _ _) (v_sub il il (fun _ => by omega)) ?_
   refine rv (v := .bool _) (v_lss il il) ?_
   refine r_nil ?_
   refine a_cond rfl (fun ht82 => ?_) (fun ht82 => ?_)
   ·
    refine a_skip ?_
    refine a_seq ?_
    refine a_block ?_
    refine a_seq ?_
    have hi1 : i < xs.length - 1 := (by simp at ht82; omega)
    have hi2 : i < xs.length := (by omega)
    refine a_region ?_
    refine rm (.rsl _ _ _ _ _) ?_
    refine rm (.int _ _) ?_
    refine rv (v := .rp _ _) (v_indexAddr_rsl0 es25 il il (fun _ => by omega)) ?_
    refine rv (v := .int .i64 (gd (nCntL xs xs.length) i)) (v_load_rp1 ta3 il rfl (fun _ => by rw [Nat.mul_one]; exact icells_get (gd_get (show i < _ by simp [nCntL_len]; omega))) rfl) ?_
    refine rv (v := .bool _) (v_neq il il) ?_
    refine r_nil ?_
    refine a_cond rfl (fun ht89 => ?_) (fun ht89 => ?_)
    ·
     refine a_seq ?_
     have htn := treeB_once (vars := vars) (L := L) hrg hall (onceB_no hi1 (by simp [nCntL_gd hi2] at ht89; omega))
     refine a_region ?_
     refine rn (v := .osl _ _ _ _) (q_sliceLit (n := 0) (parts := []) lt22 rfl rfl rfl rfl) ?_
     refine ra (.rsl _ _ _ _ _) ?_
     refine r_pre (ent_reloc_sl (t := 4) rfl rfl) ?_
     refine ra (.bool _) ?_
     refine r_nil ?_
     refine a_ret ?_
     refine retL (rs := [.tmp 4, .tmp 5]) [(4, .osl _ _ _ none), (5, _)] ⟨Weak.osl rfl rfl, wr, trivial⟩ rfl Tryz.results98 (by decide) ⟨by decide, by decide, rfl⟩ (by decide) (by decide) (l2_eq (osl_eq2 ?_ ?_) (bool_eq ?_)) rfl
     all_goals (first | exact htn.symm | (rw [pthT_no htn]; rfl))
    ·
     refine a_skip ?_
     refine a_region ?_
     refine rm (.int _ _) ?_
     refine rv (v := .int _ _) (v_add il il (fun _ => by omega)) ?_
     refine ra (.int _ _) ?_
     refine r_nil ?_
     refine ⟨i + 1, ent_look ⟨wr, wr, Weak.of_eq (int_eq (by omega)), trivial⟩, ⟨by omega, fun j h1 => by rcases Nat.lt_or_ge j i with h | h; exact c2 j h; (obtain rfl : j = i := by omega); simp [nCntL_gd hi2] at ht89; omega⟩, by omega⟩
   ·
    refine a_exit ?_
    refine a_seq ?_
    have honce : onceB xs = true := onceB_yes (fun j hj => c2 j (by simp at ht82; omega))
    refine a_region ?_
    refine rm (.sl _ _) ?_
    refine rv (v := .int _ _) (v_len_sl sl44 il) ?_
    refine rn (v := .osl _ _ _ _) (q_makeSlice us22 sb25 zc25 rfl (by decide) il il (fun _ => by omega)) ?_
    refine ra (.rsl _ _ _ _ _) ?_
    refine r_pre (ent_reloc_sl (t := 9) rfl rfl) ?_
    refine r_nil ?_
    refine a_seq ?_
    have hpl : (((xs.length : Int) - 1).toNat) * 1 + 1 ≤ (sls (List.replicate xs.length [])).length := (by rw [sls_length]; simp; omega)
    have hset : (sls (List.replicate xs.length [])).set (((xs.length : Int) - 1).toNat * 1) (.sl [] 0) = sls (List.replicate xs.length []) := (by rw [Nat.mul_one]; have := sls_set (List.replicate xs.length []) (((xs.length : Int) - 1).toNat) []; rw [rep_set] at this; exact this)
    refine a_region ?_
    refine r_pre (ent_eq (t := 9) (v' := .osl 1 (sls (List.replicate xs.length [])) xs.length none) weak_rows) ?_
    refine rm (.rsl _ _ _ _ _) ?_
    refine rm (.sl _ _) ?_
    refine rv (v := .int _ _) (v_len_sl sl44 il) ?_
    refine rv (v := .int _ _) (v_sub il il (fun _ => by omega)) ?_
    refine rn (v := .sl _ _) ((q_sliceLitZ (n := 0) (parts := []) lt25 rfl rfl rfl rfl).cast (by first | rfl | rw [shL_id _ (ic_pure _).1 (ic_pure _).2])) ?_
    refine rv (v := .rp _ _) (v_indexAddr_rsl0 es22 il il (fun _ => by omega)) ?_
    refine r_step rfl (o_store (v := .sl _ _) (y' := .osl _ _ _ _) rfl rfl ta25 il il rfl rfl rfl rfl rfl rfl hpl (by decide) rfl (congrArg (fun c => AV.osl 1 c xs.length none) hset)) ?_
    refine r_nil ?_
    refine a_seq ?_
    refine aq ?_
    refine rm (.sl _ _) ?_
    refine rv (v := .int _ _) (v_len_sl sl44 il) ?_
    refine rv (v := .int _ _) (v_sub il il (fun _ => by omega)) ?_
    refine ra (.int _ _) ?_
    refine r_nil ?_
    refine a_block ?_
    refine a_loop (X := Nat) (fun k => look [(1, .sl (tncells xs) xs.length), (9, .osl 1 (sls (trQ xs k)) xs.length none), (10, .int .i64 (((k : Nat) : Int) - 1))]) (fun k => k ≤ xs.length ∧ (trS xs k).isSome = true) (fun k => k) xs.length (ent_look ⟨wr, Weak.osl (by rw [ts_top]) rfl, wr, trivial⟩) ⟨Nat.le_refl _, by rw [trS_top]; rfl⟩ (fun k hG => ?_)
    obtain ⟨d1, d2⟩ := hG
    refine a_seq ?_
    refine aq ?_
    refine rm (.int _ _) ?_
    refine rv (v := .bool _) (v_geq il il) ?_
    refine r_nil ?_
    refine a_cond rfl (fun ht104 => ?_) (fun ht104 => ?_)
    ·
     refine a_skip ?_
     refine a_seq ?_
     refine a_block ?_
     refine a_seq ?_
     obtain ⟨m, rfl⟩ : ∃ m, k = m + 1 := ⟨k - 1, by simp at ht104; omega⟩
     have hm : m < xs.length := (by omega)
     have hPo := ts_ok hcs.1 hall d2
     have hnd := allN_spec hall m hm
     have hms : (((m + 1 : Nat) : Int) - 1).toNat = m := (by omega)
     refine a_region ?_
     refine rm (.sl _ _) ?_
     refine rm (.int _ _) ?_
     refine rv (v := .pp _ _) (v_indexAddr_sl es44 il il (fun _ => ⟨by omega, by omega, tn_ne hm⟩)) ?_
     refine rv (v := .agg [.int .i64 (gn xs m).1, .int .i64 (gn xs m).2.1, .int .i64 (gn xs m).2.2.1, .int .i64 (gn xs m).2.2.2]) (v_load_ppa1 ta75 il rfl (fun _ => by rw [hms]; exact tn_four hm) rfl) ?_
     refine rn (v := .op [.int _ _, .int _ _, .int _ _, .int _ _]) (q_alloc zc75) ?_
     refine r_step rfl (o_store (v := .agg [.int _ _, .int _ _, .int _ _, .int _ _]) (y' := .op [.int _ _, .int _ _, .int _ _, .int _ _]) rfl rfl ta75 il il rfl rfl rfl rfl rfl rfl (Nat.le_of_ble_eq_true rfl) (by decide) rfl rfl) ?_
     refine r_nil ?_
     refine a_seq ?_
     refine aq ?_
     refine rv (v := .agg [.int _ _, .int _ _, .int _ _, .int _ _]) (v_load_rpa1 ta75 il rfl rfl (fun _ => rfl) rfl) ?_
     refine rn (v := .bool _) (q_call (vs := [.agg [.int _ _, .int _ _, .int _ _, .int _ _]]) (args := [.agg [.int .i64 _, .int .i64 _, .int .i64 _, .int .i64 _]]) hb49 ⟨il, trivial⟩ rfl (fun hA => leaf_c _) rfl rfl) ?_
     refine r_nil ?_
     refine a_cond rfl (fun ht112 => ?_) (fun ht112 => ?_)
     ·
      refine a_exit ?_
      refine a_region ?_
      refine rm (.int _ _) ?_
      refine rv (v := .int _ _) (v_sub il il (fun _ => by omega)) ?_
      refine ra (.int _ _) ?_
      refine r_nil ?_
      have hlf := ts_leaf hm d2 (by simpa [nV] using ht112)
      refine ⟨m, ent_look ⟨wr, Weak.osl (by rw [hlf.1]) rfl, Weak.of_eq (int_eq (by omega)), trivial⟩, ⟨by omega, hlf.2⟩, by omega⟩
     ·
      refine a_skip ?_
      refine a_seq ?_
      refine a_seq ?_
      have hvn : nV xs m ≠ 0 := (by simpa [nV] using ht112)
      have hin := inner_spec hnd hvn
      have hpc := clB_len (hPo.2 m)
      have hps := clB_sm (hPo.2 m)
      refine a_region_any mixed (by kernel_rfl) ?_
      refine yv (v := .rsl _ _ _ _ _) (v_move il nf) ?_
      refine yv (v := .int _ _) (v_move il nf) ?_
      refine yv (v := .rp _ _) (v_indexAddr_rsl0 es22 il il (fun _ => by omega)) ?_
      refine yv (v := .sl (icells (gl (trQ xs (m + 1)) m)) (gl (trQ xs (m + 1)) m).length) (v_load_rp1 ta25 il rfl (fun _ => by rw [hms, Nat.mul_one]; exact sls_get (show m < (trQ xs (m + 1)).length by rw [hPo.1]; exact hm)) rfl) ?_
      refine yv (v := .rp _ _) (v_fieldAddr_rp fo75_0 il) ?_
      refine yv (v := .int _ _) (v_load_rp1 ta3 il rfl (fun _ => rfl) rfl) ?_
      refine y_new (v := .bool _) (q_call (vs := [.sl _ _, .int _ _]) (args := [.sl _ _, .int .i64 _]) hb50 ⟨.inl rfl, .inl rfl, trivial⟩ rfl (fun hA => has2_c _ _ _ ⟨rfl, by omega⟩) rfl rfl) rfl rfl (by decide) (by kernel_rfl) ?_
      refine yv (v := .bool _) (v_move il nf) ?_
      refine yh (v := .rsl _ _ _ _ _) (v_move il nf).quiet ?_
      refine yh (v := .int _ _) (v_move il nf).quiet ?_
      refine yg (v := .rp _ _) (v_indexAddr_rsl0 es22 (.inr ⟨_, rfl, fun h => h⟩) (.inr ⟨_, rfl, fun h => h⟩) (fun _ => by omega)).quiet rfl rfl rfl (by decide) (.inl ⟨_, rfl, rfl⟩) ?_
      refine yg (v := .sl (icells (gl (trQ xs (m + 1)) m)) (gl (trQ xs (m + 1)) m).length) (v_load_rp1 ta25 (.inr ⟨_, rfl, fun h => h⟩) rfl (fun _ => by rw [hms, Nat.mul_one]; exact sls_get (show m < (trQ xs (m + 1)).length by rw [hPo.1]; exact hm)) rfl).quiet rfl rfl rfl (by decide) (.inl ⟨_, rfl, rfl⟩) ?_
      refine yh (v := .rp _ _) (v_fieldAddr_rp fo75_0 il).quiet ?_
      refine yg (v := .int _ _) (v_load_rp1 ta3 (.inr ⟨_, rfl, fun h => h⟩) rfl (fun _ => rfl) rfl).quiet rfl rfl rfl (by decide) (.inl ⟨_, rfl, rfl⟩) ?_
      refine yg (v := .int _ _) (v_neg (.inr ⟨_, rfl, fun h => h⟩) (fun _ => by unfold nV at hin; omega)).quiet rfl rfl rfl (by decide) (.inl ⟨_, rfl, rfl⟩) ?_
      refine yg (v := .bool _) (q_call (vs := [.sl _ _, .int _ _]) (args := [.sl _ _, .int .i64 _]) hb50 ⟨.inr ⟨_, rfl, fun h => h⟩, .inr ⟨_, rfl, fun h => h⟩, trivial⟩ rfl (fun hA => has2_c _ _ _ ⟨rfl, by omega⟩) rfl rfl) rfl rfl rfl (by decide) (.inl ⟨_, rfl, rfl⟩) ?_
      refine yv (v := .bool _) (v_pick (.inl rfl) (.inl rfl) (.inr ⟨_, rfl, fun h h2 => by simp_all⟩)) ?_
      refine y_nil ?_
      refine a_cond rfl (fun ht129 => ?_) (fun ht129 => ?_)
      ·
       refine a_seq ?_
       refine a_pre (ent_look (L := [(1, .sl _ _), (9, .osl _ _ _ _), (10, .int _ _), (11, .op [.int _ _, .int _ _, .int _ _, .int _ _])]) ⟨wr, wr, wr, wr, trivial⟩) ?_
       have hbad := ts_bad hm d2 hvn (by unfold trOn nV; simpa using ht129)
       have htn := treeB_path (vars := vars) (L := L) hrg hall hbad
       refine a_region ?_
       refine rn (v := .osl _ _ _ _) (q_sliceLit (n := 0) (parts := []) lt22 rfl rfl rfl rfl) ?_
       refine ra (.rsl _ _ _ _ _) ?_
       refine r_pre (ent_reloc_sl (t := 4) rfl rfl) ?_
       refine ra (.bool _) ?_
       refine r_nil ?_
       refine a_ret ?_
       refine retL (rs := [.tmp 4, .tmp 5]) [(4, .osl _ _ _ none), (5, _)] ⟨Weak.osl rfl rfl, wr, trivial⟩ rfl Tryz.results98 (by decide) ⟨by decide, by decide, rfl⟩ (by decide) (by decide) (l2_eq (osl_eq2 ?_ ?_) (bool_eq ?_)) rfl
       all_goals (first | exact htn.symm | (rw [pthT_no htn]; rfl))
      ·
       refine a_skip ?_
       refine a_seq ?_
       refine a_pre (ent_look (L := [(1, .sl _ _), (9, .osl _ _ _ _), (10, .int _ _), (11, .op [.int _ _, .int _ _, .int _ _, .int _ _])]) ⟨wr, wr, wr, wr, trivial⟩) ?_
       have hno : trOn xs m (trQ xs (m + 1)) = false := (by unfold trOn nV; simpa using ht129)
       have hgood := ts_good hm d2 hvn hno
       have hp3 : (nLo xs m) * 1 + 1 ≤ (sls (trQ xs (m + 1))).length := (by rw [sls_length]; simp [hPo.1]; omega)
       have hs3 : (sls (trQ xs (m + 1))).set ((nLo xs m) * 1) (.sl (icells (putL (gl (trQ xs (m + 1)) m) (-(nV xs m)))) (putL (gl (trQ xs (m + 1)) m) (-(nV xs m))).length) = sls ((trQ xs (m + 1)).set (nLo xs m) (putL (gl (trQ xs (m + 1)) m) (-(nV xs m)))) := (by rw [Nat.mul_one, sls_set])
       have hp4 : (nHi xs m) * 1 + 1 ≤ (sls ((trQ xs (m + 1)).set (nLo xs m) (putL (gl (trQ xs (m + 1)) m) (-(nV xs m))))).length := (by rw [sls_length]; simp [hPo.1]; omega)
       have hs4 : (sls ((trQ xs (m + 1)).set (nLo xs m) (putL (gl (trQ xs (m + 1)) m) (-(nV xs m))))).set ((nHi xs m) * 1) (.sl (icells (putL (gl (trQ xs (m + 1)) m) (nV xs m))) (putL (gl (trQ xs (m + 1)) m) (nV xs m)).length) = sls (((trQ xs (m + 1)).set (nLo xs m) (putL (gl (trQ xs (m + 1)) m) (-(nV xs m)))).set (nHi xs m) (putL (gl (trQ xs (m + 1)) m) (nV xs m))) := (by rw [Nat.mul_one, sls_set])
       have hrow : gl ((trQ xs (m + 1)).set (nLo xs m) (putL (gl (trQ xs (m + 1)) m) (-(nV xs m)))) m = gl (trQ xs (m + 1)) m := (by rw [gl_set, if_neg (by omega)])
       have hPf : ((trQ xs (m + 1)).set (nLo xs m) (putL (gl (trQ xs (m + 1)) m) (-(nV xs m)))).set (nHi xs m) (putL (gl (trQ xs (m + 1)) m) (nV xs m)) = trQ xs m := (by rw [hgood.1]; rfl)
       refine a_region_z (n := 12) [[(131, true)], [(132, true)], [(133, true)], [(134, true)], [(135, true)], [(136, true)], [(137, true)], [(138, true)], [(139, true)], [(140, true)], [(141, true)], [(142, true)]] mixed (by kernel_rfl) ?_
       refine z_val (v := .rsl _ _ _ _ _) (v_move il nf) rfl rfl (by decide) rfl (by kernel_rfl) ?_
       refine z_val (v := .rp _ _) (v_fieldAddr_rp fo75_1 il) rfl rfl (by decide) rfl (by kernel_rfl) ?_
       refine z_val (v := .int _ _) (v_load_rp1 ta3 il rfl (fun _ => rfl) rfl) rfl rfl (by decide) rfl (by kernel_rfl) ?_
       refine z_val (v := .rsl _ _ _ _ _) (v_move il nf) rfl rfl (by decide) rfl (by kernel_rfl) ?_
       refine z_val (v := .int _ _) (v_move il nf) rfl rfl (by decide) rfl (by kernel_rfl) ?_
       refine z_val (v := .rp _ _) (v_indexAddr_rsl0 es22 il il (fun _ => by omega)) rfl rfl (by decide) rfl (by kernel_rfl) ?_
       refine z_val (v := .sl (icells (gl (trQ xs (m + 1)) m)) (gl (trQ xs (m + 1)) m).length) (v_load_rp1 ta25 il rfl (fun _ => by rw [hms, Nat.mul_one]; exact sls_get (show m < (trQ xs (m + 1)).length by rw [hPo.1]; exact hm)) rfl) rfl rfl (by decide) rfl (by kernel_rfl) ?_
       refine z_val (v := .rp _ _) (v_fieldAddr_rp fo75_0 il) rfl rfl (by decide) rfl (by kernel_rfl) ?_
       refine z_val (v := .int _ _) (v_load_rp1 ta3 il rfl (fun _ => rfl) rfl) rfl rfl (by decide) rfl (by kernel_rfl) ?_
       refine z_val (v := .int _ _) (v_neg il (fun _ => by unfold nV at hin; omega)) rfl rfl (by decide) rfl (by kernel_rfl) ?_
       refine z_new (v := .sl (icells (putL (gl (trQ xs (m + 1)) m) (-(nV xs m)))) (putL (gl (trQ xs (m + 1)) m) (-(nV xs m))).length) (QSem.cast (QSem.cast (q_callZ (vs := [.sl _ _, .int _ _]) (args := [.sl _ _, .int .i64 _]) hb78 ⟨il, il, trivial⟩ rfl (fun hA => put_c (gl (trQ xs (m + 1)) m) _ (-(nV xs m)) ⟨rfl, by omega⟩ hps (by omega)) (ic_noSh _) (ic_noRef _)) (sl_shZ (ic_pure _))) (sl_eq2 rfl (putL_length _ _).symm)) rfl rfl (by decide) rfl (by kernel_rfl) ?_
       refine z_val (v := .rp _ _) (v_indexAddr_rsl0 es22 il il (fun _ => by omega)) rfl rfl (by decide) rfl (by kernel_rfl) ?_
       refine z_nil ?_
       refine r_step rfl (o_store (v := .sl _ _) (y' := .osl _ _ _ _) rfl rfl ta25 il il rfl rfl rfl rfl rfl rfl hp3 (by decide) rfl (congrArg (fun c => AV.osl 1 c xs.length none) hs3)) ?_
       refine r_nil ?_
       refine a_region_z (n := 11) [[(143, true)], [(144, true)], [(145, true)], [(146, true)], [(147, true)], [(148, true)], [(149, true)], [(150, true)], [(151, true)], [(152, true)], [(153, true)]] mixed (by kernel_rfl) ?_
       refine z_val (v := .rsl _ _ _ _ _) (v_move il nf) rfl rfl (by decide) rfl (by kernel_rfl) ?_
       refine z_val (v := .rp _ _) (v_fieldAddr_rp fo75_2 il) rfl rfl (by decide) rfl (by kernel_rfl) ?_
       refine z_val (v := .int _ _) (v_load_rp1 ta3 il rfl (fun _ => rfl) rfl) rfl rfl (by decide) rfl (by kernel_rfl) ?_
       refine z_val (v := .rsl _ _ _ _ _) (v_move il nf) rfl rfl (by decide) rfl (by kernel_rfl) ?_
       refine z_val (v := .int _ _) (v_move il nf) rfl rfl (by decide) rfl (by kernel_rfl) ?_
       refine z_val (v := .rp _ _) (v_indexAddr_rsl0 es22 il il (fun _ => by omega)) rfl rfl (by decide) rfl (by kernel_rfl) ?_
       refine z_val (v := .sl (icells (gl (trQ xs (m + 1)) m)) (gl (trQ xs (m + 1)) m).length) (v_load_rp1 ta25 il rfl (fun _ => by rw [hms, Nat.mul_one]; have := sls_get (L := ((trQ xs (m + 1)).set (nLo xs m) (putL (gl (trQ xs (m + 1)) m) (-(nV xs m))))) (i := m) (by rw [List.length_set, hPo.1]; exact hm); rw [hrow] at this; exact this) rfl) rfl rfl (by decide) rfl (by kernel_rfl) ?_
       refine z_val (v := .rp _ _) (v_fieldAddr_rp fo75_0 il) rfl rfl (by decide) rfl (by kernel_rfl) ?_
       refine z_val (v := .int _ _) (v_load_rp1 ta3 il rfl (fun _ => rfl) rfl) rfl rfl (by decide) rfl (by kernel_rfl) ?_
       refine z_new (v := .sl (icells (putL (gl (trQ xs (m + 1)) m) (nV xs m))) (putL (gl (trQ xs (m + 1)) m) (nV xs m)).length) (QSem.cast (QSem.cast (q_callZ (vs := [.sl _ _, .int _ _]) (args := [.sl _ _, .int .i64 _]) hb78 ⟨il, il, trivial⟩ rfl (fun hA => put_c (gl (trQ xs (m + 1)) m) _ (nV xs m) ⟨rfl, by omega⟩ hps (by omega)) (ic_noSh _) (ic_noRef _)) (sl_shZ (ic_pure _))) (sl_eq2 rfl (putL_length _ _).symm)) rfl rfl (by decide) rfl (by kernel_rfl) ?_
       refine z_val (v := .rp _ _) (v_indexAddr_rsl0 es22 il il (fun _ => by omega)) rfl rfl (by decide) rfl (by kernel_rfl) ?_
       refine z_nil ?_
       refine r_step rfl (o_store (v := .sl _ _) (y' := .osl _ _ _ _) rfl rfl ta25 il il rfl rfl rfl rfl rfl rfl hp4 (by decide) rfl (congrArg (fun c => AV.osl 1 c xs.length none) hs4)) ?_
       refine r_nil ?_
       refine a_region ?_
       refine rm (.int _ _) ?_
       refine rv (v := .int _ _) (v_sub il il (fun _ => by omega)) ?_
       refine ra (.int _ _) ?_
       refine r_nil ?_
       refine ⟨m, ent_look ⟨wr, Weak.osl (by rw [hPf]) rfl, Weak.of_eq (int_eq (by omega)), trivial⟩, ⟨by omega, hgood.2⟩, by omega⟩
    ·
     refine a_exit ?_
     refine a_seq ?_
     have hke : k = 0 := (by simp at ht104; omega)
     subst hke
     have hok := treeB_ok hyes.1 hrg hall honce d2
     refine a_region ?_
     refine rm (.rsl _ _ _ _ _) ?_
     refine ra (.rsl _ _ _ _ _) ?_
     refine r_pre (ent_reloc_sl (t := 4) rfl rfl) ?_
     refine ra (.bool _) ?_
     refine r_nil ?_
     refine a_ret ?_
     refine retL (rs := [.tmp 4, .tmp 5]) [(4, .osl _ _ _ none), (5, _)] ⟨Weak.osl rfl rfl, wr, trivial⟩ rfl Tryz.results98 (by decide) ⟨by decide, by decide, rfl⟩ (by decide) (by decide) (l2_eq (osl_eq2 ?_ ?_) (bool_eq ?_)) rfl
     all_goals (first | exact hok.1.symm | (rw [hok.2]; exact (ts_ok hcs.1 hall d2).1.symm) | (rw [hok.2]))
end Go.Av
namespace Go.Av
open Go Go.Sort
theorem pth_shT {P : List (List Int)} {n : Nat} {b : Bool} : shT (.tup [.osl 1 (sls P) n none, .bool b]) = .tup [.sl (sls P) n, .bool b] := by
 show AV.tup [.sl (shL (sls P)) n, .bool b] = _
 rw [shL_id _ (sls_pure P).1 (sls_pure P).2]
def upT (n : Nat) : List Int := (List.range n).map fun (i : Nat) => ((i : Int) + 1)
theorem upT_len (n : Nat) : (upT n).length = n := by simp [upT]
theorem upT_gd {n i : Nat} (h : i < n) : gd (upT n) i = i + 1 := by simp [gd, upT, h]
theorem upT_succ (n : Nat) : upT (n + 1) = upT n ++ [((n : Int) + 1)] := by simp [upT, List.range_succ]
end Go.Av
