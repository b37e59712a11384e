/- Lemmas, part 3. -/
import Derived.Test.YtmbjhednpnokpaaC2
import Derived.RangeFuncLeaves
import Derived.RangeFuncRecord
import Derived.RangeFuncSeq
import Derived.RangeFuncBound
set_option linter.unusedVariables false
set_option linter.unusedSimpArgs false
namespace Go.Av
open Go Go.Sort
/-- The first i numbers, equal neighbours once. -/
def dedN (d : Array Int) : Nat → List Int
  | 0 => []
  | i + 1 => if 0 < i ∧ d[i]! = d[i - 1]! then dedN d i else dedN d i ++ [d[i]!]
section
variable {d d' : Array Int} {n k i j : Nat}
theorem dedN_same (h0 : 0 < i) (h : d[i]! = d[i - 1]!) : dedN d (i + 1) = dedN d i := by rw [dedN, if_pos ⟨h0, h⟩]
theorem dedN_new (h : ¬ (0 < i ∧ d[i]! = d[i - 1]!)) : dedN d (i + 1) = dedN d i ++ [d[i]!] := by rw [dedN, if_neg h]
theorem take_snoc (h : i < d.size) : d.toList.take (i + 1) = d.toList.take i ++ [d[i]!] := by
  rw [List.take_succ_eq_append_getElem (by simpa using h), Array.getElem_toList, getElem!_pos d i h]
theorem ded_grow (h : i < d.size) (hi : dedN d i = d.toList.take i) (hd : ¬ (0 < i ∧ d[i]! = d[i - 1]!)) : dedN d (i + 1) = d.toList.take (i + 1) := by
  rw [dedN_new hd, take_snoc h, hi]
theorem ded_one (h : 0 < d.size) : dedN d 1 = d.toList.take 1 := by
  have := ded_grow (i := 0) h rfl (by simp)
  exact this
theorem ded_all (hd : d.size = n) (h : dedN d n = d.toList.take n) : icells (dedN d n) = acells d := by
  unfold acells; rw [h, List.take_of_length_le (by simp; omega)]
theorem ded_all_len (hd : d.size = n) (h : dedN d n = d.toList.take n) : (dedN d n).length = n := by
  rw [h, List.length_take]; simp; omega
theorem ded_few (hd : d.size = n) (h : n < 2) : dedN d n = d.toList.take n := by
  rcases Nat.eq_zero_or_pos n with h0 | h0
  · rw [h0]; rfl
  · rw [show n = 1 by omega]; exact ded_one (by omega)
/-- The loop behind the first pair: the first i numbers stand at the front, without repeats. -/
def Cpt (d : Array Int) (n k0 k2 k : Nat) (d' : Array Int) : Prop :=
  1 ≤ k2 ∧ k0 + k2 ≤ n ∧ d'.size = n ∧ k < k0 + k2 ∧ d'.toList.take k = dedN d (k0 + k2) ∧ ∀ j, k0 + k2 ≤ j + 1 → d'[j]! = d[j]!
theorem Cpt.first (hd : d.size = n) (h0 : 0 < k) (hk : k < n) (h : dedN d k = d.toList.take k) (he : d[k]! = d[k - 1]!) : Cpt d n k 1 k d :=
  ⟨Nat.le_refl _, hk, hd, Nat.lt_succ_self _, by rw [dedN_same h0 he, h], fun _ _ => rfl⟩
theorem Cpt.same {k0 k2 : Nat} (h : Cpt d n k0 k2 k d') (hi : k0 + k2 < n) (he : d'[k0 + k2]! = d'[k0 + k2 - 1]!) : Cpt d n k0 (k2 + 1) k d' := by
  obtain ⟨h1, h2, h3, h4, h5, h6⟩ := h
  have e : k0 + (k2 + 1) = (k0 + k2) + 1 := rfl
  refine ⟨by omega, by omega, h3, by omega, ?_, fun j hj => h6 j (by omega)⟩
  rw [e, dedN_same (by omega) (by rw [← h6 (k0 + k2) (by omega), ← h6 (k0 + k2 - 1) (by omega)]; exact he), h5]
theorem set_get {i j : Nat} {v : Int} (hi : i < d.size) : (d.set! i v)[j]! = if i = j then v else d[j]! := by
  by_cases hj : j < d.size
  · rw [getElem!_pos _ j (by simpa using hj), getElem!_pos d j hj]
    simp only [Array.set!_eq_setIfInBounds]
    rw [Array.getElem_setIfInBounds (by simpa using hj)]
  · rw [getElem!_neg _ j (by simpa using hj), getElem!_neg d j hj, if_neg (by omega)]
theorem Cpt.new {k0 k2 : Nat} (h : Cpt d n k0 k2 k d') (hi : k0 + k2 < n) (he : ¬ d'[k0 + k2]! = d'[k0 + k2 - 1]!) : Cpt d n k0 (k2 + 1) (k + 1) (d'.set! k d'[k0 + k2]!) := by
  obtain ⟨h1, h2, h3, h4, h5, h6⟩ := h
  have e : k0 + (k2 + 1) = (k0 + k2) + 1 := rfl
  refine ⟨by omega, by omega, by simpa using h3, by omega, ?_, fun j hj => ?_⟩
  · rw [e, dedN_new (by rw [← h6 (k0 + k2) (by omega), ← h6 (k0 + k2 - 1) (by omega)]; exact fun h => he h.2), ← h5, take_snoc (by simp; omega), set_get (by omega), if_pos rfl, ← h6 (k0 + k2) (by omega)]
    congr 1
    simp only [Array.set!_eq_setIfInBounds, Array.toList_setIfInBounds]
    rw [List.take_set_of_le (Nat.le_refl _)]
  · rw [set_get (by omega), if_neg (by omega)]; exact h6 j (by omega)
theorem setL_rep {cs : List AV} {z : AV} : ∀ {m off : Nat}, off + m = cs.length → setL cs off (List.replicate m z) = cs.take off ++ List.replicate m z := by
  intro m off h
  apply List.ext_getElem?
  intro i
  rw [setL_get (by simp; omega), List.length_replicate]
  by_cases h1 : off ≤ i ∧ i < off + m
  · rw [if_pos h1, List.getElem?_append_right (by rw [List.length_take]; omega), List.length_take, show min off cs.length = off by omega]
  · rw [if_neg h1]
    by_cases h2 : i < off
    · rw [List.getElem?_append_left (by rw [List.length_take]; omega), List.getElem?_take_of_lt h2]
    · rw [List.getElem?_eq_none (by omega), List.getElem?_eq_none (by simp; omega)]
theorem Cpt.done {k0 k2 : Nat} (h : Cpt d n k0 k2 k d') (he : k0 + k2 = n) : setL (acells d') (0 + k * 1) (List.replicate (n - k) (.int .i64 0)) = icells (dedN d n) ++ List.replicate (n - k) (.int .i64 0) ∧ k = (dedN d n).length := by
  obtain ⟨h1, h2, h3, h4, h5, h6⟩ := h
  rw [he] at h5
  refine ⟨?_, ?_⟩
  · rw [Nat.zero_add, Nat.mul_one, setL_rep (by rw [acells_length]; omega), ← h5]
    congr 1
    unfold acells icells; rw [List.map_take]
  · rw [← h5, List.length_take]; simp; omega
theorem acells_set (d : Array Int) (i : Nat) (v : Int) : (acells d).set i (.int .i64 v) = acells (d.set! i v) := by
  unfold acells; rw [icells_set]; simp
end
end Go.Av
namespace Go.Av
open Go Go.Sort
/-- The literals in order, each once. -/
def dsrt (l : List Int) : List Int := dedN (Go.Sort.sort (ltc cfLit) l.toArray) l.length
/-- Do a literal and its opposite stand side by side ahead of place i? -/
def oppB (c : List Int) (i : Nat) : Bool := decide (gd c i = IntKind.i64.wrap (-(gd c (i - 1))))
/-- The clause of some literals. -/
def clR (l : List Int) : Option (List Int) := if (List.range (dsrt l).length).any (fun i => decide (1 ≤ i) && oppB (dsrt l) i) then none else some (dsrt l)
theorem clR_none {l : List Int} {i : Nat} (hi : i < (dsrt l).length) (h1 : 1 ≤ i) (h : oppB (dsrt l) i = true) : clR l = none := by
  unfold clR; rw [if_pos]
  rw [List.any_eq_true]; exact ⟨i, by simpa using hi, by simp [h1, h]⟩
theorem clR_some {l : List Int} (h : ∀ i, 1 ≤ i → i < (dsrt l).length → oppB (dsrt l) i = false) : clR l = some (dsrt l) := by
  unfold clR; rw [if_neg]
  rw [Bool.not_eq_true, List.any_eq_false]; intro i hi
  simp only [List.mem_range] at hi
  simp only [Bool.and_eq_true, decide_eq_true_eq, not_and]
  intro h1; rw [h i h1 hi]; decide
theorem sort_size (l : List Int) : (Go.Sort.sort (ltc cfLit) l.toArray).size = l.length := by
  have := (pdq_rec (l := bitsLen l.toArray.size) (wb := true) (wp := true) cfLit_swo (a := 0) (b := l.toArray.size) (d := l.toArray) (Nat.zero_le _) (Nat.le_refl _) (Or.inl rfl)).1.1
  simpa [Go.Sort.sort] using this
theorem dedN_le (d : Array Int) : ∀ i, (dedN d i).length ≤ i
  | 0 => Nat.le_refl _
  | i + 1 => by
    rw [dedN]; split
    · have := dedN_le d i; omega
    · rw [List.length_append]; have := dedN_le d i; simp; omega
end Go.Av
namespace Go.Av
open Go
/-- Numbers that are small. -/
def SmI (c : List Int) : Prop := ∀ j, -4611686018427387904 ≤ gd c j ∧ gd c j ≤ 4611686018427387904
theorem gd_mem {c : List Int} {j : Nat} (h : j < c.length) : gd c j ∈ c := by
  unfold gd; rw [List.getElem?_eq_getElem h]; exact List.getElem_mem h
theorem gd_out {c : List Int} {j : Nat} (h : c.length ≤ j) : gd c j = 0 := by
  unfold gd; rw [List.getElem?_eq_none h]; rfl
theorem SmI.of {c : List Int} (h : ∀ x ∈ c, -4611686018427387904 ≤ x ∧ x ≤ 4611686018427387904) : SmI c := fun j => by
  rcases Nat.lt_or_ge j c.length with hj | hj
  · exact h _ (gd_mem hj)
  · rw [gd_out hj]; omega
theorem mem_gd {c : List Int} {x : Int} (h : x ∈ c) : ∃ j, j < c.length ∧ gd c j = x := by
  obtain ⟨j, hj, he⟩ := List.getElem_of_mem h
  exact ⟨j, hj, by unfold gd; rw [List.getElem?_eq_getElem hj]; exact he⟩
theorem SmI.mem {c : List Int} (h : SmI c) {x : Int} (hx : x ∈ c) : -4611686018427387904 ≤ x ∧ x ≤ 4611686018427387904 := by
  obtain ⟨j, _, rfl⟩ := mem_gd hx; exact h j
theorem icells_drop (c : List Int) (k : Nat) : (icells c).drop k = icells (c.drop k) := by simp [icells]
theorem icells_append (a b : List Int) : icells (a ++ b) = icells a ++ icells b := by simp [icells]
theorem icells_take (c : List Int) (k : Nat) : (icells c).take k = icells (c.take k) := by simp [icells]
def putL : List Int → Int → List Int
  | [], l => [l]
  | x :: c, l => if vr x < vr l then x :: putL c l else l :: x :: c
theorem putL_length : ∀ (c : List Int) (l : Int), (putL c l).length = c.length + 1
  | [], _ => rfl
  | x :: c, l => by
    rw [putL]; split
    · simp [putL_length c l]
    · rfl
theorem mem_putL {x l : Int} : ∀ {c : List Int}, x ∈ putL c l ↔ x = l ∨ x ∈ c
  | [] => by simp [putL]
  | y :: c => by
    rw [putL]; split
    · simp only [List.mem_cons, mem_putL (c := c)]
      constructor
      · rintro (h | h | h) <;> simp [h]
      · rintro (h | h | h) <;> simp [h]
    · simp only [List.mem_cons]
theorem SmI.put {c : List Int} {l : Int} (h : SmI c) (hl : -4611686018427387904 ≤ l ∧ l ≤ 4611686018427387904) : SmI (putL c l) := SmI.of fun x hx => by
  rcases mem_putL.1 hx with rfl | hx
  · exact hl
  · exact h.mem hx
theorem drop_gd {c : List Int} {i : Nat} (h : i < c.length) : c.drop i = gd c i :: c.drop (i + 1) := by
  rw [List.drop_eq_getElem_cons h]; unfold gd; rw [List.getElem?_eq_getElem h]; rfl
theorem take_gd {c : List Int} {i : Nat} (h : i < c.length) : c.take (i + 1) = c.take i ++ [gd c i] := by
  rw [List.take_succ_eq_append_getElem h]; unfold gd; rw [List.getElem?_eq_getElem h]; rfl
theorem put_more {c : List Int} {l : Int} {i : Nat} (h : i < c.length) (hv : vr (gd c i) < vr l) : c.take (i + 1) ++ putL (c.drop (i + 1)) l = c.take i ++ putL (c.drop i) l := by
  rw [drop_gd h, putL, if_pos hv, take_gd h, List.append_assoc]; rfl
theorem put_stop {c : List Int} {l : Int} {i : Nat} (h : i < c.length → ¬ vr (gd c i) < vr l) : putL (c.drop i) l = l :: c.drop i := by
  rcases Nat.lt_or_ge i c.length with hi | hi
  · rw [drop_gd hi, putL, if_neg (h hi)]
  · rw [List.drop_eq_nil_of_le hi]; rfl
def joinL : List Int → List Int → Option (List Int)
  | out, [] => some out
  | out, x :: b => if -x ∈ out then none else if x ∈ out then joinL out b else joinL (putL out x) b
theorem join_no {out b : List Int} {i : Nat} (h : i < b.length) (hx : -(gd b i) ∈ out) : joinL out (b.drop i) = none := by
  rw [drop_gd h, joinL, if_pos hx]
theorem join_old {out b : List Int} {i : Nat} (h : i < b.length) (hx : ¬ -(gd b i) ∈ out) (h2 : gd b i ∈ out) : joinL out (b.drop (i + 1)) = joinL out (b.drop i) := by
  rw [drop_gd h, joinL, if_neg hx, if_pos h2]
theorem join_new {out b : List Int} {i : Nat} (h : i < b.length) (hx : ¬ -(gd b i) ∈ out) (h2 : ¬ gd b i ∈ out) : joinL (putL out (gd b i)) (b.drop (i + 1)) = joinL out (b.drop i) := by
  rw [drop_gd h, joinL, if_neg hx, if_neg h2]
theorem join_end {out b : List Int} {i : Nat} (h : b.length ≤ i) : joinL out (b.drop i) = some out := by
  rw [List.drop_eq_nil_of_le h]; rfl
theorem join_cons {out b : List Int} {x : Int} : joinL out (x :: b) = (joinL out [x]).bind (fun o => joinL o b) := by
  simp only [joinL]; split
  · rfl
  · split <;> rfl
theorem join_mem : ∀ {b out o : List Int} {x : Int}, joinL out b = some o → x ∈ o → x ∈ out ∨ x ∈ b
  | [], out, o, x, h, hx => by simp only [joinL, Option.some.injEq] at h; subst h; exact .inl hx
  | y :: b, out, o, x, h, hx => by
    simp only [joinL] at h
    split at h
    · cases h
    · split at h
      · rcases join_mem h hx with h | h
        · exact .inl h
        · exact .inr (List.mem_cons_of_mem _ h)
      · rcases join_mem h hx with h | h
        · rcases mem_putL.1 h with rfl | h
          · exact .inr (by simp)
          · exact .inl h
        · exact .inr (List.mem_cons_of_mem _ h)
theorem join_len : ∀ {b out o : List Int}, joinL out b = some o → o.length ≤ out.length + b.length
  | [], out, o, h => by simp only [joinL, Option.some.injEq] at h; subst h; simp
  | y :: b, out, o, h => by
    simp only [joinL] at h
    split at h
    · cases h
    · split at h
      · have := join_len h; simp; omega
      · have := join_len h; rw [putL_length] at this; simp; omega
end Go.Av
namespace Go.Av
open Go Go.Sort
/-- Ascending by variable. -/
def Strict (c : List Int) : Prop := c.Pairwise fun a b => vr a < vr b
theorem strict_eq : ∀ {c d : List Int}, Strict c → Strict d → (∀ x, x ∈ c ↔ x ∈ d) → c = d
  | [], [], _, _, _ => rfl
  | [], y :: d, _, _, h => by have := (h y).2 (by simp); simp at this
  | x :: c, [], _, _, h => by have := (h x).1 (by simp); simp at this
  | x :: c, y :: d, hc, hd, h => by
    simp only [Strict, List.pairwise_cons] at hc hd
    have hxy : x = y := by
      rcases List.mem_cons.1 ((h x).1 (by simp)) with h1 | h1
      · exact h1
      · rcases List.mem_cons.1 ((h y).2 (by simp)) with h2 | h2
        · exact h2.symm
        · have := hd.1 x h1; have := hc.1 y h2; omega
    subst hxy
    congr 1
    refine strict_eq hc.2 hd.2 fun z => ?_
    have hz := h z
    simp only [List.mem_cons] at hz
    constructor
    · intro hm
      rcases hz.1 (.inr hm) with rfl | h1
      · have := hc.1 z hm; omega
      · exact h1
    · intro hm
      rcases hz.2 (.inr hm) with rfl | h1
      · have := hd.1 z hm; omega
      · exact h1
theorem strict_opp {c : List Int} (h : Strict c) {x : Int} (h0 : x ≠ 0) (h1 : x ∈ c) (h2 : -x ∈ c) : False := by
  obtain ⟨i, hi, rfl⟩ := List.getElem_of_mem h1
  obtain ⟨j, hj, he⟩ := List.getElem_of_mem h2
  have hp := List.pairwise_iff_getElem.1 h
  have hv : vr (-c[i]) = vr c[i] := by unfold vr; split <;> split <;> omega
  rcases Nat.lt_trichotomy i j with hlt | rfl | hlt
  · have := hp i j hi hj hlt; rw [he, hv] at this; omega
  · omega
  · have := hp j i hj hi hlt; rw [he, hv] at this; omega
theorem vr_same {x y : Int} (h : vr x = vr y) : x = y ∨ x = -y := by unfold vr at h; split at h <;> split at h <;> omega
theorem strict_put {l : Int} : ∀ {c : List Int}, Strict c → (∀ y ∈ c, vr y ≠ vr l) → Strict (putL c l)
  | [], _, _ => by simp [putL, Strict]
  | y :: c, hc, h => by
    simp only [Strict, List.pairwise_cons] at hc
    rw [putL]; split
    · rename_i hlt
      simp only [Strict, List.pairwise_cons]
      refine ⟨fun z hz => ?_, strict_put hc.2 fun z hz => h z (by simp [hz])⟩
      rcases mem_putL.1 hz with rfl | hz
      · exact hlt
      · exact hc.1 z hz
    · rename_i hlt
      simp only [Strict, List.pairwise_cons]
      have := h y (by simp)
      refine ⟨fun z hz => ?_, hc⟩
      rcases List.mem_cons.1 hz with rfl | hz
      · omega
      · have := hc.1 z hz; omega
theorem join_some : ∀ {b out o : List Int}, Strict out → joinL out b = some o → Strict o ∧ ∀ x, x ∈ o ↔ x ∈ out ∨ x ∈ b
  | [], out, o, hs, h => by
    simp only [joinL, Option.some.injEq] at h; subst h; exact ⟨hs, by simp⟩
  | y :: b, out, o, hs, h => by
    simp only [joinL] at h
    split at h
    · cases h
    · rename_i h1
      split at h
      · rename_i h2
        obtain ⟨g1, g2⟩ := join_some hs h
        refine ⟨g1, fun x => ?_⟩
        rw [g2 x]; simp only [List.mem_cons]
        constructor
        · rintro (h | h) <;> simp [h]
        · rintro (h | rfl | h) <;> simp [*]
      · rename_i h2
        obtain ⟨g1, g2⟩ := join_some (strict_put hs fun z hz he => by
          rcases vr_same he with rfl | rfl
          · exact h2 hz
          · exact h1 hz) h
        refine ⟨g1, fun x => ?_⟩
        rw [g2 x, mem_putL]; simp only [List.mem_cons]
        constructor
        · rintro ((h | h) | h) <;> simp [h]
        · rintro (h | h | h) <;> simp [h]
theorem join_none : ∀ {b out : List Int}, joinL out b = none → ∃ x, x ∈ out ++ b ∧ -x ∈ out ++ b
  | [], out, h => by simp [joinL] at h
  | y :: b, out, h => by
    simp only [joinL] at h
    split at h
    · rename_i h1; exact ⟨y, by simp, by simp [h1]⟩
    · split at h
      · obtain ⟨x, hx, hx'⟩ := join_none h
        refine ⟨x, ?_, ?_⟩
        · rcases List.mem_append.1 hx with h | h <;> simp [h]
        · rcases List.mem_append.1 hx' with h | h <;> simp [h]
      · obtain ⟨x, hx, hx'⟩ := join_none h
        refine ⟨x, ?_, ?_⟩
        · rcases List.mem_append.1 hx with h | h
          · rcases mem_putL.1 h with h | h <;> simp [h]
          · simp [h]
        · rcases List.mem_append.1 hx' with h | h
          · rcases mem_putL.1 h with h | h <;> simp [h]
          · simp [h]
theorem sort_facts {lt : Int → Int → Bool} (hS : SWO lt) (L : List Int) : (∀ x, x ∈ (Go.Sort.sort lt L.toArray).toList ↔ x ∈ L) ∧ SortedIn lt 0 L.length (Go.Sort.sort lt L.toArray) ∧ (Go.Sort.sort lt L.toArray).size = L.length := by
  obtain ⟨⟨h1, _, h3⟩, h4⟩ := pdq_rec (l := bitsLen L.toArray.size) (wb := true) (wp := true) hS (a := 0) (b := L.toArray.size) (d := L.toArray) (Nat.zero_le _) (Nat.le_refl _) (Or.inl rfl)
  have hsz : (Go.Sort.sort lt L.toArray).size = L.length := by unfold Go.Sort.sort; rw [h1]; simp
  refine ⟨fun x => ?_, ?_, hsz⟩
  · have e1 : (Go.Sort.sort lt L.toArray).extract 0 L.toArray.size = Go.Sort.sort lt L.toArray := by
      rw [show L.toArray.size = (Go.Sort.sort lt L.toArray).size by rw [hsz]; simp]; simp
    have := h3.mem_iff (a := x)
    change x ∈ ((Go.Sort.sort lt L.toArray).extract 0 L.toArray.size).toList ↔ _ at this
    rw [e1] at this
    rw [this]; simp
  · simpa [Go.Sort.sort] using h4
theorem dedN_mem {d : Array Int} {x : Int} : ∀ {i : Nat}, x ∈ dedN d i ↔ ∃ j, j < i ∧ d[j]! = x
  | 0 => by simp [dedN]
  | i + 1 => by
    rw [dedN]; split
    · rename_i h
      rw [dedN_mem (i := i)]
      constructor
      · rintro ⟨j, h1, h2⟩; exact ⟨j, by omega, h2⟩
      · rintro ⟨j, h1, h2⟩
        by_cases hj : j = i
        · subst hj; exact ⟨j - 1, by omega, by rw [← h.2, h2]⟩
        · exact ⟨j, by omega, h2⟩
    · rw [List.mem_append, dedN_mem (i := i), List.mem_singleton]
      constructor
      · rintro (⟨j, h1, h2⟩ | h)
        · exact ⟨j, by omega, h2⟩
        · exact ⟨i, by omega, h.symm⟩
      · rintro ⟨j, h1, h2⟩
        by_cases hj : j = i
        · subst hj; exact .inr h2.symm
        · exact .inl ⟨j, by omega, h2⟩
/-- Sorted and without equal neighbours: strictly sorted, if the order is total. -/
theorem dedN_strict {lt : Int → Int → Bool} (hS : SWO lt) (ht : ∀ x y, lt x y = false → lt y x = false → x = y) {d : Array Int} {n : Nat} (hs : SortedIn lt 0 n d) : ∀ {i : Nat}, i ≤ n → (dedN d i).Pairwise fun a b => lt a b = true
  | 0, _ => by simp [dedN]
  | i + 1, hi => by
    rw [dedN]; split
    · exact dedN_strict hS ht hs (by omega)
    · rename_i h
      refine List.pairwise_append.2 ⟨dedN_strict hS ht hs (by omega), by simp, fun a ha b hb => ?_⟩
      rw [List.mem_singleton] at hb; subst hb
      obtain ⟨j, hj, rfl⟩ := dedN_mem.1 ha
      cases hc : lt d[j]! d[i]! with
      | true => rfl
      | false =>
        exfalso
        have e := ht _ _ hc (hs j i (by omega) hj (by omega))
        refine h ⟨by omega, ?_⟩
        by_cases hj1 : j = i - 1
        · rw [← hj1]; exact e.symm
        · refine ht _ _ (hs (i - 1) i (by omega) (by omega) (by omega)) ?_
          rw [← e]; exact hs j (i - 1) (by omega) (by omega) (by omega)
theorem cf2_total {f g : Int → Int} (hg : ∀ x y, g x = g y → x = y) {x y : Int} (h1 : ltc (cf2 f g) x y = false) (h2 : ltc (cf2 f g) y x = false) : x = y := by
  rw [cf2_lt, decide_eq_false_iff_not] at h1 h2
  exact hg _ _ (by omega)
theorem absA_of {x : Int} (h : -4611686018427387904 ≤ x ∧ x ≤ 4611686018427387904) : absA x = vr x := by
  unfold absA vr
  rw [IntWalk.i64_in _ (by omega)]; split <;> omega
theorem dsrt_mem {L : List Int} {x : Int} : x ∈ dsrt L ↔ x ∈ L := by
  obtain ⟨h1, _, h3⟩ := sort_facts cfLit_swo L
  rw [← h1 x]; unfold dsrt
  rw [dedN_mem]
  constructor
  · rintro ⟨j, hj, rfl⟩
    rw [getElem!_pos _ j (by omega)]; exact Array.getElem_mem_toList _
  · intro hx
    obtain ⟨j, hj, he⟩ := List.getElem_of_mem hx
    have hj' : j < (Go.Sort.sort (ltc cfLit) L.toArray).size := by simpa using hj
    exact ⟨j, by omega, by rw [getElem!_pos _ j hj']; simpa using he⟩
theorem dsrt_lt (L : List Int) : (dsrt L).Pairwise fun a b => ltc cfLit a b = true :=
  dedN_strict cfLit_swo (fun x y => cf2_total (fun a b h => by simp at h; omega)) (sort_facts cfLit_swo L).2.1 (Nat.le_refl _)
/-- No opposite neighbours: strictly ascending by variable. -/
theorem dsrt_strict {L : List Int} (hs : SmI L) (h : ∀ i, 1 ≤ i → i < (dsrt L).length → oppB (dsrt L) i = false) : Strict (dsrt L) := by
  have hp := List.pairwise_iff_getElem.1 (dsrt_lt L)
  have hsm : ∀ x ∈ dsrt L, absA x = vr x := fun x hx => absA_of (hs.mem (dsrt_mem.1 hx))
  have step : ∀ i (h1 : i + 1 < (dsrt L).length), vr ((dsrt L)[i]'(by omega)) < vr (dsrt L)[i + 1] := fun i h1 => by
    have h2 := hp i (i + 1) (by omega) h1 (by omega)
    have ho := h (i + 1) (by omega) h1
    unfold cfLit at h2
    rw [cf2_lt, decide_eq_true_iff, hsm _ (List.getElem_mem _), hsm _ (List.getElem_mem _)] at h2
    rcases h2 with h2 | ⟨h2, h3⟩
    · exact h2
    · exfalso
      unfold oppB at ho
      rw [decide_eq_false_iff_not] at ho
      apply ho
      have e1 : gd (dsrt L) (i + 1) = (dsrt L)[i + 1] := by unfold gd; rw [List.getElem?_eq_getElem h1]; rfl
      have e2 : gd (dsrt L) (i + 1 - 1) = (dsrt L)[i]'(by omega) := by unfold gd; rw [show i + 1 - 1 = i by omega, List.getElem?_eq_getElem (by omega)]; rfl
      have hb := hs.mem (dsrt_mem.1 (List.getElem_mem (l := dsrt L) (n := i) (by omega)))
      rw [e1, e2, IntWalk.i64_in _ (by omega)]
      rcases vr_same h2 with h4 | h4 <;> omega
  refine List.pairwise_iff_getElem.2 fun i j hi hj hij => ?_
  obtain ⟨k, rfl⟩ : ∃ k, j = i + 1 + k := ⟨j - (i + 1), by omega⟩
  clear hij
  induction k with
  | zero => exact step i hj
  | succ k ih =>
    have h1 := ih (by omega)
    have h2 := step (i + 1 + k) hj
    have : i + 1 + (k + 1) = i + 1 + k + 1 := by omega
    simp only [this]
    omega
theorem clR_join {out b : List Int} (hs : SmI (out ++ b)) (h0 : ∀ x ∈ out ++ b, x ≠ 0) (ho : Strict out) : clR (out ++ b) = joinL out b := by
  by_cases hz : ∃ i, 1 ≤ i ∧ i < (dsrt (out ++ b)).length ∧ oppB (dsrt (out ++ b)) i = true
  · obtain ⟨i, h1, h2, h3⟩ := hz
    rw [clR_none h2 h1 h3]
    cases hj : joinL out b with
    | none => rfl
    | some o =>
      exfalso
      obtain ⟨g1, g2⟩ := join_some ho hj
      have m1 : gd (dsrt (out ++ b)) i ∈ out ++ b := dsrt_mem.1 (gd_mem h2)
      have m2 : gd (dsrt (out ++ b)) (i - 1) ∈ out ++ b := dsrt_mem.1 (gd_mem (by omega))
      unfold oppB at h3
      rw [decide_eq_true_iff] at h3
      have hb := hs.mem m2
      rw [IntWalk.i64_in _ (by omega)] at h3
      rw [h3] at m1
      exact strict_opp g1 (h0 _ m2) ((g2 _).2 (List.mem_append.1 m2)) ((g2 _).2 (List.mem_append.1 m1))
  · have hno : ∀ i, 1 ≤ i → i < (dsrt (out ++ b)).length → oppB (dsrt (out ++ b)) i = false := fun i h1 h2 => by
      cases hc : oppB (dsrt (out ++ b)) i with
      | false => rfl
      | true => exact absurd ⟨i, h1, h2, hc⟩ hz
    have hst := dsrt_strict hs hno
    rw [clR_some hno]
    cases hj : joinL out b with
    | none =>
      exfalso
      obtain ⟨x, hx, hx'⟩ := join_none hj
      exact strict_opp hst (h0 x hx) (dsrt_mem.2 hx) (dsrt_mem.2 hx')
    | some o =>
      obtain ⟨g1, g2⟩ := join_some ho hj
      congr 1
      exact strict_eq hst g1 fun x => by rw [dsrt_mem, g2 x, List.mem_append]
theorem clB_strict {vars : Int} {c : List Int} (h : clB vars c = true) : Strict c := by
  obtain ⟨_, h2⟩ := clB_spec h
  have step : ∀ i (h1 : i + 1 < c.length), vr (c[i]'(by omega)) < vr c[i + 1] := fun i h1 => by
    have := h2 (i + 1) h1
    simp only [okC, Bool.and_eq_true, Bool.or_eq_true, decide_eq_true_eq] at this
    have e1 : gd c (i + 1) = c[i + 1] := by unfold gd; rw [List.getElem?_eq_getElem h1]; rfl
    have e2 : gd c (i + 1 - 1) = c[i]'(by omega) := by unfold gd; rw [show i + 1 - 1 = i by omega, List.getElem?_eq_getElem (by omega)]; rfl
    rw [e1, e2] at this
    rcases this.2 with h | h
    · omega
    · exact h
  refine List.pairwise_iff_getElem.2 fun i j hi hj hij => ?_
  obtain ⟨k, rfl⟩ : ∃ k, j = i + 1 + k := ⟨j - (i + 1), by omega⟩
  clear hij
  induction k with
  | zero => exact step i hj
  | succ k ih =>
    have h1 := ih (by omega)
    have h2 := step (i + 1 + k) hj
    have : i + 1 + (k + 1) = i + 1 + k + 1 := by omega
    simp only [this]
    omega
theorem clB_mem {vars : Int} {c : List Int} (h : clB vars c = true) {x : Int} (hx : x ∈ c) : litB vars x = true ∧ -12 ≤ x ∧ x ≤ 12 ∧ x ≠ 0 := by
  obtain ⟨j, hj, rfl⟩ := mem_gd hx
  have h1 := clB_lit h hj
  have h2 := (clB_spec h).1
  have h3 := litB_spec.1 h1
  exact ⟨h1, by omega, by omega, h3.2⟩
theorem clB_len {vars : Int} {c : List Int} (h : clB vars c = true) : c.length ≤ 12 := by
  have hs := clB_strict h
  have hp := List.pairwise_iff_getElem.1 hs
  have key : ∀ i (hi : i < c.length), (i : Int) + 1 ≤ vr c[i] := by
    intro i
    induction i with
    | zero => intro hi; have := (clB_mem h (List.getElem_mem hi)).2.2.2; unfold vr; split <;> omega
    | succ i ih => intro hi; have h1 := ih (by omega); have h2 := hp i (i + 1) (by omega) hi (by omega); omega
  rcases Nat.lt_or_ge 12 c.length with hlt | hge
  · have h1 := key 12 hlt
    have h2 := clB_mem h (List.getElem_mem hlt)
    unfold vr at h1; split at h1 <;> omega
  · exact hge
end Go.Av
namespace Go.Av
open Go
theorem joinOne_len (out : List Int) (x : Int) : ((joinL out [x]).getD []).length ≤ out.length + 1 := by
  cases hj : joinL out [x] with
  | none => simp
  | some o => have := join_len hj; simpa using this
theorem joinOne_sm {out : List Int} {x : Int} (hs : SmI out) (hx : -4611686018427387904 ≤ x ∧ x ≤ 4611686018427387904) : SmI ((joinL out [x]).getD []) := by
  cases hj : joinL out [x] with
  | none => simp [SmI, gd]
  | some o =>
    refine SmI.of fun y hy => ?_
    rcases join_mem hj hy with h | h
    · exact hs.mem h
    · rw [List.mem_singleton] at h; subst h; exact hx
theorem joinOne_next {out L o : List Int} {i : Nat} (h : i < L.length) (hj : joinL out [gd L i] = some o) : joinL o (L.drop (i + 1)) = joinL out (L.drop i) := by
  rw [drop_gd h, join_cons, hj]; rfl
theorem joinOne_none {out L : List Int} {i : Nat} (h : i < L.length) (hj : joinL out [gd L i] = none) : joinL out (L.drop i) = none := by
  rw [drop_gd h, join_cons, hj]; rfl
end Go.Av
namespace Go.Av
open Go

def updL (σ : Sig) : List (Nat × AV) → Sig
  | [] => σ
  | (d, x) :: us => updL (upd σ d x) us
abbrev slotsU (us : List (Nat × AV)) : List Nat := us.map (·.1)
theorem updL_not {i : Nat} : ∀ {us : List (Nat × AV)} {σ : Sig}, i ∉ slotsU us → updL σ us i = σ i
  | [], _, _ => rfl
  | (d, x) :: us, σ, h => by
    simp only [slotsU, List.map_cons, List.mem_cons, not_or] at h
    rw [updL, updL_not (us := us) h.2, upd_other _ _ h.1]
theorem updL_congr {i : Nat} : ∀ {us : List (Nat × AV)} {σ σ' : Sig}, σ i = σ' i → updL σ us i = updL σ' us i
  | [], _, _, h => h
  | (d, x) :: us, σ, σ', h => by
    simp only [updL]
    refine updL_congr ?_
    simp only [upd]; split
    · rfl
    · exact h
theorem updL_in {i : Nat} : ∀ {us : List (Nat × AV)} {σ σ' : Sig}, i ∈ slotsU us → updL σ us i = updL σ' us i
  | [], _, _, h => by simp at h
  | (d, x) :: us, σ, σ', h => by
    simp only [updL]
    by_cases hi : i = d
    · exact updL_congr (by simp [upd, hi])
    · exact updL_in (by simp only [slotsU, List.map_cons, List.mem_cons] at h; exact h.resolve_left hi)
theorem updL_cases {i : Nat} : ∀ {us : List (Nat × AV)} {σ : Sig}, updL σ us i = σ i ∨ ∃ x, (i, x) ∈ us ∧ updL σ us i = x
  | [], _ => .inl rfl
  | (d, x) :: us, σ => by
    simp only [updL]
    rcases updL_cases (i := i) (us := us) (σ := upd σ d x) with h | ⟨y, h1, h2⟩
    · by_cases hi : i = d
      · subst hi; exact .inr ⟨x, by simp, by rw [h, upd_same]⟩
      · exact .inl (by rw [h, upd_other _ _ hi])
    · exact .inr ⟨y, by simp [h1], h2⟩

/-- An operation, guard and all, sets slots: in every state that agrees with σ0 on D. -/
def YldX (P : Program) (N : Nat) (ops : Array Oper) (o : Oper) (σ0 : Sig) (D : List Nat) (us : List (Nat × AV)) (ds : List Nat) : Prop :=
  ∀ σ : Sig, (∀ i ∈ D, σ i = σ0 i) → ∀ (gv : Nat → Value) (e : Ctx) (a : Act) (w : World), All N gv e σ a w → ∀ (K : Act → World → Prop) (Q : Exit → Act → World → Prop),
    (∀ a' w', All N gv e (updL (fun i => purgeD ds (σ i)) us) a' w' → K a' w') → if Region.wanted o (yielded ops a.tmps) then o.wp P a w K Q else K (a.put o.dst undef) w

section mixing
def mixX (σ : Sig) : List (List (Nat × AV)) → (Nat → Bool) → Sig
  | [], _ => σ
  | us :: st, L => mixX (if L 0 then updL σ us else σ) st (fun k => L (k + 1))
theorem mixX_none : ∀ (st : List (List (Nat × AV))) (σ : Sig) (L : Nat → Bool), (∀ k, L k = false) → mixX σ st L = σ
  | [], _, _, _ => rfl
  | us :: st, σ, L, h => by
    simp only [mixX, h 0, Bool.false_eq_true, if_false]
    exact mixX_none st σ _ (fun k => h (k + 1))
theorem mixX_agree {i : Nat} : ∀ (st : List (List (Nat × AV))) (σ σ' : Sig) (L L' : Nat → Bool), σ i = σ' i → (∀ k us, st[k]? = some us → i ∈ slotsU us → L k = L' k) → mixX σ st L i = mixX σ' st L' i
  | [], _, _, _, _, h0, _ => h0
  | us :: st, σ, σ', L, L', h0, h => by
    simp only [mixX]
    refine mixX_agree st _ _ _ _ ?_ (fun k vs hk hd => h (k + 1) vs (by simpa using hk) hd)
    by_cases hi : i ∈ slotsU us
    · have := h 0 us rfl hi
      rw [this]
      cases L' 0
      · simpa using h0
      · simpa using updL_in hi
    · cases L 0 <;> cases L' 0 <;> simp [updL_not hi, h0]
theorem mixX_last {i : Nat} {us : List (Nat × AV)} {τ : Sig} : ∀ (st : List (List (Nat × AV))) (σ : Sig) (L : Nat → Bool) (j : Nat), st[j]? = some us → L j = true → i ∈ slotsU us →
    (∀ k vs, j < k → st[k]? = some vs → i ∈ slotsU vs → L k = false) → mixX σ st L i = updL τ us i
  | [], _, _, _, h, _, _, _ => by simp at h
  | vs :: st, σ, L, 0, h, hj, hi, hL => by
    simp at h; subst h
    simp only [mixX, hj, if_true]
    rw [mixX_agree st _ (updL σ vs) _ (fun _ => false) rfl (fun k ws hk hm => hL (k + 1) ws (by omega) (by simpa using hk) hm), mixX_none _ _ _ (fun _ => rfl)]
    exact updL_in hi
  | vs :: st, σ, L, j + 1, h, hj, hi, hL => by
    simp only [List.getElem?_cons_succ] at h
    simp only [mixX]
    exact mixX_last st _ (fun k => L (k + 1)) j h hj hi (fun k ws hk hw hm => hL (k + 1) ws (by omega) (by simpa using hw) hm)
theorem mixX_set {us : List (Nat × AV)} (st : List (List (Nat × AV))) (σ : Sig) (L : Nat → Bool) (j : Nat) (h : st[j]? = some us) (hL : ∀ k vs, j < k → st[k]? = some vs → (∃ s, s ∈ slotsU us ∧ s ∈ slotsU vs) → L k = false) :
    mixX σ st (fun k => k == j || L k) = updL (mixX σ st L) us := by
  funext i
  by_cases hi : i ∈ slotsU us
  · refine mixX_last st σ _ j h (by simp) hi (fun k vs hk hv hm => ?_)
    rw [hL k vs hk hv ⟨i, hi, hm⟩]
    simp; omega
  · rw [updL_not hi]
    refine mixX_agree st _ _ _ _ rfl (fun k vs hk hm => ?_)
    have : ¬ k = j := fun he => by subst he; rw [h] at hk; cases hk; exact hi hm
    have hb : (k == j) = false := by simp [this]
    rw [hb, Bool.false_or]
theorem mixX_cases {i : Nat} : ∀ (st : List (List (Nat × AV))) (σ : Sig) (L : Nat → Bool), mixX σ st L i = σ i ∨ ∃ k us x, L k = true ∧ st[k]? = some us ∧ (i, x) ∈ us ∧ mixX σ st L i = x
  | [], _, _ => .inl rfl
  | us :: st, σ, L => by
    simp only [mixX]
    rcases mixX_cases st (if L 0 then updL σ us else σ) (fun k => L (k + 1)) (i := i) with h | ⟨k, vs, y, h1, h2, h3, h4⟩
    · rw [h]
      cases h0 : L 0 with
      | false => simp
      | true =>
        simp only [if_true]
        rcases updL_cases (i := i) (us := us) (σ := σ) with h5 | ⟨x, h5, h6⟩
        · exact .inl h5
        · exact .inr ⟨0, us, x, h0, by simp, h5, h6⟩
    · exact .inr ⟨k + 1, vs, y, h1, by simpa using h2, h3, h4⟩
end mixing

abbrev EffsX := List (List (Nat × Bool))
def effX (efs : EffsX) (k : Nat) : List (Nat × Bool) := efs.getD k []
def slotsX (efs : EffsX) (k : Nat) : List Nat := (effX efs k).map (·.1)
def pursX (efs : EffsX) (k : Nat) : List Nat := ((effX efs k).filter (·.2)).map (·.1)
/-- Two operations that set one slot surely stand in order. -/
def effOkX (l : List Oper) (efs : EffsX) : Bool := (List.range l.length).all fun k => (List.range k).all fun j => !((slotsX efs j).any fun s => (slotsX efs k).contains s) || ((masks l []).getD k 0).testBit j
def readOkX (l : List Oper) (efs : EffsX) (j s : Nat) : Bool := (List.range l.length).all fun k => !((slotsX efs k).contains s) || k == j || ((masks l []).getD j 0).testBit k || ((masks l []).getD k 0).testBit j
def rootOkX (l : List Oper) (efs : EffsX) (j s : Nat) : Bool := (List.range l.length).all fun k => !((pursX efs k).contains s) || ((masks l []).getD j 0).testBit k
def opOkX (l : List Oper) (efs : EffsX) (j : Nat) (D R : List Nat) : Bool := D.all (readOkX l efs j) && R.all (rootOkX l efs j)
def rootsU (us : List (Nat × AV)) : List Nat := us.flatMap fun p => roots p.2

/-- The walk of the text order. -/
def AQx (P : Program) (N : Nat) (l : List Oper) (efs : EffsX) : List Oper → Nat → Sig → (Sig → Prop) → Prop
  | [], _, σ, K => K σ
  | o :: r, j, σ, K => ∃ us D, slotsU us = slotsX efs j ∧ YldX P N l.toArray o σ D us (pursX efs j) ∧ opOkX l efs j D (rootsU us) = true ∧ AQx P N l efs r (j + 1) (updL σ us) K

section
variable {P : Program} {N : Nat} {l : List Oper} {efs : EffsX}
theorem AQx.steps {K : Sig → Prop} : ∀ (r : List Oper) (j : Nat) (σ : Sig), AQx P N l efs r j σ K →
    ∃ st : List (List (Nat × AV)), st.length = r.length ∧ (∀ k o, r[k]? = some o → ∃ us D, st[k]? = some us ∧ slotsU us = slotsX efs (j + k) ∧ YldX P N l.toArray o (mixX σ st (fun i => decide (i < k))) D us (pursX efs (j + k)) ∧ opOkX l efs (j + k) D (rootsU us) = true) ∧
      K (mixX σ st fun _ => true)
  | [], j, σ, h => ⟨[], rfl, fun k o h => by simp at h, h⟩
  | o :: r, j, σ, h => by
    obtain ⟨us, D, he, hy, hok, h⟩ := h
    obtain ⟨st, hl, hst, hK⟩ := AQx.steps r (j + 1) (updL σ us) h
    refine ⟨us :: st, by simp [hl], fun k o' ho' => ?_, by simpa [mixX] using hK⟩
    cases k with
    | zero =>
      simp at ho'; subst ho'
      refine ⟨us, D, rfl, he, ?_, hok⟩
      rw [mixX_none _ _ _ (fun k => by simp)]; exact hy
    | succ k =>
      obtain ⟨us', D', h1, h2, h3, h4⟩ := hst k o' (by simpa using ho')
      refine ⟨us', D', by simpa using h1, by rw [show j + (k + 1) = j + 1 + k by omega]; exact h2, ?_, by rw [show j + (k + 1) = j + 1 + k by omega]; exact h4⟩
      have : mixX σ (us :: st) (fun i => decide (i < k + 1)) = mixX (updL σ us) st (fun i => decide (i < k)) := by simp [mixX]
      rw [this, show j + (k + 1) = j + 1 + k by omega]; exact h3

theorem effOkX_spec (h : effOkX l efs = true) {j k s : Nat} (hk : k < l.length) (hj : j < k) (h1 : s ∈ slotsX efs j) (h2 : s ∈ slotsX efs k) : ((masks l []).getD k 0).testBit j = true := by
  unfold effOkX at h
  rw [List.all_eq_true] at h
  have := h k (by simpa using hk)
  rw [List.all_eq_true] at this
  have := this j (by simpa using hj)
  rw [Bool.or_eq_true] at this
  rcases this with h0 | h0
  · exfalso
    rw [Bool.not_eq_true', List.any_eq_false] at h0
    exact h0 s h1 (List.contains_iff_mem.2 h2)
  · exact h0
theorem readOkX_spec {j s k : Nat} (h : readOkX l efs j s = true) (hk : k < l.length) (he : s ∈ slotsX efs k) : k = j ∨ ((masks l []).getD j 0).testBit k = true ∨ ((masks l []).getD k 0).testBit j = true := by
  unfold readOkX at h
  rw [List.all_eq_true] at h
  have := h k (by simpa using hk)
  simp only [List.contains_iff_mem.2 he, Bool.not_true, Bool.false_or, Bool.or_eq_true, beq_iff_eq] at this
  rcases this with (h | h) | h
  · exact .inl h
  · exact .inr (.inl h)
  · exact .inr (.inr h)
theorem rootOkX_spec {j s k : Nat} (h : rootOkX l efs j s = true) (hk : k < l.length) (he : s ∈ pursX efs k) : ((masks l []).getD j 0).testBit k = true := by
  unfold rootOkX at h
  rw [List.all_eq_true] at h
  have := h k (by simpa using hk)
  simpa only [List.contains_iff_mem.2 he, Bool.not_true, Bool.false_or] using this

theorem any_coreX {gv : Nat → Value} {e : Ctx} {σ : Sig} {st : List (List (Nat × AV))} {Q : Exit → Act → World → Prop} (hB : backward l 0 = true) (hE : effOkX l efs = true) (hlen : st.length = l.length)
    (hσ : ∀ i, ∀ q ∈ refs (σ i), ∀ k, k < l.length → q.1 ∉ pursX efs k)
    (hst : ∀ k o, l[k]? = some o → ∃ us D, st[k]? = some us ∧ slotsU us = slotsX efs k ∧ YldX P N l.toArray o (mixX σ st (fun i => decide (i < k))) D us (pursX efs k) ∧ opOkX l efs k D (rootsU us) = true)
    (hQ : ∀ a w, All N gv e (mixX σ st fun _ => true) a w → Q .normal a w) :
    ∀ (fuel : Nat) (listed : Array Bool) (a : Act) (w : World), listed.size = l.length → listed.toList.count false = fuel → Closed l (fun k => listed.getD k false) →
      All N gv e (mixX σ st fun k => listed.getD k false) a w → wpAny P .any l.toArray Q fuel listed a w := by
  have hback := backward_spec hB
  have hlex : ∀ j, Closed l (fun i => decide (i < j)) := fun j i o ho hi k hk => by
    have := hback i o ho k hk
    simp only [decide_eq_true_eq] at hi ⊢
    omega
  have hlt_of : ∀ {k : Nat} {p : List (Nat × AV)}, st[k]? = some p → k < l.length := fun {k p} hk => by
    rcases Nat.lt_or_ge k st.length with h | h
    · omega
    · rw [List.getElem?_eq_none h] at hk; cases hk
  intro fuel
  induction fuel with
  | zero =>
    intro listed a w hsz hc hcl ha
    have hall : ∀ k, k < listed.size → listed.getD k false = true := fun k hk => by
      have h0 : listed.toList.count false = 0 := hc
      rw [List.count_eq_zero] at h0
      cases hb : listed[k] with
      | true => simp [hk, hb]
      | false => exact absurd (by rw [← hb]; exact Array.getElem_mem_toList hk) h0
    refine ⟨?_, hQ _ _ ?_⟩
    · rw [List.eq_nil_iff_forall_not_mem]
      intro j hj
      obtain ⟨h0, o, ho, _⟩ := mem_ready.1 hj
      have hlt : j < listed.size := by
        have := (Array.getElem?_eq_some_iff.1 ho).1
        rw [hsz]; simpa using this
      have := hall j hlt
      simp [hlt] at h0 this
      rw [h0] at this; cases this
    · have : mixX σ st (fun k => listed.getD k false) = mixX σ st fun _ => true := by
        funext i
        exact mixX_agree st _ _ _ _ rfl fun k us hk _ => hall k (by have := hlt_of hk; omega)
      rwa [this] at ha
  | succ fuel ih =>
    intro listed a w hsz hc hcl ha
    refine ⟨fun hr => ?_, fun j hj => ?_⟩
    · exfalso
      have hex : ∃ k, k < listed.size ∧ listed.getD k false = false := by
        have : false ∈ listed.toList := List.count_pos_iff.1 (by omega)
        obtain ⟨k, hk⟩ := List.getElem?_of_mem this
        have hlt : k < listed.size := by
          rcases Nat.lt_or_ge k listed.toList.length with h | h
          · simpa using h
          · rw [List.getElem?_eq_none h] at hk; cases hk
        refine ⟨k, hlt, ?_⟩
        simp at hk
        simp [hk]
      obtain ⟨k, hk⟩ := hex
      obtain ⟨m, ⟨hm1, hm2⟩, hmin⟩ := has_least (p := fun k => k < listed.size ∧ listed.getD k false = false) k hk
      have hml : m < l.length := by omega
      have : m ∈ Region.ready .any l.toArray listed := by
        refine mem_ready.2 ⟨by simp [hm1] at hm2 ⊢; exact hm2, l[m], by simp [hml], fun ed hed hb => ?_⟩
        have h1 := hback m l[m] (List.getElem?_eq_getElem hml) ed.on (mem_aftersOf.2 ⟨ed, hed, hb, rfl⟩)
        cases hv : listed.getD ed.on false with
        | true => rfl
        | false => have := hmin ed.on ⟨by omega, hv⟩; omega
      rw [hr] at this; cases this
    · obtain ⟨hjun, o, ho, hall⟩ := mem_ready.1 hj
      have ho' : l[j]? = some o := by simpa using ho
      have hjl : j < l.length := by
        rcases Nat.lt_or_ge j l.length with h | h
        · exact h
        · rw [List.getElem?_eq_none h] at ho'; cases ho'
      have hjs : j < listed.size := by omega
      have hjf : listed.getD j false = false := by simp [hjs] at hjun ⊢; exact hjun
      obtain ⟨us, D, h1, h2, h4, h5⟩ := hst j o ho'
      have hal : ∀ k ∈ aftersOf o, listed.getD k false = true := fun k hk => by
        obtain ⟨ed, hed, hb, rfl⟩ := mem_aftersOf.1 hk
        exact hall ed hed hb
      have hal' : ∀ k ∈ aftersOf o, decide (k < j) = true := fun k hk => by have := hback j o ho' k hk; simp; omega
      simp only [opOkX, Bool.and_eq_true, List.all_eq_true] at h5
      have behind : ∀ k, k < l.length → ((masks l []).getD k 0).testBit j = true → listed.getD k false = false ∧ j < k := fun k hk hb => by
        have hok : l[k]? = some l[k] := List.getElem?_eq_getElem hk
        refine ⟨?_, ?_⟩
        · cases hv : listed.getD k false with
          | false => rfl
          | true =>
            have := Yld.mask hcl hok (fun k' hk' => hcl k _ hok hv k' hk') hb
            rw [hjf] at this; cases this
        · have := Yld.mask (hlex k) hok (fun k' hk' => by have := hback k _ hok k' hk'; simp; omega) hb
          simpa using this
      have before : ∀ k, ((masks l []).getD j 0).testBit k = true → listed.getD k false = true ∧ decide (k < j) = true := fun k hb => ⟨Yld.mask hcl ho' hal hb, Yld.mask (hlex j) ho' hal' hb⟩
      have eff_of : ∀ {k : Nat} {vs : List (Nat × AV)}, st[k]? = some vs → slotsU vs = slotsX efs k := fun {k vs} hk => by
        have hkl := hlt_of hk
        obtain ⟨us', D', g1, g2, _⟩ := hst k l[k] (List.getElem?_eq_getElem hkl)
        rw [hk] at g1; cases g1
        exact g2
      have hdep : ∀ s ∈ D, ∀ k vs, st[k]? = some vs → s ∈ slotsU vs → listed.getD k false = decide (k < j) := fun s hs k vs hk hm => by
        rcases readOkX_spec (h5.1 s hs) (hlt_of hk) (by rw [← eff_of hk]; exact hm) with h | h | h
        · subst h; rw [hjf]; simp
        · obtain ⟨e1, e2⟩ := before k h; rw [e1, e2]
        · obtain ⟨e1, e2⟩ := behind k (hlt_of hk) h
          rw [e1]; simp; omega
      have hpur : ∀ i, purgeD (pursX efs j) (mixX σ st (fun k => listed.getD k false) i) = mixX σ st (fun k => listed.getD k false) i := fun i => by
        rw [purgeD_eq, if_neg]
        intro hany
        rw [List.any_eq_true] at hany
        obtain ⟨q, hq, hqd⟩ := hany
        rw [List.contains_iff_mem] at hqd
        rcases mixX_cases st σ (fun k => listed.getD k false) (i := i) with hm | ⟨k, vs, y, hk1, hk2, hk3, hk4⟩
        · rw [hm] at hq
          exact hσ i q hq j hjl hqd
        · rw [hk4] at hq
          have hkl := hlt_of hk2
          have hok : l[k]? = some l[k] := List.getElem?_eq_getElem hkl
          obtain ⟨us', D', g1, g2, _, g5⟩ := hst k l[k] hok
          rw [hk2] at g1; cases g1
          simp only [opOkX, Bool.and_eq_true, List.all_eq_true] at g5
          have hb := rootOkX_spec (g5.2 q.1 (List.mem_flatMap.2 ⟨_, hk3, List.mem_map.2 ⟨q, hq, rfl⟩⟩)) hjl hqd
          have := Yld.mask hcl hok (fun k' hk' => hcl k _ hok hk1 k' hk') hb
          rw [hjf] at this; cases this
      have hstep := h4 (mixX σ st fun k => listed.getD k false) (fun s hs => mixX_agree st _ _ _ _ rfl fun k vs hk hm => hdep s hs k vs hk hm) gv e a w ha (wpAny P .any l.toArray Q fuel (listed.setIfInBounds j true)) Q (fun a' w' ha' => by
          refine ih _ a' w' (by simpa using hsz) ?_ ?_ ?_
          · have hj0 : listed.toList[j]? = some false := by
              simp [hjs] at hjun ⊢; exact hjun
            have : (listed.setIfInBounds j true).toList = listed.toList.set j true := by simp
            rw [this, List.count_set (by simpa using hjs)]
            have hv : listed.toList[j]'(by simpa using hjs) = false := by
              rw [List.getElem?_eq_getElem (by simpa using hjs)] at hj0
              exact Option.some.inj hj0
            simp [hv]
            simp at hc
            omega
          · intro i oi hoi hi k hk
            by_cases hij : j = i
            · subst hij
              rw [ho'] at hoi; cases hoi
              exact getD_set_true (hal k hk)
            · simp only [getD_set_ne false hij] at hi
              exact getD_set_true (hcl i oi hoi hi k hk)
          · have e1 : (fun k => (listed.setIfInBounds j true).getD k false) = fun k => (k == j || (fun k => listed.getD k false) k) := by
              funext k
              by_cases hk : j = k
              · subst hk; simp [hjs]
              · simp only [getD_set_ne false hk, beq_iff_eq]; have : ¬ k = j := fun h => hk h.symm
                have hb : (k == j) = false := by simp [this]
                rw [hb, Bool.false_or]
            rw [e1, mixX_set st _ _ j h1 (fun k vs hjk hk hs => by
              obtain ⟨s, hs1, hs2⟩ := hs
              exact (behind k (hlt_of hk) (effOkX_spec hE (hlt_of hk) hjk (by rw [← h2]; exact hs1) (by rw [← eff_of hk]; exact hs2))).1)]
            have e2 : (fun i => purgeD (pursX efs j) (mixX σ st (fun k => listed.getD k false) i)) = mixX σ st (fun k => listed.getD k false) := funext hpur
            rw [e2] at ha'; exact ha')
      unfold wpOp
      rw [ho]
      dsimp only
      split
      · rename_i hw; rw [if_pos hw] at hstep; exact .inl hstep
      · rename_i hw; rw [if_neg hw] at hstep; exact hstep

def allPurs (efs : EffsX) : List Nat := efs.flatMap fun ef => (ef.filter (·.2)).map (·.1)
theorem a_region_x {id : Nat} {σ : Sig} {Φ : Exit → Sig → Prop} (efs : EffsX) (hm : P.follows .mixedOrders = true) (hB : (backward l 0 && effOkX l efs && decide (efs.length = l.length)) = true)
    (h : AQx P N l efs l 0 (fun i => purgeD (allPurs efs) (σ i)) (fun s => Φ .normal s)) (hnd : noDefer l = true := by kernel_rfl) : ACode P N (.region id l.toArray true) σ Φ := fun gv e a w ha Q0 hQ0 => by
  refine sw_region_any (K := fun s => Φ .normal s) hm hnd (fun x a' w' σ' hx hΦ ha' => by rw [hx]; exact hQ0 _ _ _ _ hΦ ha') fun Q hQ => ?_
  simp only [Bool.and_eq_true, decide_eq_true_eq] at hB
  obtain ⟨⟨hB1, hB2⟩, hB3⟩ := hB
  obtain ⟨st, hl, hst, hK⟩ := AQx.steps l 0 _ h
  have ha' := (ent_purgeD (allPurs efs) σ).all ha
  obtain ⟨hdf, hsz, β, F, hi⟩ := ha'
  refine any_coreX hB1 hB2 hl (fun i q hq k hk he => ?_) (fun k o ho => by
    obtain ⟨us, D, h1, h2, h3, h4⟩ := hst k o ho
    exact ⟨us, D, h1, by simpa using h2, by simpa using h3, by simpa using h4⟩) (fun a w ha => hQ () _ _ _ hK ha) _ _ a _ (by simp) (by simp) ?_ ?_
  · simp only [purgeD_eq] at hq
    split at hq
    · simp [refs] at hq
    · rename_i hany
      simp only [List.any_eq_true, not_exists, not_and] at hany
      refine hany q hq ?_
      rw [List.contains_iff_mem]
      unfold allPurs
      unfold pursX effX at he
      rw [List.getD_eq_getElem?_getD, List.getElem?_eq_getElem (by omega), Option.getD_some] at he
      exact List.mem_flatMap.2 ⟨_, List.getElem_mem _, he⟩
  · intro i o ho hi
    rcases Nat.lt_or_ge i l.length with h | h
    · simp [h] at hi
    · simp [h] at hi
  · rw [mixX_none _ _ _ (fun k => by
      rcases Nat.lt_or_ge k l.length with h | h
      · simp [h]
      · simp [h])]
    exact ⟨hdf, hsz, β, F, hi.same rfl rfl rfl⟩
end
end Go.Av
namespace Go.Av
open Go
theorem purge1 (d : Nat) (x : AV) : purgeD [d] x = purgeV d x := by
  rw [purgeD_eq, purgeV_eq]
  have : (fun q : Place => [d].contains q.1) = fun q => q.1 == d := by funext q; rw [Bool.eq_iff_iff]; simp
  rw [this]
section
variable {P : Program} {N : Nat} {A : Bool} {σ : Sig} {l rest : List Oper} {efs : EffsX} {o : Oper} {K : Sig → Prop} {jj : Nat} {x : Operand}
theorem x_nil (h : K σ) : AQx P N l efs [] jj σ K := h
theorem x_yld {d : Nat} {v : AV} {D : List Nat} (hy : Yld P N l.toArray o σ D d v) (he : effX efs jj = [(d, true)]) (hok : opOkX l efs jj D (roots v) = true) (h : AQx P N l efs rest (jj + 1) (upd σ d v) K) :
    AQx P N l efs (o :: rest) jj σ K :=
  ⟨[(d, v)], D, by simp [slotsX, he], fun σ' hD gv e a w ha K Q hK => hy σ' hD gv e a w ha K Q (fun a' w' ha' => hK a' w' (by
    have e1 : pursX efs jj = [d] := by simp [pursX, he]
    simp only [updL, e1, purge1]; exact ha')), by simpa [rootsU] using hok, h⟩
theorem x_new {d : Nat} {v : AV} {D : List Nat} (hv : QSem P N true o.op o.type σ D v) (hg : o.guard = none) (hd : o.dst = some d) (hN : d < N) (he : effX efs jj = [(d, true)]) (hok : opOkX l efs jj D (roots v) = true) (h : AQx P N l efs rest (jj + 1) (upd σ d v) K) :
    AQx P N l efs (o :: rest) jj σ K := x_yld (hv.yld hg hd hN) he hok h
theorem x_val {d : Nat} {v : AV} {D : List Nat} (hv : VSem P N true o.op o.type σ D v) (hg : o.guard = none) (hd : o.dst = some d) (hN : d < N) (he : effX efs jj = [(d, true)]) (hok : opOkX l efs jj D (roots v) = true) (h : AQx P N l efs rest (jj + 1) (upd σ d v) K) :
    AQx P N l efs (o :: rest) jj σ K := x_new hv.quiet hg hd hN he hok h
theorem x_step {us : List (Nat × AV)} {D : List Nat} {ef : List (Nat × Bool)} (hg : o.guard = none) (hs : ∀ σ', (∀ i ∈ D, σ' i = σ i) → OStep P N o σ' (updL (fun i => purgeD ((ef.filter (·.2)).map (·.1)) (σ' i)) us)) (he : effX efs jj = ef)
    (hus : slotsU us = ef.map (·.1)) (hok : opOkX l efs jj D (rootsU us) = true) (h : AQx P N l efs rest (jj + 1) (updL σ us) K) : AQx P N l efs (o :: rest) jj σ K := by
  refine ⟨us, D, by rw [hus, ← he]; rfl, fun σ' hD gv e a w ha K' Q hK => ?_, hok, h⟩
  have hw : Region.wanted o (yielded l.toArray a.tmps) = true := by simp [Region.wanted, hg]
  rw [if_pos hw]
  refine hs σ' hD gv e a w ha K' Q fun a' w' ha' => hK a' w' ?_
  unfold pursX; rw [he]; exact ha'
theorem upd_purge2 {σ : Sig} {s d : Nat} {v : AV} (hsd : s ≠ d) : updL (fun i => purgeD [d] (σ i)) [(s, .undef), (d, v)] = upd (fun i => purgeV d (upd σ s .undef i)) d v := by
  funext i
  simp only [updL, upd, purge1]
  split
  · rfl
  · split
    · rfl
    · rfl
/-- An append that takes the row of slot s. -/
theorem x_append {s d t sz bytes n m : Nat} {cap : Option Nat} {cs ns : List AV} {D : List Nat} (hg : o.guard = none) (ho : o.op = appCall (.tmp s) x t) (ht : appTy P t = some (sz, bytes)) (hd : o.dst = some d) (hN : d < N) (hsN : s < N) (hsd : s ≠ d)
    (hs : σ s = .osl sz cs n cap) (hx : SrcIs N true (upd σ s .undef) x sz m ns D) (hc : cellL ns = true) (hcl : cs.length = n * sz)
    (hb : n + m ≤ 9223372036854775807 ∧ (n + m) * bytes ≤ 140737488355328) (he : effX efs jj = [(s, false), (d, true)]) (hok : opOkX l efs jj (s :: D) [] = true)
    (h : AQx P N l efs rest (jj + 1) (updL σ [(s, .undef), (d, .osl sz (cs ++ ns) (n + m) none)]) K) : AQx P N l efs (o :: rest) jj σ K := by
  refine x_step (D := s :: D) (us := [(s, .undef), (d, .osl sz (cs ++ ns) (n + m) none)]) hg (fun σ' hD => ?_) he rfl (by simpa [rootsU, roots, refs] using hok) h
  have hx' : SrcIs N true (upd σ' s .undef) x sz m ns D := ⟨hx.1, fun hA τ hτ => hx.2 hA τ (fun i hi => by
    rw [hτ i hi]; simp only [upd]; split
    · rfl
    · exact hD i (List.mem_cons_of_mem _ hi))⟩
  have := o_append ho ht hd hN hsN (by rw [hD s (by simp)]; exact hs) hx' hc hcl hb
  rw [← upd_purge2 hsd] at this
  exact this
end
end Go.Av
namespace Go.Av
open Go
/-- The loop of DeleteFunc: what was looked at stands filtered at the front. -/
def Dlt (p : Int → Bool) (xs : List Int) (j i : Nat) (ys : List Int) : Prop :=
  j ≤ xs.length ∧ ys.length = xs.length ∧ i < j ∧ ys.take i = (xs.take j).filter (fun x => !p x) ∧ ∀ k, j ≤ k → gd ys k = gd xs k
theorem Dlt.first {p : Int → Bool} {xs : List Int} {i : Nat} (hi : i < xs.length) (hn : ∀ j, j < i → p (gd xs j) = false) (hp : p (gd xs i) = true) : Dlt p xs (i + 1) i xs := by
  refine ⟨hi, rfl, Nat.lt_succ_self _, ?_, fun _ _ => rfl⟩
  rw [take_gd hi, List.filter_append]
  have : (xs.take i).filter (fun x => !p x) = xs.take i := by
    rw [List.filter_eq_self]
    intro x hx
    obtain ⟨j, hj, rfl⟩ := mem_gd hx
    have hj' : j < i := by rw [List.length_take] at hj; omega
    have e : gd (xs.take i) j = gd xs j := by unfold gd; rw [List.getElem?_take_of_lt hj']
    rw [e, hn j hj']; rfl
  rw [this]; simp [hp]
theorem Dlt.drop {p : Int → Bool} {xs ys : List Int} {j i : Nat} (h : Dlt p xs j i ys) (hj : j < xs.length) (hp : p (gd xs j) = true) : Dlt p xs (j + 1) i ys := by
  obtain ⟨h1, h2, h3, h4, h5⟩ := h
  refine ⟨hj, h2, by omega, ?_, fun k hk => h5 k (by omega)⟩
  rw [take_gd hj, List.filter_append, ← h4]; simp [hp]
theorem Dlt.done {p : Int → Bool} {xs ys : List Int} {i n : Nat} (h : Dlt p xs xs.length i ys) (hn : xs.length = n) :
    setL (icells ys) (0 + i * 1) (List.replicate (n - i) (.int .i64 0)) = icells (xs.filter fun x => !p x) ++ List.replicate (n - i) (.int .i64 0) ∧ i = (xs.filter fun x => !p x).length := by
  obtain ⟨h1, h2, h3, h4, h5⟩ := h
  rw [List.take_length] at h4
  refine ⟨?_, ?_⟩
  · rw [Nat.zero_add, Nat.mul_one, setL_rep (by rw [icells_length]; omega), icells_take, h4]
  · rw [← h4, List.length_take]; omega
/-- Lists of lists. -/
def gl (L : List (List Int)) (i : Nat) : List Int := (L[i]?).getD []
def sls (L : List (List Int)) : List AV := L.map fun c => .sl (icells c) c.length
theorem sls_length (L : List (List Int)) : (sls L).length = L.length := by simp [sls]
theorem sls_get {L : List (List Int)} {i : Nat} (h : i < L.length) : (sls L)[i]? = some (.sl (icells (gl L i)) (gl L i).length) := by
  unfold sls gl; rw [List.getElem?_map, List.getElem?_eq_getElem h]; rfl
theorem sls_ne {L : List (List Int)} {i : Nat} (h : i < L.length) : sls L ≠ [] := fun he => by
  have := congrArg List.length he; rw [sls_length] at this; simp at this; subst this; simp at h
theorem gl_mem {L : List (List Int)} {i : Nat} (h : i < L.length) : gl L i ∈ L := by unfold gl; rw [List.getElem?_eq_getElem h]; exact List.getElem_mem h
/-- How long the first i lists are together. -/
def tot (L : List (List Int)) (i : Nat) : Nat := ((L.take i).map List.length).sum
theorem tot_zero (L : List (List Int)) : tot L 0 = 0 := rfl
theorem tot_more {L : List (List Int)} {i : Nat} (h : i < L.length) : tot L (i + 1) = tot L i + (gl L i).length := by
  unfold tot gl
  rw [List.take_succ_eq_append_getElem h, List.map_append, List.sum_append, List.getElem?_eq_getElem h]
  simp only [List.map_cons, List.map_nil, List.sum_cons, List.sum_nil, Option.getD_some, Nat.add_zero]
theorem tot_le (L : List (List Int)) : ∀ i, tot L i ≤ tot L L.length := by
  intro i
  have key : ∀ k, tot L i ≤ tot L (i + k) := by
    intro k
    induction k with
    | zero => exact Nat.le_refl _
    | succ k ih =>
      refine Nat.le_trans ih ?_
      by_cases h : i + k < L.length
      · rw [← Nat.add_assoc, tot_more h]; omega
      · unfold tot; rw [List.take_of_length_le (by omega), List.take_of_length_le (by omega)]; exact Nat.le_refl _
  rcases Nat.lt_or_ge i L.length with h | h
  · have := key (L.length - i); rwa [show i + (L.length - i) = L.length by omega] at this
  · unfold tot; rw [List.take_of_length_le h, List.take_of_length_le (Nat.le_refl _)]; exact Nat.le_refl _
end Go.Av
namespace Go.Av
open Go

/-- The walk of the text order, over the whole region's operations 'ops', of which l is the part without the tail. -/
def AQz (P : Program) (N : Nat) (ops : Array Oper) (l : List Oper) (efs : EffsX) : List Oper → Nat → Sig → (Sig → Prop) → Prop
  | [], _, σ, K => K σ
  | o :: r, j, σ, K => ∃ us D, slotsU us = slotsX efs j ∧ YldX P N ops o σ D us (pursX efs j) ∧ opOkX l efs j D (rootsU us) = true ∧ AQz P N ops l efs r (j + 1) (updL σ us) K

section
variable {P : Program} {N : Nat} {ops : Array Oper} {l l2 : List Oper} {efs : EffsX}
theorem AQz.steps {K : Sig → Prop} : ∀ (r : List Oper) (j : Nat) (σ : Sig), AQz P N ops l efs r j σ K →
    ∃ st : List (List (Nat × AV)), st.length = r.length ∧ (∀ k o, r[k]? = some o → ∃ us D, st[k]? = some us ∧ slotsU us = slotsX efs (j + k) ∧ YldX P N ops o (mixX σ st (fun i => decide (i < k))) D us (pursX efs (j + k)) ∧ opOkX l efs (j + k) D (rootsU us) = true) ∧
      K (mixX σ st fun _ => true)
  | [], j, σ, h => ⟨[], rfl, fun k o h => by simp at h, h⟩
  | o :: r, j, σ, h => by
    obtain ⟨us, D, he, hy, hok, h⟩ := h
    obtain ⟨st, hl, hst, hK⟩ := AQz.steps r (j + 1) (updL σ us) h
    refine ⟨us :: st, by simp [hl], fun k o' ho' => ?_, by simpa [mixX] using hK⟩
    cases k with
    | zero =>
      simp at ho'; subst ho'
      refine ⟨us, D, rfl, he, ?_, hok⟩
      rw [mixX_none _ _ _ (fun k => by simp)]; exact hy
    | succ k =>
      obtain ⟨us', D', h1, h2, h3, h4⟩ := hst k o' (by simpa using ho')
      refine ⟨us', D', by simpa using h1, by rw [show j + (k + 1) = j + 1 + k by omega]; exact h2, ?_, by rw [show j + (k + 1) = j + 1 + k by omega]; exact h4⟩
      have : mixX σ (us :: st) (fun i => decide (i < k + 1)) = mixX (updL σ us) st (fun i => decide (i < k)) := by simp [mixX]
      rw [this, show j + (k + 1) = j + 1 + k by omega]; exact h3

theorem any_coreZ {gv : Nat → Value} {e : Ctx} {σ : Sig} {st : List (List (Nat × AV))} {Q : Exit → Act → World → Prop} (hB : backward (l ++ l2) 0 = true) (hT : tailOk (l ++ l2) l.length = true) (hE : effOkX l efs = true) (hlen : st.length = l.length)
    (hσ : ∀ i, ∀ q ∈ refs (σ i), ∀ k, k < l.length → q.1 ∉ pursX efs k)
    (hst : ∀ k o, l[k]? = some o → ∃ us D, st[k]? = some us ∧ slotsU us = slotsX efs k ∧ YldX P N (l ++ l2).toArray o (mixX σ st (fun i => decide (i < k))) D us (pursX efs k) ∧ opOkX l efs k D (rootsU us) = true)
    (hQ : ∀ a w, All N gv e (mixX σ st fun _ => true) a w → wpList P (l ++ l2).toArray Q l2 a w) :
    ∀ (fuel : Nat) (listed : Array Bool) (a : Act) (w : World), listed.size = (l ++ l2).length → fuel + listed.toList.count true = (l ++ l2).length → Closed (l ++ l2) (fun k => listed.getD k false) → (∀ k, l.length ≤ k → listed.getD k false = false) →
      All N gv e (mixX σ st fun k => listed.getD k false) a w → wpAny P .any (l ++ l2).toArray Q fuel listed a w := by
  have hback := backward_spec hB
  have hgetl : ∀ {k : Nat} {o : Oper}, l[k]? = some o → (l ++ l2)[k]? = some o := fun {k o} hk => by
    have hlt : k < l.length := by
      rcases Nat.lt_or_ge k l.length with h | h
      · exact h
      · rw [List.getElem?_eq_none h] at hk; cases hk
    rw [List.getElem?_append_left hlt]; exact hk
  have hlex : ∀ j, Closed l (fun i => decide (i < j)) := fun j i o ho hi k hk => by
    have := hback i o (hgetl ho) k hk
    simp only [decide_eq_true_eq] at hi ⊢
    omega
  have hlt_of : ∀ {k : Nat} {p : List (Nat × AV)}, st[k]? = some p → k < l.length := fun {k p} hk => by
    rcases Nat.lt_or_ge k st.length with h | h
    · omega
    · rw [List.getElem?_eq_none h] at hk; cases hk
  intro fuel
  induction fuel with
  | zero =>
    intro listed a w hsz hc hcl hno ha
    have hall : ∀ k, k < listed.size → listed.getD k false = true := fun k hk => by
      have h0 : listed.toList.count true = listed.toList.length := by simp at hc hsz ⊢; omega
      rw [List.count_eq_length] at h0
      have := h0 listed[k] (Array.getElem_mem_toList hk)
      simp [hk, ← this]
    have hl2 : l2 = [] := by
      cases hl2 : l2 with
      | nil => rfl
      | cons o r =>
        have h1 := hno l.length (Nat.le_refl _)
        rw [hall l.length (by rw [hsz, hl2]; simp)] at h1
        cases h1
    have hmix : mixX σ st (fun k => listed.getD k false) = mixX σ st fun _ => true := by
      funext i
      refine mixX_agree st _ _ _ _ rfl fun k us hk _ => hall k ?_
      rcases Nat.lt_or_ge k st.length with h | h
      · rw [hsz]; simp; omega
      · rw [List.getElem?_eq_none h] at hk; cases hk
    rw [hmix] at ha
    have := hQ _ _ ha
    rw [hl2] at this
    refine ⟨?_, this⟩
    rw [List.eq_nil_iff_forall_not_mem]
    intro j hj
    obtain ⟨h0, o, ho, _⟩ := mem_ready.1 hj
    have hlt : j < listed.size := by
      have := (Array.getElem?_eq_some_iff.1 ho).1
      rw [hsz]; simpa using this
    have := hall j hlt
    simp [hlt] at h0 this
    rw [h0] at this; cases this
  | succ fuel ih =>
    intro listed a w hsz hc hcl hno ha
    by_cases hfull : ∀ k, k < l.length → listed.getD k false = true
    · -- the tail
      have hmix : mixX σ st (fun k => listed.getD k false) = mixX σ st fun _ => true := by
        funext i
        refine mixX_agree st _ _ _ _ rfl fun k us hk _ => hfull k ?_
        rcases Nat.lt_or_ge k st.length with h | h
        · omega
        · rw [List.getElem?_eq_none h] at hk; cases hk
      rw [hmix] at ha
      have hp : ∀ k, k < (l ++ l2).length → listed.getD k false = decide (k < l.length) := fun k _ => by
        by_cases hk : k < l.length
        · rw [hfull k hk]; simp [hk]
        · rw [hno k (by omega)]; simp [hk]
      have hcnt : listed.toList.count true = l.length := by
        have : listed.toList = List.replicate l.length true ++ List.replicate l2.length false := by
          refine List.ext_getElem? fun k => ?_
          by_cases hk : k < listed.size
          · have h1 := hp k (by omega)
            simp only [Array.getElem?_toList, Array.getElem?_eq_getElem hk]
            simp [hk] at h1
            rw [h1]
            by_cases hkl : k < l.length
            · rw [List.getElem?_append_left (by simpa using hkl)]; simp [hkl]
            · rw [List.getElem?_append_right (by simpa using hkl)]
              rw [hsz] at hk; simp at hk
              have h2 : k - l.length < l2.length := by omega
              simp [hkl, h2]
          · rw [List.getElem?_eq_none (by simpa using hk), List.getElem?_eq_none (by rw [hsz] at hk; simp at hk ⊢; omega)]
        rw [this]; simp [List.count_replicate]
      have := tail_run (P := P) (Q := Q) hB hT l2 l.length listed a w (Nat.le_refl _) (by simp) hsz hp (by simp) (hQ _ _ ha)
      rwa [show (l ++ l2).length - l.length = fuel + 1 by omega] at this
    have hex : ∃ k, k < l.length ∧ listed.getD k false = false := by
      simp only [Classical.not_forall] at hfull
      obtain ⟨k, hk, hb⟩ := hfull
      exact ⟨k, hk, by simpa using hb⟩
    refine ⟨fun hr => ?_, fun j hj => ?_⟩
    · exfalso
      obtain ⟨k, hk⟩ := hex
      obtain ⟨m, ⟨hm1, hm2⟩, hmin⟩ := has_least (p := fun k => k < l.length ∧ listed.getD k false = false) k hk
      have hms : m < listed.size := by rw [hsz]; simp; omega
      have hgm : (l ++ l2)[m]? = some l[m] := hgetl (List.getElem?_eq_getElem hm1)
      have : m ∈ Region.ready .any (l ++ l2).toArray listed := by
        refine mem_ready.2 ⟨by simp [hms] at hm2 ⊢; exact hm2, l[m], by rw [List.getElem?_toArray]; exact hgm, fun ed hed hb => ?_⟩
        have h1 := hback m l[m] hgm ed.on (mem_aftersOf.2 ⟨ed, hed, hb, rfl⟩)
        cases hv : listed.getD ed.on false with
        | true => rfl
        | false => have := hmin ed.on ⟨by omega, hv⟩; omega
      rw [hr] at this; cases this
    · obtain ⟨hjun, o, ho, hall⟩ := mem_ready.1 hj
      have ho'' : (l ++ l2)[j]? = some o := by simpa using ho
      have hjf : j < (l ++ l2).length := by
        rcases Nat.lt_or_ge j (l ++ l2).length with h | h
        · exact h
        · rw [List.getElem?_eq_none h] at ho''; cases ho''
      have hal : ∀ k ∈ aftersOf o, listed.getD k false = true := fun k hk => by
        obtain ⟨ed, hed, hb, rfl⟩ := mem_aftersOf.1 hk
        exact hall ed hed hb
      have hjl : j < l.length := by
        rcases Nat.lt_or_ge j l.length with h | h
        · exact h
        · obtain ⟨k, hk1, hk2⟩ := hex
          have := Yld.mask hcl ho'' hal (tailOk_spec hT h hjf (show k < j by omega))
          rw [hk2] at this; cases this
      have ho' : l[j]? = some o := by rw [List.getElem?_append_left hjl] at ho''; exact ho''
      obtain ⟨us, D, h1, h2, h4, h5⟩ := hst j o ho'
      have hal' : ∀ k ∈ aftersOf o, decide (k < j) = true := fun k hk => by have := hback j o ho'' k hk; simp; omega
      have hcll := closed_left hcl
      have hjs : j < listed.size := by omega
      have hjff : listed.getD j false = false := by simp [hjs] at hjun ⊢; exact hjun
      simp only [opOkX, Bool.and_eq_true, List.all_eq_true] at h5
      have behind : ∀ k, k < l.length → ((masks l []).getD k 0).testBit j = true → listed.getD k false = false ∧ j < k := fun k hk hb => by
        have hok : l[k]? = some l[k] := List.getElem?_eq_getElem hk
        refine ⟨?_, ?_⟩
        · cases hv : listed.getD k false with
          | false => rfl
          | true =>
            have := Yld.mask hcll hok (fun k' hk' => hcll k _ hok hv k' hk') hb
            rw [hjff] at this; cases this
        · have := Yld.mask (hlex k) hok (fun k' hk' => by have := hback k _ (hgetl hok) k' hk'; simp; omega) hb
          simpa using this
      have before : ∀ k, ((masks l []).getD j 0).testBit k = true → listed.getD k false = true ∧ decide (k < j) = true := fun k hb => ⟨Yld.mask hcll ho' hal hb, Yld.mask (hlex j) ho' hal' hb⟩
      have eff_of : ∀ {k : Nat} {vs : List (Nat × AV)}, st[k]? = some vs → slotsU vs = slotsX efs k := fun {k vs} hk => by
        have hkl := hlt_of hk
        obtain ⟨us', D', g1, g2, _⟩ := hst k l[k] (List.getElem?_eq_getElem hkl)
        rw [hk] at g1; cases g1
        exact g2
      have hdep : ∀ s ∈ D, ∀ k vs, st[k]? = some vs → s ∈ slotsU vs → listed.getD k false = decide (k < j) := fun s hs k vs hk hm => by
        rcases readOkX_spec (h5.1 s hs) (hlt_of hk) (by rw [← eff_of hk]; exact hm) with h | h | h
        · subst h; rw [hjff]; simp
        · obtain ⟨e1, e2⟩ := before k h; rw [e1, e2]
        · obtain ⟨e1, e2⟩ := behind k (hlt_of hk) h
          rw [e1]; simp; omega
      have hpur : ∀ i, purgeD (pursX efs j) (mixX σ st (fun k => listed.getD k false) i) = mixX σ st (fun k => listed.getD k false) i := fun i => by
        rw [purgeD_eq, if_neg]
        intro hany
        rw [List.any_eq_true] at hany
        obtain ⟨q, hq, hqd⟩ := hany
        rw [List.contains_iff_mem] at hqd
        rcases mixX_cases st σ (fun k => listed.getD k false) (i := i) with hm | ⟨k, vs, y, hk1, hk2, hk3, hk4⟩
        · rw [hm] at hq
          exact hσ i q hq j hjl hqd
        · rw [hk4] at hq
          have hkl := hlt_of hk2
          have hok : l[k]? = some l[k] := List.getElem?_eq_getElem hkl
          obtain ⟨us', D', g1, g2, _, g5⟩ := hst k l[k] hok
          rw [hk2] at g1; cases g1
          simp only [opOkX, Bool.and_eq_true, List.all_eq_true] at g5
          have hb := rootOkX_spec (g5.2 q.1 (List.mem_flatMap.2 ⟨_, hk3, List.mem_map.2 ⟨q, hq, rfl⟩⟩)) hjl hqd
          have := Yld.mask hcll hok (fun k' hk' => hcll k _ hok hk1 k' hk') hb
          rw [hjff] at this; cases this
      have hstep := h4 (mixX σ st fun k => listed.getD k false) (fun s hs => mixX_agree st _ _ _ _ rfl fun k vs hk hm => hdep s hs k vs hk hm) gv e a w ha (wpAny P .any (l ++ l2).toArray Q fuel (listed.setIfInBounds j true)) Q (fun a' w' ha' => by
          refine ih _ a' w' (by simpa using hsz) ?_ ?_ ?_ ?_
          · have hj0 : listed.toList[j]? = some false := by
              simp [hjs] at hjun ⊢; exact hjun
            have : (listed.setIfInBounds j true).toList = listed.toList.set j true := by simp
            rw [this, List.count_set (by simpa using hjs)]
            have hv : listed.toList[j]'(by simpa using hjs) = false := by
              rw [List.getElem?_eq_getElem (by simpa using hjs)] at hj0
              exact Option.some.inj hj0
            simp [hv]
            simp at hc
            omega
          · intro i oi hoi hi k hk
            by_cases hij : j = i
            · subst hij
              rw [ho''] at hoi; cases hoi
              exact getD_set_true (hal k hk)
            · simp only [getD_set_ne false hij] at hi
              exact getD_set_true (hcl i oi hoi hi k hk)
          · intro k hk
            rw [getD_set_ne false (by omega)]
            exact hno k hk
          · have e1 : (fun k => (listed.setIfInBounds j true).getD k false) = fun k => (k == j || (fun k => listed.getD k false) k) := by
              funext k
              by_cases hk : j = k
              · subst hk; simp [hjs]
              · simp only [getD_set_ne false hk, beq_iff_eq]; have : ¬ k = j := fun h => hk h.symm
                have hb : (k == j) = false := by simp [this]
                rw [hb, Bool.false_or]
            rw [e1, mixX_set st _ _ j h1 (fun k vs hjk hk hs => by
              obtain ⟨s, hs1, hs2⟩ := hs
              exact (behind k (hlt_of hk) (effOkX_spec hE (hlt_of hk) hjk (by rw [← h2]; exact hs1) (by rw [← eff_of hk]; exact hs2))).1)]
            have e2 : (fun i => purgeD (pursX efs j) (mixX σ st (fun k => listed.getD k false) i)) = mixX σ st (fun k => listed.getD k false) := funext hpur
            rw [e2] at ha'; exact ha')
      unfold wpOp
      rw [ho]
      dsimp only
      split
      · rename_i hw; rw [if_pos hw] at hstep; exact .inl hstep
      · rename_i hw; rw [if_neg hw] at hstep; exact hstep


theorem a_region_z {id n : Nat} {full : List Oper} {σ : Sig} {Φ : Exit → Sig → Prop} (efs : EffsX) (hm : P.follows .mixedOrders = true) (hB : (backward full 0 && tailOk full n && decide (n ≤ full.length) && effOkX (full.take n) efs && decide (efs.length = n)) = true)
    (h : AQz P N full.toArray (full.take n) efs (full.take n) 0 (fun i => purgeD (allPurs efs) (σ i)) (fun s => ARun P N full.toArray (full.drop n) s (fun s => Φ .normal s))) (hnd : noDefer full = true := by kernel_rfl) : ACode P N (.region id full.toArray true) σ Φ := fun gv e a w ha Q0 hQ0 => by
  refine sw_region_any (K := fun s => Φ .normal s) hm hnd (fun x a' w' σ' hx hΦ ha' => by rw [hx]; exact hQ0 _ _ _ _ hΦ ha') fun Q hQ => ?_
  simp only [Bool.and_eq_true, decide_eq_true_eq] at hB
  obtain ⟨⟨⟨⟨hB1, hB2⟩, hB3⟩, hB4⟩, hB5⟩ := hB
  generalize hl : full.take n = l at *
  generalize hl2 : full.drop n = l2 at *
  have hf : full = l ++ l2 := by rw [← hl, ← hl2, List.take_append_drop]
  have hn : n = l.length := by rw [← hl]; simp; omega
  subst hf hn
  obtain ⟨st, hl, hst, hK⟩ := AQz.steps l 0 _ h
  have ha' := (ent_purgeD (allPurs efs) σ).all ha
  obtain ⟨hdf, hsz, β, F, hi⟩ := ha'
  refine any_coreZ (P := P) (Q := Q) hB1 hB2 hB4 hl (fun i q hq k hk he => ?_) (fun k o ho => by
    obtain ⟨us, D, h1, h2, h3, h4⟩ := hst k o ho
    exact ⟨us, D, h1, by simpa using h2, by simpa using h3, by simpa using h4⟩) (fun a w ha => hK gv e a w ha Q fun a' w' σ' hΦ ha' => hQ () _ _ _ hΦ ha') (l ++ l2).toArray.size (Array.replicate (l ++ l2).toArray.size false) a { w with drawn := w.drawn + 1 } (by simp) ?_ ?_ ?_ ?_
  · simp only [purgeD_eq] at hq
    split at hq
    · simp [refs] at hq
    · rename_i hany
      simp only [List.any_eq_true, not_exists, not_and] at hany
      refine hany q hq ?_
      rw [List.contains_iff_mem]
      unfold allPurs
      unfold pursX effX at he
      rw [List.getD_eq_getElem?_getD, List.getElem?_eq_getElem (by omega), Option.getD_some] at he
      exact List.mem_flatMap.2 ⟨_, List.getElem_mem _, he⟩
  · simp [List.count_replicate]
  · intro i o ho hi
    rcases Nat.lt_or_ge i (l ++ l2).length with h | h
    · simp at h; simp [h] at hi
    · simp at h; simp [h] at hi
  · intro k _
    rcases Nat.lt_or_ge k (l ++ l2).length with h | h
    · simp at h; simp [h]
    · simp at h; simp [h]
  · rw [mixX_none _ _ _ (fun k => by
      rcases Nat.lt_or_ge k (l ++ l2).length with h | h
      · simp at h; simp [h]
      · simp at h; simp [h])]
    exact ⟨hdf, hsz, β, F, hi.same rfl rfl rfl⟩
end
end Go.Av
namespace Go.Av
open Go
section
variable {P : Program} {N : Nat} {A : Bool} {σ : Sig} {ops : Array Oper} {l rest : List Oper} {efs : EffsX} {o : Oper} {K : Sig → Prop} {jj : Nat} {x : Operand}
theorem z_nil (h : K σ) : AQz P N ops l efs [] jj σ K := h
theorem z_yld {d : Nat} {v : AV} {D : List Nat} (hy : Yld P N ops o σ D d v) (he : effX efs jj = [(d, true)]) (hok : opOkX l efs jj D (roots v) = true) (h : AQz P N ops l efs rest (jj + 1) (upd σ d v) K) :
    AQz P N ops l efs (o :: rest) jj σ K :=
  ⟨[(d, v)], D, by simp [slotsX, he], fun σ' hD gv e a w ha K Q hK => hy σ' hD gv e a w ha K Q (fun a' w' ha' => hK a' w' (by
    have e1 : pursX efs jj = [d] := by simp [pursX, he]
    simp only [updL, e1, purge1]; exact ha')), by simpa [rootsU] using hok, h⟩
theorem z_new {d : Nat} {v : AV} {D : List Nat} (hv : QSem P N true o.op o.type σ D v) (hg : o.guard = none) (hd : o.dst = some d) (hN : d < N) (he : effX efs jj = [(d, true)]) (hok : opOkX l efs jj D (roots v) = true) (h : AQz P N ops l efs rest (jj + 1) (upd σ d v) K) :
    AQz P N ops l efs (o :: rest) jj σ K := z_yld (by have := hv.yld (l := ops.toList) hg hd hN; rwa [Array.toArray_toList] at this) he hok h
theorem z_val {d : Nat} {v : AV} {D : List Nat} (hv : VSem P N true o.op o.type σ D v) (hg : o.guard = none) (hd : o.dst = some d) (hN : d < N) (he : effX efs jj = [(d, true)]) (hok : opOkX l efs jj D (roots v) = true) (h : AQz P N ops l efs rest (jj + 1) (upd σ d v) K) :
    AQz P N ops l efs (o :: rest) jj σ K := z_new hv.quiet hg hd hN he hok h
theorem z_step {us : List (Nat × AV)} {D : List Nat} {ef : List (Nat × Bool)} (hg : o.guard = none) (hs : ∀ σ', (∀ i ∈ D, σ' i = σ i) → OStep P N o σ' (updL (fun i => purgeD ((ef.filter (·.2)).map (·.1)) (σ' i)) us)) (he : effX efs jj = ef)
    (hus : slotsU us = ef.map (·.1)) (hok : opOkX l efs jj D (rootsU us) = true) (h : AQz P N ops l efs rest (jj + 1) (updL σ us) K) : AQz P N ops l efs (o :: rest) jj σ K := by
  refine ⟨us, D, by rw [hus, ← he]; rfl, fun σ' hD gv e a w ha K' Q hK => ?_, hok, h⟩
  have hw : Region.wanted o (yielded ops a.tmps) = true := by simp [Region.wanted, hg]
  rw [if_pos hw]
  refine hs σ' hD gv e a w ha K' Q fun a' w' ha' => hK a' w' ?_
  unfold pursX; rw [he]; exact ha'
end
end Go.Av
namespace Go.Av
open Go
theorem purge2 (s d : Nat) (x : AV) : purgeD [s, d] x = purgeV d (purgeV s x) := by
  rw [purgeD_eq, purgeV_eq, purgeV_eq]
  by_cases h1 : (refs x).any (fun q => q.1 == s) = true
  · rw [if_pos h1, if_pos]
    · simp [refs]
    · rw [List.any_eq_true] at h1 ⊢
      obtain ⟨q, hq, he⟩ := h1
      exact ⟨q, hq, by simp only [beq_iff_eq] at he; simp [he]⟩
  · rw [if_neg h1]
    by_cases h2 : (refs x).any (fun q => q.1 == d) = true
    · rw [if_pos h2, if_pos]
      rw [List.any_eq_true] at h2 ⊢
      obtain ⟨q, hq, he⟩ := h2
      exact ⟨q, hq, by simp only [beq_iff_eq] at he; simp [he]⟩
    · rw [if_neg h2, if_neg]
      intro h3
      rw [List.any_eq_true] at h3
      obtain ⟨q, hq, he⟩ := h3
      simp only [List.contains_cons, List.contains_nil, Bool.or_false, Bool.or_eq_true, beq_iff_eq] at he
      rcases he with he | he
      · exact h1 (List.any_eq_true.2 ⟨q, hq, by simp [he]⟩)
      · exact h2 (List.any_eq_true.2 ⟨q, hq, by simp [he]⟩)
theorem purgeV_none {d : Nat} {x : AV} (h : refs x = []) : purgeV d x = x := by rw [purgeV_eq, h]; rfl
theorem refs_hole_nil {y : AV} {r : List Nat} {c : AV} (hr : refs c = []) {z : AV} (hn : node c r = some z) (hy : refs y = []) : refs (setNode c r y) = [] := by
  rw [List.eq_nil_iff_forall_not_mem]
  intro q hq
  have := refs_setNode hy hn q hq
  rw [hr] at this; cases this
section
variable {P : Program} {N : Nat} {A : Bool} {σ : Sig} {ops : Array Oper} {l rest : List Oper} {efs : EffsX} {o : Oper} {K : Sig → Prop} {jj : Nat}
/-- A slice literal of one value, which is moved into it. -/
theorem z_sliceLit1 {t sz x d : Nat} {zs : List AV} {v : AV} (hg : o.guard = none) (ho : o.op = sliceLit t 1 [(0, .tmp x)]) (h0 : litTy P t = some (sz, zs)) (hsm : Nat.ble sz 16777216 = true) (hd : o.dst = some d) (hN : d < N) (hxN : x < N) (hxd : x ≠ d) (hx : σ x = v)
    (hv : bigV v = true) (hn : noRefL (cellsOf v) = true) (hr : refs v = []) (hl : Nat.beq (cellsOf v).length sz = true) (he : effX efs jj = [(x, false), (d, true)]) (hok : opOkX l efs jj [x] [] = true)
    (h : AQz P N ops l efs rest (jj + 1) (updL σ [(x, .undef), (d, .osl sz (cellsOf v) 1 (some 1))]) K) : AQz P N ops l efs (o :: rest) jj σ K := by
  refine z_step (D := [x]) (us := [(x, .undef), (d, .osl sz (cellsOf v) 1 (some 1))]) hg (fun σ' hD => ?_) he rfl (by simpa [rootsU, roots, refs] using hok) h
  have := o_sliceLit1 (P := P) (N := N) (σ := σ') ho h0 hsm hd hN hxN (by rw [hD x (by simp)]; exact hx) hv hn hr hl
  rw [← upd_purge2 hxd] at this
  exact this
/-- The same, where slot s refers to an owned row in another slot: the row is taken from there. -/
theorem z_append_own_ref {s x d t sz bytes n n' m : Nat} {q : Place} {cap cap' cap2 : Option Nat} {cs ns : List AV} {y' : AV} (hg : o.guard = none) (ho : o.op = appCall (.tmp s) (.tmp x) t) (ht : appTy P t = some (sz, bytes)) (hd : o.dst = some d) (hN : d < N) (hsN : s < N) (hxN : x < N)
    (hsx : s ≠ x) (hsq : s ≠ q.1) (hqx : q.1 ≠ x) (hqd : q.1 ≠ d) (hxd : x ≠ d) (hsd : s ≠ d) (hs : σ s = .rsl q sz 0 n cap) (hq : node (σ q.1) q.2 = some (.osl sz cs n' cap2)) (hqr : refs (σ q.1) = []) (hy' : setNode (σ q.1) q.2 .undef = y')
    (hx : σ x = .osl sz ns m cap') (hc : cellL ns = true) (hcl : cs.length = n * sz) (hnl : ns.length = m * sz)
    (hb : n + m ≤ 9223372036854775807 ∧ (n + m) * bytes ≤ 140737488355328) (he : effX efs jj = [(q.1, false), (s, true), (x, false), (d, true)]) (hok : opOkX l efs jj [s, q.1, x] [] = true)
    (h : AQz P N ops l efs rest (jj + 1) (updL σ [(q.1, y'), (s, .undef), (x, .undef), (d, .osl sz (cs ++ ns) (n + m) none)]) K) : AQz P N ops l efs (o :: rest) jj σ K := by
  have hyr : refs y' = [] := by rw [← hy']; exact refs_hole_nil hqr hq rfl
  have hxr : ∀ e, purgeV e (AV.osl sz ns m cap') = .osl sz ns m cap' := fun e => purgeV_none rfl
  refine z_step (D := [s, q.1, x]) (us := [(q.1, y'), (s, .undef), (x, .undef), (d, .osl sz (cs ++ ns) (n + m) none)]) hg (fun σ' hD => ?_) he rfl (by simpa [rootsU, roots, refs, hyr] using hok) h
  have e1 := hD s (by simp); have e2 := hD q.1 (by simp); have e3 := hD x (by simp)
  have hrel := ent_reloc_sl (σ := σ') (t := s) (by rw [e1]; exact hs) (by rw [e2]; exact hq)
  have hst := o_append_own (P := P) (N := N) (σ := upd (fun i => purgeV s (hole σ' q i)) s (.osl sz cs n cap)) ho ht hd hN hsN hxN hsx (by rw [upd_same]) (by
    rw [upd_other _ _ (Ne.symm hsx)]
    show purgeV s (hole σ' q x) = _
    unfold hole
    rw [upd_other _ _ (Ne.symm hqx), e3, hx, hxr]) hc hcl hnl hb
  have hfin : upd (fun i => purgeV d (upd (upd (upd (fun i => purgeV s (hole σ' q i)) s (.osl sz cs n cap)) s .undef) x .undef i)) d (.osl sz (cs ++ ns) (n + m) none)
      = updL (fun i => purgeD [s, d] (σ' i)) [(q.1, y'), (s, .undef), (x, .undef), (d, .osl sz (cs ++ ns) (n + m) none)] := by
    funext i
    simp only [updL, upd, purge2, hole]
    by_cases h1 : i = d
    · simp [h1]
    by_cases h2 : i = x
    · simp [h1, h2, purgeV]
    by_cases h3 : i = s
    · simp [h1, h2, h3, purgeV]
    by_cases h4 : i = q.1
    · subst h4
      simp only [h1, h2, h3, if_true, if_false]
      rw [e2, hy', purgeV_none hyr, purgeV_none hyr]
    · simp only [h1, h2, h3, h4, if_false]
  rw [hfin] at hst
  exact hst.pre hrel
end
end Go.Av
namespace Go.Av
open Go
/-- Owned rows of numbers. -/
def osls (L : List (List Int)) : List AV := L.map fun c => .osl 1 (icells c) c.length none
theorem osls_length (L : List (List Int)) : (osls L).length = L.length := by simp [osls]
theorem osls_append (L M : List (List Int)) : osls (L ++ M) = osls L ++ osls M := by simp [osls]
theorem shL_icells (c : List Int) : shL (icells c) = icells c := shL_id _ (ic_pure c).1 (ic_pure c).2
theorem shL_osls (L : List (List Int)) : shL (osls L) = sls L := by
  unfold osls sls
  rw [shL_eq, List.map_map]
  refine List.map_congr_left fun c _ => ?_
  simp [sh, shL_icells]
theorem sl_osls {L : List (List Int)} {n : Nat} : AV.sl (shL ((osls L).drop 0)) n = .sl (sls L) n := by rw [List.drop_zero, shL_osls]
theorem osls_noSh : ∀ (L : List (List Int)), noShL (osls L) = true
  | [] => rfl
  | c :: L => by
    have := osls_noSh L
    unfold osls at this ⊢
    simp [noShL, noSh, this, ic_noSh]
theorem osls_noRef : ∀ (L : List (List Int)), noRefL (osls L) = true
  | [] => rfl
  | c :: L => by
    have := osls_noRef L
    unfold osls at this ⊢
    simp [noRefL, noRef, this, ic_noRef]
theorem gl_out {L : List (List Int)} {i : Nat} (h : L.length ≤ i) : gl L i = [] := by unfold gl; rw [List.getElem?_eq_none h]; rfl
theorem len_tot {L : List (List Int)} {i : Nat} : (gl L i).length ≤ tot L L.length := by
  rcases Nat.lt_or_ge i L.length with h | h
  · have := tot_le L (i + 1); rw [tot_more h] at this; omega
  · rw [gl_out h]; simp
def cnfB (vars : Int) (L : List (List Int)) : Bool := inR vars 0 12 && decide (L.length ≤ 60) && (List.range L.length).all fun i => clB vars (gl L i)
/-- A formula as it comes: numbers in range, not too long. -/
def CnfOk (vars : Int) (L : List (List Int)) : Prop :=
  (-9223372036854775808 ≤ vars ∧ vars ≤ 9223372036854775807) ∧ L.length ≤ 1048576 ∧ tot L L.length ≤ 1048576 ∧ ∀ i j, -9223372036854775808 ≤ gd (gl L i) j ∧ gd (gl L i) j ≤ 9223372036854775807
theorem cnfB_no {vars : Int} {L : List (List Int)} {i : Nat} (hi : i < L.length) (h : clB vars (gl L i) = false) : cnfB vars L = false := by
  unfold cnfB
  rw [Bool.and_eq_false_iff]; right
  rw [List.all_eq_false]; exact ⟨i, by simpa using hi, by simp [h]⟩
theorem cnfB_yes {vars : Int} {L : List (List Int)} (h : ∀ j, j < L.length → clB vars (gl L j) = true) : cnfB vars L = (inR vars 0 12 && decide (L.length ≤ 60)) := by
  unfold cnfB
  rw [show (List.range L.length).all (fun i => clB vars (gl L i)) = true from List.all_eq_true.2 fun i hi => h i (by simpa using hi), Bool.and_true]
theorem cnfB_spec {vars : Int} {L : List (List Int)} (h : cnfB vars L = true) : (0 ≤ vars ∧ vars ≤ 12) ∧ L.length ≤ 60 ∧ ∀ j, j < L.length → clB vars (gl L j) = true := by
  simp only [cnfB, Bool.and_eq_true, inR_spec, decide_eq_true_eq, List.all_eq_true, List.mem_range] at h
  exact ⟨h.1.1, h.1.2, h.2⟩
def WeakL : List AV → List AV → Prop
  | [], [] => True
  | c :: cs, d :: ds => Weak c d ∧ WeakL cs ds
  | _, _ => False
theorem WeakL.repL {β : Place → Option (Nat × Nat)} {F : Nat → Prop} {w : World} : ∀ {cs ds : List AV}, WeakL cs ds → ∀ {p : Place} {j : Nat} {vs : List Value}, RepL β F w cs p j vs → RepL β F w ds p j vs
  | [], [], _, _, _, _, h => h
  | c :: cs, d :: ds, hw, p, j, [], h => by simp [RepL] at h
  | c :: cs, d :: ds, hw, p, j, v :: vs, h => by
    simp only [RepL] at h ⊢
    exact ⟨hw.1.1 _ _ _ _ _ h.1, WeakL.repL hw.2 h.2⟩
theorem WeakL.len : ∀ {cs ds : List AV}, WeakL cs ds → cs.length = ds.length
  | [], [], _ => rfl
  | c :: cs, d :: ds, h => by simp [WeakL.len h.2]
  | [], d :: ds, h => h.elim
  | c :: cs, [], h => h.elim
theorem WeakL.node : ∀ {cs ds : List AV}, WeakL cs ds → ∀ {i : Nat} {r : List Nat} {d z : AV}, ds[i]? = some d → Av.node d r = some z → z.isOwn = true → ∃ c z', cs[i]? = some c ∧ Av.node c r = some z' ∧ z'.isOwn = true
  | [], [], _, i, r, d, z, h, _, _ => by simp at h
  | c :: cs, d :: ds, hw, 0, r, d', z, h, hz, ho => by
    simp at h; subst h
    obtain ⟨z', h1, h2⟩ := hw.1.2 r z hz ho
    exact ⟨c, z', by simp, h1, h2⟩
  | c :: cs, d :: ds, hw, i + 1, r, d', z, h, hz, ho => by
    obtain ⟨c', z', h1, h2⟩ := WeakL.node hw.2 (i := i) (by simpa using h) hz ho
    exact ⟨c', z', by simpa using h1, h2⟩
theorem Weak.agg {cs ds : List AV} (h : WeakL cs ds) : Weak (.agg cs) (.agg ds) := by
  refine ⟨fun β F w p v hv => ?_, fun r z hz ho => ?_⟩
  · simp only [Rep] at hv ⊢
    obtain ⟨vs, h1, h2, h3⟩ := hv
    exact ⟨vs, h1, by rw [h2, h.len], h.repL h3⟩
  · cases r with
    | nil => simp [node] at hz; subst hz; simp [AV.isOwn] at ho
    | cons i r =>
      simp only [node, kids] at hz ⊢
      cases hi : ds[i]? with
      | none => rw [hi] at hz; cases hz
      | some d =>
        rw [hi] at hz
        obtain ⟨c, z', h1, h2, h3⟩ := h.node hi hz ho
        exact ⟨z', by rw [h1]; exact h2, h3⟩
end Go.Av
namespace Go.Av
theorem gl_take {L M : List (List Int)} {i : Nat} (hi : i < L.length) (hi2 : i < M.length) (h : L.take i = M.take i) (he : gl L i = gl M i) : L.take (i + 1) = M.take (i + 1) := by
  unfold gl at he
  rw [List.getElem?_eq_getElem hi, List.getElem?_eq_getElem hi2] at he
  rw [List.take_succ_eq_append_getElem hi, List.take_succ_eq_append_getElem hi2, h]
  simp only [Option.getD_some] at he
  rw [he]
end Go.Av
namespace Go.Av
open Go
section
variable {P : Program} {N : Nat} {A : Bool} {σ : Sig} {o : Oper} {d : Nat}
variable {e : Ctx} {val : Nat → Value} {w : World} {β : Place → Option (Nat × Nat)} {F : Nat → Prop}

theorem mid_get {α : Type} {fs bs : List α} {c x : α} {i : Nat} (h : (fs ++ c :: bs)[i]? = some x) : i = fs.length ∧ x = c ∨ i ≠ fs.length ∧ x ∈ fs ++ bs ∧ ∀ c', (fs ++ c' :: bs)[i]? = some x := by
  by_cases hi : i = fs.length
  · left; subst hi
    rw [List.getElem?_append_right (Nat.le_refl _), Nat.sub_self] at h
    simp at h; exact ⟨rfl, h.symm⟩
  · right
    refine ⟨hi, ?_, fun c' => ?_⟩
    · rcases Nat.lt_or_ge i fs.length with hl | hl
      · rw [List.getElem?_append_left hl] at h
        exact List.mem_append_left _ (List.mem_of_getElem? h)
      · rw [List.getElem?_append_right hl] at h
        obtain ⟨k, hk⟩ : ∃ k, i - fs.length = k + 1 := ⟨i - fs.length - 1, by omega⟩
        rw [hk, List.getElem?_cons_succ] at h
        exact List.mem_append_right _ (List.mem_of_getElem? h)
    · rcases Nat.lt_or_ge i fs.length with hl | hl
      · rw [List.getElem?_append_left hl] at h ⊢; exact h
      · rw [List.getElem?_append_right hl] at h ⊢
        obtain ⟨k, hk⟩ : ∃ k, i - fs.length = k + 1 := ⟨i - fs.length - 1, by omega⟩
        rw [hk, List.getElem?_cons_succ] at h ⊢; exact h

/-- Where the parts of the struct's memory lie. -/
def refδ (β : Place → Option (Nat × Nat)) (g j : Nat) : List Nat → Option (Nat × Nat)
  | [] => none
  | i :: t => if i = j then β (g, t) else none

theorem o_box_ref {t x g sz n n' : Nat} {cap cap' : Option Nat} {fs bs cs : List AV} (ho : o.op = .box t (.tmp x)) (hd : o.dst = some d) (hN : d < N) (hxN : x < N) (hgN : N ≤ g) (hx : σ x = .agg (fs ++ .rsl (g, []) sz 0 n cap :: bs))
    (hg : σ g = .osl sz cs n' cap') (hpa : pureL fs = true) (hpb : pureL bs = true) :
    OStep P N o σ (upd (upd (fun i => purgeV d (upd σ g .undef i)) d (.op (fs ++ .osl sz cs n cap :: bs))) g (.rsl (d, [fs.length]) sz 0 n' cap')) := by
  intro gv e a w ⟨hdf, hsz, β, F, hi⟩ K Q hK
  have hdg : d ≠ g := by omega
  have hval : valOf N gv a x = a.eval (.tmp x) := by simp [valOf, hxN, Act.eval]
  have hrx := hi.rep x
  rw [hx, hval] at hrx
  simp only [Rep] at hrx
  obtain ⟨vs, ev, hlen, hrl⟩ := hrx
  have hpure : ∀ c ∈ fs ++ bs, pureV c = true := fun c hc => by
    rcases List.mem_append.1 hc with h | h
    · exact pureL_mem hpa h
    · exact pureL_mem hpb h
  obtain ⟨u, hu, hur⟩ := RepL_iff.1 hrl fs.length (.rsl (g, []) sz 0 n cap) (by rw [List.getElem?_append_right (Nat.le_refl _)]; simp)
  have hgn : node (σ ((g, []) : Place).1) ((g, []) : Place).2 = some (.osl sz cs n' cap') := by simp [node, hg]
  have hdet := hi.detach_sl (q := (g, [])) hgn hur
  have hh := hi.hole hgn
  have hhole : hole σ (g, []) = upd σ g .undef := by unfold hole; rfl
  rw [hhole] at hh hdet
  have hnr : noRefL cs = true := by
    have := hi.rep g
    rw [hg] at this
    simp only [Rep] at this
    rcases this with ⟨_, _, h, _⟩ | ⟨h, _⟩
    · subst h; rfl
    · exact h
  have hnode : ∀ {r : List Nat} {y : AV}, node (.agg (fs ++ .osl sz cs n cap :: bs)) r = some y → y.isOwn = true → ∃ t, r = fs.length :: t ∧ node (.osl sz cs n cap) t = some y := fun {r y} hy hoy => by
    cases r with
    | nil => simp [node] at hy; subst hy; simp [AV.isOwn] at hoy
    | cons i r =>
      simp only [node, kids] at hy
      cases hc : (fs ++ .osl sz cs n cap :: bs)[i]? with
      | none => rw [hc] at hy; cases hy
      | some c =>
        rw [hc] at hy
        rcases mid_get hc with ⟨rfl, rfl⟩ | ⟨_, hm, _⟩
        · exact ⟨r, rfl, hy⟩
        · rw [noOwn_pure (hpure c hm) hy] at hoy; cases hoy
  have hnrl : noRefL (fs ++ .osl sz cs n cap :: bs) = true := by
    rw [noRefL_iff]; intro c hc
    obtain ⟨i, hi'⟩ := List.getElem?_of_mem hc
    rcases mid_get hi' with ⟨_, rfl⟩ | ⟨_, hm, _⟩
    · simpa [noRef] using hnr
    · exact noRef_pure c (hpure c hm)
  have hD : Det e (upd σ g .undef) w β F (.agg (fs ++ .osl sz cs n cap :: bs)) (.agg vs.toArray) (refδ β g fs.length) := by
    refine ⟨?_, ?_, ?_, ?_⟩
    · simp only [Rep]
      refine ⟨vs, rfl, by rw [hlen]; simp, RepL_iff.2 fun i c hc => ?_⟩
      rcases mid_get hc with ⟨rfl, rfl⟩ | ⟨_, hm, hc'⟩
      · refine ⟨u, hu, hdet.rep.tr _ (fun b hb => ⟨hb, rfl⟩) (fun r y hy hoy => ⟨?_, fun _ _ _ => rfl⟩) (fun q hq => by simp [refs] at hq)⟩
        simp [refδ]
      · obtain ⟨u', hu', hr'⟩ := RepL_iff.1 hrl i c (hc' _)
        exact ⟨u', hu', hr'.pure_any (hpure c hm)⟩
    · simp only [refs]; exact refsL_of_noRef _ hnrl
    · intro r r' y y' b s s' hy hoy hy' hoy' hb hb'
      obtain ⟨t1, rfl, h1⟩ := hnode hy hoy
      obtain ⟨t2, rfl, h2⟩ := hnode hy' hoy'
      simp only [refδ, if_true] at hb hb'
      have := hdet.inj t1 t2 y y' b s s' h1 hoy h2 hoy' (by simpa using hb) (by simpa using hb')
      rw [this]
    · intro r y b s hy hoy hb
      obtain ⟨t1, rfl, h1⟩ := hnode hy hoy
      simp only [refδ, if_true] at hb
      exact hdet.sep t1 y b s h1 hoy (by simpa using hb)
  -- the new variable
  have hal := hh.alloc (.cells vs.toArray t) (fun _ _ _ h => by cases h; rfl)
  have hD' := hD.world (w' := w.alloc (.cells vs.toArray t)) (fun b hb => heap_alloc_lt (hh.fr b hb).1) (fun r y b s hy hoy hb => by
    obtain ⟨t1, rfl, h1⟩ := hnode hy hoy
    simp only [refδ, if_true] at hb
    exact heap_alloc_lt (hdet.lt h1 hoy (by simpa using hb)))
  have hop := hD'.op hnrl (heap_alloc_new w _) (fun j x hx => by simpa using hx) (fun hF => by have := (hh.fr _ hF).1; omega) (.inl hh.grow)
    (fun q s hq hb => by have := hh.own_lt hq hb; omega) (fun r y s hy hoy hb => by
      obtain ⟨t1, rfl, h1⟩ := hnode hy hoy
      simp only [refδ, if_true] at hb
      have := hdet.lt h1 hoy (by simpa using hb); omega)
  have hat := hal.attach d hop
  have hrg : Rep β F w (.osl sz cs n' cap') (g, []) (valOf N gv a g) := by have := hi.rep g; rwa [hg] at this
  have hfin := hat.set g (x := .rsl (d, [fs.length]) sz 0 n' cap') (v := valOf N gv a g) (by
    simp only [Rep] at hrg ⊢
    simp only [if_true, refδ, List.cons_ne_nil, if_false]
    rcases hrg with ⟨h1, h2, _, h4, h5⟩ | ⟨_, b, capv, arr, tt, h1, h2, h3, h4, _⟩
    · exact .inl ⟨h1, h2, h4, h5⟩
    · exact .inr ⟨b, capv, by rw [h1]; simp, h2, h3, h4⟩) (noOwn_scalar rfl)
  have hv : upd (upd (valOf N gv a) d (.pointer (some ⟨w.heap.size, 0, none⟩))) g (valOf N gv a g) = valOf N gv (a.put (some d) (.pointer (some ⟨w.heap.size, 0, none⟩))) := by
    rw [valOf_put hsz hN]
    funext i
    by_cases hig : i = g
    · subst hig; rw [upd_same, upd_other _ _ (Ne.symm hdg)]
    · rw [upd_other _ _ hig]
  rw [hv, ← hd] at hfin
  refine wp_value (v := .pointer (some ⟨w.heap.size, 0, none⟩)) (w' := w.alloc (.cells vs.toArray t)) ?_ (hK _ _ ⟨?_, ?_, _, F, hfin⟩)
  · simp [execOp, ho, Instr.box, newVar, newRow, ev]; rfl
  · rw [hd]; exact hdf
  · rw [hd, size_put]; exact hsz
end
end Go.Av
namespace Go.Av
open Go
/-- What mark writes into a row of ints. -/
def mkI (k : Int) (n : Nat) : List Int := (List.range n).map fun (i : Nat) => k + (i : Int)
theorem mkI_length (k : Int) (n : Nat) : (mkI k n).length = n := by simp [mkI]
theorem mkI_get {k : Int} {n i : Nat} (h : i < n) : gd (mkI k n) i = k + (i : Int) := by simp [mkI, gd, h]
def mkIPart (k : Int) (xs : List Int) (i : Nat) : List Int := mkI k i ++ xs.drop i
theorem mkIPart_length {k : Int} {xs : List Int} {i : Nat} (h : i ≤ xs.length) : (mkIPart k xs i).length = xs.length := by simp [mkIPart, mkI_length]; omega
theorem mkIPart_set {k : Int} {xs : List Int} {i : Nat} (h : i < xs.length) : (mkIPart k xs i).set i (k + (i : Int)) = mkIPart k xs (i + 1) := by
  unfold mkIPart
  have e : xs.drop i = xs[i] :: xs.drop (i + 1) := List.drop_eq_getElem_cons h
  rw [List.set_append_right _ _ (by rw [mkI_length]; exact Nat.le_refl _), mkI_length, Nat.sub_self, e, List.set_cons_zero]
  simp only [mkI, List.range_succ, List.map_append, List.map_cons, List.map_nil, List.append_assoc, List.cons_append, List.nil_append]
theorem mkIPart_full {k : Int} {xs : List Int} {i : Nat} (h : i = xs.length) : mkIPart k xs i = mkI k xs.length := by subst h; simp [mkIPart]
theorem mkIPart_zero (k : Int) (xs : List Int) : mkIPart k xs 0 = xs := by simp [mkIPart, mkI]
theorem gd_elem {xs : List Int} {i : Nat} (h : i < xs.length) : xs[i] = gd xs i := by simp [gd, h]
end Go.Av
namespace Go.Av
open Go
theorem snoc_ind {α : Type} {p : List α → Prop} (h0 : p []) (h1 : ∀ F l, p F → p (F ++ [l])) : ∀ F, p F := fun F => by
  rw [← F.reverse_reverse]
  induction F.reverse with
  | nil => exact h0
  | cons a l ih => rw [List.reverse_cons]; exact h1 _ _ ih
/-- The clause of literals: the program's, the reference's. -/
def mc (l : List Int) : List Int := (clR l).getD []
def jc (l : List Int) : List Int := (joinL [] l).getD []
def accM (F : List (List Int)) : List (List Int) := F.map mc
def addS (L : List (List Int)) (l : List Int) : List (List Int) := if L.length ≤ 60 then L ++ [jc l] else L
def accS (F : List (List Int)) : List (List Int) := F.foldl addS []
def accJ (F : List (List Int)) : List (List Int) := F.map jc
theorem accM_app (F : List (List Int)) (l : List Int) : accM (F ++ [l]) = accM F ++ [mc l] := by simp [accM]
theorem accS_app (F : List (List Int)) (l : List Int) : accS (F ++ [l]) = addS (accS F) l := by simp [accS, List.foldl_append]
theorem accM_len (F : List (List Int)) : (accM F).length = F.length := by simp [accM]
def GoodF (F : List (List Int)) : Prop := ∀ l ∈ F, SmI l ∧ ∀ x ∈ l, x ≠ 0
theorem mc_jc {l : List Int} (hs : SmI l) (h0 : ∀ x ∈ l, x ≠ 0) : mc l = jc l := by
  unfold mc jc
  have := clR_join (out := []) (b := l) (by simpa using hs) (by simpa using h0) (by simp [Strict])
  rw [List.nil_append] at this; rw [this]
theorem accM_J {F : List (List Int)} (h : GoodF F) : accM F = accJ F := List.map_congr_left fun l hl => mc_jc (h l hl).1 (h l hl).2
theorem accS_few {F : List (List Int)} : F.length ≤ 61 → accS F = accJ F := by
  refine snoc_ind (p := fun F => F.length ≤ 61 → accS F = accJ F) ?_ ?_ F
  · intro _; rfl
  · intro F l ih h
    simp at h
    rw [accS_app, ih (by omega)]
    unfold addS accJ
    rw [if_pos (by simp; omega)]; simp
theorem accS_many {F : List (List Int)} : 61 ≤ F.length → (accS F).length = 61 := by
  refine snoc_ind (p := fun F => 61 ≤ F.length → (accS F).length = 61) ?_ ?_ F
  · intro h; simp at h
  · intro F l ih h
    simp at h
    rw [accS_app]
    by_cases h2 : F.length = 60
    · rw [accS_few (by omega)]
      unfold addS accJ
      rw [if_pos (by simp; omega)]; simp; omega
    · have := ih (by omega)
      unfold addS; rw [if_neg (by omega)]; exact this
theorem accS_cnf (vars : Int) (F : List (List Int)) : cnfB vars (accS F) = cnfB vars (accJ F) ∧ (cnfB vars (accJ F) = true → accS F = accJ F) := by
  rcases Nat.lt_or_ge F.length 62 with h | h
  · rw [accS_few (by omega)]; exact ⟨rfl, fun _ => rfl⟩
  · have h1 := accS_many (F := F) (by omega)
    have e1 : cnfB vars (accS F) = false := by
      unfold cnfB; rw [decide_eq_false (by omega)]; simp
    have e2 : cnfB vars (accJ F) = false := by
      unfold cnfB accJ; rw [decide_eq_false (by simp; omega)]; simp
    rw [e1, e2]; exact ⟨rfl, fun h => by cases h⟩
theorem accS_len61 (F : List (List Int)) : (accS F).length ≤ 61 := by
  rcases Nat.lt_or_ge F.length 61 with h | h
  · rw [accS_few (by omega)]; simp [accJ]; omega
  · rw [accS_many h]; exact Nat.le_refl _
theorem Weak.rsl_emp {q : Place} {sz off : Nat} {cap : Option Nat} : Weak (.rsl q sz off 0 cap) (.sl [] 0) := by
  refine ⟨fun β F w p v hv => ?_, fun r z hz ho => ?_⟩
  · simp only [Rep] at hv ⊢
    rcases hv with ⟨_, ⟨a, rfl⟩, _⟩ | ⟨b, capv, _, rfl, _⟩
    · exact ⟨Eq.refl _, a, 0, Eq.refl _, Nat.le_refl _, fun h => absurd (Eq.refl _) h⟩
    · exact ⟨Eq.refl _, _, capv, Eq.refl _, Nat.zero_le _, fun h => absurd (Eq.refl _) h⟩
  · cases r with
    | nil => simp [node] at hz; subst hz; simp [AV.isOwn] at ho
    | cons j r => simp [node, kids] at hz
def resV (ok : Bool) (vars : Int) : Int := if ok then vars else 0
def resL (ok : Bool) (L : List (List Int)) : List (List Int) := if ok then L else []
/-- Numbers that are small, in all lists. -/
theorem jc_mem {l : List Int} {x : Int} (h : x ∈ jc l) : x ∈ l := by
  unfold jc at h
  cases hj : joinL [] l with
  | none => rw [hj] at h; simp at h
  | some o => rw [hj] at h; exact (join_mem hj h).resolve_left (by simp)
theorem jc_len (l : List Int) : (jc l).length ≤ l.length := by
  unfold jc
  cases hj : joinL [] l with
  | none => simp
  | some o => have := join_len hj; simpa using this
theorem dsrt_len (l : List Int) : (dsrt l).length ≤ l.length := dedN_le _ _
theorem mc_len (l : List Int) : (mc l).length ≤ l.length := by
  unfold mc clR; split
  · simp
  · exact dsrt_len l
theorem mc_mem {l : List Int} {x : Int} (h : x ∈ mc l) : x ∈ l := by
  unfold mc clR at h; split at h
  · simp at h
  · exact dsrt_mem.1 h
theorem cnfOk_of {vars : Int} {L : List (List Int)} (hv : -9223372036854775808 ≤ vars ∧ vars ≤ 9223372036854775807) {k : Nat} (hL : L.length * (k + 1) ≤ 1048576) (h : ∀ c ∈ L, SmI c ∧ c.length ≤ k) : CnfOk vars L := by
  have h1 : L.length ≤ 1048576 := Nat.le_trans (Nat.le_mul_of_pos_right _ (by omega)) hL
  have h2 : ∀ i, i ≤ L.length → tot L i ≤ i * k := by
    intro i
    induction i with
    | zero => intro _; simp [tot_zero]
    | succ i ih =>
      intro hi
      rw [tot_more (by omega), Nat.succ_mul]
      have := (h _ (gl_mem (show i < L.length by omega))).2
      have := ih (by omega)
      omega
  refine ⟨hv, h1, ?_, fun i j => ?_⟩
  · have := h2 L.length (Nat.le_refl _)
    have e : L.length * (k + 1) = L.length * k + L.length := Nat.mul_succ _ _
    omega
  · rcases Nat.lt_or_ge i L.length with hi | hi
    · have := (h _ (gl_mem hi)).1 j; omega
    · rw [gl_out hi]; simp [gd]
theorem GoodF.okM {vars : Int} {F : List (List Int)} (hv : -9223372036854775808 ≤ vars ∧ vars ≤ 9223372036854775807) (h : GoodF F) {k : Nat} (hk : ∀ l ∈ F, l.length ≤ k) (hF : F.length * (k + 1) ≤ 1048576) : CnfOk vars (accM F) :=
  cnfOk_of (k := k) hv (by rw [accM_len]; exact hF) fun c hc => by
    obtain ⟨l, hl, rfl⟩ := List.mem_map.1 hc
    exact ⟨SmI.of fun x hx => (h l hl).1.mem (mc_mem hx), Nat.le_trans (mc_len l) (hk l hl)⟩
theorem addS_mem {L : List (List Int)} {l c : List Int} (h : c ∈ addS L l) : c ∈ L ∨ c = jc l := by
  unfold addS at h; split at h
  · simpa using h
  · exact .inl h
theorem accS_mem {F : List (List Int)} {c : List Int} : c ∈ accS F → ∃ l ∈ F, c = jc l := by
  refine snoc_ind (p := fun F => c ∈ accS F → ∃ l ∈ F, c = jc l) ?_ ?_ F
  · intro h; simp [accS] at h
  · intro F l ih h
    rw [accS_app] at h
    rcases addS_mem h with h | h
    · obtain ⟨l', h1, h2⟩ := ih h; exact ⟨l', by simp [h1], h2⟩
    · exact ⟨l, by simp, h⟩
theorem GoodF.okS {vars : Int} {F : List (List Int)} (hv : -9223372036854775808 ≤ vars ∧ vars ≤ 9223372036854775807) (h : GoodF F) {k : Nat} (hk : ∀ l ∈ F, l.length ≤ k) (hk2 : k ≤ 10000) : CnfOk vars (accS F) :=
  cnfOk_of (k := k) hv (by
    have h1 := accS_len61 F
    have h2 : (accS F).length * (k + 1) ≤ 61 * (k + 1) := Nat.mul_le_mul_right _ h1
    omega) fun c hc => by
    obtain ⟨l, hl, rfl⟩ := accS_mem hc
    exact ⟨SmI.of fun x hx => (h l hl).1.mem (jc_mem hx), Nat.le_trans (jc_len l) (hk l hl)⟩
/-- Marks on lists of lists. -/
def mkSS (k : Int) (L : List (List Int)) : List (List Int) := (List.range L.length).map fun i => mkI (k + (tot L i : Nat)) (gl L i).length
theorem mkSS_length (k : Int) (L : List (List Int)) : (mkSS k L).length = L.length := by simp [mkSS]
theorem mkSS_get {k : Int} {L : List (List Int)} {i : Nat} (h : i < L.length) : gl (mkSS k L) i = mkI (k + (tot L i : Nat)) (gl L i).length := by
  unfold mkSS; rw [gl, List.getElem?_map, List.getElem?_range h]; rfl
/-- The first i lists are marked. -/
def mkSSP (k : Int) (L : List (List Int)) (i : Nat) : List (List Int) := (mkSS k L).take i ++ L.drop i
theorem mkSSP_zero (k : Int) (L : List (List Int)) : mkSSP k L 0 = L := by simp [mkSSP]
theorem mkSSP_length {k : Int} {L : List (List Int)} {i : Nat} (h : i ≤ L.length) : (mkSSP k L i).length = L.length := by
  unfold mkSSP; rw [List.length_append, List.length_take, mkSS_length, List.length_drop]; omega
theorem mkSSP_full {k : Int} {L : List (List Int)} {i : Nat} (h : L.length ≤ i) : mkSSP k L i = mkSS k L := by
  unfold mkSSP; rw [List.take_of_length_le (by rw [mkSS_length]; exact h), List.drop_of_length_le h, List.append_nil]
theorem mkSSP_get {k : Int} {L : List (List Int)} {i : Nat} (h : i < L.length) : gl (mkSSP k L i) i = gl L i := by
  unfold mkSSP gl
  have h1 : ((mkSS k L).take i).length = i := by rw [List.length_take, mkSS_length]; omega
  rw [List.getElem?_append_right (by omega), h1, Nat.sub_self, List.getElem?_drop, Nat.add_zero]
theorem mkSSP_set {k : Int} {L : List (List Int)} {i : Nat} (h : i < L.length) : (mkSSP k L i).set i (mkI (k + (tot L i : Nat)) (gl L i).length) = mkSSP k L (i + 1) := by
  unfold mkSSP
  have h1 : ((mkSS k L).take i).length = i := by rw [List.length_take, mkSS_length]; omega
  rw [List.set_append_right _ _ (by omega), h1, Nat.sub_self, List.drop_eq_getElem_cons h, List.set_cons_zero]
  have h2 : i < (mkSS k L).length := by rw [mkSS_length]; exact h
  rw [List.take_succ_eq_append_getElem h2, List.append_assoc]
  congr 1
  have := mkSS_get (k := k) h
  unfold gl at this ⊢
  rw [List.getElem?_eq_getElem h2] at this
  simp only [Option.getD_some] at this
  rw [this]; rfl
theorem osls_get {L : List (List Int)} {i : Nat} (h : i < L.length) : (osls L)[i]? = some (.osl 1 (icells (gl L i)) (gl L i).length none) := by
  unfold osls gl; rw [List.getElem?_map, List.getElem?_eq_getElem h]; rfl
theorem osls_set (L : List (List Int)) (i : Nat) (c : List Int) : (osls L).set i (.osl 1 (icells c) c.length none) = osls (L.set i c) := by
  unfold osls; rw [List.map_set]
theorem mkI_len (k : Int) (n : Nat) : (mkI k n).length = n := mkI_length k n
end Go.Av
namespace Go.Av
open Go
/-- All numbers are small and not 0, all lists short. -/
def goodB (m : Nat) (F : List (List Int)) : Bool := decide (F.length ≤ 5000) && F.all fun l => decide (l.length ≤ m) && l.all fun x => decide (x ≠ 0 ∧ -1000000 ≤ x ∧ x ≤ 1000000)
theorem goodB_F {m : Nat} {F : List (List Int)} (h : goodB m F = true) : GoodF F ∧ (∀ l ∈ F, l.length ≤ m) ∧ F.length ≤ 5000 := by
  simp only [goodB, Bool.and_eq_true, decide_eq_true_eq, List.all_eq_true] at h
  exact ⟨fun l hl => ⟨SmI.of fun x hx => by have := ((h.2 l hl).2 x hx); omega, fun x hx => ((h.2 l hl).2 x hx).1⟩, fun l hl => (h.2 l hl).1, h.1⟩
theorem goodB_okM {vars : Int} {F : List (List Int)} (hv : -9223372036854775808 ≤ vars ∧ vars ≤ 9223372036854775807) (h : goodB 144 F = true) : CnfOk vars (accM F) := by
  obtain ⟨h1, h2, h3⟩ := goodB_F h
  exact h1.okM hv h2 (by omega)
theorem goodB_okS {vars : Int} {F : List (List Int)} (hv : -9223372036854775808 ≤ vars ∧ vars ≤ 9223372036854775807) (h : goodB 144 F = true) : CnfOk vars (accS F) := by
  obtain ⟨h1, h2, h3⟩ := goodB_F h
  exact h1.okS hv h2 (by omega)
theorem goodB_J {F : List (List Int)} (h : goodB 144 F = true) : accM F = accJ F := accM_J (goodB_F h).1
/-- What a family gives. -/
theorem res_M {vars : Int} {F : List (List Int)} {c : Bool} (hc : c = true) (h : goodB 144 F = true) : cnfB vars (accM F) = (c && cnfB vars (accJ F)) ∧ resL (cnfB vars (accM F)) (accM F) = resL (c && cnfB vars (accJ F)) (accJ F) := by
  rw [goodB_J h, hc, Bool.true_and]; exact ⟨rfl, rfl⟩
theorem res_S {vars : Int} {F : List (List Int)} {c : Bool} (hc : c = true) : cnfB vars (accS F) = (c && cnfB vars (accJ F)) ∧ resL (cnfB vars (accS F)) (accS F) = resL (c && cnfB vars (accJ F)) (accJ F) := by
  obtain ⟨h1, h2⟩ := accS_cnf vars F
  rw [h1, hc, Bool.true_and]
  refine ⟨rfl, ?_⟩
  unfold resL
  split
  · rename_i h; exact h2 h
  · rfl
/-- How long a family's formula is. -/
theorem cnfB_res {vars : Int} {c : Bool} {L : List (List Int)} : (resL (c && cnfB vars L) L).length ≤ 60 ∧ tot (resL (c && cnfB vars L) L) (resL (c && cnfB vars L) L).length ≤ 720 := by
  unfold resL
  split
  · rename_i h
    simp only [Bool.and_eq_true] at h
    obtain ⟨_, h2, h3⟩ := cnfB_spec h.2
    refine ⟨h2, ?_⟩
    have key : ∀ i, i ≤ L.length → tot L i ≤ i * 12 := by
      intro i
      induction i with
      | zero => intro _; simp [tot_zero]
      | succ i ih =>
        intro hi
        rw [tot_more (by omega)]
        have := clB_len (h3 i (by omega))
        have := ih (by omega)
        omega
    have := key L.length (Nat.le_refl _)
    omega
  · simp [tot]
end Go.Av
namespace Go.Av
open Go
section
variable {P : Program} {N : Nat} {A : Bool} {σ τ : Sig} {ty : TypeId}
variable {e : Ctx} {val : Nat → Value} {w : World} {β : Place → Option (Nat × Nat)} {F : Nat → Prop} {x : AV} {d : Nat}

/-- A slot's owned memory is frozen, where it is new. -/
theorem Inv.freeze (h : Inv e (upd τ d x) val w β F) (hf : ∀ r y b s, node x r = some y → y.isOwn = true → β (d, r) = some (b, s) → e.w0.heap.size ≤ b) :
    Inv e (upd τ d (sh x)) val w β (fun b => F b ∨ ∃ r y s, node x r = some y ∧ y.isOwn = true ∧ β (d, r) = some (b, s)) := by
  have own : ∀ q, OwnAt (upd τ d (sh x)) q → q.1 ≠ d ∧ OwnAt (upd τ d x) q := fun q hq => by
    by_cases hi : q.1 = d
    · obtain ⟨y, hy, ho⟩ := hq
      rw [hi, upd_same] at hy
      rw [pure_own (pure_sh x) hy] at ho; cases ho
    · exact ⟨hi, (own_upd_other hi).2 ((own_upd_other hi).1 hq)⟩
  have hx := h.rep d
  rw [upd_same] at hx
  have ownx : ∀ r y, node x r = some y → y.isOwn = true → OwnAt (upd τ d x) (d, r) := fun r y hy ho => ⟨y, by rw [upd_same]; exact hy, ho⟩
  refine ⟨fun i => ?_, fun q q' b s s' hq hq' => h.disj q q' b s s' (own q hq).2 (own q' hq').2, fun q b s hq hb => ⟨?_, (h.sep q b s (own q hq).2 hb).2⟩, fun b hb => ?_, h.kept, h.grow, h.tame⟩
  · by_cases hi : i = d
    · subst hi
      rw [upd_same]
      exact hx.sh x (fun b hb => .inl hb) (fun r y b s hy ho hb => .inr ⟨r, y, s, hy, ho, by simpa using hb⟩)
    · have := h.rep i
      rw [upd_other _ _ hi] at this ⊢
      exact this.tr _ (fun b hb => ⟨.inl hb, rfl⟩) (fun _ _ _ _ => ⟨rfl, fun _ _ _ => rfl⟩) (fun _ _ => rfl)
  · rintro (hF | ⟨r, y, s', hy, ho, hb'⟩)
    · exact (h.sep q b s (own q hq).2 hb).1 hF
    · have := h.disj q (d, r) b s s' (own q hq).2 (ownx r y hy ho) hb hb'
      exact (own q hq).1 (by rw [this])
  · rcases hb with hb | ⟨r, y, s, hy, ho, hb⟩
    · exact h.fr b hb
    · refine ⟨h.own_lt (ownx r y hy ho) hb, fun hlt => ?_⟩
      have := hf r y b s hy ho hb
      omega

/-- A call whose arguments are only lent; its result is new and frozen from now on. -/
theorem call_coreZ {f : FuncId} {args : List AV} {res : AV} (hc : ACall P f args [] res []) (hp : pureL args = true) (hn : noSh res = true) (hr : noRef res = true) (h : Inv e σ val w β F) {vs : List Value}
    (hl : vs.length = args.length) (ha : RepL (fun _ => none) (lent σ β F) w args (0, []) 0 vs) (d : Nat) :
    Calls P f vs.toArray w fun en w' => ∃ v β' F', en = .returned v ∧ Inv e (upd (fun i => purgeV d (σ i)) d (sh res)) (upd val d v) w' β' F' := by
  have hinv : Inv ⟨w, fun _ => False, lent σ β F, []⟩ (argSig args []) (fun i => vs.getD i undef) w (fun _ => none) (lent σ β F) := by
    refine ⟨fun i => ?_, fun q q' b s s' hq => (noOwn_argSig hp q hq).elim, fun q b s hq => (noOwn_argSig hp q hq).elim, fun b hb => ⟨?_, fun _ => hb⟩, fun _ _ _ => rfl, Nat.le_refl _, Tame.refl _⟩
    · unfold argSig
      split
      · cases hx : args[i]? with
        | none => simp [Rep]
        | some c =>
          obtain ⟨u, hu, hru⟩ := RepL_iff.1 ha i c hx
          rw [List.getD_eq_getElem?_getD, hu]
          exact hru.pure_any (pureL_mem hp (List.mem_of_getElem? hx))
      · simp [Rep]
    · rcases hb with hb | ⟨q, s, hq, hb⟩
      · exact (h.fr b hb).1
      · exact h.own_lt hq hb
  refine (hc _ vs _ w _ _ hl (fun _ _ => rfl) hinv).mono fun en w' ⟨v, β', F', he, hi⟩ => ⟨v, ?_⟩
  have hkept : ∀ b, b < w.heap.size → w'.heap[b]? = w.heap[b]? := fun b hb => hi.kept b hb (fun h => h)
  have hI := h.more hkept hi.grow (h.tame.trans hi.tame hkept)
  have h0 : argSig [res] [] 0 = res := by simp [argSig, INH]
  have hge : ∀ r y b s, node res r = some y → y.isOwn = true → β' (0, r) = some (b, s) → w.heap.size ≤ b := fun r y b s hy ho hb => by
    have hs := hi.sep (0, r) b s ⟨y, by rw [h0]; exact hy, ho⟩ hb
    rcases hs.2 with h | h; exact h; exact h.elim
  have hdet : Det e σ w' β F res v (fun r => β' (0, r)) := by
    refine ⟨?_, refs_of_noRef res hr, ?_, ?_⟩
    · have := hi.rep 0
      rw [h0, upd_same] at this
      exact (this.noSh (G := F) res hn).tr _ (fun b hb => ⟨hb, rfl⟩) (fun r y _ _ => ⟨by simp, fun _ _ _ => rfl⟩) (fun q hq => by rw [refs_of_noRef res hr] at hq; cases hq)
    · intro r r' y y' b s s' hy ho hy' ho' hb hb'
      have := hi.disj (0, r) (0, r') b s s' ⟨y, by rw [h0]; exact hy, ho⟩ ⟨y', by rw [h0]; exact hy', ho'⟩ hb hb'
      simpa using this
    · intro r y b s hy ho hb
      have hge := hge r y b s hy ho hb
      exact ⟨fun hF => by have := (h.fr b hF).1; omega, .inl (Nat.le_trans h.grow hge), fun q s' hq hb' => by have := h.own_lt hq hb'; omega⟩
  exact ⟨_, _, he, (hI.attach d hdet).freeze (fun r y b s hy ho hb => Nat.le_trans h.grow (hge r y b s hy ho (by simpa using hb)))⟩
theorem q_callZ {f : FuncId} {xs : List Operand} {tys : Array TypeId} {vs args : List AV} {res : AV} (hf : hasBody P f = true) (hx : RdL N A σ xs vs) (hs : snapL σ vs = args) (hc : A = true → ACall P f args [] res [])
    (hn : noSh res = true) (hr : noRef res = true) : QSem P N A (fnCall f xs tys) ty σ (slotsL xs ++ refRoots vs) (sh res) := by
  intro hA σ' hD gv e a w β F hi d o ho hty K Q hK
  have hp : pureL args = true := by rw [← hs]; exact pure_snapL σ _
  obtain ⟨hrep, hlen, hno⟩ := RdL.rep hA hi (0, []) (j := 0) hx (agree_l hD)
  have hsn := hi.snapL (β0 := fun _ => none) _ (p' := (0, [])) hrep (fun i c hc => hno c (List.mem_of_getElem? hc))
  have e2 : snapL σ' vs = args := by rw [← hs]; exact snapL_congr _ fun q hq => hD q.1 (List.mem_append_right _ (refRoots_mem hq))
  rw [e2] at hsn
  have hl : (xs.map a.eval).length = args.length := by rw [← e2, snapL_eq, hlen]; simp
  refine upon_enter' (f := f) (args := (xs.map a.eval).toArray) ?_ ((call_coreZ (hc hA) hp hn hr hi hl hsn d).mono fun en w' ⟨v, β', F', he, hi'⟩ => ⟨v, he, hK _ _ ⟨β', F', hi'⟩⟩)
  simp [execOp, ho, fnCall, resolve, Deferred.ofValue, Act.eval, invoke, run_callFunc_body hf]
end
end Go.Av
namespace Go.Av
open Go

section
variable {e : Ctx} {σ σ' : Sig} {val val' : Nat → Value} {w w' : World} {β β' : Place → Option (Nat × Nat)} {F F' : Nat → Prop} {ds : List Deferred}

theorem Inv.own_cells (h : Inv e σ val w β F) {q : Place} {b s : Nat} (ho : OwnAt σ q) (hb : β q = some (b, s)) : ∃ arr t fz, w.heap[b]? = some (.cells arr t fz) := by
  obtain ⟨x, hx, ho⟩ := ho
  obtain ⟨u, hu⟩ := (h.rep q.1).sub hx
  have hb' : β (q.1, [] ++ q.2) = some (b, s) := by simpa using hb
  cases x <;> simp [AV.isOwn] at ho <;> simp only [Rep] at hu
  · rcases hu with ⟨h0, _⟩ | ⟨_, b', _, _, _, h0, _, _, _, hh, _⟩
    · rw [h0] at hb'; cases hb'
    · rw [h0] at hb'; cases hb'; exact ⟨_, _, _, hh⟩
  · obtain ⟨_, b', _, _, h0, _, hh, _⟩ := hu
    rw [h0] at hb'; cases hb'; exact ⟨_, _, _, hh⟩

def nonCells : Obj → Prop
  | .cells .. => False
  | _ => True

theorem Inv.putObj (h : Inv e σ val w β F) {l : Nat} {o o' : Obj} (hl : w.heap[l]? = some o) (hc : nonCells o) (hc' : nonCells o') (hF : ¬ F l) (hk : e.w0.heap.size ≤ l) : Inv e σ val (w.putObj l o') β F := by
  have hlt : l < w.heap.size := (Array.getElem?_eq_some_iff.1 hl).1
  refine h.ext (fun b hb => World.putObj_heap_other (fun e => by subst e; exact hF hb)) (fun q b s hq hb => World.putObj_heap_other fun e => ?_) (fun b hb _ => World.putObj_heap_other (by omega)) (by simp) ?_
  · subst e
    obtain ⟨arr, t, fz, hh⟩ := h.own_cells hq hb
    rw [hl] at hh; cases hh; exact hc
  · refine ⟨h.tame.1, h.tame.2.1, fun b arr t fz hb hh => ?_⟩
    by_cases hbl : b = l
    · subst hbl
      rw [World.putObj_heap_same hlt] at hh
      cases hh; exact hc'.elim
    · rw [World.putObj_heap_other hbl] at hh
      exact h.tame.2.2 b arr t fz hb hh

end

/-- From here on stand the slots that variables of the frame are lent to. -/
def LND : Nat := 2000000
section
variable {N : Nat} {e : Ctx} {σ σ' : Sig} {w w' : World} {β β' : Place → Option (Nat × Nat)} {F F' : Nat → Prop} {gv : Nat → Value} {a a' : Act}
/-- The frame's slots: pure ones, and ones that refer to what they are lent to. -/
def BaseOk (N : Nat) (τ : Sig) : List (Nat × AV) → Prop
  | [] => True
  | (i, v) :: L => (i < N ∧ (pureV v = true ∨ v = refd (LND + i, []) (τ (LND + i)))) ∧ BaseOk N τ L
theorem BaseOk.get {τ : Sig} : ∀ {L : List (Nat × AV)}, BaseOk N τ L → ∀ i, (look L i = .undef ∧ True) ∨ (i < N ∧ (pureV (look L i) = true ∨ look L i = refd (LND + i, []) (τ (LND + i))))
  | [], _, i => .inl ⟨rfl, trivial⟩
  | (d, v) :: L, h, i => by
    obtain ⟨⟨h1, h2⟩, h3⟩ := h
    simp only [look, upd]
    split
    · rename_i he; subst he; exact .inr ⟨h1, h2⟩
    · exact h3.get i
/-- Keys behind the frame. -/
def keysFrom (N : Nat) : List (Nat × AV) → Bool
  | [] => true
  | (i, _) :: L => decide (N ≤ i) && keysFrom N L
end
end Go.Av
namespace Go.Av
open Go
/-- The mark that a loop over an iterator leaves among the deferred calls. -/
def MkOk (e : Ctx) (ds : List Deferred) (w : World) (F : Nat → Prop) : Prop :=
  ds = [] ∨ ∃ D, ds = [{ target := .collected D, args := #[] }] ∧ w.heap[D]? = some (.deferred (some [])) ∧ e.w0.heap.size ≤ D ∧ ¬ F D
structure AllM (N : Nat) (gv : Nat → Value) (e : Ctx) (σ : Sig) (a : Act) (w : World) : Prop where
  size : a.tmps.size = N
  inv : ∃ β F, MkOk e a.defers w F ∧ Inv e σ (valOf N gv a) w β F
/-- Code of a function's own frame: a loop over an iterator may stand in it (m: or ahead of it). -/
def BCode (P : Program) (N : Nat) (m : Bool) (c : Code) (σ : Sig) (Φ : Exit → Sig → Prop) : Prop :=
  ∀ (gv : Nat → Value) (e : Ctx) (a : Act) (w : World), (m = false → a.defers = []) → AllM N gv e σ a w → ∀ Q : Exit → Act → World → Prop, (∀ x a' w' σ', Φ x σ' → AllM N gv e σ' a' w' → Q x a' w') → c.wp P Q a w

section
variable {P : Program} {N : Nat} {m : Bool} {σ σ' : Sig} {Φ : Exit → Sig → Prop} {c c' : Code}
/-- A function's contract out of its code, where a loop over an iterator stands in it. -/
theorem BCall.intro {f : FuncId} {fn : Func} {args objs objs2 : List AV} {res : AV} (hf : P.funcs[f]? = some fn) (hb : fn.body = some c) (hN : fn.ntmps = N) (hNI : N < INH) (ha : args.length ≤ N)
    (h : BCode P N false c (argSig args objs) (fun x s => match x with | .normal => Returns P fn N s res objs2 | .ret => Returns P fn N s res objs2 | _ => False)) : ACall P f args objs res objs2 := by
  intro e vs val w β F hl hval hi
  refine (callsIn_wide (n := 1)).1 (callsIn_of_wp_marks hf hb trivial (wpIn_wide.2 ?_))
  have hsz : (vs.toArray ++ Array.replicate (fn.ntmps - vs.toArray.size) undef).size = N := by simp [hN]; omega
  refine h (fun i => val i) e _ w (fun _ => rfl) ⟨hsz, β, F, .inl rfl, ?_⟩ _ fun x a' w' s hx ha' => ?_
  · refine ⟨fun i => ?_, hi.disj, hi.sep, hi.fr, hi.kept, hi.grow, hi.tame⟩
    by_cases hlt : i < vs.length
    · have := hi.rep i
      rw [hval i hlt] at this
      have e1 : valOf N (fun i => val i) { tmps := vs.toArray ++ Array.replicate (fn.ntmps - vs.toArray.size) undef, defers := [] } i = vs.getD i undef := by
        have : i < N := by omega
        simp only [valOf, this, if_true]
        rw [Array.getD_eq_getD_getElem?, Array.getElem?_append_left (by simpa using hlt)]
        simp
      rw [e1]; exact this
    · by_cases hN' : i < N
      · have : argSig args objs i = .undef := by
          have h1 : i < INH := by omega
          have h2 : args[i]? = none := List.getElem?_eq_none (by omega)
          simp [argSig, h1, h2]
        rw [this]; simp [Rep]
      · have := hi.rep i
        simpa [valOf, hN'] using this
  · have key : ∀ (_ : Returns P fn N s res objs2), LeavesInM Fence.wide 1 P fn a'.tmps (fun en w' => ∃ v β' F', en = .returned v ∧ Inv e (argSig [res] objs2) (upd val 0 v) w' β' F') a'.defers .returning w' := by
      intro hret
      obtain ⟨hsz', β', F', hk, hi'⟩ := ha'
      rcases hk with hk | ⟨D, h1, h2, h3, h4⟩
      · obtain ⟨v, hr, β'', F'', hi''⟩ := hret (fun i => val i) { e with ds := [] } a' w' ⟨hk, hsz', β', F', ⟨hi'.rep, hi'.disj, hi'.sep, hi'.fr, hi'.kept, hi'.grow, hi'.tame⟩⟩
        rw [hk]
        exact ⟨v, hr, v, β'', F'', rfl, ⟨hi''.rep, hi''.disj, hi''.sep, hi''.fr, hi''.kept, hi''.grow, hi''.tame⟩⟩
      · rw [h1]
        have hi2 : Inv e s (valOf N (fun i => val i) a') (w'.putObj D (.deferred none)) β' F' := hi'.putObj h2 trivial trivial h4 h3
        obtain ⟨v, hr, β'', F'', hi''⟩ := hret (fun i => val i) { e with ds := a'.defers } a' _ ⟨rfl, hsz', β', F', ⟨hi2.rep, hi2.disj, hi2.sep, hi2.fr, hi2.kept, hi2.grow, hi2.tame⟩⟩
        refine ⟨by simp, .inl ⟨D, _, rfl, run_takeDeferred h2, ?_⟩⟩
        exact ⟨v, hr, v, β'', F'', rfl, ⟨hi''.rep, hi''.disj, hi''.sep, hi''.fr, hi''.kept, hi''.grow, hi''.tame⟩⟩
    cases x <;> simp only at hx
    · exact key hx
    · exact key hx
end
end Go.Av
namespace Go.Av
open Go

def NrAll (τ : Sig) : List Nat → Prop
  | [] => True
  | s :: S => noRef (τ (LND + s)) = true ∧ NrAll τ S
theorem NrAll.get {τ : Sig} : ∀ {S : List Nat}, NrAll τ S → ∀ s ∈ S, noRef (τ (LND + s)) = true
  | [], _, s, hs => by cases hs
  | x :: S, h, s, hs => by
    rcases List.mem_cons.1 hs with rfl | hs
    · exact h.1
    · exact h.2.get s hs
structure LpOk (N : Nat) (S : List Nat) (LB LP : List (Nat × AV)) : Prop where
  keys : keysFrom N LP = true
  base : BaseOk N (look LP) LB
  nr : NrAll (look LP) S
def NrFr (τ : Sig) : List Nat → Prop
  | [] => True
  | s :: S => noRef (τ s) = true ∧ NrFr τ S
theorem NrFr.get {τ : Sig} : ∀ {S : List Nat}, NrFr τ S → ∀ s ∈ S, noRef (τ s) = true
  | [], _, s, hs => by cases hs
  | x :: S, h, s, hs => by
    rcases List.mem_cons.1 hs with rfl | hs
    · exact h.1
    · exact h.2.get s hs
theorem Returns.pre {P : Program} {fn : Func} {N : Nat} {σ σ' : Sig} {res : AV} {objs2 : List AV} (h : Ent σ σ') (hr : Returns P fn N σ' res objs2) : Returns P fn N σ res objs2 :=
  fun gv e a w ha => hr gv e a w (h.all ha)

end Go.Av
namespace Go.Av
open Go
theorem QSem.weak {P : Program} {N : Nat} {A : Bool} {op : Op} {ty : TypeId} {σ : Sig} {D : List Nat} {x y : AV} (h : QSem P N A op ty σ D x) (hw : Weak x y) : QSem P N A op ty σ D y := fun hA σ' hD gv e a w β F hi d o ho hty K Q hK =>
  h hA σ' hD gv e a w β F hi d o ho hty K Q fun v w' ⟨β', F', hi'⟩ => hK v w' ⟨β', F', hi'.weak (fun i => by
    have hr := hi'.rep i
    by_cases h1 : i = d
    · subst h1; rw [upd_same] at hr ⊢; exact hw.1 _ _ _ _ _ hr
    · rw [upd_other _ _ h1] at hr ⊢; exact hr) (fun q ⟨z, hz, ho'⟩ => by
    by_cases h1 : q.1 = d
    · rw [h1, upd_same] at hz
      obtain ⟨z', hz', ho2⟩ := hw.2 _ z hz ho'
      exact ⟨z', by rw [h1, upd_same]; exact hz', ho2⟩
    · rw [upd_other _ _ h1] at hz
      exact ⟨z, by rw [upd_other _ _ h1]; exact hz, ho'⟩)⟩
mutual
theorem passV_congr {q : Place} {σ σ0 : Sig} : ∀ (x : AV), (∀ p ∈ refs x, σ p.1 = σ0 p.1) → passV q σ x = passV q σ0 x
  | .rsl p sz off n cap, h => by
    simp only [passV]; split
    · rfl
    · exact snapV_congr _ h
  | .rp p off, h => by
    simp only [passV]; split
    · rfl
    · exact snapV_congr _ h
  | .agg cs, h => by simp only [passV, passL_congr cs (fun p hp => h p (by simpa [refs] using hp))]
  | .fn f us cs, h => by simp only [passV, passL_congr us (fun p hp => h p (by simp [refs, hp])), passL_congr cs (fun p hp => h p (by simp [refs, hp]))]
  | .undef, h | .int .., h | .bool _, h | .str _, h | .that .., h | .nilp, h | .nils, h | .emp, h | .sl .., h | .pp .., h | .tup _, h | .when .., h | .osl .., h | .op _, h => by simp only [passV]; exact snapV_congr _ h
theorem passL_congr {q : Place} {σ σ0 : Sig} : ∀ (cs : List AV), (∀ p ∈ refsL cs, σ p.1 = σ0 p.1) → passL q σ cs = passL q σ0 cs
  | [], _ => rfl
  | c :: cs, h => by simp only [passL, passV_congr c (fun p hp => h p (by simp [refsL, hp])), passL_congr cs (fun p hp => h p (by simp [refsL, hp]))]
end
end Go.Av
namespace Go.Av
open Go
/-- The slots off ds are as they were. -/
def Kept (ds : List Nat) (a a' : Act) : Prop := ∀ i, i ∉ ds → a'.tmps.getD i undef = a.tmps.getD i undef
theorem Kept.put {ds : List Nat} {a a' : Act} {o : Option Nat} {v : Value} (h : Kept ds a a') (ho : ∀ d, o = some d → d ∈ ds) : Kept ds a (a'.put o v) := fun i hi => by
  rw [← h i hi]
  cases o with
  | none => rfl
  | some d =>
    have hne : d ≠ i := fun e => hi (by rw [← e]; exact ho d rfl)
    simp only [Act.put, Array.getD_eq_getD_getElem?]
    rw [Array.getElem?_setIfInBounds_ne hne]
section
variable {P : Program} {N : Nat} {ds : List Nat} {a0 : Act} {Q : Exit → Act → World → Prop}
def QK (ds : List Nat) (a0 : Act) (Q : Exit → Act → World → Prop) : Exit → Act → World → Prop := fun x a w => Q x a w ∧ (x = .normal → Kept ds a0 a)
theorem qk_out (h : ¬ LetsOut Q) : ¬ LetsOut (QK ds a0 Q) := fun ⟨a, w, h1⟩ => h ⟨a, w, h1.1⟩
theorem out_qk (h : LetsOut Q) : LetsOut (QK ds a0 Q) := by
  obtain ⟨a, w, h⟩ := h
  exact ⟨a, w, h, fun h => by cases h⟩
theorem wpop_kept {o : Oper} {a : Act} {w : World} {K K' : Act → World → Prop} (ho : ∀ d, o.dst = some d → d ∈ ds) (ha : Kept ds a0 a) (hK : ∀ a' w', K a' w' → Kept ds a0 a' → K' a' w') (h : o.wp P a w K Q) : o.wp P a w K' (QK ds a0 Q) := by
  unfold Oper.wp at *
  generalize (execOp a.eval o).run P w = r at *
  cases r with
  | ok n w' =>
    cases n <;> simp only [Oper.upon] at h ⊢ <;>
      first
        | exact hK _ _ h (ha.put ho)
        | exact hK _ _ h (Kept.put (a' := { a with defers := _ }) ha ho)
        | exact Calls.mono h (fun e w'' he => by cases e <;> first | exact hK _ _ he (ha.put ho) | exact out_qk he | exact ⟨he, fun h => by cases h⟩)
        | exact Rows.mono h (fun _ _ he => hK _ _ he (ha.put ho))
        | exact h
  | halt x w' => cases x <;> simp only [Oper.upon] at h ⊢ <;> first | exact ⟨h, fun h => by cases h⟩ | exact h
end
end Go.Av
namespace Go.Av
open Go
section
variable {P : Program} {N : Nat} {ds : List Nat} {a0 : Act} {Q : Exit → Act → World → Prop}
theorem wpList_kept {ops : Array Oper} : ∀ {l : List Oper} {a : Act} {w : World}, (∀ o ∈ l, ∀ d, o.dst = some d → d ∈ ds) → Kept ds a0 a → wpList P ops Q l a w → wpList P ops (QK ds a0 Q) l a w
  | [], _, _, _, ha, h => ⟨h, fun _ => ha⟩
  | o :: l, a, w, hd, ha, h => by
    have ho := hd o List.mem_cons_self
    have hl : ∀ o ∈ l, ∀ d, o.dst = some d → d ∈ ds := fun o hm => hd o (List.mem_cons_of_mem _ hm)
    unfold wpList at h ⊢
    split
    · rename_i hw
      rw [if_pos hw] at h
      rcases h with h | ⟨h, h2⟩
      · exact .inl (wpop_kept ho ha (fun a' w' hk ha' => wpList_kept hl ha' hk) h)
      · exact .inr ⟨h, out_qk h2⟩
    · rename_i hw
      rw [if_neg hw] at h
      exact wpList_kept hl (ha.put ho) h
end
section
variable {P : Program} {N : Nat} {gv : Nat → Value} {e' : Ctx} {a : Act} {w : World} {K : Sig → Prop} {Q : Exit → Act → World → Prop}
theorem sw_regionV {id : Nat} {l : List Oper} (hnd : noDefer l = true) (hQ : ∀ a' w' σ', K σ' → All N gv e' σ' a' w' → Kept (l.filterMap (·.dst)) a a' → Q .normal a' w')
    (h : ∀ Q : Exit → Act → World → Prop, (∀ a' w' σ', K σ' → All N gv e' σ' a' w' → Q .normal a' w') → wpList P l.toArray Q l a w) : SWp P (.region id l.toArray false) Q a w := fun r n =>
  wpIn_mono (wpIn_region_lit (wpList_in (qk_out NQ_out) (noDefer_mem hnd) (wpList_kept (ds := l.filterMap (·.dst)) (a0 := a) (fun o ho d hd => List.mem_filterMap.2 ⟨o, ho, hd⟩) (fun _ _ => rfl) (h (NQ N gv e' K) fun a' w' σ' h1 h2 => ⟨rfl, σ', h1, h2⟩))))
    fun x a' w' ⟨⟨hx, σ', h1, h2⟩, hk⟩ => by rw [hx]; exact hQ _ _ _ h1 h2 (hk hx)
end
end Go.Av
namespace Go.Av
open Go
/-- Code c in one frame, begun in σ, ends as Φ says. -/
def KCode (P : Program) (N : Nat) (gv : Nat → Value) (e : Ctx) (c : Code) (σ : Sig) (Φ : Exit → Sig → Prop) : Prop :=
  ∀ (a : Act) (w : World), All N gv e σ a w → ∀ Q : Exit → Act → World → Prop, (∀ x a' w' σ', Φ x σ' → All N gv e σ' a' w' → Q x a' w') → SWp P c Q a w
def KRun (P : Program) (N : Nat) (gv : Nat → Value) (e : Ctx) (ops : Array Oper) (l : List Oper) (σ : Sig) (K : Sig → Prop) : Prop :=
  ∀ (a : Act) (w : World), All N gv e σ a w → ∀ Q : Exit → Act → World → Prop, (∀ a' w' σ', K σ' → All N gv e σ' a' w' → Q .normal a' w') → wpList P ops Q l a w
section
variable {P : Program} {N : Nat} {gv : Nat → Value} {e : Ctx} {σ σ' : Sig} {Φ : Exit → Sig → Prop} {c c' : Code} {ops : Array Oper} {rest : List Oper} {o : Oper} {K : Sig → Prop}
theorem k_of (h : ACode P N c σ Φ) : KCode P N gv e c σ Φ := fun a w ha Q hQ => h gv e a w ha Q hQ
theorem k_pre (h : Ent σ σ') (hc : KCode P N gv e c σ' Φ) : KCode P N gv e c σ Φ := fun a w ha Q hQ => hc a w (h.all ha) Q hQ
theorem k_seq (h : KCode P N gv e c σ (fun x s => match x with | .normal => KCode P N gv e c' s Φ | x => Φ x s)) : KCode P N gv e (.seq c c') σ Φ := fun a w ha Q hQ =>
  sw_seq (h a w ha _ fun x a' w' s hx ha' => by
    cases x <;> simp only [Exit.then] <;> first | exact hx a' w' ha' Q hQ | exact hQ _ _ _ _ hx ha')
theorem k_skip (h : Φ .normal σ) : KCode P N gv e .skip σ Φ := k_of (a_skip h)
theorem k_ret (h : Φ .ret σ) : KCode P N gv e .ret σ Φ := k_of (a_ret h)
theorem k_exit {id : Nat} (h : Φ (.exit id) σ) : KCode P N gv e (.exit id) σ Φ := k_of (a_exit h)
theorem k_cond {t : Nat} {b : Bool} (hb : rd N σ (.tmp t) = .bool b) (h1 : b = true → KCode P N gv e c σ Φ) (h2 : b = false → KCode P N gv e c' σ Φ) : KCode P N gv e (.cond (.tmp t) c c') σ Φ := fun a w ha Q hQ => by
  obtain ⟨hdf, hsz, β, F, hi⟩ := ha
  have hr := rd_rep hi (.tmp t) (0, [])
  rw [hb] at hr
  simp only [Rep] at hr
  exact sw_cond_split hr (fun h => h1 h a w ⟨hdf, hsz, β, F, hi⟩ Q hQ) (fun h => h2 h a w ⟨hdf, hsz, β, F, hi⟩ Q hQ)
theorem k_block {id : Nat} (h : KCode P N gv e c σ (fun x s => match x with | .exit i => if i = id then Φ .normal s else Φ (.exit i) s | x => Φ x s)) : KCode P N gv e (.block id c) σ Φ := fun a w ha Q hQ =>
  sw_block (h a w ha _ fun x a' w' s hx ha' => by
    cases x <;> simp only [Exit.inBlock] <;> try exact hQ _ _ _ _ hx ha'
    dsimp only at hx
    split
    · rename_i h; rw [if_pos h] at hx; exact hQ _ _ _ _ hx ha'
    · rename_i h; rw [if_neg h] at hx; exact hQ _ _ _ _ hx ha')
theorem k_loop {X : Type} (lift : X → Sig) (G : X → Prop) (μ : X → Nat) (x0 : X) (h0 : Ent σ (lift x0)) (hG : G x0)
    (round : ∀ x, G x → KCode P N gv e c (lift x) (fun ex s => match ex with | .normal => ∃ x', Ent s (lift x') ∧ G x' ∧ μ x' < μ x | ex => Φ ex s)) : KCode P N gv e (.loop c) σ Φ := fun a w ha Q hQ => by
  obtain ⟨leastOf, leastOf_spec⟩ := least_fun
  let J : Act → World → Nat → Prop := fun a w n => ∃ x, G x ∧ μ x = n ∧ All N gv e (lift x) a w
  refine sw_loop (fun a w => ∃ n, J a w n) (fun a w => leastOf (J a w)) ⟨_, x0, hG, rfl, h0.all ha⟩ fun a w hJ => ?_
  obtain ⟨x, hx, hn, hax⟩ := (leastOf_spec _ hJ).1
  refine round x hx a w hax _ fun ex a' w' s hex' ha' => ?_
  cases ex <;> simp only [Exit.then] <;> try exact hQ _ _ _ _ hex' ha'
  obtain ⟨x', hent, hG', hlt⟩ := hex'
  have hJ' : J a' w' (μ x') := ⟨x', hG', rfl, hent.all ha'⟩
  have := (leastOf_spec _ ⟨_, hJ'⟩).2 _ hJ'
  exact ⟨⟨_, hJ'⟩, by omega⟩
theorem kr_of {l : List Oper} (h : ARun P N ops l σ K) : KRun P N gv e ops l σ K := fun a w ha Q hQ => h gv e a w ha Q hQ
theorem kr_nil (h : K σ) : KRun P N gv e ops [] σ K := kr_of (r_nil h)
theorem kr_pre {l : List Oper} (h : Ent σ σ') (hc : KRun P N gv e ops l σ' K) : KRun P N gv e ops l σ K := fun a w ha Q hQ => hc a w (h.all ha) Q hQ
/-- A region that draws, with a tail, at one frame. -/
theorem k_region_z {id n : Nat} {full : List Oper} (efs : EffsX) (hm : P.follows .mixedOrders = true) (hB : (backward full 0 && tailOk full n && decide (n ≤ full.length) && effOkX (full.take n) efs && decide (efs.length = n)) = true)
    (h : AQz P N full.toArray (full.take n) efs (full.take n) 0 (fun i => purgeD (allPurs efs) (σ i)) (fun s => KRun P N gv e full.toArray (full.drop n) s (fun s => Φ .normal s))) (hnd : noDefer full = true := by kernel_rfl) : KCode P N gv e (.region id full.toArray true) σ Φ := fun a w ha Q0 hQ0 => by
  refine sw_region_any (K := fun s => Φ .normal s) hm hnd (fun x a' w' σ' hx hΦ ha' => by rw [hx]; exact hQ0 _ _ _ _ hΦ ha') fun Q hQ => ?_
  simp only [Bool.and_eq_true, decide_eq_true_eq] at hB
  obtain ⟨⟨⟨⟨hB1, hB2⟩, hB3⟩, hB4⟩, hB5⟩ := hB
  generalize hl : full.take n = l at *
  generalize hl2 : full.drop n = l2 at *
  have hf : full = l ++ l2 := by rw [← hl, ← hl2, List.take_append_drop]
  have hn : n = l.length := by rw [← hl]; simp; omega
  subst hf hn
  obtain ⟨st, hl, hst, hK⟩ := AQz.steps l 0 _ h
  have ha' := (ent_purgeD (allPurs efs) σ).all ha
  obtain ⟨hdf, hsz, β, F, hi⟩ := ha'
  refine any_coreZ (P := P) (Q := Q) hB1 hB2 hB4 hl (fun i q hq k hk he => ?_) (fun k o ho => by
    obtain ⟨us, D, h1, h2, h3, h4⟩ := hst k o ho
    exact ⟨us, D, h1, by simpa using h2, by simpa using h3, by simpa using h4⟩) (fun a w ha => hK a w ha Q fun a' w' σ' hΦ ha' => hQ () _ _ _ hΦ ha') (l ++ l2).toArray.size (Array.replicate (l ++ l2).toArray.size false) a { w with drawn := w.drawn + 1 } (by simp) ?_ ?_ ?_ ?_
  · simp only [purgeD_eq] at hq
    split at hq
    · simp [refs] at hq
    · rename_i hany
      simp only [List.any_eq_true, not_exists, not_and] at hany
      refine hany q hq ?_
      rw [List.contains_iff_mem]
      unfold allPurs
      unfold pursX effX at he
      rw [List.getD_eq_getElem?_getD, List.getElem?_eq_getElem (by omega), Option.getD_some] at he
      exact List.mem_flatMap.2 ⟨_, List.getElem_mem _, he⟩
  · simp [List.count_replicate]
  · intro i o ho hi
    rcases Nat.lt_or_ge i (l ++ l2).length with h | h
    · simp at h; simp [h] at hi
    · simp at h; simp [h] at hi
  · intro k _
    rcases Nat.lt_or_ge k (l ++ l2).length with h | h
    · simp at h; simp [h]
    · simp at h; simp [h]
  · rw [mixX_none _ _ _ (fun k => by
      rcases Nat.lt_or_ge k (l ++ l2).length with h | h
      · simp at h; simp [h]
      · simp at h; simp [h])]
    exact ⟨hdf, hsz, β, F, hi.same rfl rfl rfl⟩
end
end Go.Av
namespace Go.Av
open Go
/-- The contract of a function that is reached through a variable which came in: the first roots stand at known pointers. -/
def CloCall (P : Program) (f : FuncId) (V : List Value) (args objs : List AV) (res : AV) (objs2 : List AV) : Prop :=
  ∀ (e : Ctx) (vs : List Value) (val : Nat → Value) (w : World) (β : Place → Option (Nat × Nat)) (F : Nat → Prop), vs.length = args.length → (∀ i, i < vs.length → val i = vs.getD i undef) →
    (∀ j, j < V.length → val (INH + j) = V.getD j undef) → Inv e (argSig args objs) val w β F →
    Calls P f vs.toArray w fun en w' => ∃ v β' F', en = .returned v ∧ Inv e (argSig [res] objs2) (upd val 0 v) w' β' F'
section
variable {P : Program} {N : Nat} {c : Code} {V : List Value}
theorem CloCall.intro {f : FuncId} {fn : Func} {args objs objs2 : List AV} {res : AV} (hf : P.funcs[f]? = some fn) (hb : fn.body = some c) (hN : fn.ntmps = N) (hNI : N < INH) (ha : args.length ≤ N)
    (h : ∀ gv e, (∀ j, j < V.length → gv (INH + j) = V.getD j undef) → KCode P N gv e c (argSig args objs) (fun x s => match x with | .normal => Returns P fn N s res objs2 | .ret => Returns P fn N s res objs2 | _ => False)) : CloCall P f V args objs res objs2 := by
  intro e vs val w β F hl hval hV hi
  refine calls_of_wp hf hb ?_
  have hsz : (vs.toArray ++ Array.replicate (fn.ntmps - vs.toArray.size) undef).size = N := by simp [hN]; omega
  refine SWp.wp (h (fun i => val i) { e with ds := [] } hV _ w ⟨rfl, hsz, β, F, ?_⟩ _ fun x a' w' s hx ha' => ?_)
  · refine ⟨fun i => ?_, hi.disj, hi.sep, hi.fr, hi.kept, hi.grow, hi.tame⟩
    by_cases hlt : i < vs.length
    · have := hi.rep i
      rw [hval i hlt] at this
      have e1 : valOf N (fun i => val i) { tmps := vs.toArray ++ Array.replicate (fn.ntmps - vs.toArray.size) undef, defers := [] } i = vs.getD i undef := by
        have : i < N := by omega
        simp only [valOf, this, if_true]
        rw [Array.getD_eq_getD_getElem?, Array.getElem?_append_left (by simpa using hlt)]
        simp
      rw [e1]; exact this
    · by_cases hN' : i < N
      · have : argSig args objs i = .undef := by
          have h1 : i < INH := by omega
          have h2 : args[i]? = none := List.getElem?_eq_none (by omega)
          simp [argSig, h1, h2]
        rw [this]; simp [Rep]
      · have := hi.rep i
        simpa [valOf, hN'] using this
  · cases x <;> simp only at hx
    all_goals
      obtain ⟨v, hr, β', F', hi'⟩ := hx _ _ a' w' ha'
      exact ⟨ha'.defers, v, hr, v, β', F', rfl, ⟨hi'.rep, hi'.disj, hi'.sep, hi'.fr, hi'.kept, hi'.grow, hi'.tame⟩⟩
end
/-- Slot i is one of the m roots that a call is handed. -/
def idxOf (ρ : Nat → Nat) (m i : Nat) : Option Nat := (List.range m).find? fun j => ρ j == i
theorem idx_some {ρ : Nat → Nat} {m i j : Nat} (h : idxOf ρ m i = some j) : j < m ∧ ρ j = i := by
  unfold idxOf at h
  exact ⟨List.mem_range.1 (List.mem_of_find?_eq_some h), by simpa using List.find?_some h⟩
theorem idx_none {ρ : Nat → Nat} {m i j : Nat} (h : idxOf ρ m i = none) (hj : j < m) : ρ j ≠ i := by
  unfold idxOf at h
  rw [List.find?_eq_none] at h
  simpa using h j (List.mem_range.2 hj)
theorem idx_of {ρ : Nat → Nat} {m j : Nat} (hinj : ∀ i j, i < m → j < m → ρ i = ρ j → i = j) (hj : j < m) : idxOf ρ m (ρ j) = some j := by
  cases h : idxOf ρ m (ρ j) with
  | none => exact absurd rfl (idx_none h hj)
  | some k => obtain ⟨h1, h2⟩ := idx_some h; rw [hinj k j h1 hj h2]
/-- How the roots that are handed over are seen by the callee. -/
def handB (ρ : Nat → Nat) (m : Nat) (β : Place → Option (Nat × Nat)) : Place → Option (Nat × Nat) := fun p => if INH ≤ p.1 ∧ p.1 < INH + m then β (ρ (p.1 - INH), p.2) else none
/-- What refers to a root that is handed over, and may stay. -/
def stayK (ρ : Nat → Nat) (objs objs2 : List AV) (x : AV) : Prop :=
  (∀ q ∈ refs x, ∀ j, j < objs.length → ρ j ≠ q.1) ∨ (∃ j off cs cs', x = .rp (ρ j, []) off ∧ objs[j]? = some (.op cs) ∧ objs2[j]? = some (.op cs')) ∨
  (∃ j sz n cs cs' k k' cap cap', x = .rsl (ρ j, []) sz 0 n none ∧ objs[j]? = some (.osl sz cs k cap) ∧ cs ≠ [] ∧ objs2[j]? = some (.osl sz cs' k' cap') ∧ cs' ≠ [])
section
variable {P : Program} {e : Ctx} {σ τ : Sig} {val : Nat → Value} {w : World} {β : Place → Option (Nat × Nat)} {F : Nat → Prop} {V : List Value}
theorem clo_core {f : FuncId} {args objs objs2 : List AV} {ρ : Nat → Nat} {m d : Nat} {vs : List Value} (hc : CloCall P f V args objs (.tup []) objs2) (hm : objs.length = m) (hm2 : objs2.length = m)
    (h : Inv e σ val w β F) (hρ : ∀ j, j < m → σ (ρ j) = (objs[j]?).getD .undef) (hinj : ∀ i j, i < m → j < m → ρ i = ρ j → i = j)
    (hr0 : ∀ j, j < m → refs ((objs[j]?).getD .undef) = []) (hr1 : ∀ j, j < m → refs ((objs2[j]?).getD .undef) = []) (hn1 : ∀ j, j < m → noSh ((objs2[j]?).getD .undef) = true)
    (hV : ∀ j, j < V.length → val (ρ j) = V.getD j undef) (hVm : V.length ≤ m)
    (hl : vs.length = args.length) (hlen : args.length < INH) (ha : ∀ i c, args[i]? = some c → NoOwn c ∧ ∃ u, vs[i]? = some u ∧ Rep (handB ρ m β) F w c (i, []) u)
    (hd : ∀ j, j < m → ρ j ≠ d)
    (hτρ : ∀ j, j < m → τ (ρ j) = (objs2[j]?).getD .undef) (hτd : τ d = .undef) (hτ : ∀ i, idxOf ρ m i = none → i ≠ d → τ i = .undef ∨ (τ i = σ i ∧ stayK ρ objs objs2 (σ i))) :
    Calls P f vs.toArray w fun en w' => ∃ v β', en = .returned v ∧ Inv e τ (upd val d v) w' β' F := by
  let inh : Nat → Prop := fun b => ∃ j r s, j < m ∧ OwnAt σ (ρ j, r) ∧ β (ρ j, r) = some (b, s)
  let valc : Nat → Value := fun i => if INH ≤ i ∧ i < INH + m then val (ρ (i - INH)) else vs.getD i undef
  have inh_not : ∀ {b}, inh b → ¬ F b ∧ (e.w0.heap.size ≤ b ∨ e.inh b) := fun {b} ⟨j, r, s, hj, ho, hb⟩ => h.sep _ b s ho hb
  have objc : ∀ {objs : List AV} {args : List AV} {j : Nat}, argSig args objs (INH + j) = (objs[j]?).getD .undef := fun {objs args j} => argSig_obj args objs j
  have own0 : ∀ {p}, OwnAt (argSig args objs) p → ∃ j, j < m ∧ p.1 = INH + j ∧ OwnAt σ (ρ j, p.2) := by
    rintro ⟨i, r⟩ ⟨y, hy, ho⟩
    dsimp only at hy ⊢
    by_cases hi : i < INH
    · unfold argSig at hy
      rw [if_pos hi] at hy
      cases hx : args[i]? with
      | none => rw [hx] at hy; exact (undef_node hy ho).elim
      | some c => rw [hx] at hy; rw [(ha i c hx).1 r y hy] at ho; cases ho
    · obtain ⟨j, rfl⟩ : ∃ j, i = INH + j := ⟨i - INH, by omega⟩
      rw [objc] at hy
      by_cases hj : j < m
      · exact ⟨j, hj, rfl, y, by rw [hρ j hj]; exact hy, ho⟩
      · rw [List.getElem?_eq_none (by omega)] at hy; exact (undef_node hy ho).elim
  have hb0 : ∀ {j r}, j < m → handB ρ m β (INH + j, r) = β (ρ j, r) := fun {j r} hj => by simp [handB, hj]
  have hinv : Inv ⟨w, inh, F, []⟩ (argSig args objs) valc w (handB ρ m β) F := by
    refine ⟨fun i => ?_, fun p p' b s s' hp hp' hb hb' => ?_, fun p b s hp hb => ?_, fun b hb => ⟨(h.fr b hb).1, fun _ => hb⟩, fun _ _ _ => rfl, Nat.le_refl _, Tame.refl' w (fun b arr t fz ⟨j, r, s, hj, ⟨y, hy, ho⟩, hb⟩ hh => own_fz (h.rep (ρ j)) hy ho (by simpa using hb) hh)⟩
    · by_cases hi : i < INH
      · have hv : valc i = vs.getD i undef := by simp only [valc]; rw [if_neg (by omega)]
        rw [hv]
        unfold argSig
        rw [if_pos hi]
        cases hx : args[i]? with
        | none => simp [Rep]
        | some c =>
          obtain ⟨_, u, hu, hr⟩ := ha i c hx
          rw [List.getD_eq_getElem?_getD, hu]
          exact hr
      · obtain ⟨j, rfl⟩ : ∃ j, i = INH + j := ⟨i - INH, by omega⟩
        rw [objc]
        by_cases hj : j < m
        · have hv : valc (INH + j) = val (ρ j) := by simp [valc, hj]
          have h9 := h.rep (ρ j)
          rw [hv]
          rw [hρ j hj] at h9
          exact h9.tr _ (fun b hb => ⟨hb, rfl⟩) (fun r y _ _ => ⟨by simpa using hb0 hj, fun _ _ _ => rfl⟩) (fun p hp => by rw [hr0 j hj] at hp; cases hp)
        · rw [List.getElem?_eq_none (by omega)]; simp [Rep]
    · obtain ⟨j, hj, h1, ho⟩ := own0 hp
      obtain ⟨j', hj', h1', ho'⟩ := own0 hp'
      obtain ⟨i, r⟩ := p; obtain ⟨i', r'⟩ := p'
      dsimp only at h1 h1' ho ho'
      subst h1 h1'
      rw [hb0 hj] at hb; rw [hb0 hj'] at hb'
      have := h.disj _ _ b s s' ho ho' hb hb'
      simp only [Prod.mk.injEq] at this
      rw [hinj j j' hj hj' this.1, this.2]
    · obtain ⟨j, hj, h1, ho⟩ := own0 hp
      obtain ⟨i, r⟩ := p
      dsimp only at h1 ho
      subst h1
      rw [hb0 hj] at hb
      exact ⟨(h.sep _ b s ho hb).1, .inr ⟨j, r, s, hj, ho, hb⟩⟩
  have hvc : ∀ j, j < m → valc (INH + j) = val (ρ j) := fun j hj => by simp [valc, hj]
  refine (hc _ vs valc w _ _ hl (fun i hi => by simp only [valc]; rw [if_neg (by omega)]) (fun j hj => by rw [hvc j (by omega)]; exact hV j hj) hinv).mono fun en w' ⟨v, β', F', he, hi⟩ => ⟨v, ?_⟩
  have hkept : ∀ b, b < w.heap.size → ¬ inh b → w'.heap[b]? = w.heap[b]? := fun b hb hnb => hi.kept b hb hnb
  have hgrow : w.heap.size ≤ w'.heap.size := hi.grow
  let βn : Place → Option (Nat × Nat) := fun p => match idxOf ρ m p.1 with | some j => β' (INH + j, p.2) | none => β p
  have bn : ∀ {j r}, j < m → βn (ρ j, r) = β' (INH + j, r) := fun {j r} hj => by simp only [βn, idx_of hinj hj]
  have bo : ∀ {p}, idxOf ρ m p.1 = none → βn p = β p := fun {p} hp => by simp only [βn, hp]
  have h0 : (INH : Nat) ≠ 0 := by decide
  have repj : ∀ j, j < m → Rep β' F' w' ((objs2[j]?).getD .undef) (INH + j, []) (val (ρ j)) := fun j hj => by
    have := hi.rep (INH + j)
    rw [objc, upd_other _ _ (by omega), hvc j hj] at this
    exact this
  -- owned places afterwards: a root that was handed over, or one that was there
  have own1 : ∀ {p}, OwnAt τ p → (∃ j, j < m ∧ p.1 = ρ j ∧ OwnAt (argSig [.tup []] objs2) (INH + j, p.2)) ∨ (idxOf ρ m p.1 = none ∧ OwnAt σ p) := by
    rintro ⟨i, r⟩ ⟨y, hy, ho⟩
    dsimp only at hy ⊢
    cases hx : idxOf ρ m i with
    | some j =>
      obtain ⟨hj, rfl⟩ := idx_some hx
      rw [hτρ j hj] at hy
      exact .inl ⟨j, hj, rfl, y, by dsimp only; rw [objc]; exact hy, ho⟩
    | none =>
      by_cases hid : i = d
      · subst hid; rw [hτd] at hy; exact (undef_node hy ho).elim
      · rcases hτ i hx hid with h1 | ⟨h1, _⟩
        · rw [h1] at hy; exact (undef_node hy ho).elim
        · exact .inr ⟨rfl, y, by dsimp only; rw [← h1]; exact hy, ho⟩
  have oldnot : ∀ {p b s}, idxOf ρ m p.1 = none → OwnAt σ p → β p = some (b, s) → ¬ inh b := fun {p b s} hx hp hb ⟨j, r, s', hj, ho, hb'⟩ => by
    have := h.disj p (ρ j, r) b s s' hp ho hb hb'
    subst this
    exact idx_none hx hj rfl
  refine ⟨βn, he, fun i => ?_, fun p p' b s s' hp hp' hb hb' => ?_, fun p b s hp hb => ?_, fun b hb => ⟨Nat.lt_of_lt_of_le (h.fr b hb).1 hgrow, (h.fr b hb).2⟩, fun b hb hni => ?_, Nat.le_trans h.grow hgrow, h.tame.trans' hi.tame hkept⟩
  · cases hx : idxOf ρ m i with
    | some j =>
      obtain ⟨hj, rfl⟩ := idx_some hx
      rw [hτρ j hj, upd_other _ _ (hd j hj)]
      exact ((repj j hj).noSh (G := F) _ (hn1 j hj)).tr _ (fun b hb => ⟨hb, rfl⟩) (fun r y _ _ => ⟨by simpa using bn hj, fun _ _ _ => rfl⟩) (fun p hp => by rw [hr1 j hj] at hp; cases hp)
    | none =>
      by_cases hid : i = d
      · subst hid; rw [hτd]; simp [Rep]
      · rw [upd_other _ _ hid]
        rcases hτ i hx hid with h1 | ⟨h1, h2⟩
        · rw [h1]; simp [Rep]
        · rw [h1]
          have hri := h.rep i
          rcases h2 with h2 | ⟨j, off, cs, cs', h2, h3, h4⟩ | ⟨j, sz, n, cs, cs', k, k', cap, cap', h2, h3, h5, h4, h6⟩
          · exact hri.tr _ (fun b hb => ⟨hb, hkept b (h.fr b hb).1 (fun hin => (inh_not hin).1 hb)⟩) (fun r y hy ho => ⟨bo (by simpa using hx), fun b s hb => by
              have hoi : OwnAt σ (i, r) := ⟨y, hy, ho⟩
              exact hkept b (h.own_lt hoi (by simpa using hb)) (oldnot (p := (i, r)) hx hoi (by simpa using hb))⟩) (fun q hq => bo (by
              cases hxq : idxOf ρ m q.1 with
              | none => rfl
              | some j => obtain ⟨g1, g2⟩ := idx_some hxq; exact absurd g2 (h2 q hq j (by omega))))
          · have hj : j < m := by
              rw [← hm]
              rcases Nat.lt_or_ge j objs.length with hlt | hge
              · exact hlt
              · rw [List.getElem?_eq_none hge] at h3; cases h3
            rw [h2] at hri ⊢
            simp only [Rep] at hri ⊢
            obtain ⟨b, s, hb, hv⟩ := hri
            have e1 := h.rep (ρ j)
            rw [hρ j hj, h3, Option.getD_some] at e1
            have e2 := repj j hj
            rw [h4, Option.getD_some] at e2
            simp only [Rep] at e1 e2
            obtain ⟨_, b1, arr1, t1, g1, g2, _⟩ := e1
            obtain ⟨_, b2, arr2, t2, k1, k2, _⟩ := e2
            rw [g1] at hb; cases hb
            rw [g2] at k2; cases k2
            exact ⟨_, _, (bn hj).trans k1, hv⟩
          · have hj : j < m := by
              rw [← hm]
              rcases Nat.lt_or_ge j objs.length with hlt | hge
              · exact hlt
              · rw [List.getElem?_eq_none hge] at h3; cases h3
            rw [h2] at hri ⊢
            simp only [Rep] at hri ⊢
            have e1 := h.rep (ρ j)
            rw [hρ j hj, h3, Option.getD_some] at e1
            have e2 := repj j hj
            rw [h4, Option.getD_some] at e2
            simp only [Rep] at e1 e2
            rcases e1 with ⟨_, _, e1, _⟩ | ⟨_, b1, c1, arr1, t1, g1, g2, _⟩
            · exact absurd e1 h5
            rcases e2 with ⟨_, _, e2, _⟩ | ⟨_, b2, c2, arr2, t2, k1, k2, _⟩
            · exact absurd e2 h6
            rw [g2] at k2; cases k2
            rcases hri with ⟨hb, _⟩ | ⟨b, capv, hb, hv, hn, _⟩
            · rw [g1] at hb; cases hb
            · rw [g1] at hb
              simp only [Option.some.injEq, Prod.mk.injEq] at hb
              obtain ⟨rfl, hb⟩ := hb
              refine .inr ⟨_, capv, (bn hj).trans (k1.trans ?_), hv, hn, fun c hc => by cases hc⟩
              rw [hb]
  · rcases own1 hp with ⟨j, hj, h1, ho⟩ | ⟨hx, ho⟩ <;> rcases own1 hp' with ⟨j', hj', h1', ho'⟩ | ⟨hx', ho'⟩
    · obtain ⟨i, r⟩ := p; obtain ⟨i', r'⟩ := p'
      dsimp only at h1 h1' ho ho'
      subst h1 h1'
      rw [bn hj] at hb; rw [bn hj'] at hb'
      have := hi.disj _ _ b s s' ho ho' hb hb'
      simp only [Prod.mk.injEq] at this
      obtain ⟨h1, h2⟩ := this
      have : j = j' := by omega
      rw [this, h2]
    · obtain ⟨i, r⟩ := p
      dsimp only at h1 ho
      subst h1
      rw [bn hj] at hb; rw [bo hx'] at hb'
      rcases (hi.sep _ b s ho hb).2 with hge | hin
      · have h9 : w.heap.size ≤ b := hge
        have := h.own_lt ho' hb'; omega
      · exact (oldnot hx' ho' hb' hin).elim
    · obtain ⟨i', r'⟩ := p'
      dsimp only at h1' ho'
      subst h1'
      rw [bn hj'] at hb'; rw [bo hx] at hb
      rcases (hi.sep _ b s' ho' hb').2 with hge | hin
      · have h9 : w.heap.size ≤ b := hge
        have := h.own_lt ho hb; omega
      · exact (oldnot hx ho hb hin).elim
    · rw [bo hx] at hb; rw [bo hx'] at hb'
      exact h.disj p p' b s s' ho ho' hb hb'
  · rcases own1 hp with ⟨j, hj, h1, ho⟩ | ⟨hx, ho⟩
    · obtain ⟨i, r⟩ := p
      dsimp only at h1 ho
      subst h1
      rw [bn hj] at hb
      rcases (hi.sep _ b s ho hb).2 with hge | hin
      · have h9 : w.heap.size ≤ b := hge
        exact ⟨fun hF => by have := (h.fr b hF).1; omega, .inl (Nat.le_trans h.grow h9)⟩
      · exact inh_not hin
    · rw [bo hx] at hb
      exact h.sep p b s ho hb
  · refine (hkept b (Nat.lt_of_lt_of_le hb h.grow) fun hin => ?_).trans (h.kept b hb hni)
    rcases (inh_not hin).2 with h1 | h1
    · omega
    · exact hni h1
end
end Go.Av

namespace Go.Av
open Go
/-- The state behind such a call: the roots that were handed over, and what is listed. -/
def tauL (ρ : Nat → Nat) (m : Nat) (objs2 : List AV) (L : List (Nat × AV)) : Sig := fun i => match idxOf ρ m i with
  | some j => (objs2[j]?).getD .undef
  | none => look L i
def KeepL (σ : Sig) (ρ : Nat → Nat) (m d : Nat) (objs objs2 : List AV) : List (Nat × AV) → Prop
  | [] => True
  | (i, x) :: L => (σ i = x ∧ stayK ρ objs objs2 x ∧ i ≠ d) ∧ KeepL σ ρ m d objs objs2 L
theorem KeepL.look {σ : Sig} {ρ : Nat → Nat} {m d : Nat} {objs objs2 : List AV} : ∀ {L : List (Nat × AV)}, KeepL σ ρ m d objs objs2 L → ∀ i, Go.Av.look L i = .undef ∨ (Go.Av.look L i = σ i ∧ stayK ρ objs objs2 (σ i) ∧ i ≠ d)
  | [], _, i => .inl rfl
  | (k, x) :: L, ⟨⟨h1, h2, h3⟩, h⟩, i => by
    simp only [Go.Av.look]
    by_cases hi : i = k
    · subst hi; rw [upd_same]; subst h1; exact .inr ⟨rfl, h2, h3⟩
    · rw [upd_other _ _ hi]; exact KeepL.look h i
/-- An argument is seen by the callee as c. -/
def seenAs (ρ : Nat → Nat) (m : Nat) (x c : AV) : Prop := NoOwn c ∧ ∀ (β : Place → Option (Nat × Nat)) (F : Nat → Prop) (w : World) (u : Value) (p p' : Place), Rep β F w x p u → Rep (handB ρ m β) F w c p' u
theorem seen_int {ρ : Nat → Nat} {m : Nat} {k : IntKind} {n : Int} : seenAs ρ m (.int k n) (.int k n) := ⟨noOwn_scalar rfl, fun β F w u p p' h => by simpa [Rep] using h⟩
theorem seen_nils {ρ : Nat → Nat} {m : Nat} : seenAs ρ m .nils .nils := ⟨noOwn_scalar rfl, fun β F w u p p' h => by simpa [Rep] using h⟩
theorem seen_rsl {ρ : Nat → Nat} {m j sz n : Nat} {cap : Option Nat} (hj : j < m) : seenAs ρ m (.rsl (ρ j, []) sz 0 n cap) (.rsl (INH + j, []) sz 0 n none) := ⟨noOwn_scalar rfl, fun β F w u p p' h => by
  have e1 : handB ρ m β (INH + j, []) = β (ρ j, []) := by simp [handB, hj]
  simp only [Rep, e1] at h ⊢
  rcases h with ⟨h1, h2, h3, _⟩ | ⟨b, capv, h1, h2, h3, _⟩
  · exact .inl ⟨h1, h2, h3, fun c hc => by cases hc⟩
  · exact .inr ⟨b, capv, h1, h2, h3, fun c hc => by cases hc⟩⟩
def SeenL (ρ : Nat → Nat) (m : Nat) : List AV → List AV → Prop
  | [], [] => True
  | x :: xs, c :: cs => seenAs ρ m x c ∧ SeenL ρ m xs cs
  | _, _ => False
theorem SeenL.get {ρ : Nat → Nat} {m : Nat} : ∀ {xs cs : List AV}, SeenL ρ m xs cs → ∀ (i : Nat) (c : AV), cs[i]? = some c → ∃ x, xs[i]? = some x ∧ seenAs ρ m x c
  | [], [], _, i, c, h => by simp at h
  | x :: xs, d :: cs, hs, 0, c, h => by simp at h; subst h; exact ⟨x, rfl, hs.1⟩
  | x :: xs, d :: cs, hs, i + 1, c, h => by
    obtain ⟨y, h1, h2⟩ := SeenL.get hs.2 i c (by simpa using h)
    exact ⟨y, by simpa using h1, h2⟩
  | [], _ :: _, hs, _, _, _ => hs.elim
  | _ :: _, [], hs, _, _, _ => hs.elim
theorem SeenL.len {ρ : Nat → Nat} {m : Nat} : ∀ {xs cs : List AV}, SeenL ρ m xs cs → xs.length = cs.length
  | [], [], _ => rfl
  | _ :: _, _ :: _, h => by simp [SeenL.len h.2]
  | [], _ :: _, h => h.elim
  | _ :: _, [], h => h.elim
/-- The captured variables as the callee gets them. -/
def capsK (k : Nat) : List AV := (List.range k).map fun j => .rp (INH + j, []) 0
section
variable {P : Program} {N : Nat} {gv : Nat → Value} {e : Ctx} {σ : Sig} {o : Oper} {a : Act} {w : World} {V : List Value}
theorem wp_clo {f : FuncId} {t d m : Nat} {xs : List Operand} {tys : Array TypeId} {ρ : Nat → Nat} {xvs xargs objs objs2 : List AV} {Lk : List (Nat × AV)} (ho : o.op = cloCall (.tmp t) xs tys) (hf : hasBody P f = true) (hd : o.dst = some d) (hN : d < N) (ht : t < N)
    (hσ : σ t = .that f V) (hx : RdL N true σ xs xvs) (hs : SeenL ρ m xvs xargs) (hc : CloCall P f V (xargs ++ capsK V.length) objs (.tup []) objs2) (hm : objs.length = m) (hm2 : objs2.length = m)
    (hρ : ∀ j, j < m → σ (ρ j) = (objs[j]?).getD .undef) (hinj : ∀ i j, i < m → j < m → ρ i = ρ j → i = j) (hop : ∀ j, j < V.length → ∃ cs, objs[j]? = some (.op cs))
    (hr0 : ∀ j, j < m → refs ((objs[j]?).getD .undef) = []) (hr1 : ∀ j, j < m → refs ((objs2[j]?).getD .undef) = []) (hn1 : ∀ j, j < m → noSh ((objs2[j]?).getD .undef) = true) (hVm : V.length ≤ m) (hdρ : ∀ j, j < m → ρ j ≠ d) (hlen : xargs.length + V.length < INH)
    (hk : KeepL σ ρ m d objs objs2 Lk) (hLd : look Lk d = .undef)
    (ha : All N gv e σ a w) (hV : ∀ j, j < V.length → valOf N gv a (ρ j) = V.getD j undef) {K : Act → World → Prop} {Q : Exit → Act → World → Prop} (hK : ∀ v w', All N gv e (tauL ρ m objs2 Lk) (a.put o.dst v) w' → K (a.put o.dst v) w') : o.wp P a w K Q := by
  obtain ⟨hdf, hsz, β, F, hi⟩ := ha
  obtain ⟨hrep, hlx, hno⟩ := RdL.rep rfl hi (0, []) (j := 0) hx (fun _ _ => rfl)
  have hv : a.eval (.tmp t) = .func (.func f) #[] V.toArray := by
    have := hi.rep t
    rw [hσ] at this
    simpa [Rep, valOf, ht, Act.eval] using this
  have hrun : (execOp a.eval o).run P w = .ok (.enter f (xs.map a.eval ++ V).toArray) w := by
    simp [execOp, ho, cloCall, resolve, Deferred.ofValue, hv, invoke, run_callFunc_body hf]
  have hxl : (xs.map a.eval).length = xargs.length := by rw [hlx, hs.len]
  have hcl : (capsK V.length).length = V.length := by simp [capsK]
  have hfree : ∀ i, idxOf ρ m i = none → i ≠ d → tauL ρ m objs2 Lk i = .undef ∨ (tauL ρ m objs2 Lk i = σ i ∧ stayK ρ objs objs2 (σ i)) := fun i hi hid => by
    have e1 : tauL ρ m objs2 Lk i = look Lk i := by simp only [tauL, hi]
    rw [e1]
    rcases hk.look i with h | ⟨h1, h2, _⟩
    · exact .inl h
    · exact .inr ⟨h1, h2⟩
  have hid : idxOf ρ m d = none := by
    cases h : idxOf ρ m d with
    | none => rfl
    | some j => obtain ⟨h1, h2⟩ := idx_some h; exact absurd h2 (hdρ j h1)
  refine upon_enter' hrun ((clo_core (τ := tauL ρ m objs2 Lk) (d := d) hc hm hm2 hi hρ hinj hr0 hr1 hn1 hV hVm (by simp only [List.length_append, hcl]; omega) (by simp only [List.length_append, hcl]; omega) (fun i c hic => ?_) hdρ (fun j hj => by simp only [tauL, idx_of hinj hj]) (by simp only [tauL, hid]; exact hLd) hfree).mono fun en w' ⟨v, β', he, hi'⟩ => ⟨v, he, hK v w' ⟨?_, ?_, β', F, ?_⟩⟩)
  · by_cases hlt : i < xargs.length
    · rw [List.getElem?_append_left hlt] at hic
      obtain ⟨x, h1, h2⟩ := hs.get i c hic
      obtain ⟨u, hu, hru⟩ := RepL_iff.1 hrep i x h1
      exact ⟨h2.1, u, by rw [List.getElem?_append_left (by omega)]; exact hu, h2.2 _ _ _ _ _ _ hru⟩
    · rw [List.getElem?_append_right (by omega)] at hic
      have hj : i - xargs.length < V.length := by
        rcases Nat.lt_or_ge (i - xargs.length) V.length with h | h
        · exact h
        · rw [List.getElem?_eq_none (by omega)] at hic; cases hic
      have hcc : c = .rp (INH + (i - xargs.length), []) 0 := by
        simp [capsK, hj] at hic; exact hic.symm
      subst hcc
      refine ⟨noOwn_scalar rfl, V.getD (i - xargs.length) undef, ?_, ?_⟩
      · rw [List.getElem?_append_right (by omega), hxl, List.getD_eq_getElem?_getD, List.getElem?_eq_getElem hj]; rfl
      · rw [← hV _ hj]
        obtain ⟨cs, hcs⟩ := hop _ hj
        have h9 := hi.rep (ρ (i - xargs.length))
        rw [hρ _ (by omega), hcs, Option.getD_some] at h9
        simp only [Rep] at h9 ⊢
        obtain ⟨_, b, arr, tt, hb, hv9, _⟩ := h9
        refine ⟨b, arr.size, ?_, hv9⟩
        have e1 : handB ρ m β (INH + (i - xargs.length), []) = β (ρ (i - xargs.length), []) := by simp [handB]; intro h9; omega
        rw [e1]; exact hb
  · rw [hd]; exact hdf
  · rw [hd, size_put]; exact hsz
  · rw [hd, valOf_put hsz hN]; exact hi'
/-- The call, in a frame whose first roots stand at known pointers. -/
theorem kr_clo {ops : Array Oper} {rest : List Oper} {K : Sig → Prop} {f : FuncId} {t d m : Nat} {xs : List Operand} {tys : Array TypeId} {ρ : Nat → Nat} {xvs xargs objs objs2 : List AV} {Lk : List (Nat × AV)} (hg : o.guard = none) (ho : o.op = cloCall (.tmp t) xs tys) (hf : hasBody P f = true) (hd : o.dst = some d) (hN : d < N) (ht : t < N)
    (hσ : σ t = .that f V) (hx : RdL N true σ xs xvs) (hs : SeenL ρ m xvs xargs) (hc : CloCall P f V (xargs ++ capsK V.length) objs (.tup []) objs2) (hm : objs.length = m) (hm2 : objs2.length = m)
    (hρ : ∀ j, j < m → σ (ρ j) = (objs[j]?).getD .undef) (hinj : ∀ i j, i < m → j < m → ρ i = ρ j → i = j) (hop : ∀ j, j < V.length → ∃ cs, objs[j]? = some (.op cs))
    (hr0 : ∀ j, j < m → refs ((objs[j]?).getD .undef) = []) (hr1 : ∀ j, j < m → refs ((objs2[j]?).getD .undef) = []) (hn1 : ∀ j, j < m → noSh ((objs2[j]?).getD .undef) = true) (hVm : V.length ≤ m) (hdρ : ∀ j, j < m → ρ j ≠ d) (hlen : xargs.length + V.length < INH)
    (hk : KeepL σ ρ m d objs objs2 Lk) (hLd : look Lk d = .undef) (hNI : N ≤ INH) (hρV : ∀ j, j < V.length → ρ j = INH + j) (hV : ∀ j, j < V.length → gv (INH + j) = V.getD j undef)
    (h : KRun P N gv e ops rest (tauL ρ m objs2 Lk) K) : KRun P N gv e ops (o :: rest) σ K := fun a w ha Q hQ =>
  wpList_plain hg fun K' hK' => wp_clo ho hf hd hN ht hσ hx hs hc hm hm2 hρ hinj hop hr0 hr1 hn1 hVm hdρ hlen hk hLd ha (fun j hj => by
    rw [hρV j hj]; unfold valOf; rw [if_neg (by omega)]; exact hV j hj) fun v w' ha' => hK' _ _ (h _ w' ha' Q hQ)
end
end Go.Av
namespace Go.Av
open Go
theorem pureL_two : ∀ {cs ns : List AV}, pureL cs = true → pureL ns = true → pureL (cs ++ ns) = true
  | [], _, _, h => h
  | c :: cs, ns, h, h' => by
    simp only [pureL, Bool.and_eq_true, List.cons_append] at h ⊢
    exact ⟨h.1, pureL_two h.2 h'⟩
section
variable {P : Program} {N : Nat} {A : Bool} {gv : Nat → Value} {e : Ctx} {σ : Sig} {o : Oper} {a : Act} {w : World} {D : List Nat} {ty : TypeId} {x : Operand} {Φ : Exit → Sig → Prop} {c : Code}
/-- The capacity of an owned row, taken up. -/
theorem all_cap {q sz n : Nat} {cs : List AV} (hq : σ q = .osl sz cs n none) (hcs : cs ≠ []) (ha : All N gv e σ a w) : ∃ k, All N gv e (upd σ q (.osl sz cs n (some k))) a w := by
  obtain ⟨hdf, hsz, β, F, hi⟩ := ha
  have h := hi.rep q
  rw [hq] at h
  simp only [Rep] at h
  rcases h with ⟨_, _, h, _⟩ | ⟨h1, b, capv, arr, t, h2, h3, h4, _, h5⟩
  · exact absurd h hcs
  · refine ⟨capv, hdf, hsz, β, F, hi.weak (fun i => ?_) (fun p ⟨y, hy, hoy⟩ => ?_)⟩
    · by_cases hiq : i = q
      · subst hiq
        rw [upd_same]
        simp only [Rep]
        exact .inr ⟨h1, b, capv, arr, t, h2, h3, h4, fun c hc => by cases hc; rfl, h5⟩
      · rw [upd_other _ _ hiq]; exact hi.rep i
    · by_cases hpq : p.1 = q
      · rw [hpq, upd_same] at hy
        cases hr : p.2 with
        | nil => exact ⟨_, by rw [hpq, hr, hq]; rfl, rfl⟩
        | cons j r =>
          rw [hr] at hy
          exact ⟨y, by rw [hpq, hr, hq]; simpa [node, kids] using hy, hoy⟩
      · rw [upd_other _ _ hpq] at hy
        exact ⟨y, hy, hoy⟩
theorem k_cap {q sz n : Nat} {cs : List AV} (hq : σ q = .osl sz cs n none) (hcs : cs ≠ []) (h : ∀ k, KCode P N gv e c (upd σ q (.osl sz cs n (some k))) Φ) : KCode P N gv e c σ Φ := fun a w ha Q hQ => by
  obtain ⟨k, hk⟩ := all_cap hq hcs ha
  exact h k a w hk Q hQ
/-- A reference to all of a row whose capacity is known, in memory. -/
theorem lent_row {β : Place → Option (Nat × Nat)} {F : Nat → Prop} {val : Nat → Value} {q n k c : Nat} {cs : List AV} {u : Value} {p : Place} (hi : Inv e σ val w β F) (hq : σ q = .osl 1 cs k (some c)) (hcs : cs ≠ []) (hu : Rep β F w (.rsl (q, []) 1 0 n none) p u) :
    ∃ b arr t, β (q, []) = some (b, c * 1) ∧ val q = .slice (some ⟨b, 0, none⟩) k c ∧ k ≤ c ∧ w.heap[b]? = some (.cells arr t (0, 0)) ∧ arr.size = c * 1 ∧ RepL β F w cs (q, []) 0 arr.toList ∧ u = .slice (some ⟨b, 0, none⟩) n c ∧ n ≤ c ∧ noRefL cs = true := by
  have h := hi.rep q
  rw [hq] at h
  simp only [Rep] at h hu
  rcases h with ⟨_, _, h, _⟩ | ⟨h1, b, capv, arr, t, h2, h3, h4, h7, h5, h6, h8⟩
  · exact absurd h hcs
  · have := h7 c rfl
    subst this
    rcases hu with ⟨g1, _⟩ | ⟨b', capv', g1, g2, g3, _⟩
    · rw [h2] at g1; cases g1
    · rw [h2] at g1
      simp only [Option.some.injEq, Prod.mk.injEq] at g1
      obtain ⟨rfl, g1⟩ := g1
      have : capv' = capv := by omega
      subst this
      exact ⟨b, arr, t, h2, h3, h4, h5, h6, h8, g2, g3, h1⟩
/-- append onto a lent row that is full: a new one. -/
theorem q_appNew {s q t bytes n m k cp : Nat} {cs ns : List AV} (ht : appTy P t = some (1, bytes)) (hs : RdTo N A σ (.tmp s) (.rsl (q, []) 1 0 n none)) (hq : σ q = .osl 1 cs k (some cp)) (hcs : cs ≠ []) (hp : pureL cs = true) (hcl : cs.length = n) (hg : cp < n + m)
    (hx : SrcIs N A σ x 1 m ns D) (hc : cellL ns = true) (hb : A = true → n + m ≤ 9223372036854775807 ∧ (n + m) * bytes ≤ 140737488355328) : QSem P N A (appCall (.tmp s) x t) ty σ (s :: q :: D) (.osl 1 (cs ++ ns) (n + m) none) := by
  intro hA σ' hD gv e a w β F hi d o ho hty K Q hK
  obtain ⟨el, h1, h2, h3⟩ := appTy_spec ht
  cases hinf : P.info? el with
  | none => rw [hinf] at h2; cases h2
  | some i =>
  rw [hinf] at h2
  simp only [Option.map_some, Option.some.injEq, Prod.mk.injEq] at h2
  obtain ⟨hsize, hby, hz⟩ := h2
  cases hzv : i.zero with
  | none => rw [hzv] at hz; cases hz
  | some z =>
  rw [hzv] at hz
  simp only [Option.map_some, Option.some.injEq] at hz
  have hsr := hs.rep hA (fun j hj => hD j (by simp [slots] at hj; simp [hj])) hi (0, [])
  obtain ⟨b, arr, tt, hβ, hvq, hkc, hh, hsz, hrep, hu, hnc, hnr⟩ := lent_row hi (by rw [hD q (by simp)]; exact hq) hcs hsr
  obtain ⟨hpn, hx⟩ := hx
  obtain ⟨ax, c', us, ex, hul, hul', hux, β0, p, hr⟩ := hx hA σ' (fun j hj => hD j (by simp [hj])) gv e a w β F hi
  have hb := hb hA
  have hlen : cs.length ≤ arr.toList.length := hrep.len
  let olds := arr.toList.take n
  have hol : olds.length = n := by simp [olds]; simp at hlen; omega
  have hold : olds ≠ [] → ∃ b', (some (⟨b, 0, none⟩ : Addr)) = some b' ∧ ∀ j v, olds[j]? = some v → w.cell? (b'.add j) = some v := fun _ => ⟨_, rfl, fun j v hv => by
    rw [add_none, Nat.zero_add, cell_of hh]
    simp only [olds] at hv
    rw [List.getElem?_take] at hv
    split at hv
    · simpa using hv
    · cases hv⟩
  have hrun := run_append_new (P := P) w t o.type el i z h1 hinf hzv (some ⟨b, 0, none⟩) n cp olds (by rw [hol, hsize]; omega) hold ax m c' us (by rw [hul, hsize]) hux hg (by omega) (by rw [hby]; exact hb.2)
  let gc := grownCap w (n + m) cp el
  let arr2 : Array Value := olds.toArray ++ us.toArray ++ Builtin.zeroCells z.cells (gc - (n + m))
  have hge : n + m ≤ gc := grownCap_ge w (n + m) cp el
  have hinv : Inv e σ' (valOf N gv a) (w.drew.alloc (.cells arr2 el)) β F := (hi.same (w' := w.drew) rfl rfl rfl).alloc _ (fun _ _ _ h => by cases h; rfl)
  have hpure : pureL (cs ++ ns) = true := pureL_two hp hpn
  have hrl : RepL (fun _ => none) F w (cs ++ ns) (0, []) 0 (olds ++ us) := RepL_iff.2 fun j y hy => by
    by_cases hj : j < cs.length
    · rw [List.getElem?_append_left hj] at hy
      obtain ⟨u, hu', hru⟩ := RepL_iff.1 hrep j y hy
      refine ⟨u, ?_, hru.pure_any (pureL_mem hp (List.mem_of_getElem? hy))⟩
      rw [List.getElem?_append_left (by omega)]
      simp only [olds]
      rw [List.getElem?_take, if_pos (by omega)]; exact hu'
    · rw [List.getElem?_append_right (by omega)] at hy
      obtain ⟨u, hu', hru⟩ := RepL_iff.1 hr _ y hy
      refine ⟨u, ?_, hru.pure_any (pureL_mem hpn (List.mem_of_getElem? hy))⟩
      rw [List.getElem?_append_right (by omega), hol, ← hcl]; exact hu'
  have hold' : ∀ b', b' < w.heap.size → (w.drew.alloc (.cells arr2 el)).heap[b']? = w.heap[b']? := fun b' hb' => heap_alloc_lt (w := w.drew) hb'
  have hdet0 : Det e σ' w β F (.agg (cs ++ ns)) (.agg (olds ++ us).toArray) (fun _ => none) := det_agg_pure (by simp [hol, hul', hcl]) hrl hpure
  have hdet1 := hdet0.world (w' := w.drew.alloc (.cells arr2 el)) (fun b' hb' => hold' b' (hi.fr b' hb').1) (fun r y b' s' _ _ hbs => by cases hbs)
  have hdet := hdet1.osl (arr := arr2) (t := el) (b := w.heap.size) (sz := 1) (n := n + m) (capv := gc) (cap := none) (noRefL_pure _ hpure) (heap_alloc_new w.drew _) (fun j v hv => by
      have hjl : j < (olds ++ us).length := by
        rcases Nat.lt_or_ge j (olds ++ us).length with h | h
        · exact h
        · rw [List.getElem?_eq_none h] at hv; cases hv
      simp only [arr2, Array.toList_append]
      rw [List.getElem?_append_left (by simpa using hjl)]
      exact hv) (fun hF => by have := (hi.fr _ hF).1; omega) (.inl hi.grow)
    (fun q' s' hq' hb' => by have := hi.own_lt hq' hb'; omega) (fun r y s' _ _ hbs => by cases hbs) (by
      simp only [arr2, Array.size_append, List.size_toArray, size_zeroCells, hz, hol, hul]
      omega) hge (fun c hc => by cases hc)
  have h9 := hinv.attach d hdet (val := valOf N gv a)
  refine wp_value (run_app ho (by rw [hu, ex]; exact hrun)) (hK _ _ ⟨_, F, h9⟩)
/-- append onto a lent row that has room: in place, behind what the reference sees. -/
theorem o_appIn {s q t bytes d n m k cp : Nat} {cs ns : List AV} (ho : o.op = appCall (.tmp s) x t) (ht : appTy P t = some (1, bytes)) (hd : o.dst = some d) (hN : d < N) (hdq : d ≠ q) (hs : RdTo N true σ (.tmp s) (.rsl (q, []) 1 0 n none)) (hq : σ q = .osl 1 cs k (some cp)) (hcs : cs ≠ []) (hp : pureL cs = true) (hcl : cs.length = n) (hroom : n + m ≤ cp)
    (hx : SrcIs N true σ x 1 m ns D) (hc : cellL ns = true) : OStep P N o σ (upd (fun i => purgeV d (upd σ q (.osl 1 (cs ++ ns) k (some cp)) i)) d (.rsl (q, []) 1 0 (n + m) none)) := by
  intro gv e a w ⟨hdf, hszt, β, F, hi⟩ K Q hK
  obtain ⟨el, h1, h2, h3⟩ := appTy_spec ht
  cases hinf : P.info? el with
  | none => rw [hinf] at h2; cases h2
  | some i =>
  rw [hinf] at h2
  simp only [Option.map_some, Option.some.injEq, Prod.mk.injEq] at h2
  obtain ⟨hsize, hby, hz⟩ := h2
  have hsr := hs.rep rfl (fun _ _ => rfl) hi (0, [])
  obtain ⟨b, arr, tt, hβ, hvq, hkc, hh, hsz, hrep, hu, hnc, hnr⟩ := lent_row hi hq hcs hsr
  obtain ⟨hpn, hx⟩ := hx
  obtain ⟨ax, c', us, ex, hul, hul', hux, β0, p, hr⟩ := hx rfl σ (fun _ _ => rfl) gv e a w β F hi
  have hones : ∀ u ∈ us, u.oneCell' = true := ones_of hr hul' hc
  have hrun := run_append_in (P := P) w t o.type el tt i h1 hinf b n cp arr hh ax m c' us (by rw [hul, hsize]) hux hones hroom (by rw [hul, hsize]; omega)
  rw [hsize] at hrun
  have hlen : cs.length ≤ arr.toList.length := hrep.len
  let arr2 : Array Value := (arr.toList.take (n * 1) ++ us ++ arr.toList.drop (n * 1 + us.length)).toArray
  have hs2 : arr2.size = cp * 1 := by
    simp only [arr2, List.size_toArray, List.length_append, List.length_take, List.length_drop, Array.length_toList]
    omega
  have hown : OwnAt σ (q, []) := ⟨_, by rw [hq]; rfl, rfl⟩
  have hsep := hi.sep _ b _ hown hβ
  have hother : ∀ k', k' ≠ b → (w.setRow b arr2).heap[k']? = w.heap[k']? := fun k' hk' => setRow_other w b k' _ hk'
  have hpure : pureL (cs ++ ns) = true := pureL_two hp hpn
  have hnew : Rep β F (w.setRow b arr2) (.osl 1 (cs ++ ns) k (some cp)) (q, []) (valOf N gv a q) := by
    simp only [Rep]
    refine .inr ⟨noRefL_pure _ hpure, b, cp, arr2, tt, hβ, hvq, hkc, fun c hc => by cases hc; rfl, setRow_heap w b arr arr2 tt (0, 0) hh, hs2, RepL_iff.2 fun j y hy => ?_⟩
    have htr : ∀ {y : AV} {u : Value} {β1 : Place → Option (Nat × Nat)} {p1 p2 : Place}, pureV y = true → Rep β1 F w y p1 u → Rep β F (w.setRow b arr2) y p2 u := fun {y u β1 p1 p2} hy h => h.tr _ (fun b' hb' => ⟨hb', hother b' (fun he => hsep.1 (he ▸ hb'))⟩) (fun r z hz hoz => by rw [noOwn_pure hy hz] at hoz; cases hoz) (fun q' hq' => by rw [refs_pure hy] at hq'; cases hq')
    by_cases hj : j < cs.length
    · rw [List.getElem?_append_left hj] at hy
      obtain ⟨u, hu', hru⟩ := RepL_iff.1 hrep j y hy
      refine ⟨u, ?_, htr (pureL_mem hp (List.mem_of_getElem? hy)) hru⟩
      simp only [arr2]
      rw [List.append_assoc, List.getElem?_append_left (by simp; simp at hlen; omega), List.getElem?_take, if_pos (by omega)]; exact hu'
    · rw [List.getElem?_append_right (by omega)] at hy
      obtain ⟨u, hu', hru⟩ := RepL_iff.1 hr _ y hy
      have hjl : j - cs.length < us.length := by
        rcases Nat.lt_or_ge (j - cs.length) us.length with h | h
        · exact h
        · rw [List.getElem?_eq_none h] at hu'; cases hu'
      refine ⟨u, ?_, htr (pureL_mem hpn (List.mem_of_getElem? hy)) hru⟩
      have htl : (arr.toList.take (n * 1)).length = cs.length := by simp; simp at hlen; omega
      simp only [arr2]
      rw [List.getElem?_append_left (by simp only [List.length_append, htl]; omega), List.getElem?_append_right (by omega), htl]; exact hu'
  have own : ∀ {p}, OwnAt (upd (fun i => purgeV d (upd σ q (.osl 1 (cs ++ ns) k (some cp)) i)) d (.rsl (q, []) 1 0 (n + m) none)) p → OwnAt σ p ∧ p.1 ≠ d ∧ (p.1 = q → p = (q, [])) := by
    rintro ⟨i', r⟩ ⟨y, hy, hoy⟩
    dsimp only at hy ⊢
    by_cases hid : i' = d
    · subst hid; rw [upd_same] at hy; rw [noOwn_scalar (x := .rsl (q, []) 1 0 (n + m) none) rfl r y hy] at hoy; cases hoy
    · rw [upd_other _ _ hid] at hy
      rcases purgeV_or d (upd σ q (.osl 1 (cs ++ ns) k (some cp)) i') with h | h
      · rw [h] at hy
        by_cases hiq : i' = q
        · subst hiq
          rw [upd_same] at hy
          cases r with
          | nil => exact ⟨hown, hid, fun _ => rfl⟩
          | cons j r =>
            simp only [node, kids] at hy
            cases hcj : (cs ++ ns)[j]? with
            | none => rw [hcj] at hy; cases hy
            | some z =>
              rw [hcj] at hy
              rw [noOwn_pure (pureL_mem hpure (List.mem_of_getElem? hcj)) hy] at hoy; cases hoy
        · rw [upd_other _ _ hiq] at hy
          exact ⟨⟨y, hy, hoy⟩, hid, fun h => absurd h hiq⟩
      · rw [h] at hy; exact (undef_node hy hoy).elim
  refine wp_value (run_app ho (by rw [hu, ex]; exact hrun)) (hK _ _ ⟨by rw [hd]; exact hdf, by rw [hd, size_put]; exact hszt, β, F, ?_⟩)
  rw [hd, valOf_put hszt hN]
  refine ⟨fun j => ?_, fun p1 p2 b1 s1 s2 hp1 hp2 hb1 hb2 => hi.disj p1 p2 b1 s1 s2 (own hp1).1 (own hp2).1 hb1 hb2, fun p1 b1 s1 hp1 hb1 => hi.sep p1 b1 s1 (own hp1).1 hb1, fun b1 hb1 => ⟨by simpa [World.setRow] using (hi.fr b1 hb1).1, (hi.fr b1 hb1).2⟩, fun b1 hb1 hn1 => (hother b1 (fun he => by
      subst he
      rcases hsep.2 with h | h
      · omega
      · exact hn1 h)).trans (hi.kept b1 hb1 hn1), by simpa [World.setRow] using hi.grow, tame_row hi.tame hh⟩
  by_cases hjd : j = d
  · subst hjd
    rw [upd_same, upd_same]
    simp only [Rep]
    exact .inr ⟨b, cp, by rw [hβ]; simp, rfl, hroom, fun c hc => by cases hc⟩
  · rw [upd_other _ _ hjd, upd_other _ _ hjd]
    by_cases hjq : j = q
    · subst hjq
      rw [upd_same, purge_id (by simp [refs])]
      exact hnew
    · rw [upd_other _ _ hjq]
      rcases purgeV_or d (σ j) with h | h
      · rw [h]
        exact (hi.rep j).tr _ (fun b' hb' => ⟨hb', hother b' (fun he => hsep.1 (he ▸ hb'))⟩) (fun r y hy hoy => ⟨rfl, fun b' s' hb' => hother b' (fun he => by
          subst he
          have := hi.disj (j, r) (q, []) b' s' _ ⟨y, hy, hoy⟩ hown (by simpa using hb') hβ
          simp only [Prod.mk.injEq] at this
          exact hjq this.1)⟩) (fun _ _ => rfl)
      · rw [h]; simp [Rep]
end
end Go.Av
namespace Go.Av
open Go
section
variable {P : Program} {N : Nat} {σ : Sig} {ops : Array Oper} {l rest : List Oper} {efs : EffsX} {o : Oper} {K : Sig → Prop} {jj : Nat} {x : Operand} {D : List Nat}
theorem z_appIn {s q t bytes d n m k cp : Nat} {cs ns : List AV} (hg : o.guard = none) (ho : o.op = appCall (.tmp s) x t) (ht : appTy P t = some (1, bytes)) (hd : o.dst = some d) (hN : d < N) (hsN : s < N) (hdq : d ≠ q) (hs : σ s = .rsl (q, []) 1 0 n none) (hq : σ q = .osl 1 cs k (some cp)) (hcs : cs ≠ []) (hp : pureL cs = true) (hcl : cs.length = n) (hroom : n + m ≤ cp)
    (hx : SrcIs N true σ x 1 m ns D) (hc : cellL ns = true) (he : effX efs jj = [(q, false), (d, true)]) (hok : opOkX l efs jj (s :: q :: D) [q] = true)
    (h : AQz P N ops l efs rest (jj + 1) (updL σ [(q, .osl 1 (cs ++ ns) k (some cp)), (d, .rsl (q, []) 1 0 (n + m) none)]) K) : AQz P N ops l efs (o :: rest) jj σ K := by
  refine z_step (D := s :: q :: D) (us := [(q, .osl 1 (cs ++ ns) k (some cp)), (d, .rsl (q, []) 1 0 (n + m) none)]) hg (fun σ' hD => ?_) he rfl (by simpa [rootsU, roots, refs] using hok) h
  have hx' : SrcIs N true σ' x 1 m ns D := ⟨hx.1, fun hA τ hτ => hx.2 hA τ (fun i hi => by rw [hτ i hi]; exact hD i (by simp [hi]))⟩
  have e1 := hD s (by simp); have e2 := hD q (by simp)
  have := o_appIn (P := P) (σ := σ') ho ht hd hN hdq (.inl (by simp only [rd, hsN, if_true]; rw [e1, hs]; rfl)) (by rw [e2]; exact hq) hcs hp hcl hroom hx' hc
  have hfin : upd (fun i => purgeV d (upd σ' q (.osl 1 (cs ++ ns) k (some cp)) i)) d (.rsl (q, []) 1 0 (n + m) none) = updL (fun i => purgeD [d] (σ' i)) [(q, .osl 1 (cs ++ ns) k (some cp)), (d, .rsl (q, []) 1 0 (n + m) none)] := by
    funext i
    simp only [updL, upd, purge1]
    by_cases h1 : i = d
    · simp [h1]
    by_cases h2 : i = q
    · subst h2; simp only [h1, if_false, if_true]; exact purge_id (by simp [refs])
    · simp only [h1, h2, if_false]
  rw [hfin] at this
  exact this
end
/-- Code in one frame, where more is known of the slots. -/
def LCode (P : Program) (N : Nat) (gv : Nat → Value) (e : Ctx) (L : Act → Prop) (c : Code) (σ : Sig) (Φ : Exit → Sig → Prop) : Prop :=
  ∀ (a : Act) (w : World), All N gv e σ a w → L a → ∀ Q : Exit → Act → World → Prop, (∀ x a' w' σ', Φ x σ' → All N gv e σ' a' w' → Q x a' w') → SWp P c Q a w
def LRun (P : Program) (N : Nat) (gv : Nat → Value) (e : Ctx) (L : Act → Prop) (ops : Array Oper) (l : List Oper) (σ : Sig) (K : Sig → Prop) : Prop :=
  ∀ (a : Act) (w : World), All N gv e σ a w → L a → ∀ Q : Exit → Act → World → Prop, (∀ a' w' σ', K σ' → All N gv e σ' a' w' → Q .normal a' w') → wpList P ops Q l a w
/-- The slots ρ j hold the values V. -/
def Link (N : Nat) (gv : Nat → Value) (ρ : Nat → Nat) (V : List Value) : Act → Prop := fun a => ∀ j, j < V.length → valOf N gv a (ρ j) = V.getD j undef
section
variable {P : Program} {N : Nat} {gv : Nat → Value} {e : Ctx} {σ : Sig} {Φ : Exit → Sig → Prop} {c : Code} {ops : Array Oper} {rest : List Oper} {o : Oper} {K : Sig → Prop} {ρ : Nat → Nat} {V : List Value}
theorem l_of (h : ACode P N c σ Φ) {L : Act → Prop} : LCode P N gv e L c σ Φ := fun a w ha _ Q hQ => h gv e a w ha Q hQ
theorem a_link (ρ : Nat → Nat) (m : Nat) (h : ∀ gv e (V : List Value), V.length = m → LCode P N gv e (Link N gv ρ V) c σ Φ) : ACode P N c σ Φ := fun gv e a w ha Q hQ =>
  h gv e ((List.range m).map fun j => valOf N gv a (ρ j)) (by simp) a w ha (fun j hj => by
    simp only [List.length_map, List.length_range] at hj
    simp [List.getD_eq_getElem?_getD, hj]) Q hQ
theorem l_region {id : Nat} {l : List Oper} (K : Sig → Prop) (h : LRun P N gv e (Link N gv ρ V) l.toArray l σ K) (hds : ∀ j, j < V.length → (l.filterMap (·.dst)).contains (ρ j) = false) (hc : ∀ s, K s → LCode P N gv e (Link N gv ρ V) c s Φ) (hnd : noDefer l = true := by kernel_rfl) :
    LCode P N gv e (Link N gv ρ V) (.seq (.region id l.toArray false) c) σ Φ := fun a w ha hL Q hQ =>
  sw_seq (sw_regionV (K := K) (e' := e) (gv := gv) (N := N) hnd (fun a' w' σ' hs ha' hk => by
    simp only [Exit.then]
    refine hc σ' hs a' w' ha' (fun j hj => ?_) Q hQ
    rw [← hL j hj]
    unfold valOf; split
    · refine hk _ (fun hm => ?_)
      have := hds j hj
      rw [List.contains_iff_mem.2 hm] at this; cases this
    · rfl) fun Q' hQ' => h a w ha hL Q' hQ')
theorem lr_of {l : List Oper} {L : Act → Prop} (h : ARun P N ops l σ K) : LRun P N gv e L ops l σ K := fun a w ha _ Q hQ => h gv e a w ha Q hQ
theorem lr_val {d : Nat} {v : AV} {D : List Nat} (hv : VSem P N true o.op o.type σ D v) (hg : o.guard = none) (hd : o.dst = some d) (hN : d < N) (hds : ∀ j, j < V.length → ρ j ≠ d) (h : LRun P N gv e (Link N gv ρ V) ops rest (upd σ d v) K) : LRun P N gv e (Link N gv ρ V) ops (o :: rest) σ K := fun a w ha hL Q hQ => by
  obtain ⟨hdf, hsz, β, F, hi⟩ := ha
  obtain ⟨u, hrun, hrep⟩ := hv.2 rfl σ (fun _ _ => rfl) gv e a w β F hi (d, []) o rfl rfl
  refine wpList_plain hg fun K' hK' => wp_value hrun (hK' _ _ (h _ w ⟨?_, ?_, β, F, ?_⟩ (fun j hj => ?_) Q hQ))
  · rw [hd]; exact hdf
  · rw [hd, size_put]; exact hsz
  · rw [hd, valOf_put hsz hN]; exact hi.set d hrep hv.1
  · rw [hd, valOf_put hsz hN, upd_other _ _ (hds j hj)]; exact hL j hj
/-- A closure over variables, taken for the value that it is. -/
theorem lr_that {f : FuncId} {t : Nat} {l : List Oper} (hσ : σ t = .fn f [] ((List.range V.length).map fun j => .rp (ρ j, []) 0)) (hop : ∀ j, j < V.length → ∃ cs, σ (ρ j) = .op cs) (h : LRun P N gv e (Link N gv ρ V) ops l (upd σ t (.that f V)) K) : LRun P N gv e (Link N gv ρ V) ops l σ K := fun a w ha hL Q hQ => by
  obtain ⟨hdf, hsz, β, F, hi⟩ := ha
  refine h a w ⟨hdf, hsz, β, F, hi.weak (fun i => ?_) (fun p ⟨y, hy, hoy⟩ => ?_)⟩ hL Q hQ
  · by_cases hit : i = t
    · subst hit
      rw [upd_same]
      have h9 := hi.rep i
      rw [hσ] at h9
      simp only [Rep] at h9 ⊢
      obtain ⟨us, vs, h1, h2, h3, _, _, _, h4⟩ := h9
      have hus : us = [] := List.eq_nil_of_length_eq_zero (by simpa using h2)
      subst hus
      have hvl : vs.length = V.length := by simpa using h3
      have hvs : vs = V := by
        refine List.ext_getElem hvl fun j hj1 hj2 => ?_
        obtain ⟨u, hu, hru⟩ := RepL_iff.1 h4 j (.rp (ρ j, []) 0) (by simp [hj2])
        rw [List.getElem?_eq_getElem hj1] at hu
        cases hu
        obtain ⟨cs, hcs⟩ := hop j hj2
        have hr := hi.rep (ρ j)
        rw [hcs] at hr
        simp only [Rep] at hr hru
        obtain ⟨_, b, arr, tt, g1, g2, _⟩ := hr
        obtain ⟨b', s', g3, g4⟩ := hru
        rw [g1] at g3; cases g3
        have := hL j hj2
        rw [List.getD_eq_getElem?_getD, List.getElem?_eq_getElem hj2, Option.getD_some] at this
        rw [g4, ← this]; exact g2.symm
      rw [h1, hvs]
    · rw [upd_other _ _ hit]; exact hi.rep i
  · by_cases hpt : p.1 = t
    · rw [hpt, upd_same] at hy
      rw [noOwn_scalar (x := .that f V) rfl _ y hy] at hoy; cases hoy
    · rw [upd_other _ _ hpt] at hy
      exact ⟨y, hy, hoy⟩
theorem lr_clo {f : FuncId} {t d m : Nat} {xs : List Operand} {tys : Array TypeId} {xvs xargs objs objs2 : List AV} {Lk : List (Nat × AV)} (hg : o.guard = none) (ho : o.op = cloCall (.tmp t) xs tys) (hf : hasBody P f = true) (hd : o.dst = some d) (hN : d < N) (ht : t < N)
    (hσ : σ t = .that f V) (hx : RdL N true σ xs xvs) (hs : SeenL ρ m xvs xargs) (hc : CloCall P f V (xargs ++ capsK V.length) objs (.tup []) objs2) (hm : objs.length = m) (hm2 : objs2.length = m)
    (hρ : ∀ j, j < m → σ (ρ j) = (objs[j]?).getD .undef) (hinj : ∀ i j, i < m → j < m → ρ i = ρ j → i = j) (hop : ∀ j, j < V.length → ∃ cs, objs[j]? = some (.op cs))
    (hr0 : ∀ j, j < m → refs ((objs[j]?).getD .undef) = []) (hr1 : ∀ j, j < m → refs ((objs2[j]?).getD .undef) = []) (hn1 : ∀ j, j < m → noSh ((objs2[j]?).getD .undef) = true) (hVm : V.length ≤ m) (hdρ : ∀ j, j < m → ρ j ≠ d) (hlen : xargs.length + V.length < INH)
    (hk : KeepL σ ρ m d objs objs2 Lk) (hLd : look Lk d = .undef)
    (h : ARun P N ops rest (tauL ρ m objs2 Lk) K) : LRun P N gv e (Link N gv ρ V) ops (o :: rest) σ K := fun a w ha hL Q hQ =>
  wpList_plain hg fun K' hK' => wp_clo ho hf hd hN ht hσ hx hs hc hm hm2 hρ hinj hop hr0 hr1 hn1 hVm hdρ hlen hk hLd ha hL fun v w' ha' => hK' _ _ (h gv e _ w' ha' Q hQ)
end
end Go.Av
namespace Go.Av
open Go
/-- The objects are left as listed, from the j-th root on. -/
def WeakFrom (σ : Sig) : Nat → List AV → Prop
  | _, [] => True
  | j, c :: cs => (Weak (σ (INH + j)) c ∧ refs c = []) ∧ WeakFrom σ (j + 1) cs
theorem WeakFrom.get {σ : Sig} : ∀ {cs : List AV} {j : Nat}, WeakFrom σ j cs → ∀ i c, cs[i]? = some c → Weak (σ (INH + (j + i))) c ∧ refs c = []
  | [], _, _, i, c, h => by simp at h
  | d :: cs, j, hw, 0, c, h => by simp at h; subst h; exact hw.1
  | d :: cs, j, hw, i + 1, c, h => by
    have := WeakFrom.get hw.2 i c (by simpa using h)
    rwa [show j + 1 + i = j + (i + 1) by omega] at this
theorem ret0_objs {P : Program} {fn : Func} {N : Nat} {σ : Sig} {objs2 : List AV} (hr : fn.results = #[]) (hN : N < INH) (hw : WeakFrom σ 0 objs2) : Returns P fn N σ (.tup []) objs2 := by
  intro gv e a w ha
  have hsome : ∀ j : Nat, objs2[j]? = none ∨ ∃ c, objs2[j]? = some c := fun j => by
    cases objs2[j]? with
    | none => exact .inl rfl
    | some c => exact .inr ⟨c, rfl⟩
  have hent : Ent σ (argSig [] objs2) := ent_weak fun i => by
    by_cases hi : i < INH
    · have : argSig [] objs2 i = .undef := by simp [argSig, hi]
      rw [this]; exact Weak.undef
    · obtain ⟨j, rfl⟩ : ∃ j, i = INH + j := ⟨i - INH, by omega⟩
      rw [argSig_obj]
      rcases hsome j with h | ⟨c, h⟩
      · rw [h]; exact Weak.undef
      · rw [h, Option.getD_some]
        have := (hw.get j c h).1
        rwa [Nat.zero_add] at this
  refine ret0 (σ := argSig [] objs2) hr hN (fun j c h => ?_) (fun j => ?_) gv e a w (hent.all ha)
  · rw [argSig_obj, h, Option.getD_some]
    exact ⟨Weak.rfl, (hw.get j c h).2⟩
  · rw [argSig_obj]
    rcases hsome j with h | ⟨c, h⟩
    · rw [h]; rfl
    · rw [h, Option.getD_some]
      exact purgeV_none (hw.get j c h).2
end Go.Av
namespace Go.Av
open Go
theorem tau_low {ρ : Nat → Nat} {m i : Nat} {objs2 : List AV} {Lk : List (Nat × AV)} (h : ∀ j, j < m → ρ j ≠ i) : tauL ρ m objs2 Lk i = look Lk i := by
  unfold tauL
  cases hx : idxOf ρ m i with
  | none => rfl
  | some j => obtain ⟨h1, h2⟩ := idx_some hx; exact absurd h2 (h j h1)
theorem tau_root {ρ : Nat → Nat} {m j : Nat} {objs2 : List AV} {Lk : List (Nat × AV)} (hinj : ∀ i j, i < m → j < m → ρ i = ρ j → i = j) (hj : j < m) : tauL ρ m objs2 Lk (ρ j) = (objs2[j]?).getD .undef := by
  simp only [tauL, idx_of hinj hj]
theorem lt5 {p : Nat → Prop} (h0 : p 0) (h1 : p 1) (h2 : p 2) (h3 : p 3) (h4 : p 4) : ∀ j, j < 5 → p j := fun j hj => by
  rcases j with _ | _ | _ | _ | _ | j
  · exact h0
  · exact h1
  · exact h2
  · exact h3
  · exact h4
  · omega
theorem lt6 {p : Nat → Prop} (h0 : p 0) (h1 : p 1) (h2 : p 2) (h3 : p 3) (h4 : p 4) (h5 : p 5) : ∀ j, j < 6 → p j := fun j hj => by
  rcases j with _ | _ | _ | _ | _ | _ | j
  · exact h0
  · exact h1
  · exact h2
  · exact h3
  · exact h4
  · exact h5
  · omega
theorem stay_own {ρ : Nat → Nat} {objs objs2 : List AV} {x : AV} (h : refs x = []) : stayK ρ objs objs2 x := .inl fun q hq => by rw [h] at hq; cases hq
end Go.Av
namespace Go.Av
open Go
theorem Weak.trans {x y z : AV} (h : Weak x y) (h' : Weak y z) : Weak x z := ⟨fun β F w p v hv => h'.1 β F w p v (h.1 β F w p v hv), fun r a ha ho => by
  obtain ⟨b, hb, hbo⟩ := h'.2 r a ha ho
  exact h.2 r b hb hbo⟩
theorem k_join {P : Program} {N : Nat} {gv : Nat → Value} {e : Ctx} {σ : Sig} {Φ : Exit → Sig → Prop} {c c' : Code} (τ : Sig) (h : KCode P N gv e c σ (fun x s => match x with | .normal => Ent s τ | x => Φ x s)) (h' : KCode P N gv e c' τ Φ) : KCode P N gv e (.seq c c') σ Φ := fun a w ha Q hQ =>
  sw_seq (h a w ha _ fun x a' w' s hx ha' => by
    cases x <;> simp only [Exit.then] <;> first | exact h' a' w' (Ent.all hx ha') Q hQ | exact hQ _ _ _ _ hx ha')
end Go.Av
namespace Go.Av
open Go
theorem l_pre {P : Program} {N : Nat} {gv : Nat → Value} {e : Ctx} {L : Act → Prop} {c : Code} {σ σ' : Sig} {Φ : Exit → Sig → Prop} (h : Ent σ σ') (hc : LCode P N gv e L c σ' Φ) : LCode P N gv e L c σ Φ := fun a w ha hL Q hQ => hc a w (h.all ha) hL Q hQ
end Go.Av
namespace Go.Av
open Go
/-- All lists that go on from pre with l of the d numbers from u on, each times s. -/
def chR (s : Int) : Nat → Nat → Nat → List Int → List (List Int)
  | 0, 0, _, pre => [pre]
  | 0, _ + 1, _, _ => []
  | _ + 1, 0, _, pre => [pre]
  | d + 1, l + 1, u, pre => chR s d l (u + 1) (pre ++ [s * (u : Int)]) ++ chR s d (l + 1) (u + 1) pre
theorem chR_z (s : Int) (d u : Nat) (pre : List Int) : chR s d 0 u pre = [pre] := by cases d <;> rfl
theorem chR_n (s : Int) (l u : Nat) (pre : List Int) : chR s 0 (l + 1) u pre = [] := rfl
theorem chR_s (s : Int) (d l u : Nat) (pre : List Int) : chR s (d + 1) (l + 1) u pre = chR s d l (u + 1) (pre ++ [s * (u : Int)]) ++ chR s d (l + 1) (u + 1) pre := rfl
theorem take_stop {α : Type} {F G : List α} (h : 60 < (F.take 61).length) : (F ++ G).take 61 = F.take 61 := by
  simp at h
  exact List.take_append_of_le_length (by omega)
theorem take_push {α : Type} {F : List α} {c : α} (h : (F.take 61).length ≤ 60) : (F ++ [c]).take 61 = F.take 61 ++ [c] := by
  simp at h
  have h1 : F.length ≤ 60 := by omega
  rw [List.take_of_length_le (by simp; omega), List.take_of_length_le (by omega)]
end Go.Av
namespace Go.Av
open Go Go.Proofs
set_option maxRecDepth 10000



end Go.Av
namespace Go.Av
open Go Go.Proofs
set_option maxRecDepth 10000



end Go.Av
namespace Go.Av
open Go Go.Proofs
set_option maxRecDepth 10000
theorem es42 : elemSize Try.prog 42 = some 1 := by kernel_rfl
theorem ta3 : tyAgg Try.prog 3 = some (false, 1) := by kernel_rfl
theorem us42 : Try.prog.underlying 42 = some (.slice 3) := by kernel_rfl
theorem zc3 : zeroCells Try.prog 3 = some [.int .i64 0] := by kernel_rfl

end Go.Av
namespace Go.Av
open Go Go.Proofs
set_option maxRecDepth 10000
theorem sl42 : isSlice Try.prog 42 = true := by kernel_rfl
end Go.Av
namespace Go.Av
open Go Go.Proofs
set_option maxRecDepth 10000



end Go.Av
namespace Go.Av
open Go
/-- One monomial. -/
def one (n m : Nat) : List Int := (List.replicate n 0).set m 1
end Go.Av
namespace Go.Av
open Go Go.Proofs
set_option maxRecDepth 10000
theorem hb67 : hasBody Try.prog 67 = true := by kernel_rfl
theorem hb71 : hasBody Try.prog 71 = true := by kernel_rfl
theorem hb87 : hasBody Try.prog 87 = true := by kernel_rfl
theorem hb88 : hasBody Try.prog 88 = true := by kernel_rfl
theorem hb92 : hasBody Try.prog 92 = true := by kernel_rfl
theorem hb93 : hasBody Try.prog 93 = true := by kernel_rfl

theorem l2Vars_c (n : Int) : ACall Try.prog 67 [.int .i64 n] [] (.bool (inR n 0 12)) [] := by
  refine ACall.intro Try.func67 rfl (N := 5) rfl (by decide) (by simp) ?_
  refine a_seq ?_
  refine a_region ?_
  refine r_val (v := .bool _) (v_assign (.inl rfl) (noOwn_flat rfl)) rfl rfl (by decide) ?_
  refine r_nil ?_
  refine a_seq ?_
  refine a_region ?_
  refine r_val (v := .int _ _) (v_move (.inl rfl) (noOwn_flat rfl)) rfl rfl (by decide) ?_
  refine r_new (v := .bool _) (q_call (vs := [.int _ _, .int _ _, .int _ _]) (args := [.int .i64 _, .int .i64 _, .int .i64 _]) hb20 ⟨.inl rfl, .inl rfl, .inl rfl, trivial⟩ rfl (fun hA => l1In_c _ _ _) rfl rfl) rfl rfl (by decide) ?_
  refine r_val (v := .bool _) (v_assign (.inl rfl) (noOwn_flat rfl)) rfl rfl (by decide) ?_
  refine r_nil ?_
  refine a_ret ?_
  refine ret1 Try.results67 (by decide) (by decide) (Weak.of_eq (bool_eq ?_)) rfl Leaves.nil
  rfl

theorem varsOk_c (n : Int) : ACall Try.prog 71 [.int .i64 n] [] (.bool (inR n 0 12)) [] := by
  refine ACall.intro Try.func71 rfl (N := 5) rfl (by decide) (by simp) ?_
  refine a_seq ?_
  refine a_region ?_
  refine r_val (v := .bool _) (v_assign (.inl rfl) (noOwn_flat rfl)) rfl rfl (by decide) ?_
  refine r_nil ?_
  refine a_seq ?_
  refine a_region ?_
  refine r_val (v := .int _ _) (v_move (.inl rfl) (noOwn_flat rfl)) rfl rfl (by decide) ?_
  refine r_new (v := .bool _) (q_call (vs := [.int _ _, .int _ _, .int _ _]) (args := [.int .i64 _, .int .i64 _, .int .i64 _]) hb24 ⟨.inl rfl, .inl rfl, .inl rfl, trivial⟩ rfl (fun hA => within_c _ _ _) rfl rfl) rfl rfl (by decide) ?_
  refine r_val (v := .bool _) (v_assign (.inl rfl) (noOwn_flat rfl)) rfl rfl (by decide) ?_
  refine r_nil ?_
  refine a_ret ?_
  refine ret1 Try.results71 (by decide) (by decide) (Weak.of_eq (bool_eq ?_)) rfl Leaves.nil
  rfl

theorem l2Var_c (l : Int) (h : -9223372036854775807 ≤ l ∧ l ≤ 9223372036854775807) : ACall Try.prog 88 [.int .i64 l] [] (.int .i64 (vr l)) [] := by
  refine ACall.intro Try.func88 rfl (N := 8) rfl (by decide) (by simp) ?_
  refine a_seq ?_
  refine a_region ?_
  refine r_val (v := .int _ _) (v_assign (.inl rfl) (noOwn_flat rfl)) rfl rfl (by decide) ?_
  refine r_nil ?_
  refine a_seq ?_
  refine a_seq ?_
  refine a_region ?_
  refine r_val (v := .int _ _) (v_move (.inl rfl) (noOwn_flat rfl)) rfl rfl (by decide) ?_
  refine r_val (v := .bool _) (v_lss (.inl rfl) (.inl rfl)) rfl rfl (by decide) ?_
  refine r_nil ?_
  refine a_cond rfl (fun ht4 => ?_) (fun ht4 => ?_)
  ·
    skip
    refine a_seq ?_
    refine a_region ?_
    refine r_val (v := .int _ _) (v_move (.inl rfl) (noOwn_flat rfl)) rfl rfl (by decide) ?_
    refine r_val (v := .int _ _) (v_neg (.inl rfl) (fun _ => by omega)) rfl rfl (by decide) ?_
    refine r_val (v := .int _ _) (v_assign (.inl rfl) (noOwn_flat rfl)) rfl rfl (by decide) ?_
    refine r_nil ?_
    refine a_ret ?_
    refine ret1 Try.results88 (by decide) (by decide) (Weak.of_eq (int_eq ?_)) rfl Leaves.nil
    unfold vr; simp at ht4; rw [if_pos ht4]
  ·
    skip
    refine a_skip ?_
    refine a_seq ?_
    refine a_region ?_
    refine r_val (v := .int _ _) (v_move (.inl rfl) (noOwn_flat rfl)) rfl rfl (by decide) ?_
    refine r_val (v := .int _ _) (v_assign (.inl rfl) (noOwn_flat rfl)) rfl rfl (by decide) ?_
    refine r_nil ?_
    refine a_ret ?_
    refine ret1 Try.results88 (by decide) (by decide) (Weak.of_eq (int_eq ?_)) rfl Leaves.nil
    unfold vr; simp at ht4; rw [if_neg (by omega)]

theorem abs_c (l : Int) (hl : -9223372036854775808 ≤ l ∧ l ≤ 9223372036854775807) : ACall Try.prog 93 [.int .i64 l] [] (.int .i64 (absW l)) [] := by
  refine ACall.intro Try.func93 rfl (N := 7) rfl (by decide) (by simp) ?_
  refine a_seq ?_
  refine a_region ?_
  refine r_val (v := .int _ _) (v_assign (.inl rfl) (noOwn_flat rfl)) rfl rfl (by decide) ?_
  refine r_nil ?_
  refine a_seq ?_
  refine a_region ?_
  refine r_val (v := .int _ _) (v_move (.inl rfl) (noOwn_flat rfl)) rfl rfl (by decide) ?_
  refine r_val (v := .int _ _) (v_move (.inl rfl) (noOwn_flat rfl)) rfl rfl (by decide) ?_
  refine r_val (v := .int _ _) (v_negw (.inl rfl) (fun _ => by omega)) rfl rfl (by decide) ?_
  refine r_val (v := .int _ _) (v_max (.inl rfl) (.inl rfl)) rfl rfl (by decide) ?_
  refine r_val (v := .int _ _) (v_assign (.inl rfl) (noOwn_flat rfl)) rfl rfl (by decide) ?_
  refine r_nil ?_
  refine a_ret ?_
  refine ret1 Try.results93 (by decide) (by decide) (Weak.of_eq (int_eq ?_)) rfl Leaves.nil
  rfl

theorem l2Lit_c (vars l : Int) (hv : -9223372036854775807 ≤ vars ∧ vars ≤ 9223372036854775807) : ACall Try.prog 87 [.int .i64 vars, .int .i64 l] [] (.bool (litB vars l)) [] := by
  refine ACall.intro Try.func87 rfl (N := 14) rfl (by decide) (by simp) ?_
  refine a_seq ?_
  refine a_region ?_
  refine r_val (v := .bool _) (v_assign (.inl rfl) (noOwn_flat rfl)) rfl rfl (by decide) ?_
  refine r_nil ?_
  refine a_seq ?_
  refine a_region ?_
  refine r_val (v := .int _ _) (v_move (.inl rfl) (noOwn_flat rfl)) rfl rfl (by decide) ?_
  refine r_val (v := .int _ _) (v_move (.inl rfl) (noOwn_flat rfl)) rfl rfl (by decide) ?_
  refine r_val (v := .int _ _) (v_neg (.inl rfl) (fun _ => by omega)) rfl rfl (by decide) ?_
  refine r_val (v := .int _ _) (v_move (.inl rfl) (noOwn_flat rfl)) rfl rfl (by decide) ?_
  refine r_new (v := .bool _) (q_call (vs := [.int _ _, .int _ _, .int _ _]) (args := [.int .i64 _, .int .i64 _, .int .i64 _]) hb20 ⟨.inl rfl, .inl rfl, .inl rfl, trivial⟩ rfl (fun hA => l1In_c _ _ _) rfl rfl) rfl rfl (by decide) ?_
  refine r_val (v := .bool _) (v_move (.inl rfl) (noOwn_flat rfl)) rfl rfl (by decide) ?_
  refine r_gval (v := .int _ _) (v_move (.inl rfl) (noOwn_flat rfl)) rfl rfl rfl (by decide) (.inl ⟨_, rfl, rfl⟩) rfl (by decide) ?_
  refine r_gval (v := .bool _) (v_neq (.inr ⟨_, rfl, fun h => h⟩) (.inl rfl)) rfl rfl rfl (by decide) (.inl ⟨_, rfl, rfl⟩) rfl (by decide) ?_
  refine r_val (v := .bool _) (v_pick (.inl rfl) (.inr ⟨_, rfl, fun h h2 => by simp_all⟩) (.inl rfl)) rfl rfl (by decide) ?_
  refine r_val (v := .bool _) (v_assign (.inl rfl) (noOwn_flat rfl)) rfl rfl (by decide) ?_
  refine r_nil ?_
  refine a_ret ?_
  refine ret1 Try.results87 (by decide) (by decide) (Weak.of_eq (bool_eq ?_)) rfl Leaves.nil
  unfold litB; cases inR l (-vars) vars <;> simp

theorem isLit_c (vars l : Int) (hvars : -9223372036854775808 ≤ vars ∧ vars ≤ 9223372036854775807) : ACall Try.prog 92 [.int .i64 vars, .int .i64 l] [] (.bool (litW vars l)) [] := by
  refine ACall.intro Try.func92 rfl (N := 14) rfl (by decide) (by simp) ?_
  refine a_seq ?_
  refine a_region ?_
  refine r_val (v := .bool _) (v_assign (.inl rfl) (noOwn_flat rfl)) rfl rfl (by decide) ?_
  refine r_nil ?_
  refine a_seq ?_
  refine a_region ?_
  refine r_val (v := .int _ _) (v_move (.inl rfl) (noOwn_flat rfl)) rfl rfl (by decide) ?_
  refine r_val (v := .bool _) (v_neq (.inl rfl) (.inl rfl)) rfl rfl (by decide) ?_
  refine r_val (v := .bool _) (v_move (.inl rfl) (noOwn_flat rfl)) rfl rfl (by decide) ?_
  refine r_gval (v := .int _ _) (v_move (.inl rfl) (noOwn_flat rfl)) rfl rfl rfl (by decide) (.inl ⟨_, rfl, rfl⟩) rfl (by decide) ?_
  refine r_gval (v := .int _ _) (v_move (.inl rfl) (noOwn_flat rfl)) rfl rfl rfl (by decide) (.inl ⟨_, rfl, rfl⟩) rfl (by decide) ?_
  refine r_gval (v := .int _ _) (v_negw (.inr ⟨_, rfl, fun h => h⟩) (fun _ => by omega)) rfl rfl rfl (by decide) (.inl ⟨_, rfl, rfl⟩) rfl (by decide) ?_
  refine r_gval (v := .int _ _) (v_move (.inl rfl) (noOwn_flat rfl)) rfl rfl rfl (by decide) (.inl ⟨_, rfl, rfl⟩) rfl (by decide) ?_
  refine r_guard (v := .bool _) (q_call (vs := [.int _ _, .int _ _, .int _ _]) (args := [.int .i64 _, .int .i64 _, .int .i64 _]) hb24 ⟨.inr ⟨_, rfl, fun h => h⟩, .inr ⟨_, rfl, fun h => h⟩, .inr ⟨_, rfl, fun h => h⟩, trivial⟩ rfl (fun hA => within_c _ _ _) rfl rfl) rfl rfl rfl (by decide) (.inl ⟨_, rfl, rfl⟩) rfl (by decide) ?_
  refine r_val (v := .bool _) (v_pick (.inl rfl) (.inr ⟨_, rfl, fun h h2 => by simp_all⟩) (.inl rfl)) rfl rfl (by decide) ?_
  refine r_val (v := .bool _) (v_assign (.inl rfl) (noOwn_flat rfl)) rfl rfl (by decide) ?_
  refine r_nil ?_
  refine a_ret ?_
  refine ret1 Try.results92 (by decide) (by decide) (Weak.of_eq (bool_eq ?_)) rfl Leaves.nil
  unfold litW; cases h : decide (l ≠ 0) <;> simp_all

theorem l2Clause_c (vars : Int) (c : List Int) (hv : -9223372036854775808 ≤ vars ∧ vars ≤ 9223372036854775807) (hl : (c.length : Int) ≤ 9223372036854775807) (hb : ∀ j, -9223372036854775808 ≤ gd c j ∧ gd c j ≤ 9223372036854775807) : ACall Try.prog 68 [.int .i64 vars, .sl (icells c) c.length] [] (.bool (clB vars c)) [] := by
  refine ACall.intro Try.func68 rfl (N := 40) rfl (by decide) (by simp) ?_
  refine a_seq ?_
  refine a_region ?_
  refine r_val (v := .bool _) (v_assign (.inl rfl) (noOwn_flat rfl)) rfl rfl (by decide) ?_
  refine r_nil ?_
  refine a_seq ?_
  refine a_seq ?_
  refine a_region ?_
  refine r_val (v := .int _ _) (v_move (.inl rfl) (noOwn_flat rfl)) rfl rfl (by decide) ?_
  refine r_new (v := .bool _) (q_call (vs := [.int _ _]) (args := [.int .i64 _]) hb67 ⟨.inl rfl, trivial⟩ rfl (fun hA => l2Vars_c _) rfl rfl) rfl rfl (by decide) ?_
  refine r_val (v := .bool _) (v_not (.inl rfl)) rfl rfl (by decide) ?_
  refine r_nil ?_
  refine a_cond rfl (fun ht8 => ?_) (fun ht8 => ?_)
  ·
    skip
    refine a_seq ?_
    refine a_region ?_
    refine r_val (v := .bool _) (v_assign (.inl rfl) (noOwn_flat rfl)) rfl rfl (by decide) ?_
    refine r_nil ?_
    refine a_ret ?_
    refine ret1 Try.results68 (by decide) (by decide) (Weak.of_eq (bool_eq ?_)) rfl Leaves.nil
    simp at ht8; unfold clB; rw [ht8]; rfl
  ·
    skip
    refine a_skip ?_
    refine a_seq ?_
    refine a_seq ?_
    have hv0 := inR_spec.1 (show inR vars 0 12 = true by simpa using ht8)
    refine a_region ?_
    refine r_val (v := .int _ _) (v_assign (.inl rfl) (noOwn_flat rfl)) rfl rfl (by decide) ?_
    refine r_nil ?_
    refine a_block ?_
    refine a_loop (X := Nat) (fun i => look [(0, .int .i64 vars), (1, .sl (icells c) c.length), (5, .int .i64 (i : Int))]) (fun i => i ≤ c.length ∧ ∀ j, j < i → okC vars c j = true) (fun i => c.length - i) 0 (ent_look ⟨Weak.of_eq rfl, Weak.of_eq rfl, Weak.of_eq rfl, trivial⟩) ⟨Nat.zero_le _, fun j h => by omega⟩ (fun i hG => ?_)
    obtain ⟨h1, h2⟩ := hG
    refine a_seq ?_
    refine a_seq ?_
    refine a_region ?_
    refine r_val (v := .int _ _) (v_move (.inl rfl) (noOwn_flat rfl)) rfl rfl (by decide) ?_
    refine r_val (v := .sl _ _) (v_move (.inl rfl) (noOwn_flat rfl)) rfl rfl (by decide) ?_
    refine r_val (v := .int _ _) (v_len_sl sl42 (.inl rfl)) rfl rfl (by decide) ?_
    refine r_val (v := .bool _) (v_lss (.inl rfl) (.inl rfl)) rfl rfl (by decide) ?_
    refine r_nil ?_
    refine a_cond rfl (fun ht12 => ?_) (fun ht12 => ?_)
    ·
      skip
      refine a_skip ?_
      refine a_seq ?_
      refine a_block ?_
      refine a_seq ?_
      have hi : i < c.length := (by simp at ht12; omega)
      have hbi := hb i
      have hpr : i ≠ 0 → litB vars (gd c (i - 1)) = true := fun h0 => by
          have := h2 (i - 1) (by omega)
          simp only [okC, Bool.and_eq_true] at this
          exact this.1
      refine a_region_any mixed (by kernel_rfl) ?_
      refine y_val (v := .int _ _) (v_move (.inl rfl) (noOwn_flat rfl)) rfl rfl (by decide) (by kernel_rfl) ?_
      refine y_val (v := .sl _ _) (v_move (.inl rfl) (noOwn_flat rfl)) rfl rfl (by decide) (by kernel_rfl) ?_
      refine y_val (v := .int _ _) (v_move (.inl rfl) (noOwn_flat rfl)) rfl rfl (by decide) (by kernel_rfl) ?_
      refine y_val (v := .pp _ _) (v_indexAddr_sl es42 (.inl rfl) (.inl rfl) (fun _ => ⟨by omega, by omega, icells_ne hi⟩)) rfl rfl (by decide) (by kernel_rfl) ?_
      refine y_val (v := .int .i64 (gd c i)) (v_load_pp ta3 (.inl rfl) (fun _ => by rw [Nat.mul_one]; exact icells_get (gd_get hi)) rfl) rfl rfl (by decide) (by kernel_rfl) ?_
      refine y_new (v := .bool _) (q_call (vs := [.int _ _, .int _ _]) (args := [.int .i64 _, .int .i64 _]) hb87 ⟨.inl rfl, .inl rfl, trivial⟩ rfl (fun hA => l2Lit_c _ _ (by omega)) rfl rfl) rfl rfl (by decide) (by kernel_rfl) ?_
      refine y_val (v := .bool _) (v_not (.inl rfl)) rfl rfl (by decide) (by kernel_rfl) ?_
      refine y_val (v := .bool _) (v_move (.inl rfl) (noOwn_flat rfl)) rfl rfl (by decide) (by kernel_rfl) ?_
      refine y_guard (v := .int _ _) (v_move (.inl rfl) (noOwn_flat rfl)).quiet rfl rfl rfl (by decide) (.inl ⟨_, rfl, rfl⟩) rfl (by decide) (by kernel_rfl) ?_
      refine y_guard (v := .bool _) (v_gtr (.inr ⟨_, rfl, fun h => h⟩) (.inl rfl)).quiet rfl rfl rfl (by decide) (.inl ⟨_, rfl, rfl⟩) rfl (by decide) (by kernel_rfl) ?_
      refine y_guard (v := .bool _) (v_move (.inr ⟨_, rfl, fun h => h⟩) (noOwn_flat rfl)).quiet rfl rfl rfl (by decide) (.inl ⟨_, rfl, rfl⟩) rfl (by decide) (by kernel_rfl) ?_
      refine y_guard (v := .sl _ _) (v_move (.inl rfl) (noOwn_flat rfl)).quiet rfl rfl rfl (by decide) (.inr ⟨_, _, rfl, rfl⟩) rfl (by decide) (by kernel_rfl) ?_
      refine y_guard (v := .int _ _) (v_move (.inl rfl) (noOwn_flat rfl)).quiet rfl rfl rfl (by decide) (.inr ⟨_, _, rfl, rfl⟩) rfl (by decide) (by kernel_rfl) ?_
      refine y_guard (v := .int _ _) (v_sub (.inr ⟨_, rfl, fun h => h⟩) (.inl rfl) (fun hA => by omega)).quiet rfl rfl rfl (by decide) (.inr ⟨_, _, rfl, rfl⟩) rfl (by decide) (by kernel_rfl) ?_
      refine y_guard (v := .pp _ _) (v_indexAddr_sl es42 (.inr ⟨_, rfl, fun h => h⟩) (.inr ⟨_, rfl, fun h => h⟩) (fun hA => ⟨by simp at hA; omega, by omega, icells_ne hi⟩)).quiet rfl rfl rfl (by decide) (.inr ⟨_, _, rfl, rfl⟩) rfl (by decide) (by kernel_rfl) ?_
      refine y_guard (v := .int .i64 (gd c (i - 1))) (v_load_pp ta3 (.inr ⟨_, rfl, fun h => h⟩) (fun hA => by simp at hA; rw [show ((i : Int) - 1).toNat = i - 1 by omega, Nat.mul_one]; exact icells_get (gd_get (by omega))) rfl).quiet rfl rfl rfl (by decide) (.inr ⟨_, _, rfl, rfl⟩) rfl (by decide) (by kernel_rfl) ?_
      refine y_guard (v := .int _ _) (q_call (vs := [.int _ _]) (args := [.int .i64 _]) hb88 ⟨.inr ⟨_, rfl, fun h => h⟩, trivial⟩ rfl (fun hA => l2Var_c _ (by simp at hA; have := litB_spec.1 (hpr (by omega)); omega)) rfl rfl) rfl rfl rfl (by decide) (.inr ⟨_, _, rfl, rfl⟩) rfl (by decide) (by kernel_rfl) ?_
      refine y_guard (v := .sl _ _) (v_move (.inl rfl) (noOwn_flat rfl)).quiet rfl rfl rfl (by decide) (.inr ⟨_, _, rfl, rfl⟩) rfl (by decide) (by kernel_rfl) ?_
      refine y_guard (v := .int _ _) (v_move (.inl rfl) (noOwn_flat rfl)).quiet rfl rfl rfl (by decide) (.inr ⟨_, _, rfl, rfl⟩) rfl (by decide) (by kernel_rfl) ?_
      refine y_guard (v := .pp _ _) (v_indexAddr_sl es42 (.inr ⟨_, rfl, fun h => h⟩) (.inr ⟨_, rfl, fun h => h⟩) (fun _ => ⟨by omega, by omega, icells_ne hi⟩)).quiet rfl rfl rfl (by decide) (.inr ⟨_, _, rfl, rfl⟩) rfl (by decide) (by kernel_rfl) ?_
      refine y_guard (v := .int .i64 (gd c i)) (v_load_pp ta3 (.inr ⟨_, rfl, fun h => h⟩) (fun _ => by rw [Nat.mul_one]; exact icells_get (gd_get hi)) rfl).quiet rfl rfl rfl (by decide) (.inr ⟨_, _, rfl, rfl⟩) rfl (by decide) (by kernel_rfl) ?_
      refine y_guard (v := .int _ _) (q_call (vs := [.int _ _]) (args := [.int .i64 _]) hb88 ⟨.inr ⟨_, rfl, fun h => h⟩, trivial⟩ rfl (fun hA => l2Var_c _ (by simp at hA; have := litB_spec.1 hA.1; omega)) rfl rfl) rfl rfl rfl (by decide) (.inr ⟨_, _, rfl, rfl⟩) rfl (by decide) (by kernel_rfl) ?_
      refine y_guard (v := .bool _) (v_geq (.inr ⟨_, rfl, fun h => h⟩) (.inr ⟨_, rfl, fun h => h⟩)).quiet rfl rfl rfl (by decide) (.inr ⟨_, _, rfl, rfl⟩) rfl (by decide) (by kernel_rfl) ?_
      refine y_guard (v := .bool _) (v_pick (.inr ⟨_, rfl, fun h => h⟩) (.inr ⟨_, rfl, fun h h2 => by simp_all⟩) (.inl rfl)).quiet rfl rfl rfl (by decide) (.inl ⟨_, rfl, rfl⟩) rfl (by decide) (by kernel_rfl) ?_
      refine y_val (v := .bool _) (v_pick (.inl rfl) (.inl rfl) (.inr ⟨_, rfl, fun h h2 => by simp_all⟩)) rfl rfl (by decide) (by kernel_rfl) ?_
      refine y_nil ?_
      refine a_cond rfl (fun ht39 => ?_) (fun ht39 => ?_)
      ·
        skip
        refine a_seq ?_
        refine a_pre (ent_look (L := [(0, .int _ _), (1, .sl _ _), (5, .int _ _)]) ⟨Weak.rfl, Weak.rfl, Weak.rfl, trivial⟩) ?_
        refine a_region ?_
        refine r_val (v := .bool _) (v_assign (.inl rfl) (noOwn_flat rfl)) rfl rfl (by decide) ?_
        refine r_nil ?_
        refine a_ret ?_
        refine ret1 Try.results68 (by decide) (by decide) (Weak.of_eq (bool_eq ?_)) rfl Leaves.nil
        have hk : okC vars c i = false := by unfold okC; cases ha : litB vars (gd c i) <;> simp [ha] at ht39 ⊢ <;> omega
        rw [clB_false hi hk]
      ·
        skip
        refine a_skip ?_
        refine a_pre (ent_look (L := [(0, .int _ _), (1, .sl _ _), (5, .int _ _)]) ⟨Weak.rfl, Weak.rfl, Weak.rfl, trivial⟩) ?_
        refine a_region ?_
        refine r_val (v := .int _ _) (v_move (.inl rfl) (noOwn_flat rfl)) rfl rfl (by decide) ?_
        refine r_val (v := .int _ _) (v_add (.inl rfl) (.inl rfl) (fun _ => by omega)) rfl rfl (by decide) ?_
        refine r_val (v := .int _ _) (v_assign (.inl rfl) (noOwn_flat rfl)) rfl rfl (by decide) ?_
        refine r_nil ?_
        have hk : okC vars c i = true := by unfold okC; cases ha : litB vars (gd c i) <;> simp [ha] at ht39 ⊢ <;> omega
        refine ⟨i + 1, ent_look ⟨Weak.of_eq rfl, Weak.of_eq rfl, Weak.of_eq (int_eq (by omega)), trivial⟩, ⟨by omega, ok_step h2 hk⟩, by omega⟩
    ·
      skip
      refine a_exit ?_
      refine a_seq ?_
      refine a_region ?_
      refine r_val (v := .bool _) (v_assign (.inl rfl) (noOwn_flat rfl)) rfl rfl (by decide) ?_
      refine r_nil ?_
      refine a_ret ?_
      refine ret1 Try.results68 (by decide) (by decide) (Weak.of_eq (bool_eq ?_)) rfl Leaves.nil
      simp at ht12; rw [clB_true (inR_spec.2 hv0) (fun j hj => h2 j (by omega))]

theorem isClause_c (vars : Int) (c : List Int) (hv : -9223372036854775808 ≤ vars ∧ vars ≤ 9223372036854775807) (hl : (c.length : Int) ≤ 9223372036854775807) (hb : ∀ j, -9223372036854775808 ≤ gd c j ∧ gd c j ≤ 9223372036854775807) : ACall Try.prog 70 [.int .i64 vars, .sl (icells c) c.length] [] (.bool (clB vars c)) [] := by
  refine ACall.intro Try.func70 rfl (N := 36) rfl (by decide) (by simp) ?_
  refine a_seq ?_
  refine a_region ?_
  refine r_val (v := .bool _) (v_assign (.inl rfl) (noOwn_flat rfl)) rfl rfl (by decide) ?_
  refine r_nil ?_
  refine a_seq ?_
  refine a_seq ?_
  refine a_region ?_
  refine r_val (v := .sl _ _) (v_move (.inl rfl) (noOwn_flat rfl)) rfl rfl (by decide) ?_
  refine r_val (v := .int _ _) (v_len_sl sl42 (.inl rfl)) rfl rfl (by decide) ?_
  refine r_val (v := .int _ _) (v_move (.inl rfl) (noOwn_flat rfl)) rfl rfl (by decide) ?_
  refine r_nil ?_
  refine a_block ?_
  refine a_loop (X := Nat) (fun i => look [(0, .int .i64 vars), (1, .sl (icells c) c.length), (7, .sl (icells c) c.length), (8, .int .i64 (c.length : Int)), (9, .int .i64 (i : Int))]) (fun i => i ≤ c.length ∧ ∀ j, j < i → okW vars c j = true) (fun i => c.length - i) 0 (ent_look ⟨Weak.of_eq rfl, Weak.of_eq rfl, Weak.of_eq rfl, Weak.of_eq rfl, Weak.of_eq rfl, trivial⟩) ⟨Nat.zero_le _, fun j h => by omega⟩ (fun i hG => ?_)
  obtain ⟨h1, h2⟩ := hG
  refine a_seq ?_
  refine a_region ?_
  refine r_val (v := .bool _) (v_lss (.inl rfl) (.inl rfl)) rfl rfl (by decide) ?_
  refine r_nil ?_
  refine a_seq ?_
  refine a_cond rfl (fun ht10 => ?_) (fun ht10 => ?_)
  ·
    skip
    refine a_skip ?_
    refine a_seq ?_
    refine a_block ?_
    refine a_seq ?_
    have hi : i < c.length := (by simp at ht10; omega)
    have hbi := hb i
    have hbi2 := hb (i - 1)
    refine a_region ?_
    refine r_val (v := .int _ _) (v_move (.inl rfl) (noOwn_flat rfl)) rfl rfl (by decide) ?_
    refine r_val (v := .pp _ _) (v_indexAddr_sl es42 (.inl rfl) (.inl rfl) (fun _ => ⟨by omega, by omega, icells_ne hi⟩)) rfl rfl (by decide) ?_
    refine r_val (v := .int .i64 (gd c i)) (v_load_pp ta3 (.inl rfl) (fun _ => by rw [Nat.mul_one]; exact icells_get (gd_get hi)) rfl) rfl rfl (by decide) ?_
    refine r_val (v := .int _ _) (v_assign (.inl rfl) (noOwn_flat rfl)) rfl rfl (by decide) ?_
    refine r_val (v := .int _ _) (v_assign (.inl rfl) (noOwn_flat rfl)) rfl rfl (by decide) ?_
    refine r_nil ?_
    refine a_seq ?_
    refine a_region_any mixed (by kernel_rfl) ?_
    refine y_val (v := .int _ _) (v_move (.inl rfl) (noOwn_flat rfl)) rfl rfl (by decide) (by kernel_rfl) ?_
    refine y_val (v := .int _ _) (v_move (.inl rfl) (noOwn_flat rfl)) rfl rfl (by decide) (by kernel_rfl) ?_
    refine y_new (v := .bool _) (q_call (vs := [.int _ _, .int _ _]) (args := [.int .i64 _, .int .i64 _]) hb92 ⟨.inl rfl, .inl rfl, trivial⟩ rfl (fun hA => isLit_c _ _ (by omega)) rfl rfl) rfl rfl (by decide) (by kernel_rfl) ?_
    refine y_val (v := .bool _) (v_not (.inl rfl)) rfl rfl (by decide) (by kernel_rfl) ?_
    refine y_val (v := .bool _) (v_move (.inl rfl) (noOwn_flat rfl)) rfl rfl (by decide) (by kernel_rfl) ?_
    refine y_guard (v := .int _ _) (v_move (.inl rfl) (noOwn_flat rfl)).quiet rfl rfl rfl (by decide) (.inl ⟨_, rfl, rfl⟩) rfl (by decide) (by kernel_rfl) ?_
    refine y_guard (v := .bool _) (v_gtr (.inr ⟨_, rfl, fun h => h⟩) (.inl rfl)).quiet rfl rfl rfl (by decide) (.inl ⟨_, rfl, rfl⟩) rfl (by decide) (by kernel_rfl) ?_
    refine y_guard (v := .bool _) (v_move (.inr ⟨_, rfl, fun h => h⟩) (noOwn_flat rfl)).quiet rfl rfl rfl (by decide) (.inl ⟨_, rfl, rfl⟩) rfl (by decide) (by kernel_rfl) ?_
    refine y_guard (v := .int _ _) (v_move (.inl rfl) (noOwn_flat rfl)).quiet rfl rfl rfl (by decide) (.inr ⟨_, _, rfl, rfl⟩) rfl (by decide) (by kernel_rfl) ?_
    refine y_guard (v := .int _ _) (q_call (vs := [.int _ _]) (args := [.int .i64 _]) hb93 ⟨.inr ⟨_, rfl, fun h => h⟩, trivial⟩ rfl (fun hA => abs_c _ (by omega)) rfl rfl) rfl rfl rfl (by decide) (.inr ⟨_, _, rfl, rfl⟩) rfl (by decide) (by kernel_rfl) ?_
    refine y_guard (v := .sl _ _) (v_move (.inl rfl) (noOwn_flat rfl)).quiet rfl rfl rfl (by decide) (.inr ⟨_, _, rfl, rfl⟩) rfl (by decide) (by kernel_rfl) ?_
    refine y_guard (v := .int _ _) (v_move (.inl rfl) (noOwn_flat rfl)).quiet rfl rfl rfl (by decide) (.inr ⟨_, _, rfl, rfl⟩) rfl (by decide) (by kernel_rfl) ?_
    refine y_guard (v := .int _ _) (v_sub (.inr ⟨_, rfl, fun h => h⟩) (.inl rfl) (fun hA => by omega)).quiet rfl rfl rfl (by decide) (.inr ⟨_, _, rfl, rfl⟩) rfl (by decide) (by kernel_rfl) ?_
    refine y_guard (v := .pp _ _) (v_indexAddr_sl es42 (.inr ⟨_, rfl, fun h => h⟩) (.inr ⟨_, rfl, fun h => h⟩) (fun hA => ⟨by simp at hA; omega, by omega, icells_ne hi⟩)).quiet rfl rfl rfl (by decide) (.inr ⟨_, _, rfl, rfl⟩) rfl (by decide) (by kernel_rfl) ?_
    refine y_guard (v := .int .i64 (gd c (i - 1))) (v_load_pp ta3 (.inr ⟨_, rfl, fun h => h⟩) (fun hA => by simp at hA; rw [show ((i : Int) - 1).toNat = i - 1 by omega, Nat.mul_one]; exact icells_get (gd_get (by omega))) rfl).quiet rfl rfl rfl (by decide) (.inr ⟨_, _, rfl, rfl⟩) rfl (by decide) (by kernel_rfl) ?_
    refine y_guard (v := .int _ _) (q_call (vs := [.int _ _]) (args := [.int .i64 _]) hb93 ⟨.inr ⟨_, rfl, fun h => h⟩, trivial⟩ rfl (fun hA => abs_c _ (by omega)) rfl rfl) rfl rfl rfl (by decide) (.inr ⟨_, _, rfl, rfl⟩) rfl (by decide) (by kernel_rfl) ?_
    refine y_guard (v := .bool _) (v_leq (.inr ⟨_, rfl, fun h => h⟩) (.inr ⟨_, rfl, fun h => h⟩)).quiet rfl rfl rfl (by decide) (.inr ⟨_, _, rfl, rfl⟩) rfl (by decide) (by kernel_rfl) ?_
    refine y_guard (v := .bool _) (v_pick (.inr ⟨_, rfl, fun h => h⟩) (.inr ⟨_, rfl, fun h h2 => by simp_all⟩) (.inl rfl)).quiet rfl rfl rfl (by decide) (.inl ⟨_, rfl, rfl⟩) rfl (by decide) (by kernel_rfl) ?_
    refine y_val (v := .bool _) (v_pick (.inl rfl) (.inl rfl) (.inr ⟨_, rfl, fun h h2 => by simp_all⟩)) rfl rfl (by decide) (by kernel_rfl) ?_
    refine y_nil ?_
    refine a_cond rfl (fun ht32 => ?_) (fun ht32 => ?_)
    ·
      skip
      refine a_seq ?_
      refine a_pre (ent_look (L := [(0, .int _ _), (1, .sl _ _), (7, .sl _ _), (8, .int _ _), (9, .int _ _)]) ⟨Weak.rfl, Weak.rfl, Weak.rfl, Weak.rfl, Weak.rfl, trivial⟩) ?_
      refine a_region ?_
      refine r_val (v := .bool _) (v_assign (.inl rfl) (noOwn_flat rfl)) rfl rfl (by decide) ?_
      refine r_nil ?_
      refine a_ret ?_
      refine ret1 Try.results70 (by decide) (by decide) (Weak.of_eq (bool_eq ?_)) rfl Leaves.nil
      have hk : okW vars c i = false := by unfold okW; cases ha : litW vars (gd c i) <;> simp [ha] at ht32 ⊢ <;> omega
      rw [clB_bad hi h2 hk]
    ·
      skip
      refine a_skip ?_
      refine a_pre (ent_look (L := [(0, .int _ _), (1, .sl _ _), (7, .sl _ _), (8, .int _ _), (9, .int _ _)]) ⟨Weak.rfl, Weak.rfl, Weak.rfl, Weak.rfl, Weak.rfl, trivial⟩) ?_
      refine a_region ?_
      refine r_val (v := .int _ _) (v_add (.inl rfl) (.inl rfl) (fun _ => by omega)) rfl rfl (by decide) ?_
      refine r_val (v := .int _ _) (v_move (.inl rfl) (noOwn_flat rfl)) rfl rfl (by decide) ?_
      refine r_nil ?_
      have hk : okW vars c i = true := by unfold okW; cases ha : litW vars (gd c i) <;> simp [ha] at ht32 ⊢ <;> omega
      refine ⟨i + 1, ent_look ⟨Weak.of_eq rfl, Weak.of_eq rfl, Weak.of_eq rfl, Weak.of_eq rfl, Weak.of_eq (int_eq (by omega)), trivial⟩, ⟨by omega, ok_step h2 hk⟩, by omega⟩
  ·
    skip
    refine a_exit ?_
    refine a_seq ?_
    refine a_region ?_
    refine r_val (v := .int _ _) (v_move (.inl rfl) (noOwn_flat rfl)) rfl rfl (by decide) ?_
    refine r_new (v := .bool _) (q_call (vs := [.int _ _]) (args := [.int .i64 _]) hb71 ⟨.inl rfl, trivial⟩ rfl (fun hA => varsOk_c _) rfl rfl) rfl rfl (by decide) ?_
    refine r_val (v := .bool _) (v_assign (.inl rfl) (noOwn_flat rfl)) rfl rfl (by decide) ?_
    refine r_nil ?_
    refine a_ret ?_
    refine ret1 Try.results70 (by decide) (by decide) (Weak.of_eq (bool_eq ?_)) rfl Leaves.nil
    simp at ht10; rw [clB_end (fun j hj => h2 j (by omega))]
end Go.Av
namespace Go.Av
open Go Go.Proofs
set_option maxRecDepth 10000


theorem eqIntS_c (xs ys : List Int) (hl : (xs.length : Int) ≤ 9223372036854775807) : ACall Try.prog 51 [.sl (icells xs) xs.length, .sl (icells ys) ys.length] [] (.bool (decide (xs = ys))) [] := by
  refine ACall.intro Try.func51 rfl (N := 26) rfl (by decide) (by simp) ?_
  refine a_seq ?_
  refine a_region ?_
  refine r_val (v := .bool _) (v_assign (.inl rfl) (noOwn_flat rfl)) rfl rfl (by decide) ?_
  refine r_nil ?_
  refine a_seq ?_
  refine a_seq ?_
  refine a_region ?_
  refine r_val (v := .sl _ _) (v_move (.inl rfl) (noOwn_flat rfl)) rfl rfl (by decide) ?_
  refine r_val (v := .int _ _) (v_len_sl sl42 (.inl rfl)) rfl rfl (by decide) ?_
  refine r_val (v := .sl _ _) (v_move (.inl rfl) (noOwn_flat rfl)) rfl rfl (by decide) ?_
  refine r_val (v := .int _ _) (v_len_sl sl42 (.inl rfl)) rfl rfl (by decide) ?_
  refine r_val (v := .bool _) (v_neq (.inl rfl) (.inl rfl)) rfl rfl (by decide) ?_
  refine r_nil ?_
  refine a_cond rfl (fun ht10 => ?_) (fun ht10 => ?_)
  ·
    skip
    refine a_seq ?_
    refine a_region ?_
    refine r_val (v := .bool _) (v_assign (.inl rfl) (noOwn_flat rfl)) rfl rfl (by decide) ?_
    refine r_nil ?_
    refine a_ret ?_
    refine ret1 Try.results51 (by decide) (by decide) (Weak.of_eq (bool_eq ?_)) rfl Leaves.nil
    simp at ht10; exact (decide_eq_false (fun h => ht10 (by rw [h]))).symm
  ·
    skip
    refine a_skip ?_
    refine a_seq ?_
    refine a_seq ?_
    refine a_region ?_
    refine r_val (v := .int _ _) (v_assign (.inl rfl) (noOwn_flat rfl)) rfl rfl (by decide) ?_
    refine r_nil ?_
    refine a_block ?_
    refine a_loop (X := Nat) (fun i => look [(0, .sl (icells xs) xs.length), (1, .sl (icells ys) ys.length), (5, .int .i64 (i : Int))]) (fun i => i ≤ xs.length ∧ xs.length = ys.length ∧ xs.take i = ys.take i) (fun i => xs.length - i) 0 (ent_look ⟨Weak.of_eq rfl, Weak.of_eq rfl, Weak.of_eq rfl, trivial⟩) ⟨Nat.zero_le _, by simp at ht10; omega, rfl⟩ (fun i hG => ?_)
    obtain ⟨h1, h2, h3⟩ := hG
    refine a_seq ?_
    refine a_seq ?_
    refine a_region ?_
    refine r_val (v := .int _ _) (v_move (.inl rfl) (noOwn_flat rfl)) rfl rfl (by decide) ?_
    refine r_val (v := .sl _ _) (v_move (.inl rfl) (noOwn_flat rfl)) rfl rfl (by decide) ?_
    refine r_val (v := .int _ _) (v_len_sl sl42 (.inl rfl)) rfl rfl (by decide) ?_
    refine r_val (v := .bool _) (v_lss (.inl rfl) (.inl rfl)) rfl rfl (by decide) ?_
    refine r_nil ?_
    refine a_cond rfl (fun ht14 => ?_) (fun ht14 => ?_)
    ·
      skip
      refine a_skip ?_
      refine a_seq ?_
      refine a_block ?_
      refine a_seq ?_
      refine a_region_any mixed (by kernel_rfl) ?_
      have hi : i < xs.length := (by simp at ht14; omega)
      have hi2 : i < ys.length := (by omega)
      refine y_val (v := .sl _ _) (v_move (.inl rfl) (noOwn_flat rfl)) rfl rfl (by decide) (by kernel_rfl) ?_
      refine y_val (v := .int _ _) (v_move (.inl rfl) (noOwn_flat rfl)) rfl rfl (by decide) (by kernel_rfl) ?_
      refine y_val (v := .pp _ _) (v_indexAddr_sl es42 (.inl rfl) (.inl rfl) (fun _ => ⟨by omega, by omega, icells_ne hi⟩)) rfl rfl (by decide) (by kernel_rfl) ?_
      refine y_val (v := .int .i64 (gd xs i)) (v_load_pp ta3 (.inl rfl) (fun _ => by rw [Nat.mul_one]; exact icells_get (gd_get hi)) rfl) rfl rfl (by decide) (by kernel_rfl) ?_
      refine y_val (v := .sl _ _) (v_move (.inl rfl) (noOwn_flat rfl)) rfl rfl (by decide) (by kernel_rfl) ?_
      refine y_val (v := .int _ _) (v_move (.inl rfl) (noOwn_flat rfl)) rfl rfl (by decide) (by kernel_rfl) ?_
      refine y_val (v := .pp _ _) (v_indexAddr_sl es42 (.inl rfl) (.inl rfl) (fun _ => ⟨by omega, by omega, icells_ne hi2⟩)) rfl rfl (by decide) (by kernel_rfl) ?_
      refine y_val (v := .int .i64 (gd ys i)) (v_load_pp ta3 (.inl rfl) (fun _ => by rw [Nat.mul_one]; exact icells_get (gd_get hi2)) rfl) rfl rfl (by decide) (by kernel_rfl) ?_
      refine y_val (v := .bool _) (v_neq (.inl rfl) (.inl rfl)) rfl rfl (by decide) (by kernel_rfl) ?_
      refine y_nil ?_
      refine a_cond rfl (fun ht25 => ?_) (fun ht25 => ?_)
      ·
        skip
        refine a_seq ?_
        refine a_region ?_
        refine r_val (v := .bool _) (v_assign (.inl rfl) (noOwn_flat rfl)) rfl rfl (by decide) ?_
        refine r_nil ?_
        refine a_ret ?_
        refine ret1 Try.results51 (by decide) (by decide) (Weak.of_eq (bool_eq ?_)) rfl Leaves.nil
        simp at ht25; refine (decide_eq_false (fun h => ?_)).symm
        subst h
        simp at ht25
      ·
        skip
        refine a_skip ?_
        refine a_region ?_
        refine r_val (v := .int _ _) (v_move (.inl rfl) (noOwn_flat rfl)) rfl rfl (by decide) ?_
        refine r_val (v := .int _ _) (v_add (.inl rfl) (.inl rfl) (fun _ => by omega)) rfl rfl (by decide) ?_
        refine r_val (v := .int _ _) (v_assign (.inl rfl) (noOwn_flat rfl)) rfl rfl (by decide) ?_
        refine r_nil ?_
        refine ⟨i + 1, ent_look ⟨Weak.of_eq rfl, Weak.of_eq rfl, Weak.of_eq (int_eq (by omega)), trivial⟩, ⟨by omega, h2, take_step hi (by omega) h3 (by rw [gd_elem hi, gd_elem (by omega)]; simpa using ht25)⟩, by omega⟩
    ·
      skip
      refine a_exit ?_
      refine a_seq ?_
      refine a_region ?_
      refine r_val (v := .bool _) (v_assign (.inl rfl) (noOwn_flat rfl)) rfl rfl (by decide) ?_
      refine r_nil ?_
      refine a_ret ?_
      refine ret1 Try.results51 (by decide) (by decide) (Weak.of_eq (bool_eq ?_)) rfl Leaves.nil
      simp at ht14; refine (decide_eq_true ?_).symm
      rw [List.take_of_length_le (by omega), List.take_of_length_le (by omega)] at h3; exact h3

theorem markIntS_c (xs : List Int) (k : Int) (h : -9000000000000000000 ≤ k ∧ k + xs.length ≤ 9223372036854775807 ∧ (xs.length : Int) ≤ 9223372036854775807) : ACall Try.prog 52 [.rsl (INH, []) 1 0 xs.length none, .int .i64 k] [.osl 1 (icells xs) xs.length none] (.int .i64 (k + xs.length)) [.osl 1 (icells (mkI k xs.length)) xs.length none] := by
  refine ACall.intro Try.func52 rfl (N := 19) rfl (by decide) (by simp) ?_
  refine a_seq ?_
  refine a_region ?_
  refine r_val (v := .int _ _) (v_assign (.inl rfl) (noOwn_flat rfl)) rfl rfl (by decide) ?_
  refine r_nil ?_
  refine a_seq ?_
  refine a_seq ?_
  refine a_region ?_
  refine r_val (v := .int _ _) (v_assign (.inl rfl) (noOwn_flat rfl)) rfl rfl (by decide) ?_
  refine r_nil ?_
  refine a_block ?_
  refine a_loop (X := Nat) (fun i => look [(0, .rsl (INH, []) 1 0 xs.length none), (1, .int .i64 (k + (i : Nat))), (5, .int .i64 (i : Int)), (INH, .osl 1 (icells (mkIPart k xs i)) xs.length none)]) (fun i => i ≤ xs.length) (fun i => xs.length - i) 0 (ent_look ⟨Weak.of_eq rfl, Weak.of_eq (int_eq (by omega)), Weak.of_eq rfl, Weak.of_eq (osl_eq (by rw [mkIPart_zero])), trivial⟩) (Nat.zero_le _) (fun i hG => ?_)
  refine a_seq ?_
  refine a_seq ?_
  refine a_region ?_
  refine r_val (v := .int _ _) (v_move (.inl rfl) (noOwn_flat rfl)) rfl rfl (by decide) ?_
  refine r_val (v := .rsl _ _ _ _ _) (v_move (.inl rfl) (noOwn_flat rfl)) rfl rfl (by decide) ?_
  refine r_val (v := .int _ _) (v_len_rsl sl42 (.inl rfl)) rfl rfl (by decide) ?_
  refine r_val (v := .bool _) (v_lss (.inl rfl) (.inl rfl)) rfl rfl (by decide) ?_
  refine r_nil ?_
  refine a_cond rfl (fun ht9 => ?_) (fun ht9 => ?_)
  ·
    skip
    refine a_skip ?_
    refine a_seq ?_
    refine a_block ?_
    refine a_seq ?_
    refine a_region ?_
    have hi : i < xs.length := (by simp at ht9; omega)
    have hpl : i * 1 + 1 ≤ (icells (mkIPart k xs i)).length := (by rw [icells_length, mkIPart_length (by omega)]; omega)
    have hset : (icells (mkIPart k xs i)).set (i * 1) (.int .i64 (k + (i : Nat))) = icells (mkIPart k xs (i + 1)) := (by rw [Nat.mul_one, icells_set, ← mkIPart_set hi])
    refine r_val (v := .rsl _ _ _ _ _) (v_move (.inl rfl) (noOwn_flat rfl)) rfl rfl (by decide) ?_
    refine r_val (v := .int _ _) (v_move (.inl rfl) (noOwn_flat rfl)) rfl rfl (by decide) ?_
    refine r_val (v := .int _ _) (v_move (.inl rfl) (noOwn_flat rfl)) rfl rfl (by decide) ?_
    refine r_val (v := .rp _ _) (v_indexAddr_rsl0 es42 (.inl rfl) (.inl rfl) (fun _ => by omega)) rfl rfl (by decide) ?_
    refine r_step rfl (o_store (v := .int _ _) (y' := .osl _ _ _ _) rfl rfl ta3 (.inl rfl) (.inl rfl) rfl rfl rfl rfl rfl rfl hpl (by decide) rfl (congrArg (fun c => AV.osl 1 c xs.length none) hset)) ?_
    refine r_nil ?_
    refine a_region ?_
    refine r_val (v := .int _ _) (v_move (.inl rfl) (noOwn_flat rfl)) rfl rfl (by decide) ?_
    refine r_val (v := .int _ _) (v_add (.inl rfl) (.inl rfl) (fun _ => by omega)) rfl rfl (by decide) ?_
    refine r_val (v := .int _ _) (v_assign (.inl rfl) (noOwn_flat rfl)) rfl rfl (by decide) ?_
    refine r_nil ?_
    refine a_region ?_
    refine r_val (v := .int _ _) (v_move (.inl rfl) (noOwn_flat rfl)) rfl rfl (by decide) ?_
    refine r_val (v := .int _ _) (v_add (.inl rfl) (.inl rfl) (fun _ => by omega)) rfl rfl (by decide) ?_
    refine r_val (v := .int _ _) (v_assign (.inl rfl) (noOwn_flat rfl)) rfl rfl (by decide) ?_
    refine r_nil ?_
    refine ⟨i + 1, ent_look ⟨Weak.of_eq rfl, Weak.of_eq (int_eq (by omega)), Weak.of_eq (int_eq (by omega)), Weak.of_eq rfl, trivial⟩, by omega, by omega⟩
  ·
    skip
    refine a_exit ?_
    refine a_seq ?_
    refine a_region ?_
    refine r_val (v := .int _ _) (v_move (.inl rfl) (noOwn_flat rfl)) rfl rfl (by decide) ?_
    refine r_val (v := .int _ _) (v_assign (.inl rfl) (noOwn_flat rfl)) rfl rfl (by decide) ?_
    refine r_nil ?_
    refine a_ret ?_
    refine ret1 Try.results52 (by decide) (by decide) (Weak.of_eq (int_eq ?_)) rfl (Leaves.one (Weak.of_eq (osl_eq (by simp at ht9; rw [mkIPart_full (by omega)]))) rfl)
    simp at ht9; omega

theorem heldIntS_c (n : Nat) (k : Int) (h : -9000000000000000000 ≤ k ∧ k + n ≤ 9223372036854775807 ∧ (n : Int) ≤ 9223372036854775807) : ACall Try.prog 53 [.sl (icells (mkI k n)) n, .int .i64 k] [] (.int .i64 (k + n)) [] := by
  refine ACall.intro Try.func53 rfl (N := 21) rfl (by decide) (by simp) ?_
  refine a_seq ?_
  refine a_region ?_
  refine r_val (v := .int _ _) (v_assign (.inl rfl) (noOwn_flat rfl)) rfl rfl (by decide) ?_
  refine r_nil ?_
  refine a_seq ?_
  refine a_seq ?_
  refine a_region ?_
  refine r_val (v := .int _ _) (v_assign (.inl rfl) (noOwn_flat rfl)) rfl rfl (by decide) ?_
  refine r_nil ?_
  refine a_block ?_
  refine a_loop (X := Nat) (fun i => look [(0, .sl (icells (mkI k n)) n), (1, .int .i64 (k + (i : Nat))), (5, .int .i64 (i : Int))]) (fun i => i ≤ n) (fun i => n - i) 0 (ent_look ⟨Weak.of_eq rfl, Weak.of_eq (int_eq (by omega)), Weak.of_eq rfl, trivial⟩) (Nat.zero_le _) (fun i hG => ?_)
  refine a_seq ?_
  refine a_seq ?_
  refine a_region ?_
  refine r_val (v := .int _ _) (v_move (.inl rfl) (noOwn_flat rfl)) rfl rfl (by decide) ?_
  refine r_val (v := .sl _ _) (v_move (.inl rfl) (noOwn_flat rfl)) rfl rfl (by decide) ?_
  refine r_val (v := .int _ _) (v_len_sl sl42 (.inl rfl)) rfl rfl (by decide) ?_
  refine r_val (v := .bool _) (v_lss (.inl rfl) (.inl rfl)) rfl rfl (by decide) ?_
  refine r_nil ?_
  refine a_cond rfl (fun ht9 => ?_) (fun ht9 => ?_)
  ·
    skip
    refine a_skip ?_
    refine a_seq ?_
    refine a_block ?_
    refine a_seq ?_
    refine a_seq ?_
    refine a_region ?_
    have hi : i < n := (by simp at ht9; omega)
    refine r_val (v := .sl _ _) (v_move (.inl rfl) (noOwn_flat rfl)) rfl rfl (by decide) ?_
    refine r_val (v := .int _ _) (v_move (.inl rfl) (noOwn_flat rfl)) rfl rfl (by decide) ?_
    refine r_val (v := .pp _ _) (v_indexAddr_sl es42 (.inl rfl) (.inl rfl) (fun _ => ⟨by omega, by omega, icells_ne (i := i) (by rw [mkI_length]; exact hi)⟩)) rfl rfl (by decide) ?_
    refine r_val (v := .int .i64 (k + (i : Nat))) (v_load_pp ta3 (.inl rfl) (fun _ => by rw [Nat.mul_one, ← mkI_get hi]; exact icells_get (gd_get (by rw [mkI_length]; exact hi))) rfl) rfl rfl (by decide) ?_
    refine r_val (v := .int _ _) (v_move (.inl rfl) (noOwn_flat rfl)) rfl rfl (by decide) ?_
    refine r_val (v := .bool _) (v_neq (.inl rfl) (.inl rfl)) rfl rfl (by decide) ?_
    refine r_nil ?_
    refine a_cond rfl (fun ht17 => ?_) (fun ht17 => ?_)
    ·
      skip
      refine a_seq ?_
      refine a_region ?_
      refine r_val (v := .int _ _) (v_assign (.inl rfl) (noOwn_flat rfl)) rfl rfl (by decide) ?_
      refine r_nil ?_
      refine a_ret ?_
      refine ret1 Try.results53 (by decide) (by decide) (Weak.of_eq (int_eq ?_)) rfl Leaves.nil
      exfalso; simp at ht17
    ·
      skip
      refine a_skip ?_
      refine a_region ?_
      refine r_val (v := .int _ _) (v_move (.inl rfl) (noOwn_flat rfl)) rfl rfl (by decide) ?_
      refine r_val (v := .int _ _) (v_add (.inl rfl) (.inl rfl) (fun _ => by omega)) rfl rfl (by decide) ?_
      refine r_val (v := .int _ _) (v_assign (.inl rfl) (noOwn_flat rfl)) rfl rfl (by decide) ?_
      refine r_nil ?_
      refine a_region ?_
      refine r_val (v := .int _ _) (v_move (.inl rfl) (noOwn_flat rfl)) rfl rfl (by decide) ?_
      refine r_val (v := .int _ _) (v_add (.inl rfl) (.inl rfl) (fun _ => by omega)) rfl rfl (by decide) ?_
      refine r_val (v := .int _ _) (v_assign (.inl rfl) (noOwn_flat rfl)) rfl rfl (by decide) ?_
      refine r_nil ?_
      refine ⟨i + 1, ent_look ⟨Weak.of_eq rfl, Weak.of_eq (int_eq (by omega)), Weak.of_eq (int_eq (by omega)), trivial⟩, by omega, by omega⟩
  ·
    skip
    refine a_exit ?_
    refine a_seq ?_
    refine a_region ?_
    refine r_val (v := .int _ _) (v_move (.inl rfl) (noOwn_flat rfl)) rfl rfl (by decide) ?_
    refine r_val (v := .int _ _) (v_assign (.inl rfl) (noOwn_flat rfl)) rfl rfl (by decide) ?_
    refine r_nil ?_
    refine a_ret ?_
    refine ret1 Try.results53 (by decide) (by decide) (Weak.of_eq (int_eq ?_)) rfl Leaves.nil
    simp at ht9; omega
end Go.Av
namespace Go.Av
open Go Go.Proofs
set_option maxRecDepth 10000



end Go.Av
namespace Go.Av
open Go Go.Proofs
set_option maxRecDepth 10000
theorem ap42 : appTy Try.prog 42 = some (1, 8) := by kernel_rfl
theorem lt42 : litTy Try.prog 42 = some (1, [.int .i64 0]) := by kernel_rfl

theorem cloneI_c (xs : List Int) (n : Nat) (h : xs.length = n ∧ n ≤ 1048576) : ACall Try.prog 48 [.sl (icells xs) n] [] (.osl 1 (icells xs) n none) [] := by
  refine ACall.intro Try.func48 rfl (N := 8) rfl (by decide) (by simp) ?_
  refine a_seq ?_
  refine a_region ?_
  refine r_val (v := .nils) (v_assign (.inl rfl) (noOwn_flat rfl)) rfl rfl (by decide) ?_
  refine r_nil ?_
  refine a_seq ?_
  refine a_seq ?_
  refine a_region ?_
  refine r_val (v := .sl _ _) (v_move (.inl rfl) (noOwn_flat rfl)) rfl rfl (by decide) ?_
  refine r_nileq rfl rfl us42 (.inl rfl) rfl (by decide) (fun b4 hb4 => ?_)
  refine r_nil ?_
  refine a_cond rfl (fun ht4 => ?_) (fun ht4 => ?_)
  ·
    skip
    refine a_seq ?_
    refine a_region ?_
    refine r_val (v := .nils) (v_assign (.inl rfl) (noOwn_flat rfl)) rfl rfl (by decide) ?_
    refine r_nil ?_
    refine a_pre (ent_nil (t := 2) (sz := 1) (cap := none) (.inl rfl) (fun _ h => by cases h)) ?_
    refine a_ret ?_
    refine ret1 Try.results48 (by decide) (by decide) (Weak.osl ?_ ?_) rfl Leaves.nil
    all_goals (have he := hb4 ht4)
    · exact he.symm
    · have := icells_length xs; rw [he] at this; simp at this; omega
  ·
    skip
    refine a_skip ?_
    refine a_seq ?_
    refine a_region ?_
    refine r_new (v := .osl _ _ _ _) (q_sliceLit (n := 0) (parts := []) lt42 rfl rfl rfl rfl) rfl rfl (by decide) ?_
    refine r_val (v := .sl _ _) (v_move (.inl rfl) (noOwn_flat rfl)) rfl rfl (by decide) ?_
    refine r_step rfl (o_append rfl ap42 rfl (by decide) (by decide) rfl (src_sl (.inl rfl) (fun _ => by rw [icells_length]; omega) (ic_pureL _)) (ic_cell _) rfl (by omega)) ?_
    refine r_val (v := .rsl _ _ _ _ _) (v_assign (.inl rfl) (noOwn_flat rfl)) rfl rfl (by decide) ?_
    refine r_pre (ent_reloc_sl (t := 2) rfl rfl) ?_
    refine r_nil ?_
    refine a_ret ?_
    refine ret1 Try.results48 (by decide) (by decide) (Weak.osl ?_ ?_) rfl Leaves.nil
    · rfl
    · omega

theorem l1Own_c (xs : List Int) (n : Nat) (h : xs.length = n ∧ n ≤ 1048576) : ACall Try.prog 46 [.sl (icells xs) n] [] (.osl 1 (icells xs) n none) [] := by
  refine ACall.intro Try.func46 rfl (N := 6) rfl (by decide) (by simp) ?_
  refine a_seq ?_
  refine a_region ?_
  refine r_val (v := .nils) (v_assign (.inl rfl) (noOwn_flat rfl)) rfl rfl (by decide) ?_
  refine r_nil ?_
  refine a_seq ?_
  refine a_region ?_
  refine r_new (v := .osl _ _ _ _) (q_sliceLit (n := 0) (parts := []) lt42 rfl rfl rfl rfl) rfl rfl (by decide) ?_
  refine r_val (v := .sl _ _) (v_move (.inl rfl) (noOwn_flat rfl)) rfl rfl (by decide) ?_
  refine r_step rfl (o_append rfl ap42 rfl (by decide) (by decide) rfl (src_sl (.inl rfl) (fun _ => by rw [icells_length]; omega) (ic_pureL _)) (ic_cell _) rfl (by omega)) ?_
  refine r_val (v := .rsl _ _ _ _ _) (v_assign (.inl rfl) (noOwn_flat rfl)) rfl rfl (by decide) ?_
  refine r_pre (ent_reloc_sl (t := 2) rfl rfl) ?_
  refine r_nil ?_
  refine a_ret ?_
  refine ret1 Try.results46 (by decide) (by decide) (Weak.osl ?_ ?_) rfl Leaves.nil
  · rfl
  · omega
end Go.Av
namespace Go.Av
open Go Go.Proofs
set_option maxRecDepth 10000
theorem iss132 : (Try.prog.underlying 132).isSome = true := by kernel_rfl
theorem iss3 : (Try.prog.underlying 3).isSome = true := by kernel_rfl
theorem uni120 : Try.prog.underlying 120 = some (.int .u64) := by kernel_rfl
theorem uni3 : Try.prog.underlying 3 = some (.int .i64) := by kernel_rfl

end Go.Av
