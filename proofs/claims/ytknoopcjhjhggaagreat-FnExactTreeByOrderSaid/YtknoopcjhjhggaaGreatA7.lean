/- Lemmas, part 7. -/
import Derived.Test.YtknoopcjhjhggaaGreatA6
import Derived.Test.YtknoopcjhjhggaaGreatRows
set_option linter.unusedVariables false
set_option linter.unusedSimpArgs false
namespace Go.Av
open Go Go.Sort
theorem cmpI_lt (a b : Int) : (cmpI a b < 0) ↔ a < b := by unfold cmpI; split <;> (try split) <;> omega
theorem cmpI_swo : SWO (ltc cmpI) where
  irrefl x := by unfold ltc; rw [decide_eq_false_iff_not, cmpI_lt]; omega
  trans x y z h1 h2 := by unfold ltc at *; rw [decide_eq_true_iff, cmpI_lt] at *; omega
  ntrans x y z h1 h2 := by unfold ltc at *; rw [decide_eq_false_iff_not, cmpI_lt] at *; omega
def srtL (vs : List Int) : List Int := (Go.Sort.sort (ltc cmpI) vs.toArray).toList
theorem srtL_len (vs : List Int) : (srtL vs).length = vs.length := by
  have := (sort_facts cmpI_swo vs).2.2
  unfold srtL; simpa using this
theorem srtL_mem {vs : List Int} {x : Int} : x ∈ srtL vs ↔ x ∈ vs := (sort_facts cmpI_swo vs).1 x
theorem srtL_le {vs : List Int} {i j : Nat} (hij : i < j) (hj : j < vs.length) : gd (srtL vs) i ≤ gd (srtL vs) j := by
  have h := (sort_facts cmpI_swo vs).2
  have h2 := h.1 i j (by omega) hij hj
  have h3 : ¬ (Go.Sort.sort (ltc cmpI) vs.toArray)[j]! < (Go.Sort.sort (ltc cmpI) vs.toArray)[i]! := fun hlt => by
    have h4 : ltc cmpI (Go.Sort.sort (ltc cmpI) vs.toArray)[j]! (Go.Sort.sort (ltc cmpI) vs.toArray)[i]! = true := decide_eq_true ((cmpI_lt _ _).2 hlt)
    rw [h2] at h4; cases h4
  have e : ∀ k, k < vs.length → gd (srtL vs) k = (Go.Sort.sort (ltc cmpI) vs.toArray)[k]! := fun k hk => by
    unfold gd srtL
    rw [getElem!_pos _ k (by rw [h.2]; exact hk)]
    rw [Array.getElem?_toList, Array.getElem?_eq_getElem (by rw [h.2]; exact hk)]; rfl
  rw [e i (by omega), e j hj]; omega
def ordB (vars : Int) (vs : List Int) : Bool := decide (srtL vs = upL vars)
theorem upL_length (n : Int) : (upL n).length = n.toNat := by simp [upL]
theorem upL_at {n : Int} {i : Nat} (h : i < n.toNat) : gd (upL n) i = (i : Int) + 1 := by unfold gd upL; simp [h]
theorem idx_all {n : Nat} {f : Nat → Nat} (hlt : ∀ i, i < n → f i < n) (hs : ∀ i j, i < j → j < n → f i < f j) : ∀ i, i < n → f i = i := by
  have lo : ∀ i, i < n → i ≤ f i := fun i => by
    induction i with
    | zero => intro _; omega
    | succ i ih => intro h; have h1 := ih (by omega); have h2 := hs i (i + 1) (by omega) h; omega
  have hi : ∀ k i, i + k + 1 = n → f i ≤ i := fun k => by
    induction k with
    | zero => intro i h; have := hlt i (by omega); omega
    | succ k ih => intro i h; have h1 := ih (i + 1) (by omega); have h2 := hs i (i + 1) (by omega) (by omega); omega
  intro i h
  have h1 := lo i h
  have h2 := hi (n - i - 1) i (by omega)
  omega
theorem ord_iff {vars : Int} {vs : List Int} : srtL vs = upL vars ↔ vs.length = vars.toNat ∧ ∀ v, 1 ≤ v → v ≤ vars → v ∈ vs := by
  constructor
  · intro h
    refine ⟨by rw [← srtL_len, h, upL_length], fun v h1 h2 => ?_⟩
    rw [← srtL_mem, h]; exact mem_upL.2 ⟨h1, h2⟩
  · rintro ⟨hl, hm⟩
    have hx : ∀ i : Nat, i < vars.toNat → ∃ j, j < vars.toNat ∧ gd (srtL vs) j = (i : Int) + 1 := fun i hi => by
      obtain ⟨j, hj, he⟩ := mem_gd (srtL_mem.2 (hm ((i : Int) + 1) (by omega) (by omega)))
      rw [srtL_len] at hj
      exact ⟨j, by omega, he⟩
    let f : Nat → Nat := fun i => if h : i < vars.toNat then Classical.choose (hx i h) else 0
    have hf : ∀ i (h : i < vars.toNat), f i < vars.toNat ∧ gd (srtL vs) (f i) = (i : Int) + 1 := fun i h => by
      show (if h : i < vars.toNat then Classical.choose (hx i h) else 0) < _ ∧ gd (srtL vs) (if h : i < vars.toNat then Classical.choose (hx i h) else 0) = _
      rw [dif_pos h]; exact Classical.choose_spec (hx i h)
    have hid := idx_all (fun i h => (hf i h).1) (fun i j hij hj => by
      have h1 := hf i (by omega)
      have h2 := hf j hj
      rcases Nat.lt_or_ge (f i) (f j) with h | h
      · exact h
      · exfalso
        rcases Nat.eq_or_lt_of_le h with h3 | h3
        · rw [h3, h1.2] at h2; omega
        · have h4 := srtL_le (vs := vs) h3 (by omega)
          rw [h1.2, h2.2] at h4; omega)
    apply List.ext_getElem?
    intro i
    by_cases hi : i < vars.toNat
    · rw [gd_get (show i < (srtL vs).length by rw [srtL_len]; omega), gd_get (show i < (upL vars).length by rw [upL_length]; exact hi), upL_at hi]
      have := (hf i hi).2
      rw [hid i hi] at this; rw [this]
    · rw [List.getElem?_eq_none (by rw [srtL_len]; omega), List.getElem?_eq_none (by rw [upL_length]; omega)]
theorem ordB_len {vars : Int} {vs : List Int} (hv : 0 ≤ vars) (h : ¬ (vs.length : Int) = vars) : ordB vars vs = false := decide_eq_false fun he => h (by have := (ord_iff.1 he).1; omega)
theorem ordB_no {vars : Int} {vs : List Int} {v : Int} (h : 1 ≤ v ∧ v ≤ vars) (hn : ¬ v ∈ vs) : ordB vars vs = false := decide_eq_false fun he => hn ((ord_iff.1 he).2 v h.1 h.2)
theorem ordB_yes {vars : Int} {vs : List Int} (hl : (vs.length : Int) = vars) (h : ∀ v, 1 ≤ v → v ≤ vars → v ∈ vs) : ordB vars vs = true := decide_eq_true (ord_iff.2 ⟨by omega, h⟩)
theorem ordB_mem {vars : Int} {vs : List Int} (h : ordB vars vs = true) {v : Int} : v ∈ vs ↔ 1 ≤ v ∧ v ≤ vars := by
  rw [← srtL_mem, of_decide_eq_true h]; exact mem_upL
theorem ord_ok {vars : Int} {vs : List Int} (h : ordB vars vs = true) : AskOk vars (fopen vs) := fun a _ => by
  rcases fopen_ways vs a with ⟨h1, _⟩ | ⟨h1, h2⟩
  · exact .inl h1
  · have h3 := (ordB_mem h).1 h1
    have h4 := opB_spec.1 h2
    exact .inr ⟨h3.1, h3.2, h4.1, h4.2⟩
theorem ord_all {vars : Int} {vs : List Int} (h : ordB vars vs = true) {a : List Int} (h0 : fopen vs a = 0) : ∀ v, 1 ≤ v → v ≤ vars → v ∈ a ∨ -v ∈ a := fun v h1 h2 => by
  rcases fopen_ways vs a with ⟨_, g2⟩ | ⟨g1, _⟩
  · have g3 := g2 v ((ordB_mem h).2 ⟨h1, h2⟩)
    by_cases hv : v ∈ a
    · exact .inl hv
    · by_cases hv2 : -v ∈ a
      · exact .inr hv2
      · rw [opB_spec.2 ⟨hv, hv2⟩] at g3; cases g3
  · have := (ordB_mem h).1 g1; omega
theorem ord_sm {vars : Int} {vs : List Int} (hv : 0 ≤ vars ∧ vars ≤ 12) (h : ordB vars vs = true) : SmI vs := SmI.of fun x hx => by have := (ordB_mem h).1 hx; omega
def toOk (vars : Int) (L : List (List Int)) (vs : List Int) : Bool := cnfB vars L && ordB vars vs
def toB (vars : Int) (L : List (List Int)) (vs : List Int) : Bool := toOk vars L vs && gwB L (fopen vs)
def toR (vars : Int) (L : List (List Int)) (vs : List Int) : List TN := if toOk vars L vs then gwR L (fopen vs) else []
theorem toR_len (vars : Int) (L : List (List Int)) (vs : List Int) : (toR vars L vs).length ≤ 200 := by
  unfold toR; split
  · exact gwR_len L _
  · simp
end Go.Av
namespace Go.Av
theorem next_ord {vs : List Int} {L : List (List Int)} {a : List Int} : nextV false vs L a = fopen vs a := rfl
end Go.Av
namespace Go.Av
open Go
theorem ext_gdA {a b : List Int} (hl : a.length = b.length) (h : ∀ j, j < a.length → gd a j = gd b j) : a = b := by
  apply List.ext_getElem? 
  intro j
  by_cases hj : j < a.length
  · rw [gd_get hj, gd_get (show j < b.length by omega), h j hj]
  · rw [List.getElem?_eq_none (by omega), List.getElem?_eq_none (by omega)]
end Go.Av
namespace Go.Av
open Go Go.Proofs Go.Sort
set_option maxRecDepth 10000
theorem hb55 : hasBody Tryz.prog 55 = true := by kernel_rfl
theorem hb56 : hasBody Tryz.prog 56 = true := by kernel_rfl
theorem hb57 : hasBody Tryz.prog 57 = true := by kernel_rfl
theorem equalI_c (a b : List Int) (ha : a.length ≤ 1048576) (hb : b.length ≤ 1048576) : ACall Tryz.prog 56 [.sl (icells a) a.length, .sl (icells b) b.length] [] (.bool (decide (a = b))) [] := by
 refine ACall.intro Tryz.func56 rfl (N := 26) rfl (by decide) (by simp) ?_
 refine a_seq ?_
 refine a_region ?_
 refine rv (v := .bool _) (v_assign il nf) ?_
 refine r_nil ?_
 refine a_seq ?_
 refine a_seq ?_
 refine a_region ?_
 refine rv (v := .sl _ _) (v_move il nf) ?_
 refine rv (v := .int _ _) (v_len_sl sl25 il) ?_
 refine rv (v := .sl _ _) (v_move il nf) ?_
 refine rv (v := .int _ _) (v_len_sl sl25 il) ?_
 refine rv (v := .bool _) (v_neq il il) ?_
 refine r_nil ?_
 refine a_cond rfl (fun ht10 => ?_) (fun ht10 => ?_)
 ·
  skip
  refine a_seq ?_
  refine a_region ?_
  refine rv (v := .bool _) (v_assign il nf) ?_
  refine r_nil ?_
  refine a_ret ?_
  refine ret1 Tryz.results56 (by decide) (by decide) (Weak.of_eq (bool_eq ?_)) rfl Leaves.nil
  exact (decide_eq_false (fun h => by subst h; simp at ht10)).symm
 ·
  skip
  refine a_skip ?_
  refine a_seq ?_
  refine a_seq ?_
  have hlen : a.length = b.length := (by simp at ht10; omega)
  refine a_region ?_
  refine rv (v := .sl _ _) (v_move il nf) ?_
  refine rv (v := .int _ _) (v_len_sl sl25 il) ?_
  refine rv (v := .int _ _) (v_move il nf) ?_
  refine r_nil ?_
  refine a_block ?_
  refine a_loop (X := Nat) (fun i => look [(0, .sl (icells a) a.length), (1, .sl (icells b) b.length), (12, .int .i64 ((a.length : Nat) : Int)), (13, .int .i64 ((i : Nat) : Int))]) (fun i => i ≤ a.length ∧ ∀ j, j < i → gd a j = gd b j) (fun i => a.length - i) 0 (ent_look ⟨Weak.of_eq rfl, Weak.of_eq rfl, Weak.of_eq rfl, Weak.of_eq rfl, trivial⟩) ⟨Nat.zero_le _, fun j h => by omega⟩ (fun i hG => ?_)
  obtain ⟨g1, g2⟩ := hG
  refine a_seq ?_
  refine a_region ?_
  refine rv (v := .bool _) (v_lss il il) ?_
  refine r_nil ?_
  refine a_seq ?_
  refine a_cond rfl (fun ht14 => ?_) (fun ht14 => ?_)
  ·
   skip
   refine a_skip ?_
   refine a_seq ?_
   refine a_block ?_
   refine a_seq ?_
   have hi : i < a.length := (by simp at ht14; omega)
   have hib : i < b.length := (by omega)
   refine a_region ?_
   refine rv (v := .int _ _) (v_move il nf) ?_
   refine rv (v := .int _ _) (v_assign il nf) ?_
   refine r_nil ?_
   refine a_seq ?_
   refine a_region_any mixed (by kernel_rfl) ?_
   refine yv (v := .sl _ _) (v_move il nf) ?_
   refine yv (v := .int _ _) (v_move il nf) ?_
   refine yv (v := .pp _ _) (v_indexAddr_sl es25 il il (fun _ => ⟨by omega, by omega, icells_ne hi⟩)) ?_
   refine yv (v := .int .i64 (gd a i)) (v_load_pp ta3 il (fun _ => by rw [Nat.mul_one]; exact icells_get (gd_get hi)) rfl) ?_
   refine yv (v := .sl _ _) (v_move il nf) ?_
   refine yv (v := .int _ _) (v_move il nf) ?_
   refine yv (v := .pp _ _) (v_indexAddr_sl es25 il il (fun _ => ⟨by omega, by omega, icells_ne hib⟩)) ?_
   refine yv (v := .int .i64 (gd b i)) (v_load_pp ta3 il (fun _ => by rw [Nat.mul_one]; exact icells_get (gd_get hib)) rfl) ?_
   refine yv (v := .bool _) (v_neq il il) ?_
   refine y_nil ?_
   refine a_cond rfl (fun ht24 => ?_) (fun ht24 => ?_)
   ·
    skip
    refine a_seq ?_
    refine a_region ?_
    refine rv (v := .bool _) (v_assign il nf) ?_
    refine r_nil ?_
    refine a_ret ?_
    refine ret1 Tryz.results56 (by decide) (by decide) (Weak.of_eq (bool_eq ?_)) rfl Leaves.nil
    exact (decide_eq_false (fun h => by subst h; simp at ht24)).symm
   ·
    skip
    refine a_skip ?_
    refine a_region ?_
    refine rv (v := .int _ _) (v_add il il (fun _ => by omega)) ?_
    refine rv (v := .int _ _) (v_move il nf) ?_
    refine r_nil ?_
    refine ⟨i + 1, ent_look ⟨Weak.of_eq rfl, Weak.of_eq rfl, Weak.of_eq rfl, Weak.of_eq (int_eq (by omega)), trivial⟩, ⟨by omega, fun j h1 => by rcases Nat.lt_or_ge j i with h | h; exact g2 j h; (obtain rfl : j = i := by omega); simpa using ht24⟩, by omega⟩
  ·
   skip
   refine a_exit ?_
   refine a_seq ?_
   refine a_region ?_
   refine rv (v := .bool _) (v_assign il nf) ?_
   refine r_nil ?_
   refine a_ret ?_
   refine ret1 Tryz.results56 (by decide) (by decide) (Weak.of_eq (bool_eq ?_)) rfl Leaves.nil
   simp at ht14; exact (decide_eq_true (ext_gdA hlen (fun j hj => g2 j (by omega)))).symm
theorem orderOk_c (n : Int) (vs : List Int) (hn : 0 ≤ n ∧ n ≤ 12) (hvl : vs.length ≤ 1048576) : ACall Tryz.prog 30 [.int .i64 n, .sl (icells vs) vs.length] [] (.bool (ordB n vs)) [] := by
 have hul := upL_len hn
 have hsl := srtL_len vs
 refine ACall.intro Tryz.func30 rfl (N := 14) rfl (by decide) (by simp) ?_
 refine a_seq ?_
 refine a_region ?_
 refine rv (v := .bool _) (v_assign il nf) ?_
 refine r_nil ?_
 refine a_seq ?_
 refine a_region ?_
 refine rv (v := .sl _ _) (v_move il nf) ?_
 refine rn (v := .osl _ _ _ _) (q_call (vs := [.sl _ _]) (args := [.sl _ _]) hb54 ⟨il, trivial⟩ rfl (fun hA => cloneI_c _ _ ⟨rfl, by omega⟩) (ic_noSh _) (ic_noRef _)) ?_
 refine rv (v := .rsl _ _ _ _ _) (v_assign il nf) ?_
 refine r_pre (ent_reloc_sl (t := 5) rfl rfl) ?_
 refine r_nil ?_
 refine a_seq ?_
 refine a_region ?_
 refine rv (v := .rsl _ _ _ _ _) (v_move il nf) ?_
 refine r_step rfl (o_callIO (q := (5, [])) (vs := [.rsl _ _ _ _ _]) (args := [.rsl (INH, []) _ _ _ _]) (x0 := .osl _ _ _ _) (x1 := .osl _ _ _ _) (res := .tup []) rfl hb55 rfl (by decide) ⟨.inl rfl, trivial⟩ rfl rfl (sortQ_c cmpI_swo vs.toArray vs.length (by simp) (by omega)) rfl rfl rfl (ac_noSh _) (ac_noRef _) (Nat.le_of_ble_eq_true rfl) (by decide) rfl) ?_
 refine r_nil ?_
 refine a_seq ?_
 refine a_pre (ent_eq (t := 5) (v' := .osl 1 (icells (srtL vs)) (srtL vs).length none) (Weak.osl rfl hsl.symm)) ?_
 refine a_region ?_
 refine rv (v := .rsl _ _ _ _ _) (v_move il nf) ?_
 refine rv (v := .int _ _) (v_move il nf) ?_
 refine rn (v := .osl _ _ _ _) (q_call (vs := [.int _ _]) (args := [.int .i64 _]) hb57 ⟨il, trivial⟩ rfl (fun hA => upTo9_c n hn) (ic_noSh _) (ic_noRef _)) ?_
 refine rn (v := .bool _) (q_call (vs := [.rsl _ _ _ _ _, .rsl _ _ _ _ _]) (args := [.sl _ _, .sl _ _]) hb56 ⟨il, il, trivial⟩ (l2_eq (sl_sh (ic_pure _)) (sl_sh (ic_pure _))) (fun hA => equalI_c (srtL vs) (upL n) (by omega) (by omega)) rfl rfl) ?_
 refine rv (v := .bool _) (v_assign il nf) ?_
 refine r_nil ?_
 refine a_ret ?_
 refine ret1 Tryz.results30 (by decide) (by decide) (Weak.of_eq (bool_eq ?_)) rfl Leaves.nil
 rfl
theorem order8_c (n : Int) (vs : List Int) (hn : 0 ≤ n ∧ n ≤ 12) (hvl : vs.length ≤ 1048576) : ACall Tryz.prog 24 [.int .i64 n, .sl (icells vs) vs.length] [] (.bool (ordB n vs)) [] := by
 refine ACall.intro Tryz.func24 rfl (N := 19) rfl (by decide) (by simp) ?_
 refine a_seq ?_
 refine a_region ?_
 refine rv (v := .bool _) (v_assign il nf) ?_
 refine r_nil ?_
 refine a_seq ?_
 refine a_seq ?_
 refine a_region ?_
 refine rv (v := .sl _ _) (v_move il nf) ?_
 refine rv (v := .int _ _) (v_len_sl sl25 il) ?_
 refine rv (v := .int _ _) (v_move il nf) ?_
 refine rv (v := .bool _) (v_neq il il) ?_
 refine r_nil ?_
 refine a_cond rfl (fun ht9 => ?_) (fun ht9 => ?_)
 ·
  skip
  refine a_seq ?_
  refine a_region ?_
  refine rv (v := .bool _) (v_assign il nf) ?_
  refine r_nil ?_
  refine a_ret ?_
  refine ret1 Tryz.results24 (by decide) (by decide) (Weak.of_eq (bool_eq ?_)) rfl Leaves.nil
  exact (ordB_len hn.1 (by simpa using ht9)).symm
 ·
  skip
  refine a_skip ?_
  refine a_seq ?_
  refine a_seq ?_
  refine a_region ?_
  refine rv (v := .int _ _) (v_assign il nf) ?_
  refine r_nil ?_
  refine a_block ?_
  refine a_loop (X := Nat) (fun k => look [(0, .int .i64 n), (1, .sl (icells vs) vs.length), (5, .int .i64 ((k + 1 : Nat) : Int))]) (fun k => (k : Int) ≤ n ∧ ∀ v, 1 ≤ v → v ≤ (k : Int) → v ∈ vs) (fun k => n.toNat - k) 0 (ent_look ⟨Weak.of_eq rfl, Weak.of_eq rfl, Weak.of_eq rfl, trivial⟩) ⟨by omega, fun v h1 h2 => by omega⟩ (fun k hG => ?_)
  obtain ⟨g1, g2⟩ := hG
  refine a_seq ?_
  refine a_seq ?_
  refine a_region ?_
  refine rv (v := .int _ _) (v_move il nf) ?_
  refine rv (v := .int _ _) (v_move il nf) ?_
  refine rv (v := .bool _) (v_leq il il) ?_
  refine r_nil ?_
  refine a_cond rfl (fun ht12 => ?_) (fun ht12 => ?_)
  ·
   skip
   refine a_skip ?_
   refine a_seq ?_
   refine a_block ?_
   refine a_seq ?_
   have hi : ((k + 1 : Nat) : Int) ≤ n := (by simpa using ht12)
   refine a_region ?_
   refine rv (v := .sl _ _) (v_move il nf) ?_
   refine rv (v := .int _ _) (v_move il nf) ?_
   refine rn (v := .bool _) (q_call (vs := [.sl _ _, .int _ _]) (args := [.sl _ _, .int .i64 _]) hb48 ⟨il, il, trivial⟩ rfl (fun hA => has_c vs vs.length _ ⟨rfl, by omega⟩) rfl rfl) ?_
   refine rv (v := .bool _) (v_not il) ?_
   refine r_nil ?_
   refine a_cond rfl (fun ht18 => ?_) (fun ht18 => ?_)
   ·
    skip
    refine a_seq ?_
    refine a_region ?_
    refine rv (v := .bool _) (v_assign il nf) ?_
    refine r_nil ?_
    refine a_ret ?_
    refine ret1 Tryz.results24 (by decide) (by decide) (Weak.of_eq (bool_eq ?_)) rfl Leaves.nil
    exact (ordB_no (v := ((k + 1 : Nat) : Int)) ⟨by omega, hi⟩ (by simpa using ht18)).symm
   ·
    skip
    refine a_skip ?_
    refine a_region ?_
    refine rv (v := .int _ _) (v_move il nf) ?_
    refine rv (v := .int _ _) (v_add il il (fun _ => by omega)) ?_
    refine rv (v := .int _ _) (v_assign il nf) ?_
    refine r_nil ?_
    refine ⟨k + 1, ent_look ⟨Weak.of_eq rfl, Weak.of_eq rfl, Weak.of_eq (int_eq (by omega)), trivial⟩, ⟨by omega, fun v h1 h2 => by rcases Int.lt_or_le (k : Int) v with h | h; (obtain rfl : v = ((k + 1 : Nat) : Int) := by omega); (simpa using ht18); exact g2 v h1 h⟩, by omega⟩
  ·
   skip
   refine a_exit ?_
   refine a_seq ?_
   refine a_region ?_
   refine rv (v := .bool _) (v_assign il nf) ?_
   refine r_nil ?_
   refine a_ret ?_
   refine ret1 Tryz.results24 (by decide) (by decide) (Weak.of_eq (bool_eq ?_)) rfl Leaves.nil
   exact (ordB_yes (by simpa using ht9) (fun v h1 h2 => g2 v h1 (by simp at ht12; omega))).symm
end Go.Av
namespace Go.Av
open Go Go.Proofs Go.Sort
set_option maxRecDepth 10000
theorem hb29 : hasBody Tryz.prog 29 = true := by kernel_rfl
theorem hb30 : hasBody Tryz.prog 30 = true := by kernel_rfl
theorem hb31 : hasBody Tryz.prog 31 = true := by kernel_rfl
theorem hb32 : hasBody Tryz.prog 32 = true := by kernel_rfl
theorem hb33 : hasBody Tryz.prog 33 = true := by kernel_rfl
theorem oask_c (vs a : List Int) (hs : SmI vs) (hvl : vs.length ≤ 1048576) (ha : a.length ≤ 1048576) : ACall Tryz.prog 32 [.sl (icells a) a.length, .pp [.sl (icells vs) vs.length] 0] [] (.int .i64 (fopen vs a)) [] := by
 refine ACall.intro Tryz.func32 rfl (N := 7) rfl (by decide) (by simp) ?_
 refine a_seq ?_
 refine a_region ?_
 refine rv (v := .int _ _) (v_assign il nf) ?_
 refine r_nil ?_
 refine a_seq ?_
 refine a_region ?_
 refine rv (v := .sl _ _) (v_load_pp ta25 il (fun _ => rfl) rfl) ?_
 refine rv (v := .sl _ _) (v_move il nf) ?_
 refine rn (v := .int _ _) (q_call (vs := [.sl _ _, .sl _ _]) (args := [.sl _ _, .sl _ _]) hb33 ⟨il, il, trivial⟩ rfl (fun hA => fopen_c vs a hs hvl ha) rfl rfl) ?_
 refine rv (v := .int _ _) (v_assign il nf) ?_
 refine r_nil ?_
 refine a_ret ?_
 refine ret1 Tryz.results32 (by decide) (by decide) (Weak.of_eq (int_eq ?_)) rfl Leaves.nil
 rfl
theorem iTbo_c (vars : Int) (L : List (List Int)) (vs : List Int) (hk : CnfOk vars L) (hvl : vs.length ≤ 1048576) : ACall Tryz.prog 9 [.agg [.int .i64 vars, .sl (sls L) L.length], .sl (icells vs) vs.length] [] (.tup [.osl 4 (tncells (toR vars L vs)) (toR vars L vs).length none, .bool (toB vars L vs)]) [] := by
 have hbU := hb32
 refine ACall.intro Tryz.func9 rfl (N := 21) rfl (by decide) (by simp) ?_
 refine a_seq ?_
 refine a_region ?_
 refine rn (v := .op [.int _ _, .sl _ _]) (q_box il rfl rfl) ?_
 refine rn (v := .op [.sl _ _]) (q_box il rfl rfl) ?_
 refine rv (v := .nils) (v_assign il nf) ?_
 refine rv (v := .bool _) (v_assign il nf) ?_
 refine r_nil ?_
 refine a_seq ?_
 refine a_seq ?_
 refine a_region ?_
 refine rv (v := .agg [.int _ _, .sl _ _]) (v_load_rpa1 ta30 il rfl rfl (fun _ => rfl) rfl) ?_
 refine rn (v := .bool _) (q_call (vs := [.agg [.int _ _, .sl _ _]]) (args := [.agg [.int .i64 _, .sl _ _]]) hb29 ⟨il, trivial⟩ rfl (fun hA => isCnf_c vars L hk) rfl rfl) ?_
 refine rv (v := .bool _) (v_not il) ?_
 refine rv (v := .bool _) (v_move il nf) ?_
 refine r_gval (v := .rp _ _) (v_fieldAddr_rp fo30_0 il) rfl rfl rfl (by decide) (.inl ⟨_, rfl, rfl⟩) rfl (by decide) ?_
 refine r_gval (v := .int _ _) (v_load_rp1 ta3 (.inr ⟨_, rfl, fun h => h⟩) rfl (fun _ => rfl) rfl) rfl rfl rfl (by decide) (.inl ⟨_, rfl, rfl⟩) rfl (by decide) ?_
 refine r_gval (v := .sl _ _) (v_load_rp1 ta25 il rfl (fun _ => rfl) rfl) rfl rfl rfl (by decide) (.inl ⟨_, rfl, rfl⟩) rfl (by decide) ?_
 refine r_guard (v := .bool _) (q_call (vs := [.int _ _, .sl _ _]) (args := [.int .i64 _, .sl _ _]) hb30 ⟨.inr ⟨_, rfl, fun h => h⟩, .inr ⟨_, rfl, fun h => h⟩, trivial⟩ rfl (fun hA => orderOk_c vars vs (cnfB_spec (by simpa using hA)).1 hvl) rfl rfl) rfl rfl rfl (by decide) (.inl ⟨_, rfl, rfl⟩) rfl (by decide) ?_
 refine r_gval (v := .bool _) (v_not (.inr ⟨_, rfl, fun h => h⟩)) rfl rfl rfl (by decide) (.inl ⟨_, rfl, rfl⟩) rfl (by decide) ?_
 refine rv (v := .bool _) (v_pick (.inl rfl) (.inl rfl) (.inr ⟨_, rfl, fun h h2 => by simp_all⟩)) ?_
 refine r_nil ?_
 refine a_cond rfl (fun ht15 => ?_) (fun ht15 => ?_)
 ·
  skip
  refine a_seq ?_
  have hno : toOk vars L vs = false := (by unfold toOk; cases h1 : cnfB vars L <;> simp_all)
  have hb9 : toB vars L vs = false := (by unfold toB; rw [hno]; rfl)
  have hr9 : toR vars L vs = [] := (by unfold toR; rw [hno]; rfl)
  refine a_region ?_
  refine rv (v := .nils) (v_assign il nf) ?_
  refine rv (v := .bool _) (v_assign il nf) ?_
  refine r_nil ?_
  refine a_pre (ent_nil (t := 4) (sz := 4) (cap := none) (.inl rfl) (fun _ h => by cases h)) ?_
  refine a_ret ?_
  refine retL (rs := [.tmp 4, .tmp 5]) [(4, .osl _ _ _ none), (5, _)] ⟨Weak.osl rfl rfl, Weak.rfl, trivial⟩ rfl Tryz.results9 (by decide) ⟨by decide, by decide, rfl⟩ (by decide) (by decide) (l2_eq (osl_eq2 ?_ ?_) (bool_eq ?_)) rfl
  all_goals (first | exact hb9.symm | (rw [hr9]; done) | (rw [hr9]; rfl))
 ·
  skip
  refine a_skip ?_
  refine a_seq ?_
  have hye : cnfB vars L = true ∧ ordB vars vs = true := (by cases h1 : cnfB vars L <;> cases h2 : ordB vars vs <;> simp_all)
  have hcs := cnfB_spec hye.1
  have hca0 := nil_cl hye.1
  have hAo := ord_ok hye.2
  have hsv := ord_sm hcs.1 hye.2
  have hok : toOk vars L vs = true := (by unfold toOk; rw [hye.1, hye.2]; rfl)
  have hb9 : toB vars L vs = gwB L (fopen vs) := (by unfold toB; rw [hok]; rfl)
  have hr9 : toR vars L vs = gwR L (fopen vs) := (by unfold toR; rw [hok]; rfl)
  refine a_region ?_
  refine rv (v := .agg [.int _ _, .sl _ _]) (v_load_rpa1 ta30 il rfl rfl (fun _ => rfl) rfl) ?_
  refine rv (v := .fn _ _ _) (v_makeFunc (first := []) (caps := [.tmp 3]) rfl rfl) ?_
  refine rn (v := .tup [.osl _ _ _ _, .bool _]) (q_call (vs := [.agg [.int _ _, .sl _ _], .fn _ _ _]) (args := [.agg [.int .i64 _, .sl _ _], .fn _ _ _]) hb31 ⟨il, il, trivial⟩ rfl (fun hA => grown_c vars L 32 [.pp [.sl (icells vs) vs.length] 0] rfl hbU (fopen vs) hcs.2.2 hcs.2.1 hca0 hAo (fun a h => oask_c vs a hsv hvl (by have := clB_len h; omega))) (by simp [noSh, noShL, tn_noSh]) (by simp [noRef, noRefL, tn_noRef])) ?_
  refine rv (v := .rsl _ _ _ _ _) (v_extract rfl rfl) ?_
  refine rv (v := .bool _) (v_extract rfl rfl) ?_
  refine rv (v := .rsl _ _ _ _ _) (v_assign il nf) ?_
  refine r_pre (ent_reloc_sl (t := 4) rfl rfl) ?_
  refine rv (v := .bool _) (v_assign il nf) ?_
  refine r_nil ?_
  refine a_ret ?_
  refine retL (rs := [.tmp 4, .tmp 5]) [(4, .osl _ _ _ none), (5, _)] ⟨Weak.osl rfl rfl, Weak.rfl, trivial⟩ rfl Tryz.results9 (by decide) ⟨by decide, by decide, rfl⟩ (by decide) (by decide) (l2_eq (osl_eq2 ?_ ?_) (bool_eq ?_)) rfl
  all_goals (first | exact hb9.symm | (rw [hr9]; done) | (rw [hr9]; rfl))
end Go.Av
namespace Go.Av
open Go
mutual
theorem passV_congr {q : Place} {σ σ0 : Sig} : ∀ (x : AV), (∀ p ∈ refs x, σ p.1 = σ0 p.1) → passV q σ x = passV q σ0 x
  | .rsl p sz off n cap, h => by
    simp only [passV]; split
    · rfl
    · exact snapV_congr _ h
  | .rp p off, h => by
    simp only [passV]; split
    · rfl
    · exact snapV_congr _ h
  | .agg cs, h => by simp only [passV, passL_congr cs (fun p hp => h p (by simpa [refs] using hp))]
  | .fn f us cs, h => by simp only [passV, passL_congr us (fun p hp => h p (by simp [refs, hp])), passL_congr cs (fun p hp => h p (by simp [refs, hp]))]
  | .undef, h | .int .., h | .bool _, h | .str _, h | .nilp, h | .nils, h | .emp, h | .sl .., h | .pp .., h | .tup _, h | .when .., h | .osl .., h | .op _, h => by simp only [passV]; exact snapV_congr _ h
theorem passL_congr {q : Place} {σ σ0 : Sig} : ∀ (cs : List AV), (∀ p ∈ refsL cs, σ p.1 = σ0 p.1) → passL q σ cs = passL q σ0 cs
  | [], _ => rfl
  | c :: cs, h => by simp only [passL, passV_congr c (fun p hp => h p (by simp [refsL, hp])), passL_congr cs (fun p hp => h p (by simp [refsL, hp]))]
end
end Go.Av
namespace Go.Av
open Go Go.Proofs Go.Sort
set_option maxRecDepth 10000
theorem hb23 : hasBody Tryz.prog 23 = true := by kernel_rfl
theorem hb24 : hasBody Tryz.prog 24 = true := by kernel_rfl
theorem hb25 : hasBody Tryz.prog 25 = true := by kernel_rfl
theorem hb26 : hasBody Tryz.prog 26 = true := by kernel_rfl
theorem sp49 : structPl Tryz.prog 49 = some ([.nils, .bool false, .nils], [(0, 1), (1, 1), (2, 1)]) := by kernel_rfl
theorem sTbo_c (vars : Int) (L : List (List Int)) (vs : List Int) (hk : CnfOk vars L) (hvl : vs.length ≤ 1048576) : ACall Tryz.prog 6 [.agg [.int .i64 vars, .sl (sls L) L.length], .sl (icells vs) vs.length] [] (.tup [.osl 4 (tncells (toR vars L vs)) (toR vars L vs).length none, .bool (toB vars L vs)]) [] := by
 refine ACall.intro Tryz.func6 rfl (N := 30) rfl (by decide) (by simp) ?_
 refine a_seq ?_
 refine a_region ?_
 refine rn (v := .op [.int _ _, .sl _ _]) (q_box il rfl rfl) ?_
 refine rv (v := .nils) (v_assign il nf) ?_
 refine rv (v := .bool _) (v_assign il nf) ?_
 refine r_nil ?_
 refine a_seq ?_
 refine a_seq ?_
 refine a_region ?_
 refine rv (v := .agg [.int _ _, .sl _ _]) (v_load_rpa1 ta30 il rfl rfl (fun _ => rfl) rfl) ?_
 refine rn (v := .bool _) (q_call (vs := [.agg [.int _ _, .sl _ _]]) (args := [.agg [.int .i64 _, .sl _ _]]) hb23 ⟨il, trivial⟩ rfl (fun hA => l2Good_c vars L hk) rfl rfl) ?_
 refine rv (v := .bool _) (v_not il) ?_
 refine rv (v := .bool _) (v_move il nf) ?_
 refine r_gval (v := .rp _ _) (v_fieldAddr_rp fo30_0 il) rfl rfl rfl (by decide) (.inl ⟨_, rfl, rfl⟩) rfl (by decide) ?_
 refine r_gval (v := .int _ _) (v_load_rp1 ta3 (.inr ⟨_, rfl, fun h => h⟩) rfl (fun _ => rfl) rfl) rfl rfl rfl (by decide) (.inl ⟨_, rfl, rfl⟩) rfl (by decide) ?_
 refine r_gval (v := .sl _ _) (v_move il nf) rfl rfl rfl (by decide) (.inl ⟨_, rfl, rfl⟩) rfl (by decide) ?_
 refine r_guard (v := .bool _) (q_call (vs := [.int _ _, .sl _ _]) (args := [.int .i64 _, .sl _ _]) hb24 ⟨.inr ⟨_, rfl, fun h => h⟩, .inr ⟨_, rfl, fun h => h⟩, trivial⟩ rfl (fun hA => order8_c vars vs (cnfB_spec (by simpa using hA)).1 hvl) rfl rfl) rfl rfl rfl (by decide) (.inl ⟨_, rfl, rfl⟩) rfl (by decide) ?_
 refine r_gval (v := .bool _) (v_not (.inr ⟨_, rfl, fun h => h⟩)) rfl rfl rfl (by decide) (.inl ⟨_, rfl, rfl⟩) rfl (by decide) ?_
 refine rv (v := .bool _) (v_pick (.inl rfl) (.inl rfl) (.inr ⟨_, rfl, fun h h2 => by simp_all⟩)) ?_
 refine rv (v := .bool _) (v_move il nf) ?_
 refine r_gval (v := .agg [.int _ _, .sl _ _]) (v_load_rpa1 ta30 il rfl rfl (fun _ => rfl) rfl) rfl rfl rfl (by decide) (.inl ⟨_, rfl, rfl⟩) rfl (by decide) ?_
 refine r_guard (v := .bool _) (q_call (vs := [.agg [.int _ _, .sl _ _]]) (args := [.agg [.int .i64 _, .sl _ _]]) hb25 ⟨.inr ⟨_, rfl, fun h => h⟩, trivial⟩ rfl (fun hA => sat5_c vars L (by simp at hA; exact hA.1)) rfl rfl) rfl rfl rfl (by decide) (.inl ⟨_, rfl, rfl⟩) rfl (by decide) ?_
 refine rv (v := .bool _) (v_pick (.inl rfl) (.inl rfl) (.inr ⟨_, rfl, fun h h2 => by simp_all⟩)) ?_
 refine r_nil ?_
 refine a_cond rfl (fun ht19 => ?_) (fun ht19 => ?_)
 ·
  skip
  refine a_seq ?_
  have hbr : toB vars L vs = false ∧ toR vars L vs = [] := (by cases h0 : toOk vars L vs with
  | false => exact ⟨by unfold toB; rw [h0]; rfl, by unfold toR; rw [h0]; rfl⟩
  | true => (have hye : cnfB vars L = true ∧ ordB vars vs = true := (by unfold toOk at h0; simpa using h0)); (have hsa : 0 ≤ fW vars L := (by rw [hye.1, hye.2] at ht19; simpa using ht19)); (have hgw := gw_sat (nil_cl hye.1) (ord_ok hye.2) hsa); exact ⟨by unfold toB; rw [hgw, Bool.and_false], by unfold toR; rw [h0, gwR_no hgw]; rfl⟩)
  obtain ⟨hb9, hr9⟩ := hbr
  refine a_region ?_
  refine rn (v := .osl _ _ _ _) (q_sliceLit (n := 0) (parts := []) lt27 rfl rfl rfl rfl) ?_
  refine rv (v := .rsl _ _ _ _ _) (v_assign il nf) ?_
  refine r_pre (ent_reloc_sl (t := 4) rfl rfl) ?_
  refine rv (v := .bool _) (v_assign il nf) ?_
  refine r_nil ?_
  refine a_ret ?_
  refine retL (rs := [.tmp 4, .tmp 5]) [(4, .osl _ _ _ none), (5, _)] ⟨Weak.osl rfl rfl, Weak.rfl, trivial⟩ rfl Tryz.results6 (by decide) ⟨by decide, by decide, rfl⟩ (by decide) (by decide) (l2_eq (osl_eq2 ?_ ?_) (bool_eq ?_)) rfl
  all_goals (first | exact hb9.symm | (rw [hr9]; done) | (rw [hr9]; rfl))
 ·
  skip
  refine a_skip ?_
  refine a_seq ?_
  have hye : cnfB vars L = true ∧ ordB vars vs = true := (by cases h1 : cnfB vars L <;> cases h2 : ordB vars vs <;> simp_all)
  have hok : toOk vars L vs = true := (by unfold toOk; rw [hye.1, hye.2]; rfl)
  have hns : ¬ 0 ≤ fW vars L := (by rw [hye.1, hye.2] at ht19; simpa using ht19)
  have hcs := cnfB_spec hye.1
  have hca0 := nil_cl hye.1
  have hAo := ord_ok hye.2
  have hsv := ord_sm hcs.1 hye.2
  have hUn := un_ask hcs.2.2 (fun a _ h0 => ord_all hye.2 h0) hns
  have hsame := gs_same hca0 hAo hUn
  have hb9 : (!decide (((grS L (fopen vs) 13 [] []).length : Int) > 199)) = toB vars L vs := (by rw [show (!decide (((grS L (fopen vs) 13 [] []).length : Int) > 199)) = gsB L (fopen vs) from rfl, hsame.1]; unfold toB; rw [hok]; rfl)
  have hr9 : (if ((grS L (fopen vs) 13 [] []).length : Int) > 199 then [] else (grS L (fopen vs) 13 [] [])) = toR vars L vs := (by unfold toR; rw [hok, if_pos rfl, ← hsame.2]; unfold gsR gsB; by_cases h : ((grS L (fopen vs) 13 [] []).length : Int) > 199 <;> simp [h])
  refine a_region ?_
  refine rv (v := .agg [.int _ _, .sl _ _]) (v_load_rpa1 ta30 il rfl rfl (fun _ => rfl) rfl) ?_
  refine rn (v := .osl _ _ _ _) (q_sliceLit (n := 0) (parts := []) lt25 rfl rfl rfl rfl) ?_
  refine rv (v := .sl _ _) (v_move il nf) ?_
  refine rv (v := .agg [.sl _ _, .bool _, .nils]) (v_build sp49 rfl rfl) ?_
  refine rn (v := .osl _ _ _ _) (q_sliceLit (n := 0) (parts := []) lt27 rfl rfl rfl rfl) ?_
  refine r_pre (ent_eq (t := 25) (v' := .osl 4 (tncells []) ([] : List TN).length none) (Weak.osl rfl rfl)) ?_
  refine r_step rfl (o_callIO (q := (25, [])) (vs := [.agg [.int _ _, .sl _ _], .rsl _ _ _ _ _, .agg [.sl _ _, .bool _, .nils], .rsl _ _ _ _ _]) (args := [.agg [.int .i64 _, .sl _ _], .sl _ _, .agg [.sl _ _, .bool _, .sl _ _], .rsl (INH, []) _ _ _ _]) (x0 := .osl _ _ _ _) (x1 := .undef) (res := .osl _ _ _ _) rfl hb27 rfl (by decide) ⟨.inl rfl, .inl rfl, .inl rfl, .inl rfl, trivial⟩ rfl rfl (growR9_c vars L hcs.2.2 hcs.2.1 false vs hsv hvl (fopen vs) hAo (fun a h => next_ord) hUn 13 (by omega) [] [] hca0 (by simp) (by simp)) rfl (tn_noSh _) (tn_noRef _) rfl rfl (Nat.le_of_ble_eq_true rfl) (by decide) rfl) ?_
  refine r_step rfl (o_callIO (q := (26, [])) (vs := [.rsl _ _ _ _ _]) (args := [.rsl (INH, []) _ _ _ _]) (x0 := .osl _ _ _ _) (x1 := .undef) (res := .tup [.osl _ _ _ _, .bool _]) rfl hb26 rfl (by decide) ⟨.inl rfl, trivial⟩ rfl rfl (give9_c (grS L (fopen vs) 13 [] []) (by have := (grS_len L (fopen vs) 13 [] []).1; simp at this; omega)) rfl (by simp [noSh, noShL, tn_noSh]) (by simp [noRef, noRefL, tn_noRef]) rfl rfl (Nat.le_of_ble_eq_true rfl) (by decide) rfl) ?_
  refine rv (v := .rsl _ _ _ _ _) (v_extract rfl rfl) ?_
  refine rv (v := .bool _) (v_extract rfl rfl) ?_
  refine rv (v := .rsl _ _ _ _ _) (v_assign il nf) ?_
  refine r_pre (ent_reloc_sl (t := 4) rfl rfl) ?_
  refine rv (v := .bool _) (v_assign il nf) ?_
  refine r_nil ?_
  refine a_ret ?_
  refine retL (rs := [.tmp 4, .tmp 5]) [(4, .osl _ _ _ none), (5, _)] ⟨Weak.osl rfl rfl, Weak.rfl, trivial⟩ rfl Tryz.results6 (by decide) ⟨by decide, by decide, rfl⟩ (by decide) (by decide) (l2_eq (osl_eq2 ?_ ?_) (bool_eq ?_)) rfl
  all_goals (first | exact hb9 | (rw [hr9]; done) | (rw [← hr9]; rfl))
end Go.Av
namespace Go.Av
open Go Go.Proofs Go.Sort
set_option maxRecDepth 10000
theorem markTN_c (xs : List TN) (k : Int) (h : -9000000000000000000 ≤ k ∧ k + 4 * xs.length ≤ 9223372036854775807) : ACall Tryz.prog 15 [.rsl (INH, []) 4 0 xs.length none, .int .i64 k] [.osl 4 (tncells xs) xs.length none] (.int .i64 (k + 4 * xs.length)) [.osl 4 (icells (mkI k (xs.length * 4))) xs.length none] := by
 refine ACall.intro Tryz.func15 rfl (N := 41) rfl (by decide) (by simp) ?_
 refine a_seq ?_
 refine a_region ?_
 refine rv (v := .int _ _) (v_assign il nf) ?_
 refine r_nil ?_
 refine a_seq ?_
 refine a_seq ?_
 refine a_region ?_
 refine rv (v := .int _ _) (v_assign il nf) ?_
 refine r_nil ?_
 refine a_block ?_
 refine a_loop (X := Nat) (fun i => look [(0, .rsl (INH, []) 4 0 xs.length none), (1, .int .i64 (k + 4 * (i : Nat))), (5, .int .i64 ((i : Nat) : Int)), (INH, .osl 4 (mkC k (tncells xs) (i * 4)) xs.length none)]) (fun i => i ≤ xs.length) (fun i => xs.length - i) 0 (ent_look ⟨Weak.of_eq rfl, Weak.of_eq (int_eq (by omega)), Weak.of_eq rfl, Weak.of_eq (osl_eq (by rw [Nat.zero_mul, mkC_zero])), trivial⟩) (Nat.zero_le _) (fun i hG => ?_)
 refine a_seq ?_
 refine a_seq ?_
 refine a_region ?_
 refine rv (v := .int _ _) (v_move il nf) ?_
 refine rv (v := .rsl _ _ _ _ _) (v_move il nf) ?_
 refine rv (v := .int _ _) (v_len_rsl sl27 il) ?_
 refine rv (v := .bool _) (v_lss il il) ?_
 refine r_nil ?_
 refine a_cond rfl (fun ht9 => ?_) (fun ht9 => ?_)
 ·
  skip
  refine a_skip ?_
  refine a_seq ?_
  refine a_block ?_
  refine a_seq ?_
  have hi : i < xs.length := (by simp at ht9; omega)
  have hp0 : i * 4 + 0 + 1 ≤ (mkC k (tncells xs) (i * 4 + 0)).length := (by rw [mkC_length (by rw [tncells_length]; omega), tncells_length]; omega)
  have hs0 : (mkC k (tncells xs) (i * 4 + 0)).set (i * 4 + 0) (.int .i64 (k + 4 * (i : Nat))) = mkC k (tncells xs) (i * 4 + 1) := (by have h9 := mkC_set (k := k) (cs := tncells xs) (m := i * 4 + 0) (by rw [tncells_length]; omega); rw [show k + ((i * 4 + 0 : Nat) : Int) = (k + 4 * (i : Nat)) by omega] at h9; exact h9)
  have hp1 : i * 4 + 1 + 1 ≤ (mkC k (tncells xs) (i * 4 + 1)).length := (by rw [mkC_length (by rw [tncells_length]; omega), tncells_length]; omega)
  have hs1 : (mkC k (tncells xs) (i * 4 + 1)).set (i * 4 + 1) (.int .i64 (k + 4 * (i : Nat) + 1)) = mkC k (tncells xs) (i * 4 + 2) := (by have h9 := mkC_set (k := k) (cs := tncells xs) (m := i * 4 + 1) (by rw [tncells_length]; omega); rw [show k + ((i * 4 + 1 : Nat) : Int) = (k + 4 * (i : Nat) + 1) by omega] at h9; exact h9)
  have hp2 : i * 4 + 2 + 1 ≤ (mkC k (tncells xs) (i * 4 + 2)).length := (by rw [mkC_length (by rw [tncells_length]; omega), tncells_length]; omega)
  have hs2 : (mkC k (tncells xs) (i * 4 + 2)).set (i * 4 + 2) (.int .i64 (k + 4 * (i : Nat) + 1 + 1)) = mkC k (tncells xs) (i * 4 + 3) := (by have h9 := mkC_set (k := k) (cs := tncells xs) (m := i * 4 + 2) (by rw [tncells_length]; omega); rw [show k + ((i * 4 + 2 : Nat) : Int) = (k + 4 * (i : Nat) + 1 + 1) by omega] at h9; exact h9)
  have hp3 : i * 4 + 3 + 1 ≤ (mkC k (tncells xs) (i * 4 + 3)).length := (by rw [mkC_length (by rw [tncells_length]; omega), tncells_length]; omega)
  have hs3 : (mkC k (tncells xs) (i * 4 + 3)).set (i * 4 + 3) (.int .i64 (k + 4 * (i : Nat) + 1 + 1 + 1)) = mkC k (tncells xs) (i * 4 + 4) := (by have h9 := mkC_set (k := k) (cs := tncells xs) (m := i * 4 + 3) (by rw [tncells_length]; omega); rw [show k + ((i * 4 + 3 : Nat) : Int) = (k + 4 * (i : Nat) + 1 + 1 + 1) by omega] at h9; exact h9)
  refine a_region ?_
  refine rv (v := .rsl _ _ _ _ _) (v_move il nf) ?_
  refine rv (v := .int _ _) (v_move il nf) ?_
  refine rv (v := .int _ _) (v_move il nf) ?_
  refine rv (v := .rp _ _) (v_indexAddr_rsl0 es27 il il (fun _ => by omega)) ?_
  refine rv (v := .rp _ _) (v_fieldAddr_rp fo56_0 il) ?_
  refine r_step rfl (o_store (v := .int _ _) (y' := .osl _ _ _ _) rfl rfl ta3 il il rfl rfl rfl rfl rfl rfl hp0 (by decide) rfl (congrArg (fun c => AV.osl 4 c xs.length none) hs0)) ?_
  refine r_nil ?_
  refine a_seq ?_
  refine a_region ?_
  refine rv (v := .int _ _) (v_move il nf) ?_
  refine rv (v := .int _ _) (v_add il il (fun _ => by omega)) ?_
  refine rv (v := .int _ _) (v_assign il nf) ?_
  refine r_nil ?_
  refine a_seq ?_
  refine a_region ?_
  refine rv (v := .rsl _ _ _ _ _) (v_move il nf) ?_
  refine rv (v := .int _ _) (v_move il nf) ?_
  refine rv (v := .int _ _) (v_move il nf) ?_
  refine rv (v := .rp _ _) (v_indexAddr_rsl0 es27 il il (fun _ => by omega)) ?_
  refine rv (v := .rp _ _) (v_fieldAddr_rp fo56_1 il) ?_
  refine r_step rfl (o_store (v := .int _ _) (y' := .osl _ _ _ _) rfl rfl ta3 il il rfl rfl rfl rfl rfl rfl hp1 (by decide) rfl (congrArg (fun c => AV.osl 4 c xs.length none) hs1)) ?_
  refine r_nil ?_
  refine a_seq ?_
  refine a_region ?_
  refine rv (v := .int _ _) (v_move il nf) ?_
  refine rv (v := .int _ _) (v_add il il (fun _ => by omega)) ?_
  refine rv (v := .int _ _) (v_assign il nf) ?_
  refine r_nil ?_
  refine a_seq ?_
  refine a_region ?_
  refine rv (v := .rsl _ _ _ _ _) (v_move il nf) ?_
  refine rv (v := .int _ _) (v_move il nf) ?_
  refine rv (v := .int _ _) (v_move il nf) ?_
  refine rv (v := .rp _ _) (v_indexAddr_rsl0 es27 il il (fun _ => by omega)) ?_
  refine rv (v := .rp _ _) (v_fieldAddr_rp fo56_2 il) ?_
  refine r_step rfl (o_store (v := .int _ _) (y' := .osl _ _ _ _) rfl rfl ta3 il il rfl rfl rfl rfl rfl rfl hp2 (by decide) rfl (congrArg (fun c => AV.osl 4 c xs.length none) hs2)) ?_
  refine r_nil ?_
  refine a_seq ?_
  refine a_pre (ent_look (L := [(0, .rsl _ _ _ _ _), (1, .int _ _), (5, .int _ _), (INH, .osl _ _ _ _)]) ⟨Weak.rfl, Weak.rfl, Weak.rfl, Weak.rfl, trivial⟩) ?_
  refine a_region ?_
  refine rv (v := .int _ _) (v_move il nf) ?_
  refine rv (v := .int _ _) (v_add il il (fun _ => by omega)) ?_
  refine rv (v := .int _ _) (v_assign il nf) ?_
  refine r_nil ?_
  refine a_seq ?_
  refine a_region ?_
  refine rv (v := .rsl _ _ _ _ _) (v_move il nf) ?_
  refine rv (v := .int _ _) (v_move il nf) ?_
  refine rv (v := .int _ _) (v_move il nf) ?_
  refine rv (v := .rp _ _) (v_indexAddr_rsl0 es27 il il (fun _ => by omega)) ?_
  refine rv (v := .rp _ _) (v_fieldAddr_rp fo56_3 il) ?_
  refine r_step rfl (o_store (v := .int _ _) (y' := .osl _ _ _ _) rfl rfl ta3 il il rfl rfl rfl rfl rfl rfl hp3 (by decide) rfl (congrArg (fun c => AV.osl 4 c xs.length none) hs3)) ?_
  refine r_nil ?_
  refine a_region ?_
  refine rv (v := .int _ _) (v_move il nf) ?_
  refine rv (v := .int _ _) (v_add il il (fun _ => by omega)) ?_
  refine rv (v := .int _ _) (v_assign il nf) ?_
  refine r_nil ?_
  refine a_region ?_
  refine rv (v := .int _ _) (v_move il nf) ?_
  refine rv (v := .int _ _) (v_add il il (fun _ => by omega)) ?_
  refine rv (v := .int _ _) (v_assign il nf) ?_
  refine r_nil ?_
  refine ⟨i + 1, ent_look ⟨Weak.of_eq rfl, Weak.of_eq (int_eq (by omega)), Weak.of_eq (int_eq (by omega)), Weak.of_eq (osl_eq (by rw [show (i + 1) * 4 = i * 4 + 4 by omega])), trivial⟩, by omega, by omega⟩
 ·
  skip
  refine a_exit ?_
  refine a_seq ?_
  refine a_region ?_
  refine rv (v := .int _ _) (v_move il nf) ?_
  refine rv (v := .int _ _) (v_assign il nf) ?_
  refine r_nil ?_
  refine a_ret ?_
  refine ret1 Tryz.results15 (by decide) (by decide) (Weak.of_eq (int_eq ?_)) rfl (Leaves.one (Weak.of_eq (osl_eq (by simp at ht9; rw [show i = xs.length by omega, mkC_full (tncells_length xs)]))) rfl)
  simp at ht9; omega
theorem heldTN_c (n : Nat) (k : Int) (h : -9000000000000000000 ≤ k ∧ k + 4 * n ≤ 9223372036854775807) : ACall Tryz.prog 16 [.sl (icells (mkI k (n * 4))) n, .int .i64 k] [] (.int .i64 (k + 4 * n)) [] := by
 refine ACall.intro Tryz.func16 rfl (N := 49) rfl (by decide) (by simp) ?_
 refine a_seq ?_
 refine a_region ?_
 refine rv (v := .int _ _) (v_assign il nf) ?_
 refine r_nil ?_
 refine a_seq ?_
 refine a_seq ?_
 refine a_region ?_
 refine rv (v := .int _ _) (v_assign il nf) ?_
 refine r_nil ?_
 refine a_block ?_
 refine a_loop (X := Nat) (fun i => look [(0, .sl (icells (mkI k (n * 4))) n), (1, .int .i64 (k + 4 * (i : Nat))), (5, .int .i64 ((i : Nat) : Int))]) (fun i => i ≤ n) (fun i => n - i) 0 (ent_look ⟨Weak.of_eq rfl, Weak.of_eq (int_eq (by omega)), Weak.of_eq rfl, trivial⟩) (Nat.zero_le _) (fun i hG => ?_)
 refine a_seq ?_
 refine a_seq ?_
 refine a_region ?_
 refine rv (v := .int _ _) (v_move il nf) ?_
 refine rv (v := .sl _ _) (v_move il nf) ?_
 refine rv (v := .int _ _) (v_len_sl sl27 il) ?_
 refine rv (v := .bool _) (v_lss il il) ?_
 refine r_nil ?_
 refine a_cond rfl (fun ht9 => ?_) (fun ht9 => ?_)
 ·
  skip
  refine a_skip ?_
  refine a_seq ?_
  refine a_block ?_
  refine a_seq ?_
  refine a_seq ?_
  have hi : i < n := (by simp at ht9; omega)
  have hm0 : (icells (mkI k (n * 4)))[i * 4 + 0]? = some (.int .i64 (k + 4 * (i : Nat))) := (by have h9 := icells_get (gd_get (show i * 4 + 0 < (mkI k (n * 4)).length by rw [mkI_length]; omega)); rw [mkI_get (by omega)] at h9; exact h9.trans (congrArg (fun z => some (AV.int .i64 z)) (by omega)))
  have hm1 : (icells (mkI k (n * 4)))[i * 4 + 1]? = some (.int .i64 (k + 4 * (i : Nat) + 1)) := (by have h9 := icells_get (gd_get (show i * 4 + 1 < (mkI k (n * 4)).length by rw [mkI_length]; omega)); rw [mkI_get (by omega)] at h9; exact h9.trans (congrArg (fun z => some (AV.int .i64 z)) (by omega)))
  have hm2 : (icells (mkI k (n * 4)))[i * 4 + 2]? = some (.int .i64 (k + 4 * (i : Nat) + 1 + 1)) := (by have h9 := icells_get (gd_get (show i * 4 + 2 < (mkI k (n * 4)).length by rw [mkI_length]; omega)); rw [mkI_get (by omega)] at h9; exact h9.trans (congrArg (fun z => some (AV.int .i64 z)) (by omega)))
  have hm3 : (icells (mkI k (n * 4)))[i * 4 + 3]? = some (.int .i64 (k + 4 * (i : Nat) + 1 + 1 + 1)) := (by have h9 := icells_get (gd_get (show i * 4 + 3 < (mkI k (n * 4)).length by rw [mkI_length]; omega)); rw [mkI_get (by omega)] at h9; exact h9.trans (congrArg (fun z => some (AV.int .i64 z)) (by omega)))
  refine a_region ?_
  refine rv (v := .sl _ _) (v_move il nf) ?_
  refine rv (v := .int _ _) (v_move il nf) ?_
  refine rv (v := .pp _ _) (v_indexAddr_sl es27 il il (fun _ => ⟨by omega, by omega, icells_ne (show i * 4 < (mkI k (n * 4)).length by rw [mkI_length]; omega)⟩)) ?_
  refine rv (v := .pp _ _) (v_fieldAddr_pp fo56_0 il) ?_
  refine rv (v := .int .i64 (k + 4 * (i : Nat))) (v_load_pp ta3 il (fun _ => hm0) rfl) ?_
  refine rv (v := .int _ _) (v_move il nf) ?_
  refine rv (v := .bool _) (v_neq il il) ?_
  refine r_nil ?_
  refine a_cond rfl (fun ht18 => ?_) (fun ht18 => ?_)
  ·
   skip
   refine a_seq ?_
   refine a_region ?_
   refine rv (v := .int _ _) (v_assign il nf) ?_
   refine r_nil ?_
   refine a_ret ?_
   refine ret1 Tryz.results16 (by decide) (by decide) (Weak.of_eq (int_eq ?_)) rfl Leaves.nil
   exfalso; simp at ht18
  ·
   skip
   refine a_skip ?_
   refine a_seq ?_
   refine a_region ?_
   refine rv (v := .int _ _) (v_move il nf) ?_
   refine rv (v := .int _ _) (v_add il il (fun _ => by omega)) ?_
   refine rv (v := .int _ _) (v_assign il nf) ?_
   refine r_nil ?_
   refine a_seq ?_
   refine a_seq ?_
   refine a_region ?_
   refine rv (v := .sl _ _) (v_move il nf) ?_
   refine rv (v := .int _ _) (v_move il nf) ?_
   refine rv (v := .pp _ _) (v_indexAddr_sl es27 il il (fun _ => ⟨by omega, by omega, icells_ne (show i * 4 < (mkI k (n * 4)).length by rw [mkI_length]; omega)⟩)) ?_
   refine rv (v := .pp _ _) (v_fieldAddr_pp fo56_1 il) ?_
   refine rv (v := .int .i64 (k + 4 * (i : Nat) + 1)) (v_load_pp ta3 il (fun _ => hm1) rfl) ?_
   refine rv (v := .int _ _) (v_move il nf) ?_
   refine rv (v := .bool _) (v_neq il il) ?_
   refine r_nil ?_
   refine a_cond rfl (fun ht27 => ?_) (fun ht27 => ?_)
   ·
    skip
    refine a_seq ?_
    refine a_region ?_
    refine rv (v := .int _ _) (v_assign il nf) ?_
    refine r_nil ?_
    refine a_ret ?_
    refine ret1 Tryz.results16 (by decide) (by decide) (Weak.of_eq (int_eq ?_)) rfl Leaves.nil
    exfalso; simp at ht27
   ·
    skip
    refine a_skip ?_
    refine a_seq ?_
    refine a_region ?_
    refine rv (v := .int _ _) (v_move il nf) ?_
    refine rv (v := .int _ _) (v_add il il (fun _ => by omega)) ?_
    refine rv (v := .int _ _) (v_assign il nf) ?_
    refine r_nil ?_
    refine a_seq ?_
    refine a_seq ?_
    refine a_region ?_
    refine rv (v := .sl _ _) (v_move il nf) ?_
    refine rv (v := .int _ _) (v_move il nf) ?_
    refine rv (v := .pp _ _) (v_indexAddr_sl es27 il il (fun _ => ⟨by omega, by omega, icells_ne (show i * 4 < (mkI k (n * 4)).length by rw [mkI_length]; omega)⟩)) ?_
    refine rv (v := .pp _ _) (v_fieldAddr_pp fo56_2 il) ?_
    refine rv (v := .int .i64 (k + 4 * (i : Nat) + 1 + 1)) (v_load_pp ta3 il (fun _ => hm2) rfl) ?_
    refine rv (v := .int _ _) (v_move il nf) ?_
    refine rv (v := .bool _) (v_neq il il) ?_
    refine r_nil ?_
    refine a_cond rfl (fun ht36 => ?_) (fun ht36 => ?_)
    ·
     skip
     refine a_seq ?_
     refine a_pre (ent_look (L := [(0, .sl _ _), (1, .int _ _), (5, .int _ _)]) ⟨Weak.rfl, Weak.rfl, Weak.rfl, trivial⟩) ?_
     refine a_region ?_
     refine rv (v := .int _ _) (v_assign il nf) ?_
     refine r_nil ?_
     refine a_ret ?_
     refine ret1 Tryz.results16 (by decide) (by decide) (Weak.of_eq (int_eq ?_)) rfl Leaves.nil
     exfalso; simp at ht36
    ·
     skip
     refine a_skip ?_
     refine a_seq ?_
     refine a_pre (ent_look (L := [(0, .sl _ _), (1, .int _ _), (5, .int _ _)]) ⟨Weak.rfl, Weak.rfl, Weak.rfl, trivial⟩) ?_
     refine a_region ?_
     refine rv (v := .int _ _) (v_move il nf) ?_
     refine rv (v := .int _ _) (v_add il il (fun _ => by omega)) ?_
     refine rv (v := .int _ _) (v_assign il nf) ?_
     refine r_nil ?_
     refine a_seq ?_
     refine a_seq ?_
     refine a_region ?_
     refine rv (v := .sl _ _) (v_move il nf) ?_
     refine rv (v := .int _ _) (v_move il nf) ?_
     refine rv (v := .pp _ _) (v_indexAddr_sl es27 il il (fun _ => ⟨by omega, by omega, icells_ne (show i * 4 < (mkI k (n * 4)).length by rw [mkI_length]; omega)⟩)) ?_
     refine rv (v := .pp _ _) (v_fieldAddr_pp fo56_3 il) ?_
     refine rv (v := .int .i64 (k + 4 * (i : Nat) + 1 + 1 + 1)) (v_load_pp ta3 il (fun _ => hm3) rfl) ?_
     refine rv (v := .int _ _) (v_move il nf) ?_
     refine rv (v := .bool _) (v_neq il il) ?_
     refine r_nil ?_
     refine a_cond rfl (fun ht45 => ?_) (fun ht45 => ?_)
     ·
      skip
      refine a_seq ?_
      refine a_region ?_
      refine rv (v := .int _ _) (v_assign il nf) ?_
      refine r_nil ?_
      refine a_ret ?_
      refine ret1 Tryz.results16 (by decide) (by decide) (Weak.of_eq (int_eq ?_)) rfl Leaves.nil
      exfalso; simp at ht45
     ·
      skip
      refine a_skip ?_
      refine a_region ?_
      refine rv (v := .int _ _) (v_move il nf) ?_
      refine rv (v := .int _ _) (v_add il il (fun _ => by omega)) ?_
      refine rv (v := .int _ _) (v_assign il nf) ?_
      refine r_nil ?_
      refine a_region ?_
      refine rv (v := .int _ _) (v_move il nf) ?_
      refine rv (v := .int _ _) (v_add il il (fun _ => by omega)) ?_
      refine rv (v := .int _ _) (v_assign il nf) ?_
      refine r_nil ?_
      refine ⟨i + 1, ent_look ⟨Weak.of_eq rfl, Weak.of_eq (int_eq (by omega)), Weak.of_eq (int_eq (by omega)), trivial⟩, by omega, by omega⟩
 ·
  skip
  refine a_exit ?_
  refine a_seq ?_
  refine a_region ?_
  refine rv (v := .int _ _) (v_move il nf) ?_
  refine rv (v := .int _ _) (v_assign il nf) ?_
  refine r_nil ?_
  refine a_ret ?_
  refine ret1 Tryz.results16 (by decide) (by decide) (Weak.of_eq (int_eq ?_)) rfl Leaves.nil
  simp at ht9; omega
end Go.Av
namespace Go.Av
open Go Go.Proofs Go.Sort
set_option maxRecDepth 10000
theorem hb10 : hasBody Tryz.prog 10 = true := by kernel_rfl
theorem hb11 : hasBody Tryz.prog 11 = true := by kernel_rfl
theorem hb13 : hasBody Tryz.prog 13 = true := by kernel_rfl
theorem hb15 : hasBody Tryz.prog 15 = true := by kernel_rfl
theorem hb16 : hasBody Tryz.prog 16 = true := by kernel_rfl
theorem hb5 : hasBody Tryz.prog 5 = true := by kernel_rfl
theorem hb6 : hasBody Tryz.prog 6 = true := by kernel_rfl
theorem hb7 : hasBody Tryz.prog 7 = true := by kernel_rfl
theorem hb9 : hasBody Tryz.prog 9 = true := by kernel_rfl
theorem ta24 : tyAgg Tryz.prog 24 = some (true, 2) := by kernel_rfl
theorem lawTreeByOrder_c (vars : Int) (L : List (List Int)) (vs : List Int) (hl9 : (vs.length : Int) ≤ 9223372036854775807) (hv : -9223372036854775808 ≤ vars ∧ vars ≤ 9223372036854775807) (hlen : ∀ i, ((gl L i).length : Int) ≤ 9223372036854775807) (hL : (L.length : Int) ≤ 9223372036854775807) (hbb : ∀ i j, -9223372036854775808 ≤ gd (gl L i) j ∧ gd (gl L i) j ≤ 9223372036854775807) (hb : ∀ j, -9223372036854775808 ≤ gd vs j ∧ gd vs j ≤ 9223372036854775807) : ACall Tryz.prog 3 [.agg [.int .i64 vars, .sl (sls L) L.length], .sl (icells vs) vs.length] [] (.bool true) [] := by
 have hpl := toR_len vars L vs
 refine ACall.intro Tryz.func3 rfl (N := 117) rfl (by decide) (by simp) ?_
 refine a_seq ?_
 refine a_region ?_
 refine rn (v := .op [.int _ _, .sl _ _]) (q_box il rfl rfl) ?_
 refine rv (v := .bool _) (v_assign il nf) ?_
 refine r_nil ?_
 refine a_seq ?_
 refine a_seq ?_
 refine a_region ?_
 refine rv (v := .sl _ _) (v_move il nf) ?_
 refine rv (v := .int _ _) (v_len_sl sl25 il) ?_
 refine rv (v := .bool _) (v_gtr il il) ?_
 refine r_nil ?_
 refine a_cond rfl (fun ht19 => ?_) (fun ht19 => ?_)
 ·
  skip
  refine a_seq ?_
  refine a_region ?_
  refine rv (v := .bool _) (v_assign il nf) ?_
  refine r_nil ?_
  refine a_ret ?_
  refine ret1 Tryz.results3 (by decide) (by decide) (Weak.of_eq (bool_eq ?_)) rfl Leaves.nil
  first | rfl | (exfalso; simp at ht19; done) | (exfalso; simp at ht19; omega)
 ·
  skip
  refine a_skip ?_
  refine a_seq ?_
  have hle : (vs.length : Int) ≤ 1048576 := (by simpa using ht19)
  refine a_region ?_
  refine rv (v := .int _ _) (v_assign il nf) ?_
  refine r_nil ?_
  refine a_seq ?_
  refine a_region ?_
  refine rv (v := .agg [.int _ _, .sl _ _]) (v_load_rpa1 ta24 il rfl rfl (fun _ => rfl) rfl) ?_
  refine rv (v := .int _ _) (v_move il nf) ?_
  refine rn (v := .int _ _) (q_call (vs := [.agg [.int _ _, .sl _ _], .int _ _]) (args := [.agg [.int .i64 _, .sl _ _], .int .i64 _]) hb5 ⟨il, il, trivial⟩ rfl (fun hA => szCnf_c _ _ _ (by omega) hlen hL) rfl rfl) ?_
  refine rv (v := .int _ _) (v_assign il nf) ?_
  refine r_nil ?_
  refine a_seq ?_
  refine a_seq ?_
  refine a_region ?_
  refine rv (v := .int _ _) (v_move il nf) ?_
  refine rv (v := .bool _) (v_lss il il) ?_
  refine r_nil ?_
  refine a_cond rfl (fun ht24 => ?_) (fun ht24 => ?_)
  ·
   skip
   refine a_seq ?_
   refine a_region ?_
   refine rv (v := .bool _) (v_assign il nf) ?_
   refine r_nil ?_
   refine a_ret ?_
   refine ret1 Tryz.results3 (by decide) (by decide) (Weak.of_eq (bool_eq ?_)) rfl Leaves.nil
   first | rfl | (exfalso; simp at ht24; done) | (exfalso; simp at ht24; omega)
  ·
   skip
   refine a_skip ?_
   refine a_seq ?_
   have hsz : L.length + tot L L.length ≤ 1048576 := (by have h9 := of_decide_eq_false ht24; unfold szR at h9; split at h9 <;> omega)
   have hk : CnfOk vars L := ⟨hv, by omega, by omega, hbb⟩
   have hll := fun i => len_tot (L := L) (i := i)
   refine a_region ?_
   refine rv (v := .agg [.int _ _, .sl _ _]) (v_load_rpa1 ta24 il rfl rfl (fun _ => rfl) rfl) ?_
   refine rn (v := .agg [.int _ _, .osl _ _ _ _]) (q_call (vs := [.agg [.int _ _, .sl _ _]]) (args := [.agg [.int .i64 _, .sl _ _]]) hb7 ⟨il, trivial⟩ rfl (fun hA => toCnf_c _ _ (by omega) (by omega)) (by simp [noSh, noShL, osls_noSh]) (by simp [noRef, noRefL, osls_noRef])) ?_
   refine rv (v := .sl _ _) (v_move il nf) ?_
   refine rn (v := .osl _ _ _ _) (q_call (vs := [.sl _ _]) (args := [.sl _ _]) hb8 ⟨il, trivial⟩ rfl (fun hA => toIntS_c _ (by omega)) (ic_noSh _) (ic_noRef _)) ?_
   refine rn (v := .tup [.osl _ _ _ _, .bool _]) (q_call (vs := [.agg [.int _ _, .rsl _ _ _ _ _], .rsl _ _ _ _ _]) (args := [.agg [.int .i64 _, .sl _ _], .sl _ _]) hb6 ⟨il, il, trivial⟩ (l2_eq (agg_eq (l2_eq rfl sl_osls)) (sl_sh (ic_pure _))) (fun hA => sTbo_c vars L vs hk (by omega)) (by simp [noSh, noShL, tn_noSh]) (by simp [noRef, noRefL, tn_noRef])) ?_
   refine rv (v := .tup [.rsl _ _ _ _ _, .bool _]) (v_mv rfl) ?_
   refine rv (v := .rsl _ _ _ _ _) (v_extract rfl rfl) ?_
   refine rv (v := .bool _) (v_extract rfl rfl) ?_
   refine rv (v := .rsl _ _ _ _ _) (v_assign il nf) ?_
   refine r_pre (ent_reloc_sl (t := 6) rfl rfl) ?_
   refine rv (v := .bool _) (v_assign il nf) ?_
   refine r_nil ?_
   refine a_seq ?_
   refine a_pre (ent_look (L := [(1, .sl _ _), (2, .op [.int _ _, .sl _ _]), (4, .bool _), (6, .osl _ _ _ _), (7, .bool _)]) ⟨Weak.rfl, Weak.rfl, Weak.rfl, Weak.rfl, Weak.rfl, trivial⟩) ?_
   refine a_region ?_
   refine rv (v := .agg [.int _ _, .sl _ _]) (v_load_rpa1 ta24 il rfl rfl (fun _ => rfl) rfl) ?_
   refine rn (v := .agg [.int _ _, .osl _ _ _ _]) (q_call (vs := [.agg [.int _ _, .sl _ _]]) (args := [.agg [.int .i64 _, .sl _ _]]) hb7 ⟨il, trivial⟩ rfl (fun hA => toCnf_c _ _ (by omega) (by omega)) (by simp [noSh, noShL, osls_noSh]) (by simp [noRef, noRefL, osls_noRef])) ?_
   refine rn (v := .op [.int _ _, .nils]) (q_alloc zc30) ?_
   refine r_step rfl (o_store_own (v := .agg [.int _ _, .osl _ _ _ _]) (y' := .op [.int _ _, .osl _ _ _ _]) rfl rfl ta30 (.inl rfl) (by decide) rfl (by decide) rfl (by simp [cellsOf, noRefL, noRef, osls_noRef]) rfl rfl rfl rfl rfl (Nat.le_of_ble_eq_true rfl) rfl rfl) ?_
   refine r_nil ?_
   refine a_seq ?_
   refine a_region ?_
   refine rv (v := .sl _ _) (v_move il nf) ?_
   refine rn (v := .osl _ _ _ _) (q_call (vs := [.sl _ _]) (args := [.sl _ _]) hb8 ⟨il, trivial⟩ rfl (fun hA => toIntS_c _ (by omega)) (ic_noSh _) (ic_noRef _)) ?_
   refine rv (v := .rsl _ _ _ _ _) (v_assign il nf) ?_
   refine r_pre (ent_reloc_sl (t := 9) rfl rfl) ?_
   refine r_nil ?_
   refine a_seq ?_
   refine a_region ?_
   refine rv (v := .agg [.int _ _, .rsl _ _ _ _ _]) (v_load_rpa (xs := [.int _ _, .osl _ _ _ _]) ta30 il rfl rfl (fun _ => take_get rfl)) ?_
   refine rv (v := .rsl _ _ _ _ _) (v_move il nf) ?_
   refine rn (v := .tup [.osl _ _ _ _, .bool _]) (q_call (vs := [.agg [.int _ _, .rsl _ _ _ _ _], .rsl _ _ _ _ _]) (args := [.agg [.int .i64 _, .sl _ _], .sl _ _]) hb9 ⟨il, il, trivial⟩ (l2_eq (agg_eq (l2_eq rfl sl_osls)) (sl_sh (ic_pure _))) (fun hA => iTbo_c vars L vs hk (by omega)) (by simp [noSh, noShL, tn_noSh]) (by simp [noRef, noRefL, tn_noRef])) ?_
   refine rv (v := .tup [.rsl _ _ _ _ _, .bool _]) (v_mv rfl) ?_
   refine rv (v := .rsl _ _ _ _ _) (v_extract rfl rfl) ?_
   refine rv (v := .bool _) (v_extract rfl rfl) ?_
   refine rv (v := .rsl _ _ _ _ _) (v_assign il nf) ?_
   refine r_pre (ent_reloc_sl (t := 10) rfl rfl) ?_
   refine rv (v := .bool _) (v_assign il nf) ?_
   refine r_nil ?_
   refine a_seq ?_
   refine a_seq ?_
   refine a_pre (ent_look (L := [(1, .sl _ _), (2, .op [.int _ _, .sl _ _]), (4, .bool _), (6, .osl _ _ _ _), (7, .bool _), (8, .op [.int _ _, .osl _ _ _ _]), (9, .osl _ _ _ _), (10, .osl _ _ _ _), (11, .bool _)]) ⟨Weak.rfl, Weak.rfl, Weak.rfl, Weak.rfl, Weak.rfl, Weak.rfl, Weak.rfl, Weak.rfl, Weak.rfl, trivial⟩) ?_
   refine a_region ?_
   refine rv (v := .rsl _ _ _ _ _) (v_move il nf) ?_
   refine rv (v := .rsl _ _ _ _ _) (v_move il nf) ?_
   refine rn (v := .bool _) (q_call (vs := [.rsl _ _ _ _ _, .rsl _ _ _ _ _]) (args := [.sl _ _, .sl _ _]) hb10 ⟨il, il, trivial⟩ (l2_eq (sl_sh (tn_pure _)) (sl_sh (tn_pure _))) (fun hA => eqTNS_c _ _ (by omega) (by omega)) rfl rfl) ?_
   refine rv (v := .bool _) (v_not il) ?_
   refine rv (v := .bool _) (v_move il nf) ?_
   refine r_gval (v := .bool _) (v_move il nf) rfl rfl rfl (by decide) (.inl ⟨_, rfl, rfl⟩) rfl (by decide) ?_
   refine r_gval (v := .bool _) (v_move il nf) rfl rfl rfl (by decide) (.inl ⟨_, rfl, rfl⟩) rfl (by decide) ?_
   refine r_gval (v := .bool _) (v_bne un4 (.inr ⟨_, rfl, fun h => h⟩) (.inr ⟨_, rfl, fun h => h⟩)) rfl rfl rfl (by decide) (.inl ⟨_, rfl, rfl⟩) rfl (by decide) ?_
   refine rv (v := .bool _) (v_pick (.inl rfl) (.inl rfl) (.inr ⟨_, rfl, fun h h2 => by simp_all⟩)) ?_
   refine r_nil ?_
   refine a_cond rfl (fun ht51 => ?_) (fun ht51 => ?_)
   ·
    skip
    refine a_seq ?_
    refine a_pre (ent_look (L := [(1, .sl _ _), (2, .op [.int _ _, .sl _ _]), (4, .bool _), (6, .osl _ _ _ _), (7, .bool _), (8, .op [.int _ _, .osl _ _ _ _]), (9, .osl _ _ _ _), (10, .osl _ _ _ _), (11, .bool _)]) ⟨Weak.rfl, Weak.rfl, Weak.rfl, Weak.rfl, Weak.rfl, Weak.rfl, Weak.rfl, Weak.rfl, Weak.rfl, trivial⟩) ?_
    refine a_region ?_
    refine rv (v := .bool _) (v_assign il nf) ?_
    refine r_nil ?_
    refine a_ret ?_
    refine ret1 Tryz.results3 (by decide) (by decide) (Weak.of_eq (bool_eq ?_)) rfl Leaves.nil
    first | rfl | (exfalso; simp at ht51; done) | (exfalso; simp at ht51; omega)
   ·
    skip
    refine a_skip ?_
    refine a_seq ?_
    refine a_seq ?_
    refine a_pre (ent_look (L := [(1, .sl _ _), (2, .op [.int _ _, .sl _ _]), (4, .bool _), (6, .osl _ _ _ _), (7, .bool _), (8, .op [.int _ _, .osl _ _ _ _]), (9, .osl _ _ _ _), (10, .osl _ _ _ _), (11, .bool _)]) ⟨Weak.rfl, Weak.rfl, Weak.rfl, Weak.rfl, Weak.rfl, Weak.rfl, Weak.rfl, Weak.rfl, Weak.rfl, trivial⟩) ?_
    refine a_region_any mixed (by kernel_rfl) ?_
    refine yv (v := .agg [.int _ _, .rsl _ _ _ _ _]) (v_load_rpa (xs := [.int _ _, .osl _ _ _ _]) ta30 il rfl rfl (fun _ => take_get rfl)) ?_
    refine yv (v := .agg [.int _ _, .sl _ _]) (v_load_rpa1 ta24 il rfl rfl (fun _ => rfl) rfl) ?_
    refine y_new (v := .agg [.int _ _, .osl _ _ _ _]) (q_call (vs := [.agg [.int _ _, .sl _ _]]) (args := [.agg [.int .i64 _, .sl _ _]]) hb7 ⟨.inl rfl, trivial⟩ rfl (fun hA => toCnf_c _ _ (by omega) (by omega)) (by simp [noSh, noShL, osls_noSh]) (by simp [noRef, noRefL, osls_noRef])) rfl rfl (by decide) (by kernel_rfl) ?_
    refine y_new (v := .bool _) (q_call (vs := [.agg [.int _ _, .rsl _ _ _ _ _], .agg [.int _ _, .rsl _ _ _ _ _]]) (args := [.agg [.int .i64 _, .sl _ _], .agg [.int .i64 _, .sl _ _]]) hb11 ⟨.inl rfl, .inl rfl, trivial⟩ (l2_eq (agg_eq (l2_eq rfl sl_osls)) (agg_eq (l2_eq rfl sl_osls))) (fun hA => eqCnf_c _ _ _ _ (by omega) (by omega) (fun i => by first | (have := hrl i; omega) | (have := hll i; omega))) rfl rfl) rfl rfl (by decide) (by kernel_rfl) ?_
    refine yv (v := .bool _) (v_not il) ?_
    refine y_nil ?_
    refine a_cond rfl (fun ht56 => ?_) (fun ht56 => ?_)
    ·
     skip
     refine a_seq ?_
     refine a_pre (ent_look (L := [(1, .sl _ _), (2, .op [.int _ _, .sl _ _]), (4, .bool _), (6, .osl _ _ _ _), (7, .bool _), (8, .op [.int _ _, .osl _ _ _ _]), (9, .osl _ _ _ _), (10, .osl _ _ _ _), (11, .bool _)]) ⟨Weak.rfl, Weak.rfl, Weak.rfl, Weak.rfl, Weak.rfl, Weak.rfl, Weak.rfl, Weak.rfl, Weak.rfl, trivial⟩) ?_
     refine a_region ?_
     refine rv (v := .bool _) (v_assign il nf) ?_
     refine r_nil ?_
     refine a_ret ?_
     refine ret1 Tryz.results3 (by decide) (by decide) (Weak.of_eq (bool_eq ?_)) rfl Leaves.nil
     first | rfl | (exfalso; simp at ht56; done) | (exfalso; simp at ht56; omega)
    ·
     skip
     refine a_skip ?_
     refine a_seq ?_
     refine a_seq ?_
     refine a_pre (ent_look (L := [(1, .sl _ _), (2, .op [.int _ _, .sl _ _]), (4, .bool _), (6, .osl _ _ _ _), (7, .bool _), (8, .op [.int _ _, .osl _ _ _ _]), (9, .osl _ _ _ _), (10, .osl _ _ _ _), (11, .bool _)]) ⟨Weak.rfl, Weak.rfl, Weak.rfl, Weak.rfl, Weak.rfl, Weak.rfl, Weak.rfl, Weak.rfl, Weak.rfl, trivial⟩) ?_
     refine a_region ?_
     refine rv (v := .rsl _ _ _ _ _) (v_move il nf) ?_
     refine rv (v := .sl _ _) (v_move il nf) ?_
     refine rn (v := .osl _ _ _ _) (q_call (vs := [.sl _ _]) (args := [.sl _ _]) hb8 ⟨il, trivial⟩ rfl (fun hA => toIntS_c _ (by omega)) (ic_noSh _) (ic_noRef _)) ?_
     refine rn (v := .bool _) (q_call (vs := [.rsl _ _ _ _ _, .rsl _ _ _ _ _]) (args := [.sl _ _, .sl _ _]) hb12 ⟨il, il, trivial⟩ (l2_eq (sl_sh (ic_pure _)) (sl_sh (ic_pure _))) (fun hA => eqIntS_c _ _ (by omega)) rfl rfl) ?_
     refine rv (v := .bool _) (v_not il) ?_
     refine r_nil ?_
     refine a_cond rfl (fun ht61 => ?_) (fun ht61 => ?_)
     ·
      skip
      refine a_seq ?_
      refine a_pre (ent_look (L := [(1, .sl _ _), (2, .op [.int _ _, .sl _ _]), (4, .bool _), (6, .osl _ _ _ _), (7, .bool _), (8, .op [.int _ _, .osl _ _ _ _]), (9, .osl _ _ _ _), (10, .osl _ _ _ _), (11, .bool _)]) ⟨Weak.rfl, Weak.rfl, Weak.rfl, Weak.rfl, Weak.rfl, Weak.rfl, Weak.rfl, Weak.rfl, Weak.rfl, trivial⟩) ?_
      refine a_region ?_
      refine rv (v := .bool _) (v_assign il nf) ?_
      refine r_nil ?_
      refine a_ret ?_
      refine ret1 Tryz.results3 (by decide) (by decide) (Weak.of_eq (bool_eq ?_)) rfl Leaves.nil
      first | rfl | (exfalso; simp at ht61; done) | (exfalso; simp at ht61; omega)
     ·
      skip
      refine a_skip ?_
      refine a_seq ?_
      refine a_pre (ent_look (L := [(1, .sl _ _), (2, .op [.int _ _, .sl _ _]), (4, .bool _), (6, .osl _ _ _ _), (7, .bool _), (8, .op [.int _ _, .osl _ _ _ _]), (9, .osl _ _ _ _), (10, .osl _ _ _ _), (11, .bool _)]) ⟨Weak.rfl, Weak.rfl, Weak.rfl, Weak.rfl, Weak.rfl, Weak.rfl, Weak.rfl, Weak.rfl, Weak.rfl, trivial⟩) ?_
      refine a_region ?_
      refine rv (v := .int _ _) (v_assign il nf) ?_
      refine r_nil ?_
      refine a_seq ?_
      refine a_region ?_
      refine rv (v := .agg [.int _ _, .rsl _ _ _ _ _]) (v_load_rpa (xs := [.int _ _, .osl _ _ _ _]) ta30 il rfl rfl (fun _ => take_get rfl)) ?_
      refine rv (v := .int _ _) (v_move il nf) ?_
      refine r_step rfl (o_callIO (q := (8, [1])) (vs := [.agg [.int _ _, .rsl _ _ _ _ _], .int _ _]) (args := [.agg [.int .i64 _, .rsl (INH, []) _ _ _ _], .int .i64 _]) (x0 := .osl _ _ _ _) (x1 := .osl _ _ _ _) (res := .int _ _) rfl hb13 rfl (by decide) ⟨.inl rfl, .inl rfl, trivial⟩ rfl rfl (markCnf_c _ _ _ (by omega) (by omega) (by omega)) rfl rfl rfl (osls_noSh _) (osls_noRef _) (Nat.le_of_ble_eq_true rfl) (by decide) rfl) ?_
      refine rv (v := .int _ _) (v_assign il nf) ?_
      refine r_nil ?_
      refine a_seq ?_
      refine a_pre (ent_look (L := [(1, .sl _ _), (2, .op [.int _ _, .sl _ _]), (4, .bool _), (6, .osl _ _ _ _), (7, .bool _), (9, .osl _ _ _ _), (10, .osl _ _ _ _), (11, .bool _), (12, .int _ _)]) ⟨Weak.rfl, Weak.rfl, Weak.rfl, Weak.rfl, Weak.rfl, Weak.rfl, Weak.rfl, Weak.rfl, Weak.rfl, trivial⟩) ?_
      refine a_region ?_
      refine rv (v := .rsl _ _ _ _ _) (v_move il nf) ?_
      refine rv (v := .int _ _) (v_move il nf) ?_
      refine r_step rfl (o_callIO (q := (9, [])) (vs := [.rsl _ _ _ _ _, .int _ _]) (args := [.rsl (INH, []) _ _ _ _, .int .i64 _]) (x0 := .osl _ _ _ _) (x1 := .osl _ _ _ _) (res := .int _ _) rfl hb14 rfl (by decide) ⟨.inl rfl, .inl rfl, trivial⟩ rfl rfl (markIntS_c _ _ (by omega)) rfl rfl rfl (ic_noSh _) (ic_noRef _) (Nat.le_of_ble_eq_true rfl) (by decide) rfl) ?_
      refine rv (v := .int _ _) (v_assign il nf) ?_
      refine r_nil ?_
      refine a_seq ?_
      refine a_seq ?_
      refine a_region ?_
      refine rv (v := .int _ _) (v_move il nf) ?_
      refine rv (v := .bool _) (v_lss il il) ?_
      refine rv (v := .bool _) (v_move il nf) ?_
      refine r_gval (v := .rsl _ _ _ _ _) (v_move il nf) rfl rfl rfl (by decide) (.inl ⟨_, rfl, rfl⟩) rfl (by decide) ?_
      refine r_gval (v := .rsl _ _ _ _ _) (v_move il nf) rfl rfl rfl (by decide) (.inl ⟨_, rfl, rfl⟩) rfl (by decide) ?_
      refine r_guard (v := .bool _) (q_call (vs := [.rsl _ _ _ _ _, .rsl _ _ _ _ _]) (args := [.sl _ _, .sl _ _]) hb10 ⟨.inr ⟨_, rfl, fun h => h⟩, .inr ⟨_, rfl, fun h => h⟩, trivial⟩ (l2_eq (sl_sh (tn_pure _)) (sl_sh (tn_pure _))) (fun hA => eqTNS_c _ _ (by omega) (by omega)) rfl rfl) rfl rfl rfl (by decide) (.inl ⟨_, rfl, rfl⟩) rfl (by decide) ?_
      refine r_gval (v := .bool _) (v_not (.inr ⟨_, rfl, fun h => h⟩)) rfl rfl rfl (by decide) (.inl ⟨_, rfl, rfl⟩) rfl (by decide) ?_
      refine rv (v := .bool _) (v_pick (.inl rfl) (.inl rfl) (.inr ⟨_, rfl, fun h h2 => by simp_all⟩)) ?_
      refine rv (v := .bool _) (v_move il nf) ?_
      refine r_gval (v := .bool _) (v_move il nf) rfl rfl rfl (by decide) (.inl ⟨_, rfl, rfl⟩) rfl (by decide) ?_
      refine r_gval (v := .bool _) (v_move il nf) rfl rfl rfl (by decide) (.inl ⟨_, rfl, rfl⟩) rfl (by decide) ?_
      refine r_gval (v := .bool _) (v_bne un4 (.inr ⟨_, rfl, fun h => h⟩) (.inr ⟨_, rfl, fun h => h⟩)) rfl rfl rfl (by decide) (.inl ⟨_, rfl, rfl⟩) rfl (by decide) ?_
      refine rv (v := .bool _) (v_pick (.inl rfl) (.inl rfl) (.inr ⟨_, rfl, fun h h2 => by simp_all⟩)) ?_
      refine r_nil ?_
      refine a_cond rfl (fun ht80 => ?_) (fun ht80 => ?_)
      ·
       skip
       refine a_seq ?_
       refine a_pre (ent_look (L := [(1, .sl _ _), (2, .op [.int _ _, .sl _ _]), (4, .bool _), (6, .osl _ _ _ _), (7, .bool _), (10, .osl _ _ _ _)]) ⟨Weak.rfl, Weak.rfl, Weak.rfl, Weak.rfl, Weak.rfl, Weak.rfl, trivial⟩) ?_
       refine a_region ?_
       refine rv (v := .bool _) (v_assign il nf) ?_
       refine r_nil ?_
       refine a_ret ?_
       refine ret1 Tryz.results3 (by decide) (by decide) (Weak.of_eq (bool_eq ?_)) rfl Leaves.nil
       first | rfl | (exfalso; simp at ht80; done) | (exfalso; simp at ht80; omega)
      ·
       skip
       refine a_skip ?_
       refine a_seq ?_
       refine a_pre (ent_look (L := [(1, .sl _ _), (2, .op [.int _ _, .sl _ _]), (4, .bool _), (6, .osl _ _ _ _), (7, .bool _), (10, .osl _ _ _ _)]) ⟨Weak.rfl, Weak.rfl, Weak.rfl, Weak.rfl, Weak.rfl, Weak.rfl, trivial⟩) ?_
       refine a_region ?_
       refine rv (v := .int _ _) (v_assign il nf) ?_
       refine r_nil ?_
       refine a_seq ?_
       refine a_region ?_
       refine rv (v := .rsl _ _ _ _ _) (v_move il nf) ?_
       refine rv (v := .int _ _) (v_move il nf) ?_
       refine r_step rfl (o_callIO (q := (10, [])) (vs := [.rsl _ _ _ _ _, .int _ _]) (args := [.rsl (INH, []) _ _ _ _, .int .i64 _]) (x0 := .osl _ _ _ _) (x1 := .osl _ _ _ _) (res := .int _ _) rfl hb15 rfl (by decide) ⟨.inl rfl, .inl rfl, trivial⟩ rfl rfl (markTN_c _ _ (by omega)) rfl rfl rfl (ic_noSh _) (ic_noRef _) (Nat.le_of_ble_eq_true rfl) (by decide) rfl) ?_
       refine rv (v := .int _ _) (v_assign il nf) ?_
       refine r_nil ?_
       refine a_seq ?_
       refine a_region ?_
       refine rv (v := .int _ _) (v_assign il nf) ?_
       refine r_nil ?_
       refine a_seq ?_
       refine a_region ?_
       refine rv (v := .rsl _ _ _ _ _) (v_move il nf) ?_
       refine rv (v := .int _ _) (v_move il nf) ?_
       refine rn (v := .int _ _) (q_call (vs := [.rsl _ _ _ _ _, .int _ _]) (args := [.sl _ _, .int .i64 _]) hb16 ⟨il, il, trivial⟩ (l2_eq (sl_sh (ic_pure _)) rfl) (fun hA => heldTN_c _ _ (by omega)) rfl rfl) ?_
       refine rv (v := .int _ _) (v_assign il nf) ?_
       refine r_nil ?_
       refine a_seq ?_
       refine a_seq ?_
       refine a_pre (ent_look (L := [(1, .sl _ _), (2, .op [.int _ _, .sl _ _]), (4, .bool _), (6, .osl _ _ _ _), (7, .bool _), (10, .osl _ _ _ _), (13, .int _ _), (14, .int _ _)]) ⟨Weak.rfl, Weak.rfl, Weak.rfl, Weak.rfl, Weak.rfl, Weak.rfl, Weak.rfl, Weak.rfl, trivial⟩) ?_
       refine a_region ?_
       refine rv (v := .int _ _) (v_move il nf) ?_
       refine rv (v := .bool _) (v_lss il il) ?_
       refine r_nil ?_
       refine a_cond rfl (fun ht88 => ?_) (fun ht88 => ?_)
       ·
        skip
        refine a_seq ?_
        refine a_region ?_
        refine rv (v := .bool _) (v_assign il nf) ?_
        refine r_nil ?_
        refine a_ret ?_
        refine ret1 Tryz.results3 (by decide) (by decide) (Weak.of_eq (bool_eq ?_)) rfl Leaves.nil
        first | rfl | (exfalso; simp at ht88; done) | (exfalso; simp at ht88; omega)
       ·
        skip
        refine a_skip ?_
        refine a_seq ?_
        refine a_seq ?_
        refine a_region ?_
        refine rv (v := .int _ _) (v_move il nf) ?_
        refine rv (v := .int _ _) (v_move il nf) ?_
        refine rv (v := .bool _) (v_neq il il) ?_
        refine r_nil ?_
        refine a_cond rfl (fun ht91 => ?_) (fun ht91 => ?_)
        ·
         skip
         refine a_seq ?_
         refine a_region ?_
         refine rv (v := .bool _) (v_assign il nf) ?_
         refine r_nil ?_
         refine a_ret ?_
         refine ret1 Tryz.results3 (by decide) (by decide) (Weak.of_eq (bool_eq ?_)) rfl Leaves.nil
         first | rfl | (exfalso; simp at ht91; done) | (exfalso; simp at ht91; omega)
        ·
         skip
         refine a_skip ?_
         refine a_seq ?_
         refine a_region ?_
         refine rv (v := .agg [.int _ _, .sl _ _]) (v_load_rpa1 ta24 il rfl rfl (fun _ => rfl) rfl) ?_
         refine rn (v := .agg [.int _ _, .osl _ _ _ _]) (q_call (vs := [.agg [.int _ _, .sl _ _]]) (args := [.agg [.int .i64 _, .sl _ _]]) hb7 ⟨il, trivial⟩ rfl (fun hA => toCnf_c _ _ (by omega) (by omega)) (by simp [noSh, noShL, osls_noSh]) (by simp [noRef, noRefL, osls_noRef])) ?_
         refine rv (v := .sl _ _) (v_move il nf) ?_
         refine rn (v := .osl _ _ _ _) (q_call (vs := [.sl _ _]) (args := [.sl _ _]) hb8 ⟨il, trivial⟩ rfl (fun hA => toIntS_c _ (by omega)) (ic_noSh _) (ic_noRef _)) ?_
         refine rn (v := .tup [.osl _ _ _ _, .bool _]) (q_call (vs := [.agg [.int _ _, .rsl _ _ _ _ _], .rsl _ _ _ _ _]) (args := [.agg [.int .i64 _, .sl _ _], .sl _ _]) hb9 ⟨il, il, trivial⟩ (l2_eq (agg_eq (l2_eq rfl sl_osls)) (sl_sh (ic_pure _))) (fun hA => iTbo_c vars L vs hk (by omega)) (by simp [noSh, noShL, tn_noSh]) (by simp [noRef, noRefL, tn_noRef])) ?_
         refine rv (v := .tup [.rsl _ _ _ _ _, .bool _]) (v_mv rfl) ?_
         refine rv (v := .rsl _ _ _ _ _) (v_extract rfl rfl) ?_
         refine rv (v := .bool _) (v_extract rfl rfl) ?_
         refine rv (v := .rsl _ _ _ _ _) (v_assign il nf) ?_
         refine r_pre (ent_reloc_sl (t := 15) rfl rfl) ?_
         refine rv (v := .bool _) (v_assign il nf) ?_
         refine r_nil ?_
         refine a_seq ?_
         refine a_seq ?_
         refine a_pre (ent_look (L := [(4, .bool _), (6, .osl _ _ _ _), (7, .bool _), (10, .osl _ _ _ _), (13, .int _ _), (14, .int _ _), (15, .osl _ _ _ _), (16, .bool _)]) ⟨Weak.rfl, Weak.rfl, Weak.rfl, Weak.rfl, Weak.rfl, Weak.rfl, Weak.rfl, Weak.rfl, trivial⟩) ?_
         refine a_region ?_
         refine rv (v := .rsl _ _ _ _ _) (v_move il nf) ?_
         refine rv (v := .rsl _ _ _ _ _) (v_move il nf) ?_
         refine rn (v := .bool _) (q_call (vs := [.rsl _ _ _ _ _, .rsl _ _ _ _ _]) (args := [.sl _ _, .sl _ _]) hb10 ⟨il, il, trivial⟩ (l2_eq (sl_sh (tn_pure _)) (sl_sh (tn_pure _))) (fun hA => eqTNS_c _ _ (by omega) (by omega)) rfl rfl) ?_
         refine rv (v := .bool _) (v_not il) ?_
         refine rv (v := .bool _) (v_move il nf) ?_
         refine r_gval (v := .bool _) (v_move il nf) rfl rfl rfl (by decide) (.inl ⟨_, rfl, rfl⟩) rfl (by decide) ?_
         refine r_gval (v := .bool _) (v_move il nf) rfl rfl rfl (by decide) (.inl ⟨_, rfl, rfl⟩) rfl (by decide) ?_
         refine r_gval (v := .bool _) (v_bne un4 (.inr ⟨_, rfl, fun h => h⟩) (.inr ⟨_, rfl, fun h => h⟩)) rfl rfl rfl (by decide) (.inl ⟨_, rfl, rfl⟩) rfl (by decide) ?_
         refine rv (v := .bool _) (v_pick (.inl rfl) (.inl rfl) (.inr ⟨_, rfl, fun h h2 => by simp_all⟩)) ?_
         refine r_nil ?_
         refine a_cond rfl (fun ht108 => ?_) (fun ht108 => ?_)
         ·
          skip
          refine a_seq ?_
          refine a_pre (ent_look (L := [(4, .bool _), (10, .osl _ _ _ _), (13, .int _ _), (14, .int _ _)]) ⟨Weak.rfl, Weak.rfl, Weak.rfl, Weak.rfl, trivial⟩) ?_
          refine a_region ?_
          refine rv (v := .bool _) (v_assign il nf) ?_
          refine r_nil ?_
          refine a_ret ?_
          refine ret1 Tryz.results3 (by decide) (by decide) (Weak.of_eq (bool_eq ?_)) rfl Leaves.nil
          first | rfl | (exfalso; simp at ht108; done) | (exfalso; simp at ht108; omega)
         ·
          skip
          refine a_skip ?_
          refine a_seq ?_
          refine a_pre (ent_look (L := [(4, .bool _), (10, .osl _ _ _ _), (13, .int _ _), (14, .int _ _)]) ⟨Weak.rfl, Weak.rfl, Weak.rfl, Weak.rfl, trivial⟩) ?_
          refine a_region ?_
          refine rv (v := .int _ _) (v_assign il nf) ?_
          refine r_nil ?_
          refine a_seq ?_
          refine a_region ?_
          refine rv (v := .rsl _ _ _ _ _) (v_move il nf) ?_
          refine rv (v := .int _ _) (v_move il nf) ?_
          refine rn (v := .int _ _) (q_call (vs := [.rsl _ _ _ _ _, .int _ _]) (args := [.sl _ _, .int .i64 _]) hb16 ⟨il, il, trivial⟩ (l2_eq (sl_sh (ic_pure _)) rfl) (fun hA => heldTN_c _ _ (by omega)) rfl rfl) ?_
          refine rv (v := .int _ _) (v_assign il nf) ?_
          refine r_nil ?_
          refine a_seq ?_
          refine a_seq ?_
          refine a_region ?_
          refine rv (v := .int _ _) (v_move il nf) ?_
          refine rv (v := .bool _) (v_lss il il) ?_
          refine r_nil ?_
          refine a_cond rfl (fun ht113 => ?_) (fun ht113 => ?_)
          ·
           skip
           refine a_seq ?_
           refine a_region ?_
           refine rv (v := .bool _) (v_assign il nf) ?_
           refine r_nil ?_
           refine a_ret ?_
           refine ret1 Tryz.results3 (by decide) (by decide) (Weak.of_eq (bool_eq ?_)) rfl Leaves.nil
           first | rfl | (exfalso; simp at ht113; done) | (exfalso; simp at ht113; omega)
          ·
           skip
           refine a_skip ?_
           refine a_seq ?_
           refine a_seq ?_
           refine a_region ?_
           refine rv (v := .int _ _) (v_move il nf) ?_
           refine rv (v := .int _ _) (v_move il nf) ?_
           refine rv (v := .bool _) (v_neq il il) ?_
           refine r_nil ?_
           refine a_cond rfl (fun ht116 => ?_) (fun ht116 => ?_)
           ·
            skip
            refine a_seq ?_
            refine a_pre (ent_look (L := [(4, .bool _)]) ⟨Weak.rfl, trivial⟩) ?_
            refine a_region ?_
            refine rv (v := .bool _) (v_assign il nf) ?_
            refine r_nil ?_
            refine a_ret ?_
            refine ret1 Tryz.results3 (by decide) (by decide) (Weak.of_eq (bool_eq ?_)) rfl Leaves.nil
            first | rfl | (exfalso; simp at ht116; done) | (exfalso; simp at ht116; omega)
           ·
            skip
            refine a_skip ?_
            refine a_seq ?_
            refine a_pre (ent_look (L := [(4, .bool _)]) ⟨Weak.rfl, trivial⟩) ?_
            refine a_region ?_
            refine rv (v := .bool _) (v_assign il nf) ?_
            refine r_nil ?_
            refine a_ret ?_
            refine ret1 Tryz.results3 (by decide) (by decide) (Weak.of_eq (bool_eq ?_)) rfl Leaves.nil
            first | rfl | (exfalso; simp at ht116; done) | (exfalso; simp at ht116; omega)
end Go.Av
namespace Go.Av
open Go
theorem bd64 {n : Int} (h : (Lit.int .i64 n).wf = true) : -9223372036854775808 ≤ n ∧ n ≤ 9223372036854775807 := bounds_i64 h
theorem len64 {n : Nat} (h : n ≤ maxLen) : (n : Int) ≤ 9223372036854775807 := by unfold maxLen at h; omega
theorem icells_flat (xs : List Int) : xs.flatMap (fun n => [AV.int .i64 n]) = icells xs := by
 induction xs with
 | nil => rfl
 | cons x xs ih => rw [List.flatMap_cons, ih]; rfl
end Go.Av
namespace Go.Av
open Go
theorem sls_flat (L : List (List Int)) : L.flatMap (fun c => [AV.sl (icells c) c.length]) = sls L := by
  induction L with
  | nil => rfl
  | cons c L ih => rw [List.flatMap_cons, ih]; rfl
theorem cnf_hyp {L : List (List Int)} (h : L.length ≤ maxLen ∧ ∀ y ∈ L, (y.length ≤ maxLen ∧ ∀ z ∈ y, (Lit.int .i64 z).wf = true ∧ ([AV.int .i64 z]).length = 1) ∧ ([AV.sl (y.flatMap fun z => [AV.int .i64 z]) y.length]).length = 1) :
    (∀ i, ((gl L i).length : Int) ≤ 9223372036854775807) ∧ (L.length : Int) ≤ 9223372036854775807 ∧ ∀ i j, -9223372036854775808 ≤ gd (gl L i) j ∧ gd (gl L i) j ≤ 9223372036854775807 := by
  refine ⟨fun i => ?_, len64 h.1, fun i => ?_⟩
  · rcases Nat.lt_or_ge i L.length with hi | hi
    · exact len64 (h.2 _ (gl_mem hi)).1.1
    · rw [gl_out hi]; simp
  · rcases Nat.lt_or_ge i L.length with hi | hi
    · exact gd_bd fun x hx => bd64 ((h.2 _ (gl_mem hi)).1.2 x hx).1
    · intro j; rw [gl_out hi]; simp [gd]
end Go.Av
namespace Go.Av
open Go Go.Proofs Go.Proofs.YtknoopcjhjhggaaGreat
set_option maxRecDepth 100000
theorem arg24 : OpensV Tryz.prog 24 (fun x : (Int) × (List (List (Int))) => .agg (([AV.int .i64 x.1] ++ [AV.sl (x.2.flatMap fun y2 => [AV.sl (y2.flatMap fun y1 => [AV.int .i64 y1]) y2.length]) x.2.length]))) (fun x => (((Lit.int .i64 x.1).wf = true) ∧ ((x.2.length ≤ maxLen ∧ ∀ y2 ∈ x.2, (y2.length ≤ maxLen ∧ ∀ y1 ∈ y2, (Lit.int .i64 y1).wf = true ∧ ([AV.int .i64 y1]).length = 1) ∧ ([AV.sl (y2.flatMap fun y1 => [AV.int .i64 y1]) y2.length]).length = 1)))) :=
 opensV_agg (ok_agg (by rw [Tryz.underlying24])) (opens_struct Tryz.underlying24 (tot := (1 + 1)) (by kernel_rfl) (opensFs_cons rfl (by kernel_rfl) (opens_int Tryz.underlying3) (opensFs_one rfl (by kernel_rfl) (opens_slice (k := 1) Tryz.underlying22 (by kernel_rfl) (by decide) (opens_slice (k := 1) Tryz.underlying25 (by kernel_rfl) (by decide) (opens_int Tryz.underlying3) (fun _ => rfl)) (fun _ => rfl)))))
theorem arg25 : OpensV Tryz.prog 25 (fun x : List (Int) => AV.sl (x.flatMap fun y3 => [AV.int .i64 y3]) x.length) (fun x => (x.length ≤ maxLen ∧ ∀ y3 ∈ x, (Lit.int .i64 y3).wf = true ∧ ([AV.int .i64 y3]).length = 1)) :=
 opensV_one (ok_scalar (by rw [Tryz.underlying25])) (opens_slice (k := 1) Tryz.underlying25 (by kernel_rfl) (by decide) (opens_int Tryz.underlying3) (fun _ => rfl)) (fun _ => rfl)
theorem rowOwn : ownKnob Tryz.prog.godebug = none := by kernel_rfl
theorem rowLaid : laidOutB Tryz.prog = true := by kernel_rfl
end Go.Av
