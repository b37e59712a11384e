/- Lemmas, part 6. -/
import Derived.Test.YtnlocliddcjplaaGreatA5
import Derived.Laws.Cover1
set_option linter.unusedVariables false
set_option linter.unusedSimpArgs false
namespace Go.Av
open Go Go.Proofs Go.Sort
set_option maxRecDepth 10000
theorem hb52 : hasBody Tryz.prog 52 = true := by kernel_rfl
theorem hb75 : hasBody Tryz.prog 75 = true := by kernel_rfl
theorem hb86 : hasBody Tryz.prog 86 = true := by kernel_rfl
theorem un4 : Tryz.prog.underlying 4 = some .bool := by kernel_rfl
theorem true5_c (c : List Int) (w : Nat) (hw : w ≤ 4096) (hs : ∀ i, i < c.length → 1 ≤ vr (gd c i) ∧ vr (gd c i) ≤ 12) (hsm : SmI c) (hc : c.length ≤ 1048576) : ACall Tryz.prog 86 [.sl (icells c) c.length, .int .i64 ((w : Nat) : Int)] [] (.bool (tW w c)) [] := by
 refine ACall.intro Tryz.func86 rfl (N := 28) rfl (by decide) (by simp) ?_
 refine a_seq ?_
 refine a_region ?_
 refine rv (v := .bool _) (v_assign il nf) ?_
 refine r_nil ?_
 refine a_seq ?_
 refine a_seq ?_
 refine a_region ?_
 refine rv (v := .int _ _) (v_assign il nf) ?_
 refine r_nil ?_
 refine a_block ?_
 refine a_loop (X := Nat) (fun i => look [(0, .sl (icells c) c.length), (1, .int .i64 ((w : Nat) : Int)), (5, .int .i64 ((i : Nat) : Int))]) (fun i => i ≤ c.length ∧ ∀ j, j < i → litT w (gd c j) = false) (fun i => c.length - i) 0 (ent_look ⟨Weak.of_eq rfl, Weak.of_eq rfl, Weak.of_eq rfl, trivial⟩) ⟨Nat.zero_le _, fun j h => by omega⟩ (fun i hG => ?_)
 obtain ⟨g1, g2⟩ := hG
 have hsi := hsm i
 refine a_seq ?_
 refine a_seq ?_
 refine a_region ?_
 refine rv (v := .int _ _) (v_move il nf) ?_
 refine rv (v := .sl _ _) (v_move il nf) ?_
 refine rv (v := .int _ _) (v_len_sl sl40 il) ?_
 refine rv (v := .bool _) (v_lss il il) ?_
 refine r_nil ?_
 refine a_cond rfl (fun ht9 => ?_) (fun ht9 => ?_)
 ·
  skip
  refine a_skip ?_
  refine a_seq ?_
  refine a_block ?_
  refine a_seq ?_
  have hi : i < c.length := (by simp at ht9; omega)
  have hvi := hs i hi
  have hdv := div_bd hw ((vr (gd c i)) - 1).toNat
  refine a_region_any mixed (by kernel_rfl) ?_
  refine yv (v := .int _ _) (v_move il nf) ?_
  refine yv (v := .sl _ _) (v_move il nf) ?_
  refine yv (v := .int _ _) (v_move il nf) ?_
  refine yv (v := .pp _ _) (v_indexAddr_sl es40 il il (fun _ => ⟨by omega, by omega, icells_ne hi⟩)) ?_
  refine yv (v := .int .i64 (gd c i)) (v_load_pp ta3 il (fun _ => by rw [Nat.mul_one]; exact icells_get (gd_get hi)) rfl) ?_
  refine y_new (v := .int _ _) (q_call (vs := [.int _ _]) (args := [.int .i64 _]) hb57 ⟨.inl rfl, trivial⟩ rfl (fun hA => l2Var_c _ (by omega)) rfl rfl) rfl rfl (by decide) (by kernel_rfl) ?_
  refine yv (v := .int _ _) (v_sub il il (fun _ => by omega)) ?_
  refine yv (v := .int _ _) (v_shr il il (fun _ => by omega)) ?_
  refine yv (v := .int _ _) (v_and il il (fun _ => by omega)) ?_
  refine yv (v := .bool _) (v_eql il il) ?_
  refine yv (v := .sl _ _) (v_move il nf) ?_
  refine yv (v := .int _ _) (v_move il nf) ?_
  refine yv (v := .pp _ _) (v_indexAddr_sl es40 il il (fun _ => ⟨by omega, by omega, icells_ne hi⟩)) ?_
  refine yv (v := .int .i64 (gd c i)) (v_load_pp ta3 il (fun _ => by rw [Nat.mul_one]; exact icells_get (gd_get hi)) rfl) ?_
  refine yv (v := .bool _) (v_gtr il il) ?_
  refine yv (v := .bool _) (v_beq un4 il il) ?_
  refine y_nil ?_
  refine a_cond rfl (fun ht27 => ?_) (fun ht27 => ?_)
  ·
   skip
   refine a_seq ?_
   refine a_region ?_
   refine rv (v := .bool _) (v_assign il nf) ?_
   refine r_nil ?_
   refine a_ret ?_
   refine ret1 Tryz.results86 (by decide) (by decide) (Weak.of_eq (bool_eq ?_)) rfl Leaves.nil
   exact (List.any_eq_true.2 ⟨i, List.mem_range.2 hi, ht27⟩).symm
  ·
   skip
   refine a_skip ?_
   refine a_region ?_
   refine rv (v := .int _ _) (v_move il nf) ?_
   refine rv (v := .int _ _) (v_add il il (fun _ => by omega)) ?_
   refine rv (v := .int _ _) (v_assign il nf) ?_
   refine r_nil ?_
   refine ⟨i + 1, ent_look ⟨Weak.of_eq rfl, Weak.of_eq rfl, Weak.of_eq (int_eq (by omega)), trivial⟩, ⟨by omega, ok_stepF (p := fun j => litT w (gd c j)) g2 ht27⟩, by omega⟩
 ·
  skip
  refine a_exit ?_
  refine a_seq ?_
  refine a_region ?_
  refine rv (v := .bool _) (v_assign il nf) ?_
  refine r_nil ?_
  refine a_ret ?_
  refine ret1 Tryz.results86 (by decide) (by decide) (Weak.of_eq (bool_eq ?_)) rfl Leaves.nil
  simp at ht9; exact (List.any_eq_false.2 (fun j hj => by rw [g2 j (by have := List.mem_range.1 hj; omega)]; simp)).symm
theorem all5_c (L : List (List Int)) (w : Nat) (hw : w ≤ 4096) (vars : Int) (hcl : ∀ i, i < L.length → clB vars (gl L i) = true) (hL : L.length ≤ 1048576) : ACall Tryz.prog 75 [.sl (sls L) L.length, .int .i64 ((w : Nat) : Int)] [] (.bool (aW L w)) [] := by
 refine ACall.intro Tryz.func75 rfl (N := 19) rfl (by decide) (by simp) ?_
 refine a_seq ?_
 refine a_region ?_
 refine rv (v := .bool _) (v_assign il nf) ?_
 refine r_nil ?_
 refine a_seq ?_
 refine a_seq ?_
 refine a_region ?_
 refine rv (v := .int _ _) (v_assign il nf) ?_
 refine r_nil ?_
 refine a_block ?_
 refine a_loop (X := Nat) (fun i => look [(0, .sl (sls L) L.length), (1, .int .i64 ((w : Nat) : Int)), (5, .int .i64 ((i : Nat) : Int))]) (fun i => i ≤ L.length ∧ ∀ j, j < i → (!tW w (gl L j)) = false) (fun i => L.length - i) 0 (ent_look ⟨Weak.of_eq rfl, Weak.of_eq rfl, Weak.of_eq rfl, trivial⟩) ⟨Nat.zero_le _, fun j h => by omega⟩ (fun i hG => ?_)
 obtain ⟨g1, g2⟩ := hG
 refine a_seq ?_
 refine a_seq ?_
 refine a_region ?_
 refine rv (v := .int _ _) (v_move il nf) ?_
 refine rv (v := .sl _ _) (v_move il nf) ?_
 refine rv (v := .int _ _) (v_len_sl sl22 il) ?_
 refine rv (v := .bool _) (v_lss il il) ?_
 refine r_nil ?_
 refine a_cond rfl (fun ht9 => ?_) (fun ht9 => ?_)
 ·
  skip
  refine a_skip ?_
  refine a_seq ?_
  refine a_block ?_
  refine a_seq ?_
  have hi : i < L.length := (by simp at ht9; omega)
  have hci := hcl i hi
  have hlc := clB_len hci
  refine a_region ?_
  refine rv (v := .sl _ _) (v_move il nf) ?_
  refine rv (v := .int _ _) (v_move il nf) ?_
  refine rv (v := .pp _ _) (v_indexAddr_sl es22 il il (fun _ => ⟨by omega, by omega, sls_ne hi⟩)) ?_
  refine rv (v := .sl (icells (gl L i)) (gl L i).length) (v_load_pp ta40 il (fun _ => by rw [Nat.mul_one]; exact sls_get hi) rfl) ?_
  refine rv (v := .int _ _) (v_move il nf) ?_
  refine rn (v := .bool _) (q_call (vs := [.sl _ _, .int _ _]) (args := [.sl _ _, .int .i64 _]) hb86 ⟨il, il, trivial⟩ rfl (fun hA => true5_c (gl L i) w hw (fun j hj => cl_vr hci hj) (clB_sm hci) (by omega)) rfl rfl) ?_
  refine rv (v := .bool _) (v_not il) ?_
  refine r_nil ?_
  refine a_cond rfl (fun ht18 => ?_) (fun ht18 => ?_)
  ·
   skip
   refine a_seq ?_
   refine a_region ?_
   refine rv (v := .bool _) (v_assign il nf) ?_
   refine r_nil ?_
   refine a_ret ?_
   refine ret1 Tryz.results75 (by decide) (by decide) (Weak.of_eq (bool_eq ?_)) rfl Leaves.nil
   unfold aW; rw [List.any_eq_true.2 ⟨i, List.mem_range.2 hi, ht18⟩]; rfl
  ·
   skip
   refine a_skip ?_
   refine a_region ?_
   refine rv (v := .int _ _) (v_move il nf) ?_
   refine rv (v := .int _ _) (v_add il il (fun _ => by omega)) ?_
   refine rv (v := .int _ _) (v_assign il nf) ?_
   refine r_nil ?_
   refine ⟨i + 1, ent_look ⟨Weak.of_eq rfl, Weak.of_eq rfl, Weak.of_eq (int_eq (by omega)), trivial⟩, ⟨by omega, ok_stepF (p := fun j => !tW w (gl L j)) g2 ht18⟩, by omega⟩
 ·
  skip
  refine a_exit ?_
  refine a_seq ?_
  refine a_region ?_
  refine rv (v := .bool _) (v_assign il nf) ?_
  refine r_nil ?_
  refine a_ret ?_
  refine ret1 Tryz.results75 (by decide) (by decide) (Weak.of_eq (bool_eq ?_)) rfl Leaves.nil
  simp at ht9; unfold aW; rw [List.any_eq_false.2 (fun j hj => by rw [g2 j (by have := List.mem_range.1 hj; omega)]; simp)]; rfl
theorem first5_c (vars : Int) (L : List (List Int)) (hcl : ∀ i, i < L.length → clB vars (gl L i) = true) (hL : L.length ≤ 1048576) (hv : 0 ≤ vars ∧ vars ≤ 12) : ACall Tryz.prog 52 [.int .i64 vars, .sl (sls L) L.length] [] (.int .i64 (fW vars L)) [] := by
 have hp12 := pow12 hv
 refine ACall.intro Tryz.func52 rfl (N := 16) rfl (by decide) (by simp) ?_
 refine a_seq ?_
 refine a_region ?_
 refine rv (v := .int _ _) (v_assign il nf) ?_
 refine r_nil ?_
 refine a_seq ?_
 refine a_seq ?_
 refine a_region ?_
 refine rv (v := .int _ _) (v_assign il nf) ?_
 refine r_nil ?_
 refine a_block ?_
 refine a_loop (X := Nat) (fun w => look [(0, .int .i64 vars), (1, .sl (sls L) L.length), (5, .int .i64 ((w : Nat) : Int))]) (fun w => w ≤ 2 ^ vars.toNat ∧ ∀ j, j < w → aW L j = false) (fun w => 2 ^ vars.toNat - w) 0 (ent_look ⟨Weak.of_eq rfl, Weak.of_eq rfl, Weak.of_eq rfl, trivial⟩) ⟨Nat.zero_le _, fun j h => by omega⟩ (fun w hG => ?_)
 obtain ⟨g1, g2⟩ := hG
 refine a_seq ?_
 refine a_seq ?_
 refine a_region ?_
 refine rv (v := .int _ _) (v_move il nf) ?_
 refine rv (v := .int _ _) (v_move il nf) ?_
 refine rv (v := .int .i64 (((2 ^ vars.toNat : Nat) : Nat) : Int)) ((v_shl il il (fun _ => by omega)).cast (int_eq (by push_cast; omega))) ?_
 refine rv (v := .bool _) (v_lss il il) ?_
 refine r_nil ?_
 refine a_cond rfl (fun ht9 => ?_) (fun ht9 => ?_)
 ·
  skip
  refine a_skip ?_
  refine a_seq ?_
  refine a_block ?_
  refine a_seq ?_
  have hi : w < 2 ^ vars.toNat := (by simp at ht9; omega)
  refine a_region ?_
  refine rv (v := .sl _ _) (v_move il nf) ?_
  refine rv (v := .int _ _) (v_move il nf) ?_
  refine rn (v := .bool _) (q_call (vs := [.sl _ _, .int _ _]) (args := [.sl _ _, .int .i64 _]) hb75 ⟨il, il, trivial⟩ rfl (fun hA => all5_c L w (by omega) vars hcl hL) rfl rfl) ?_
  refine r_nil ?_
  refine a_cond rfl (fun ht14 => ?_) (fun ht14 => ?_)
  ·
   skip
   refine a_seq ?_
   refine a_region ?_
   refine rv (v := .int _ _) (v_move il nf) ?_
   refine rv (v := .int _ _) (v_assign il nf) ?_
   refine r_nil ?_
   refine a_ret ?_
   refine ret1 Tryz.results52 (by decide) (by decide) (Weak.of_eq (int_eq ?_)) rfl Leaves.nil
   exact (fidx_found (p := fun w => aW L w) hi ht14 g2).symm
  ·
   skip
   refine a_skip ?_
   refine a_region ?_
   refine rv (v := .int _ _) (v_move il nf) ?_
   refine rv (v := .int _ _) (v_add il il (fun _ => by omega)) ?_
   refine rv (v := .int _ _) (v_assign il nf) ?_
   refine r_nil ?_
   refine ⟨w + 1, ent_look ⟨Weak.of_eq rfl, Weak.of_eq rfl, Weak.of_eq (int_eq (by omega)), trivial⟩, ⟨by omega, ok_stepF (p := fun j => aW L j) g2 ht14⟩, by omega⟩
 ·
  skip
  refine a_exit ?_
  refine a_seq ?_
  refine a_region ?_
  refine rv (v := .int _ _) (v_assign il nf) ?_
  refine r_nil ?_
  refine a_ret ?_
  refine ret1 Tryz.results52 (by decide) (by decide) (Weak.of_eq (int_eq ?_)) rfl Leaves.nil
  simp at ht9; exact (fidx_none (p := fun w => aW L w) (fun j hj => g2 j (by omega))).symm
theorem sat5_c (vars : Int) (L : List (List Int)) (hcf : cnfB vars L = true) : ACall Tryz.prog 29 [.agg [.int .i64 vars, .sl (sls L) L.length]] [] (.bool (decide (0 ≤ fW vars L))) [] := by
 have hcs := cnfB_spec hcf
 refine ACall.intro Tryz.func29 rfl (N := 9) rfl (by decide) (by simp) ?_
 refine a_seq ?_
 refine a_region ?_
 refine rn (v := .op [.int _ _, .sl _ _]) (q_box il rfl rfl) ?_
 refine rv (v := .bool _) (v_assign il nf) ?_
 refine r_nil ?_
 refine a_seq ?_
 refine a_region ?_
 refine rv (v := .rp _ _) (v_fieldAddr_rp fo29_0 il) ?_
 refine rv (v := .int _ _) (v_load_rp1 ta3 il rfl (fun _ => rfl) rfl) ?_
 refine rv (v := .rp _ _) (v_fieldAddr_rp fo29_1 il) ?_
 refine rv (v := .sl _ _) (v_load_rp1 ta22 il rfl (fun _ => rfl) rfl) ?_
 refine rn (v := .int _ _) (q_call (vs := [.int _ _, .sl _ _]) (args := [.int .i64 _, .sl _ _]) hb52 ⟨il, il, trivial⟩ rfl (fun hA => first5_c vars L hcs.2.2 (by omega) hcs.1) rfl rfl) ?_
 refine rv (v := .bool _) (v_geq il il) ?_
 refine rv (v := .bool _) (v_assign il nf) ?_
 refine r_nil ?_
 refine a_ret ?_
 refine ret1 Tryz.results29 (by decide) (by decide) (Weak.of_eq (bool_eq ?_)) rfl Leaves.nil
 rfl
end Go.Av
namespace Go.Av
open Go
def dg (l : Int) : Nat := if l > 0 then 2 else 1
def codeA : List Int → Nat
  | [] => 0
  | l :: a => dg l * 3 ^ (vr l - 1).toNat + codeA a
theorem codeA_append : ∀ (a b : List Int), codeA (a ++ b) = codeA a + codeA b
  | [], b => by simp [codeA]
  | l :: a, b => by rw [List.cons_append, codeA, codeA, codeA_append a b]; omega
theorem codeA_dvd {k : Nat} : ∀ {a : List Int}, (∀ l ∈ a, (k : Int) < vr l) → 3 ^ k ∣ codeA a
  | [], _ => ⟨0, by simp [codeA]⟩
  | l :: a, h => by
    rw [codeA]
    refine Nat.dvd_add ?_ (codeA_dvd fun x hx => h x (List.mem_cons_of_mem _ hx))
    have h1 := h l List.mem_cons_self
    exact Nat.dvd_trans (Nat.pow_dvd_pow 3 (by omega)) (Nat.dvd_mul_left _ _)
theorem vr_pos {l : Int} (h : l ≠ 0) : 1 ≤ vr l := by unfold vr; split <;> omega
theorem dg_bd (l : Int) : 1 ≤ dg l ∧ dg l ≤ 2 := by unfold dg; split <;> omega
theorem same_dg {l m : Int} (h : vr l = vr m) (hd : dg l = dg m) (hl : l ≠ 0) : l = m := by
  unfold vr at h; unfold dg at hd
  split at hd <;> split at hd <;> split at h <;> split at h <;> omega
theorem code_head {l : Int} {a : List Int} (hs : Strict (l :: a)) (h0 : l ≠ 0) : ∃ q, codeA (l :: a) = 3 ^ (vr l - 1).toNat * (dg l + 3 * q) := by
  have h1 : 3 ^ (vr l).toNat ∣ codeA a := codeA_dvd fun x hx => by
    unfold Strict at hs
    have := (List.pairwise_cons.1 hs).1 x hx
    have := vr_pos h0
    omega
  obtain ⟨q, hq⟩ := h1
  have hv := vr_pos h0
  refine ⟨q, ?_⟩
  rw [codeA, hq, show (vr l).toNat = (vr l - 1).toNat + 1 by omega, Nat.pow_succ, Nat.mul_add, Nat.mul_comm (dg l), Nat.mul_assoc]
theorem pow3_cmp {k m p q d e : Nat} (hd : 1 ≤ d ∧ d ≤ 2) (he : 1 ≤ e) (h : 3 ^ k * (d + 3 * p) = 3 ^ m * (e + 3 * q)) : ¬ k < m := fun hlt => by
  obtain ⟨j, rfl⟩ : ∃ j, m = k + (j + 1) := ⟨m - k - 1, by omega⟩
  rw [Nat.pow_add, Nat.mul_assoc] at h
  have h2 := Nat.eq_of_mul_eq_mul_left (Nat.pos_of_ne_zero (by simp)) h
  rw [Nat.pow_succ] at h2
  have h3 : d + 3 * p = 3 * (3 ^ j * (e + 3 * q)) := by rw [h2, Nat.mul_comm (3 ^ j) 3, Nat.mul_assoc]
  omega
theorem codeA_inj : ∀ {a b : List Int}, Strict a → Strict b → (∀ l ∈ a, l ≠ 0) → (∀ l ∈ b, l ≠ 0) → codeA a = codeA b → a = b
  | [], [], _, _, _, _, _ => rfl
  | [], m :: b, _, hb, _, h0, h => by
    obtain ⟨q, hq⟩ := code_head hb (h0 m List.mem_cons_self)
    rw [hq] at h
    have h1 := (dg_bd m).1
    have h2 : 0 < 3 ^ (vr m - 1).toNat * (dg m + 3 * q) := Nat.mul_pos (Nat.pos_of_ne_zero (by simp)) (by omega)
    rw [show codeA ([] : List Int) = 0 from rfl] at h; omega
  | l :: a, [], ha, _, h0, _, h => by
    obtain ⟨q, hq⟩ := code_head ha (h0 l List.mem_cons_self)
    rw [hq] at h
    have h1 := (dg_bd l).1
    have h2 : 0 < 3 ^ (vr l - 1).toNat * (dg l + 3 * q) := Nat.mul_pos (Nat.pos_of_ne_zero (by simp)) (by omega)
    rw [show codeA ([] : List Int) = 0 from rfl] at h; omega
  | l :: a, m :: b, ha, hb, h0, h1, h => by
    have hl := h0 l List.mem_cons_self
    have hm := h1 m List.mem_cons_self
    obtain ⟨p, hp⟩ := code_head ha hl
    obtain ⟨q, hq⟩ := code_head hb hm
    have hh := h
    rw [hp, hq] at hh
    have e1 := pow3_cmp (dg_bd l) (dg_bd m).1 hh
    have e2 := pow3_cmp (dg_bd m) (dg_bd l).1 hh.symm
    have v1 := vr_pos hl
    have v2 := vr_pos hm
    have ev : vr l = vr m := by omega
    rw [ev] at hh
    have e3 := Nat.eq_of_mul_eq_mul_left (Nat.pos_of_ne_zero (by simp)) hh
    have d1 := dg_bd l
    have d2 := dg_bd m
    have ed : dg l = dg m := by omega
    obtain rfl : l = m := same_dg ev ed hl
    rw [codeA, codeA] at h
    unfold Strict at ha hb
    rw [codeA_inj (a := a) (b := b) (List.pairwise_cons.1 ha).2 (List.pairwise_cons.1 hb).2 (fun x hx => h0 x (List.mem_cons_of_mem _ hx)) (fun x hx => h1 x (List.mem_cons_of_mem _ hx)) (by omega)]
theorem codeA_lt {n : Nat} : ∀ {a : List Int}, Strict a → (∀ l ∈ a, l ≠ 0 ∧ vr l ≤ n) → codeA a < 3 ^ n := by
  induction n with
  | zero =>
    intro a _ h
    cases a with
    | nil => simp [codeA]
    | cons l a => have := h l List.mem_cons_self; have := vr_pos this.1; omega
  | succ n ih =>
    intro a hs h
    by_cases hl : ∃ l ∈ a, vr l = (n + 1 : Nat)
    · obtain ⟨l, hl, hv⟩ := hl
      obtain ⟨u, w, rfl⟩ := List.append_of_mem hl
      unfold Strict at hs
      have h2 := List.pairwise_append.1 hs
      have hw : w = [] := by
        cases w with
        | nil => rfl
        | cons x w =>
          have h3 := (List.pairwise_cons.1 h2.2.1).1 x List.mem_cons_self
          have h4 := (h x (by simp)).2
          omega
      subst hw
      have h5 := ih (a := u) h2.1 fun x hx => ⟨(h x (by simp [hx])).1, by have := h2.2.2 x hx l List.mem_cons_self; omega⟩
      rw [codeA_append, codeA, codeA, hv, show ((n + 1 : Nat) : Int) - 1 = n by omega, Int.toNat_natCast, Nat.pow_succ]
      have h6 := (dg_bd l).2
      have h7 : dg l * 3 ^ n ≤ 2 * 3 ^ n := Nat.mul_le_mul_right _ h6
      omega
    · have := ih (a := a) hs fun x hx => ⟨(h x hx).1, by
        have h1 := (h x hx).2
        have h2 : vr x ≠ (n + 1 : Nat) := fun e => hl ⟨x, hx, e⟩
        omega⟩
      rw [Nat.pow_succ]; omega
theorem codeA_put : ∀ (a : List Int) (l : Int), codeA (putL a l) = codeA a + dg l * 3 ^ (vr l - 1).toNat
  | [], l => by simp [putL, codeA]
  | x :: a, l => by
    rw [putL]; split
    · rw [codeA, codeA_put a l, codeA]; omega
    · rw [codeA, codeA]; omega
theorem codeA_take {a : List Int} {i : Nat} (h : i < a.length) : codeA (a.take (i + 1)) = codeA (a.take i) + dg (gd a i) * 3 ^ (vr (gd a i) - 1).toNat := by
  rw [take_gd h, codeA_append, codeA, codeA]; rfl
theorem codeA_cl {vars : Int} {a : List Int} (h : clB vars a = true) : codeA a < 3 ^ vars.toNat := by
  have hv := (clB_spec h).1
  refine codeA_lt (clB_strict h) fun l hl => ?_
  have := litB_spec.1 (clB_mem h hl).1
  refine ⟨this.2, ?_⟩
  unfold vr; split <;> omega
theorem strict_take {a : List Int} (h : Strict a) (i : Nat) : Strict (a.take i) := List.Pairwise.sublist (List.take_sublist i a) h
theorem codeA_tk {vars : Int} {a : List Int} (h : clB vars a = true) (i : Nat) : codeA (a.take i) ≤ 531441 := by
  have hv := (clB_spec h).1
  have : codeA (a.take i) < 3 ^ vars.toNat := codeA_lt (strict_take (clB_strict h) i) fun l hl => by
    have := litB_spec.1 (clB_mem h (List.mem_of_mem_take hl)).1
    refine ⟨this.2, ?_⟩
    unfold vr; split <;> omega
  have h2 : 3 ^ vars.toNat ≤ 3 ^ 12 := Nat.pow_le_pow_right (by decide) (by omega)
  omega
theorem pow3_bd {k : Nat} (h : k ≤ 12) : 1 ≤ 3 ^ k ∧ 3 ^ k ≤ 531441 := ⟨Nat.one_le_pow _ _ (by decide), Nat.le_trans (Nat.pow_le_pow_right (by decide) h) (by decide)⟩
theorem dg_pos {l : Int} (h : l > 0) : dg l = 2 ∧ vr l = l := by unfold dg vr; rw [if_pos h, if_neg (by omega)]; exact ⟨rfl, rfl⟩
theorem dg_neg {l : Int} (h : ¬ l > 0) (h0 : l ≠ 0) : dg l = 1 ∧ vr l = -l := by unfold dg vr; rw [if_neg h, if_pos (by omega)]; exact ⟨rfl, rfl⟩
def opensL (n : Int) (a : List Int) : List Int := (upL n).filter fun v => !(!opB a v)
theorem sm_one {v : Int} (h : 1 ≤ v ∧ v ≤ 12) : SmI [v] := fun i => by
  cases i with
  | zero => show _ ≤ v ∧ v ≤ _; omega
  | succ i => show _ ≤ (0 : Int) ∧ (0 : Int) ≤ _; omega
theorem fopen_one {v : Int} {a : List Int} (h : 1 ≤ v ∧ v ≤ 12) : decide (fopen [v] a = 0) = !opB a v := by
  unfold fopen
  cases ho : opB a v with
  | true => rw [List.find?_cons_of_pos (by simpa using ho)]; rw [Option.getD_some, decide_eq_false (by omega)]; rfl
  | false => rw [List.find?_cons_of_neg (by simp [ho])]; rfl
theorem upL_gd {n : Int} (h : 0 ≤ n ∧ n ≤ 12) {i : Nat} (hi : i < (upL n).length) : 1 ≤ gd (upL n) i ∧ gd (upL n) i ≤ 12 := by
  have := mem_upL.1 (gd_mem hi); omega
end Go.Av
namespace Go.Av
open Go
theorem bl_pure (B : List Bool) : pureL (blcells B) = true ∧ noNilL (blcells B) = true := by
  constructor
  · refine pureL_iff.2 fun c hc => ?_
    obtain ⟨n, _, rfl⟩ := List.mem_map.1 hc; rfl
  · induction B with
    | nil => rfl
    | cons x xs ih => simp only [blcells, List.map_cons, noNilL, noNil, Bool.true_and]; exact ih
theorem nz_cl {vars : Int} {c : List Int} (h : clB vars c = true) : ∀ l ∈ c, l ≠ 0 := fun _ hl => (clB_mem h hl).2.2.2
theorem put_cl {vars : Int} {a : List Int} {v : Int} (h : clB vars a = true) (hv : 1 ≤ v ∧ v ≤ vars) (ho : opB a v = true) : clB vars (putL a v) = true ∧ clB vars (putL a (-v)) = true := by
  obtain ⟨h1, h2⟩ := opB_spec.1 ho
  have e1 := set_new h (l := v) (litB_spec.2 (by omega)) h1 h2
  have e2 := set_new h (l := -v) (litB_spec.2 (by omega)) h2 (by rw [Int.neg_neg]; exact h1)
  rw [set_put h1 h2] at e1
  rw [set_put h2 (by rw [Int.neg_neg]; exact h1)] at e2
  exact ⟨e1.1, e2.1⟩
theorem code_put {a : List Int} {v : Int} (hv : 1 ≤ v) : codeA (putL a v) = codeA a + 2 * 3 ^ (v - 1).toNat ∧ codeA (putL a (-v)) = codeA a + 3 ^ (v - 1).toNat := by
  have h1 := dg_pos (l := v) (by omega)
  have h2 := dg_neg (l := -v) (by omega) (by omega)
  rw [codeA_put, codeA_put, h1.1, h1.2, h2.1, h2.2, Int.neg_neg, Nat.one_mul]; exact ⟨rfl, rfl⟩
theorem opens_gd {vars : Int} {a : List Int} {i : Nat} (h : i < (opensL vars a).length) : (1 ≤ gd (opensL vars a) i ∧ gd (opensL vars a) i ≤ vars) ∧ opB a (gd (opensL vars a) i) = true := by
  have := gd_mem h
  unfold opensL at this ⊢
  rw [List.mem_filter] at this
  exact ⟨mem_upL.1 this.1, by simpa using this.2⟩
theorem opens_len {vars : Int} (h : 0 ≤ vars ∧ vars ≤ 12) (a : List Int) : (opensL vars a).length ≤ 12 := by
  have h1 : (opensL vars a).length ≤ (upL vars).length := List.length_filter_le _ _
  have h2 := upL_len h
  omega
end Go.Av
namespace Go.Av
open Go
section
variable {P : Program} {N : Nat} {σ τ : Sig} {o : Oper} {d : Nat}
def cloArgs (ev : Operand → Value) (c : Operand) (xs : List Operand) : List Value := match ev c with
  | .func _ us ws => us.toList ++ xs.map ev ++ ws.toList
  | _ => []
theorem run_cloCall {f : FuncId} {c : Operand} {xs : List Operand} {tys : Array TypeId} {first caps vs : List AV} (ho : o.op = cloCall c xs tys) (hf : hasBody P f = true) (hcl : RdTo N true σ c (.fn f first caps)) (hx : RdL N true σ xs vs)
    {a : Act} {w : World} {gv : Nat → Value} {e : Ctx} {β : Place → Option (Nat × Nat)} {F : Nat → Prop} (hi : Inv e σ (valOf N gv a) w β F) :
    (execOp a.eval o).run P w = .ok (.enter f (cloArgs a.eval c xs).toArray) w ∧ RepL β F w (first ++ vs ++ caps) (0, []) 0 (cloArgs a.eval c xs) ∧ (cloArgs a.eval c xs).length = (first ++ vs ++ caps).length ∧ ∀ c ∈ first ++ vs ++ caps, NoOwn c := by
  obtain ⟨hrep, hlen, hno⟩ := RdL.rep rfl hi (0, []) (j := 0) hx (fun _ _ => rfl)
  have hfn := hcl.rep rfl (fun _ _ => rfl) hi (0, [])
  simp only [Rep] at hfn
  obtain ⟨us, ws, hv, hl1, hl2, hs1, hs2, hr1, hr2⟩ := hfn
  have hv' : a.eval c = .func (.func f) us.toArray ws.toArray := hv
  have hca : cloArgs a.eval c xs = us ++ xs.map a.eval ++ ws := by unfold cloArgs; rw [hv']
  have hlen' : xs.length = vs.length := by simpa using hlen
  have hrep' : RepL β F w (first ++ vs ++ caps) (0, []) 0 (us ++ xs.map a.eval ++ ws) := by
    refine RepL_iff.2 fun i c hc => ?_
    have hpl : ∀ {x : AV} {p p' : Place} {v : Value}, scalar x = true → Rep β F w x p v → Rep β F w x p' v := fun {x p p' v} hs h => h.tr _ (fun b hb => ⟨hb, rfl⟩) (fun r y hy ho => by rw [node_scalar hs hy, own_scalar hs] at ho; cases ho) (fun _ _ => rfl)
    have hno' : ∀ {x : AV} {p p' : Place} {v : Value}, NoOwn x → Rep β F w x p v → Rep β F w x p' v := fun {x p p' v} hs h => h.tr _ (fun b hb => ⟨hb, rfl⟩) (fun r y hy ho => by rw [hs r y hy] at ho; cases ho) (fun _ _ => rfl)
    by_cases h1 : i < (first ++ vs).length
    · rw [List.getElem?_append_left h1] at hc
      rw [List.getElem?_append_left (by simp at h1 ⊢; omega)]
      by_cases h2 : i < first.length
      · rw [List.getElem?_append_left h2] at hc
        rw [List.getElem?_append_left (by omega)]
        obtain ⟨u, hu, hr⟩ := RepL_iff.1 hr1 i c hc
        exact ⟨u, hu, hpl (scalarL_mem hs1 (List.mem_of_getElem? hc)) hr⟩
      · rw [List.getElem?_append_right (by omega)] at hc
        rw [List.getElem?_append_right (by omega), hl1]
        obtain ⟨u, hu, hr⟩ := RepL_iff.1 hrep (i - first.length) c hc
        exact ⟨u, hu, hno' (hno c (List.mem_of_getElem? hc)) hr⟩
    · rw [List.getElem?_append_right (by omega)] at hc
      rw [List.getElem?_append_right (by simp at h1 ⊢; omega)]
      have e1 : i - (us ++ xs.map a.eval).length = i - (first ++ vs).length := by simp at hlen ⊢; omega
      rw [e1]
      obtain ⟨u, hu, hr⟩ := RepL_iff.1 hr2 _ c hc
      exact ⟨u, hu, hpl (scalarL_mem hs2 (List.mem_of_getElem? hc)) hr⟩
  have hno2 : ∀ c ∈ first ++ vs ++ caps, NoOwn c := fun c hc => by
    rcases List.mem_append.1 hc with hc | hc
    · rcases List.mem_append.1 hc with hc | hc
      · exact noOwn_scalar (scalarL_mem hs1 hc)
      · exact hno c hc
    · exact noOwn_scalar (scalarL_mem hs2 hc)
  rw [hca]
  refine ⟨?_, hrep', by simp at hlen ⊢; omega, hno2⟩
  simp [execOp, ho, cloCall, resolve, Deferred.ofValue, hv', invoke, run_callFunc_body hf]
theorem o_cloIOp {f : FuncId} {c : Operand} {xs : List Operand} {tys : Array TypeId} {first caps vs args : List AV} {res : AV} {cs0 cs1 : List AV} {q : Place} (ho : o.op = cloCall c xs tys) (hf : hasBody P f = true) (hd : o.dst = some d) (hN : d < N)
    (hcl : RdTo N true σ c (.fn f first caps)) (hx : RdL N true σ xs vs) (hz : node (σ q.1) q.2 = some (.op cs0)) (hs : passL q (hole σ q) (first ++ vs ++ caps) = args) (hc : ACall P f args [.op cs0] res [.op cs1])
    (hr0 : refs (.op cs0) = []) (hn : noSh res = true) (hr : noRef res = true) (hn1 : noSh (.op cs1) = true) (hr1 : noRef (.op cs1) = true) (hlen : args.length < INH) (hds : d ≠ q.1) (hrs : (refs (σ q.1)).all (fun p => p.1 != q.1 && p.1 != d) = true) :
    OStep P N o σ (upd (upd (fun i => keepP q (purgeV d (σ i))) q.1 (setNode (σ q.1) q.2 (.op cs1))) d res) :=
  step_IOp (us := fun a => cloArgs a.eval c xs) hc hd hN (fun a w gv e β F _ hi => run_cloCall ho hf hcl hx hi) hz hs hr0 hn hr hn1 hr1 hlen hds hrs ⟨_, rfl⟩ ⟨_, rfl⟩
    (fun i _ => by
      rcases keepP_or q (purgeV d (σ i)) with h | h
      · exact .inl h
      · exact .inr h) (fun i _ p hp hpq => keepP_refs hp hpq)
end
end Go.Av
namespace Go.Av
open Go
def w64 (n : Int) : Int := IntKind.i64.wrap n
section
variable {P : Program} {N : Nat} {A : Bool} {σ : Sig} {x y z : Operand} {ty xt yt : TypeId}
theorem v_addW {m n : Int} (hx : RdTo N A σ x (.int .i64 m)) (hy : RdTo N A σ y (.int .i64 n)) : VSem P N A (.binOp .add xt x y yt) ty σ (slots x ++ slots y) (.int .i64 (w64 (m + n))) :=
  v_bin hx hy rfl rep_int fun hA w => by simp [binOp, Op.intArith, w64]
def maxCall3 (x y z : Operand) (t : TypeId) : Op := .call { callee := .builtin .max, args := #[x, y, z], argTypes := #[t, t, t] }
def max3 (m n l : Int) : Int := if l > (if n > m then n else m) then l else (if n > m then n else m)
theorem v_max3 {t : Nat} {k : IntKind} {m n l : Int} (hx : RdTo N A σ x (.int k m)) (hy : RdTo N A σ y (.int k n)) (hz : RdTo N A σ z (.int k l)) : VSem P N A (maxCall3 x y z t) ty σ (slots x ++ (slots y ++ slots z)) (.int k (max3 m n l)) :=
  ⟨noOwn_scalar rfl, fun hA σ' hD gv e ac w β F hi p o' ho hty => by
    have ex := hx.rep hA (agree_l hD) hi p
    have ey := hy.rep hA (agree_l (agree_r hD)) hi p
    have ez := hz.rep hA (agree_r (agree_r hD)) hi p
    simp only [Rep] at ex ey ez
    refine ⟨.int k (max3 m n l), ?_, by simp [Rep]⟩
    simp [execOp, ho, maxCall3, resolve, invoke, builtin, ex, ey, ez, run_max_int3, max3]⟩
end
end Go.Av
namespace Go.Av
open Go
set_option maxRecDepth 10000
def dgt (c i : Nat) : Nat := c / 3 ^ i % 3
def ofP (c : Nat) : Nat → List Int
  | 0 => []
  | k + 1 => ofP c k ++ (if dgt c k = 1 then [-((k : Int) + 1)] else if dgt c k = 2 then [(k : Int) + 1] else [])
theorem ofP_vr (c : Nat) : ∀ k, ∀ x ∈ ofP c k, x ≠ 0 ∧ 1 ≤ vr x ∧ vr x ≤ k
  | 0, x, h => by simp [ofP] at h
  | k + 1, x, h => by
    rw [ofP] at h
    rcases List.mem_append.1 h with h | h
    · have := ofP_vr c k x h; omega
    · split at h
      · have : x = -((k : Int) + 1) := by simpa using h
        subst this; unfold vr; rw [if_pos (by omega)]; omega
      · split at h
        · have : x = (k : Int) + 1 := by simpa using h
          subst this; unfold vr; rw [if_neg (by omega)]; omega
        · cases h
theorem ofP_strict (c : Nat) : ∀ k, Strict (ofP c k)
  | 0 => by simp [ofP, Strict]
  | k + 1 => by
    have ih := ofP_strict c k
    have hb := ofP_vr c k
    unfold Strict at *
    rw [ofP, List.pairwise_append]
    refine ⟨ih, ?_, fun x hx y hy => ?_⟩
    · split
      · simp
      · split <;> simp
    · have h1 := hb x hx
      split at hy
      · have : y = -((k : Int) + 1) := by simpa using hy
        subst this; unfold vr at *; split at h1 <;> split <;> omega
      · split at hy
        · have : y = (k : Int) + 1 := by simpa using hy
          subst this; unfold vr at *; split at h1 <;> split <;> omega
        · cases hy
theorem ofP_cl {vars : Int} (hv : 0 ≤ vars ∧ vars ≤ 12) (c : Nat) : clB vars (ofP c vars.toNat) = true :=
  clB_of hv (ofP_strict c _) fun x hx => by
    have := ofP_vr c _ x hx
    refine litB_spec.2 ⟨?_, this.1⟩
    unfold vr at this; split at this <;> omega
theorem ofP_len (c : Nat) : ∀ k, (ofP c k).length ≤ k
  | 0 => by simp [ofP]
  | k + 1 => by
    have := ofP_len c k
    rw [ofP, List.length_append]; split
    · simp; omega
    · split
      · simp; omega
      · simp; omega
theorem ofP_code (c : Nat) : ∀ k, codeA (ofP c k) = c % 3 ^ k
  | 0 => by simp [ofP, codeA, Nat.mod_one]
  | k + 1 => by
    have h1 : dgt c k < 3 := Nat.mod_lt _ (by decide)
    rw [ofP, codeA_append, ofP_code c k, Nat.mod_pow_succ]
    by_cases h2 : dgt c k = 1
    · have hd : c / 3 ^ k % 3 = 1 := h2
      have h3 := dg_neg (l := -((k : Int) + 1)) (by omega) (by omega)
      rw [if_pos h2, codeA, codeA, h3.1, h3.2, hd, Int.neg_neg, show ((k : Int) + 1 - 1).toNat = k by omega]; omega
    · rw [if_neg h2]
      by_cases h4 : dgt c k = 2
      · have hd : c / 3 ^ k % 3 = 2 := h4
        have h3 := dg_pos (l := (k : Int) + 1) (by omega)
        rw [if_pos h4, codeA, codeA, h3.1, h3.2, hd, show ((k : Int) + 1 - 1).toNat = k by omega]; omega
      · have hd : c / 3 ^ k % 3 = 0 := by unfold dgt at h1 h2 h4; omega
        rw [if_neg h4, hd, codeA]; omega
theorem code_of {n c : Nat} (h : c < 3 ^ n) : codeA (ofP c n) = c := by rw [ofP_code, Nat.mod_eq_of_lt h]
theorem of_code {vars : Int} {a : List Int} (hv : 0 ≤ vars ∧ vars ≤ 12) (h : clB vars a = true) : ofP (codeA a) vars.toNat = a := by
  have h1 := ofP_cl hv (codeA a)
  exact codeA_inj (clB_strict h1) (clB_strict h) (nz_cl h1) (nz_cl h) (code_of (codeA_cl h))
theorem ofP_open (c : Nat) {i : Nat} : ∀ k, i < k → opB (ofP c k) ((i : Int) + 1) = decide (dgt c i = 0)
  | 0, h => by omega
  | k + 1, h => by
    have h1 : dgt c k < 3 := Nat.mod_lt _ (by decide)
    have hb := ofP_vr c k
    rcases Nat.lt_or_ge i k with h2 | h2
    · rw [← ofP_open c k h2]
      have hx : ∀ y : Int, vr y = (i : Int) + 1 → (y ∈ ofP c (k + 1) ↔ y ∈ ofP c k) := fun y hy => by
        rw [ofP, List.mem_append]
        constructor
        · rintro (h3 | h3)
          · exact h3
          · exfalso
            split at h3
            · have : y = -((k : Int) + 1) := by simpa using h3
              subst this; unfold vr at hy; split at hy <;> omega
            · split at h3
              · have : y = (k : Int) + 1 := by simpa using h3
                subst this; unfold vr at hy; split at hy <;> omega
              · cases h3
        · exact .inl
      have e1 := hx ((i : Int) + 1) (by unfold vr; split <;> omega)
      have e2 := hx (-((i : Int) + 1)) (by unfold vr; split <;> omega)
      unfold opB
      rw [decide_eq_decide.2 e1, decide_eq_decide.2 e2]
    · obtain rfl : i = k := by omega
      have n1 : ¬ (i : Int) + 1 ∈ ofP c i := fun hm => by have := hb _ hm; unfold vr at this; split at this <;> omega
      have n2 : ¬ -((i : Int) + 1) ∈ ofP c i := fun hm => by have := hb _ hm; unfold vr at this; split at this <;> omega
      unfold opB
      by_cases h3 : dgt c i = 1
      · have : -((i : Int) + 1) ∈ ofP c (i + 1) := by rw [ofP, if_pos h3]; simp
        rw [decide_eq_true this, decide_eq_false (show ¬ dgt c i = 0 by omega)]; simp
      · by_cases h4 : dgt c i = 2
        · have : (i : Int) + 1 ∈ ofP c (i + 1) := by rw [ofP, if_neg h3, if_pos h4]; simp
          rw [decide_eq_true this, decide_eq_false (show ¬ dgt c i = 0 by omega)]; simp
        · have e : ofP c (i + 1) = ofP c i := by rw [ofP, if_neg h3, if_neg h4]; simp
          rw [e, decide_eq_false n1, decide_eq_false n2, decide_eq_true (show dgt c i = 0 by omega)]; rfl
def cNo (c : Nat) (v : Int) : Nat := c + 3 ^ (v - 1).toNat
def cYes (c : Nat) (v : Int) : Nat := c + 2 * 3 ^ (v - 1).toNat
def stF (z : List Int → Int → Int) (c : Nat) (st : Bool × List Int) (v : Int) : Bool × List Int := (false, if (st.1 || decide (z st.2 v < gd st.2 c)) = true then st.2.set c (z st.2 v) else st.2)
def flF (z : List Int → Int → Int) (c : Nat) (S : List Int) (O : List Int) : Bool × List Int := O.foldl (stF z c) (true, S)
theorem flF_snoc (z : List Int → Int → Int) (c : Nat) (S : List Int) (O : List Int) (v : Int) : flF z c S (O ++ [v]) = stF z c (flF z c S O) v := by unfold flF; rw [List.foldl_append]; rfl
theorem flF_take (z : List Int → Int → Int) (c : Nat) (S : List Int) {O : List Int} {k : Nat} (h : k < O.length) : flF z c S (O.take (k + 1)) = stF z c (flF z c S (O.take k)) (gd O k) := by rw [take_gd h, flF_snoc]
theorem flF_fst (z : List Int → Int → Int) (c : Nat) (S : List Int) : ∀ (O : List Int), (flF z c S O).1 = decide (O = []) := fun O => by
  rcases List.eq_nil_or_concat O with rfl | ⟨O', v, rfl⟩
  · rfl
  · rw [List.concat_eq_append, flF_snoc]; simp [stF]
theorem flF_len (z : List Int → Int → Int) (c : Nat) : ∀ (O : List Int) (st : Bool × List Int), (O.foldl (stF z c) st).2.length = st.2.length
  | [], st => rfl
  | v :: O, st => by
    rw [List.foldl_cons, flF_len z c O]; unfold stF; dsimp only; split
    · rw [List.length_set]
    · rfl
theorem flF_other (z : List Int → Int → Int) (c : Nat) {j : Nat} (hj : j ≠ c) : ∀ (O : List Int) (st : Bool × List Int), gd (O.foldl (stF z c) st).2 j = gd st.2 j
  | [], st => rfl
  | v :: O, st => by
    rw [List.foldl_cons, flF_other z c hj O]; unfold stF; dsimp only; split
    · rw [gd_setc, if_neg (fun h => hj h.1.symm)]
    · rfl
theorem flF_at {z : List Int → Int → Int} {c : Nat} {S : List Int} (hc : c < S.length) : ∀ {O : List Int}, (∀ v ∈ O, ∀ T : List Int, (∀ j, j ≠ c → gd T j = gd S j) → z T v = z S v) → O ≠ [] → ∃ v ∈ O, gd (flF z c S O).2 c = z S v := by
  intro O hz hne
  rcases List.eq_nil_or_concat O with rfl | ⟨O', v, rfl⟩
  · exact absurd rfl hne
  rw [List.concat_eq_append] at hz hne ⊢
  have key : ∀ (O1 : List Int), (∀ v ∈ O1, ∀ T : List Int, (∀ j, j ≠ c → gd T j = gd S j) → z T v = z S v) → O1 ≠ [] → ∃ v ∈ O1, gd (flF z c S O1).2 c = z S v := fun O1 => by
    induction hn : O1.length generalizing O1 with
    | zero => intro _ h; exact absurd (List.eq_nil_of_length_eq_zero hn) h
    | succ n ih =>
      intro hz1 _
      rcases List.eq_nil_or_concat O1 with rfl | ⟨O2, u, rfl⟩
      · simp at hn
      rw [List.concat_eq_append] at hz1 hn ⊢
      rw [flF_snoc]
      have hsame : z (flF z c S O2).2 u = z S u := hz1 u (by simp) _ fun j hj => flF_other z c hj O2 (true, S)
      unfold stF
      dsimp only
      split
      · refine ⟨u, by simp, ?_⟩
        rw [gd_setc, if_pos ⟨rfl, by have h9 := flF_len z c O2 (true, S); unfold flF; rw [h9]; exact hc⟩, hsame]
      · rename_i h
        have h1 : (flF z c S O2).1 = false := by
          cases hb : (flF z c S O2).1 with
          | false => rfl
          | true => rw [hb] at h; simp at h
        have h2 : O2 ≠ [] := by rw [flF_fst] at h1; simpa using h1
        obtain ⟨w, hw, he⟩ := ih O2 (by simp at hn; omega) (fun v hv => hz1 v (by simp [hv])) h2
        exact ⟨w, by simp [hw], he⟩
  exact key _ hz hne
def filS (z : List Int → Int → Int) (b : Bool) (c : Nat) (O : List Int) (d : Option Int) (S : List Int) : List Int := if b then (match d with | some x => S.set c x | none => S) else (flF z c S O).2
def tabZ (z : Nat → List Int → Int → Int) (d : Option Int) (vars : Int) (L : List (List Int)) : Nat → List Int
  | 0 => List.replicate (3 ^ vars.toNat) 0
  | m + 1 => filS (z (3 ^ vars.toNat - 1 - m)) (conf L (ofP (3 ^ vars.toNat - 1 - m) vars.toNat)) (3 ^ vars.toNat - 1 - m) (opensL vars (ofP (3 ^ vars.toNat - 1 - m) vars.toNat)) d (tabZ z d vars L m)
theorem filS_len (z : List Int → Int → Int) (b : Bool) (c : Nat) (O : List Int) (d : Option Int) (S : List Int) : (filS z b c O d S).length = S.length := by
  unfold filS; split
  · split
    · rw [List.length_set]
    · rfl
  · exact flF_len z c O (true, S)
theorem filS_other {z : List Int → Int → Int} {b : Bool} {c : Nat} {O : List Int} {d : Option Int} {S : List Int} {j : Nat} (hj : j ≠ c) : gd (filS z b c O d S) j = gd S j := by
  unfold filS; split
  · split
    · rw [gd_setc, if_neg (fun h => hj h.1.symm)]
    · rfl
  · exact flF_other z c hj O (true, S)
theorem tabZ_len (z : Nat → List Int → Int → Int) (d : Option Int) (vars : Int) (L : List (List Int)) : ∀ m, (tabZ z d vars L m).length = 3 ^ vars.toNat
  | 0 => by simp [tabZ]
  | m + 1 => by rw [tabZ, filS_len, tabZ_len z d vars L m]
theorem tabZ_stay {z : Nat → List Int → Int → Int} {d : Option Int} {vars : Int} {L : List (List Int)} {j : Nat} : ∀ {m m' : Nat}, m ≤ m' → m' ≤ 3 ^ vars.toNat → 3 ^ vars.toNat ≤ m + j → gd (tabZ z d vars L m') j = gd (tabZ z d vars L m) j
  | m, 0, h, _, _ => by rw [show m = 0 by omega]
  | m, m' + 1, h, h2, h3 => by
    rcases Nat.eq_or_lt_of_le h with h4 | h4
    · rw [h4]
    · rw [tabZ, filS_other (by omega)]; exact tabZ_stay (m := m) (m' := m') (by omega) (by omega) h3
def zSz (c : Nat) (S : List Int) (v : Int) : Int := w64 (gd S (cNo c v) + gd S (cYes c v))
theorem zSz_eq {c : Nat} {S T : List Int} {v : Int} (h1 : gd T (cNo c v) = gd S (cNo c v)) (h2 : gd T (cYes c v) = gd S (cYes c v)) : zSz c T v = zSz c S v := by unfold zSz; rw [h1, h2]
def szT (vars : Int) (L : List (List Int)) (m : Nat) : List Int := tabZ zSz (some 1) vars L m
def szA (vars : Int) (L : List (List Int)) : List Int := szT vars L (3 ^ vars.toNat)
theorem sz_at {vars : Int} {L : List (List Int)} {c : Nat} (hv : 0 ≤ vars ∧ vars ≤ 12) (hc : c < 3 ^ vars.toNat) (hf : conf L (ofP c vars.toNat) = false) (ho : opensL vars (ofP c vars.toNat) ≠ []) :
    ∃ v ∈ opensL vars (ofP c vars.toNat), zSz c (szA vars L) v = gd (szA vars L) c := by
  have hm : 3 ^ vars.toNat - 1 - (3 ^ vars.toNat - 1 - c) = c := by omega
  have hlen := tabZ_len zSz (some 1) vars L (3 ^ vars.toNat - 1 - c)
  have hstep : tabZ zSz (some 1) vars L (3 ^ vars.toNat - 1 - c + 1) = (flF (zSz c) c (tabZ zSz (some 1) vars L (3 ^ vars.toNat - 1 - c)) (opensL vars (ofP c vars.toNat))).2 := by
    rw [tabZ, hm]; unfold filS; rw [hf]; rfl
  have hp : ∀ k, 0 < 3 ^ k := fun k => Nat.pos_of_ne_zero (by simp)
  obtain ⟨v, hvm, he⟩ := flF_at (z := zSz c) (c := c) (S := tabZ zSz (some 1) vars L (3 ^ vars.toNat - 1 - c)) (by rw [hlen]; exact hc) (O := opensL vars (ofP c vars.toNat)) (fun v hv T hT => by
    have := hp (v - 1).toNat
    exact zSz_eq (hT (cNo c v) (by unfold cNo; omega)) (hT (cYes c v) (by unfold cYes; omega))) ho
  refine ⟨v, hvm, ?_⟩
  have hcc : gd (szA vars L) c = gd (tabZ zSz (some 1) vars L (3 ^ vars.toNat - 1 - c + 1)) c := tabZ_stay (m' := 3 ^ vars.toNat) (by omega) (Nat.le_refl _) (by omega)
  rw [hcc, hstep, he]
  have hx : ∀ j, c < j → gd (szA vars L) j = gd (tabZ zSz (some 1) vars L (3 ^ vars.toNat - 1 - c)) j := fun j hj => tabZ_stay (m' := 3 ^ vars.toNat) (by omega) (Nat.le_refl _) (by omega)
  have := hp (v - 1).toNat
  exact zSz_eq (hx (cNo c v) (by unfold cNo; omega)) (hx (cYes c v) (by unfold cYes; omega))
def bask (vars : Int) (L : List (List Int)) (a : List Int) : Int := ((opensL vars a).find? fun v => decide (zSz (codeA a) (szA vars L) v = gd (szA vars L) (codeA a))).getD 0
theorem bask_found {vars : Int} {L : List (List Int)} {a : List Int} {i : Nat} (hi : i < (opensL vars a).length) (h : decide (zSz (codeA a) (szA vars L) (gd (opensL vars a) i) = gd (szA vars L) (codeA a)) = true) (hn : ∀ j, j < i → decide (zSz (codeA a) (szA vars L) (gd (opensL vars a) j) = gd (szA vars L) (codeA a)) = false) : bask vars L a = gd (opensL vars a) i := by
  unfold bask
  have : (opensL vars a).find? (fun v => decide (zSz (codeA a) (szA vars L) v = gd (szA vars L) (codeA a))) = some (gd (opensL vars a) i) := by
    rw [List.find?_eq_some_iff_getElem]
    refine ⟨h, i, hi, ?_, fun j hj => ?_⟩
    · have := gd_get hi; rw [List.getElem?_eq_getElem hi] at this; exact Option.some.inj this
    · have h2 := hn j hj
      have hjl : j < (opensL vars a).length := by omega
      have := gd_get hjl; rw [List.getElem?_eq_getElem hjl] at this
      rw [Option.some.inj this, h2]; rfl
  rw [this]; rfl
theorem bask_none {vars : Int} {L : List (List Int)} {a : List Int} (hn : ∀ j, j < (opensL vars a).length → decide (zSz (codeA a) (szA vars L) (gd (opensL vars a) j) = gd (szA vars L) (codeA a)) = false) : bask vars L a = 0 := by
  unfold bask
  have : (opensL vars a).find? (fun v => decide (zSz (codeA a) (szA vars L) v = gd (szA vars L) (codeA a))) = none := by
    rw [List.find?_eq_none]
    intro x hx
    obtain ⟨j, hj, rfl⟩ := mem_gd hx
    rw [hn j hj]; simp
  rw [this]; rfl
theorem bask_ok (vars : Int) (L : List (List Int)) : AskOk vars (bask vars L) := fun a _ => by
  unfold bask
  cases h : (opensL vars a).find? (fun v => decide (zSz (codeA a) (szA vars L) v = gd (szA vars L) (codeA a))) with
  | none => exact .inl rfl
  | some v =>
    have hm := List.mem_of_find?_eq_some h
    obtain ⟨j, hj, rfl⟩ := mem_gd hm
    have h1 := opens_gd hj
    have h2 := opB_spec.1 h1.2
    exact .inr ⟨h1.1.1, h1.1.2, h2.1, h2.2⟩
theorem bask_un {vars : Int} {L : List (List Int)} (hv : 0 ≤ vars ∧ vars ≤ 12) (hL : ∀ i, i < L.length → clB vars (gl L i) = true) (hns : ¬ 0 ≤ fW vars L) : ∀ a, clB vars a = true → ¬ 0 < (falP L a L.length).length → bask vars L a ≠ 0 := fun a ha hf => by
  have hcf : conf L a = false := by rw [conf_fal]; exact decide_eq_false (by omega)
  have h0 : fopen (upL vars) a ≠ 0 := un_ask hL (fun a _ h0 => fun v h1 h2 => by
    rcases fopen_ways (upL vars) a with ⟨_, g2⟩ | ⟨g1, _⟩
    · have g3 := g2 v (mem_upL.2 ⟨h1, h2⟩)
      by_cases hv : v ∈ a
      · exact .inl hv
      · by_cases hv2 : -v ∈ a
        · exact .inr hv2
        · rw [opB_spec.2 ⟨hv, hv2⟩] at g3; cases g3
    · have := mem_upL.1 g1; omega) hns a ha hf
  obtain ⟨h1, h2⟩ := (fopen_ways (upL vars) a).resolve_left fun h => h0 h.1
  have hne : opensL vars a ≠ [] := fun he => by
    have : fopen (upL vars) a ∈ opensL vars a := by unfold opensL; rw [List.mem_filter]; exact ⟨h1, by rw [h2]; rfl⟩
    rw [he] at this; cases this
  have hoc := of_code hv ha
  obtain ⟨v, hvm, he⟩ := sz_at (L := L) hv (codeA_cl ha) (by rw [hoc]; exact hcf) (by rw [hoc]; exact hne)
  rw [hoc] at hvm
  unfold bask
  cases hx : (opensL vars a).find? (fun v => decide (zSz (codeA a) (szA vars L) v = gd (szA vars L) (codeA a))) with
  | none => exact absurd (decide_eq_true he) (List.find?_eq_none.1 hx v hvm)
  | some u =>
    have hm := List.mem_of_find?_eq_some hx
    obtain ⟨j, hj, rfl⟩ := mem_gd hm
    have := (opens_gd hj).1
    show gd (opensL vars a) j ≠ 0
    omega
def gmB (vars : Int) (L : List (List Int)) : Bool := cnfB vars L && (decide (vars ≤ 6) && !decide (0 ≤ fW vars L))
def btB (vars : Int) (L : List (List Int)) : Bool := gmB vars L && gwB L (bask vars L)
def btR (vars : Int) (L : List (List Int)) : List TN := if gmB vars L then gwR L (bask vars L) else []
theorem btR_len (vars : Int) (L : List (List Int)) : (btR vars L).length ≤ 200 := by
  unfold btR; split
  · exact gwR_len L _
  · simp
end Go.Av
namespace Go.Av
open Go
def zpI (c : Nat) (S : List Int) (v : Int) : Int := max3 (w64 (1 + min (gd S (cNo c v)) (gd S (cYes c v)))) (gd S (cNo c v)) (gd S (cYes c v))
def zhI (c : Nat) (S : List Int) (v : Int) : Int := w64 (1 + max (gd S (cNo c v)) (gd S (cYes c v)))
def zpS (c : Nat) (S : List Int) (v : Int) : Int := max (max (gd S (cNo c v)) (gd S (cYes c v))) (w64 (1 + min (gd S (cNo c v)) (gd S (cYes c v))))
def ovT (vars : Int) (L : List (List Int)) : Nat → List Bool
  | 0 => List.replicate (3 ^ vars.toNat) false
  | m + 1 => if conf L (ofP (3 ^ vars.toNat - 1 - m) vars.toNat) then (ovT vars L m).set (3 ^ vars.toNat - 1 - m) true else ovT vars L m
theorem ovT_len (vars : Int) (L : List (List Int)) : ∀ m, (ovT vars L m).length = 3 ^ vars.toNat
  | 0 => by simp [ovT]
  | m + 1 => by rw [ovT]; split <;> (try rw [List.length_set]) <;> exact ovT_len vars L m
theorem pow36 {vars : Int} (h : 0 ≤ vars ∧ vars ≤ 6) : 1 ≤ 3 ^ vars.toNat ∧ 3 ^ vars.toNat ≤ 729 :=
  ⟨Nat.one_le_pow _ _ (by decide), Nat.le_trans (Nat.pow_le_pow_right (by decide) (show vars.toNat ≤ 6 by omega)) (by decide)⟩
theorem pow6k {k : Nat} (h : k ≤ 6) : 1 ≤ 3 ^ k ∧ 3 ^ k ≤ 729 := ⟨Nat.one_le_pow _ _ (by decide), Nat.le_trans (Nat.pow_le_pow_right (by decide) h) (by decide)⟩
theorem cNo_lt {vars : Int} {a : List Int} {v : Int} (h : clB vars a = true) (hv : 1 ≤ v ∧ v ≤ vars) (ho : opB a v = true) : cNo (codeA a) v < 3 ^ vars.toNat ∧ cYes (codeA a) v < 3 ^ vars.toNat := by
  have h1 := put_cl h hv ho
  have h2 := code_put (a := a) hv.1
  have h3 := codeA_cl h1.1
  have h4 := codeA_cl h1.2
  unfold cNo cYes
  omega
theorem flF_step {z : List Int → Int → Int} {c : Nat} {S O : List Int} {k : Nat} (h : k < O.length) : (flF z c S (O.take (k + 1))).2 = if (bif decide ((k : Int) = 0) then true else decide (z (flF z c S (O.take k)).2 (gd O k) < gd (flF z c S (O.take k)).2 c)) = true then (flF z c S (O.take k)).2.set c (z (flF z c S (O.take k)).2 (gd O k)) else (flF z c S (O.take k)).2 := by
  rw [flF_take z c S h]
  unfold stF
  dsimp only
  have h1 : (flF z c S (O.take k)).1 = decide ((k : Int) = 0) := by
    rw [flF_fst]
    refine decide_eq_decide.2 ?_
    constructor
    · intro he
      have := congrArg List.length he
      rw [List.length_take, List.length_nil] at this; omega
    · intro hk; rw [show k = 0 by omega]; rfl
  rw [h1]
  cases decide ((k : Int) = 0) <;> rfl
theorem flF_length (z : List Int → Int → Int) (c : Nat) (S O : List Int) : (flF z c S O).2.length = S.length := flF_len z c O (true, S)
end Go.Av
namespace Go.Av
open Go
theorem gobj_nrU {vars : Int} {L : List (List Int)} {xs : List TN} {f n : Nat} {g : List AV} : noRef (.op [.int .i64 vars, .sl (sls L) L.length, .osl 4 (tncells xs) n none, .fn f [.pp g 0] []]) = true := by
  simp [noRef, noRefL, tn_noRef]
theorem gm_nr {vars : Int} {L : List (List Int)} {O : List Bool} {P S H : List Int} {n : Nat} : noRef (.op [.int .i64 vars, .sl (sls L) L.length, .osl 1 (blcells O) n none, .osl 1 (icells P) n none, .osl 1 (icells S) n none, .osl 1 (icells H) n none]) = true := by
  simp [noRef, noRefL, bl_noRef, ic_noRef]
theorem gm_shT {vars : Int} {L : List (List Int)} {O : List Bool} {P S H : List Int} {n : Nat} : shT (.tup [.op [.int .i64 vars, .sl (sls L) L.length, .osl 1 (blcells O) n none, .osl 1 (icells P) n none, .osl 1 (icells S) n none, .osl 1 (icells H) n none], .bool true])
    = .tup [.pp [.int .i64 vars, .sl (sls L) L.length, .sl (blcells O) n, .sl (icells P) n, .sl (icells S) n, .sl (icells H) n] 0, .bool true] := by
  simp [shT, sh, shL, shL_id _ (bl_pure _).1 (bl_pure _).2, shL_id _ (ic_pure _).1 (ic_pure _).2]
theorem gm_spec {vars : Int} {L : List (List Int)} (h : gmB vars L = true) : cnfB vars L = true ∧ (0 ≤ vars ∧ vars ≤ 6) ∧ ¬ 0 ≤ fW vars L := by
  unfold gmB at h
  simp only [Bool.and_eq_true, decide_eq_true_eq, Bool.not_eq_true', decide_eq_false_iff_not] at h
  exact ⟨h.1, ⟨(cnfB_spec h.1).1.1, h.2.1⟩, h.2.2⟩
def ovA (vars : Int) (L : List (List Int)) : List Bool := ovT vars L (3 ^ vars.toNat)
def spA (vars : Int) (L : List (List Int)) : List Int := tabZ zpI none vars L (3 ^ vars.toNat)
def shA (vars : Int) (L : List (List Int)) : List Int := tabZ zhI none vars L (3 ^ vars.toNat)
theorem szA_len (vars : Int) (L : List (List Int)) : (szA vars L).length = 3 ^ vars.toNat := tabZ_len _ _ _ _ _
end Go.Av
namespace Go.Av
open Go Go.Proofs Go.Sort
set_option maxRecDepth 10000
theorem hb42 : hasBody Tryz.prog 42 = true := by kernel_rfl
theorem hb71 : hasBody Tryz.prog 71 = true := by kernel_rfl
theorem hb72 : hasBody Tryz.prog 72 = true := by kernel_rfl
theorem hb73 : hasBody Tryz.prog 73 = true := by kernel_rfl
theorem pow3_c (n : Nat) (h : n ≤ 12) : ACall Tryz.prog 42 [.int .i64 ((n : Nat) : Int)] [] (.int .i64 ((3 ^ n : Nat) : Int)) [] := by
 refine ACall.intro Tryz.func42 rfl (N := 11) rfl (by decide) (by simp) ?_
 refine a_seq ?_
 refine a_region ?_
 refine rv (v := .int _ _) (v_assign il nf) ?_
 refine r_nil ?_
 refine a_seq ?_
 refine a_region ?_
 refine rv (v := .int _ _) (v_assign il nf) ?_
 refine r_nil ?_
 refine a_seq ?_
 refine a_seq ?_
 refine a_region ?_
 refine rv (v := .int _ _) (v_move il nf) ?_
 refine rv (v := .int _ _) (v_move il nf) ?_
 refine r_nil ?_
 refine a_block ?_
 refine a_loop (X := Nat) (fun i => look [(3, .int .i64 ((3 ^ i : Nat) : Int)), (4, .int .i64 ((n : Nat) : Int)), (5, .int .i64 ((i : Nat) : Int))]) (fun i => i ≤ n) (fun i => n - i) 0 (ent_look ⟨Weak.of_eq rfl, Weak.of_eq rfl, Weak.of_eq rfl, trivial⟩) (Nat.zero_le _) (fun i hG => ?_)
 have hpb := pow3_bd (k := i) (by omega)
 refine a_seq ?_
 refine a_region ?_
 refine rv (v := .bool _) (v_lss il il) ?_
 refine r_nil ?_
 refine a_seq ?_
 refine a_cond rfl (fun ht6 => ?_) (fun ht6 => ?_)
 ·
  skip
  refine a_skip ?_
  refine a_seq ?_
  refine a_block ?_
  have hi : i < n := (by simp at ht6; omega)
  refine a_region ?_
  refine rv (v := .int _ _) (v_move il nf) ?_
  refine rv (v := .int _ _) (v_mul il il (fun _ => by omega)) ?_
  refine rv (v := .int _ _) (v_assign il nf) ?_
  refine r_nil ?_
  refine a_region ?_
  refine rv (v := .int _ _) (v_add il il (fun _ => by omega)) ?_
  refine rv (v := .int _ _) (v_move il nf) ?_
  refine r_nil ?_
  refine ⟨i + 1, ent_look ⟨Weak.of_eq (int_eq (by rw [Nat.pow_succ]; push_cast; rfl)), Weak.of_eq rfl, Weak.of_eq (int_eq (by omega)), trivial⟩, by omega, by omega⟩
 ·
  skip
  refine a_exit ?_
  refine a_seq ?_
  refine a_region ?_
  refine rv (v := .int _ _) (v_move il nf) ?_
  refine rv (v := .int _ _) (v_assign il nf) ?_
  refine r_nil ?_
  refine a_ret ?_
  refine ret1 Tryz.results42 (by decide) (by decide) (Weak.of_eq (int_eq ?_)) rfl Leaves.nil
  simp at ht6; rw [show i = n by omega]
theorem codeOf_c (vars : Int) (a : List Int) (hca : clB vars a = true) : ACall Tryz.prog 45 [.sl (icells a) a.length] [] (.int .i64 (((codeA a) : Nat) : Int)) [] := by
 have hla := clB_len hca
 have hsm := clB_sm hca
 have hv12 := (clB_spec hca).1
 refine ACall.intro Tryz.func45 rfl (N := 28) rfl (by decide) (by simp) ?_
 refine a_seq ?_
 refine a_region ?_
 refine rv (v := .int _ _) (v_assign il nf) ?_
 refine r_nil ?_
 refine a_seq ?_
 refine a_region ?_
 refine rv (v := .int _ _) (v_assign il nf) ?_
 refine r_nil ?_
 refine a_seq ?_
 refine a_seq ?_
 refine a_region ?_
 refine rv (v := .sl _ _) (v_move il nf) ?_
 refine rv (v := .int _ _) (v_len_sl sl40 il) ?_
 refine rv (v := .int _ _) (v_move il nf) ?_
 refine r_nil ?_
 refine a_block ?_
 refine a_loop (X := Nat) (fun i => look [(3, .int .i64 (((codeA (a.take i)) : Nat) : Int)), (6, .sl (icells a) a.length), (7, .int .i64 ((a.length : Nat) : Int)), (8, .int .i64 ((i : Nat) : Int))]) (fun i => i ≤ a.length) (fun i => a.length - i) 0 (ent_look ⟨Weak.of_eq rfl, Weak.of_eq rfl, Weak.of_eq rfl, Weak.of_eq rfl, trivial⟩) (Nat.zero_le _) (fun i hG => ?_)
 have hct := codeA_tk hca i
 have hsi := hsm i
 refine a_seq ?_
 refine a_region ?_
 refine rv (v := .bool _) (v_lss il il) ?_
 refine r_nil ?_
 refine a_seq ?_
 refine a_cond rfl (fun ht9 => ?_) (fun ht9 => ?_)
 ·
  skip
  refine a_skip ?_
  refine a_seq ?_
  refine a_block ?_
  refine a_seq ?_
  have hi : i < a.length := (by simp at ht9; omega)
  have hlt := litB_spec.1 (clB_mem hca (gd_mem hi)).1
  refine a_region ?_
  refine rv (v := .pp _ _) (v_indexAddr_sl es40 il il (fun _ => ⟨by omega, by omega, icells_ne hi⟩)) ?_
  refine rv (v := .int .i64 (gd a i)) (v_load_pp ta3 il (fun _ => by rw [Nat.mul_one]; exact icells_get (gd_get hi)) rfl) ?_
  refine rv (v := .int _ _) (v_assign il nf) ?_
  refine r_nil ?_
  refine a_seq ?_
  refine a_region ?_
  refine rv (v := .int _ _) (v_move il nf) ?_
  refine rv (v := .bool _) (v_gtr il il) ?_
  refine r_nil ?_
  refine a_cond rfl (fun ht13 => ?_) (fun ht13 => ?_)
  ·
   skip
   have hlp : gd a i > 0 := (by simpa using ht13)
   have hdg := dg_pos hlp
   have hpb := pow3_bd (k := ((vr (gd a i) - 1).toNat)) (by omega)
   refine a_region ?_
   refine rv (v := .int _ _) (v_move il nf) ?_
   refine rv (v := .int _ _) (v_move il nf) ?_
   refine rv (v := .int .i64 ((((vr (gd a i) - 1).toNat) : Nat) : Int)) ((v_sub il il (fun _ => by omega)).cast (int_eq (by omega))) ?_
   refine rn (v := .int _ _) (q_call (vs := [.int _ _]) (args := [.int .i64 _]) hb42 ⟨il, trivial⟩ rfl (fun hA => pow3_c ((vr (gd a i) - 1).toNat) (by omega)) rfl rfl) ?_
   refine rv (v := .int _ _) (v_mul il il (fun _ => by omega)) ?_
   refine rv (v := .int _ _) (v_add il il (fun _ => by omega)) ?_
   refine rv (v := .int _ _) (v_assign il nf) ?_
   refine r_nil ?_
   refine a_region ?_
   refine rv (v := .int _ _) (v_add il il (fun _ => by omega)) ?_
   refine rv (v := .int _ _) (v_move il nf) ?_
   refine r_nil ?_
   refine ⟨i + 1, ent_look ⟨Weak.of_eq (int_eq (by rw [codeA_take hi, hdg.1]; push_cast; omega)), Weak.of_eq rfl, Weak.of_eq rfl, Weak.of_eq (int_eq (by omega)), trivial⟩, by omega, by omega⟩
  ·
   skip
   have hlp : ¬ gd a i > 0 := (by simpa using ht13)
   have hdg := dg_neg hlp hlt.2
   have hpb := pow3_bd (k := ((vr (gd a i) - 1).toNat)) (by omega)
   refine a_region ?_
   refine rv (v := .int _ _) (v_move il nf) ?_
   refine rv (v := .int _ _) (v_move il nf) ?_
   refine rv (v := .int _ _) (v_neg il (fun _ => by omega)) ?_
   refine rv (v := .int .i64 ((((vr (gd a i) - 1).toNat) : Nat) : Int)) ((v_sub il il (fun _ => by omega)).cast (int_eq (by omega))) ?_
   refine rn (v := .int _ _) (q_call (vs := [.int _ _]) (args := [.int .i64 _]) hb42 ⟨il, trivial⟩ rfl (fun hA => pow3_c ((vr (gd a i) - 1).toNat) (by omega)) rfl rfl) ?_
   refine rv (v := .int _ _) (v_add il il (fun _ => by omega)) ?_
   refine rv (v := .int _ _) (v_assign il nf) ?_
   refine r_nil ?_
   refine a_region ?_
   refine rv (v := .int _ _) (v_add il il (fun _ => by omega)) ?_
   refine rv (v := .int _ _) (v_move il nf) ?_
   refine r_nil ?_
   refine ⟨i + 1, ent_look ⟨Weak.of_eq (int_eq (by rw [codeA_take hi, hdg.1]; push_cast; omega)), Weak.of_eq rfl, Weak.of_eq rfl, Weak.of_eq (int_eq (by omega)), trivial⟩, by omega, by omega⟩
 ·
  skip
  refine a_exit ?_
  refine a_seq ?_
  refine a_region ?_
  refine rv (v := .int _ _) (v_move il nf) ?_
  refine rv (v := .int _ _) (v_assign il nf) ?_
  refine r_nil ?_
  refine a_ret ?_
  refine ret1 Tryz.results45 (by decide) (by decide) (Weak.of_eq (int_eq ?_)) rfl Leaves.nil
  simp at ht9; rw [show i = a.length by omega, List.take_length]
theorem openV1_c (v : Int) (a : List Int) (hv : 1 ≤ v ∧ v ≤ 12) (ha : a.length ≤ 1048576) : ACall Tryz.prog 72 [.int .i64 v, .pp [.sl (icells a) a.length] 0] [] (.bool (!opB a v)) [] := by
 refine ACall.intro Tryz.func72 rfl (N := 9) rfl (by decide) (by simp) ?_
 refine a_seq ?_
 refine a_region ?_
 refine rv (v := .bool _) (v_assign il nf) ?_
 refine r_nil ?_
 refine a_seq ?_
 refine a_region ?_
 refine rv (v := .int _ _) (v_move il nf) ?_
 refine rn (v := .osl 1 (icells [v]) 1 (some 1)) (q_sliceLit (n := 1) (parts := [(0, .tmp 4)]) lt40 rfl rfl rfl rfl) ?_
 refine rv (v := .sl _ _) (v_load_pp ta40 il (fun _ => rfl) rfl) ?_
 refine rn (v := .int _ _) (q_call (vs := [.rsl _ _ _ _ _, .sl _ _]) (args := [.sl _ _, .sl _ _]) hb73 ⟨il, il, trivial⟩ (l2_eq (sl_sh (ic_pure _)) rfl) (fun hA => fopen_c [v] a (sm_one hv) (by simp) (by omega)) rfl rfl) ?_
 refine rv (v := .bool _) (v_eql il il) ?_
 refine rv (v := .bool _) (v_assign il nf) ?_
 refine r_nil ?_
 refine a_ret ?_
 refine ret1 Tryz.results72 (by decide) (by decide) (Weak.of_eq (bool_eq ?_)) rfl Leaves.nil
 exact fopen_one hv
theorem openVars_c (n : Int) (a : List Int) (hn : 0 ≤ n ∧ n ≤ 12) (ha : a.length ≤ 1048576) : ACall Tryz.prog 46 [.int .i64 n, .sl (icells a) a.length] [] (.osl 1 (icells (opensL n a)) (opensL n a).length none) [] := by
 have hbO := hb72
 have hul := upL_len hn
 refine ACall.intro Tryz.func46 rfl (N := 9) rfl (by decide) (by simp) ?_
 refine a_seq ?_
 refine a_region ?_
 refine rn (v := .op [.sl _ _]) (q_box il rfl rfl) ?_
 refine rv (v := .nils) (v_assign il nf) ?_
 refine r_nil ?_
 refine a_seq ?_
 refine a_region ?_
 refine rv (v := .int _ _) (v_move il nf) ?_
 refine rn (v := .osl _ _ _ _) (q_call (vs := [.int _ _]) (args := [.int .i64 _]) hb71 ⟨il, trivial⟩ rfl (fun hA => upTo9_c n hn) (ic_noSh _) (ic_noRef _)) ?_
 refine rv (v := .fn _ _ _) (v_makeFunc (first := []) (caps := [.tmp 3]) rfl rfl) ?_
 refine r_step rfl (o_callIO (q := (6, [])) (vs := [.rsl _ _ _ _ _, .fn _ _ _]) (args := [.rsl (INH, []) _ _ _ _, .fn _ _ _]) (x0 := .osl _ _ _ _) (x1 := .undef) (res := .osl _ _ _ _) rfl hb70 rfl (by decide) ⟨.inl rfl, .inl rfl, trivial⟩ rfl rfl (del_c 72 [.pp [.sl (icells a) a.length] 0] hbO rfl (upL n) _ (fun v => !opB a v) ⟨rfl, by omega⟩ (fun i hi => openV1_c _ a (upL_gd hn hi) ha)) rfl (ic_noSh _) (ic_noRef _) rfl rfl (Nat.le_of_ble_eq_true rfl) (by decide) rfl) ?_
 refine rv (v := .rsl _ _ _ _ _) (v_assign il nf) ?_
 refine r_pre (ent_reloc_sl (t := 4) rfl rfl) ?_
 refine r_nil ?_
 refine a_ret ?_
 refine ret1 Tryz.results46 (by decide) (by decide) (Weak.osl ?_ ?_) rfl Leaves.nil
 all_goals rfl
end Go.Av
namespace Go.Av
open Go Go.Proofs Go.Sort
set_option maxRecDepth 10000
theorem hb63 : hasBody Tryz.prog 63 = true := by kernel_rfl
theorem hb88 : hasBody Tryz.prog 88 = true := by kernel_rfl
theorem hb89 : hasBody Tryz.prog 89 = true := by kernel_rfl
theorem hb90 : hasBody Tryz.prog 90 = true := by kernel_rfl
theorem hb96 : hasBody Tryz.prog 96 = true := by kernel_rfl
theorem hb97 : hasBody Tryz.prog 97 = true := by kernel_rfl
theorem holds1_c (x : Int) (w : Nat) (hw : w ≤ 4096) (hx : 1 ≤ vr x ∧ vr x ≤ 12) (hs : -1000000 ≤ x ∧ x ≤ 1000000) : ACall Tryz.prog 97 [.int .i64 x, .pp [.int .i64 ((w : Nat) : Int)] 0] [] (.bool (litT w x)) [] := by
 have hdv := div_bd hw (vr x - 1).toNat
 have hax : absA x = vr x := (by rw [absA_of (by omega)])
 refine ACall.intro Tryz.func97 rfl (N := 14) rfl (by decide) (by simp) ?_
 refine a_seq ?_
 refine a_region ?_
 refine rv (v := .bool _) (v_assign il nf) ?_
 refine r_nil ?_
 refine a_seq ?_
 refine a_region_any mixed (by kernel_rfl) ?_
 refine yv (v := .int _ _) (v_load_pp ta3 il (fun _ => rfl) rfl) ?_
 refine yv (v := .int _ _) (v_move il nf) ?_
 refine y_new (v := .int .i64 (vr x)) (QSem.cast (q_call (vs := [.int _ _]) (args := [.int .i64 _]) hb78 ⟨.inl rfl, trivial⟩ rfl (fun hA => absA_c _) rfl rfl) (int_eq hax)) rfl rfl (by decide) (by kernel_rfl) ?_
 refine yv (v := .int _ _) (v_sub il il (fun _ => by omega)) ?_
 refine yv (v := .int _ _) (v_shr il il (fun _ => by omega)) ?_
 refine yv (v := .int _ _) (v_and il il (fun _ => by omega)) ?_
 refine yv (v := .bool _) (v_eql il il) ?_
 refine yv (v := .int _ _) (v_move il nf) ?_
 refine yv (v := .bool _) (v_gtr il il) ?_
 refine yv (v := .bool _) (v_beq un4 il il) ?_
 refine yv (v := .bool _) (v_assign il nf) ?_
 refine y_nil ?_
 refine a_ret ?_
 refine ret1 Tryz.results97 (by decide) (by decide) (Weak.of_eq (bool_eq ?_)) rfl Leaves.nil
 rfl
theorem holds_c (c : List Int) (w : Nat) (hw : w ≤ 4096) (hcv : ∀ i, i < c.length → 1 ≤ vr (gd c i) ∧ vr (gd c i) ≤ 12) (hsm : ∀ i, i < c.length → -1000000 ≤ gd c i ∧ gd c i ≤ 1000000) (hcl9 : c.length ≤ 1048576) : ACall Tryz.prog 90 [.sl (icells c) c.length, .int .i64 ((w : Nat) : Int)] [] (.bool (tW w c)) [] := by
 have hbH := hb97
 refine ACall.intro Tryz.func90 rfl (N := 8) rfl (by decide) (by simp) ?_
 refine a_seq ?_
 refine a_region ?_
 refine rn (v := .op [.int _ _]) (q_box il rfl rfl) ?_
 refine rv (v := .bool _) (v_assign il nf) ?_
 refine r_nil ?_
 refine a_seq ?_
 refine a_region ?_
 refine rv (v := .sl _ _) (v_move il nf) ?_
 refine rv (v := .fn _ _ _) (v_makeFunc (first := []) (caps := [.tmp 3]) rfl rfl) ?_
 refine rn (v := .bool _) (q_call (vs := [.sl _ _, .fn _ _ _]) (args := [.sl _ _, .fn _ _ _]) hb96 ⟨il, il, trivial⟩ rfl (fun hA => contI_c 97 [.pp [.int .i64 ((w : Nat) : Int)] 0] hbH rfl c (fun i => litT w (gd c i)) (by omega) (fun i hi => holds1_c _ w hw (hcv i hi) (hsm i hi))) rfl rfl) ?_
 refine rv (v := .bool _) (v_assign il nf) ?_
 refine r_nil ?_
 refine a_ret ?_
 refine ret1 Tryz.results90 (by decide) (by decide) (Weak.of_eq (bool_eq ?_)) rfl Leaves.nil
 rfl
theorem isMod1_c (c : List Int) (w : Nat) (hw : w ≤ 4096) (hcv : ∀ i, i < c.length → 1 ≤ vr (gd c i) ∧ vr (gd c i) ≤ 12) (hsm : ∀ i, i < c.length → -1000000 ≤ gd c i ∧ gd c i ≤ 1000000) (hcl9 : c.length ≤ 1048576) : ACall Tryz.prog 89 [.sl (icells c) c.length, .pp [.int .i64 ((w : Nat) : Int)] 0] [] (.bool (!tW w c)) [] := by
 refine ACall.intro Tryz.func89 rfl (N := 8) rfl (by decide) (by simp) ?_
 refine a_seq ?_
 refine a_region ?_
 refine rv (v := .bool _) (v_assign il nf) ?_
 refine r_nil ?_
 refine a_seq ?_
 refine a_region ?_
 refine rv (v := .sl _ _) (v_move il nf) ?_
 refine rv (v := .int _ _) (v_load_pp ta3 il (fun _ => rfl) rfl) ?_
 refine rn (v := .bool _) (q_call (vs := [.sl _ _, .int _ _]) (args := [.sl _ _, .int .i64 _]) hb90 ⟨il, il, trivial⟩ rfl (fun hA => holds_c c w hw hcv hsm hcl9) rfl rfl) ?_
 refine rv (v := .bool _) (v_not il) ?_
 refine rv (v := .bool _) (v_assign il nf) ?_
 refine r_nil ?_
 refine a_ret ?_
 refine ret1 Tryz.results89 (by decide) (by decide) (Weak.of_eq (bool_eq ?_)) rfl Leaves.nil
 rfl
theorem isMod_c (vars : Int) (L : List (List Int)) (w : Nat) (hw : w ≤ 4096) (hcl : ∀ i, i < L.length → clB vars (gl L i) = true) (hL : L.length ≤ 1048576) : ACall Tryz.prog 80 [.sl (sls L) L.length, .int .i64 ((w : Nat) : Int)] [] (.bool (aW L w)) [] := by
 have hbM := hb89
 refine ACall.intro Tryz.func80 rfl (N := 9) rfl (by decide) (by simp) ?_
 refine a_seq ?_
 refine a_region ?_
 refine rn (v := .op [.int _ _]) (q_box il rfl rfl) ?_
 refine rv (v := .bool _) (v_assign il nf) ?_
 refine r_nil ?_
 refine a_seq ?_
 refine a_region ?_
 refine rv (v := .sl _ _) (v_move il nf) ?_
 refine rv (v := .fn _ _ _) (v_makeFunc (first := []) (caps := [.tmp 3]) rfl rfl) ?_
 refine rn (v := .bool _) (q_call (vs := [.sl _ _, .fn _ _ _]) (args := [.sl _ _, .fn _ _ _]) hb88 ⟨il, il, trivial⟩ rfl (fun hA => contL_c 89 [.pp [.int .i64 ((w : Nat) : Int)] 0] hbM rfl L (fun i => !tW w (gl L i)) (by omega) (fun i hi => isMod1_c (gl L i) w hw (fun j hj => cl_vr (hcl i hi) hj) (fun j hj => by have := (clB_mem (hcl i hi) (gd_mem hj)).2; omega) (by have := clB_len (hcl i hi); omega))) rfl rfl) ?_
 refine rv (v := .bool _) (v_not il) ?_
 refine rv (v := .bool _) (v_assign il nf) ?_
 refine r_nil ?_
 refine a_ret ?_
 refine ret1 Tryz.results80 (by decide) (by decide) (Weak.of_eq (bool_eq ?_)) rfl Leaves.nil
 rfl
end Go.Av
namespace Go.Av
open Go Go.Proofs Go.Sort
set_option maxRecDepth 10000
theorem hb62 : hasBody Tryz.prog 62 = true := by kernel_rfl
theorem hb80 : hasBody Tryz.prog 80 = true := by kernel_rfl
theorem sp29 : structPl Tryz.prog 29 = some ([.int .i64 0, .nils], [(0, 1), (1, 1)]) := by kernel_rfl
theorem zc4 : zeroCells Tryz.prog 4 = some [.bool false] := by kernel_rfl
theorem sat1_c (b : Int) (x : Bool) : ACall Tryz.prog 63 [.int .i64 b, .rp (INH, []) 0] [.op [.bool x]] (.bool false) [.op [.bool true]] := by
 refine ACall.intro Tryz.func63 rfl (N := 4) rfl (by decide) (by simp) ?_
 refine a_seq ?_
 refine a_region ?_
 refine rv (v := .bool _) (v_assign il nf) ?_
 refine r_nil ?_
 refine a_seq ?_
 refine a_region ?_
 refine r_step rfl (o_store (v := .bool _) (y' := .op [.bool _]) rfl rfl ta4 il il rfl rfl rfl rfl rfl rfl (Nat.le_of_ble_eq_true rfl) (by decide) rfl rfl) ?_
 refine r_nil ?_
 refine a_seq ?_
 refine a_region ?_
 refine rv (v := .bool _) (v_assign il nf) ?_
 refine r_nil ?_
 refine a_ret ?_
 refine ret1 Tryz.results63 (by decide) (by decide) (Weak.of_eq (bool_eq ?_)) rfl (Leaves.one (Weak.of_eq rfl) rfl)
 rfl
theorem models_c (vars : Int) (L : List (List Int)) (hcl : ∀ i, i < L.length → clB vars (gl L i) = true) (hL : L.length ≤ 1048576) (hv : 0 ≤ vars ∧ vars ≤ 12) : ACall Tryz.prog 62 [.agg [.int .i64 vars, .sl (sls L) L.length], .fn 63 [] [.rp (INH, []) 0]] [.op [.bool false]] (.tup []) [.op [.bool (decide (0 ≤ fW vars L))]] := by
 have hp12 := pow12 hv
 have hp0 : (0 : Int) ≤ 2 ^ vars.toNat := (by rw [hp12.2]; exact Int.natCast_nonneg _)
 have hbS := hb63
 refine ACall.intro Tryz.func62 rfl (N := 22) rfl (by decide) (by simp) ?_
 refine a_seq ?_
 refine a_region ?_
 refine rn (v := .op [.int _ _, .sl _ _]) (q_box il rfl rfl) ?_
 refine r_nil ?_
 refine a_seq ?_
 refine a_region ?_
 refine rv (v := .rp _ _) (v_fieldAddr_rp fo29_0 il) ?_
 refine rv (v := .int _ _) (v_load_rp1 ta3 il rfl (fun _ => rfl) rfl) ?_
 refine rv (v := .int .i64 (((2 ^ vars.toNat : Nat) : Nat) : Int)) ((v_shl il il (fun _ => by omega)).cast (int_eq (by push_cast; omega))) ?_
 refine rv (v := .int _ _) (v_move il nf) ?_
 refine r_nil ?_
 refine a_block ?_
 refine a_loop (X := Nat) (fun w => look [(1, .fn 63 [] [.rp (INH, []) 0]), (2, .op [.int .i64 vars, .sl (sls L) L.length]), (7, .int .i64 (((2 ^ vars.toNat : Nat) : Nat) : Int)), (8, .int .i64 ((w : Nat) : Int)), (INH, .op [.bool false])]) (fun w => w ≤ 2 ^ vars.toNat ∧ ∀ j, j < w → aW L j = false) (fun w => 2 ^ vars.toNat - w) 0 (ent_look ⟨Weak.of_eq rfl, Weak.of_eq rfl, Weak.of_eq rfl, Weak.of_eq rfl, Weak.of_eq rfl, trivial⟩) ⟨Nat.zero_le _, fun j h => by omega⟩ (fun w hG => ?_)
 obtain ⟨g1, g2⟩ := hG
 refine a_seq ?_
 refine a_region ?_
 refine rv (v := .bool _) (v_lss il il) ?_
 refine r_nil ?_
 refine a_seq ?_
 refine a_cond rfl (fun ht9 => ?_) (fun ht9 => ?_)
 ·
  skip
  refine a_skip ?_
  refine a_seq ?_
  refine a_block ?_
  refine a_seq ?_
  have hi : w < 2 ^ vars.toNat := (by simp at ht9; omega)
  refine a_region ?_
  refine rv (v := .int _ _) (v_move il nf) ?_
  refine rv (v := .int _ _) (v_assign il nf) ?_
  refine r_nil ?_
  refine a_seq ?_
  cases hb : aW L w
  ·
   skip
   refine a_region ?_
   refine rv (v := .rp _ _) (v_fieldAddr_rp fo29_1 il) ?_
   refine rv (v := .sl _ _) (v_load_rp1 ta22 il rfl (fun _ => rfl) rfl) ?_
   refine rv (v := .int _ _) (v_move il nf) ?_
   refine rn (v := .bool _) (q_call (vs := [.sl _ _, .int _ _]) (args := [.sl _ _, .int .i64 _]) hb80 ⟨il, il, trivial⟩ rfl (fun hA => isMod_c vars L w (by omega) hcl hL) rfl rfl) ?_
   refine rv (v := .bool false) ((v_move il nf).cast (bool_eq hb)) ?_
   refine r_gval (v := .bool false) (v_off rfl rfl) rfl rfl rfl (by decide) (.inl ⟨_, rfl, rfl⟩) rfl (by decide) ?_
   refine r_gval (v := .bool false) (v_off rfl rfl) rfl rfl rfl (by decide) (.inl ⟨_, rfl, rfl⟩) rfl (by decide) ?_
   refine r_gval (v := .bool false) (v_off rfl rfl) rfl rfl rfl (by decide) (.inl ⟨_, rfl, rfl⟩) rfl (by decide) ?_
   refine r_gval (v := .bool false) (v_off rfl rfl) rfl rfl rfl (by decide) (.inl ⟨_, rfl, rfl⟩) rfl (by decide) ?_
   refine rv (v := .bool _) (v_pick (.inl rfl) (.inr ⟨_, rfl, fun h h2 => by simp_all⟩) (.inl rfl)) ?_
   refine r_nil ?_
   refine a_cond rfl (fun ht20 => ?_) (fun ht20 => ?_)
   ·
    skip
    refine a_ret ?_
    refine ret0_look Tryz.results62 (by decide) ?_ rfl
    exfalso; simp at ht20
   ·
    skip
    refine a_skip ?_
    refine a_region ?_
    refine rv (v := .int _ _) (v_add il il (fun _ => by omega)) ?_
    refine rv (v := .int _ _) (v_move il nf) ?_
    refine r_nil ?_
    refine ⟨w + 1, ent_look ⟨Weak.of_eq rfl, Weak.of_eq rfl, Weak.of_eq rfl, Weak.of_eq (int_eq (by omega)), Weak.of_eq rfl, trivial⟩, by first | exact ⟨by omega, ok_stepF (p := fun j => aW L j) g2 hb⟩ | (exfalso; simp at ht20), by omega⟩
  ·
   skip
   refine a_region ?_
   refine rv (v := .rp _ _) (v_fieldAddr_rp fo29_1 il) ?_
   refine rv (v := .sl _ _) (v_load_rp1 ta22 il rfl (fun _ => rfl) rfl) ?_
   refine rv (v := .int _ _) (v_move il nf) ?_
   refine rn (v := .bool _) (q_call (vs := [.sl _ _, .int _ _]) (args := [.sl _ _, .int .i64 _]) hb80 ⟨il, il, trivial⟩ rfl (fun hA => isMod_c vars L w (by omega) hcl hL) rfl rfl) ?_
   refine rv (v := .bool true) ((v_move il nf).cast (bool_eq hb)) ?_
   refine r_act rfl rfl (by decide) (.inl ⟨_, rfl, rfl⟩) (VSem.step (v := .fn _ _ _) (v_move (.inl rfl) nf) rfl (by decide)) ?_
   refine r_act rfl rfl (by decide) (.inl ⟨_, rfl, rfl⟩) (VSem.step (v := .int _ _) (v_move (.inl rfl) nf) rfl (by decide)) ?_
   refine r_act rfl rfl (by decide) (.inl ⟨_, rfl, rfl⟩) (o_cloIOp (q := (INH, [])) (vs := [.int _ _]) (args := [.int .i64 _, .rp (INH, []) 0]) (cs0 := [.bool false]) (cs1 := [.bool true]) (res := .bool _) rfl hbS rfl (by decide) (.inl rfl) ⟨.inl rfl, trivial⟩ rfl rfl (sat1_c _ false) rfl rfl rfl rfl rfl (Nat.le_of_ble_eq_true rfl) (by decide) rfl) ?_
   refine r_act rfl rfl (by decide) (.inl ⟨_, rfl, rfl⟩) (VSem.step (v := .bool _) (v_not (.inl rfl)) rfl (by decide)) ?_
   refine rv (v := .bool _) (v_pick (.inl rfl) (.inl rfl) (.inl rfl)) ?_
   refine r_nil ?_
   refine a_cond rfl (fun ht20 => ?_) (fun ht20 => ?_)
   ·
    skip
    refine a_ret ?_
    refine ret0_look Tryz.results62 (by decide) ?_ rfl
    exact Weak.of_eq (by rw [show fW vars L = w from fidx_found (p := fun w => aW L w) hi hb g2, decide_eq_true (by omega)]; rfl)
   ·
    skip
    refine a_skip ?_
    exfalso
    simp at ht20
 ·
  skip
  refine a_exit ?_
  refine ret0_look Tryz.results62 (by decide) ?_ rfl
  simp at ht9; exact Weak.of_eq (by rw [show fW vars L = -1 from fidx_none (p := fun w => aW L w) (fun j hj => g2 j (by omega))]; rfl)
theorem satI_c (vars : Int) (L : List (List Int)) (hcl : ∀ i, i < L.length → clB vars (gl L i) = true) (hL : L.length ≤ 1048576) (hv : 0 ≤ vars ∧ vars ≤ 12) : ACall Tryz.prog 41 [.int .i64 vars, .sl (sls L) L.length] [] (.bool (decide (0 ≤ fW vars L))) [] := by
 refine ACall.intro Tryz.func41 rfl (N := 12) rfl (by decide) (by simp) ?_
 refine a_seq ?_
 refine a_region ?_
 refine rv (v := .bool _) (v_assign il nf) ?_
 refine r_nil ?_
 refine a_seq ?_
 refine a_region ?_
 refine rn (v := .op [.bool _]) (q_alloc zc4) ?_
 refine r_step rfl (o_store (v := .bool _) (y' := .op [.bool _]) rfl rfl ta4 il il rfl rfl rfl rfl rfl rfl (Nat.le_of_ble_eq_true rfl) (by decide) rfl rfl) ?_
 refine r_nil ?_
 refine a_seq ?_
 refine a_region ?_
 refine rv (v := .int _ _) (v_move il nf) ?_
 refine rv (v := .sl _ _) (v_move il nf) ?_
 refine rv (v := .agg [.int _ _, .sl _ _]) (v_build sp29 rfl rfl) ?_
 refine rv (v := .fn _ _ _) (v_makeFunc (first := []) (caps := [.tmp 5]) rfl rfl) ?_
 refine r_step rfl (o_callIOp (q := (5, [])) (vs := [.agg [.int _ _, .sl _ _], .fn _ _ _]) (args := [.agg [.int .i64 vars, .sl (sls L) L.length], .fn 63 [] [.rp (INH, []) 0]]) (cs0 := [.bool _]) (cs1 := [.bool _]) (res := .tup []) rfl hb62 rfl (by decide) ⟨.inl rfl, .inl rfl, trivial⟩ rfl rfl (models_c vars L hcl hL hv) rfl rfl rfl rfl rfl (Nat.le_of_ble_eq_true rfl) (by decide) rfl) ?_
 refine r_nil ?_
 refine a_seq ?_
 refine a_region ?_
 refine rv (v := .bool _) (v_load_rp1 ta4 il rfl (fun _ => rfl) rfl) ?_
 refine rv (v := .bool _) (v_assign il nf) ?_
 refine r_nil ?_
 refine a_ret ?_
 refine ret1 Tryz.results41 (by decide) (by decide) (Weak.of_eq (bool_eq ?_)) rfl Leaves.nil
 rfl
end Go.Av
namespace Go.Av
open Go Go.Proofs Go.Sort
set_option maxRecDepth 10000
theorem hb33 : hasBody Tryz.prog 33 = true := by kernel_rfl
theorem hb38 : hasBody Tryz.prog 38 = true := by kernel_rfl
theorem hb59 : hasBody Tryz.prog 59 = true := by kernel_rfl
theorem pow12_c (n : Nat) (h : n ≤ 12) : ACall Tryz.prog 33 [.int .i64 ((n : Nat) : Int)] [] (.int .i64 ((3 ^ n : Nat) : Int)) [] := by
 refine ACall.intro Tryz.func33 rfl (N := 11) rfl (by decide) (by simp) ?_
 refine a_seq ?_
 refine a_region ?_
 refine rv (v := .int _ _) (v_assign il nf) ?_
 refine r_nil ?_
 refine a_seq ?_
 refine a_region ?_
 refine rv (v := .int _ _) (v_assign il nf) ?_
 refine r_nil ?_
 refine a_seq ?_
 refine a_block ?_
 refine a_loop (X := Nat) (fun k => look [(0, .int .i64 ((n : Int) - (k : Nat))), (3, .int .i64 ((3 ^ k : Nat) : Int))]) (fun k => k ≤ n) (fun k => n - k) 0 (ent_look ⟨Weak.of_eq (int_eq (by omega)), Weak.of_eq rfl, trivial⟩) (Nat.zero_le _) (fun k hG => ?_)
 have hpb := pow3_bd (k := k) (by omega)
 refine a_seq ?_
 refine a_seq ?_
 refine a_region ?_
 refine rv (v := .int _ _) (v_move il nf) ?_
 refine rv (v := .bool _) (v_gtr il il) ?_
 refine r_nil ?_
 refine a_cond rfl (fun ht5 => ?_) (fun ht5 => ?_)
 ·
  skip
  refine a_skip ?_
  refine a_seq ?_
  refine a_block ?_
  have hi : k < n := (by simp at ht5; omega)
  refine a_region ?_
  refine rv (v := .int _ _) (v_move il nf) ?_
  refine rv (v := .int _ _) (v_mul il il (fun _ => by omega)) ?_
  refine rv (v := .int _ _) (v_assign il nf) ?_
  refine r_nil ?_
  refine a_region ?_
  refine rv (v := .int _ _) (v_move il nf) ?_
  refine rv (v := .int _ _) (v_sub il il (fun _ => by omega)) ?_
  refine rv (v := .int _ _) (v_assign il nf) ?_
  refine r_nil ?_
  refine ⟨k + 1, ent_look ⟨Weak.of_eq (int_eq (by omega)), Weak.of_eq (int_eq (by rw [Nat.pow_succ]; push_cast; rfl)), trivial⟩, by omega, by omega⟩
 ·
  skip
  refine a_exit ?_
  refine a_seq ?_
  refine a_region ?_
  refine rv (v := .int _ _) (v_move il nf) ?_
  refine rv (v := .int _ _) (v_assign il nf) ?_
  refine r_nil ?_
  refine a_ret ?_
  refine ret1 Tryz.results33 (by decide) (by decide) (Weak.of_eq (int_eq ?_)) rfl Leaves.nil
  simp at ht5; rw [show k = n by omega]
theorem code12_c (vars : Int) (a : List Int) (hca : clB vars a = true) : ACall Tryz.prog 55 [.sl (icells a) a.length] [] (.int .i64 (((codeA a) : Nat) : Int)) [] := by
 have hla := clB_len hca
 have hsm := clB_sm hca
 have hv12 := (clB_spec hca).1
 refine ACall.intro Tryz.func55 rfl (N := 29) rfl (by decide) (by simp) ?_
 refine a_seq ?_
 refine a_region ?_
 refine rv (v := .int _ _) (v_assign il nf) ?_
 refine r_nil ?_
 refine a_seq ?_
 refine a_region ?_
 refine rv (v := .int _ _) (v_assign il nf) ?_
 refine r_nil ?_
 refine a_seq ?_
 refine a_seq ?_
 refine a_region ?_
 refine rv (v := .int _ _) (v_assign il nf) ?_
 refine r_nil ?_
 refine a_block ?_
 refine a_loop (X := Nat) (fun i => look [(0, .sl (icells a) a.length), (3, .int .i64 (((codeA (a.take i)) : Nat) : Int)), (4, .int .i64 ((i : Nat) : Int))]) (fun i => i ≤ a.length) (fun i => a.length - i) 0 (ent_look ⟨Weak.of_eq rfl, Weak.of_eq rfl, Weak.of_eq rfl, trivial⟩) (Nat.zero_le _) (fun i hG => ?_)
 have hct := codeA_tk hca i
 have hsi := hsm i
 refine a_seq ?_
 refine a_seq ?_
 refine a_region ?_
 refine rv (v := .int _ _) (v_move il nf) ?_
 refine rv (v := .sl _ _) (v_move il nf) ?_
 refine rv (v := .int _ _) (v_len_sl sl40 il) ?_
 refine rv (v := .bool _) (v_lss il il) ?_
 refine r_nil ?_
 refine a_cond rfl (fun ht9 => ?_) (fun ht9 => ?_)
 ·
  skip
  refine a_skip ?_
  refine a_seq ?_
  refine a_block ?_
  refine a_seq ?_
  have hi : i < a.length := (by simp at ht9; omega)
  have hlt := litB_spec.1 (clB_mem hca (gd_mem hi)).1
  have hvr : 1 ≤ vr (gd a i) ∧ vr (gd a i) ≤ 12 := (by unfold vr; split <;> omega)
  have hpb := pow3_bd (k := ((vr (gd a i) - 1).toNat)) (by omega)
  refine a_region ?_
  refine rv (v := .int _ _) (v_assign il nf) ?_
  refine r_nil ?_
  refine a_seq ?_
  refine a_seq ?_
  refine a_region ?_
  refine rv (v := .sl _ _) (v_move il nf) ?_
  refine rv (v := .int _ _) (v_move il nf) ?_
  refine rv (v := .pp _ _) (v_indexAddr_sl es40 il il (fun _ => ⟨by omega, by omega, icells_ne hi⟩)) ?_
  refine rv (v := .int .i64 (gd a i)) (v_load_pp ta3 il (fun _ => by rw [Nat.mul_one]; exact icells_get (gd_get hi)) rfl) ?_
  refine rv (v := .bool _) (v_gtr il il) ?_
  refine r_nil ?_
  refine a_cond rfl (fun ht16 => ?_) (fun ht16 => ?_)
  ·
   skip
   refine a_region ?_
   refine rv (v := .int _ _) (v_assign il nf) ?_
   refine r_nil ?_
   refine a_region ?_
   refine rv (v := .int _ _) (v_move il nf) ?_
   refine rv (v := .int _ _) (v_move il nf) ?_
   refine rv (v := .sl _ _) (v_move il nf) ?_
   refine rv (v := .int _ _) (v_move il nf) ?_
   refine rv (v := .pp _ _) (v_indexAddr_sl es40 il il (fun _ => ⟨by omega, by omega, icells_ne hi⟩)) ?_
   refine rv (v := .int .i64 (gd a i)) (v_load_pp ta3 il (fun _ => by rw [Nat.mul_one]; exact icells_get (gd_get hi)) rfl) ?_
   refine rn (v := .int _ _) (q_call (vs := [.int _ _]) (args := [.int .i64 _]) hb57 ⟨il, trivial⟩ rfl (fun hA => l2Var_c _ (by omega)) rfl rfl) ?_
   refine rv (v := .int .i64 ((((vr (gd a i) - 1).toNat) : Nat) : Int)) ((v_sub il il (fun _ => by omega)).cast (int_eq (by omega))) ?_
   refine rn (v := .int _ _) (q_call (vs := [.int _ _]) (args := [.int .i64 _]) hb33 ⟨il, trivial⟩ rfl (fun hA => pow12_c ((vr (gd a i) - 1).toNat) (by omega)) rfl rfl) ?_
   refine rv (v := .int _ _) (v_mul il il (fun _ => by omega)) ?_
   refine rv (v := .int _ _) (v_add il il (fun _ => by omega)) ?_
   refine rv (v := .int _ _) (v_assign il nf) ?_
   refine r_nil ?_
   refine a_region ?_
   refine rv (v := .int _ _) (v_move il nf) ?_
   refine rv (v := .int _ _) (v_add il il (fun _ => by omega)) ?_
   refine rv (v := .int _ _) (v_assign il nf) ?_
   refine r_nil ?_
   refine ⟨i + 1, ent_look ⟨Weak.of_eq rfl, Weak.of_eq (int_eq (by rw [codeA_take hi, (dg_pos (by simpa using ht16)).1]; push_cast; omega)), Weak.of_eq (int_eq (by omega)), trivial⟩, by omega, by omega⟩
  ·
   skip
   refine a_skip ?_
   refine a_region ?_
   refine rv (v := .int _ _) (v_move il nf) ?_
   refine rv (v := .int _ _) (v_move il nf) ?_
   refine rv (v := .sl _ _) (v_move il nf) ?_
   refine rv (v := .int _ _) (v_move il nf) ?_
   refine rv (v := .pp _ _) (v_indexAddr_sl es40 il il (fun _ => ⟨by omega, by omega, icells_ne hi⟩)) ?_
   refine rv (v := .int .i64 (gd a i)) (v_load_pp ta3 il (fun _ => by rw [Nat.mul_one]; exact icells_get (gd_get hi)) rfl) ?_
   refine rn (v := .int _ _) (q_call (vs := [.int _ _]) (args := [.int .i64 _]) hb57 ⟨il, trivial⟩ rfl (fun hA => l2Var_c _ (by omega)) rfl rfl) ?_
   refine rv (v := .int .i64 ((((vr (gd a i) - 1).toNat) : Nat) : Int)) ((v_sub il il (fun _ => by omega)).cast (int_eq (by omega))) ?_
   refine rn (v := .int _ _) (q_call (vs := [.int _ _]) (args := [.int .i64 _]) hb33 ⟨il, trivial⟩ rfl (fun hA => pow12_c ((vr (gd a i) - 1).toNat) (by omega)) rfl rfl) ?_
   refine rv (v := .int _ _) (v_mul il il (fun _ => by omega)) ?_
   refine rv (v := .int _ _) (v_add il il (fun _ => by omega)) ?_
   refine rv (v := .int _ _) (v_assign il nf) ?_
   refine r_nil ?_
   refine a_region ?_
   refine rv (v := .int _ _) (v_move il nf) ?_
   refine rv (v := .int _ _) (v_add il il (fun _ => by omega)) ?_
   refine rv (v := .int _ _) (v_assign il nf) ?_
   refine r_nil ?_
   refine ⟨i + 1, ent_look ⟨Weak.of_eq rfl, Weak.of_eq (int_eq (by rw [codeA_take hi, (dg_neg (by simpa using ht16) hlt.2).1]; push_cast; omega)), Weak.of_eq (int_eq (by omega)), trivial⟩, by omega, by omega⟩
 ·
  skip
  refine a_exit ?_
  refine a_seq ?_
  refine a_region ?_
  refine rv (v := .int _ _) (v_move il nf) ?_
  refine rv (v := .int _ _) (v_assign il nf) ?_
  refine r_nil ?_
  refine a_ret ?_
  refine ret1 Tryz.results55 (by decide) (by decide) (Weak.of_eq (int_eq ?_)) rfl Leaves.nil
  simp at ht9; rw [show i = a.length by omega, List.take_length]
theorem size12_c (n : Int) : ACall Tryz.prog 28 [.int .i64 n] [] (.bool (inR n 0 6)) [] := by
 refine ACall.intro Tryz.func28 rfl (N := 5) rfl (by decide) (by simp) ?_
 refine a_seq ?_
 refine a_region ?_
 refine rv (v := .bool _) (v_assign il nf) ?_
 refine r_nil ?_
 refine a_seq ?_
 refine a_region ?_
 refine rv (v := .int _ _) (v_move il nf) ?_
 refine rn (v := .bool _) (q_call (vs := [.int _ _, .int _ _, .int _ _]) (args := [.int .i64 _, .int .i64 _, .int .i64 _]) hb51 ⟨il, il, il, trivial⟩ rfl (fun hA => l1In_c _ _ _) rfl rfl) ?_
 refine rv (v := .bool _) (v_assign il nf) ?_
 refine r_nil ?_
 refine a_ret ?_
 refine ret1 Tryz.results28 (by decide) (by decide) (Weak.of_eq (bool_eq ?_)) rfl Leaves.nil
 rfl
theorem fal12_c (vars : Int) (L : List (List Int)) (a : List Int) (hcl : ∀ i, i < L.length → clB vars (gl L i) = true) (hL : L.length ≤ 1048576) (ha : a.length ≤ 1048576) : ACall Tryz.prog 34 [.agg [.int .i64 vars, .sl (sls L) L.length], .sl (icells a) a.length] [] (.bool (conf L a)) [] := by
 refine ACall.intro Tryz.func34 rfl (N := 21) rfl (by decide) (by simp) ?_
 refine a_seq ?_
 refine a_region ?_
 refine rn (v := .op [.int _ _, .sl _ _]) (q_box il rfl rfl) ?_
 refine rv (v := .bool _) (v_assign il nf) ?_
 refine r_nil ?_
 refine a_seq ?_
 refine a_seq ?_
 refine a_region ?_
 refine rv (v := .int _ _) (v_assign il nf) ?_
 refine r_nil ?_
 refine a_block ?_
 refine a_loop (X := Nat) (fun i => look [(1, .sl (icells a) a.length), (2, .op [.int .i64 vars, .sl (sls L) L.length]), (5, .int .i64 ((i : Nat) : Int))]) (fun i => i ≤ L.length ∧ ∀ j, j < i → decide (cval (gl L j) a < 0) = false) (fun i => L.length - i) 0 (ent_look ⟨Weak.of_eq rfl, Weak.of_eq rfl, Weak.of_eq rfl, trivial⟩) ⟨Nat.zero_le _, fun j h => by omega⟩ (fun i hG => ?_)
 obtain ⟨g1, g2⟩ := hG
 refine a_seq ?_
 refine a_seq ?_
 refine a_region ?_
 refine rv (v := .int _ _) (v_move il nf) ?_
 refine rv (v := .rp _ _) (v_fieldAddr_rp fo29_1 il) ?_
 refine rv (v := .sl _ _) (v_load_rp1 ta22 il rfl (fun _ => rfl) rfl) ?_
 refine rv (v := .int _ _) (v_len_sl sl22 il) ?_
 refine rv (v := .bool _) (v_lss il il) ?_
 refine r_nil ?_
 refine a_cond rfl (fun ht10 => ?_) (fun ht10 => ?_)
 ·
  skip
  refine a_skip ?_
  refine a_seq ?_
  refine a_block ?_
  refine a_seq ?_
  have hi : i < L.length := (by simp at ht10; omega)
  have hcl9 := clB_len (hcl i hi)
  refine a_region ?_
  refine rv (v := .rp _ _) (v_fieldAddr_rp fo29_1 il) ?_
  refine rv (v := .sl _ _) (v_load_rp1 ta22 il rfl (fun _ => rfl) rfl) ?_
  refine rv (v := .int _ _) (v_move il nf) ?_
  refine rv (v := .pp _ _) (v_indexAddr_sl es22 il il (fun _ => ⟨by omega, by omega, sls_ne hi⟩)) ?_
  refine rv (v := .sl (icells (gl L i)) (gl L i).length) (v_load_pp ta40 il (fun _ => by rw [Nat.mul_one]; exact sls_get hi) rfl) ?_
  refine rv (v := .sl _ _) (v_move il nf) ?_
  refine rn (v := .int _ _) (q_call (vs := [.sl _ _, .sl _ _]) (args := [.sl _ _, .sl _ _]) hb53 ⟨il, il, trivial⟩ rfl (fun hA => sClv_c (gl L i) a (clB_sm (hcl i hi)) (by omega) ha) rfl rfl) ?_
  refine rv (v := .bool _) (v_lss il il) ?_
  refine r_nil ?_
  refine a_cond rfl (fun ht20 => ?_) (fun ht20 => ?_)
  ·
   skip
   refine a_seq ?_
   refine a_region ?_
   refine rv (v := .bool _) (v_assign il nf) ?_
   refine r_nil ?_
   refine a_ret ?_
   refine ret1 Tryz.results34 (by decide) (by decide) (Weak.of_eq (bool_eq ?_)) rfl Leaves.nil
   exact (List.any_eq_true.2 ⟨i, List.mem_range.2 hi, ht20⟩).symm
  ·
   skip
   refine a_skip ?_
   refine a_region ?_
   refine rv (v := .int _ _) (v_move il nf) ?_
   refine rv (v := .int _ _) (v_add il il (fun _ => by omega)) ?_
   refine rv (v := .int _ _) (v_assign il nf) ?_
   refine r_nil ?_
   refine ⟨i + 1, ent_look ⟨Weak.of_eq rfl, Weak.of_eq rfl, Weak.of_eq (int_eq (by omega)), trivial⟩, ⟨by omega, ok_stepF (p := (fun c => decide (cval (gl L c) a < 0))) g2 ht20⟩, by omega⟩
 ·
  skip
  refine a_exit ?_
  refine a_seq ?_
  refine a_region ?_
  refine rv (v := .bool _) (v_assign il nf) ?_
  refine r_nil ?_
  refine a_ret ?_
  refine ret1 Tryz.results34 (by decide) (by decide) (Weak.of_eq (bool_eq ?_)) rfl Leaves.nil
  simp at ht10; exact (List.any_eq_false.2 (fun j hj => by rw [g2 j (by have := List.mem_range.1 hj; omega)]; simp)).symm
theorem after12_c (c : Nat) (v : Int) (hc : c ≤ 1000) (hv : 1 ≤ v ∧ v ≤ 6) : ACall Tryz.prog 36 [.int .i64 ((c : Nat) : Int), .int .i64 v] [] (.tup [.int .i64 (((cNo c v) : Nat) : Int), .int .i64 (((cYes c v) : Nat) : Int), .bool (decide (((dgt c ((v - 1).toNat) : Nat) : Int) = 0))]) [] := by
 have hpb := pow6k (k := ((v - 1).toNat)) (by omega)
 have hdn : (0 : Int) ≤ (c : Int) / ((3 ^ ((v - 1).toNat) : Nat) : Int) := Int.ediv_nonneg (Int.natCast_nonneg _) (Int.natCast_nonneg _)
 refine ACall.intro Tryz.func36 rfl (N := 23) rfl (by decide) (by simp) ?_
 refine a_seq ?_
 refine a_region ?_
 refine rv (v := .int _ _) (v_assign il nf) ?_
 refine rv (v := .int _ _) (v_assign il nf) ?_
 refine rv (v := .bool _) (v_assign il nf) ?_
 refine r_nil ?_
 refine a_seq ?_
 refine a_region ?_
 refine rv (v := .int _ _) (v_move il nf) ?_
 refine rv (v := .int .i64 ((((v - 1).toNat) : Nat) : Int)) ((v_sub il il (fun _ => by omega)).cast (int_eq (by omega))) ?_
 refine rn (v := .int _ _) (q_call (vs := [.int _ _]) (args := [.int .i64 _]) hb33 ⟨il, trivial⟩ rfl (fun hA => pow12_c ((v - 1).toNat) (by omega)) rfl rfl) ?_
 refine rv (v := .int _ _) (v_assign il nf) ?_
 refine r_nil ?_
 refine a_seq ?_
 refine a_region_any mixed (by kernel_rfl) ?_
 refine yv (v := .int _ _) (v_move il nf) ?_
 refine yv (v := .int _ _) (v_move il nf) ?_
 refine yv (v := .int .i64 (((cNo c v) : Nat) : Int)) ((v_add il il (fun _ => by omega)).cast (int_eq (by unfold cNo; push_cast; rfl))) ?_
 refine yv (v := .int _ _) (v_move il nf) ?_
 refine yv (v := .int _ _) (v_move il nf) ?_
 refine yv (v := .int _ _) (v_mul il il (fun _ => by omega)) ?_
 refine yv (v := .int .i64 (((cYes c v) : Nat) : Int)) ((v_add il il (fun _ => by omega)).cast (int_eq (by unfold cYes; push_cast; rfl))) ?_
 refine yv (v := .int _ _) (v_move il nf) ?_
 refine yv (v := .int _ _) (v_move il nf) ?_
 refine yv (v := .int .i64 (((c / 3 ^ ((v - 1).toNat)) : Nat) : Int)) ((v_quo il il (fun _ => by omega)).cast (int_eq (by push_cast; rfl))) ?_
 refine yv (v := .int .i64 (((dgt c ((v - 1).toNat)) : Nat) : Int)) ((v_rem il il (fun _ => by omega)).cast (int_eq (by unfold dgt; omega))) ?_
 refine yv (v := .bool _) (v_eql il il) ?_
 refine yv (v := .int _ _) (v_assign il nf) ?_
 refine yv (v := .int _ _) (v_assign il nf) ?_
 refine yv (v := .bool _) (v_assign il nf) ?_
 refine y_nil ?_
 refine a_ret ?_
 refine retL (rs := [.tmp 4, .tmp 5, .tmp 6]) [(4, _), (5, _), (6, _)] ⟨Weak.rfl, Weak.rfl, Weak.rfl, trivial⟩ rfl Tryz.results36 (by decide) ⟨by decide, by decide, by decide, rfl⟩ (by decide) (by decide) (l3_eq (int_eq ?_) (int_eq ?_) (bool_eq ?_)) (by simp [refsL, refs])
 all_goals rfl
theorem points12_c (a b : Int) : ACall Tryz.prog 37 [.int .i64 a, .int .i64 b] [] (.int .i64 (max (max a b) (w64 (1 + min a b)))) [] := by
 refine ACall.intro Tryz.func37 rfl (N := 13) rfl (by decide) (by simp) ?_
 refine a_seq ?_
 refine a_region ?_
 refine rv (v := .int _ _) (v_assign il nf) ?_
 refine r_nil ?_
 refine a_seq ?_
 refine a_region ?_
 refine rv (v := .int _ _) (v_move il nf) ?_
 refine rv (v := .int _ _) (v_move il nf) ?_
 refine rn (v := .int _ _) (q_call (vs := [.int _ _, .int _ _]) (args := [.int .i64 _, .int .i64 _]) hb38 ⟨il, il, trivial⟩ rfl (fun hA => l1Most_c _ _) rfl rfl) ?_
 refine rv (v := .int _ _) (v_move il nf) ?_
 refine rv (v := .int _ _) (v_move il nf) ?_
 refine rn (v := .int _ _) (q_call (vs := [.int _ _, .int _ _]) (args := [.int .i64 _, .int .i64 _]) hb59 ⟨il, il, trivial⟩ rfl (fun hA => l1Least_c _ _) rfl rfl) ?_
 refine rv (v := .int _ _) (v_addW il il) ?_
 refine rn (v := .int _ _) (q_call (vs := [.int _ _, .int _ _]) (args := [.int .i64 _, .int .i64 _]) hb38 ⟨il, il, trivial⟩ rfl (fun hA => l1Most_c _ _) rfl rfl) ?_
 refine rv (v := .int _ _) (v_assign il nf) ?_
 refine r_nil ?_
 refine a_ret ?_
 refine ret1 Tryz.results37 (by decide) (by decide) (Weak.of_eq (int_eq ?_)) rfl Leaves.nil
 rfl
theorem ofI_c (vars : Int) (c : Nat) (hv : 0 ≤ vars ∧ vars ≤ 6) (hc : c ≤ 1000) : ACall Tryz.prog 64 [.int .i64 vars, .int .i64 ((c : Nat) : Int)] [] (.osl 1 (icells (ofP c vars.toNat)) (ofP c vars.toNat).length none) [] := by
 refine ACall.intro Tryz.func64 rfl (N := 30) rfl (by decide) (by simp) ?_
 refine a_seq ?_
 refine a_region ?_
 refine rv (v := .nils) (v_assign il nf) ?_
 refine r_nil ?_
 refine a_seq ?_
 refine a_region ?_
 refine rv (v := .nils) (v_assign il nf) ?_
 refine r_nil ?_
 refine a_seq ?_
 refine a_seq ?_
 refine a_region ?_
 refine rv (v := .int _ _) (v_assign il nf) ?_
 refine r_nil ?_
 refine a_block ?_
 refine a_pre (ent_nil (t := 5) (sz := 1) (cap := none) (.inl rfl) (fun _ h => by cases h)) ?_
 refine a_loop (X := Nat) (fun k => look [(0, .int .i64 vars), (1, .int .i64 ((c / 3 ^ k : Nat) : Int)), (5, .osl 1 (icells (ofP c k)) (ofP c k).length none), (6, .int .i64 ((k + 1 : Nat) : Int))]) (fun k => (k : Int) ≤ vars) (fun k => vars.toNat - k) 0 (ent_look ⟨Weak.of_eq rfl, Weak.of_eq (int_eq (by simp)), Weak.osl rfl rfl, Weak.of_eq rfl, trivial⟩) (by omega) (fun k hG => ?_)
 have hol := ofP_len c k
 have hdv : c / 3 ^ k ≤ c := Nat.div_le_self _ _
 have hdn : (0 : Int) ≤ (c : Int) / ((3 ^ k : Nat) : Int) := Int.ediv_nonneg (Int.natCast_nonneg _) (Int.natCast_nonneg _)
 refine a_seq ?_
 refine a_seq ?_
 refine a_region ?_
 refine rv (v := .int _ _) (v_move il nf) ?_
 refine rv (v := .int _ _) (v_move il nf) ?_
 refine rv (v := .bool _) (v_leq il il) ?_
 refine r_nil ?_
 refine a_cond rfl (fun ht9 => ?_) (fun ht9 => ?_)
 ·
  skip
  refine a_skip ?_
  refine a_seq ?_
  refine a_block ?_
  refine a_seq ?_
  refine a_seq ?_
  have hi : ((k + 1 : Nat) : Int) ≤ vars := (by simpa using ht9)
  refine a_region ?_
  refine rv (v := .int _ _) (v_move il nf) ?_
  refine rv (v := .int .i64 (((dgt c k) : Nat) : Int)) ((v_rem il il (fun _ => by omega)).cast (int_eq (by unfold dgt; omega))) ?_
  refine r_nil ?_
  refine a_block ?_
  refine a_seq ?_
  refine a_region ?_
  refine rv (v := .bool _) (v_eql il il) ?_
  refine rv (v := .bool _) (v_assign il nf) ?_
  refine r_nil ?_
  refine a_cond rfl (fun ht14 => ?_) (fun ht14 => ?_)
  ·
   skip
   have h1 : dgt c k = 1 := (by have h9 := of_decide_eq_true ht14; omega)
   refine a_region ?_
   refine rv (v := .rsl _ _ _ _ _) (v_move il nf) ?_
   refine rv (v := .int _ _) (v_move il nf) ?_
   refine rv (v := .int _ _) (v_neg il (fun _ => by omega)) ?_
   refine rn (v := .osl 1 (icells [-((k : Int) + 1)]) 1 (some 1)) (q_sliceLit (n := 1) (parts := [(0, .tmp 18)]) lt40 rfl rfl rfl rfl) ?_
   refine r_pre (ent_reloc_sl (t := 16) rfl rfl) ?_
   refine r_step rfl (o_append rfl ap40 rfl (by decide) (by decide) rfl (src_lit (.inl rfl) rfl rfl (ic_pureL _)) (ic_cell _) (by rw [icells_length]; omega) (by omega)) ?_
   refine rv (v := .rsl _ _ _ _ _) (v_assign il nf) ?_
   refine r_pre (ent_reloc_sl (t := 5) rfl rfl) ?_
   refine r_nil ?_
   try (have h2 : ¬ dgt c k = 2 := (by have h9 := of_decide_eq_false ht21; omega))
   refine a_region ?_
   refine rv (v := .int _ _) (v_move il nf) ?_
   refine rv (v := .int .i64 ((c / 3 ^ (k + 1) : Nat) : Int)) ((v_quo il il (fun _ => by omega)).cast (int_eq (by rw [Nat.pow_succ, ← Nat.div_div_eq_div_mul]; omega))) ?_
   refine rv (v := .int _ _) (v_assign il nf) ?_
   refine r_nil ?_
   refine a_region ?_
   refine rv (v := .int _ _) (v_move il nf) ?_
   refine rv (v := .int _ _) (v_add il il (fun _ => by omega)) ?_
   refine rv (v := .int _ _) (v_assign il nf) ?_
   refine r_nil ?_
   refine ⟨k + 1, ent_look ⟨Weak.of_eq rfl, Weak.rfl, Weak.osl (by rw [ofP, if_pos h1, icells_append] <;> rfl) (by rw [ofP, if_pos h1]; simp), Weak.of_eq (int_eq (by omega)), trivial⟩, by omega, by omega⟩
  ·
   skip
   refine a_seq ?_
   have h1 : ¬ dgt c k = 1 := (by have h9 := of_decide_eq_false ht14; omega)
   refine a_region ?_
   refine rv (v := .bool _) (v_eql il il) ?_
   refine rv (v := .bool _) (v_assign il nf) ?_
   refine r_nil ?_
   refine a_cond rfl (fun ht21 => ?_) (fun ht21 => ?_)
   ·
    skip
    have h2 : dgt c k = 2 := (by have h9 := of_decide_eq_true ht21; omega)
    refine a_region ?_
    refine rv (v := .rsl _ _ _ _ _) (v_move il nf) ?_
    refine rv (v := .int _ _) (v_move il nf) ?_
    refine rn (v := .osl 1 (icells [((k : Int) + 1)]) 1 (some 1)) (q_sliceLit (n := 1) (parts := [(0, .tmp 24)]) lt40 rfl rfl rfl rfl) ?_
    refine r_pre (ent_reloc_sl (t := 23) rfl rfl) ?_
    refine r_step rfl (o_append rfl ap40 rfl (by decide) (by decide) rfl (src_lit (.inl rfl) rfl rfl (ic_pureL _)) (ic_cell _) (by rw [icells_length]; omega) (by omega)) ?_
    refine rv (v := .rsl _ _ _ _ _) (v_assign il nf) ?_
    refine r_pre (ent_reloc_sl (t := 5) rfl rfl) ?_
    refine r_nil ?_
    try (have h2 : ¬ dgt c k = 2 := (by have h9 := of_decide_eq_false ht21; omega))
    refine a_region ?_
    refine rv (v := .int _ _) (v_move il nf) ?_
    refine rv (v := .int .i64 ((c / 3 ^ (k + 1) : Nat) : Int)) ((v_quo il il (fun _ => by omega)).cast (int_eq (by rw [Nat.pow_succ, ← Nat.div_div_eq_div_mul]; omega))) ?_
    refine rv (v := .int _ _) (v_assign il nf) ?_
    refine r_nil ?_
    refine a_region ?_
    refine rv (v := .int _ _) (v_move il nf) ?_
    refine rv (v := .int _ _) (v_add il il (fun _ => by omega)) ?_
    refine rv (v := .int _ _) (v_assign il nf) ?_
    refine r_nil ?_
    refine ⟨k + 1, ent_look ⟨Weak.of_eq rfl, Weak.rfl, Weak.osl (by rw [ofP, if_neg h1, if_pos h2, icells_append] <;> rfl) (by rw [ofP, if_neg h1, if_pos h2]; simp), Weak.of_eq (int_eq (by omega)), trivial⟩, by omega, by omega⟩
   ·
    skip
    refine a_skip ?_
    try (have h2 : ¬ dgt c k = 2 := (by have h9 := of_decide_eq_false ht21; omega))
    refine a_region ?_
    refine rv (v := .int _ _) (v_move il nf) ?_
    refine rv (v := .int .i64 ((c / 3 ^ (k + 1) : Nat) : Int)) ((v_quo il il (fun _ => by omega)).cast (int_eq (by rw [Nat.pow_succ, ← Nat.div_div_eq_div_mul]; omega))) ?_
    refine rv (v := .int _ _) (v_assign il nf) ?_
    refine r_nil ?_
    refine a_region ?_
    refine rv (v := .int _ _) (v_move il nf) ?_
    refine rv (v := .int _ _) (v_add il il (fun _ => by omega)) ?_
    refine rv (v := .int _ _) (v_assign il nf) ?_
    refine r_nil ?_
    refine ⟨k + 1, ent_look ⟨Weak.of_eq rfl, Weak.rfl, Weak.osl (by rw [ofP, if_neg h1, if_neg h2, List.append_nil]) (by rw [ofP, if_neg h1, if_neg h2, List.append_nil]), Weak.of_eq (int_eq (by omega)), trivial⟩, by omega, by omega⟩
 ·
  skip
  refine a_exit ?_
  refine a_seq ?_
  refine a_region ?_
  refine rv (v := .rsl _ _ _ _ _) (v_move il nf) ?_
  refine rv (v := .rsl _ _ _ _ _) (v_assign il nf) ?_
  refine r_pre (ent_reloc_sl (t := 4) rfl rfl) ?_
  refine r_nil ?_
  refine a_ret ?_
  refine ret1 Tryz.results64 (by decide) (by decide) (Weak.osl ?_ ?_) rfl Leaves.nil
  all_goals (rw [show vars.toNat = k by simp at ht9; omega])
theorem of12_c (vars : Int) (c : Nat) (hv : 0 ≤ vars ∧ vars ≤ 6) (hc : c ≤ 1000) : ACall Tryz.prog 35 [.int .i64 vars, .int .i64 ((c : Nat) : Int)] [] (.osl 1 (icells (ofP c vars.toNat)) (ofP c vars.toNat).length none) [] := by
 refine ACall.intro Tryz.func35 rfl (N := 31) rfl (by decide) (by simp) ?_
 refine a_seq ?_
 refine a_region ?_
 refine rv (v := .nils) (v_assign il nf) ?_
 refine r_nil ?_
 refine a_seq ?_
 refine a_region ?_
 refine rn (v := .osl _ _ _ _) (q_sliceLit (n := 0) (parts := []) lt40 rfl rfl rfl rfl) ?_
 refine rv (v := .rsl _ _ _ _ _) (v_assign il nf) ?_
 refine r_pre (ent_reloc_sl (t := 5) rfl rfl) ?_
 refine r_nil ?_
 refine a_seq ?_
 refine a_seq ?_
 refine a_region ?_
 refine rv (v := .int _ _) (v_assign il nf) ?_
 refine r_nil ?_
 refine a_block ?_
 refine a_loop (X := Nat) (fun k => look [(0, .int .i64 vars), (1, .int .i64 ((c / 3 ^ k : Nat) : Int)), (5, .osl 1 (icells (ofP c k)) (ofP c k).length none), (6, .int .i64 ((k + 1 : Nat) : Int))]) (fun k => (k : Int) ≤ vars) (fun k => vars.toNat - k) 0 (ent_look ⟨Weak.of_eq rfl, Weak.of_eq (int_eq (by simp)), Weak.osl rfl rfl, Weak.of_eq rfl, trivial⟩) (by omega) (fun k hG => ?_)
 have hol := ofP_len c k
 have hdv : c / 3 ^ k ≤ c := Nat.div_le_self _ _
 have hdn : (0 : Int) ≤ (c : Int) / ((3 ^ k : Nat) : Int) := Int.ediv_nonneg (Int.natCast_nonneg _) (Int.natCast_nonneg _)
 refine a_seq ?_
 refine a_seq ?_
 refine a_region ?_
 refine rv (v := .int _ _) (v_move il nf) ?_
 refine rv (v := .int _ _) (v_move il nf) ?_
 refine rv (v := .bool _) (v_leq il il) ?_
 refine r_nil ?_
 refine a_cond rfl (fun ht10 => ?_) (fun ht10 => ?_)
 ·
  skip
  refine a_skip ?_
  refine a_seq ?_
  refine a_block ?_
  refine a_seq ?_
  refine a_seq ?_
  have hi : ((k + 1 : Nat) : Int) ≤ vars := (by simpa using ht10)
  refine a_region ?_
  refine rv (v := .int _ _) (v_move il nf) ?_
  refine rv (v := .int .i64 (((dgt c k) : Nat) : Int)) ((v_rem il il (fun _ => by omega)).cast (int_eq (by unfold dgt; omega))) ?_
  refine r_nil ?_
  refine a_block ?_
  refine a_seq ?_
  refine a_region ?_
  refine rv (v := .bool _) (v_eql il il) ?_
  refine rv (v := .bool _) (v_assign il nf) ?_
  refine r_nil ?_
  refine a_cond rfl (fun ht15 => ?_) (fun ht15 => ?_)
  ·
   skip
   have h1 : dgt c k = 1 := (by have h9 := of_decide_eq_true ht15; omega)
   refine a_region ?_
   refine rv (v := .rsl _ _ _ _ _) (v_move il nf) ?_
   refine rv (v := .int _ _) (v_move il nf) ?_
   refine rv (v := .int _ _) (v_neg il (fun _ => by omega)) ?_
   refine rn (v := .osl 1 (icells [-((k : Int) + 1)]) 1 (some 1)) (q_sliceLit (n := 1) (parts := [(0, .tmp 19)]) lt40 rfl rfl rfl rfl) ?_
   refine r_pre (ent_reloc_sl (t := 17) rfl rfl) ?_
   refine r_step rfl (o_append rfl ap40 rfl (by decide) (by decide) rfl (src_lit (.inl rfl) rfl rfl (ic_pureL _)) (ic_cell _) (by rw [icells_length]; omega) (by omega)) ?_
   refine rv (v := .rsl _ _ _ _ _) (v_assign il nf) ?_
   refine r_pre (ent_reloc_sl (t := 5) rfl rfl) ?_
   refine r_nil ?_
   try (have h2 : ¬ dgt c k = 2 := (by have h9 := of_decide_eq_false ht22; omega))
   refine a_region ?_
   refine rv (v := .int _ _) (v_move il nf) ?_
   refine rv (v := .int .i64 ((c / 3 ^ (k + 1) : Nat) : Int)) ((v_quo il il (fun _ => by omega)).cast (int_eq (by rw [Nat.pow_succ, ← Nat.div_div_eq_div_mul]; omega))) ?_
   refine rv (v := .int _ _) (v_assign il nf) ?_
   refine r_nil ?_
   refine a_region ?_
   refine rv (v := .int _ _) (v_move il nf) ?_
   refine rv (v := .int _ _) (v_add il il (fun _ => by omega)) ?_
   refine rv (v := .int _ _) (v_assign il nf) ?_
   refine r_nil ?_
   refine ⟨k + 1, ent_look ⟨Weak.of_eq rfl, Weak.rfl, Weak.osl (by rw [ofP, if_pos h1, icells_append] <;> rfl) (by rw [ofP, if_pos h1]; simp), Weak.of_eq (int_eq (by omega)), trivial⟩, by omega, by omega⟩
  ·
   skip
   refine a_seq ?_
   have h1 : ¬ dgt c k = 1 := (by have h9 := of_decide_eq_false ht15; omega)
   refine a_region ?_
   refine rv (v := .bool _) (v_eql il il) ?_
   refine rv (v := .bool _) (v_assign il nf) ?_
   refine r_nil ?_
   refine a_cond rfl (fun ht22 => ?_) (fun ht22 => ?_)
   ·
    skip
    have h2 : dgt c k = 2 := (by have h9 := of_decide_eq_true ht22; omega)
    refine a_region ?_
    refine rv (v := .rsl _ _ _ _ _) (v_move il nf) ?_
    refine rv (v := .int _ _) (v_move il nf) ?_
    refine rn (v := .osl 1 (icells [((k : Int) + 1)]) 1 (some 1)) (q_sliceLit (n := 1) (parts := [(0, .tmp 25)]) lt40 rfl rfl rfl rfl) ?_
    refine r_pre (ent_reloc_sl (t := 24) rfl rfl) ?_
    refine r_step rfl (o_append rfl ap40 rfl (by decide) (by decide) rfl (src_lit (.inl rfl) rfl rfl (ic_pureL _)) (ic_cell _) (by rw [icells_length]; omega) (by omega)) ?_
    refine rv (v := .rsl _ _ _ _ _) (v_assign il nf) ?_
    refine r_pre (ent_reloc_sl (t := 5) rfl rfl) ?_
    refine r_nil ?_
    try (have h2 : ¬ dgt c k = 2 := (by have h9 := of_decide_eq_false ht22; omega))
    refine a_region ?_
    refine rv (v := .int _ _) (v_move il nf) ?_
    refine rv (v := .int .i64 ((c / 3 ^ (k + 1) : Nat) : Int)) ((v_quo il il (fun _ => by omega)).cast (int_eq (by rw [Nat.pow_succ, ← Nat.div_div_eq_div_mul]; omega))) ?_
    refine rv (v := .int _ _) (v_assign il nf) ?_
    refine r_nil ?_
    refine a_region ?_
    refine rv (v := .int _ _) (v_move il nf) ?_
    refine rv (v := .int _ _) (v_add il il (fun _ => by omega)) ?_
    refine rv (v := .int _ _) (v_assign il nf) ?_
    refine r_nil ?_
    refine ⟨k + 1, ent_look ⟨Weak.of_eq rfl, Weak.rfl, Weak.osl (by rw [ofP, if_neg h1, if_pos h2, icells_append] <;> rfl) (by rw [ofP, if_neg h1, if_pos h2]; simp), Weak.of_eq (int_eq (by omega)), trivial⟩, by omega, by omega⟩
   ·
    skip
    refine a_skip ?_
    try (have h2 : ¬ dgt c k = 2 := (by have h9 := of_decide_eq_false ht22; omega))
    refine a_region ?_
    refine rv (v := .int _ _) (v_move il nf) ?_
    refine rv (v := .int .i64 ((c / 3 ^ (k + 1) : Nat) : Int)) ((v_quo il il (fun _ => by omega)).cast (int_eq (by rw [Nat.pow_succ, ← Nat.div_div_eq_div_mul]; omega))) ?_
    refine rv (v := .int _ _) (v_assign il nf) ?_
    refine r_nil ?_
    refine a_region ?_
    refine rv (v := .int _ _) (v_move il nf) ?_
    refine rv (v := .int _ _) (v_add il il (fun _ => by omega)) ?_
    refine rv (v := .int _ _) (v_assign il nf) ?_
    refine r_nil ?_
    refine ⟨k + 1, ent_look ⟨Weak.of_eq rfl, Weak.rfl, Weak.osl (by rw [ofP, if_neg h1, if_neg h2, List.append_nil]) (by rw [ofP, if_neg h1, if_neg h2, List.append_nil]), Weak.of_eq (int_eq (by omega)), trivial⟩, by omega, by omega⟩
 ·
  skip
  refine a_exit ?_
  refine a_seq ?_
  refine a_region ?_
  refine rv (v := .rsl _ _ _ _ _) (v_move il nf) ?_
  refine rv (v := .rsl _ _ _ _ _) (v_assign il nf) ?_
  refine r_pre (ent_reloc_sl (t := 4) rfl rfl) ?_
  refine r_nil ?_
  refine a_ret ?_
  refine ret1 Tryz.results35 (by decide) (by decide) (Weak.osl ?_ ?_) rfl Leaves.nil
  all_goals (rw [show vars.toNat = k by simp at ht10; omega])
end Go.Av
namespace Go.Av
open Go Go.Proofs Go.Sort
set_option maxRecDepth 10000
theorem arp88 : arrPl Tryz.prog 88 = some ([.int .i64 0, .int .i64 0, .int .i64 0], 1) := by kernel_rfl
theorem az88 : arrSize Tryz.prog 88 = some (3, 1) := by kernel_rfl
theorem fo72_2 : fieldOff Tryz.prog 72 2 = some 3 := by kernel_rfl
theorem ta88 : tyAgg Tryz.prog 88 = some (true, 3) := by kernel_rfl
theorem zc88 : zeroCells Tryz.prog 88 = some [.int .i64 0, .int .i64 0, .int .i64 0] := by kernel_rfl
theorem best_c (a b c : Int) : ACall Tryz.prog 66 [.agg [.int .i64 a, .int .i64 b, .int .i64 c]] [] (.int .i64 (max3 a b c)) [] := by
 refine ACall.intro Tryz.func66 rfl (N := 10) rfl (by decide) (by simp) ?_
 refine a_seq ?_
 refine a_region ?_
 refine rn (v := .op [.int _ _, .int _ _, .int _ _]) (q_box il rfl rfl) ?_
 refine rv (v := .int _ _) (v_assign il nf) ?_
 refine r_nil ?_
 refine a_seq ?_
 refine a_region ?_
 refine rv (v := .rp _ _) (v_indexAddr_rpa az88 il il (fun _ => by decide)) ?_
 refine rv (v := .int _ _) (v_load_rp1 ta3 il rfl (fun _ => rfl) rfl) ?_
 refine rv (v := .rp _ _) (v_indexAddr_rpa az88 il il (fun _ => by decide)) ?_
 refine rv (v := .int _ _) (v_load_rp1 ta3 il rfl (fun _ => rfl) rfl) ?_
 refine rv (v := .rp _ _) (v_indexAddr_rpa az88 il il (fun _ => by decide)) ?_
 refine rv (v := .int _ _) (v_load_rp1 ta3 il rfl (fun _ => rfl) rfl) ?_
 refine rv (v := .int _ _) (v_max3 il il il) ?_
 refine rv (v := .int _ _) (v_assign il nf) ?_
 refine r_nil ?_
 refine a_ret ?_
 refine ret1 Tryz.results66 (by decide) (by decide) (Weak.of_eq (int_eq ?_)) rfl Leaves.nil
 rfl
theorem pointsI_c (vars : Int) (L : List (List Int)) (O : List Bool) (P S H : List Int) (c : Nat) (v : Int) (hn : (3 ^ vars.toNat) ≤ 729) (hv : 1 ≤ v ∧ v ≤ 6) (hP : P.length = (3 ^ vars.toNat)) (hno : cNo c v < (3 ^ vars.toNat)) (hye : cYes c v < (3 ^ vars.toNat)) (hc : c < (3 ^ vars.toNat)) : ACall Tryz.prog 67 [.pp [.int .i64 vars, .sl (sls L) L.length, .sl (blcells O) (3 ^ vars.toNat), .sl (icells P) (3 ^ vars.toNat), .sl (icells S) (3 ^ vars.toNat), .sl (icells H) (3 ^ vars.toNat)] 0, .int .i64 ((c : Nat) : Int), .int .i64 v] [] (.agg [.int .i64 (w64 (1 + min (gd P (cNo c v)) (gd P (cYes c v)))), .int .i64 (gd P (cNo c v)), .int .i64 (gd P (cYes c v))]) [] := by
 have hpb := pow6k (k := ((v - 1).toNat)) (by omega)
 refine ACall.intro Tryz.func67 rfl (N := 39) rfl (by decide) (by simp) ?_
 refine a_seq ?_
 refine a_region ?_
 refine rn (v := .op [.int _ _, .int _ _, .int _ _]) (q_alloc zc88) ?_
 refine r_nil ?_
 refine a_seq ?_
 refine a_region_any mixed (by kernel_rfl) ?_
 refine yv (v := .pp _ _) (v_move il nf) ?_
 refine yv (v := .pp _ _) (v_nilCheck il rfl) ?_
 refine yv (v := .pp _ _) (v_fieldAddr_pp fo72_2 il) ?_
 refine yv (v := .sl _ _) (v_load_pp ta40 il (fun _ => rfl) rfl) ?_
 refine yv (v := .int _ _) (v_move il nf) ?_
 refine yv (v := .int _ _) (v_move il nf) ?_
 refine yv (v := .int .i64 ((((v - 1).toNat) : Nat) : Int)) ((v_sub il il (fun _ => by omega)).cast (int_eq (by omega))) ?_
 refine y_new (v := .int _ _) (q_call (vs := [.int _ _]) (args := [.int .i64 _]) hb42 ⟨.inl rfl, trivial⟩ rfl (fun hA => pow3_c ((v - 1).toNat) (by omega)) rfl rfl) rfl rfl (by decide) (by kernel_rfl) ?_
 refine yv (v := .int .i64 (((cNo c v) : Nat) : Int)) ((v_add il il (fun _ => by omega)).cast (int_eq (by unfold cNo; push_cast; rfl))) ?_
 refine yv (v := .pp _ _) (v_indexAddr_sl es40 il il (fun _ => ⟨by omega, by omega, icells_ne (show cNo c v < P.length by omega)⟩)) ?_
 refine yv (v := .int .i64 (gd P (cNo c v))) (v_load_pp ta3 il (fun _ => by rw [Nat.mul_one]; exact icells_get (gd_get (by omega))) rfl) ?_
 refine yv (v := .pp _ _) (v_move il nf) ?_
 refine yv (v := .pp _ _) (v_nilCheck il rfl) ?_
 refine yv (v := .pp _ _) (v_fieldAddr_pp fo72_2 il) ?_
 refine yv (v := .sl _ _) (v_load_pp ta40 il (fun _ => rfl) rfl) ?_
 refine yv (v := .int _ _) (v_move il nf) ?_
 refine yv (v := .int _ _) (v_move il nf) ?_
 refine yv (v := .int .i64 ((((v - 1).toNat) : Nat) : Int)) ((v_sub il il (fun _ => by omega)).cast (int_eq (by omega))) ?_
 refine y_new (v := .int _ _) (q_call (vs := [.int _ _]) (args := [.int .i64 _]) hb42 ⟨.inl rfl, trivial⟩ rfl (fun hA => pow3_c ((v - 1).toNat) (by omega)) rfl rfl) rfl rfl (by decide) (by kernel_rfl) ?_
 refine yv (v := .int _ _) (v_mul il il (fun _ => by omega)) ?_
 refine yv (v := .int .i64 (((cYes c v) : Nat) : Int)) ((v_add il il (fun _ => by omega)).cast (int_eq (by unfold cYes; push_cast; rfl))) ?_
 refine yv (v := .pp _ _) (v_indexAddr_sl es40 il il (fun _ => ⟨by omega, by omega, icells_ne (show cYes c v < P.length by omega)⟩)) ?_
 refine yv (v := .int .i64 (gd P (cYes c v))) (v_load_pp ta3 il (fun _ => by rw [Nat.mul_one]; exact icells_get (gd_get (by omega))) rfl) ?_
 refine yv (v := .int _ _) (v_assign il nf) ?_
 refine yv (v := .int _ _) (v_assign il nf) ?_
 refine y_nil ?_
 refine a_seq ?_
 refine a_region ?_
 refine rv (v := .int _ _) (v_move il nf) ?_
 refine rv (v := .int _ _) (v_move il nf) ?_
 refine rv (v := .int _ _) (v_min il il) ?_
 refine rv (v := .int _ _) (v_addW il il) ?_
 refine rv (v := .int _ _) (v_move il nf) ?_
 refine rv (v := .int _ _) (v_move il nf) ?_
 refine rv (v := .agg [.int _ _, .int _ _, .int _ _]) (v_buildA arp88 rfl rfl) ?_
 refine r_step rfl (o_store (v := .agg [.int _ _, .int _ _, .int _ _]) (y' := .op [.int _ _, .int _ _, .int _ _]) rfl rfl ta88 il il rfl rfl rfl rfl rfl rfl (Nat.le_of_ble_eq_true rfl) (by decide) rfl rfl) ?_
 refine r_nil ?_
 refine a_ret ?_
 refine retC1 (r := .cell 6 88) Tryz.results67 ⟨by decide, _, cell_agg rfl ta88, rfl⟩ (by decide) (Weak.of_eq (agg_eq (l3_eq (int_eq ?_) (int_eq ?_) (int_eq ?_)))) rfl Leaves.nil
 all_goals rfl
end Go.Av
namespace Go.Av
open Go Go.Proofs Go.Sort
set_option maxRecDepth 10000
theorem es70 : elemSize Tryz.prog 70 = some 1 := by kernel_rfl
theorem fo72_0 : fieldOff Tryz.prog 72 0 = some 0 := by kernel_rfl
theorem fo72_1 : fieldOff Tryz.prog 72 1 = some 2 := by kernel_rfl
theorem fo72_3 : fieldOff Tryz.prog 72 3 = some 4 := by kernel_rfl
theorem fo72_4 : fieldOff Tryz.prog 72 4 = some 5 := by kernel_rfl
theorem hb46 : hasBody Tryz.prog 46 = true := by kernel_rfl
theorem hb64 : hasBody Tryz.prog 64 = true := by kernel_rfl
theorem hb66 : hasBody Tryz.prog 66 = true := by kernel_rfl
theorem hb67 : hasBody Tryz.prog 67 = true := by kernel_rfl
theorem ta70 : tyAgg Tryz.prog 70 = some (false, 1) := by kernel_rfl
theorem fill_c (vars : Int) (L : List (List Int)) (O : List Bool) (P S H : List Int) (c : Nat) (hcl : ∀ i, i < L.length → clB vars (gl L i) = true) (hL : L.length ≤ 1048576) (hv : 0 ≤ vars ∧ vars ≤ 6) (hO : O.length = (3 ^ vars.toNat)) (hP : P.length = (3 ^ vars.toNat)) (hS : S.length = (3 ^ vars.toNat)) (hH : H.length = (3 ^ vars.toNat)) (hc : c < (3 ^ vars.toNat)) : ACall Tryz.prog 43 [.rp (INH, []) 0, .int .i64 ((c : Nat) : Int)] [.op [.int .i64 vars, .sl (sls L) L.length, .osl 1 (blcells O) (3 ^ vars.toNat) none, .osl 1 (icells P) (3 ^ vars.toNat) none, .osl 1 (icells S) (3 ^ vars.toNat) none, .osl 1 (icells H) (3 ^ vars.toNat) none]] (.tup []) [.op [.int .i64 vars, .sl (sls L) L.length, .osl 1 (blcells (if (conf L (ofP c vars.toNat)) then O.set c true else O)) (3 ^ vars.toNat) none, .osl 1 (icells (filS (zpI c) (conf L (ofP c vars.toNat)) c (opensL vars (ofP c vars.toNat)) none P)) (3 ^ vars.toNat) none, .osl 1 (icells (filS (zSz c) (conf L (ofP c vars.toNat)) c (opensL vars (ofP c vars.toNat)) (some 1) S)) (3 ^ vars.toNat) none, .osl 1 (icells (filS (zhI c) (conf L (ofP c vars.toNat)) c (opensL vars (ofP c vars.toNat)) none H)) (3 ^ vars.toNat) none]] := by
 have hn := (pow36 hv).2
 have hcA := ofP_cl (vars := vars) (by omega) c
 have hlA := clB_len hcA
 have hcode : codeA (ofP c vars.toNat) = c := code_of hc
 have hol := opens_len (vars := vars) (by omega) (ofP c vars.toNat)
 have hfl := falP_len L (ofP c vars.toNat) L.length
 refine ACall.intro Tryz.func43 rfl (N := 161) rfl (by decide) (by simp) ?_
 refine a_seq ?_
 refine a_region ?_
 refine rv (v := .rp _ _) (v_move il nf) ?_
 refine rv (v := .rp _ _) (v_nilCheck il rfl) ?_
 refine rv (v := .rp _ _) (v_fieldAddr_rp fo72_0 il) ?_
 refine rv (v := .rp _ _) (v_fieldAddr_rp fo29_0 il) ?_
 refine rv (v := .int _ _) (v_load_rp1 ta3 il rfl (fun _ => rfl) rfl) ?_
 refine rv (v := .int _ _) (v_move il nf) ?_
 refine rn (v := .osl _ _ _ _) (q_call (vs := [.int _ _, .int _ _]) (args := [.int .i64 _, .int .i64 _]) hb64 ⟨il, il, trivial⟩ rfl (fun hA => ofI_c vars c hv (by omega)) (ic_noSh _) (ic_noRef _)) ?_
 refine rv (v := .rsl _ _ _ _ _) (v_assign il nf) ?_
 refine r_pre (ent_reloc_sl (t := 4) rfl rfl) ?_
 refine r_nil ?_
 refine a_seq ?_
 refine a_seq ?_
 refine a_region ?_
 refine rv (v := .rp _ _) (v_move il nf) ?_
 refine rv (v := .rp _ _) (v_nilCheck il rfl) ?_
 refine rv (v := .rp _ _) (v_fieldAddr_rp fo72_0 il) ?_
 refine rv (v := .rp _ _) (v_fieldAddr_rp fo29_1 il) ?_
 refine rv (v := .sl _ _) (v_load_rp1 ta22 il rfl (fun _ => rfl) rfl) ?_
 refine rv (v := .rsl _ _ _ _ _) (v_move il nf) ?_
 refine rn (v := .osl _ _ _ _) (q_call (vs := [.sl _ _, .rsl _ _ _ _ _]) (args := [.sl _ _, .sl _ _]) hb65 ⟨il, il, trivial⟩ (l2_eq rfl (sl_sh (ic_pure _))) (fun hA => iFal_c vars L (ofP c vars.toNat) hcl hL (by omega)) (ic_noSh _) (ic_noRef _)) ?_
 refine rv (v := .int _ _) (v_len_rsl sl40 il) ?_
 refine rv (v := .bool _) (v_gtr il il) ?_
 refine r_nil ?_
 refine a_cond rfl (fun ht27 => ?_) (fun ht27 => ?_)
 ·
  skip
  refine a_seq ?_
  have hcf : (conf L (ofP c vars.toNat)) = true := (by rw [conf_fal]; simpa using ht27)
  have hp1 : c * 1 + 1 ≤ (blcells O).length := (by rw [bl_len]; omega)
  have hs1 : (blcells O).set (c * 1) (.bool true) = blcells (O.set c true) := (by rw [Nat.mul_one, bl_set])
  have hp2 : c * 1 + 1 ≤ (icells S).length := (by rw [icells_length]; omega)
  have hs2 : (icells S).set (c * 1) (.int .i64 1) = icells (S.set c 1) := (by rw [Nat.mul_one, icells_set])
  refine a_region ?_
  refine rv (v := .rp _ _) (v_move il nf) ?_
  refine rv (v := .rp _ _) (v_nilCheck il rfl) ?_
  refine rv (v := .rp _ _) (v_fieldAddr_rp fo72_1 il) ?_
  refine rv (v := .rsl _ _ _ _ _) (v_load_rp (c := .osl _ _ _ _) ta70 il rfl (fun _ => rfl)) ?_
  refine rv (v := .int _ _) (v_move il nf) ?_
  refine rv (v := .rp _ _) (v_indexAddr_rsl0 es70 il il (fun _ => by omega)) ?_
  refine r_step rfl (o_store (v := .bool _) (y' := .op [.int _ _, .sl _ _, .osl _ _ _ _, .osl _ _ _ _, .osl _ _ _ _, .osl _ _ _ _]) rfl rfl ta4 il il rfl rfl rfl rfl rfl rfl hp1 (by decide) rfl (congrArg (fun c => AV.op [.int .i64 vars, .sl (sls L) L.length, AV.osl 1 c (3 ^ vars.toNat) none, AV.osl 1 _ (3 ^ vars.toNat) none, AV.osl 1 _ (3 ^ vars.toNat) none, AV.osl 1 _ (3 ^ vars.toNat) none]) hs1)) ?_
  refine r_nil ?_
  refine a_seq ?_
  refine a_region ?_
  refine rv (v := .rp _ _) (v_move il nf) ?_
  refine rv (v := .rp _ _) (v_nilCheck il rfl) ?_
  refine rv (v := .rp _ _) (v_fieldAddr_rp fo72_3 il) ?_
  refine rv (v := .rsl _ _ _ _ _) (v_load_rp (c := .osl _ _ _ _) ta40 il rfl (fun _ => rfl)) ?_
  refine rv (v := .int _ _) (v_move il nf) ?_
  refine rv (v := .rp _ _) (v_indexAddr_rsl0 es40 il il (fun _ => by omega)) ?_
  refine r_step rfl (o_store (v := .int _ _) (y' := .op [.int _ _, .sl _ _, .osl _ _ _ _, .osl _ _ _ _, .osl _ _ _ _, .osl _ _ _ _]) rfl rfl ta3 il il rfl rfl rfl rfl rfl rfl hp2 (by decide) rfl (congrArg (fun c => AV.op [.int .i64 vars, .sl (sls L) L.length, AV.osl 1 _ (3 ^ vars.toNat) none, AV.osl 1 _ (3 ^ vars.toNat) none, AV.osl 1 c (3 ^ vars.toNat) none, AV.osl 1 _ (3 ^ vars.toNat) none]) hs2)) ?_
  refine r_nil ?_
  refine a_ret ?_
  refine ret0_look Tryz.results43 (by decide) ?_ rfl
  exact Weak.of_eq (by rw [hcf]; rfl)
 ·
  skip
  refine a_skip ?_
  refine a_seq ?_
  have hcf : (conf L (ofP c vars.toNat)) = false := (by rw [conf_fal]; simpa using ht27)
  refine a_region ?_
  refine rv (v := .rp _ _) (v_move il nf) ?_
  refine rv (v := .rp _ _) (v_nilCheck il rfl) ?_
  refine rv (v := .rp _ _) (v_fieldAddr_rp fo72_0 il) ?_
  refine rv (v := .rp _ _) (v_fieldAddr_rp fo29_0 il) ?_
  refine rv (v := .int _ _) (v_load_rp1 ta3 il rfl (fun _ => rfl) rfl) ?_
  refine rv (v := .rsl _ _ _ _ _) (v_move il nf) ?_
  refine rn (v := .sl _ _) (QSem.cast (q_callZ (vs := [.int _ _, .rsl _ _ _ _ _]) (args := [.int .i64 _, .sl _ _]) hb46 ⟨il, il, trivial⟩ (l2_eq rfl (sl_sh (ic_pure _))) (fun hA => openVars_c vars (ofP c vars.toNat) (by omega) (by omega)) (ic_noSh _) (ic_noRef _)) (sl_shZ (ic_pure _))) ?_
  refine rv (v := .int _ _) (v_len_sl sl40 il) ?_
  refine rv (v := .int _ _) (v_move il nf) ?_
  refine r_nil ?_
  refine a_block ?_
  refine a_loop (X := Nat) (fun k => look [(0, .rp (INH, []) 0), (1, .int .i64 ((c : Nat) : Int)), (46, .sl (icells (opensL vars (ofP c vars.toNat))) (opensL vars (ofP c vars.toNat)).length), (47, .int .i64 (((opensL vars (ofP c vars.toNat)).length : Nat) : Int)), (48, .int .i64 ((k : Nat) : Int)), (INH, .op [.int .i64 vars, .sl (sls L) L.length, .osl 1 (blcells O) (3 ^ vars.toNat) none, .osl 1 (icells (flF (zpI c) c P ((opensL vars (ofP c vars.toNat)).take k)).2) (3 ^ vars.toNat) none, .osl 1 (icells (flF (zSz c) c S ((opensL vars (ofP c vars.toNat)).take k)).2) (3 ^ vars.toNat) none, .osl 1 (icells (flF (zhI c) c H ((opensL vars (ofP c vars.toNat)).take k)).2) (3 ^ vars.toNat) none])]) (fun k => k ≤ (opensL vars (ofP c vars.toNat)).length) (fun k => (opensL vars (ofP c vars.toNat)).length - k) 0 (ent_look ⟨Weak.of_eq rfl, Weak.of_eq rfl, Weak.of_eq rfl, Weak.of_eq rfl, Weak.of_eq rfl, Weak.of_eq rfl, trivial⟩) (Nat.zero_le _) (fun k hG => ?_)
  refine a_seq ?_
  refine a_region ?_
  refine rv (v := .bool _) (v_lss il il) ?_
  refine r_nil ?_
  refine a_seq ?_
  refine a_cond rfl (fun ht49 => ?_) (fun ht49 => ?_)
  ·
   skip
   refine a_skip ?_
   refine a_seq ?_
   refine a_block ?_
   refine a_seq ?_
   have hk : k < (opensL vars (ofP c vars.toNat)).length := (by simp at ht49; omega)
   have hov := opens_gd hk
   have hcn : cNo c (gd (opensL vars (ofP c vars.toNat)) k) < (3 ^ vars.toNat) ∧ cYes c (gd (opensL vars (ofP c vars.toNat)) k) < (3 ^ vars.toNat) := (by have h9 := cNo_lt hcA hov.1 hov.2; rw [hcode] at h9; exact h9)
   have hpb := pow6k (k := (((gd (opensL vars (ofP c vars.toNat)) k) - 1).toNat)) (by omega)
   have hlP : (flF (zpI c) c P ((opensL vars (ofP c vars.toNat)).take k)).2.length = (3 ^ vars.toNat) := (by rw [flF_length]; exact hP)
   have hlS : (flF (zSz c) c S ((opensL vars (ofP c vars.toNat)).take k)).2.length = (3 ^ vars.toNat) := (by rw [flF_length]; exact hS)
   have hlH : (flF (zhI c) c H ((opensL vars (ofP c vars.toNat)).take k)).2.length = (3 ^ vars.toNat) := (by rw [flF_length]; exact hH)
   have hp3 : c * 1 + 1 ≤ (icells (flF (zpI c) c P ((opensL vars (ofP c vars.toNat)).take k)).2).length := (by rw [icells_length]; omega)
   have hs3 : (icells (flF (zpI c) c P ((opensL vars (ofP c vars.toNat)).take k)).2).set (c * 1) (.int .i64 (zpI c (flF (zpI c) c P ((opensL vars (ofP c vars.toNat)).take k)).2 (gd (opensL vars (ofP c vars.toNat)) k))) = icells ((flF (zpI c) c P ((opensL vars (ofP c vars.toNat)).take k)).2.set c (zpI c (flF (zpI c) c P ((opensL vars (ofP c vars.toNat)).take k)).2 (gd (opensL vars (ofP c vars.toNat)) k))) := (by rw [Nat.mul_one, icells_set])
   have hp4 : c * 1 + 1 ≤ (icells (flF (zSz c) c S ((opensL vars (ofP c vars.toNat)).take k)).2).length := (by rw [icells_length]; omega)
   have hs4 : (icells (flF (zSz c) c S ((opensL vars (ofP c vars.toNat)).take k)).2).set (c * 1) (.int .i64 (zSz c (flF (zSz c) c S ((opensL vars (ofP c vars.toNat)).take k)).2 (gd (opensL vars (ofP c vars.toNat)) k))) = icells ((flF (zSz c) c S ((opensL vars (ofP c vars.toNat)).take k)).2.set c (zSz c (flF (zSz c) c S ((opensL vars (ofP c vars.toNat)).take k)).2 (gd (opensL vars (ofP c vars.toNat)) k))) := (by rw [Nat.mul_one, icells_set])
   have hp5 : c * 1 + 1 ≤ (icells (flF (zhI c) c H ((opensL vars (ofP c vars.toNat)).take k)).2).length := (by rw [icells_length]; omega)
   have hs5 : (icells (flF (zhI c) c H ((opensL vars (ofP c vars.toNat)).take k)).2).set (c * 1) (.int .i64 (zhI c (flF (zhI c) c H ((opensL vars (ofP c vars.toNat)).take k)).2 (gd (opensL vars (ofP c vars.toNat)) k))) = icells ((flF (zhI c) c H ((opensL vars (ofP c vars.toNat)).take k)).2.set c (zhI c (flF (zhI c) c H ((opensL vars (ofP c vars.toNat)).take k)).2 (gd (opensL vars (ofP c vars.toNat)) k))) := (by rw [Nat.mul_one, icells_set])
   refine a_region ?_
   refine rv (v := .int _ _) (v_move il nf) ?_
   refine rv (v := .pp _ _) (v_indexAddr_sl es40 il il (fun _ => ⟨by omega, by omega, icells_ne hk⟩)) ?_
   refine rv (v := .int .i64 (gd (opensL vars (ofP c vars.toNat)) k)) (v_load_pp ta3 il (fun _ => by rw [Nat.mul_one]; exact icells_get (gd_get hk)) rfl) ?_
   refine rv (v := .int _ _) (v_assign il nf) ?_
   refine rv (v := .int _ _) (v_assign il nf) ?_
   refine r_nil ?_
   refine a_seq ?_
   refine a_region ?_
   refine rv (v := .int _ _) (v_move il nf) ?_
   refine rv (v := .int _ _) (v_move il nf) ?_
   refine rv (v := .int .i64 (((((gd (opensL vars (ofP c vars.toNat)) k) - 1).toNat) : Nat) : Int)) ((v_sub il il (fun _ => by omega)).cast (int_eq (by omega))) ?_
   refine rn (v := .int _ _) (q_call (vs := [.int _ _]) (args := [.int .i64 _]) hb42 ⟨il, trivial⟩ rfl (fun hA => pow3_c (((gd (opensL vars (ofP c vars.toNat)) k) - 1).toNat) (by omega)) rfl rfl) ?_
   refine rv (v := .int .i64 (((cNo c (gd (opensL vars (ofP c vars.toNat)) k)) : Nat) : Int)) ((v_add il il (fun _ => by omega)).cast (int_eq (by unfold cNo; push_cast; rfl))) ?_
   refine rv (v := .int _ _) (v_move il nf) ?_
   refine rv (v := .int _ _) (v_move il nf) ?_
   refine rv (v := .int .i64 (((((gd (opensL vars (ofP c vars.toNat)) k) - 1).toNat) : Nat) : Int)) ((v_sub il il (fun _ => by omega)).cast (int_eq (by omega))) ?_
   refine rn (v := .int _ _) (q_call (vs := [.int _ _]) (args := [.int .i64 _]) hb42 ⟨il, trivial⟩ rfl (fun hA => pow3_c (((gd (opensL vars (ofP c vars.toNat)) k) - 1).toNat) (by omega)) rfl rfl) ?_
   refine rv (v := .int _ _) (v_mul il il (fun _ => by omega)) ?_
   refine rv (v := .int .i64 (((cYes c (gd (opensL vars (ofP c vars.toNat)) k)) : Nat) : Int)) ((v_add il il (fun _ => by omega)).cast (int_eq (by unfold cYes; push_cast; rfl))) ?_
   refine rv (v := .int _ _) (v_assign il nf) ?_
   refine rv (v := .int _ _) (v_assign il nf) ?_
   refine r_nil ?_
   refine a_seq ?_
   refine a_region_any mixed (by kernel_rfl) ?_
   refine yv (v := .rp _ _) (v_move il nf) ?_
   refine yv (v := .int _ _) (v_move il nf) ?_
   refine yv (v := .int _ _) (v_move il nf) ?_
   refine y_new (v := .agg [.int _ _, .int _ _, .int _ _]) (q_call (vs := [.rp _ _, .int _ _, .int _ _]) (args := [.pp _ _, .int .i64 _, .int .i64 _]) hb67 ⟨.inl rfl, .inl rfl, .inl rfl, trivial⟩ (l3_eq (by show AV.pp (shL [_, _, _, _, _, _]) 0 = _; simp only [shL, sh, shL_id _ (bl_pure _).1 (bl_pure _).2, shL_id _ (ic_pure _).1 (ic_pure _).2, shL_id _ (sls_pure _).1 (sls_pure _).2]) rfl rfl) (fun hA => pointsI_c vars L O (flF (zpI c) c P ((opensL vars (ofP c vars.toNat)).take k)).2 (flF (zSz c) c S ((opensL vars (ofP c vars.toNat)).take k)).2 (flF (zhI c) c H ((opensL vars (ofP c vars.toNat)).take k)).2 c (gd (opensL vars (ofP c vars.toNat)) k) hn (by omega) hlP hcn.1 hcn.2 hc) rfl rfl) rfl rfl (by decide) (by kernel_rfl) ?_
   refine y_new (v := .int .i64 (zpI c (flF (zpI c) c P ((opensL vars (ofP c vars.toNat)).take k)).2 (gd (opensL vars (ofP c vars.toNat)) k))) (QSem.cast (q_call (vs := [.agg [.int _ _, .int _ _, .int _ _]]) (args := [.agg [.int .i64 _, .int .i64 _, .int .i64 _]]) hb66 ⟨.inl rfl, trivial⟩ rfl (fun hA => best_c _ _ _) rfl rfl) (int_eq rfl)) rfl rfl (by decide) (by kernel_rfl) ?_
   refine yv (v := .rp _ _) (v_move il nf) ?_
   refine yv (v := .rp _ _) (v_nilCheck il rfl) ?_
   refine yv (v := .rp _ _) (v_fieldAddr_rp fo72_3 il) ?_
   refine yv (v := .rsl _ _ _ _ _) (v_load_rp (c := .osl _ _ _ _) ta40 il rfl (fun _ => rfl)) ?_
   refine yv (v := .int _ _) (v_move il nf) ?_
   refine yv (v := .rp _ _) (v_indexAddr_rsl0 es40 il il (fun _ => by omega)) ?_
   refine yv (v := .int .i64 (gd (flF (zSz c) c S ((opensL vars (ofP c vars.toNat)).take k)).2 (cNo c (gd (opensL vars (ofP c vars.toNat)) k)))) (v_load_rp1 ta3 il rfl (fun _ => by rw [Nat.mul_one]; exact icells_get (gd_get (by omega))) rfl) ?_
   refine yv (v := .rp _ _) (v_move il nf) ?_
   refine yv (v := .rp _ _) (v_nilCheck il rfl) ?_
   refine yv (v := .rp _ _) (v_fieldAddr_rp fo72_3 il) ?_
   refine yv (v := .rsl _ _ _ _ _) (v_load_rp (c := .osl _ _ _ _) ta40 il rfl (fun _ => rfl)) ?_
   refine yv (v := .int _ _) (v_move il nf) ?_
   refine yv (v := .rp _ _) (v_indexAddr_rsl0 es40 il il (fun _ => by omega)) ?_
   refine yv (v := .int .i64 (gd (flF (zSz c) c S ((opensL vars (ofP c vars.toNat)).take k)).2 (cYes c (gd (opensL vars (ofP c vars.toNat)) k)))) (v_load_rp1 ta3 il rfl (fun _ => by rw [Nat.mul_one]; exact icells_get (gd_get (by omega))) rfl) ?_
   refine yv (v := .int .i64 (zSz c (flF (zSz c) c S ((opensL vars (ofP c vars.toNat)).take k)).2 (gd (opensL vars (ofP c vars.toNat)) k))) ((v_addW il il).cast (int_eq rfl)) ?_
   refine yv (v := .rp _ _) (v_move il nf) ?_
   refine yv (v := .rp _ _) (v_nilCheck il rfl) ?_
   refine yv (v := .rp _ _) (v_fieldAddr_rp fo72_4 il) ?_
   refine yv (v := .rsl _ _ _ _ _) (v_load_rp (c := .osl _ _ _ _) ta40 il rfl (fun _ => rfl)) ?_
   refine yv (v := .int _ _) (v_move il nf) ?_
   refine yv (v := .rp _ _) (v_indexAddr_rsl0 es40 il il (fun _ => by omega)) ?_
   refine yv (v := .int .i64 (gd (flF (zhI c) c H ((opensL vars (ofP c vars.toNat)).take k)).2 (cNo c (gd (opensL vars (ofP c vars.toNat)) k)))) (v_load_rp1 ta3 il rfl (fun _ => by rw [Nat.mul_one]; exact icells_get (gd_get (by omega))) rfl) ?_
   refine yv (v := .rp _ _) (v_move il nf) ?_
   refine yv (v := .rp _ _) (v_nilCheck il rfl) ?_
   refine yv (v := .rp _ _) (v_fieldAddr_rp fo72_4 il) ?_
   refine yv (v := .rsl _ _ _ _ _) (v_load_rp (c := .osl _ _ _ _) ta40 il rfl (fun _ => rfl)) ?_
   refine yv (v := .int _ _) (v_move il nf) ?_
   refine yv (v := .rp _ _) (v_indexAddr_rsl0 es40 il il (fun _ => by omega)) ?_
   refine yv (v := .int .i64 (gd (flF (zhI c) c H ((opensL vars (ofP c vars.toNat)).take k)).2 (cYes c (gd (opensL vars (ofP c vars.toNat)) k)))) (v_load_rp1 ta3 il rfl (fun _ => by rw [Nat.mul_one]; exact icells_get (gd_get (by omega))) rfl) ?_
   refine yv (v := .int _ _) (v_max il il) ?_
   refine yv (v := .int .i64 (zhI c (flF (zhI c) c H ((opensL vars (ofP c vars.toNat)).take k)).2 (gd (opensL vars (ofP c vars.toNat)) k))) ((v_addW il il).cast (int_eq rfl)) ?_
   refine yv (v := .int _ _) (v_assign il nf) ?_
   refine yv (v := .int _ _) (v_assign il nf) ?_
   refine yv (v := .int _ _) (v_assign il nf) ?_
   refine y_nil ?_
   refine a_seq ?_
   refine a_seq ?_
   refine a_pre (ent_look (L := [(0, .rp _ _), (1, .int _ _), (5, .int _ _), (9, .int _ _), (10, .int _ _), (11, .int _ _), (46, .sl _ _), (47, .int _ _), (48, .int _ _), (INH, .op [.int _ _, .sl _ _, .osl _ _ _ _, .osl _ _ _ _, .osl _ _ _ _, .osl _ _ _ _])]) ⟨Weak.rfl, Weak.rfl, Weak.rfl, Weak.rfl, Weak.rfl, Weak.rfl, Weak.rfl, Weak.rfl, Weak.rfl, Weak.rfl, trivial⟩) ?_
   refine a_region ?_
   refine rv (v := .int _ _) (v_move il nf) ?_
   refine rv (v := .bool _) (v_eql il il) ?_
   refine rv (v := .bool _) (v_move il nf) ?_
   refine r_gval (v := .int _ _) (v_move il nf) rfl rfl rfl (by decide) (.inl ⟨_, rfl, rfl⟩) rfl (by decide) ?_
   refine r_gval (v := .rp _ _) (v_move il nf) rfl rfl rfl (by decide) (.inl ⟨_, rfl, rfl⟩) rfl (by decide) ?_
   refine r_gval (v := .rp _ _) (v_nilCheck (.inr ⟨_, rfl, fun h => h⟩) rfl) rfl rfl rfl (by decide) (.inl ⟨_, rfl, rfl⟩) rfl (by decide) ?_
   refine r_gval (v := .rp _ _) (v_fieldAddr_rp fo72_2 (.inr ⟨_, rfl, fun h => h⟩)) rfl rfl rfl (by decide) (.inl ⟨_, rfl, rfl⟩) rfl (by decide) ?_
   refine r_gval (v := .rsl _ _ _ _ _) (v_load_rp (c := .osl _ _ _ _) ta40 (.inr ⟨_, rfl, fun h => h⟩) rfl (fun _ => rfl)) rfl rfl rfl (by decide) (.inl ⟨_, rfl, rfl⟩) rfl (by decide) ?_
   refine r_gval (v := .int _ _) (v_move il nf) rfl rfl rfl (by decide) (.inl ⟨_, rfl, rfl⟩) rfl (by decide) ?_
   refine r_gval (v := .rp _ _) (v_indexAddr_rsl0 es40 (.inr ⟨_, rfl, fun h => h⟩) (.inr ⟨_, rfl, fun h => h⟩) (fun _ => by omega)) rfl rfl rfl (by decide) (.inl ⟨_, rfl, rfl⟩) rfl (by decide) ?_
   refine r_gval (v := .int .i64 (gd (flF (zpI c) c P ((opensL vars (ofP c vars.toNat)).take k)).2 c)) (v_load_rp1 ta3 (.inr ⟨_, rfl, fun h => h⟩) rfl (fun _ => by rw [Nat.mul_one]; exact icells_get (gd_get (by omega))) rfl) rfl rfl rfl (by decide) (.inl ⟨_, rfl, rfl⟩) rfl (by decide) ?_
   refine r_gval (v := .bool _) (v_lss (.inr ⟨_, rfl, fun h => h⟩) (.inr ⟨_, rfl, fun h => h⟩)) rfl rfl rfl (by decide) (.inl ⟨_, rfl, rfl⟩) rfl (by decide) ?_
   refine rv (v := .bool _) (v_pick (.inl rfl) (.inl rfl) (.inr ⟨_, rfl, fun h h2 => by simp_all⟩)) ?_
   refine r_nil ?_
   refine a_cond rfl (fun ht112 => ?_) (fun ht112 => ?_)
   ·
    skip
    refine a_region ?_
    refine rv (v := .rp _ _) (v_move il nf) ?_
    refine rv (v := .rp _ _) (v_nilCheck il rfl) ?_
    refine rv (v := .rp _ _) (v_fieldAddr_rp fo72_2 il) ?_
    refine rv (v := .rsl _ _ _ _ _) (v_load_rp (c := .osl _ _ _ _) ta40 il rfl (fun _ => rfl)) ?_
    refine rv (v := .int _ _) (v_move il nf) ?_
    refine rv (v := .int _ _) (v_move il nf) ?_
    refine rv (v := .rp _ _) (v_indexAddr_rsl0 es40 il il (fun _ => by omega)) ?_
    refine r_step rfl (o_store (v := .int _ _) (y' := .op [.int _ _, .sl _ _, .osl _ _ _ _, .osl _ _ _ _, .osl _ _ _ _, .osl _ _ _ _]) rfl rfl ta3 il il rfl rfl rfl rfl rfl rfl hp3 (by decide) rfl (congrArg (fun c => AV.op [.int .i64 vars, .sl (sls L) L.length, AV.osl 1 _ (3 ^ vars.toNat) none, AV.osl 1 c (3 ^ vars.toNat) none, AV.osl 1 _ (3 ^ vars.toNat) none, AV.osl 1 _ (3 ^ vars.toNat) none]) hs3)) ?_
    refine r_nil ?_
    refine a_seq ?_
    refine a_seq ?_
    refine a_region ?_
    refine rv (v := .int _ _) (v_move il nf) ?_
    refine rv (v := .bool _) (v_eql il il) ?_
    refine rv (v := .bool _) (v_move il nf) ?_
    refine r_gval (v := .int _ _) (v_move il nf) rfl rfl rfl (by decide) (.inl ⟨_, rfl, rfl⟩) rfl (by decide) ?_
    refine r_gval (v := .rp _ _) (v_move il nf) rfl rfl rfl (by decide) (.inl ⟨_, rfl, rfl⟩) rfl (by decide) ?_
    refine r_gval (v := .rp _ _) (v_nilCheck (.inr ⟨_, rfl, fun h => h⟩) rfl) rfl rfl rfl (by decide) (.inl ⟨_, rfl, rfl⟩) rfl (by decide) ?_
    refine r_gval (v := .rp _ _) (v_fieldAddr_rp fo72_3 (.inr ⟨_, rfl, fun h => h⟩)) rfl rfl rfl (by decide) (.inl ⟨_, rfl, rfl⟩) rfl (by decide) ?_
    refine r_gval (v := .rsl _ _ _ _ _) (v_load_rp (c := .osl _ _ _ _) ta40 (.inr ⟨_, rfl, fun h => h⟩) rfl (fun _ => rfl)) rfl rfl rfl (by decide) (.inl ⟨_, rfl, rfl⟩) rfl (by decide) ?_
    refine r_gval (v := .int _ _) (v_move il nf) rfl rfl rfl (by decide) (.inl ⟨_, rfl, rfl⟩) rfl (by decide) ?_
    refine r_gval (v := .rp _ _) (v_indexAddr_rsl0 es40 (.inr ⟨_, rfl, fun h => h⟩) (.inr ⟨_, rfl, fun h => h⟩) (fun _ => by omega)) rfl rfl rfl (by decide) (.inl ⟨_, rfl, rfl⟩) rfl (by decide) ?_
    refine r_gval (v := .int .i64 (gd (flF (zSz c) c S ((opensL vars (ofP c vars.toNat)).take k)).2 c)) (v_load_rp1 ta3 (.inr ⟨_, rfl, fun h => h⟩) rfl (fun _ => by rw [Nat.mul_one]; exact icells_get (gd_get (by omega))) rfl) rfl rfl rfl (by decide) (.inl ⟨_, rfl, rfl⟩) rfl (by decide) ?_
    refine r_gval (v := .bool _) (v_lss (.inr ⟨_, rfl, fun h => h⟩) (.inr ⟨_, rfl, fun h => h⟩)) rfl rfl rfl (by decide) (.inl ⟨_, rfl, rfl⟩) rfl (by decide) ?_
    refine rv (v := .bool _) (v_pick (.inl rfl) (.inl rfl) (.inr ⟨_, rfl, fun h h2 => by simp_all⟩)) ?_
    refine r_nil ?_
    refine a_cond rfl (fun ht132 => ?_) (fun ht132 => ?_)
    ·
     skip
     refine a_pre (ent_look (L := [(0, .rp _ _), (1, .int _ _), (5, .int _ _), (10, .int _ _), (11, .int _ _), (46, .sl _ _), (47, .int _ _), (48, .int _ _), (INH, .op [.int _ _, .sl _ _, .osl _ _ _ _, .osl _ _ _ _, .osl _ _ _ _, .osl _ _ _ _])]) ⟨Weak.rfl, Weak.rfl, Weak.rfl, Weak.rfl, Weak.rfl, Weak.rfl, Weak.rfl, Weak.rfl, Weak.rfl, trivial⟩) ?_
     refine a_region ?_
     refine rv (v := .rp _ _) (v_move il nf) ?_
     refine rv (v := .rp _ _) (v_nilCheck il rfl) ?_
     refine rv (v := .rp _ _) (v_fieldAddr_rp fo72_3 il) ?_
     refine rv (v := .rsl _ _ _ _ _) (v_load_rp (c := .osl _ _ _ _) ta40 il rfl (fun _ => rfl)) ?_
     refine rv (v := .int _ _) (v_move il nf) ?_
     refine rv (v := .int _ _) (v_move il nf) ?_
     refine rv (v := .rp _ _) (v_indexAddr_rsl0 es40 il il (fun _ => by omega)) ?_
     refine r_step rfl (o_store (v := .int _ _) (y' := .op [.int _ _, .sl _ _, .osl _ _ _ _, .osl _ _ _ _, .osl _ _ _ _, .osl _ _ _ _]) rfl rfl ta3 il il rfl rfl rfl rfl rfl rfl hp4 (by decide) rfl (congrArg (fun c => AV.op [.int .i64 vars, .sl (sls L) L.length, AV.osl 1 _ (3 ^ vars.toNat) none, AV.osl 1 _ (3 ^ vars.toNat) none, AV.osl 1 c (3 ^ vars.toNat) none, AV.osl 1 _ (3 ^ vars.toNat) none]) hs4)) ?_
     refine r_nil ?_
     refine a_seq ?_
     refine a_region ?_
     refine rv (v := .int _ _) (v_move il nf) ?_
     refine rv (v := .bool _) (v_eql il il) ?_
     refine rv (v := .bool _) (v_move il nf) ?_
     refine r_gval (v := .int _ _) (v_move il nf) rfl rfl rfl (by decide) (.inl ⟨_, rfl, rfl⟩) rfl (by decide) ?_
     refine r_gval (v := .rp _ _) (v_move il nf) rfl rfl rfl (by decide) (.inl ⟨_, rfl, rfl⟩) rfl (by decide) ?_
     refine r_gval (v := .rp _ _) (v_nilCheck (.inr ⟨_, rfl, fun h => h⟩) rfl) rfl rfl rfl (by decide) (.inl ⟨_, rfl, rfl⟩) rfl (by decide) ?_
     refine r_gval (v := .rp _ _) (v_fieldAddr_rp fo72_4 (.inr ⟨_, rfl, fun h => h⟩)) rfl rfl rfl (by decide) (.inl ⟨_, rfl, rfl⟩) rfl (by decide) ?_
     refine r_gval (v := .rsl _ _ _ _ _) (v_load_rp (c := .osl _ _ _ _) ta40 (.inr ⟨_, rfl, fun h => h⟩) rfl (fun _ => rfl)) rfl rfl rfl (by decide) (.inl ⟨_, rfl, rfl⟩) rfl (by decide) ?_
     refine r_gval (v := .int _ _) (v_move il nf) rfl rfl rfl (by decide) (.inl ⟨_, rfl, rfl⟩) rfl (by decide) ?_
     refine r_gval (v := .rp _ _) (v_indexAddr_rsl0 es40 (.inr ⟨_, rfl, fun h => h⟩) (.inr ⟨_, rfl, fun h => h⟩) (fun _ => by omega)) rfl rfl rfl (by decide) (.inl ⟨_, rfl, rfl⟩) rfl (by decide) ?_
     refine r_gval (v := .int .i64 (gd (flF (zhI c) c H ((opensL vars (ofP c vars.toNat)).take k)).2 c)) (v_load_rp1 ta3 (.inr ⟨_, rfl, fun h => h⟩) rfl (fun _ => by rw [Nat.mul_one]; exact icells_get (gd_get (by omega))) rfl) rfl rfl rfl (by decide) (.inl ⟨_, rfl, rfl⟩) rfl (by decide) ?_
     refine r_gval (v := .bool _) (v_lss (.inr ⟨_, rfl, fun h => h⟩) (.inr ⟨_, rfl, fun h => h⟩)) rfl rfl rfl (by decide) (.inl ⟨_, rfl, rfl⟩) rfl (by decide) ?_
     refine rv (v := .bool _) (v_pick (.inl rfl) (.inl rfl) (.inr ⟨_, rfl, fun h h2 => by simp_all⟩)) ?_
     refine r_nil ?_
     refine a_cond rfl (fun ht152 => ?_) (fun ht152 => ?_)
     ·
      skip
      refine a_region ?_
      refine rv (v := .rp _ _) (v_move il nf) ?_
      refine rv (v := .rp _ _) (v_nilCheck il rfl) ?_
      refine rv (v := .rp _ _) (v_fieldAddr_rp fo72_4 il) ?_
      refine rv (v := .rsl _ _ _ _ _) (v_load_rp (c := .osl _ _ _ _) ta40 il rfl (fun _ => rfl)) ?_
      refine rv (v := .int _ _) (v_move il nf) ?_
      refine rv (v := .int _ _) (v_move il nf) ?_
      refine rv (v := .rp _ _) (v_indexAddr_rsl0 es40 il il (fun _ => by omega)) ?_
      refine r_step rfl (o_store (v := .int _ _) (y' := .op [.int _ _, .sl _ _, .osl _ _ _ _, .osl _ _ _ _, .osl _ _ _ _, .osl _ _ _ _]) rfl rfl ta3 il il rfl rfl rfl rfl rfl rfl hp5 (by decide) rfl (congrArg (fun c => AV.op [.int .i64 vars, .sl (sls L) L.length, AV.osl 1 _ (3 ^ vars.toNat) none, AV.osl 1 _ (3 ^ vars.toNat) none, AV.osl 1 _ (3 ^ vars.toNat) none, AV.osl 1 c (3 ^ vars.toNat) none]) hs5)) ?_
      refine r_nil ?_
      refine a_region ?_
      refine rv (v := .int _ _) (v_add il il (fun _ => by omega)) ?_
      refine rv (v := .int _ _) (v_move il nf) ?_
      refine r_nil ?_
      refine ⟨k + 1, ent_look ⟨Weak.of_eq rfl, Weak.of_eq rfl, Weak.of_eq rfl, Weak.of_eq rfl, Weak.of_eq (int_eq (by omega)), Weak.of_eq (by rw [flF_step hk, flF_step hk, flF_step hk, ht112, ht132, ht152]; rfl), trivial⟩, by omega, by omega⟩
     ·
      skip
      refine a_skip ?_
      refine a_region ?_
      refine rv (v := .int _ _) (v_add il il (fun _ => by omega)) ?_
      refine rv (v := .int _ _) (v_move il nf) ?_
      refine r_nil ?_
      refine ⟨k + 1, ent_look ⟨Weak.of_eq rfl, Weak.of_eq rfl, Weak.of_eq rfl, Weak.of_eq rfl, Weak.of_eq (int_eq (by omega)), Weak.of_eq (by rw [flF_step hk, flF_step hk, flF_step hk, ht112, ht132, ht152]; rfl), trivial⟩, by omega, by omega⟩
    ·
     skip
     refine a_skip ?_
     refine a_seq ?_
     refine a_pre (ent_look (L := [(0, .rp _ _), (1, .int _ _), (5, .int _ _), (11, .int _ _), (46, .sl _ _), (47, .int _ _), (48, .int _ _), (INH, .op [.int _ _, .sl _ _, .osl _ _ _ _, .osl _ _ _ _, .osl _ _ _ _, .osl _ _ _ _])]) ⟨Weak.rfl, Weak.rfl, Weak.rfl, Weak.rfl, Weak.rfl, Weak.rfl, Weak.rfl, Weak.rfl, trivial⟩) ?_
     refine a_region ?_
     refine rv (v := .int _ _) (v_move il nf) ?_
     refine rv (v := .bool _) (v_eql il il) ?_
     refine rv (v := .bool _) (v_move il nf) ?_
     refine r_gval (v := .int _ _) (v_move il nf) rfl rfl rfl (by decide) (.inl ⟨_, rfl, rfl⟩) rfl (by decide) ?_
     refine r_gval (v := .rp _ _) (v_move il nf) rfl rfl rfl (by decide) (.inl ⟨_, rfl, rfl⟩) rfl (by decide) ?_
     refine r_gval (v := .rp _ _) (v_nilCheck (.inr ⟨_, rfl, fun h => h⟩) rfl) rfl rfl rfl (by decide) (.inl ⟨_, rfl, rfl⟩) rfl (by decide) ?_
     refine r_gval (v := .rp _ _) (v_fieldAddr_rp fo72_4 (.inr ⟨_, rfl, fun h => h⟩)) rfl rfl rfl (by decide) (.inl ⟨_, rfl, rfl⟩) rfl (by decide) ?_
     refine r_gval (v := .rsl _ _ _ _ _) (v_load_rp (c := .osl _ _ _ _) ta40 (.inr ⟨_, rfl, fun h => h⟩) rfl (fun _ => rfl)) rfl rfl rfl (by decide) (.inl ⟨_, rfl, rfl⟩) rfl (by decide) ?_
     refine r_gval (v := .int _ _) (v_move il nf) rfl rfl rfl (by decide) (.inl ⟨_, rfl, rfl⟩) rfl (by decide) ?_
     refine r_gval (v := .rp _ _) (v_indexAddr_rsl0 es40 (.inr ⟨_, rfl, fun h => h⟩) (.inr ⟨_, rfl, fun h => h⟩) (fun _ => by omega)) rfl rfl rfl (by decide) (.inl ⟨_, rfl, rfl⟩) rfl (by decide) ?_
     refine r_gval (v := .int .i64 (gd (flF (zhI c) c H ((opensL vars (ofP c vars.toNat)).take k)).2 c)) (v_load_rp1 ta3 (.inr ⟨_, rfl, fun h => h⟩) rfl (fun _ => by rw [Nat.mul_one]; exact icells_get (gd_get (by omega))) rfl) rfl rfl rfl (by decide) (.inl ⟨_, rfl, rfl⟩) rfl (by decide) ?_
     refine r_gval (v := .bool _) (v_lss (.inr ⟨_, rfl, fun h => h⟩) (.inr ⟨_, rfl, fun h => h⟩)) rfl rfl rfl (by decide) (.inl ⟨_, rfl, rfl⟩) rfl (by decide) ?_
     refine rv (v := .bool _) (v_pick (.inl rfl) (.inl rfl) (.inr ⟨_, rfl, fun h h2 => by simp_all⟩)) ?_
     refine r_nil ?_
     refine a_cond rfl (fun ht152 => ?_) (fun ht152 => ?_)
     ·
      skip
      refine a_region ?_
      refine rv (v := .rp _ _) (v_move il nf) ?_
      refine rv (v := .rp _ _) (v_nilCheck il rfl) ?_
      refine rv (v := .rp _ _) (v_fieldAddr_rp fo72_4 il) ?_
      refine rv (v := .rsl _ _ _ _ _) (v_load_rp (c := .osl _ _ _ _) ta40 il rfl (fun _ => rfl)) ?_
      refine rv (v := .int _ _) (v_move il nf) ?_
      refine rv (v := .int _ _) (v_move il nf) ?_
      refine rv (v := .rp _ _) (v_indexAddr_rsl0 es40 il il (fun _ => by omega)) ?_
      refine r_step rfl (o_store (v := .int _ _) (y' := .op [.int _ _, .sl _ _, .osl _ _ _ _, .osl _ _ _ _, .osl _ _ _ _, .osl _ _ _ _]) rfl rfl ta3 il il rfl rfl rfl rfl rfl rfl hp5 (by decide) rfl (congrArg (fun c => AV.op [.int .i64 vars, .sl (sls L) L.length, AV.osl 1 _ (3 ^ vars.toNat) none, AV.osl 1 _ (3 ^ vars.toNat) none, AV.osl 1 _ (3 ^ vars.toNat) none, AV.osl 1 c (3 ^ vars.toNat) none]) hs5)) ?_
      refine r_nil ?_
      refine a_region ?_
      refine rv (v := .int _ _) (v_add il il (fun _ => by omega)) ?_
      refine rv (v := .int _ _) (v_move il nf) ?_
      refine r_nil ?_
      refine ⟨k + 1, ent_look ⟨Weak.of_eq rfl, Weak.of_eq rfl, Weak.of_eq rfl, Weak.of_eq rfl, Weak.of_eq (int_eq (by omega)), Weak.of_eq (by rw [flF_step hk, flF_step hk, flF_step hk, ht112, ht132, ht152]; rfl), trivial⟩, by omega, by omega⟩
     ·
      skip
      refine a_skip ?_
      refine a_region ?_
      refine rv (v := .int _ _) (v_add il il (fun _ => by omega)) ?_
      refine rv (v := .int _ _) (v_move il nf) ?_
      refine r_nil ?_
      refine ⟨k + 1, ent_look ⟨Weak.of_eq rfl, Weak.of_eq rfl, Weak.of_eq rfl, Weak.of_eq rfl, Weak.of_eq (int_eq (by omega)), Weak.of_eq (by rw [flF_step hk, flF_step hk, flF_step hk, ht112, ht132, ht152]; rfl), trivial⟩, by omega, by omega⟩
   ·
    skip
    refine a_skip ?_
    refine a_seq ?_
    refine a_seq ?_
    refine a_region ?_
    refine rv (v := .int _ _) (v_move il nf) ?_
    refine rv (v := .bool _) (v_eql il il) ?_
    refine rv (v := .bool _) (v_move il nf) ?_
    refine r_gval (v := .int _ _) (v_move il nf) rfl rfl rfl (by decide) (.inl ⟨_, rfl, rfl⟩) rfl (by decide) ?_
    refine r_gval (v := .rp _ _) (v_move il nf) rfl rfl rfl (by decide) (.inl ⟨_, rfl, rfl⟩) rfl (by decide) ?_
    refine r_gval (v := .rp _ _) (v_nilCheck (.inr ⟨_, rfl, fun h => h⟩) rfl) rfl rfl rfl (by decide) (.inl ⟨_, rfl, rfl⟩) rfl (by decide) ?_
    refine r_gval (v := .rp _ _) (v_fieldAddr_rp fo72_3 (.inr ⟨_, rfl, fun h => h⟩)) rfl rfl rfl (by decide) (.inl ⟨_, rfl, rfl⟩) rfl (by decide) ?_
    refine r_gval (v := .rsl _ _ _ _ _) (v_load_rp (c := .osl _ _ _ _) ta40 (.inr ⟨_, rfl, fun h => h⟩) rfl (fun _ => rfl)) rfl rfl rfl (by decide) (.inl ⟨_, rfl, rfl⟩) rfl (by decide) ?_
    refine r_gval (v := .int _ _) (v_move il nf) rfl rfl rfl (by decide) (.inl ⟨_, rfl, rfl⟩) rfl (by decide) ?_
    refine r_gval (v := .rp _ _) (v_indexAddr_rsl0 es40 (.inr ⟨_, rfl, fun h => h⟩) (.inr ⟨_, rfl, fun h => h⟩) (fun _ => by omega)) rfl rfl rfl (by decide) (.inl ⟨_, rfl, rfl⟩) rfl (by decide) ?_
    refine r_gval (v := .int .i64 (gd (flF (zSz c) c S ((opensL vars (ofP c vars.toNat)).take k)).2 c)) (v_load_rp1 ta3 (.inr ⟨_, rfl, fun h => h⟩) rfl (fun _ => by rw [Nat.mul_one]; exact icells_get (gd_get (by omega))) rfl) rfl rfl rfl (by decide) (.inl ⟨_, rfl, rfl⟩) rfl (by decide) ?_
    refine r_gval (v := .bool _) (v_lss (.inr ⟨_, rfl, fun h => h⟩) (.inr ⟨_, rfl, fun h => h⟩)) rfl rfl rfl (by decide) (.inl ⟨_, rfl, rfl⟩) rfl (by decide) ?_
    refine rv (v := .bool _) (v_pick (.inl rfl) (.inl rfl) (.inr ⟨_, rfl, fun h h2 => by simp_all⟩)) ?_
    refine r_nil ?_
    refine a_cond rfl (fun ht132 => ?_) (fun ht132 => ?_)
    ·
     skip
     refine a_region ?_
     refine rv (v := .rp _ _) (v_move il nf) ?_
     refine rv (v := .rp _ _) (v_nilCheck il rfl) ?_
     refine rv (v := .rp _ _) (v_fieldAddr_rp fo72_3 il) ?_
     refine rv (v := .rsl _ _ _ _ _) (v_load_rp (c := .osl _ _ _ _) ta40 il rfl (fun _ => rfl)) ?_
     refine rv (v := .int _ _) (v_move il nf) ?_
     refine rv (v := .int _ _) (v_move il nf) ?_
     refine rv (v := .rp _ _) (v_indexAddr_rsl0 es40 il il (fun _ => by omega)) ?_
     refine r_step rfl (o_store (v := .int _ _) (y' := .op [.int _ _, .sl _ _, .osl _ _ _ _, .osl _ _ _ _, .osl _ _ _ _, .osl _ _ _ _]) rfl rfl ta3 il il rfl rfl rfl rfl rfl rfl hp4 (by decide) rfl (congrArg (fun c => AV.op [.int .i64 vars, .sl (sls L) L.length, AV.osl 1 _ (3 ^ vars.toNat) none, AV.osl 1 _ (3 ^ vars.toNat) none, AV.osl 1 c (3 ^ vars.toNat) none, AV.osl 1 _ (3 ^ vars.toNat) none]) hs4)) ?_
     refine r_nil ?_
     refine a_seq ?_
     refine a_pre (ent_look (L := [(0, .rp _ _), (1, .int _ _), (5, .int _ _), (11, .int _ _), (46, .sl _ _), (47, .int _ _), (48, .int _ _), (INH, .op [.int _ _, .sl _ _, .osl _ _ _ _, .osl _ _ _ _, .osl _ _ _ _, .osl _ _ _ _])]) ⟨Weak.rfl, Weak.rfl, Weak.rfl, Weak.rfl, Weak.rfl, Weak.rfl, Weak.rfl, Weak.rfl, trivial⟩) ?_
     refine a_region ?_
     refine rv (v := .int _ _) (v_move il nf) ?_
     refine rv (v := .bool _) (v_eql il il) ?_
     refine rv (v := .bool _) (v_move il nf) ?_
     refine r_gval (v := .int _ _) (v_move il nf) rfl rfl rfl (by decide) (.inl ⟨_, rfl, rfl⟩) rfl (by decide) ?_
     refine r_gval (v := .rp _ _) (v_move il nf) rfl rfl rfl (by decide) (.inl ⟨_, rfl, rfl⟩) rfl (by decide) ?_
     refine r_gval (v := .rp _ _) (v_nilCheck (.inr ⟨_, rfl, fun h => h⟩) rfl) rfl rfl rfl (by decide) (.inl ⟨_, rfl, rfl⟩) rfl (by decide) ?_
     refine r_gval (v := .rp _ _) (v_fieldAddr_rp fo72_4 (.inr ⟨_, rfl, fun h => h⟩)) rfl rfl rfl (by decide) (.inl ⟨_, rfl, rfl⟩) rfl (by decide) ?_
     refine r_gval (v := .rsl _ _ _ _ _) (v_load_rp (c := .osl _ _ _ _) ta40 (.inr ⟨_, rfl, fun h => h⟩) rfl (fun _ => rfl)) rfl rfl rfl (by decide) (.inl ⟨_, rfl, rfl⟩) rfl (by decide) ?_
     refine r_gval (v := .int _ _) (v_move il nf) rfl rfl rfl (by decide) (.inl ⟨_, rfl, rfl⟩) rfl (by decide) ?_
     refine r_gval (v := .rp _ _) (v_indexAddr_rsl0 es40 (.inr ⟨_, rfl, fun h => h⟩) (.inr ⟨_, rfl, fun h => h⟩) (fun _ => by omega)) rfl rfl rfl (by decide) (.inl ⟨_, rfl, rfl⟩) rfl (by decide) ?_
     refine r_gval (v := .int .i64 (gd (flF (zhI c) c H ((opensL vars (ofP c vars.toNat)).take k)).2 c)) (v_load_rp1 ta3 (.inr ⟨_, rfl, fun h => h⟩) rfl (fun _ => by rw [Nat.mul_one]; exact icells_get (gd_get (by omega))) rfl) rfl rfl rfl (by decide) (.inl ⟨_, rfl, rfl⟩) rfl (by decide) ?_
     refine r_gval (v := .bool _) (v_lss (.inr ⟨_, rfl, fun h => h⟩) (.inr ⟨_, rfl, fun h => h⟩)) rfl rfl rfl (by decide) (.inl ⟨_, rfl, rfl⟩) rfl (by decide) ?_
     refine rv (v := .bool _) (v_pick (.inl rfl) (.inl rfl) (.inr ⟨_, rfl, fun h h2 => by simp_all⟩)) ?_
     refine r_nil ?_
     refine a_cond rfl (fun ht152 => ?_) (fun ht152 => ?_)
     ·
      skip
      refine a_region ?_
      refine rv (v := .rp _ _) (v_move il nf) ?_
      refine rv (v := .rp _ _) (v_nilCheck il rfl) ?_
      refine rv (v := .rp _ _) (v_fieldAddr_rp fo72_4 il) ?_
      refine rv (v := .rsl _ _ _ _ _) (v_load_rp (c := .osl _ _ _ _) ta40 il rfl (fun _ => rfl)) ?_
      refine rv (v := .int _ _) (v_move il nf) ?_
      refine rv (v := .int _ _) (v_move il nf) ?_
      refine rv (v := .rp _ _) (v_indexAddr_rsl0 es40 il il (fun _ => by omega)) ?_
      refine r_step rfl (o_store (v := .int _ _) (y' := .op [.int _ _, .sl _ _, .osl _ _ _ _, .osl _ _ _ _, .osl _ _ _ _, .osl _ _ _ _]) rfl rfl ta3 il il rfl rfl rfl rfl rfl rfl hp5 (by decide) rfl (congrArg (fun c => AV.op [.int .i64 vars, .sl (sls L) L.length, AV.osl 1 _ (3 ^ vars.toNat) none, AV.osl 1 _ (3 ^ vars.toNat) none, AV.osl 1 _ (3 ^ vars.toNat) none, AV.osl 1 c (3 ^ vars.toNat) none]) hs5)) ?_
      refine r_nil ?_
      refine a_region ?_
      refine rv (v := .int _ _) (v_add il il (fun _ => by omega)) ?_
      refine rv (v := .int _ _) (v_move il nf) ?_
      refine r_nil ?_
      refine ⟨k + 1, ent_look ⟨Weak.of_eq rfl, Weak.of_eq rfl, Weak.of_eq rfl, Weak.of_eq rfl, Weak.of_eq (int_eq (by omega)), Weak.of_eq (by rw [flF_step hk, flF_step hk, flF_step hk, ht112, ht132, ht152]; rfl), trivial⟩, by omega, by omega⟩
     ·
      skip
      refine a_skip ?_
      refine a_region ?_
      refine rv (v := .int _ _) (v_add il il (fun _ => by omega)) ?_
      refine rv (v := .int _ _) (v_move il nf) ?_
      refine r_nil ?_
      refine ⟨k + 1, ent_look ⟨Weak.of_eq rfl, Weak.of_eq rfl, Weak.of_eq rfl, Weak.of_eq rfl, Weak.of_eq (int_eq (by omega)), Weak.of_eq (by rw [flF_step hk, flF_step hk, flF_step hk, ht112, ht132, ht152]; rfl), trivial⟩, by omega, by omega⟩
    ·
     skip
     refine a_skip ?_
     refine a_seq ?_
     refine a_region ?_
     refine rv (v := .int _ _) (v_move il nf) ?_
     refine rv (v := .bool _) (v_eql il il) ?_
     refine rv (v := .bool _) (v_move il nf) ?_
     refine r_gval (v := .int _ _) (v_move il nf) rfl rfl rfl (by decide) (.inl ⟨_, rfl, rfl⟩) rfl (by decide) ?_
     refine r_gval (v := .rp _ _) (v_move il nf) rfl rfl rfl (by decide) (.inl ⟨_, rfl, rfl⟩) rfl (by decide) ?_
     refine r_gval (v := .rp _ _) (v_nilCheck (.inr ⟨_, rfl, fun h => h⟩) rfl) rfl rfl rfl (by decide) (.inl ⟨_, rfl, rfl⟩) rfl (by decide) ?_
     refine r_gval (v := .rp _ _) (v_fieldAddr_rp fo72_4 (.inr ⟨_, rfl, fun h => h⟩)) rfl rfl rfl (by decide) (.inl ⟨_, rfl, rfl⟩) rfl (by decide) ?_
     refine r_gval (v := .rsl _ _ _ _ _) (v_load_rp (c := .osl _ _ _ _) ta40 (.inr ⟨_, rfl, fun h => h⟩) rfl (fun _ => rfl)) rfl rfl rfl (by decide) (.inl ⟨_, rfl, rfl⟩) rfl (by decide) ?_
     refine r_gval (v := .int _ _) (v_move il nf) rfl rfl rfl (by decide) (.inl ⟨_, rfl, rfl⟩) rfl (by decide) ?_
     refine r_gval (v := .rp _ _) (v_indexAddr_rsl0 es40 (.inr ⟨_, rfl, fun h => h⟩) (.inr ⟨_, rfl, fun h => h⟩) (fun _ => by omega)) rfl rfl rfl (by decide) (.inl ⟨_, rfl, rfl⟩) rfl (by decide) ?_
     refine r_gval (v := .int .i64 (gd (flF (zhI c) c H ((opensL vars (ofP c vars.toNat)).take k)).2 c)) (v_load_rp1 ta3 (.inr ⟨_, rfl, fun h => h⟩) rfl (fun _ => by rw [Nat.mul_one]; exact icells_get (gd_get (by omega))) rfl) rfl rfl rfl (by decide) (.inl ⟨_, rfl, rfl⟩) rfl (by decide) ?_
     refine r_gval (v := .bool _) (v_lss (.inr ⟨_, rfl, fun h => h⟩) (.inr ⟨_, rfl, fun h => h⟩)) rfl rfl rfl (by decide) (.inl ⟨_, rfl, rfl⟩) rfl (by decide) ?_
     refine rv (v := .bool _) (v_pick (.inl rfl) (.inl rfl) (.inr ⟨_, rfl, fun h h2 => by simp_all⟩)) ?_
     refine r_nil ?_
     refine a_cond rfl (fun ht152 => ?_) (fun ht152 => ?_)
     ·
      skip
      refine a_pre (ent_look (L := [(0, .rp _ _), (1, .int _ _), (11, .int _ _), (46, .sl _ _), (47, .int _ _), (48, .int _ _), (INH, .op [.int _ _, .sl _ _, .osl _ _ _ _, .osl _ _ _ _, .osl _ _ _ _, .osl _ _ _ _])]) ⟨Weak.rfl, Weak.rfl, Weak.rfl, Weak.rfl, Weak.rfl, Weak.rfl, Weak.rfl, trivial⟩) ?_
      refine a_region ?_
      refine rv (v := .rp _ _) (v_move il nf) ?_
      refine rv (v := .rp _ _) (v_nilCheck il rfl) ?_
      refine rv (v := .rp _ _) (v_fieldAddr_rp fo72_4 il) ?_
      refine rv (v := .rsl _ _ _ _ _) (v_load_rp (c := .osl _ _ _ _) ta40 il rfl (fun _ => rfl)) ?_
      refine rv (v := .int _ _) (v_move il nf) ?_
      refine rv (v := .int _ _) (v_move il nf) ?_
      refine rv (v := .rp _ _) (v_indexAddr_rsl0 es40 il il (fun _ => by omega)) ?_
      refine r_step rfl (o_store (v := .int _ _) (y' := .op [.int _ _, .sl _ _, .osl _ _ _ _, .osl _ _ _ _, .osl _ _ _ _, .osl _ _ _ _]) rfl rfl ta3 il il rfl rfl rfl rfl rfl rfl hp5 (by decide) rfl (congrArg (fun c => AV.op [.int .i64 vars, .sl (sls L) L.length, AV.osl 1 _ (3 ^ vars.toNat) none, AV.osl 1 _ (3 ^ vars.toNat) none, AV.osl 1 _ (3 ^ vars.toNat) none, AV.osl 1 c (3 ^ vars.toNat) none]) hs5)) ?_
      refine r_nil ?_
      refine a_region ?_
      refine rv (v := .int _ _) (v_add il il (fun _ => by omega)) ?_
      refine rv (v := .int _ _) (v_move il nf) ?_
      refine r_nil ?_
      refine ⟨k + 1, ent_look ⟨Weak.of_eq rfl, Weak.of_eq rfl, Weak.of_eq rfl, Weak.of_eq rfl, Weak.of_eq (int_eq (by omega)), Weak.of_eq (by rw [flF_step hk, flF_step hk, flF_step hk, ht112, ht132, ht152]; rfl), trivial⟩, by omega, by omega⟩
     ·
      skip
      refine a_skip ?_
      refine a_pre (ent_look (L := [(0, .rp _ _), (1, .int _ _), (46, .sl _ _), (47, .int _ _), (48, .int _ _), (INH, .op [.int _ _, .sl _ _, .osl _ _ _ _, .osl _ _ _ _, .osl _ _ _ _, .osl _ _ _ _])]) ⟨Weak.rfl, Weak.rfl, Weak.rfl, Weak.rfl, Weak.rfl, Weak.rfl, trivial⟩) ?_
      refine a_region ?_
      refine rv (v := .int _ _) (v_add il il (fun _ => by omega)) ?_
      refine rv (v := .int _ _) (v_move il nf) ?_
      refine r_nil ?_
      refine ⟨k + 1, ent_look ⟨Weak.of_eq rfl, Weak.of_eq rfl, Weak.of_eq rfl, Weak.of_eq rfl, Weak.of_eq (int_eq (by omega)), Weak.of_eq (by rw [flF_step hk, flF_step hk, flF_step hk, ht112, ht132, ht152]; rfl), trivial⟩, by omega, by omega⟩
  ·
   skip
   refine a_exit ?_
   refine ret0_look Tryz.results43 (by decide) ?_ rfl
   have hke : (opensL vars (ofP c vars.toNat)).take k = (opensL vars (ofP c vars.toNat)) := List.take_of_length_le (by simp at ht49; omega); exact Weak.of_eq (by rw [hcf, hke]; rfl)
end Go.Av
namespace Go.Av
open Go Go.Proofs Go.Sort
set_option maxRecDepth 10000
theorem hb40 : hasBody Tryz.prog 40 = true := by kernel_rfl
theorem hb41 : hasBody Tryz.prog 41 = true := by kernel_rfl
theorem hb43 : hasBody Tryz.prog 43 = true := by kernel_rfl
theorem sb4 : (Tryz.prog.info? 4).map (fun i => (i.size, i.bytes)) = some (1, 1) := by kernel_rfl
theorem sp72 : structPl Tryz.prog 72 = some ([.int .i64 0, .nils, .nils, .nils, .nils, .nils], [(0, 2), (2, 1), (3, 1), (4, 1), (5, 1)]) := by kernel_rfl
theorem us70 : Tryz.prog.underlying 70 = some (.slice 4) := by kernel_rfl
theorem gameOk_c (vars : Int) (L : List (List Int)) (hk : CnfOk vars L) (hg : gmB vars L = true) : ACall Tryz.prog 20 [.agg [.int .i64 vars, .sl (sls L) L.length]] [] (.tup [.op [.int .i64 vars, .sl (sls L) L.length, .osl 1 (blcells (ovT vars L (3 ^ vars.toNat))) (3 ^ vars.toNat) none, .osl 1 (icells (tabZ zpI none vars L (3 ^ vars.toNat))) (3 ^ vars.toNat) none, .osl 1 (icells (tabZ zSz (some 1) vars L (3 ^ vars.toNat))) (3 ^ vars.toNat) none, .osl 1 (icells (tabZ zhI none vars L (3 ^ vars.toNat))) (3 ^ vars.toNat) none], .bool true]) [] := by
 obtain ⟨hcf, hv, hns⟩ := gm_spec hg
 have hcs := cnfB_spec hcf
 have hk2 := hk.2.1
 have hn := pow36 hv
 refine ACall.intro Tryz.func20 rfl (N := 46) rfl (by decide) (by simp) ?_
 refine a_seq ?_
 refine a_region ?_
 refine rn (v := .op [.int _ _, .sl _ _]) (q_box il rfl rfl) ?_
 refine rv (v := .nilp) (v_assign il nf) ?_
 refine rv (v := .bool _) (v_assign il nf) ?_
 refine r_nil ?_
 refine a_seq ?_
 refine a_seq ?_
 refine a_region ?_
 refine rv (v := .agg [.int _ _, .sl _ _]) (v_load_rpa1 ta29 il rfl rfl (fun _ => rfl) rfl) ?_
 refine rn (v := .bool _) (q_call (vs := [.agg [.int _ _, .sl _ _]]) (args := [.agg [.int .i64 _, .sl _ _]]) hb40 ⟨il, trivial⟩ rfl (fun hA => isCnf_c vars L hk) rfl rfl) ?_
 refine rv (v := .bool _) (v_not il) ?_
 refine rv (v := .bool _) (v_move il nf) ?_
 refine r_gval (v := .rp _ _) (v_fieldAddr_rp fo29_0 il) rfl rfl rfl (by decide) (.inl ⟨_, rfl, rfl⟩) rfl (by decide) ?_
 refine r_gval (v := .int _ _) (v_load_rp1 ta3 (.inr ⟨_, rfl, fun h => h⟩) rfl (fun _ => rfl) rfl) rfl rfl rfl (by decide) (.inl ⟨_, rfl, rfl⟩) rfl (by decide) ?_
 refine r_gval (v := .bool _) (v_gtr (.inr ⟨_, rfl, fun h => h⟩) il) rfl rfl rfl (by decide) (.inl ⟨_, rfl, rfl⟩) rfl (by decide) ?_
 refine rv (v := .bool _) (v_pick (.inl rfl) (.inl rfl) (.inr ⟨_, rfl, fun h h2 => by simp_all⟩)) ?_
 refine rv (v := .bool _) (v_move il nf) ?_
 refine r_gval (v := .rp _ _) (v_fieldAddr_rp fo29_0 il) rfl rfl rfl (by decide) (.inl ⟨_, rfl, rfl⟩) rfl (by decide) ?_
 refine r_gval (v := .int _ _) (v_load_rp1 ta3 (.inr ⟨_, rfl, fun h => h⟩) rfl (fun _ => rfl) rfl) rfl rfl rfl (by decide) (.inl ⟨_, rfl, rfl⟩) rfl (by decide) ?_
 refine r_gval (v := .rp _ _) (v_fieldAddr_rp fo29_1 il) rfl rfl rfl (by decide) (.inl ⟨_, rfl, rfl⟩) rfl (by decide) ?_
 refine r_gval (v := .sl _ _) (v_load_rp1 ta22 (.inr ⟨_, rfl, fun h => h⟩) rfl (fun _ => rfl) rfl) rfl rfl rfl (by decide) (.inl ⟨_, rfl, rfl⟩) rfl (by decide) ?_
 refine r_guard (v := .bool _) (q_call (vs := [.int _ _, .sl _ _]) (args := [.int .i64 _, .sl _ _]) hb41 ⟨.inr ⟨_, rfl, fun h => h⟩, .inr ⟨_, rfl, fun h => h⟩, trivial⟩ rfl (fun hA => satI_c vars L (cnfB_spec (by simp at hA; exact hA.1)).2.2 (by omega) (cnfB_spec (by simp at hA; exact hA.1)).1) rfl rfl) rfl rfl rfl (by decide) (.inl ⟨_, rfl, rfl⟩) rfl (by decide) ?_
 refine rv (v := .bool _) (v_pick (.inl rfl) (.inl rfl) (.inr ⟨_, rfl, fun h h2 => by simp_all⟩)) ?_
 refine r_nil ?_
 refine a_cond rfl (fun ht21 => ?_) (fun ht21 => ?_)
 ·
  skip
  exfalso
  rw [hcf] at ht21; simp [hns] at ht21; omega
 ·
  skip
  refine a_skip ?_
  refine a_seq ?_
  refine a_region ?_
  refine rv (v := .rp _ _) (v_fieldAddr_rp fo29_0 il) ?_
  refine rv (v := .int .i64 ((vars.toNat : Nat) : Int)) ((v_load_rp1 ta3 il rfl (fun _ => rfl) rfl).cast (int_eq (by omega))) ?_
  refine rn (v := .int _ _) (q_call (vs := [.int _ _]) (args := [.int .i64 _]) hb42 ⟨il, trivial⟩ rfl (fun hA => pow3_c vars.toNat (by omega)) rfl rfl) ?_
  refine rv (v := .int _ _) (v_assign il nf) ?_
  refine r_nil ?_
  refine a_seq ?_
  refine a_region_z (n := 9) [[(25, true)], [(26, true)], [(27, true)], [(28, true)], [(29, true)], [(30, true)], [(31, true)], [(32, true)], [(33, true)]] mixed (by kernel_rfl) ?_
  refine z_val (v := .agg [.int _ _, .sl _ _]) (v_load_rpa1 ta29 il rfl rfl (fun _ => rfl) rfl) rfl rfl (by decide) rfl (by kernel_rfl) ?_
  refine z_val (v := .int _ _) (v_move il nf) rfl rfl (by decide) rfl (by kernel_rfl) ?_
  refine z_new (v := .osl _ _ _ _) (q_makeSlice us70 sb4 zc4 rfl (by decide) il il (fun _ => by omega)) rfl rfl (by decide) rfl (by kernel_rfl) ?_
  refine z_val (v := .int _ _) (v_move il nf) rfl rfl (by decide) rfl (by kernel_rfl) ?_
  refine z_new (v := .osl _ _ _ _) (q_makeSlice us40 sb3 zc3 rfl (by decide) il il (fun _ => by omega)) rfl rfl (by decide) rfl (by kernel_rfl) ?_
  refine z_val (v := .int _ _) (v_move il nf) rfl rfl (by decide) rfl (by kernel_rfl) ?_
  refine z_new (v := .osl _ _ _ _) (q_makeSlice us40 sb3 zc3 rfl (by decide) il il (fun _ => by omega)) rfl rfl (by decide) rfl (by kernel_rfl) ?_
  refine z_val (v := .int _ _) (v_move il nf) rfl rfl (by decide) rfl (by kernel_rfl) ?_
  refine z_new (v := .osl _ _ _ _) (q_makeSlice us40 sb3 zc3 rfl (by decide) il il (fun _ => by omega)) rfl rfl (by decide) rfl (by kernel_rfl) ?_
  refine z_nil ?_
  refine r_pre (ent_eq (t := 27) (v' := .osl 1 (blcells (List.replicate (3 ^ vars.toNat) false)) (3 ^ vars.toNat) none) (Weak.osl (bl_rep _).symm rfl)) ?_
  refine r_pre (ent_eq (t := 29) (v' := .osl 1 (icells (List.replicate (3 ^ vars.toNat) 0)) (3 ^ vars.toNat) none) (Weak.osl (icells_rep _) rfl)) ?_
  refine r_pre (ent_eq (t := 31) (v' := .osl 1 (icells (List.replicate (3 ^ vars.toNat) 0)) (3 ^ vars.toNat) none) (Weak.osl (icells_rep _) rfl)) ?_
  refine r_pre (ent_eq (t := 33) (v' := .osl 1 (icells (List.replicate (3 ^ vars.toNat) 0)) (3 ^ vars.toNat) none) (Weak.osl (icells_rep _) rfl)) ?_
  refine rv (v := .agg [.int _ _, .sl _ _, .rsl _ _ _ _ _, .rsl _ _ _ _ _, .rsl _ _ _ _ _, .rsl _ _ _ _ _]) (v_build sp72 rfl rfl) ?_
  refine r_pre (ent_reloc_at_sl (t := 34) (r := [2]) rfl (by decide) rfl rfl) ?_
  refine r_pre (ent_reloc_at_sl (t := 34) (r := [3]) rfl (by decide) rfl rfl) ?_
  refine r_pre (ent_reloc_at_sl (t := 34) (r := [4]) rfl (by decide) rfl rfl) ?_
  refine r_pre (ent_reloc_at_sl (t := 34) (r := [5]) rfl (by decide) rfl rfl) ?_
  refine r_step rfl (o_box_own (v := .agg [.int _ _, .sl _ _, .osl _ _ _ _, .osl _ _ _ _, .osl _ _ _ _, .osl _ _ _ _]) rfl rfl (by decide) (by decide) rfl rfl (by simp [cellsOf, noRefL, noRef, bl_noRef, ic_noRef]) rfl) ?_
  refine rv (v := .rp _ _) (v_assign il nf) ?_
  refine r_nil ?_
  refine a_seq ?_
  refine a_seq ?_
  refine a_region ?_
  refine rv (v := .int _ _) (v_move il nf) ?_
  refine rv (v := .int _ _) (v_sub il il (fun _ => by omega)) ?_
  refine rv (v := .int _ _) (v_assign il nf) ?_
  refine r_nil ?_
  refine a_block ?_
  refine a_loop (X := Nat) (fun m => look [(5, .rp (35, []) 0), (35, .op [.int .i64 vars, .sl (sls L) L.length, .osl 1 (blcells (ovT vars L m)) (3 ^ vars.toNat) none, .osl 1 (icells (tabZ zpI none vars L m)) (3 ^ vars.toNat) none, .osl 1 (icells (tabZ zSz (some 1) vars L m)) (3 ^ vars.toNat) none, .osl 1 (icells (tabZ zhI none vars L m)) (3 ^ vars.toNat) none]), (6, .int .i64 ((((3 ^ vars.toNat) : Nat) : Int) - 1 - (m : Nat)))]) (fun m => m ≤ (3 ^ vars.toNat)) (fun m => (3 ^ vars.toNat) - m) 0 (ent_look ⟨Weak.of_eq rfl, Weak.of_eq rfl, Weak.of_eq (int_eq (by omega)), trivial⟩) (Nat.zero_le _) (fun m hG => ?_)
  refine a_seq ?_
  refine a_seq ?_
  refine a_region ?_
  refine rv (v := .int _ _) (v_move il nf) ?_
  refine rv (v := .bool _) (v_geq il il) ?_
  refine r_nil ?_
  refine a_cond rfl (fun ht39 => ?_) (fun ht39 => ?_)
  ·
   skip
   refine a_skip ?_
   refine a_seq ?_
   refine a_block ?_
   have hm : m < (3 ^ vars.toNat) := (by have h9 := of_decide_eq_true ht39; exact Int.ofNat_lt.1 (by omega))
   refine a_region ?_
   refine rv (v := .rp _ _) (v_move il nf) ?_
   refine rv (v := .int .i64 ((((3 ^ vars.toNat) - 1 - m) : Nat) : Int)) ((v_move il nf).cast (int_eq (by omega))) ?_
   refine r_step rfl (o_callIOg (q := (35, [])) (vs := [.rp _ _, .int _ _]) (args := [.rp (INH, []) _, .int .i64 _]) (cs0 := [.int _ _, .sl _ _, .osl _ _ _ _, .osl _ _ _ _, .osl _ _ _ _, .osl _ _ _ _]) (cs1 := [.int _ _, .sl _ _, .osl _ _ _ _, .osl _ _ _ _, .osl _ _ _ _, .osl _ _ _ _]) (res := .tup []) rfl hb43 rfl (by decide) ⟨.inl rfl, .inl rfl, trivial⟩ rfl rfl (fill_c vars L _ _ _ _ ((3 ^ vars.toNat) - 1 - m) hcs.2.2 (by omega) hv (ovT_len _ _ _) (tabZ_len _ _ _ _ _) (tabZ_len _ _ _ _ _) (tabZ_len _ _ _ _ _) (by omega)) rfl rfl rfl gm_nr (Nat.le_of_ble_eq_true rfl) (by decide) rfl) ?_
   refine r_nil ?_
   refine a_region ?_
   refine rv (v := .int _ _) (v_move il nf) ?_
   refine rv (v := .int _ _) (v_sub il il (fun _ => by omega)) ?_
   refine rv (v := .int _ _) (v_assign il nf) ?_
   refine r_nil ?_
   refine ⟨m + 1, ent_look ⟨Weak.of_eq rfl, Weak.of_eq rfl, Weak.of_eq (int_eq (by omega)), trivial⟩, by omega, by omega⟩
  ·
   skip
   refine a_exit ?_
   refine a_seq ?_
   refine a_region ?_
   refine rv (v := .rp _ _) (v_move il nf) ?_
   refine rv (v := .rp _ _) (v_assign il nf) ?_
   refine r_pre (ent_reloc_op (t := 2) rfl rfl) ?_
   refine rv (v := .bool _) (v_assign il nf) ?_
   refine r_nil ?_
   refine a_ret ?_
   refine retL (rs := [.tmp 2, .tmp 3]) [(2, _), (3, _)] ⟨Weak.rfl, Weak.rfl, trivial⟩ rfl Tryz.results20 (by decide) ⟨by decide, by decide, rfl⟩ (by decide) (by decide) (l2_eq ?_ (bool_eq ?_)) rfl
   all_goals (have hme : m = (3 ^ vars.toNat) := (by have h9 := of_decide_eq_false ht39; exact Nat.le_antisymm hG (Int.ofNat_le.1 (by omega))); subst hme; rfl)
theorem gameNo_c (vars : Int) (L : List (List Int)) (hk : CnfOk vars L) (hg : gmB vars L = false) : ACall Tryz.prog 20 [.agg [.int .i64 vars, .sl (sls L) L.length]] [] (.tup [.nilp, .bool false]) [] := by
 have hk2 := hk.2.1
 refine ACall.intro Tryz.func20 rfl (N := 46) rfl (by decide) (by simp) ?_
 refine a_seq ?_
 refine a_region ?_
 refine rn (v := .op [.int _ _, .sl _ _]) (q_box il rfl rfl) ?_
 refine rv (v := .nilp) (v_assign il nf) ?_
 refine rv (v := .bool _) (v_assign il nf) ?_
 refine r_nil ?_
 refine a_seq ?_
 refine a_seq ?_
 refine a_region ?_
 refine rv (v := .agg [.int _ _, .sl _ _]) (v_load_rpa1 ta29 il rfl rfl (fun _ => rfl) rfl) ?_
 refine rn (v := .bool _) (q_call (vs := [.agg [.int _ _, .sl _ _]]) (args := [.agg [.int .i64 _, .sl _ _]]) hb40 ⟨il, trivial⟩ rfl (fun hA => isCnf_c vars L hk) rfl rfl) ?_
 refine rv (v := .bool _) (v_not il) ?_
 refine rv (v := .bool _) (v_move il nf) ?_
 refine r_gval (v := .rp _ _) (v_fieldAddr_rp fo29_0 il) rfl rfl rfl (by decide) (.inl ⟨_, rfl, rfl⟩) rfl (by decide) ?_
 refine r_gval (v := .int _ _) (v_load_rp1 ta3 (.inr ⟨_, rfl, fun h => h⟩) rfl (fun _ => rfl) rfl) rfl rfl rfl (by decide) (.inl ⟨_, rfl, rfl⟩) rfl (by decide) ?_
 refine r_gval (v := .bool _) (v_gtr (.inr ⟨_, rfl, fun h => h⟩) il) rfl rfl rfl (by decide) (.inl ⟨_, rfl, rfl⟩) rfl (by decide) ?_
 refine rv (v := .bool _) (v_pick (.inl rfl) (.inl rfl) (.inr ⟨_, rfl, fun h h2 => by simp_all⟩)) ?_
 refine rv (v := .bool _) (v_move il nf) ?_
 refine r_gval (v := .rp _ _) (v_fieldAddr_rp fo29_0 il) rfl rfl rfl (by decide) (.inl ⟨_, rfl, rfl⟩) rfl (by decide) ?_
 refine r_gval (v := .int _ _) (v_load_rp1 ta3 (.inr ⟨_, rfl, fun h => h⟩) rfl (fun _ => rfl) rfl) rfl rfl rfl (by decide) (.inl ⟨_, rfl, rfl⟩) rfl (by decide) ?_
 refine r_gval (v := .rp _ _) (v_fieldAddr_rp fo29_1 il) rfl rfl rfl (by decide) (.inl ⟨_, rfl, rfl⟩) rfl (by decide) ?_
 refine r_gval (v := .sl _ _) (v_load_rp1 ta22 (.inr ⟨_, rfl, fun h => h⟩) rfl (fun _ => rfl) rfl) rfl rfl rfl (by decide) (.inl ⟨_, rfl, rfl⟩) rfl (by decide) ?_
 refine r_guard (v := .bool _) (q_call (vs := [.int _ _, .sl _ _]) (args := [.int .i64 _, .sl _ _]) hb41 ⟨.inr ⟨_, rfl, fun h => h⟩, .inr ⟨_, rfl, fun h => h⟩, trivial⟩ rfl (fun hA => satI_c vars L (cnfB_spec (by simp at hA; exact hA.1)).2.2 (by omega) (cnfB_spec (by simp at hA; exact hA.1)).1) rfl rfl) rfl rfl rfl (by decide) (.inl ⟨_, rfl, rfl⟩) rfl (by decide) ?_
 refine rv (v := .bool _) (v_pick (.inl rfl) (.inl rfl) (.inr ⟨_, rfl, fun h h2 => by simp_all⟩)) ?_
 refine r_nil ?_
 refine a_cond rfl (fun ht21 => ?_) (fun ht21 => ?_)
 ·
  skip
  refine a_seq ?_
  refine a_region ?_
  refine rv (v := .nilp) (v_assign il nf) ?_
  refine rv (v := .bool _) (v_assign il nf) ?_
  refine r_nil ?_
  refine a_ret ?_
  refine retL (rs := [.tmp 2, .tmp 3]) [(2, _), (3, _)] ⟨Weak.rfl, Weak.rfl, trivial⟩ rfl Tryz.results20 (by decide) ⟨by decide, by decide, rfl⟩ (by decide) (by decide) (l2_eq ?_ (bool_eq ?_)) rfl
  all_goals rfl
 ·
  skip
  refine a_skip ?_
  refine a_seq ?_
  exfalso
  unfold gmB at hg; cases h1 : cnfB vars L <;> cases h2 : decide (vars ≤ 6) <;> cases h3 : decide (0 ≤ fW vars L) <;> simp_all <;> omega
end Go.Av
namespace Go.Av
open Go Go.Proofs Go.Sort
set_option maxRecDepth 10000
theorem hb45 : hasBody Tryz.prog 45 = true := by kernel_rfl
theorem tvar_c (vars : Int) (L : List (List Int)) (a : List Int) (hv : 0 ≤ vars ∧ vars ≤ 6) (hca : clB vars a = true) : ACall Tryz.prog 22 [.pp [.int .i64 vars, .sl (sls L) L.length, .sl (blcells (ovA vars L)) (3 ^ vars.toNat), .sl (icells (spA vars L)) (3 ^ vars.toNat), .sl (icells (szA vars L)) (3 ^ vars.toNat), .sl (icells (shA vars L)) (3 ^ vars.toNat)] 0, .sl (icells a) a.length] [] (.int .i64 (bask vars L a)) [] := by
 have hn := (pow36 hv).2
 have hla := clB_len hca
 have hlt := codeA_cl hca
 have hol := opens_len (vars := vars) (by omega) a
 have hsl := szA_len vars L
 refine ACall.intro Tryz.func22 rfl (N := 56) rfl (by decide) (by simp) ?_
 refine a_seq ?_
 refine a_region ?_
 refine rv (v := .int _ _) (v_assign il nf) ?_
 refine r_nil ?_
 refine a_seq ?_
 refine a_region ?_
 refine rv (v := .sl _ _) (v_move il nf) ?_
 refine rn (v := .int _ _) (q_call (vs := [.sl _ _]) (args := [.sl _ _]) hb45 ⟨il, trivial⟩ rfl (fun hA => codeOf_c vars a hca) rfl rfl) ?_
 refine rv (v := .int _ _) (v_assign il nf) ?_
 refine r_nil ?_
 refine a_seq ?_
 refine a_seq ?_
 refine a_region ?_
 refine rv (v := .pp _ _) (v_move il nf) ?_
 refine rv (v := .pp _ _) (v_nilCheck il rfl) ?_
 refine rv (v := .pp _ _) (v_fieldAddr_pp fo72_0 il) ?_
 refine rv (v := .pp _ _) (v_fieldAddr_pp fo29_0 il) ?_
 refine rv (v := .int _ _) (v_load_pp ta3 il (fun _ => rfl) rfl) ?_
 refine rv (v := .sl _ _) (v_move il nf) ?_
 refine rn (v := .sl _ _) (QSem.cast (q_callZ (vs := [.int _ _, .sl _ _]) (args := [.int .i64 _, .sl _ _]) hb46 ⟨il, il, trivial⟩ rfl (fun hA => openVars_c vars a (by omega) (by omega)) (ic_noSh _) (ic_noRef _)) (sl_shZ (ic_pure _))) ?_
 refine rv (v := .int _ _) (v_len_sl sl40 il) ?_
 refine rv (v := .int _ _) (v_move il nf) ?_
 refine r_nil ?_
 refine a_block ?_
 refine a_loop (X := Nat) (fun k => look [(0, .pp [.int .i64 vars, .sl (sls L) L.length, .sl (blcells (ovA vars L)) (3 ^ vars.toNat), .sl (icells (spA vars L)) (3 ^ vars.toNat), .sl (icells (szA vars L)) (3 ^ vars.toNat), .sl (icells (shA vars L)) (3 ^ vars.toNat)] 0), (1, .sl (icells a) a.length), (5, .int .i64 (((codeA a) : Nat) : Int)), (16, .sl (icells (opensL vars a)) (opensL vars a).length), (17, .int .i64 (((opensL vars a).length : Nat) : Int)), (18, .int .i64 ((k : Nat) : Int))]) (fun k => k ≤ (opensL vars a).length ∧ ∀ j, j < k → (fun j => decide (zSz (codeA a) (szA vars L) (gd (opensL vars a) j) = gd (szA vars L) (codeA a))) j = false) (fun k => (opensL vars a).length - k) 0 (ent_look ⟨Weak.of_eq rfl, Weak.of_eq rfl, Weak.of_eq rfl, Weak.of_eq rfl, Weak.of_eq rfl, Weak.of_eq rfl, trivial⟩) ⟨Nat.zero_le _, fun j h => by omega⟩ (fun k hG => ?_)
 obtain ⟨g1, g2⟩ := hG
 refine a_seq ?_
 refine a_region ?_
 refine rv (v := .bool _) (v_lss il il) ?_
 refine r_nil ?_
 refine a_seq ?_
 refine a_cond rfl (fun ht19 => ?_) (fun ht19 => ?_)
 ·
  skip
  refine a_skip ?_
  refine a_seq ?_
  refine a_block ?_
  refine a_seq ?_
  have hk : k < (opensL vars a).length := (by simp at ht19; omega)
  have hov := opens_gd hk
  have hcn := cNo_lt hca hov.1 hov.2
  have hpb := pow6k (k := (((gd (opensL vars a) k) - 1).toNat)) (by omega)
  refine a_region ?_
  refine rv (v := .pp _ _) (v_indexAddr_sl es40 il il (fun _ => ⟨by omega, by omega, icells_ne hk⟩)) ?_
  refine rv (v := .int .i64 (gd (opensL vars a) k)) (v_load_pp ta3 il (fun _ => by rw [Nat.mul_one]; exact icells_get (gd_get hk)) rfl) ?_
  refine rv (v := .int _ _) (v_assign il nf) ?_
  refine r_nil ?_
  refine a_seq ?_
  refine a_region_any mixed (by kernel_rfl) ?_
  refine yv (v := .pp _ _) (v_move il nf) ?_
  refine yv (v := .pp _ _) (v_nilCheck il rfl) ?_
  refine yv (v := .pp _ _) (v_fieldAddr_pp fo72_3 il) ?_
  refine yv (v := .sl _ _) (v_load_pp ta40 il (fun _ => rfl) rfl) ?_
  refine yv (v := .int _ _) (v_move il nf) ?_
  refine yv (v := .int _ _) (v_move il nf) ?_
  refine yv (v := .int .i64 (((((gd (opensL vars a) k) - 1).toNat) : Nat) : Int)) ((v_sub il il (fun _ => by omega)).cast (int_eq (by omega))) ?_
  refine y_new (v := .int _ _) (q_call (vs := [.int _ _]) (args := [.int .i64 _]) hb42 ⟨.inl rfl, trivial⟩ rfl (fun hA => pow3_c (((gd (opensL vars a) k) - 1).toNat) (by omega)) rfl rfl) rfl rfl (by decide) (by kernel_rfl) ?_
  refine yv (v := .int .i64 (((cNo (codeA a) (gd (opensL vars a) k)) : Nat) : Int)) ((v_add il il (fun _ => by omega)).cast (int_eq (by unfold cNo; push_cast; rfl))) ?_
  refine yv (v := .pp _ _) (v_indexAddr_sl es40 il il (fun _ => ⟨by omega, by omega, icells_ne (show cNo (codeA a) (gd (opensL vars a) k) < (szA vars L).length by omega)⟩)) ?_
  refine yv (v := .int .i64 (gd (szA vars L) (cNo (codeA a) (gd (opensL vars a) k)))) (v_load_pp ta3 il (fun _ => by rw [Nat.mul_one]; exact icells_get (gd_get (by omega))) rfl) ?_
  refine yv (v := .pp _ _) (v_move il nf) ?_
  refine yv (v := .pp _ _) (v_nilCheck il rfl) ?_
  refine yv (v := .pp _ _) (v_fieldAddr_pp fo72_3 il) ?_
  refine yv (v := .sl _ _) (v_load_pp ta40 il (fun _ => rfl) rfl) ?_
  refine yv (v := .int _ _) (v_move il nf) ?_
  refine yv (v := .int _ _) (v_move il nf) ?_
  refine yv (v := .int .i64 (((((gd (opensL vars a) k) - 1).toNat) : Nat) : Int)) ((v_sub il il (fun _ => by omega)).cast (int_eq (by omega))) ?_
  refine y_new (v := .int _ _) (q_call (vs := [.int _ _]) (args := [.int .i64 _]) hb42 ⟨.inl rfl, trivial⟩ rfl (fun hA => pow3_c (((gd (opensL vars a) k) - 1).toNat) (by omega)) rfl rfl) rfl rfl (by decide) (by kernel_rfl) ?_
  refine yv (v := .int _ _) (v_mul il il (fun _ => by omega)) ?_
  refine yv (v := .int .i64 (((cYes (codeA a) (gd (opensL vars a) k)) : Nat) : Int)) ((v_add il il (fun _ => by omega)).cast (int_eq (by unfold cYes; push_cast; rfl))) ?_
  refine yv (v := .pp _ _) (v_indexAddr_sl es40 il il (fun _ => ⟨by omega, by omega, icells_ne (show cYes (codeA a) (gd (opensL vars a) k) < (szA vars L).length by omega)⟩)) ?_
  refine yv (v := .int .i64 (gd (szA vars L) (cYes (codeA a) (gd (opensL vars a) k)))) (v_load_pp ta3 il (fun _ => by rw [Nat.mul_one]; exact icells_get (gd_get (by omega))) rfl) ?_
  refine yv (v := .int .i64 (zSz (codeA a) (szA vars L) (gd (opensL vars a) k))) ((v_addW il il).cast (int_eq rfl)) ?_
  refine yv (v := .pp _ _) (v_move il nf) ?_
  refine yv (v := .pp _ _) (v_nilCheck il rfl) ?_
  refine yv (v := .pp _ _) (v_fieldAddr_pp fo72_3 il) ?_
  refine yv (v := .sl _ _) (v_load_pp ta40 il (fun _ => rfl) rfl) ?_
  refine yv (v := .int _ _) (v_move il nf) ?_
  refine yv (v := .pp _ _) (v_indexAddr_sl es40 il il (fun _ => ⟨by omega, by omega, icells_ne (show (codeA a) < (szA vars L).length by omega)⟩)) ?_
  refine yv (v := .int .i64 (gd (szA vars L) (codeA a))) (v_load_pp ta3 il (fun _ => by rw [Nat.mul_one]; exact icells_get (gd_get (by omega))) rfl) ?_
  refine yv (v := .bool _) (v_eql il il) ?_
  refine y_nil ?_
  refine a_cond rfl (fun ht53 => ?_) (fun ht53 => ?_)
  ·
   skip
   refine a_seq ?_
   refine a_pre (ent_look (L := [(0, .pp _ _), (1, .sl _ _), (5, .int _ _), (7, .int _ _), (16, .sl _ _), (17, .int _ _), (18, .int _ _)]) ⟨Weak.rfl, Weak.rfl, Weak.rfl, Weak.rfl, Weak.rfl, Weak.rfl, Weak.rfl, trivial⟩) ?_
   refine a_region ?_
   refine rv (v := .int _ _) (v_move il nf) ?_
   refine rv (v := .int _ _) (v_assign il nf) ?_
   refine r_nil ?_
   refine a_ret ?_
   refine ret1 Tryz.results22 (by decide) (by decide) (Weak.of_eq (int_eq ?_)) rfl Leaves.nil
   exact (bask_found hk ht53 g2).symm
  ·
   skip
   refine a_skip ?_
   refine a_pre (ent_look (L := [(0, .pp _ _), (1, .sl _ _), (5, .int _ _), (16, .sl _ _), (17, .int _ _), (18, .int _ _)]) ⟨Weak.rfl, Weak.rfl, Weak.rfl, Weak.rfl, Weak.rfl, Weak.rfl, trivial⟩) ?_
   refine a_region ?_
   refine rv (v := .int _ _) (v_add il il (fun _ => by omega)) ?_
   refine rv (v := .int _ _) (v_move il nf) ?_
   refine r_nil ?_
   refine ⟨k + 1, ent_look ⟨Weak.of_eq rfl, Weak.of_eq rfl, Weak.of_eq rfl, Weak.of_eq rfl, Weak.of_eq rfl, Weak.of_eq (int_eq (by omega)), trivial⟩, ⟨by omega, ok_stepF (p := (fun j => decide (zSz (codeA a) (szA vars L) (gd (opensL vars a) j) = gd (szA vars L) (codeA a)))) g2 ht53⟩, by omega⟩
 ·
  skip
  refine a_exit ?_
  refine a_seq ?_
  refine a_region ?_
  refine rv (v := .int _ _) (v_assign il nf) ?_
  refine r_nil ?_
  refine a_ret ?_
  refine ret1 Tryz.results22 (by decide) (by decide) (Weak.of_eq (int_eq ?_)) rfl Leaves.nil
  simp at ht19; exact (bask_none (fun j hj => g2 j (by omega))).symm
end Go.Av
namespace Go.Av
open Go Go.Proofs Go.Sort
set_option maxRecDepth 10000
theorem gaddU_c (vars : Int) (L : List (List Int)) (f : Nat) (g : List AV) (xs : List TN) (x : TN) (hl : xs.length ≤ 199) : ACall Tryz.prog 68 [.rp (INH, []) 0, .agg [.int .i64 x.1, .int .i64 x.2.1, .int .i64 x.2.2.1, .int .i64 x.2.2.2]] [.op [.int .i64 vars, .sl (sls L) L.length, .osl 4 (tncells xs) xs.length none, .fn f [.pp g 0] []]] (.bool (decide ((xs.length : Int) + 1 ≤ 199))) [.op [.int .i64 vars, .sl (sls L) L.length, .osl 4 (tncells (xs ++ [x])) (xs ++ [x]).length none, .fn f [.pp g 0] []]] := by
 refine ACall.intro Tryz.func68 rfl (N := 21) rfl (by decide) (by simp) ?_
 refine a_seq ?_
 refine a_region ?_
 refine rn (v := .op [.int _ _, .int _ _, .int _ _, .int _ _]) (q_box il rfl rfl) ?_
 refine rv (v := .bool _) (v_assign il nf) ?_
 refine r_nil ?_
 refine a_seq ?_
 refine a_region_z (n := 8) [[(5, true)], [(6, true)], [(7, true)], [(8, true)], [(9, true)], [(10, true)], [(11, true)], [(INH, false), (9, true), (11, false), (12, true)]] mixed (by kernel_rfl) ?_
 refine z_val (v := .rp _ _) (v_move il nf) rfl rfl (by decide) rfl (by kernel_rfl) ?_
 refine z_val (v := .rp _ _) (v_move il nf) rfl rfl (by decide) rfl (by kernel_rfl) ?_
 refine z_val (v := .rp _ _) (v_nilCheck il rfl) rfl rfl (by decide) rfl (by kernel_rfl) ?_
 refine z_val (v := .rp _ _) (v_fieldAddr_rp fo76_1 il) rfl rfl (by decide) rfl (by kernel_rfl) ?_
 refine z_val (v := .rsl _ _ _ _ _) (v_load_rp (c := .osl _ _ _ _) ta26 il rfl (fun _ => rfl)) rfl rfl (by decide) rfl (by kernel_rfl) ?_
 refine z_val (v := .agg [.int _ _, .int _ _, .int _ _, .int _ _]) (v_load_rpa1 ta55 il rfl rfl (fun _ => rfl) rfl) rfl rfl (by decide) rfl (by kernel_rfl) ?_
 refine z_new (v := .osl _ _ _ _) (q_sliceLit (n := 1) (parts := [(0, .tmp 10)]) lt26 rfl rfl rfl rfl) rfl rfl (by decide) rfl (by kernel_rfl) ?_
 refine z_append_own_ref rfl rfl ap26 rfl (by decide) (by decide) (by decide) (by decide) (by decide) (by decide) (by decide) (by decide) (by decide) rfl rfl rfl rfl rfl rfl (by rw [tncells_length]) rfl (by omega) rfl (by kernel_rfl) ?_
 refine z_nil ?_
 refine r_pre (ent_eq (t := 12) (v' := .osl 4 (tncells (xs ++ [x])) (xs ++ [x]).length none) (Weak.osl (by rw [tn_append]; rfl) (by simp))) ?_
 refine rv (v := .rp _ _) (v_nilCheck il rfl) ?_
 refine rv (v := .rp _ _) (v_fieldAddr_rp fo76_1 il) ?_
 refine r_step rfl (o_store_keep (t8 := 0) (v := .osl _ _ _ _) (y' := .op [.int _ _, .sl _ _, .osl _ _ _ _, .fn _ _ _]) rfl rfl ta26 (.inl rfl) (by decide) rfl (by decide) rfl (by simp [cellsOf, noRefL, noRef, tn_noRef]) rfl rfl rfl rfl rfl (Nat.le_of_ble_eq_true rfl) rfl rfl rfl rfl rfl) ?_
 refine r_nil ?_
 refine a_seq ?_
 refine a_region ?_
 refine rv (v := .rp _ _) (v_move il nf) ?_
 refine rv (v := .rp _ _) (v_nilCheck il rfl) ?_
 refine rv (v := .rp _ _) (v_fieldAddr_rp fo76_1 il) ?_
 refine rv (v := .rsl _ _ _ _ _) (v_load_rp (c := .osl _ _ _ _) ta26 il rfl (fun _ => rfl)) ?_
 refine rv (v := .int _ _) (v_len_rsl sl26 il) ?_
 refine rv (v := .bool _) (v_leq il il) ?_
 refine rv (v := .bool _) (v_assign il nf) ?_
 refine r_nil ?_
 refine a_ret ?_
 refine ret1 Tryz.results68 (by decide) (by decide) (Weak.of_eq (bool_eq ?_)) rfl (Leaves.one (Weak.of_eq rfl) rfl)
 rw [List.length_append]; rfl
end Go.Av
namespace Go.Av
open Go Go.Proofs Go.Sort
set_option maxRecDepth 10000
theorem ggrowU_c (vars : Int) (L : List (List Int)) (f : Nat) (g : List AV) (hb9 : hasBody Tryz.prog f = true) (ask : List Int → Int) (hcl : ∀ i, i < L.length → clB vars (gl L i) = true) (hL : L.length ≤ 60) (hA : AskOk vars ask) (hask : ∀ a, clB vars a = true → ACall Tryz.prog f [.pp g 0, .sl (icells a) a.length] [] (.int .i64 (ask a)) []) (d : Nat) (ih : ∀ a xs, clB vars a = true → 13 ≤ a.length + d → xs.length ≤ 199 → ACall Tryz.prog 44 [.rp (INH, []) 0, .sl (icells a) a.length] [.op [.int .i64 vars, .sl (sls L) L.length, .osl 4 (tncells xs) xs.length none, .fn f [.pp g 0] []]] (.bool (grI L ask d a xs).1) [.op [.int .i64 vars, .sl (sls L) L.length, .osl 4 (tncells (grI L ask d a xs).2) (grI L ask d a xs).2.length none, .fn f [.pp g 0] []]]) (a : List Int) (xs : List TN) (hca : clB vars a = true) (had : 13 ≤ a.length + (d + 1)) (hxl : xs.length ≤ 199) : ACall Tryz.prog 44 [.rp (INH, []) 0, .sl (icells a) a.length] [.op [.int .i64 vars, .sl (sls L) L.length, .osl 4 (tncells xs) xs.length none, .fn f [.pp g 0] []]] (.bool (grI L ask (d + 1) a xs).1) [.op [.int .i64 vars, .sl (sls L) L.length, .osl 4 (tncells (grI L ask (d + 1) a xs).2) (grI L ask (d + 1) a xs).2.length none, .fn f [.pp g 0] []]] := by
 have hv12 := (clB_spec hca).1
 have hla := clB_len hca
 have hfl := falP_len L a L.length
 refine ACall.intro Tryz.func44 rfl (N := 64) rfl (by decide) (by simp) ?_
 refine a_seq ?_
 refine a_region ?_
 refine rv (v := .bool _) (v_assign il nf) ?_
 refine r_nil ?_
 refine a_seq ?_
 refine a_seq ?_
 refine a_region ?_
 refine rv (v := .rp _ _) (v_move il nf) ?_
 refine rv (v := .rp _ _) (v_nilCheck il rfl) ?_
 refine rv (v := .rp _ _) (v_fieldAddr_rp fo76_0 il) ?_
 refine rv (v := .rp _ _) (v_fieldAddr_rp fo29_1 il) ?_
 refine rv (v := .sl _ _) (v_load_rp1 ta22 il rfl (fun _ => rfl) rfl) ?_
 refine rv (v := .sl _ _) (v_move il nf) ?_
 refine rn (v := .osl _ _ _ _) (q_call (vs := [.sl _ _, .sl _ _]) (args := [.sl _ _, .sl _ _]) hb65 ⟨il, il, trivial⟩ rfl (fun hA => iFal_c vars L a hcl (by omega) (by omega)) (ic_noSh _) (ic_noRef _)) ?_
 refine rv (v := .rsl _ _ _ _ _) (v_assign il nf) ?_
 refine r_pre (ent_reloc_sl (t := 5) rfl rfl) ?_
 refine r_nil ?_
 refine a_seq ?_
 refine a_region ?_
 refine rv (v := .rsl _ _ _ _ _) (v_move il nf) ?_
 refine rv (v := .int _ _) (v_len_rsl sl40 il) ?_
 refine rv (v := .bool _) (v_gtr il il) ?_
 refine r_nil ?_
 refine a_cond rfl (fun ht17 => ?_) (fun ht17 => ?_)
 ·
  skip
  refine a_seq ?_
  have hlf : 0 < (falP L a L.length).length := (by simpa using ht17)
  obtain ⟨hg1, hg2⟩ := grI_leaf2 (ask := ask) (d := d) (xs := xs) hlf
  refine a_region ?_
  refine rv (v := .rp _ _) (v_move il nf) ?_
  refine rv (v := .rsl _ _ _ _ _) (v_move il nf) ?_
  refine rv (v := .rp _ _) (v_indexAddr_rsl0 es40 il il (fun _ => by omega)) ?_
  refine rv (v := .int .i64 (gd (falP L a L.length) 0)) (v_load_rp1 ta3 il rfl (fun _ => icells_get (gd_get hlf)) rfl) ?_
  refine rv (v := .agg [.int _ _, .int _ _, .int _ _, .int _ _]) (v_build sp55 rfl rfl) ?_
  refine r_step rfl (o_callIOg (q := (INH, [])) (vs := [.rp _ _, .agg [.int _ _, .int _ _, .int _ _, .int _ _]]) (args := [.rp (INH, []) _, .agg [.int .i64 _, .int .i64 _, .int .i64 _, .int .i64 _]]) (cs0 := [.int _ _, .sl _ _, .osl _ _ _ _, .fn _ _ _]) (cs1 := [.int _ _, .sl _ _, .osl _ _ _ _, .fn _ _ _]) (res := .bool _) rfl hb68 rfl (by decide) ⟨.inl rfl, .inl rfl, trivial⟩ rfl rfl (gaddU_c vars L f g xs (0, 0, 0, gd (falP L a L.length) 0) hxl) rfl rfl rfl gobj_nrU (Nat.le_of_ble_eq_true rfl) (by decide) rfl) ?_
  refine rv (v := .bool _) (v_assign il nf) ?_
  refine r_nil ?_
  refine a_ret ?_
  refine ret1 Tryz.results44 (by decide) (by decide) (Weak.of_eq (bool_eq ?_)) rfl (Leaves.one (Weak.of_eq (by rw [hg2]; rfl)) rfl)
  exact hg1.symm
 ·
  skip
  refine a_skip ?_
  refine a_seq ?_
  have hnf : ¬ 0 < (falP L a L.length).length := (by simpa using ht17)
  refine a_region ?_
  refine rv (v := .rp _ _) (v_move il nf) ?_
  refine rv (v := .rp _ _) (v_nilCheck il rfl) ?_
  refine rv (v := .rp _ _) (v_fieldAddr_rp fo76_2 il) ?_
  refine rv (v := .fn _ _ _) (v_load_rp1 ta52 il rfl (fun _ => rfl) rfl) ?_
  refine rv (v := .sl _ _) (v_move il nf) ?_
  refine rn (v := .int _ _) (q_clo (vs := [.sl _ _]) (args := [.pp _ _, .sl _ _]) hb9 il ⟨il, trivial⟩ rfl (fun hA => hask a hca) rfl rfl) ?_
  refine rv (v := .int _ _) (v_assign il nf) ?_
  refine r_nil ?_
  refine a_seq ?_
  refine a_seq ?_
  by_cases h0 : ask a = 0
  ·
   skip
   refine a_region ?_
   refine rv (v := .int _ _) (v_move il nf) ?_
   refine rv (v := .bool true) ((v_eql il il).cast (bool_eq (decide_eq_true h0))) ?_
   refine rv (v := .bool _) (v_move il nf) ?_
   refine r_gval (v := .bool false) (v_off rfl rfl) rfl rfl rfl (by decide) (.inl ⟨_, rfl, rfl⟩) rfl (by decide) ?_
   refine r_gval (v := .bool false) (v_off rfl rfl) rfl rfl rfl (by decide) (.inl ⟨_, rfl, rfl⟩) rfl (by decide) ?_
   refine r_gval (v := .bool false) (v_off rfl rfl) rfl rfl rfl (by decide) (.inl ⟨_, rfl, rfl⟩) rfl (by decide) ?_
   refine r_gval (v := .bool false) (v_off rfl rfl) rfl rfl rfl (by decide) (.inl ⟨_, rfl, rfl⟩) rfl (by decide) ?_
   refine r_gval (v := .bool false) (v_off rfl rfl) rfl rfl rfl (by decide) (.inl ⟨_, rfl, rfl⟩) rfl (by decide) ?_
   refine r_gval (v := .bool false) (v_off rfl rfl) rfl rfl rfl (by decide) (.inl ⟨_, rfl, rfl⟩) rfl (by decide) ?_
   refine r_gval (v := .bool false) (v_off rfl rfl) rfl rfl rfl (by decide) (.inl ⟨_, rfl, rfl⟩) rfl (by decide) ?_
   refine rv (v := .bool _) (v_pick (.inl rfl) (.inl rfl) (.inr ⟨_, rfl, fun h h2 => by simp_all⟩)) ?_
   refine r_nil ?_
   refine a_cond rfl (fun ht40 => ?_) (fun ht40 => ?_)
   ·
    skip
    refine a_seq ?_
    refine a_pre (ent_look (L := [(0, .rp _ _), (1, .sl _ _), (4, .bool _), (6, .int _ _), (INH, .op [.int _ _, .sl _ _, .osl _ _ _ _, .fn _ _ _])]) ⟨Weak.rfl, Weak.rfl, Weak.rfl, Weak.rfl, Weak.rfl, trivial⟩) ?_
    obtain ⟨hg1, hg2⟩ := grI_none2 (ask := ask) (d := d) (xs := xs) hnf h0
    refine a_region ?_
    refine rv (v := .bool _) (v_assign il nf) ?_
    refine r_nil ?_
    refine a_ret ?_
    refine ret1 Tryz.results44 (by decide) (by decide) (Weak.of_eq (bool_eq ?_)) rfl (Leaves.one (Weak.of_eq (by rw [hg2]; rfl)) rfl)
    exact hg1.symm
   ·
    skip
    refine a_skip ?_
    refine a_seq ?_
    exfalso
    simp at ht40
  ·
   skip
   have hnw := ask_new hA hca h0
   have hgl := grI_len L ask d (setLit a (-(ask a))) xs hxl
   refine a_region ?_
   refine rv (v := .int _ _) (v_move il nf) ?_
   refine rv (v := .bool false) ((v_eql il il).cast (bool_eq (decide_eq_false h0))) ?_
   refine rv (v := .bool _) (v_move il nf) ?_
   refine r_act rfl rfl (by decide) (.inl ⟨_, rfl, rfl⟩) (VSem.step (v := .rp _ _) (v_move (.inl rfl) nf) rfl (by decide)) ?_
   refine r_act rfl rfl (by decide) (.inl ⟨_, rfl, rfl⟩) (VSem.step (v := .sl _ _) (v_move (.inl rfl) nf) rfl (by decide)) ?_
   refine r_act rfl rfl (by decide) (.inl ⟨_, rfl, rfl⟩) (VSem.step (v := .int _ _) (v_move (.inl rfl) nf) rfl (by decide)) ?_
   refine r_act rfl rfl (by decide) (.inl ⟨_, rfl, rfl⟩) (VSem.step (v := .int _ _) (v_neg (.inl rfl) (fun _ => by omega)) rfl (by decide)) ?_
   refine r_act rfl rfl (by decide) (.inl ⟨_, rfl, rfl⟩) (QSem.step (v := .sl _ _) (QSem.cast (q_callZ (vs := [.sl _ _, .int _ _]) (args := [.sl _ _, .int .i64 _]) hb69 ⟨.inl rfl, .inl rfl, trivial⟩ rfl (fun hA => set_c vars a _ hca hnw.1.1) (ic_noSh _) (ic_noRef _)) (sl_shZ (ic_pure _))) rfl (by decide)) ?_
   refine r_act rfl rfl (by decide) (.inl ⟨_, rfl, rfl⟩) (o_callIOg (q := (INH, [])) (vs := [.rp _ _, .sl _ _]) (args := [.rp (INH, []) _, .sl _ _]) (cs0 := [.int _ _, .sl _ _, .osl _ _ _ _, .fn _ _ _]) (cs1 := [.int _ _, .sl _ _, .osl _ _ _ _, .fn _ _ _]) (res := .bool _) rfl hb44 rfl (by decide) ⟨.inl rfl, .inl rfl, trivial⟩ rfl rfl (ih _ xs hnw.2.1.1 (by omega) hxl) rfl rfl rfl gobj_nrU (Nat.le_of_ble_eq_true rfl) (by decide) rfl) ?_
   refine r_act rfl rfl (by decide) (.inl ⟨_, rfl, rfl⟩) (VSem.step (v := .bool _) (v_not (.inl rfl)) rfl (by decide)) ?_
   refine rv (v := .bool _) (v_pick (.inl rfl) (.inl rfl) (.inl rfl)) ?_
   refine r_nil ?_
   refine a_cond rfl (fun ht40 => ?_) (fun ht40 => ?_)
   ·
    skip
    refine a_seq ?_
    refine a_pre (ent_look (L := [(0, .rp _ _), (1, .sl _ _), (4, .bool _), (6, .int _ _), (INH, .op [.int _ _, .sl _ _, .osl _ _ _ _, .fn _ _ _])]) ⟨Weak.rfl, Weak.rfl, Weak.rfl, Weak.rfl, Weak.rfl, trivial⟩) ?_
    have hy1 : (grI L ask d (setLit a (-(ask a))) xs).1 = false := (by simpa using ht40)
    obtain ⟨hg1, hg2⟩ := grI_low2 hnf h0 hy1
    refine a_region ?_
    refine rv (v := .bool _) (v_assign il nf) ?_
    refine r_nil ?_
    refine a_ret ?_
    refine ret1 Tryz.results44 (by decide) (by decide) (Weak.of_eq (bool_eq ?_)) rfl (Leaves.one (Weak.of_eq (by rw [hg2]; rfl)) rfl)
    exact hg1.symm
   ·
    skip
    refine a_skip ?_
    refine a_seq ?_
    refine a_pre (ent_look (L := [(0, .rp _ _), (1, .sl _ _), (4, .bool _), (6, .int _ _), (INH, .op [.int _ _, .sl _ _, .osl _ _ _ _, .fn _ _ _])]) ⟨Weak.rfl, Weak.rfl, Weak.rfl, Weak.rfl, Weak.rfl, trivial⟩) ?_
    have hy1 : (grI L ask d (setLit a (-(ask a))) xs).1 = true := (by simpa using ht40)
    have hgl1 := hgl.2 hy1
    have hgm := grI_len L ask d (setLit a (ask a)) (grI L ask d (setLit a (-(ask a))) xs).2 hgl1.1
    refine a_region ?_
    refine rv (v := .rp _ _) (v_move il nf) ?_
    refine rv (v := .rp _ _) (v_nilCheck il rfl) ?_
    refine rv (v := .rp _ _) (v_fieldAddr_rp fo76_1 il) ?_
    refine rv (v := .rsl _ _ _ _ _) (v_load_rp (c := .osl _ _ _ _) ta26 il rfl (fun _ => rfl)) ?_
    refine rv (v := .int _ _) (v_len_rsl sl26 il) ?_
    refine rv (v := .int _ _) (v_sub il il (fun _ => by omega)) ?_
    refine rv (v := .int _ _) (v_assign il nf) ?_
    refine r_nil ?_
    refine a_seq ?_
    refine a_seq ?_
    refine a_region ?_
    refine rv (v := .rp _ _) (v_move il nf) ?_
    refine rv (v := .sl _ _) (v_move il nf) ?_
    refine rv (v := .int _ _) (v_move il nf) ?_
    refine rn (v := .sl _ _) (QSem.cast (q_callZ (vs := [.sl _ _, .int _ _]) (args := [.sl _ _, .int .i64 _]) hb69 ⟨il, il, trivial⟩ rfl (fun hA => set_c vars a _ hca hnw.1.2) (ic_noSh _) (ic_noRef _)) (sl_shZ (ic_pure _))) ?_
    refine r_step rfl (o_callIOg (q := (INH, [])) (vs := [.rp _ _, .sl _ _]) (args := [.rp (INH, []) _, .sl _ _]) (cs0 := [.int _ _, .sl _ _, .osl _ _ _ _, .fn _ _ _]) (cs1 := [.int _ _, .sl _ _, .osl _ _ _ _, .fn _ _ _]) (res := .bool _) rfl hb44 rfl (by decide) ⟨.inl rfl, .inl rfl, trivial⟩ rfl rfl (ih _ _ hnw.2.2.1.1 (by omega) (by omega)) rfl rfl rfl gobj_nrU (Nat.le_of_ble_eq_true rfl) (by decide) rfl) ?_
    refine rv (v := .bool _) (v_not il) ?_
    refine r_nil ?_
    refine a_cond rfl (fun ht52 => ?_) (fun ht52 => ?_)
    ·
     skip
     refine a_seq ?_
     have hy2 : (grI L ask d (setLit a (ask a)) (grI L ask d (setLit a (-(ask a))) xs).2).1 = false := (by simpa using ht52)
     obtain ⟨hg1, hg2⟩ := grI_high2 hnf h0 hy1 hy2
     refine a_region ?_
     refine rv (v := .bool _) (v_assign il nf) ?_
     refine r_nil ?_
     refine a_ret ?_
     refine ret1 Tryz.results44 (by decide) (by decide) (Weak.of_eq (bool_eq ?_)) rfl (Leaves.one (Weak.of_eq (by rw [hg2]; rfl)) rfl)
     exact hg1.symm
    ·
     skip
     refine a_skip ?_
     refine a_seq ?_
     have hy2 : (grI L ask d (setLit a (ask a)) (grI L ask d (setLit a (-(ask a))) xs).2).1 = true := (by simpa using ht52)
     have hgm1 := hgm.2 hy2
     obtain ⟨hg1, hg2⟩ := grI_both2 hnf h0 hy1 hy2
     refine a_region ?_
     refine rv (v := .rp _ _) (v_move il nf) ?_
     refine rv (v := .int _ _) (v_move il nf) ?_
     refine rv (v := .int _ _) (v_move il nf) ?_
     refine rv (v := .rp _ _) (v_move il nf) ?_
     refine rv (v := .rp _ _) (v_nilCheck il rfl) ?_
     refine rv (v := .rp _ _) (v_fieldAddr_rp fo76_1 il) ?_
     refine rv (v := .rsl _ _ _ _ _) (v_load_rp (c := .osl _ _ _ _) ta26 il rfl (fun _ => rfl)) ?_
     refine rv (v := .int _ _) (v_len_rsl sl26 il) ?_
     refine rv (v := .int _ _) (v_sub il il (fun _ => by omega)) ?_
     refine rv (v := .agg [.int _ _, .int _ _, .int _ _, .int _ _]) (v_build sp55 rfl rfl) ?_
     refine r_step rfl (o_callIOg (q := (INH, [])) (vs := [.rp _ _, .agg [.int _ _, .int _ _, .int _ _, .int _ _]]) (args := [.rp (INH, []) _, .agg [.int .i64 _, .int .i64 _, .int .i64 _, .int .i64 _]]) (cs0 := [.int _ _, .sl _ _, .osl _ _ _ _, .fn _ _ _]) (cs1 := [.int _ _, .sl _ _, .osl _ _ _ _, .fn _ _ _]) (res := .bool _) rfl hb68 rfl (by decide) ⟨.inl rfl, .inl rfl, trivial⟩ rfl rfl (gaddU_c vars L f g (grI L ask d (setLit a (ask a)) (grI L ask d (setLit a (-(ask a))) xs).2).2 (ask a, ((grI L ask d (setLit a (-(ask a))) xs).2.length : Int) - 1, ((grI L ask d (setLit a (ask a)) (grI L ask d (setLit a (-(ask a))) xs).2).2.length : Int) - 1, 0) hgm1.1) rfl rfl rfl gobj_nrU (Nat.le_of_ble_eq_true rfl) (by decide) rfl) ?_
     refine rv (v := .bool _) (v_assign il nf) ?_
     refine r_nil ?_
     refine a_ret ?_
     refine ret1 Tryz.results44 (by decide) (by decide) (Weak.of_eq (bool_eq ?_)) rfl (Leaves.one (Weak.of_eq (by rw [hg2]; rfl)) rfl)
     exact hg1.symm
end Go.Av
namespace Go.Av
open Go Go.Proofs Go.Sort
set_option maxRecDepth 10000
theorem ggrowRU_c (vars : Int) (L : List (List Int)) (f : Nat) (g : List AV) (hb9 : hasBody Tryz.prog f = true) (ask : List Int → Int) (hcl : ∀ i, i < L.length → clB vars (gl L i) = true) (hL : L.length ≤ 60) (hA : AskOk vars ask) (hask : ∀ a, clB vars a = true → ACall Tryz.prog f [.pp g 0, .sl (icells a) a.length] [] (.int .i64 (ask a)) []) : ∀ (d : Nat) (a : List Int) (xs : List TN), clB vars a = true → 13 ≤ a.length + d → xs.length ≤ 199 → ACall Tryz.prog 44 [.rp (INH, []) 0, .sl (icells a) a.length] [.op [.int .i64 vars, .sl (sls L) L.length, .osl 4 (tncells xs) xs.length none, .fn f [.pp g 0] []]] (.bool (grI L ask d a xs).1) [.op [.int .i64 vars, .sl (sls L) L.length, .osl 4 (tncells (grI L ask d a xs).2) (grI L ask d a xs).2.length none, .fn f [.pp g 0] []]]
 | 0, a, xs, h1, h2, h3 => by have := clB_len h1; omega
 | d + 1, a, xs, h1, h2, h3 => ggrowU_c vars L f g hb9 ask hcl hL hA hask d (fun a xs h1 h2 h3 => ggrowRU_c vars L f g hb9 ask hcl hL hA hask d a xs h1 h2 h3) a xs h1 h2 h3
theorem grownU_c (vars : Int) (L : List (List Int)) (f : Nat) (g : List AV) (hb9 : hasBody Tryz.prog f = true) (ask : List Int → Int) (hcl : ∀ i, i < L.length → clB vars (gl L i) = true) (hL : L.length ≤ 60) (hca0 : clB vars [] = true) (hA : AskOk vars ask) (hask : ∀ a, clB vars a = true → ACall Tryz.prog f [.pp g 0, .sl (icells a) a.length] [] (.int .i64 (ask a)) [])  : ACall Tryz.prog 21 [.agg [.int .i64 vars, .sl (sls L) L.length], .fn f [.pp g 0] []] [] (.tup [.osl 4 (tncells (gwR L ask)) (gwR L ask).length none, .bool (gwB L ask)]) [] := by
 refine ACall.intro Tryz.func21 rfl (N := 18) rfl (by decide) (by simp) ?_
 refine a_seq ?_
 refine a_region ?_
 refine rn (v := .op [.int _ _, .sl _ _]) (q_box il rfl rfl) ?_
 refine rv (v := .nils) (v_assign il nf) ?_
 refine rv (v := .bool _) (v_assign il nf) ?_
 refine r_nil ?_
 refine a_seq ?_
 refine a_pre (ent_eq (t := 1) (v' := .fn f [.pp g 0] []) (Weak.of_eq rfl)) ?_
 refine a_region ?_
 refine rv (v := .agg [.int _ _, .sl _ _]) (v_load_rpa1 ta29 il rfl rfl (fun _ => rfl) rfl) ?_
 refine rv (v := .fn _ _ _) (v_mv rfl) ?_
 refine rv (v := .agg [.int _ _, .sl _ _, .nils, .fn _ _ _]) (v_build sp76 rfl rfl) ?_
 refine rn (v := .op [.int _ _, .sl _ _, .nils, .fn _ _ _]) (q_box il rfl (show pureL [.int .i64 vars, .sl (sls L) L.length, .nils, .fn f [.pp g 0] []] = true by rfl)) ?_
 refine rv (v := .rp _ _) (v_assign il nf) ?_
 refine r_pre (ent_reloc_op (t := 6) rfl rfl) ?_
 refine r_nil ?_
 refine a_seq ?_
 refine a_seq ?_
 refine a_pre (ent_nil_at (t := 6) (r := [2]) (sz := 4) rfl (.inl rfl) rfl rfl) ?_
 refine a_region ?_
 refine rv (v := .rp _ _) (v_move il nf) ?_
 refine r_step rfl (o_callIOg (q := (6, [])) (vs := [.rp _ _, .nils]) (args := [.rp (INH, []) _, .sl _ _]) (cs0 := [.int _ _, .sl _ _, .osl _ _ _ _, .fn _ _ _]) (cs1 := [.int _ _, .sl _ _, .osl _ _ _ _, .fn _ _ _]) (res := .bool _) rfl hb44 rfl (by decide) ⟨.inl rfl, .inl rfl, trivial⟩ rfl rfl (ggrowRU_c vars L f g hb9 ask hcl hL hA hask 13 [] [] hca0 (by omega) (by simp)) rfl rfl rfl gobj_nrU (Nat.le_of_ble_eq_true rfl) (by decide) rfl) ?_
 refine rv (v := .bool _) (v_not il) ?_
 refine r_nil ?_
 refine a_cond rfl (fun ht13 => ?_) (fun ht13 => ?_)
 ·
  skip
  refine a_seq ?_
  have hgn : gwB L ask = false := (by unfold gwB; simpa using ht13)
  have hgr : gwR L ask = [] := (by unfold gwR; rw [hgn]; rfl)
  refine a_region ?_
  refine rv (v := .nils) (v_assign il nf) ?_
  refine rv (v := .bool _) (v_assign il nf) ?_
  refine r_nil ?_
  refine a_pre (ent_nil (t := 4) (sz := 4) (cap := none) (.inl rfl) (fun _ h => by cases h)) ?_
  refine a_ret ?_
  refine retL (rs := [.tmp 4, .tmp 5]) [(4, .osl _ _ _ none), (5, _)] ⟨Weak.osl rfl rfl, Weak.rfl, trivial⟩ rfl Tryz.results21 (by decide) ⟨by decide, by decide, rfl⟩ (by decide) (by decide) (l2_eq (osl_eq2 ?_ ?_) (bool_eq ?_)) rfl
  all_goals (first | exact hgn.symm | (rw [hgr]; done) | (rw [hgr]; rfl))
 ·
  skip
  refine a_skip ?_
  refine a_seq ?_
  have hgn : gwB L ask = true := (by unfold gwB; simpa using ht13)
  have hgr : gwR L ask = (grI L ask 13 [] []).2 := (by unfold gwR; rw [hgn]; rfl)
  refine a_region ?_
  refine rv (v := .rp _ _) (v_move il nf) ?_
  refine rv (v := .rp _ _) (v_nilCheck il rfl) ?_
  refine rv (v := .rp _ _) (v_fieldAddr_rp fo76_1 il) ?_
  refine rv (v := .rsl _ _ _ _ _) (v_load_rp (c := .osl _ _ _ _) ta26 il rfl (fun _ => rfl)) ?_
  refine rv (v := .rsl _ _ _ _ _) (v_assign il nf) ?_
  refine r_pre (ent_reloc_sl (t := 4) rfl rfl) ?_
  refine rv (v := .bool _) (v_assign il nf) ?_
  refine r_nil ?_
  refine a_ret ?_
  refine retL (rs := [.tmp 4, .tmp 5]) [(4, .osl _ _ _ none), (5, _)] ⟨Weak.osl rfl rfl, Weak.rfl, trivial⟩ rfl Tryz.results21 (by decide) ⟨by decide, by decide, rfl⟩ (by decide) (by decide) (l2_eq (osl_eq2 ?_ ?_) (bool_eq ?_)) rfl
  all_goals (first | exact hgn.symm | (rw [hgr]; done) | (rw [hgr]; rfl))
end Go.Av
namespace Go.Av
open Go Go.Proofs Go.Sort
set_option maxRecDepth 10000
theorem hb20 : hasBody Tryz.prog 20 = true := by kernel_rfl
theorem hb21 : hasBody Tryz.prog 21 = true := by kernel_rfl
theorem hb22 : hasBody Tryz.prog 22 = true := by kernel_rfl
theorem iBst_c (vars : Int) (L : List (List Int)) (hk : CnfOk vars L) : ACall Tryz.prog 7 [.agg [.int .i64 vars, .sl (sls L) L.length]] [] (.tup [.osl 4 (tncells (btR vars L)) (btR vars L).length none, .bool (btB vars L)]) [] := by
 have hbT := hb22
 refine ACall.intro Tryz.func7 rfl (N := 19) rfl (by decide) (by simp) ?_
 refine a_seq ?_
 refine a_region ?_
 refine rn (v := .op [.int _ _, .sl _ _]) (q_box il rfl rfl) ?_
 refine rv (v := .nils) (v_assign il nf) ?_
 refine rv (v := .bool _) (v_assign il nf) ?_
 refine r_nil ?_
 refine a_seq ?_
 cases hg : gmB vars L
 ·
  skip
  refine a_region ?_
  refine rv (v := .agg [.int _ _, .sl _ _]) (v_load_rpa1 ta29 il rfl rfl (fun _ => rfl) rfl) ?_
  refine rn (v := .tup [.nilp, .bool _]) (q_call (vs := [.agg [.int _ _, .sl _ _]]) (args := [.agg [.int .i64 _, .sl _ _]]) hb20 ⟨il, trivial⟩ rfl (fun hA => gameNo_c vars L hk hg) rfl rfl) ?_
  refine rv (v := .tup [.nilp, .bool _]) (v_mv rfl) ?_
  refine rv (v := .nilp) (v_extract rfl rfl) ?_
  refine rv (v := .bool _) (v_extract rfl rfl) ?_
  refine rv (v := .nilp) (v_assign il nf) ?_
  refine rv (v := .bool _) (v_assign il nf) ?_
  refine r_nil ?_
  refine a_seq ?_
  refine a_seq ?_
  refine a_region ?_
  refine rv (v := .bool _) (v_move il nf) ?_
  refine rv (v := .bool _) (v_not il) ?_
  refine r_nil ?_
  refine a_cond rfl (fun ht12 => ?_) (fun ht12 => ?_)
  ·
   skip
   refine a_seq ?_
   have hb9 : btB vars L = false := (by unfold btB; rw [hg]; rfl)
   have hr9 : btR vars L = [] := (by unfold btR; rw [hg]; rfl)
   refine a_region ?_
   refine rv (v := .nils) (v_assign il nf) ?_
   refine rv (v := .bool _) (v_assign il nf) ?_
   refine r_nil ?_
   refine a_pre (ent_nil (t := 2) (sz := 4) (cap := none) (.inl rfl) (fun _ h => by cases h)) ?_
   refine a_ret ?_
   refine retL (rs := [.tmp 2, .tmp 3]) [(2, .osl _ _ _ none), (3, _)] ⟨Weak.osl rfl rfl, Weak.rfl, trivial⟩ rfl Tryz.results7 (by decide) ⟨by decide, by decide, rfl⟩ (by decide) (by decide) (l2_eq (osl_eq2 ?_ ?_) (bool_eq ?_)) rfl
   all_goals (first | exact hb9.symm | (rw [hr9]; done) | (rw [hr9]; rfl))
  ·
   skip
   refine a_skip ?_
   refine a_seq ?_
   exfalso
   simp at ht12
 ·
  skip
  refine a_region ?_
  refine rv (v := .agg [.int _ _, .sl _ _]) (v_load_rpa1 ta29 il rfl rfl (fun _ => rfl) rfl) ?_
  refine rn (v := .tup [.pp _ _, .bool _]) (QSem.cast (q_callFZ (vs := [.agg [.int _ _, .sl _ _]]) (args := [.agg [.int .i64 _, .sl _ _]]) hb20 ⟨il, trivial⟩ rfl (fun hA => gameOk_c vars L hk hg) rfl (by simp [noRef, noRefL, bl_noRef, ic_noRef])) (gm_shT)) ?_
  refine rv (v := .tup [.pp _ _, .bool _]) (v_mv rfl) ?_
  refine rv (v := .pp _ _) (v_extract rfl rfl) ?_
  refine rv (v := .bool _) (v_extract rfl rfl) ?_
  refine rv (v := .pp _ _) (v_assign il nf) ?_
  refine rv (v := .bool _) (v_assign il nf) ?_
  refine r_nil ?_
  refine a_seq ?_
  refine a_seq ?_
  refine a_region ?_
  refine rv (v := .bool _) (v_move il nf) ?_
  refine rv (v := .bool _) (v_not il) ?_
  refine r_nil ?_
  refine a_cond rfl (fun ht12 => ?_) (fun ht12 => ?_)
  ·
   skip
   exfalso
   simp at ht12
  ·
   skip
   refine a_skip ?_
   refine a_seq ?_
   obtain ⟨hcf, hv, hns⟩ := gm_spec hg
   have hcs := cnfB_spec hcf
   have hca0 := nil_cl hcf
   have hb9 : btB vars L = gwB L (bask vars L) := (by unfold btB; rw [hg]; rfl)
   have hr9 : btR vars L = gwR L (bask vars L) := (by unfold btR; rw [hg]; rfl)
   refine a_region ?_
   refine rv (v := .agg [.int _ _, .sl _ _]) (v_load_rpa1 ta29 il rfl rfl (fun _ => rfl) rfl) ?_
   refine rv (v := .pp _ _) (v_move il nf) ?_
   refine rv (v := .fn _ _ _) (v_makeFunc (first := [.tmp 14]) (caps := []) rfl rfl) ?_
   refine rn (v := .tup [.osl _ _ _ _, .bool _]) (q_call (vs := [.agg [.int _ _, .sl _ _], .fn _ _ _]) (args := [.agg [.int .i64 _, .sl _ _], .fn _ _ _]) hb21 ⟨il, il, trivial⟩ rfl (fun hA => grownU_c vars L 22 _ hbT (bask vars L) hcs.2.2 hcs.2.1 hca0 (bask_ok vars L) (fun a h => tvar_c vars L a hv h)) (by simp [noSh, noShL, tn_noSh]) (by simp [noRef, noRefL, tn_noRef])) ?_
   refine rv (v := .rsl _ _ _ _ _) (v_extract rfl rfl) ?_
   refine rv (v := .bool _) (v_extract rfl rfl) ?_
   refine rv (v := .rsl _ _ _ _ _) (v_assign il nf) ?_
   refine r_pre (ent_reloc_sl (t := 2) rfl rfl) ?_
   refine rv (v := .bool _) (v_assign il nf) ?_
   refine r_nil ?_
   refine a_ret ?_
   refine retL (rs := [.tmp 2, .tmp 3]) [(2, .osl _ _ _ none), (3, _)] ⟨Weak.osl rfl rfl, Weak.rfl, trivial⟩ rfl Tryz.results7 (by decide) ⟨by decide, by decide, rfl⟩ (by decide) (by decide) (l2_eq (osl_eq2 ?_ ?_) (bool_eq ?_)) rfl
   all_goals (first | exact hb9.symm | (rw [hr9]; done) | (rw [hr9]; rfl))
end Go.Av
namespace Go.Av
open Go
theorem bask_up (vars : Int) (L : List (List Int)) (a : List Int) : bask vars L a = ((upL vars).find? fun v => opB a v && decide (zSz (codeA a) (szA vars L) v = gd (szA vars L) (codeA a))).getD 0 := by
  unfold bask opensL
  rw [List.find?_filter]
  congr 2
  funext v
  cases opB a v <;> simp
theorem bup_found {vars : Int} {L : List (List Int)} {a : List Int} {i : Nat} (hi : i < (upL vars).length) (h : (opB a (gd (upL vars) i) && decide (zSz (codeA a) (szA vars L) (gd (upL vars) i) = gd (szA vars L) (codeA a))) = true) (hn : ∀ j, j < i → (opB a (gd (upL vars) j) && decide (zSz (codeA a) (szA vars L) (gd (upL vars) j) = gd (szA vars L) (codeA a))) = false) : bask vars L a = gd (upL vars) i := by
  rw [bask_up]
  have : (upL vars).find? (fun v => opB a v && decide (zSz (codeA a) (szA vars L) v = gd (szA vars L) (codeA a))) = some (gd (upL vars) i) := by
    rw [List.find?_eq_some_iff_getElem]
    refine ⟨h, i, hi, ?_, fun j hj => ?_⟩
    · have := gd_get hi; rw [List.getElem?_eq_getElem hi] at this; exact Option.some.inj this
    · have h2 := hn j hj
      have hjl : j < (upL vars).length := by omega
      have := gd_get hjl; rw [List.getElem?_eq_getElem hjl] at this
      rw [Option.some.inj this, h2]; rfl
  rw [this]; rfl
theorem bup_none {vars : Int} {L : List (List Int)} {a : List Int} (hn : ∀ j, j < (upL vars).length → (opB a (gd (upL vars) j) && decide (zSz (codeA a) (szA vars L) (gd (upL vars) j) = gd (szA vars L) (codeA a))) = false) : bask vars L a = 0 := by
  rw [bask_up]
  have : (upL vars).find? (fun v => opB a v && decide (zSz (codeA a) (szA vars L) v = gd (szA vars L) (codeA a))) = none := by
    rw [List.find?_eq_none]
    intro x hx
    obtain ⟨j, hj, rfl⟩ := mem_gd hx
    rw [hn j hj]; simp
  rw [this]; rfl
def opnP (a : List Int) (k : Nat) : List Int := (upP k).filter fun v => !(!opB a v)
theorem opnP_yes {a : List Int} {k : Nat} (h : opB a ((k + 1 : Nat) : Int) = true) : opnP a (k + 1) = opnP a k ++ [((k + 1 : Nat) : Int)] := by
  have h' : opB a ((k : Int) + 1) = true := h
  unfold opnP; rw [upP_succ, List.filter_append]; congr 1; simp [h']
theorem opnP_no {a : List Int} {k : Nat} (h : opB a ((k + 1 : Nat) : Int) = false) : opnP a (k + 1) = opnP a k := by
  have h' : opB a ((k : Int) + 1) = false := h
  unfold opnP; rw [upP_succ, List.filter_append]; simp [h']
theorem ofP_op {c k n : Nat} (h : k < n) : decide (((dgt c ((((k + 1 : Nat) : Int) - 1).toNat) : Nat) : Int) = 0) = opB (ofP c n) ((k + 1 : Nat) : Int) := by
  have h1 := ofP_open c n h
  have h2 : opB (ofP c n) ((k + 1 : Nat) : Int) = decide (dgt c k = 0) := h1
  rw [h2, show (((k + 1 : Nat) : Int) - 1).toNat = k by omega]
  exact decide_eq_decide.2 (by omega)
theorem opnP_all {vars : Int} {a : List Int} (h : 0 ≤ vars) : opnP a vars.toNat = opensL vars a := by unfold opnP opensL; rw [upL_eq (n := vars) (.inl (by omega))]
theorem flF_app {z : List Int → Int → Int} {c : Nat} {S O : List Int} {v : Int} : (flF z c S (O ++ [v])).2 = if (bif decide (O = []) then true else decide (z (flF z c S O).2 v < gd (flF z c S O).2 c)) = true then (flF z c S O).2.set c (z (flF z c S O).2 v) else (flF z c S O).2 := by
  rw [flF_snoc]
  unfold stF
  dsimp only
  rw [flF_fst]
  cases decide (O = []) <;> rfl
theorem sp_shT {P S H : List Int} {n : Nat} : shT (.agg [.osl 1 (icells P) n none, .osl 1 (icells S) n none, .osl 1 (icells H) n none]) = .agg [.sl (icells P) n, .sl (icells S) n, .sl (icells H) n] := by
  simp [shT, sh, shL, shL_id _ (ic_pure _).1 (ic_pure _).2]
section
variable {z : Nat → List Int → Int → Int} {d : Option Int} {x : Int} {vars : Int} {L : List (List Int)} {m : Nat}
theorem tabZ_t1 (h : conf L (ofP (3 ^ vars.toNat - 1 - m) vars.toNat) = true) : tabZ z (some x) vars L (m + 1) = (tabZ z (some x) vars L m).set (3 ^ vars.toNat - 1 - m) x := by rw [tabZ, h]; rfl
theorem tabZ_t0 (h : conf L (ofP (3 ^ vars.toNat - 1 - m) vars.toNat) = true) : tabZ z none vars L (m + 1) = tabZ z none vars L m := by rw [tabZ, h]; rfl
theorem tabZ_f (h : conf L (ofP (3 ^ vars.toNat - 1 - m) vars.toNat) = false) : tabZ z d vars L (m + 1) = (flF (z (3 ^ vars.toNat - 1 - m)) (3 ^ vars.toNat - 1 - m) (tabZ z d vars L m) (opensL vars (ofP (3 ^ vars.toNat - 1 - m) vars.toNat))).2 := by rw [tabZ, h]; rfl
end
def spB (vars : Int) (L : List (List Int)) : List Int := tabZ zpS none vars L (3 ^ vars.toNat)
theorem Weak.opL {cs ds : List AV} (h : WeakL cs ds) (hn : noRefL ds = true) : Weak (.op cs) (.op ds) := by
  refine ⟨fun β F w p v hv => ?_, fun r z hz ho => ?_⟩
  · simp only [Rep] at hv ⊢
    obtain ⟨_, b, arr, t, h1, h2, h3, h4⟩ := hv
    exact ⟨hn, b, arr, t, h1, h2, h3, h.repL h4⟩
  · cases r with
    | nil => exact ⟨.op cs, by simp [node], by simp [AV.isOwn]⟩
    | cons i r =>
      simp only [node, kids] at hz ⊢
      cases hi : ds[i]? with
      | none => rw [hi] at hz; cases hz
      | some d =>
        rw [hi] at hz
        obtain ⟨c, z', h1, h2, h3⟩ := h.node hi hz ho
        exact ⟨z', by rw [h1]; exact h2, h3⟩
theorem gm_bif (vars : Int) (L : List (List Int)) : (bif bif cnfB vars L then inR vars 0 6 else false then !decide (0 ≤ fW vars L) else false) = gmB vars L := by
  unfold gmB
  cases hc : cnfB vars L with
  | false => rfl
  | true =>
    have h0 := (cnfB_spec hc).1
    rw [show inR vars 0 6 = decide (vars ≤ 6) from by
      by_cases h : vars ≤ 6
      · rw [decide_eq_true h]; exact inR_spec.2 ⟨h0.1, h⟩
      · rw [decide_eq_false h]; cases h9 : inR vars 0 6 with
        | false => rfl
        | true => exact absurd (inR_spec.1 h9).2 h]
    cases decide (vars ≤ 6) <;> rfl
end Go.Av
namespace Go.Av
open Go Go.Proofs Go.Sort
set_option maxRecDepth 10000
theorem hb36 : hasBody Tryz.prog 36 = true := by kernel_rfl
theorem hb55 : hasBody Tryz.prog 55 = true := by kernel_rfl
theorem next9B_c (vars : Int) (L : List (List Int)) (a : List Int) (hv : 0 ≤ vars ∧ vars ≤ 6) (hca : clB vars a = true) : ACall Tryz.prog 31 [.agg [.int .i64 vars, .sl (sls L) L.length], .sl (icells a) a.length, .agg [.sl (icells (upL vars)) (upL vars).length, .bool false, .sl (icells (szA vars L)) (3 ^ vars.toNat)]] [] (.int .i64 (bask vars L a)) [] := by
 have hn := pow36 hv
 have hla := clB_len hca
 have hlt := codeA_cl hca
 have hul := upL_len (n := vars) (by omega)
 have hsl := szA_len vars L
 have hus := upL_sm (n := vars) (by omega)
 refine ACall.intro Tryz.func31 rfl (N := 74) rfl (by decide) (by simp) ?_
 refine a_seq ?_
 refine a_region ?_
 refine rn (v := .op [.int _ _, .sl _ _]) (q_box il rfl rfl) ?_
 refine rn (v := .op [.sl _ _, .bool _, .sl _ _]) (q_box il rfl rfl) ?_
 refine rv (v := .int _ _) (v_assign il nf) ?_
 refine r_nil ?_
 refine a_seq ?_
 refine a_seq ?_
 refine a_region ?_
 refine rv (v := .rp _ _) (v_fieldAddr_rp fo46_1 il) ?_
 refine rv (v := .bool _) (v_load_rp1 ta4 il rfl (fun _ => rfl) rfl) ?_
 refine r_nil ?_
 refine a_cond rfl (fun ht15 => ?_) (fun ht15 => ?_)
 ·
  skip
  exfalso
  simp at ht15
 ·
  skip
  refine a_skip ?_
  refine a_seq ?_
  refine a_region ?_
  refine rv (v := .int _ _) (v_assign il nf) ?_
  refine r_nil ?_
  refine a_seq ?_
  refine a_seq ?_
  refine a_region ?_
  refine rv (v := .rp _ _) (v_fieldAddr_rp fo46_2 il) ?_
  refine rv (v := .sl _ _) (v_load_rp1 ta40 il rfl (fun _ => rfl) rfl) ?_
  refine rv (v := .int _ _) (v_len_sl sl40 il) ?_
  refine rv (v := .bool _) (v_gtr il il) ?_
  refine r_nil ?_
  refine a_cond rfl (fun ht25 => ?_) (fun ht25 => ?_)
  ·
   skip
   refine a_region ?_
   refine rv (v := .sl _ _) (v_move il nf) ?_
   refine rn (v := .int _ _) (q_call (vs := [.sl _ _]) (args := [.sl _ _]) hb55 ⟨il, trivial⟩ rfl (fun hA => code12_c vars a hca) rfl rfl) ?_
   refine rv (v := .int _ _) (v_assign il nf) ?_
   refine r_nil ?_
   refine a_seq ?_
   refine a_seq ?_
   refine a_region ?_
   refine rv (v := .int _ _) (v_assign il nf) ?_
   refine r_nil ?_
   refine a_block ?_
   refine a_loop (X := Nat) (fun i => look [(1, .sl (icells a) a.length), (5, .op [.sl (icells (upL vars)) (upL vars).length, .bool false, .sl (icells (szA vars L)) (3 ^ vars.toNat)]), (8, .int .i64 (((codeA a) : Nat) : Int)), (9, .int .i64 ((i : Nat) : Int))]) (fun i => i ≤ (upL vars).length ∧ ∀ j, j < i → (fun j => opB a (gd (upL vars) j) && decide (zSz (codeA a) (szA vars L) (gd (upL vars) j) = gd (szA vars L) (codeA a))) j = false) (fun i => (upL vars).length - i) 0 (ent_look ⟨Weak.of_eq rfl, Weak.of_eq rfl, Weak.of_eq (int_eq (by first | rfl | (exfalso; have h9 := of_decide_eq_false ht25; omega))), Weak.of_eq rfl, trivial⟩) ⟨Nat.zero_le _, fun j h => by omega⟩ (fun i hG => ?_)
   obtain ⟨g1, g2⟩ := hG
   refine a_seq ?_
   refine a_seq ?_
   refine a_region ?_
   refine rv (v := .int _ _) (v_move il nf) ?_
   refine rv (v := .rp _ _) (v_fieldAddr_rp fo46_0 il) ?_
   refine rv (v := .sl _ _) (v_load_rp1 ta40 il rfl (fun _ => rfl) rfl) ?_
   refine rv (v := .int _ _) (v_len_sl sl40 il) ?_
   refine rv (v := .bool _) (v_lss il il) ?_
   refine r_nil ?_
   refine a_cond rfl (fun ht32 => ?_) (fun ht32 => ?_)
   ·
    skip
    refine a_skip ?_
    refine a_seq ?_
    refine a_block ?_
    refine a_seq ?_
    have hi : i < (upL vars).length := (by simp at ht32; omega)
    have hvi := mem_upL.1 (gd_mem hi)
    refine a_region ?_
    refine rv (v := .rp _ _) (v_fieldAddr_rp fo46_0 il) ?_
    refine rv (v := .sl _ _) (v_load_rp1 ta40 il rfl (fun _ => rfl) rfl) ?_
    refine rv (v := .int _ _) (v_move il nf) ?_
    refine rv (v := .pp _ _) (v_indexAddr_sl es40 il il (fun _ => ⟨by omega, by omega, icells_ne hi⟩)) ?_
    refine rv (v := .int .i64 (gd (upL vars) i)) (v_load_pp ta3 il (fun _ => by rw [Nat.mul_one]; exact icells_get (gd_get hi)) rfl) ?_
    refine rv (v := .int _ _) (v_assign il nf) ?_
    refine r_nil ?_
    refine a_seq ?_
    refine a_seq ?_
    refine a_region ?_
    refine rv (v := .sl _ _) (v_move il nf) ?_
    refine rv (v := .int _ _) (v_move il nf) ?_
    refine rn (v := .bool _) (q_call (vs := [.sl _ _, .int _ _]) (args := [.sl _ _, .int .i64 _]) hb56 ⟨il, il, trivial⟩ rfl (fun hA => open9_c a (gd (upL vars) i) (by omega) (by omega)) rfl rfl) ?_
    refine rv (v := .bool _) (v_not il) ?_
    refine r_nil ?_
    refine a_cond rfl (fun ht43 => ?_) (fun ht43 => ?_)
    ·
     skip
     refine a_exit ?_
     refine a_region ?_
     refine rv (v := .int _ _) (v_move il nf) ?_
     refine rv (v := .int _ _) (v_add il il (fun _ => by omega)) ?_
     refine rv (v := .int _ _) (v_assign il nf) ?_
     refine r_nil ?_
     refine ⟨i + 1, ent_look ⟨Weak.of_eq rfl, Weak.of_eq rfl, Weak.of_eq rfl, Weak.of_eq (int_eq (by omega)), trivial⟩, ⟨by omega, ok_stepF (p := (fun j => opB a (gd (upL vars) j) && decide (zSz (codeA a) (szA vars L) (gd (upL vars) j) = gd (szA vars L) (codeA a)))) g2 (by first | (rw [show opB a (gd (upL vars) i) = false by simpa using ht43]; rfl) | (rw [show decide (zSz (codeA a) (szA vars L) (gd (upL vars) i) = gd (szA vars L) (codeA a)) = false from ht72]; exact Bool.and_false _))⟩, by omega⟩
    ·
     skip
     refine a_skip ?_
     refine a_seq ?_
     refine a_seq ?_
     refine a_region ?_
     refine rv (v := .rp _ _) (v_fieldAddr_rp fo46_2 il) ?_
     refine rv (v := .sl _ _) (v_load_rp1 ta40 il rfl (fun _ => rfl) rfl) ?_
     refine rv (v := .int _ _) (v_len_sl sl40 il) ?_
     refine rv (v := .bool _) (v_eql il il) ?_
     refine r_nil ?_
     refine a_cond rfl (fun ht47 => ?_) (fun ht47 => ?_)
     ·
      skip
      exfalso
      have h9 := of_decide_eq_true ht47; omega
     ·
      skip
      refine a_skip ?_
      refine a_seq ?_
      have hop : opB a (gd (upL vars) i) = true := (by simpa using ht43)
      have hcn := cNo_lt hca hvi hop
      refine a_region ?_
      refine rv (v := .int _ _) (v_move il nf) ?_
      refine rv (v := .int _ _) (v_move il nf) ?_
      refine rn (v := .tup [.int _ _, .int _ _, .bool _]) (q_call (vs := [.int _ _, .int _ _]) (args := [.int .i64 _, .int .i64 _]) hb36 ⟨il, il, trivial⟩ rfl (fun hA => after12_c (codeA a) (gd (upL vars) i) (by omega) (by omega)) rfl rfl) ?_
      refine rv (v := .tup [.int _ _, .int _ _, .bool _]) (v_mv rfl) ?_
      refine rv (v := .int _ _) (v_extract rfl rfl) ?_
      refine rv (v := .int _ _) (v_extract rfl rfl) ?_
      refine rv (v := .bool _) (v_extract rfl rfl) ?_
      refine rv (v := .int _ _) (v_assign il nf) ?_
      refine rv (v := .int _ _) (v_assign il nf) ?_
      refine rv (v := .bool _) (v_assign il nf) ?_
      refine r_nil ?_
      refine a_seq ?_
      refine a_pre (ent_look (L := [(1, .sl _ _), (5, .op [.sl _ _, .bool _, .sl _ _]), (8, .int _ _), (9, .int _ _), (10, .int _ _), (11, .int _ _), (12, .int _ _)]) ⟨Weak.rfl, Weak.rfl, Weak.rfl, Weak.rfl, Weak.rfl, Weak.rfl, Weak.rfl, trivial⟩) ?_
      refine a_region_any mixed (by kernel_rfl) ?_
      refine yv (v := .rp _ _) (v_fieldAddr_rp fo46_2 il) ?_
      refine yv (v := .sl _ _) (v_load_rp1 ta40 il rfl (fun _ => rfl) rfl) ?_
      refine yv (v := .int _ _) (v_move il nf) ?_
      refine yv (v := .pp _ _) (v_indexAddr_sl es40 il il (fun _ => ⟨by omega, by omega, icells_ne (show cNo (codeA a) (gd (upL vars) i) < (szA vars L).length by omega)⟩)) ?_
      refine yv (v := .int .i64 (gd (szA vars L) (cNo (codeA a) (gd (upL vars) i)))) (v_load_pp ta3 il (fun _ => by rw [Nat.mul_one]; exact icells_get (gd_get (by omega))) rfl) ?_
      refine yv (v := .rp _ _) (v_fieldAddr_rp fo46_2 il) ?_
      refine yv (v := .sl _ _) (v_load_rp1 ta40 il rfl (fun _ => rfl) rfl) ?_
      refine yv (v := .int _ _) (v_move il nf) ?_
      refine yv (v := .pp _ _) (v_indexAddr_sl es40 il il (fun _ => ⟨by omega, by omega, icells_ne (show cYes (codeA a) (gd (upL vars) i) < (szA vars L).length by omega)⟩)) ?_
      refine yv (v := .int .i64 (gd (szA vars L) (cYes (codeA a) (gd (upL vars) i)))) (v_load_pp ta3 il (fun _ => by rw [Nat.mul_one]; exact icells_get (gd_get (by omega))) rfl) ?_
      refine yv (v := .int .i64 (zSz (codeA a) (szA vars L) (gd (upL vars) i))) ((v_addW il il).cast (int_eq rfl)) ?_
      refine yv (v := .rp _ _) (v_fieldAddr_rp fo46_2 il) ?_
      refine yv (v := .sl _ _) (v_load_rp1 ta40 il rfl (fun _ => rfl) rfl) ?_
      refine yv (v := .int _ _) (v_move il nf) ?_
      refine yv (v := .pp _ _) (v_indexAddr_sl es40 il il (fun _ => ⟨by omega, by omega, icells_ne (show (codeA a) < (szA vars L).length by omega)⟩)) ?_
      refine yv (v := .int .i64 (gd (szA vars L) (codeA a))) (v_load_pp ta3 il (fun _ => by rw [Nat.mul_one]; exact icells_get (gd_get (by omega))) rfl) ?_
      refine yv (v := .bool _) (v_eql il il) ?_
      refine y_nil ?_
      refine a_cond rfl (fun ht72 => ?_) (fun ht72 => ?_)
      ·
       skip
       refine a_seq ?_
       refine a_region ?_
       refine rv (v := .int _ _) (v_move il nf) ?_
       refine rv (v := .int _ _) (v_assign il nf) ?_
       refine r_nil ?_
       refine a_ret ?_
       refine ret1 Tryz.results31 (by decide) (by decide) (Weak.of_eq (int_eq ?_)) rfl Leaves.nil
       have hx : (fun j => opB a (gd (upL vars) j) && decide (zSz (codeA a) (szA vars L) (gd (upL vars) j) = gd (szA vars L) (codeA a))) i = true := (by show (opB a (gd (upL vars) i) && decide (zSz (codeA a) (szA vars L) (gd (upL vars) i) = gd (szA vars L) (codeA a))) = true; rw [hop, Bool.true_and]; exact ht72); exact (bup_found hi hx g2).symm
      ·
       skip
       refine a_skip ?_
       refine a_region ?_
       refine rv (v := .int _ _) (v_move il nf) ?_
       refine rv (v := .int _ _) (v_add il il (fun _ => by omega)) ?_
       refine rv (v := .int _ _) (v_assign il nf) ?_
       refine r_nil ?_
       refine ⟨i + 1, ent_look ⟨Weak.of_eq rfl, Weak.of_eq rfl, Weak.of_eq rfl, Weak.of_eq (int_eq (by omega)), trivial⟩, ⟨by omega, ok_stepF (p := (fun j => opB a (gd (upL vars) j) && decide (zSz (codeA a) (szA vars L) (gd (upL vars) j) = gd (szA vars L) (codeA a)))) g2 (by first | (rw [show opB a (gd (upL vars) i) = false by simpa using ht43]; rfl) | (rw [show decide (zSz (codeA a) (szA vars L) (gd (upL vars) i) = gd (szA vars L) (codeA a)) = false from ht72]; exact Bool.and_false _))⟩, by omega⟩
   ·
    skip
    refine a_exit ?_
    refine a_seq ?_
    refine a_region ?_
    refine rv (v := .int _ _) (v_assign il nf) ?_
    refine r_nil ?_
    refine a_ret ?_
    refine ret1 Tryz.results31 (by decide) (by decide) (Weak.of_eq (int_eq ?_)) rfl Leaves.nil
    simp at ht32; exact (bup_none (fun j hj => g2 j (by omega))).symm
  ·
   skip
   refine a_skip ?_
   refine a_seq ?_
   refine a_seq ?_
   refine a_region ?_
   refine rv (v := .int _ _) (v_assign il nf) ?_
   refine r_nil ?_
   refine a_block ?_
   refine a_loop (X := Nat) (fun i => look [(1, .sl (icells a) a.length), (5, .op [.sl (icells (upL vars)) (upL vars).length, .bool false, .sl (icells (szA vars L)) (3 ^ vars.toNat)]), (8, .int .i64 (((codeA a) : Nat) : Int)), (9, .int .i64 ((i : Nat) : Int))]) (fun i => i ≤ (upL vars).length ∧ ∀ j, j < i → (fun j => opB a (gd (upL vars) j) && decide (zSz (codeA a) (szA vars L) (gd (upL vars) j) = gd (szA vars L) (codeA a))) j = false) (fun i => (upL vars).length - i) 0 (ent_look ⟨Weak.of_eq rfl, Weak.of_eq rfl, Weak.of_eq (int_eq (by first | rfl | (exfalso; have h9 := of_decide_eq_false ht25; omega))), Weak.of_eq rfl, trivial⟩) ⟨Nat.zero_le _, fun j h => by omega⟩ (fun i hG => ?_)
   obtain ⟨g1, g2⟩ := hG
   refine a_seq ?_
   refine a_seq ?_
   refine a_region ?_
   refine rv (v := .int _ _) (v_move il nf) ?_
   refine rv (v := .rp _ _) (v_fieldAddr_rp fo46_0 il) ?_
   refine rv (v := .sl _ _) (v_load_rp1 ta40 il rfl (fun _ => rfl) rfl) ?_
   refine rv (v := .int _ _) (v_len_sl sl40 il) ?_
   refine rv (v := .bool _) (v_lss il il) ?_
   refine r_nil ?_
   refine a_cond rfl (fun ht32 => ?_) (fun ht32 => ?_)
   ·
    skip
    refine a_skip ?_
    refine a_seq ?_
    refine a_block ?_
    refine a_seq ?_
    have hi : i < (upL vars).length := (by simp at ht32; omega)
    have hvi := mem_upL.1 (gd_mem hi)
    refine a_region ?_
    refine rv (v := .rp _ _) (v_fieldAddr_rp fo46_0 il) ?_
    refine rv (v := .sl _ _) (v_load_rp1 ta40 il rfl (fun _ => rfl) rfl) ?_
    refine rv (v := .int _ _) (v_move il nf) ?_
    refine rv (v := .pp _ _) (v_indexAddr_sl es40 il il (fun _ => ⟨by omega, by omega, icells_ne hi⟩)) ?_
    refine rv (v := .int .i64 (gd (upL vars) i)) (v_load_pp ta3 il (fun _ => by rw [Nat.mul_one]; exact icells_get (gd_get hi)) rfl) ?_
    refine rv (v := .int _ _) (v_assign il nf) ?_
    refine r_nil ?_
    refine a_seq ?_
    refine a_seq ?_
    refine a_region ?_
    refine rv (v := .sl _ _) (v_move il nf) ?_
    refine rv (v := .int _ _) (v_move il nf) ?_
    refine rn (v := .bool _) (q_call (vs := [.sl _ _, .int _ _]) (args := [.sl _ _, .int .i64 _]) hb56 ⟨il, il, trivial⟩ rfl (fun hA => open9_c a (gd (upL vars) i) (by omega) (by omega)) rfl rfl) ?_
    refine rv (v := .bool _) (v_not il) ?_
    refine r_nil ?_
    refine a_cond rfl (fun ht43 => ?_) (fun ht43 => ?_)
    ·
     skip
     refine a_exit ?_
     refine a_region ?_
     refine rv (v := .int _ _) (v_move il nf) ?_
     refine rv (v := .int _ _) (v_add il il (fun _ => by omega)) ?_
     refine rv (v := .int _ _) (v_assign il nf) ?_
     refine r_nil ?_
     refine ⟨i + 1, ent_look ⟨Weak.of_eq rfl, Weak.of_eq rfl, Weak.of_eq rfl, Weak.of_eq (int_eq (by omega)), trivial⟩, ⟨by omega, ok_stepF (p := (fun j => opB a (gd (upL vars) j) && decide (zSz (codeA a) (szA vars L) (gd (upL vars) j) = gd (szA vars L) (codeA a)))) g2 (by first | (rw [show opB a (gd (upL vars) i) = false by simpa using ht43]; rfl) | (rw [show decide (zSz (codeA a) (szA vars L) (gd (upL vars) i) = gd (szA vars L) (codeA a)) = false from ht72]; exact Bool.and_false _))⟩, by omega⟩
    ·
     skip
     refine a_skip ?_
     refine a_seq ?_
     refine a_seq ?_
     refine a_region ?_
     refine rv (v := .rp _ _) (v_fieldAddr_rp fo46_2 il) ?_
     refine rv (v := .sl _ _) (v_load_rp1 ta40 il rfl (fun _ => rfl) rfl) ?_
     refine rv (v := .int _ _) (v_len_sl sl40 il) ?_
     refine rv (v := .bool _) (v_eql il il) ?_
     refine r_nil ?_
     refine a_cond rfl (fun ht47 => ?_) (fun ht47 => ?_)
     ·
      skip
      exfalso
      have h9 := of_decide_eq_true ht47; omega
     ·
      skip
      refine a_skip ?_
      refine a_seq ?_
      have hop : opB a (gd (upL vars) i) = true := (by simpa using ht43)
      have hcn := cNo_lt hca hvi hop
      refine a_region ?_
      refine rv (v := .int _ _) (v_move il nf) ?_
      refine rv (v := .int _ _) (v_move il nf) ?_
      refine rn (v := .tup [.int _ _, .int _ _, .bool _]) (q_call (vs := [.int _ _, .int _ _]) (args := [.int .i64 _, .int .i64 _]) hb36 ⟨il, il, trivial⟩ rfl (fun hA => after12_c (codeA a) (gd (upL vars) i) (by omega) (by omega)) rfl rfl) ?_
      refine rv (v := .tup [.int _ _, .int _ _, .bool _]) (v_mv rfl) ?_
      refine rv (v := .int _ _) (v_extract rfl rfl) ?_
      refine rv (v := .int _ _) (v_extract rfl rfl) ?_
      refine rv (v := .bool _) (v_extract rfl rfl) ?_
      refine rv (v := .int _ _) (v_assign il nf) ?_
      refine rv (v := .int _ _) (v_assign il nf) ?_
      refine rv (v := .bool _) (v_assign il nf) ?_
      refine r_nil ?_
      refine a_seq ?_
      refine a_pre (ent_look (L := [(1, .sl _ _), (5, .op [.sl _ _, .bool _, .sl _ _]), (8, .int _ _), (9, .int _ _), (10, .int _ _), (11, .int _ _), (12, .int _ _)]) ⟨Weak.rfl, Weak.rfl, Weak.rfl, Weak.rfl, Weak.rfl, Weak.rfl, Weak.rfl, trivial⟩) ?_
      refine a_region_any mixed (by kernel_rfl) ?_
      refine yv (v := .rp _ _) (v_fieldAddr_rp fo46_2 il) ?_
      refine yv (v := .sl _ _) (v_load_rp1 ta40 il rfl (fun _ => rfl) rfl) ?_
      refine yv (v := .int _ _) (v_move il nf) ?_
      refine yv (v := .pp _ _) (v_indexAddr_sl es40 il il (fun _ => ⟨by omega, by omega, icells_ne (show cNo (codeA a) (gd (upL vars) i) < (szA vars L).length by omega)⟩)) ?_
      refine yv (v := .int .i64 (gd (szA vars L) (cNo (codeA a) (gd (upL vars) i)))) (v_load_pp ta3 il (fun _ => by rw [Nat.mul_one]; exact icells_get (gd_get (by omega))) rfl) ?_
      refine yv (v := .rp _ _) (v_fieldAddr_rp fo46_2 il) ?_
      refine yv (v := .sl _ _) (v_load_rp1 ta40 il rfl (fun _ => rfl) rfl) ?_
      refine yv (v := .int _ _) (v_move il nf) ?_
      refine yv (v := .pp _ _) (v_indexAddr_sl es40 il il (fun _ => ⟨by omega, by omega, icells_ne (show cYes (codeA a) (gd (upL vars) i) < (szA vars L).length by omega)⟩)) ?_
      refine yv (v := .int .i64 (gd (szA vars L) (cYes (codeA a) (gd (upL vars) i)))) (v_load_pp ta3 il (fun _ => by rw [Nat.mul_one]; exact icells_get (gd_get (by omega))) rfl) ?_
      refine yv (v := .int .i64 (zSz (codeA a) (szA vars L) (gd (upL vars) i))) ((v_addW il il).cast (int_eq rfl)) ?_
      refine yv (v := .rp _ _) (v_fieldAddr_rp fo46_2 il) ?_
      refine yv (v := .sl _ _) (v_load_rp1 ta40 il rfl (fun _ => rfl) rfl) ?_
      refine yv (v := .int _ _) (v_move il nf) ?_
      refine yv (v := .pp _ _) (v_indexAddr_sl es40 il il (fun _ => ⟨by omega, by omega, icells_ne (show (codeA a) < (szA vars L).length by omega)⟩)) ?_
      refine yv (v := .int .i64 (gd (szA vars L) (codeA a))) (v_load_pp ta3 il (fun _ => by rw [Nat.mul_one]; exact icells_get (gd_get (by omega))) rfl) ?_
      refine yv (v := .bool _) (v_eql il il) ?_
      refine y_nil ?_
      refine a_cond rfl (fun ht72 => ?_) (fun ht72 => ?_)
      ·
       skip
       refine a_seq ?_
       refine a_region ?_
       refine rv (v := .int _ _) (v_move il nf) ?_
       refine rv (v := .int _ _) (v_assign il nf) ?_
       refine r_nil ?_
       refine a_ret ?_
       refine ret1 Tryz.results31 (by decide) (by decide) (Weak.of_eq (int_eq ?_)) rfl Leaves.nil
       have hx : (fun j => opB a (gd (upL vars) j) && decide (zSz (codeA a) (szA vars L) (gd (upL vars) j) = gd (szA vars L) (codeA a))) i = true := (by show (opB a (gd (upL vars) i) && decide (zSz (codeA a) (szA vars L) (gd (upL vars) i) = gd (szA vars L) (codeA a))) = true; rw [hop, Bool.true_and]; exact ht72); exact (bup_found hi hx g2).symm
      ·
       skip
       refine a_skip ?_
       refine a_region ?_
       refine rv (v := .int _ _) (v_move il nf) ?_
       refine rv (v := .int _ _) (v_add il il (fun _ => by omega)) ?_
       refine rv (v := .int _ _) (v_assign il nf) ?_
       refine r_nil ?_
       refine ⟨i + 1, ent_look ⟨Weak.of_eq rfl, Weak.of_eq rfl, Weak.of_eq rfl, Weak.of_eq (int_eq (by omega)), trivial⟩, ⟨by omega, ok_stepF (p := (fun j => opB a (gd (upL vars) j) && decide (zSz (codeA a) (szA vars L) (gd (upL vars) j) = gd (szA vars L) (codeA a)))) g2 (by first | (rw [show opB a (gd (upL vars) i) = false by simpa using ht43]; rfl) | (rw [show decide (zSz (codeA a) (szA vars L) (gd (upL vars) i) = gd (szA vars L) (codeA a)) = false from ht72]; exact Bool.and_false _))⟩, by omega⟩
   ·
    skip
    refine a_exit ?_
    refine a_seq ?_
    refine a_region ?_
    refine rv (v := .int _ _) (v_assign il nf) ?_
    refine r_nil ?_
    refine a_ret ?_
    refine ret1 Tryz.results31 (by decide) (by decide) (Weak.of_eq (int_eq ?_)) rfl Leaves.nil
    simp at ht32; exact (bup_none (fun j hj => g2 j (by omega))).symm
end Go.Av
namespace Go.Av
open Go Go.Proofs Go.Sort
set_option maxRecDepth 10000
theorem grow9B_c (vars : Int) (L : List (List Int)) (hcl : ∀ i, i < L.length → clB vars (gl L i) = true) (hL : L.length ≤ 60) (hv6 : 0 ≤ vars ∧ vars ≤ 6) (ask : List Int → Int) (hA : AskOk vars ask) (hnx : ∀ a, clB vars a = true → bask vars L a = ask a) (hU : ∀ a, clB vars a = true → ¬ 0 < (falP L a L.length).length → ask a ≠ 0) (d : Nat) (hd : d + 1 ≤ 13) (ih : ∀ (a : List Int) (xs : List TN), clB vars a = true → 13 ≤ a.length + d → xs.length ≤ 213 → ACall Tryz.prog 16 [.agg [.int .i64 vars, .sl (sls L) L.length], .sl (icells a) a.length, .agg [.sl (icells (upL vars)) (upL vars).length, .bool false, .sl (icells (szA vars L)) (3 ^ vars.toNat)], .rsl (INH, []) 4 0 xs.length none] [.osl 4 (tncells xs) xs.length none] (.osl 4 (tncells (grS L ask d a xs)) (grS L ask d a xs).length none) [.undef]) (a : List Int) (xs : List TN) (hca : clB vars a = true) (had : 13 ≤ a.length + (d + 1)) (hxl : xs.length ≤ 213) : ACall Tryz.prog 16 [.agg [.int .i64 vars, .sl (sls L) L.length], .sl (icells a) a.length, .agg [.sl (icells (upL vars)) (upL vars).length, .bool false, .sl (icells (szA vars L)) (3 ^ vars.toNat)], .rsl (INH, []) 4 0 xs.length none] [.osl 4 (tncells xs) xs.length none] (.osl 4 (tncells (grS L ask (d + 1) a xs)) (grS L ask (d + 1) a xs).length none) [.undef] := by
  have hla := clB_len hca
  have hsma := clB_sm hca
  have hv12 := (clB_spec hca).1
  have hl1 := grS_len L ask d (setLit a (-(ask a))) xs
  have hl2 := grS_len L ask d (setLit a (ask a)) (grS L ask d (setLit a (-(ask a))) xs)
  refine ACall.intro Tryz.func16 rfl (N := 59) rfl (by decide) (by simp) ?_
  refine a_seq ?_
  refine a_region ?_
  refine rn (v := .op [.int _ _, .sl _ _]) (q_box il rfl rfl) ?_
  refine rn (v := .op [.sl _ _, .bool _, .sl _ _]) (q_box il rfl rfl) ?_
  refine rv (v := .nils) (v_assign il nf) ?_
  refine r_nil ?_
  refine a_seq ?_
  refine a_seq ?_
  refine a_region ?_
  refine rv (v := .rsl _ _ _ _ _) (v_move il nf) ?_
  refine rv (v := .int _ _) (v_len_rsl sl26 il) ?_
  refine rv (v := .bool _) (v_gtr il il) ?_
  refine r_nil ?_
  refine a_cond rfl (fun ht14 => ?_) (fun ht14 => ?_)
  ·
    skip
    refine a_seq ?_
    have hfu : 199 < xs.length := (by simp at ht14; omega)
    refine a_region ?_
    refine rv (v := .rsl _ _ _ _ _) (v_move il nf) ?_
    refine rv (v := .rsl _ _ _ _ _) (v_assign il nf) ?_
    refine r_nil ?_
    refine a_pre (ent_reloc_sl (t := 8) rfl rfl) ?_
    refine a_ret ?_
    refine ret1 Tryz.results16 (by decide) (by decide) (Weak.osl ?_ ?_) rfl (Leaves.one Weak.undef rfl)
    all_goals (rw [grS_full hfu])
  ·
    skip
    refine a_skip ?_
    refine a_seq ?_
    refine a_seq ?_
    have hnf : ¬ 199 < xs.length := (by simp at ht14; omega)
    refine a_region ?_
    refine rv (v := .agg [.int _ _, .sl _ _]) (v_load_rpa1 ta29 il rfl rfl (fun _ => rfl) rfl) ?_
    refine rv (v := .sl _ _) (v_move il nf) ?_
    refine rn (v := .int _ _) (q_call (vs := [.agg [.int _ _, .sl _ _], .sl _ _]) (args := [.agg [.int .i64 _, .sl _ _], .sl _ _]) hb30 ⟨il, il, trivial⟩ rfl (fun hA => false9h_c vars L a hcl (by omega) (by omega)) rfl rfl) ?_
    refine rv (v := .int _ _) (v_assign il nf) ?_
    refine r_nil ?_
    refine a_seq ?_
    refine a_region ?_
    refine rv (v := .int _ _) (v_move il nf) ?_
    refine rv (v := .bool _) (v_geq il il) ?_
    refine r_nil ?_
    refine a_cond rfl (fun ht20 => ?_) (fun ht20 => ?_)
    ·
      skip
      refine a_seq ?_
      have hlf : 0 ≤ ffL L a := (by simpa using ht20)
      refine a_region ?_
      refine rv (v := .rsl _ _ _ _ _) (v_move il nf) ?_
      refine rv (v := .int _ _) (v_move il nf) ?_
      refine rv (v := .agg [.int _ _, .int _ _, .int _ _, .int _ _]) (v_build sp55 rfl rfl) ?_
      refine rn (v := .osl _ _ _ _) (q_sliceLit (n := 1) (parts := [(0, .tmp 23)]) lt26 rfl rfl rfl rfl) ?_
      refine r_pre (ent_reloc_sl (t := 21) rfl rfl) ?_
      refine r_step rfl (o_append rfl ap26 rfl (by decide) (by decide) rfl (src_lit (.inl rfl) rfl rfl rfl) rfl (by rw [tncells_length]) (by omega)) ?_
      refine rv (v := .rsl _ _ _ _ _) (v_assign il nf) ?_
      refine r_pre (ent_reloc_sl (t := 8) rfl rfl) ?_
      refine r_nil ?_
      refine a_ret ?_
      refine ret1 Tryz.results16 (by decide) (by decide) (Weak.osl ?_ ?_) rfl (Leaves.one Weak.undef rfl)
      · rw [grS_leaf hnf hlf, tn_append]; rfl
      · rw [grS_leaf hnf hlf]; simp
    ·
      skip
      refine a_skip ?_
      refine a_seq ?_
      have hlf : ¬ 0 ≤ ffL L a := (by simpa using ht20)
      have hnp : ¬ 0 < (falP L a L.length).length := (by rcases ff_fal (L := L) (a := a) with h | h; exact h.1; (exfalso; have := h.2.2; omega))
      have h0 := hU a hca hnp
      have hnw := ask_new hA hca h0
      obtain ⟨q1, q2, q3, q4⟩ := (hA a hca).resolve_left h0
      have hp1 : setLit a (-(ask a)) = putL a (-(ask a)) := set_put q4 (by rwa [Int.neg_neg])
      have hp2 : setLit a (ask a) = putL a (ask a) := set_put q3 q4
      refine a_region ?_
      refine rv (v := .agg [.int _ _, .sl _ _]) (v_load_rpa1 ta29 il rfl rfl (fun _ => rfl) rfl) ?_
      refine rv (v := .sl _ _) (v_move il nf) ?_
      refine rv (v := .agg [.sl _ _, .bool _, .sl _ _]) (v_load_rpa1 ta46 il rfl rfl (fun _ => rfl) rfl) ?_
      refine rn (v := .int .i64 (ask a)) (QSem.cast (q_call (vs := [.agg [.int _ _, .sl _ _], .sl _ _, .agg [.sl _ _, .bool _, .sl _ _]]) (args := [.agg [.int .i64 _, .sl _ _], .sl _ _, .agg [.sl _ _, .bool _, .sl _ _]]) hb31 ⟨il, il, il, trivial⟩ rfl (fun hA => next9B_c vars L a hv6 hca) rfl rfl) (int_eq (hnx a hca))) ?_
      refine rv (v := .int _ _) (v_assign il nf) ?_
      refine r_nil ?_
      refine a_seq ?_
      refine a_region ?_
      refine rv (v := .int _ _) (v_move il nf) ?_
      refine rv (v := .agg [.int _ _, .int _ _, .int _ _, .int _ _]) (v_build sp55 rfl rfl) ?_
      refine rn (v := .op [.int _ _, .int _ _, .int _ _, .int _ _]) (q_alloc zc55) ?_
      refine r_step rfl (o_store (v := .agg [.int _ _, .int _ _, .int _ _, .int _ _]) (y' := .op [.int _ _, .int _ _, .int _ _, .int _ _]) rfl rfl ta55 il il rfl rfl rfl rfl rfl rfl (Nat.le_of_ble_eq_true rfl) (by decide) rfl rfl) ?_
      refine r_nil ?_
      refine a_seq ?_
      refine a_region_z (n := 7) [[(32, true)], [(33, true)], [(34, true)], [(35, true)], [(36, true)], [(37, true)], [(38, true)]] mixed (by kernel_rfl) ?_
      refine z_val (v := .agg [.int _ _, .sl _ _]) (v_load_rpa1 ta29 il rfl rfl (fun _ => rfl) rfl) rfl rfl (by decide) rfl (by kernel_rfl) ?_
      refine z_val (v := .sl _ _) (v_move il nf) rfl rfl (by decide) rfl (by kernel_rfl) ?_
      refine z_val (v := .int _ _) (v_move il nf) rfl rfl (by decide) rfl (by kernel_rfl) ?_
      refine z_val (v := .int _ _) (v_neg il (fun _ => by omega)) rfl rfl (by decide) rfl (by kernel_rfl) ?_
      refine z_new (v := .sl (icells (setLit a (-(ask a)))) (setLit a (-(ask a))).length) (QSem.cast (QSem.cast (q_callZ (vs := [.sl _ _, .int _ _]) (args := [.sl _ _, .int .i64 _]) hb32 ⟨il, il, trivial⟩ rfl (fun hA => put_c a a.length (-(ask a)) ⟨rfl, by omega⟩ hsma (by omega)) (ic_noSh _) (ic_noRef _)) (sl_shZ (ic_pure _))) (sl_eq2 (by rw [hp1]) (by rw [hp1, putL_length]))) rfl rfl (by decide) rfl (by kernel_rfl) ?_
      refine z_val (v := .agg [.sl _ _, .bool _, .sl _ _]) (v_load_rpa1 ta46 il rfl rfl (fun _ => rfl) rfl) rfl rfl (by decide) rfl (by kernel_rfl) ?_
      refine z_val (v := .rsl _ _ _ _ _) (v_move il nf) rfl rfl (by decide) rfl (by kernel_rfl) ?_
      refine z_nil ?_
      refine r_step rfl (o_callIO (q := (INH, [])) (vs := [.agg [.int _ _, .sl _ _], .sl _ _, .agg [.sl _ _, .bool _, .sl _ _], .rsl _ _ _ _ _]) (args := [.agg [.int .i64 _, .sl _ _], .sl _ _, .agg [.sl _ _, .bool _, .sl _ _], .rsl (INH, []) _ _ _ _]) (x0 := .osl _ _ _ _) (x1 := .undef) (res := .osl _ _ _ _) rfl hb16 rfl (by decide) ⟨.inl rfl, .inl rfl, .inl rfl, .inl rfl, trivial⟩ rfl rfl (ih _ xs hnw.2.1.1 (by omega) (by omega)) rfl (tn_noSh _) (tn_noRef _) rfl rfl (Nat.le_of_ble_eq_true rfl) (by decide) rfl) ?_
      refine rv (v := .rsl _ _ _ _ _) (v_assign il nf) ?_
      refine r_pre (ent_reloc_sl (t := 3) rfl rfl) ?_
      refine r_nil ?_
      refine a_seq ?_
      refine a_pre (ent_look (L := [(1, .sl _ _), (3, .osl _ _ _ _), (4, .op [.int _ _, .sl _ _]), (6, .op [.sl _ _, .bool _, .sl _ _]), (8, .nils), (10, .int _ _), (11, .op [.int _ _, .int _ _, .int _ _, .int _ _])]) ⟨Weak.rfl, Weak.rfl, Weak.rfl, Weak.rfl, Weak.rfl, Weak.rfl, Weak.rfl, trivial⟩) ?_
      refine a_region ?_
      refine rv (v := .rsl _ _ _ _ _) (v_move il nf) ?_
      refine rv (v := .int _ _) (v_len_rsl sl26 il) ?_
      refine rv (v := .int _ _) (v_sub il il (fun _ => by omega)) ?_
      refine rv (v := .rp _ _) (v_fieldAddr_rp fo55_1 il) ?_
      refine r_step rfl (o_store (v := .int _ _) (y' := .op [.int _ _, .int _ _, .int _ _, .int _ _]) rfl rfl ta3 il il rfl rfl rfl rfl rfl rfl (Nat.le_of_ble_eq_true rfl) (by decide) rfl rfl) ?_
      refine r_nil ?_
      refine a_seq ?_
      refine a_region_z (n := 6) [[(44, true)], [(45, true)], [(46, true)], [(47, true)], [(48, true)], [(49, true)]] mixed (by kernel_rfl) ?_
      refine z_val (v := .agg [.int _ _, .sl _ _]) (v_load_rpa1 ta29 il rfl rfl (fun _ => rfl) rfl) rfl rfl (by decide) rfl (by kernel_rfl) ?_
      refine z_val (v := .sl _ _) (v_move il nf) rfl rfl (by decide) rfl (by kernel_rfl) ?_
      refine z_val (v := .int _ _) (v_move il nf) rfl rfl (by decide) rfl (by kernel_rfl) ?_
      refine z_new (v := .sl (icells (setLit a (ask a))) (setLit a (ask a)).length) (QSem.cast (QSem.cast (q_callZ (vs := [.sl _ _, .int _ _]) (args := [.sl _ _, .int .i64 _]) hb32 ⟨il, il, trivial⟩ rfl (fun hA => put_c a a.length (ask a) ⟨rfl, by omega⟩ hsma (by omega)) (ic_noSh _) (ic_noRef _)) (sl_shZ (ic_pure _))) (sl_eq2 (by rw [hp2]) (by rw [hp2, putL_length]))) rfl rfl (by decide) rfl (by kernel_rfl) ?_
      refine z_val (v := .agg [.sl _ _, .bool _, .sl _ _]) (v_load_rpa1 ta46 il rfl rfl (fun _ => rfl) rfl) rfl rfl (by decide) rfl (by kernel_rfl) ?_
      refine z_val (v := .rsl _ _ _ _ _) (v_move il nf) rfl rfl (by decide) rfl (by kernel_rfl) ?_
      refine z_nil ?_
      refine r_step rfl (o_callIO (q := (3, [])) (vs := [.agg [.int _ _, .sl _ _], .sl _ _, .agg [.sl _ _, .bool _, .sl _ _], .rsl _ _ _ _ _]) (args := [.agg [.int .i64 _, .sl _ _], .sl _ _, .agg [.sl _ _, .bool _, .sl _ _], .rsl (INH, []) _ _ _ _]) (x0 := .osl _ _ _ _) (x1 := .undef) (res := .osl _ _ _ _) rfl hb16 rfl (by decide) ⟨.inl rfl, .inl rfl, .inl rfl, .inl rfl, trivial⟩ rfl rfl (ih _ _ hnw.2.2.1.1 (by omega) (by omega)) rfl (tn_noSh _) (tn_noRef _) rfl rfl (Nat.le_of_ble_eq_true rfl) (by decide) rfl) ?_
      refine rv (v := .rsl _ _ _ _ _) (v_assign il nf) ?_
      refine r_pre (ent_reloc_sl (t := 3) rfl rfl) ?_
      refine r_nil ?_
      refine a_seq ?_
      refine a_region ?_
      refine rv (v := .rsl _ _ _ _ _) (v_move il nf) ?_
      refine rv (v := .int _ _) (v_len_rsl sl26 il) ?_
      refine rv (v := .int _ _) (v_sub il il (fun _ => by omega)) ?_
      refine rv (v := .rp _ _) (v_fieldAddr_rp fo55_2 il) ?_
      refine r_step rfl (o_store (v := .int _ _) (y' := .op [.int _ _, .int _ _, .int _ _, .int _ _]) rfl rfl ta3 il il rfl rfl rfl rfl rfl rfl (Nat.le_of_ble_eq_true rfl) (by decide) rfl rfl) ?_
      refine r_nil ?_
      refine a_seq ?_
      refine a_region ?_
      refine rv (v := .rsl _ _ _ _ _) (v_move il nf) ?_
      refine rv (v := .agg [.int _ _, .int _ _, .int _ _, .int _ _]) (v_load_rpa1 ta55 il rfl rfl (fun _ => rfl) rfl) ?_
      refine rn (v := .osl _ _ _ _) (q_sliceLit (n := 1) (parts := [(0, .tmp 56)]) lt26 rfl rfl rfl rfl) ?_
      refine r_pre (ent_reloc_sl (t := 55) rfl rfl) ?_
      refine r_step rfl (o_append rfl ap26 rfl (by decide) (by decide) rfl (src_lit (.inl rfl) rfl rfl rfl) rfl (by rw [tncells_length]) (by omega)) ?_
      refine rv (v := .rsl _ _ _ _ _) (v_assign il nf) ?_
      refine r_pre (ent_reloc_sl (t := 8) rfl rfl) ?_
      refine r_nil ?_
      refine a_ret ?_
      refine ret1 Tryz.results16 (by decide) (by decide) (Weak.osl ?_ ?_) rfl (Leaves.one Weak.undef rfl)
      · rw [grS_node hnf hlf, tn_append]; rfl
      · rw [grS_node hnf hlf]; simp
end Go.Av
namespace Go.Av
open Go Go.Proofs Go.Sort
set_option maxRecDepth 10000
theorem growR9B_c (vars : Int) (L : List (List Int)) (hcl : ∀ i, i < L.length → clB vars (gl L i) = true) (hL : L.length ≤ 60) (hv6 : 0 ≤ vars ∧ vars ≤ 6) (ask : List Int → Int) (hA : AskOk vars ask) (hnx : ∀ a, clB vars a = true → bask vars L a = ask a) (hU : ∀ a, clB vars a = true → ¬ 0 < (falP L a L.length).length → ask a ≠ 0) : ∀ (d : Nat), d ≤ 13 → ∀ (a : List Int) (xs : List TN), clB vars a = true → 13 ≤ a.length + d → xs.length ≤ 213 → ACall Tryz.prog 16 [.agg [.int .i64 vars, .sl (sls L) L.length], .sl (icells a) a.length, .agg [.sl (icells (upL vars)) (upL vars).length, .bool false, .sl (icells (szA vars L)) (3 ^ vars.toNat)], .rsl (INH, []) 4 0 xs.length none] [.osl 4 (tncells xs) xs.length none] (.osl 4 (tncells (grS L ask d a xs)) (grS L ask d a xs).length none) [.undef]
 | 0, hd, a, xs, h1, h2, h3 => by have := clB_len h1; omega
 | d + 1, hd, a, xs, h1, h2, h3 => grow9B_c vars L hcl hL hv6 ask hA hnx hU d hd (fun a xs h1 h2 h3 => growR9B_c vars L hcl hL hv6 ask hA hnx hU d (by omega) a xs h1 h2 h3) a xs h1 h2 h3
end Go.Av
