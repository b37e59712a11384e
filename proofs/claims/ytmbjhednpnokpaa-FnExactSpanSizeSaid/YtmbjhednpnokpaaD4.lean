/- Lemmas, part 4. -/
import Derived.Test.YtmbjhednpnokpaaD3
import Derived.Sort.LotD5
set_option linter.unusedVariables false
set_option linter.unusedSimpArgs false
namespace Go.Av
open Go Go.Proofs Go.Sort
set_option maxRecDepth 10000
theorem hb119 : hasBody Try.prog 119 = true := by kernel_rfl
theorem siftDown_c (f : Nat) (hb : hasBody Try.prog f = true) (cf : Int → Int → Int) (hc : ∀ x y, ACall Try.prog f [.int .i64 x, .int .i64 y] [] (.int .i64 (cf x y)) []) (d : Array Int) (n lo hi first : Nat) (hd : d.size = n) (hab : first + hi ≤ n ∧ lo ≤ n) (hn : n ≤ 1152921504606846976) : ACall Try.prog 119 [.rsl (INH, []) 1 0 n none, .int .i64 ((lo : Nat) : Int), .int .i64 ((hi : Nat) : Int), .int .i64 ((first : Nat) : Int), .fn f [] []] [.osl 1 (acells d) n none] (.tup []) [.osl 1 (acells (siftDown (ltc cf) hi first lo d)) n none] := by
 refine ACall.intro Try.func119 rfl (N := 82) rfl (by decide) (by simp) ?_
 refine a_seq ?_
 refine a_region ?_
 refine rv (v := .int _ _) (v_move il nf) ?_
 refine rv (v := .int _ _) (v_assign il nf) ?_
 refine r_nil ?_
 refine a_block ?_
 refine a_loop (X := (Nat × Array Int)) (fun x => look [(0, .rsl (INH, []) 1 0 n none), (2, .int .i64 ((hi : Nat) : Int)), (3, .int .i64 ((first : Nat) : Int)), (4, .fn f [] []), (10, .int .i64 ((x.1 : Nat) : Int)), (INH, .osl 1 (acells x.2) n none)]) (fun x => x.1 ≤ n ∧ x.2.size = n ∧ siftDown (ltc cf) hi first x.1 x.2 = siftDown (ltc cf) hi first lo d) (fun x => hi - x.1) (lo, d) (ent_look ⟨Weak.of_eq rfl, Weak.of_eq rfl, Weak.of_eq rfl, Weak.of_eq rfl, Weak.of_eq rfl, Weak.of_eq rfl, trivial⟩) ⟨by omega, hd, rfl⟩ (fun x hG => ?_)
 obtain ⟨g1, g2, g3⟩ := hG
 refine a_block ?_
 refine a_seq ?_
 refine a_region ?_
 refine rv (v := .int _ _) (v_move il nf) ?_
 refine rv (v := .int _ _) (v_mul il il (fun _ => by omega)) ?_
 refine rv (v := .int .i64 ((2 * x.1 + 1 : Nat) : Int)) ((v_add il il (fun _ => by omega)).cast (int_eq (by omega))) ?_
 refine rv (v := .int _ _) (v_assign il nf) ?_
 refine r_nil ?_
 refine a_seq ?_
 refine a_seq ?_
 refine a_region ?_
 refine rv (v := .int _ _) (v_move il nf) ?_
 refine rv (v := .int _ _) (v_move il nf) ?_
 refine rv (v := .bool _) (v_geq il il) ?_
 refine r_nil ?_
 refine a_cond rfl (fun ht18 => ?_) (fun ht18 => ?_)
 ·
  skip
  refine a_exit ?_
  refine ret0_look Try.results119 (by decide) ?_ rfl
  exact Weak.of_eq (osl_eq (by rw [← g3, sift_end (by simp at ht18; omega)]))
 ·
  skip
  refine a_skip ?_
  refine a_seq ?_
  refine a_seq ?_
  have hch : 2 * x.1 + 1 < hi := (by simp at ht18; omega)
  have hcb := chi_bd (lt := ltc cf) (hi := hi) (first := first) (r := x.1) (d := x.2) hch
  refine a_region_any mixed (by kernel_rfl) ?_
  refine yv (v := .int _ _) (v_move il nf) ?_
  refine yv (v := .int _ _) (v_add il il (fun _ => by omega)) ?_
  refine yv (v := .int _ _) (v_move il nf) ?_
  refine yv (v := .bool _) (v_lss il il) ?_
  refine yv (v := .bool _) (v_move il nf) ?_
  refine yg (v := .fn _ _ _) (v_move il nf).quiet rfl rfl rfl (by decide) (.inl ⟨_, rfl, rfl⟩) ?_
  refine yg (v := .rsl _ _ _ _ _) (v_move il nf).quiet rfl rfl rfl (by decide) (.inl ⟨_, rfl, rfl⟩) ?_
  refine yg (v := .int _ _) (v_move il nf).quiet rfl rfl rfl (by decide) (.inl ⟨_, rfl, rfl⟩) ?_
  refine yg (v := .int _ _) (v_move il nf).quiet rfl rfl rfl (by decide) (.inl ⟨_, rfl, rfl⟩) ?_
  refine yg (v := .int .i64 ((first + (2 * x.1 + 1) : Nat) : Int)) ((v_add (.inr ⟨_, rfl, fun h => h⟩) (.inr ⟨_, rfl, fun h => h⟩) (fun _ => by omega)).cast (int_eq (by omega))).quiet rfl rfl rfl (by decide) (.inl ⟨_, rfl, rfl⟩) ?_
  refine yg (v := .rp _ _) (v_indexAddr_rsl0 es42 (.inr ⟨_, rfl, fun h => h⟩) (.inr ⟨_, rfl, fun h => h⟩) (fun hA => by simp at hA; omega)).quiet rfl rfl rfl (by decide) (.inl ⟨_, rfl, rfl⟩) ?_
  refine yg (v := .int .i64 x.2[first + (2 * x.1 + 1)]!) (v_load_rp1 ta3 (.inr ⟨_, rfl, fun h => h⟩) rfl (fun _ => by rw [Nat.mul_one]; exact acells_get (by omega)) rfl).quiet rfl rfl rfl (by decide) (.inl ⟨_, rfl, rfl⟩) ?_
  refine yg (v := .rsl _ _ _ _ _) (v_move il nf).quiet rfl rfl rfl (by decide) (.inl ⟨_, rfl, rfl⟩) ?_
  refine yg (v := .int _ _) (v_move il nf).quiet rfl rfl rfl (by decide) (.inl ⟨_, rfl, rfl⟩) ?_
  refine yg (v := .int _ _) (v_move il nf).quiet rfl rfl rfl (by decide) (.inl ⟨_, rfl, rfl⟩) ?_
  refine yg (v := .int _ _) (v_add (.inr ⟨_, rfl, fun h => h⟩) (.inr ⟨_, rfl, fun h => h⟩) (fun _ => by omega)).quiet rfl rfl rfl (by decide) (.inl ⟨_, rfl, rfl⟩) ?_
  refine yg (v := .int .i64 ((first + (2 * x.1 + 1) + 1 : Nat) : Int)) ((v_add (.inr ⟨_, rfl, fun h => h⟩) il (fun _ => by omega)).cast (int_eq (by omega))).quiet rfl rfl rfl (by decide) (.inl ⟨_, rfl, rfl⟩) ?_
  refine yg (v := .rp _ _) (v_indexAddr_rsl0 es42 (.inr ⟨_, rfl, fun h => h⟩) (.inr ⟨_, rfl, fun h => h⟩) (fun hA => by simp at hA; omega)).quiet rfl rfl rfl (by decide) (.inl ⟨_, rfl, rfl⟩) ?_
  refine yg (v := .int .i64 x.2[first + (2 * x.1 + 1) + 1]!) (v_load_rp1 ta3 (.inr ⟨_, rfl, fun h => h⟩) rfl (fun hA => by simp at hA; rw [Nat.mul_one]; exact acells_get (by omega)) rfl).quiet rfl rfl rfl (by decide) (.inl ⟨_, rfl, rfl⟩) ?_
  refine yg (v := .int _ _) (q_clo (vs := [.int _ _, .int _ _]) (args := [.int .i64 _, .int .i64 _]) hb (.inr ⟨_, rfl, fun h => h⟩) ⟨.inr ⟨_, rfl, fun h => h⟩, .inr ⟨_, rfl, fun h => h⟩, trivial⟩ rfl (fun hA => hc _ _) rfl rfl) rfl rfl rfl (by decide) (.inl ⟨_, rfl, rfl⟩) ?_
  refine yg (v := .bool _) (v_lss (.inr ⟨_, rfl, fun h => h⟩) il).quiet rfl rfl rfl (by decide) (.inl ⟨_, rfl, rfl⟩) ?_
  refine yv (v := .bool _) (v_pick (.inl rfl) (.inr ⟨_, rfl, fun h h2 => by simp_all⟩) (.inl rfl)) ?_
  refine y_nil ?_
  refine a_cond rfl (fun ht40 => ?_) (fun ht40 => ?_)
  ·
   skip
   refine a_pre (ent_look (L := [(0, .rsl _ _ _ _ _), (2, .int _ _), (3, .int _ _), (4, .fn _ _ _), (10, .int _ _), (11, .int _ _), (INH, .osl _ _ _ _)]) ⟨Weak.rfl, Weak.rfl, Weak.rfl, Weak.rfl, Weak.rfl, Weak.rfl, Weak.rfl, trivial⟩) ?_
   refine a_region ?_
   refine rv (v := .int _ _) (v_move il nf) ?_
   refine rv (v := .int .i64 ((2 * x.1 + 2 : Nat) : Int)) ((v_add il il (fun _ => by omega)).cast (int_eq (by omega))) ?_
   refine rv (v := .int _ _) (v_assign il nf) ?_
   refine r_nil ?_
   refine a_seq ?_
   refine a_seq ?_
   have hcc : (decide (2 * x.1 + 1 + 1 < hi) && ltc cf x.2[first + (2 * x.1 + 1)]! x.2[first + (2 * x.1 + 1) + 1]!) = (bif decide (((2 * x.1 + 1 : Nat) : Int) + 1 < (hi : Int)) then decide (cf x.2[first + (2 * x.1 + 1)]! x.2[first + (2 * x.1 + 1) + 1]! < 0) else false) := (by rw [decide_eq_decide.2 (show 2 * x.1 + 1 + 1 < hi ↔ ((2 * x.1 + 1 : Nat) : Int) + 1 < (hi : Int) by omega)]; cases decide (((2 * x.1 + 1 : Nat) : Int) + 1 < (hi : Int)) <;> rfl)
   refine a_pre (ent_eq (t := 11) (v' := .int .i64 (((chi (ltc cf) hi first x.1 x.2) : Nat) : Int)) (Weak.of_eq (int_eq (by unfold chi; first | (rw [if_pos (by rw [hcc]; exact ht40)]; done) | (rw [if_neg (by rw [hcc, ht40]; decide)])))) ) ?_
   have hsw := sift_eq (lt := ltc cf) (hi := hi) (first := first) (r := x.1) (d := x.2) hch
   refine a_region_any mixed (by kernel_rfl) ?_
   refine yv (v := .fn _ _ _) (v_mv rfl) ?_
   refine yv (v := .rsl _ _ _ _ _) (v_move il nf) ?_
   refine yv (v := .int _ _) (v_move il nf) ?_
   refine yv (v := .int _ _) (v_move il nf) ?_
   refine yv (v := .int .i64 ((first + x.1 : Nat) : Int)) ((v_add il il (fun _ => by omega)).cast (int_eq (by omega))) ?_
   refine yv (v := .rp _ _) (v_indexAddr_rsl0 es42 il il (fun _ => by omega)) ?_
   refine yv (v := .int .i64 x.2[first + x.1]!) (v_load_rp1 ta3 il rfl (fun _ => by rw [Nat.mul_one]; exact acells_get (by omega)) rfl) ?_
   refine yv (v := .rsl _ _ _ _ _) (v_move il nf) ?_
   refine yv (v := .int _ _) (v_move il nf) ?_
   refine yv (v := .int _ _) (v_move il nf) ?_
   refine yv (v := .int .i64 ((first + (chi (ltc cf) hi first x.1 x.2) : Nat) : Int)) ((v_add il il (fun _ => by omega)).cast (int_eq (by omega))) ?_
   refine yv (v := .rp _ _) (v_indexAddr_rsl0 es42 il il (fun _ => by omega)) ?_
   refine yv (v := .int .i64 x.2[first + (chi (ltc cf) hi first x.1 x.2)]!) (v_load_rp1 ta3 il rfl (fun _ => by rw [Nat.mul_one]; exact acells_get (by omega)) rfl) ?_
   refine y_new (v := .int _ _) (q_clo (vs := [.int _ _, .int _ _]) (args := [.int .i64 _, .int .i64 _]) hb (.inl rfl) ⟨.inl rfl, .inl rfl, trivial⟩ rfl (fun hA => hc _ _) rfl rfl) rfl rfl (by decide) (by kernel_rfl) ?_
   refine yv (v := .bool _) (v_lss il il) ?_
   refine yv (v := .bool _) (v_not il) ?_
   refine y_nil ?_
   refine a_cond rfl (fun ht58 => ?_) (fun ht58 => ?_)
   ·
    skip
    refine a_ret ?_
    refine ret0_look Try.results119 (by decide) ?_ rfl
    exact Weak.of_eq (osl_eq (by rw [← g3, hsw, if_neg (by simpa [ltc] using ht58)]))
   ·
    skip
    refine a_skip ?_
    refine a_seq ?_
    have hl : ltc cf x.2[first + x.1]! x.2[first + (chi (ltc cf) hi first x.1 x.2)]! = true := (by simpa [ltc] using ht58)
    have hp1 : (first + x.1) * 1 + 1 ≤ (acells x.2).length := (by rw [acells_length]; omega)
    have hp2 : (first + (chi (ltc cf) hi first x.1 x.2)) * 1 + 1 ≤ ((acells x.2).set ((first + x.1) * 1) (.int .i64 x.2[(first + (chi (ltc cf) hi first x.1 x.2))]!)).length := (by rw [List.length_set, acells_length]; omega)
    have hset : ((acells x.2).set ((first + x.1) * 1) (.int .i64 x.2[(first + (chi (ltc cf) hi first x.1 x.2))]!)).set ((first + (chi (ltc cf) hi first x.1 x.2)) * 1) (.int .i64 x.2[(first + x.1)]!) = acells (swp x.2 (first + x.1) (first + (chi (ltc cf) hi first x.1 x.2))) := (by rw [Nat.mul_one, Nat.mul_one]; exact acells_swp _ _ _)
    refine a_region_w [(59, true), (60, true), (61, true), (62, true), (63, true), (64, true), (65, true), (66, true), (67, true), (68, true), (69, true), (70, true), (71, true), (72, true), (73, true), (74, true), (75, true), (76, true), (77, true), (78, true), (79, true), (INH, false), (80, true), (INH, false)] mixed (by kernel_rfl) ?_
    refine wv (v := .rsl _ _ _ _ _) (v_move il nf) ?_
    refine wv (v := .int _ _) (v_move il nf) ?_
    refine wv (v := .int _ _) (v_move il nf) ?_
    refine wv (v := .int .i64 ((first + x.1 : Nat) : Int)) ((v_add il il (fun _ => by omega)).cast (int_eq (by omega))) ?_
    refine wv (v := .rsl _ _ _ _ _) (v_move il nf) ?_
    refine wv (v := .int _ _) (v_move il nf) ?_
    refine wv (v := .int _ _) (v_move il nf) ?_
    refine wv (v := .int .i64 ((first + (chi (ltc cf) hi first x.1 x.2) : Nat) : Int)) ((v_add il il (fun _ => by omega)).cast (int_eq (by omega))) ?_
    refine wv (v := .rsl _ _ _ _ _) (v_move il nf) ?_
    refine wv (v := .int _ _) (v_move il nf) ?_
    refine wv (v := .int _ _) (v_move il nf) ?_
    refine wv (v := .int .i64 ((first + (chi (ltc cf) hi first x.1 x.2) : Nat) : Int)) ((v_add il il (fun _ => by omega)).cast (int_eq (by omega))) ?_
    refine wv (v := .rp _ _) (v_indexAddr_rsl0 es42 il il (fun _ => by omega)) ?_
    refine wv (v := .int .i64 x.2[first + (chi (ltc cf) hi first x.1 x.2)]!) (v_load_rp1 ta3 il rfl (fun _ => by rw [Nat.mul_one]; exact acells_get (by omega)) rfl) ?_
    refine wv (v := .rsl _ _ _ _ _) (v_move il nf) ?_
    refine wv (v := .int _ _) (v_move il nf) ?_
    refine wv (v := .int _ _) (v_move il nf) ?_
    refine wv (v := .int .i64 ((first + x.1 : Nat) : Int)) ((v_add il il (fun _ => by omega)).cast (int_eq (by omega))) ?_
    refine wv (v := .rp _ _) (v_indexAddr_rsl0 es42 il il (fun _ => by omega)) ?_
    refine wv (v := .int .i64 x.2[first + x.1]!) (v_load_rp1 ta3 il rfl (fun _ => by rw [Nat.mul_one]; exact acells_get (by omega)) rfl) ?_
    refine wv (v := .rp _ _) (v_indexAddr_rsl0 es42 il il (fun _ => by omega)) ?_
    refine w_store (v := .int _ _) (y' := .osl _ _ _ _) rfl rfl rfl ta3 (.inl rfl) (.inl rfl) rfl rfl rfl rfl rfl rfl hp1 (by decide) rfl rfl rfl (by kernel_rfl) ?_
    refine wv (v := .rp _ _) (v_indexAddr_rsl0 es42 il il (fun _ => by omega)) ?_
    refine w_store (v := .int _ _) (y' := .osl _ _ _ _) rfl rfl rfl ta3 (.inl rfl) (.inl rfl) rfl rfl rfl rfl rfl rfl hp2 (by decide) rfl (congrArg (fun c => AV.osl 1 c n none) hset) rfl (by kernel_rfl) ?_
    refine w_nil ?_
    refine a_pre (ent_look (L := [(0, .rsl _ _ _ _ _), (2, .int _ _), (3, .int _ _), (4, .fn _ _ _), (10, .int _ _), (11, .int _ _), (INH, .osl _ _ _ _)]) ⟨Weak.rfl, Weak.rfl, Weak.rfl, Weak.rfl, Weak.rfl, Weak.rfl, Weak.rfl, trivial⟩) ?_
    refine a_region ?_
    refine rv (v := .int _ _) (v_move il nf) ?_
    refine rv (v := .int _ _) (v_assign il nf) ?_
    refine r_nil ?_
    refine ⟨((chi (ltc cf) hi first x.1 x.2), swp x.2 (first + x.1) (first + (chi (ltc cf) hi first x.1 x.2))), ent_look ⟨Weak.of_eq rfl, Weak.of_eq rfl, Weak.of_eq rfl, Weak.of_eq rfl, Weak.of_eq rfl, Weak.of_eq rfl, trivial⟩, ⟨by omega, by rw [swp_size]; exact g2, by rw [← g3, sift_eq (r := x.1) (by omega), if_pos hl]⟩, by dsimp only; omega⟩
  ·
   skip
   refine a_skip ?_
   refine a_seq ?_
   refine a_seq ?_
   refine a_pre (ent_look (L := [(0, .rsl _ _ _ _ _), (2, .int _ _), (3, .int _ _), (4, .fn _ _ _), (10, .int _ _), (11, .int _ _), (INH, .osl _ _ _ _)]) ⟨Weak.rfl, Weak.rfl, Weak.rfl, Weak.rfl, Weak.rfl, Weak.rfl, Weak.rfl, trivial⟩) ?_
   have hcc : (decide (2 * x.1 + 1 + 1 < hi) && ltc cf x.2[first + (2 * x.1 + 1)]! x.2[first + (2 * x.1 + 1) + 1]!) = (bif decide (((2 * x.1 + 1 : Nat) : Int) + 1 < (hi : Int)) then decide (cf x.2[first + (2 * x.1 + 1)]! x.2[first + (2 * x.1 + 1) + 1]! < 0) else false) := (by rw [decide_eq_decide.2 (show 2 * x.1 + 1 + 1 < hi ↔ ((2 * x.1 + 1 : Nat) : Int) + 1 < (hi : Int) by omega)]; cases decide (((2 * x.1 + 1 : Nat) : Int) + 1 < (hi : Int)) <;> rfl)
   refine a_pre (ent_eq (t := 11) (v' := .int .i64 (((chi (ltc cf) hi first x.1 x.2) : Nat) : Int)) (Weak.of_eq (int_eq (by unfold chi; first | (rw [if_pos (by rw [hcc]; exact ht40)]; done) | (rw [if_neg (by rw [hcc, ht40]; decide)])))) ) ?_
   have hsw := sift_eq (lt := ltc cf) (hi := hi) (first := first) (r := x.1) (d := x.2) hch
   refine a_region_any mixed (by kernel_rfl) ?_
   refine yv (v := .fn _ _ _) (v_mv rfl) ?_
   refine yv (v := .rsl _ _ _ _ _) (v_move il nf) ?_
   refine yv (v := .int _ _) (v_move il nf) ?_
   refine yv (v := .int _ _) (v_move il nf) ?_
   refine yv (v := .int .i64 ((first + x.1 : Nat) : Int)) ((v_add il il (fun _ => by omega)).cast (int_eq (by omega))) ?_
   refine yv (v := .rp _ _) (v_indexAddr_rsl0 es42 il il (fun _ => by omega)) ?_
   refine yv (v := .int .i64 x.2[first + x.1]!) (v_load_rp1 ta3 il rfl (fun _ => by rw [Nat.mul_one]; exact acells_get (by omega)) rfl) ?_
   refine yv (v := .rsl _ _ _ _ _) (v_move il nf) ?_
   refine yv (v := .int _ _) (v_move il nf) ?_
   refine yv (v := .int _ _) (v_move il nf) ?_
   refine yv (v := .int .i64 ((first + (chi (ltc cf) hi first x.1 x.2) : Nat) : Int)) ((v_add il il (fun _ => by omega)).cast (int_eq (by omega))) ?_
   refine yv (v := .rp _ _) (v_indexAddr_rsl0 es42 il il (fun _ => by omega)) ?_
   refine yv (v := .int .i64 x.2[first + (chi (ltc cf) hi first x.1 x.2)]!) (v_load_rp1 ta3 il rfl (fun _ => by rw [Nat.mul_one]; exact acells_get (by omega)) rfl) ?_
   refine y_new (v := .int _ _) (q_clo (vs := [.int _ _, .int _ _]) (args := [.int .i64 _, .int .i64 _]) hb (.inl rfl) ⟨.inl rfl, .inl rfl, trivial⟩ rfl (fun hA => hc _ _) rfl rfl) rfl rfl (by decide) (by kernel_rfl) ?_
   refine yv (v := .bool _) (v_lss il il) ?_
   refine yv (v := .bool _) (v_not il) ?_
   refine y_nil ?_
   refine a_cond rfl (fun ht58 => ?_) (fun ht58 => ?_)
   ·
    skip
    refine a_ret ?_
    refine ret0_look Try.results119 (by decide) ?_ rfl
    exact Weak.of_eq (osl_eq (by rw [← g3, hsw, if_neg (by simpa [ltc] using ht58)]))
   ·
    skip
    refine a_skip ?_
    refine a_seq ?_
    have hl : ltc cf x.2[first + x.1]! x.2[first + (chi (ltc cf) hi first x.1 x.2)]! = true := (by simpa [ltc] using ht58)
    have hp1 : (first + x.1) * 1 + 1 ≤ (acells x.2).length := (by rw [acells_length]; omega)
    have hp2 : (first + (chi (ltc cf) hi first x.1 x.2)) * 1 + 1 ≤ ((acells x.2).set ((first + x.1) * 1) (.int .i64 x.2[(first + (chi (ltc cf) hi first x.1 x.2))]!)).length := (by rw [List.length_set, acells_length]; omega)
    have hset : ((acells x.2).set ((first + x.1) * 1) (.int .i64 x.2[(first + (chi (ltc cf) hi first x.1 x.2))]!)).set ((first + (chi (ltc cf) hi first x.1 x.2)) * 1) (.int .i64 x.2[(first + x.1)]!) = acells (swp x.2 (first + x.1) (first + (chi (ltc cf) hi first x.1 x.2))) := (by rw [Nat.mul_one, Nat.mul_one]; exact acells_swp _ _ _)
    refine a_region_w [(59, true), (60, true), (61, true), (62, true), (63, true), (64, true), (65, true), (66, true), (67, true), (68, true), (69, true), (70, true), (71, true), (72, true), (73, true), (74, true), (75, true), (76, true), (77, true), (78, true), (79, true), (INH, false), (80, true), (INH, false)] mixed (by kernel_rfl) ?_
    refine wv (v := .rsl _ _ _ _ _) (v_move il nf) ?_
    refine wv (v := .int _ _) (v_move il nf) ?_
    refine wv (v := .int _ _) (v_move il nf) ?_
    refine wv (v := .int .i64 ((first + x.1 : Nat) : Int)) ((v_add il il (fun _ => by omega)).cast (int_eq (by omega))) ?_
    refine wv (v := .rsl _ _ _ _ _) (v_move il nf) ?_
    refine wv (v := .int _ _) (v_move il nf) ?_
    refine wv (v := .int _ _) (v_move il nf) ?_
    refine wv (v := .int .i64 ((first + (chi (ltc cf) hi first x.1 x.2) : Nat) : Int)) ((v_add il il (fun _ => by omega)).cast (int_eq (by omega))) ?_
    refine wv (v := .rsl _ _ _ _ _) (v_move il nf) ?_
    refine wv (v := .int _ _) (v_move il nf) ?_
    refine wv (v := .int _ _) (v_move il nf) ?_
    refine wv (v := .int .i64 ((first + (chi (ltc cf) hi first x.1 x.2) : Nat) : Int)) ((v_add il il (fun _ => by omega)).cast (int_eq (by omega))) ?_
    refine wv (v := .rp _ _) (v_indexAddr_rsl0 es42 il il (fun _ => by omega)) ?_
    refine wv (v := .int .i64 x.2[first + (chi (ltc cf) hi first x.1 x.2)]!) (v_load_rp1 ta3 il rfl (fun _ => by rw [Nat.mul_one]; exact acells_get (by omega)) rfl) ?_
    refine wv (v := .rsl _ _ _ _ _) (v_move il nf) ?_
    refine wv (v := .int _ _) (v_move il nf) ?_
    refine wv (v := .int _ _) (v_move il nf) ?_
    refine wv (v := .int .i64 ((first + x.1 : Nat) : Int)) ((v_add il il (fun _ => by omega)).cast (int_eq (by omega))) ?_
    refine wv (v := .rp _ _) (v_indexAddr_rsl0 es42 il il (fun _ => by omega)) ?_
    refine wv (v := .int .i64 x.2[first + x.1]!) (v_load_rp1 ta3 il rfl (fun _ => by rw [Nat.mul_one]; exact acells_get (by omega)) rfl) ?_
    refine wv (v := .rp _ _) (v_indexAddr_rsl0 es42 il il (fun _ => by omega)) ?_
    refine w_store (v := .int _ _) (y' := .osl _ _ _ _) rfl rfl rfl ta3 (.inl rfl) (.inl rfl) rfl rfl rfl rfl rfl rfl hp1 (by decide) rfl rfl rfl (by kernel_rfl) ?_
    refine wv (v := .rp _ _) (v_indexAddr_rsl0 es42 il il (fun _ => by omega)) ?_
    refine w_store (v := .int _ _) (y' := .osl _ _ _ _) rfl rfl rfl ta3 (.inl rfl) (.inl rfl) rfl rfl rfl rfl rfl rfl hp2 (by decide) rfl (congrArg (fun c => AV.osl 1 c n none) hset) rfl (by kernel_rfl) ?_
    refine w_nil ?_
    refine a_pre (ent_look (L := [(0, .rsl _ _ _ _ _), (2, .int _ _), (3, .int _ _), (4, .fn _ _ _), (10, .int _ _), (11, .int _ _), (INH, .osl _ _ _ _)]) ⟨Weak.rfl, Weak.rfl, Weak.rfl, Weak.rfl, Weak.rfl, Weak.rfl, Weak.rfl, trivial⟩) ?_
    refine a_region ?_
    refine rv (v := .int _ _) (v_move il nf) ?_
    refine rv (v := .int _ _) (v_assign il nf) ?_
    refine r_nil ?_
    refine ⟨((chi (ltc cf) hi first x.1 x.2), swp x.2 (first + x.1) (first + (chi (ltc cf) hi first x.1 x.2))), ent_look ⟨Weak.of_eq rfl, Weak.of_eq rfl, Weak.of_eq rfl, Weak.of_eq rfl, Weak.of_eq rfl, Weak.of_eq rfl, trivial⟩, ⟨by omega, by rw [swp_size]; exact g2, by rw [← g3, sift_eq (r := x.1) (by omega), if_pos hl]⟩, by dsimp only; omega⟩
theorem reverse_c (f : Nat) (d : Array Int) (n a b : Nat) (hd : d.size = n) (hab : a < b ∧ b ≤ n) (hn : n ≤ 1152921504606846976) : ACall Try.prog 110 [.rsl (INH, []) 1 0 n none, .int .i64 ((a : Nat) : Int), .int .i64 ((b : Nat) : Int), .fn f [] []] [.osl 1 (acells d) n none] (.tup []) [.osl 1 (acells (reverseRange d a b)) n none] := by
 refine ACall.intro Try.func110 rfl (N := 34) rfl (by decide) (by simp) ?_
 refine a_seq ?_
 refine a_region ?_
 refine rv (v := .int _ _) (v_move il nf) ?_
 refine rv (v := .int _ _) (v_assign il nf) ?_
 refine r_nil ?_
 refine a_seq ?_
 refine a_region ?_
 refine rv (v := .int _ _) (v_move il nf) ?_
 refine rv (v := .int _ _) (v_sub il il (fun _ => by omega)) ?_
 refine rv (v := .int _ _) (v_assign il nf) ?_
 refine r_nil ?_
 refine a_block ?_
 refine a_loop (X := (Nat × Nat × Array Int)) (fun x => look [(0, .rsl (INH, []) 1 0 n none), (8, .int .i64 ((x.1 : Nat) : Int)), (9, .int .i64 ((x.2.1 : Nat) : Int)), (INH, .osl 1 (acells x.2.2) n none)]) (fun x => x.1 ≤ n ∧ x.2.1 < n ∧ x.2.2.size = n ∧ reverseLoop x.1 x.2.1 x.2.2 = reverseRange d a b) (fun x => x.2.1 - x.1) (a, b - 1, d) (ent_look ⟨Weak.of_eq rfl, Weak.of_eq rfl, Weak.of_eq (int_eq (by dsimp only; omega)), Weak.of_eq rfl, trivial⟩) ⟨by omega, by dsimp only; omega, hd, rfl⟩ (fun x hG => ?_)
 obtain ⟨g1, g2, g3, g4⟩ := hG
 refine a_seq ?_
 refine a_seq ?_
 refine a_region ?_
 refine rv (v := .int _ _) (v_move il nf) ?_
 refine rv (v := .int _ _) (v_move il nf) ?_
 refine rv (v := .bool _) (v_lss il il) ?_
 refine r_nil ?_
 refine a_cond rfl (fun ht15 => ?_) (fun ht15 => ?_)
 ·
  skip
  refine a_skip ?_
  refine a_block ?_
  refine a_seq ?_
  have hij : x.1 < x.2.1 := (by simpa using ht15)
  have hp1 : x.1 * 1 + 1 ≤ (acells x.2.2).length := (by rw [acells_length]; omega)
  have hp2 : x.2.1 * 1 + 1 ≤ ((acells x.2.2).set (x.1 * 1) (.int .i64 x.2.2[x.2.1]!)).length := (by rw [List.length_set, acells_length]; omega)
  have hset : ((acells x.2.2).set (x.1 * 1) (.int .i64 x.2.2[x.2.1]!)).set (x.2.1 * 1) (.int .i64 x.2.2[x.1]!) = acells (swp x.2.2 x.1 x.2.1) := (by rw [Nat.mul_one, Nat.mul_one]; exact acells_swp _ _ _)
  refine a_region_w [(16, true), (17, true), (18, true), (19, true), (20, true), (21, true), (22, true), (23, true), (24, true), (25, true), (26, true), (27, true), (28, true), (INH, false), (29, true), (INH, false)] mixed (by kernel_rfl) ?_
  refine wv (v := .rsl _ _ _ _ _) (v_move il nf) ?_
  refine wv (v := .int _ _) (v_move il nf) ?_
  refine wv (v := .rsl _ _ _ _ _) (v_move il nf) ?_
  refine wv (v := .int _ _) (v_move il nf) ?_
  refine wv (v := .rsl _ _ _ _ _) (v_move il nf) ?_
  refine wv (v := .int _ _) (v_move il nf) ?_
  refine wv (v := .rp _ _) (v_indexAddr_rsl0 es42 il il (fun _ => by omega)) ?_
  refine wv (v := .int .i64 x.2.2[x.2.1]!) (v_load_rp1 ta3 il rfl (fun _ => by rw [Nat.mul_one]; exact acells_get (by omega)) rfl) ?_
  refine wv (v := .rsl _ _ _ _ _) (v_move il nf) ?_
  refine wv (v := .int _ _) (v_move il nf) ?_
  refine wv (v := .rp _ _) (v_indexAddr_rsl0 es42 il il (fun _ => by omega)) ?_
  refine wv (v := .int .i64 x.2.2[x.1]!) (v_load_rp1 ta3 il rfl (fun _ => by rw [Nat.mul_one]; exact acells_get (by omega)) rfl) ?_
  refine wv (v := .rp _ _) (v_indexAddr_rsl0 es42 il il (fun _ => by omega)) ?_
  refine w_store (v := .int _ _) (y' := .osl _ _ _ _) rfl rfl rfl ta3 (.inl rfl) (.inl rfl) rfl rfl rfl rfl rfl rfl hp1 (by decide) rfl rfl rfl (by kernel_rfl) ?_
  refine wv (v := .rp _ _) (v_indexAddr_rsl0 es42 il il (fun _ => by omega)) ?_
  refine w_store (v := .int _ _) (y' := .osl _ _ _ _) rfl rfl rfl ta3 (.inl rfl) (.inl rfl) rfl rfl rfl rfl rfl rfl hp2 (by decide) rfl (congrArg (fun c => AV.osl 1 c n none) hset) rfl (by kernel_rfl) ?_
  refine w_nil ?_
  refine a_seq ?_
  refine a_region ?_
  refine rv (v := .int _ _) (v_move il nf) ?_
  refine rv (v := .int _ _) (v_add il il (fun _ => by omega)) ?_
  refine rv (v := .int _ _) (v_assign il nf) ?_
  refine r_nil ?_
  refine a_region ?_
  refine rv (v := .int _ _) (v_move il nf) ?_
  refine rv (v := .int _ _) (v_sub il il (fun _ => by omega)) ?_
  refine rv (v := .int _ _) (v_assign il nf) ?_
  refine r_nil ?_
  refine ⟨(x.1 + 1, x.2.1 - 1, swp x.2.2 x.1 x.2.1), ent_look ⟨Weak.of_eq rfl, Weak.of_eq (int_eq (by omega)), Weak.of_eq (int_eq (by dsimp only; omega)), Weak.of_eq rfl, trivial⟩, ⟨by dsimp only; omega, by dsimp only; omega, by rw [swp_size]; exact g3, by rw [← g4, reverse_more (i := x.1) hij]⟩, by dsimp only; omega⟩
 ·
  skip
  refine a_exit ?_
  refine ret0_look Try.results110 (by decide) ?_ rfl
  exact Weak.of_eq (osl_eq (by rw [← g4, reverse_end (by simpa using ht15)]))
theorem heapSort_c (f : Nat) (hb : hasBody Try.prog f = true) (cf : Int → Int → Int) (hc : ∀ x y, ACall Try.prog f [.int .i64 x, .int .i64 y] [] (.int .i64 (cf x y)) []) (d : Array Int) (n a b : Nat) (hd : d.size = n) (hab : a < b ∧ b ≤ n) (hn : n ≤ 1152921504606846976) : ACall Try.prog 107 [.rsl (INH, []) 1 0 n none, .int .i64 ((a : Nat) : Int), .int .i64 ((b : Nat) : Int), .fn f [] []] [.osl 1 (acells d) n none] (.tup []) [.osl 1 (acells (heapSort (ltc cf) d a b)) n none] := by
 refine ACall.intro Try.func107 rfl (N := 60) rfl (by decide) (by simp) ?_
 refine a_seq ?_
 refine a_region ?_
 refine rv (v := .int _ _) (v_move il nf) ?_
 refine rv (v := .int _ _) (v_assign il nf) ?_
 refine r_nil ?_
 refine a_seq ?_
 refine a_region ?_
 refine rv (v := .int _ _) (v_assign il nf) ?_
 refine r_nil ?_
 refine a_seq ?_
 refine a_region ?_
 refine rv (v := .int _ _) (v_move il nf) ?_
 refine rv (v := .int _ _) (v_move il nf) ?_
 refine rv (v := .int .i64 ((b - a : Nat) : Int)) ((v_sub il il (fun _ => by omega)).cast (int_eq (by omega))) ?_
 refine rv (v := .int _ _) (v_assign il nf) ?_
 refine r_nil ?_
 refine a_seq ?_
 refine a_seq ?_
 refine a_region ?_
 refine rv (v := .int _ _) (v_move il nf) ?_
 refine rv (v := .int _ _) (v_sub il il (fun _ => by omega)) ?_
 refine rv (v := .int _ _) (v_quo il il (fun _ => by omega)) ?_
 refine rv (v := .int _ _) (v_assign il nf) ?_
 refine r_nil ?_
 refine a_block ?_
 refine a_loop (X := (Nat × Array Int)) (fun x => look [(0, .rsl (INH, []) 1 0 n none), (3, .fn f [] []), (8, .int .i64 ((a : Nat) : Int)), (9, .int .i64 0), (10, .int .i64 ((b - a : Nat) : Int)), (11, .int .i64 ((x.1 : Nat) - 1 : Int)), (INH, .osl 1 (acells x.2) n none)]) (fun x => x.1 ≤ n ∧ x.2.size = n ∧ heapBuild (ltc cf) (b - a) a x.1 x.2 = heapBuild (ltc cf) (b - a) a ((b - a - 1) / 2 + 1) d) (fun x => x.1) ((b - a - 1) / 2 + 1, d) (ent_look ⟨Weak.of_eq rfl, Weak.of_eq rfl, Weak.of_eq rfl, Weak.of_eq rfl, Weak.of_eq rfl, Weak.of_eq (int_eq (by omega)), Weak.of_eq rfl, trivial⟩) ⟨by dsimp only; omega, hd, rfl⟩ (fun x hG => ?_)
 obtain ⟨g1, g2, g3⟩ := hG
 refine a_seq ?_
 refine a_seq ?_
 refine a_region ?_
 refine rv (v := .int _ _) (v_move il nf) ?_
 refine rv (v := .bool _) (v_geq il il) ?_
 refine r_nil ?_
 refine a_cond rfl (fun ht21 => ?_) (fun ht21 => ?_)
 ·
  skip
  refine a_skip ?_
  refine a_seq ?_
  refine a_block ?_
  have hx1 : 1 ≤ x.1 := (by simp at ht21; omega)
  refine a_region ?_
  refine rv (v := .rsl _ _ _ _ _) (v_move il nf) ?_
  refine rv (v := .int .i64 ((x.1 - 1 : Nat) : Int)) ((v_move il nf).cast (int_eq (by omega))) ?_
  refine rv (v := .int _ _) (v_move il nf) ?_
  refine rv (v := .int _ _) (v_move il nf) ?_
  refine rv (v := .fn _ _ _) (v_mv rfl) ?_
  refine r_step rfl (o_callIOk (q := (INH, [])) (vs := [.rsl _ _ _ _ _, .int _ _, .int _ _, .int _ _, .fn _ _ _]) (args := [.rsl (INH, []) _ _ _ _, .int .i64 _, .int .i64 _, .int .i64 _, .fn _ _ _]) (x0 := .osl _ _ _ _) (x1 := .osl _ _ _ _) (res := .tup []) rfl hb119 rfl (by decide) ⟨.inl rfl, .inl rfl, .inl rfl, .inl rfl, .inl rfl, trivial⟩ rfl rfl (siftDown_c f hb cf hc x.2 n (x.1 - 1) (b - a) a g2 (by omega) hn) (by simp [stays]; omega) rfl rfl rfl (ac_noSh _) (ac_noRef _) (Nat.le_of_ble_eq_true rfl) (by decide) rfl) ?_
  refine r_nil ?_
  refine a_region ?_
  refine rv (v := .int _ _) (v_move il nf) ?_
  refine rv (v := .int _ _) (v_sub il il (fun _ => by omega)) ?_
  refine rv (v := .int _ _) (v_assign il nf) ?_
  refine r_nil ?_
  refine ⟨(x.1 - 1, siftDown (ltc cf) (b - a) a (x.1 - 1) x.2), ent_look ⟨Weak.of_eq rfl, Weak.of_eq rfl, Weak.of_eq rfl, Weak.of_eq rfl, Weak.of_eq rfl, Weak.of_eq (int_eq (by omega)), Weak.of_eq rfl, trivial⟩, ⟨by dsimp only; omega, by rw [sift_size]; exact g2, by rw [← g3]; exact heapBuild_more (by omega)⟩, by dsimp only; omega⟩
 ·
  skip
  refine a_exit ?_
  refine a_seq ?_
  refine a_region ?_
  refine rv (v := .int _ _) (v_move il nf) ?_
  refine rv (v := .int _ _) (v_sub il il (fun _ => by omega)) ?_
  refine rv (v := .int _ _) (v_assign il nf) ?_
  refine r_nil ?_
  refine a_block ?_
  refine a_loop (X := (Nat × Array Int)) (fun y => look [(0, .rsl (INH, []) 1 0 n none), (3, .fn f [] []), (8, .int .i64 ((a : Nat) : Int)), (9, .int .i64 0), (12, .int .i64 ((y.1 : Nat) - 1 : Int)), (INH, .osl 1 (acells y.2) n none)]) (fun y => y.1 ≤ b - a ∧ y.2.size = n ∧ heapPop (ltc cf) a y.1 y.2 = heapSort (ltc cf) d a b) (fun y => y.1) (b - a, x.2) (ent_look ⟨Weak.of_eq rfl, Weak.of_eq rfl, Weak.of_eq rfl, Weak.of_eq rfl, Weak.of_eq (int_eq (by omega)), Weak.of_eq rfl, trivial⟩) ⟨Nat.le_refl _, g2, by unfold heapSort; rw [← g3, show x.1 = 0 by simp at ht21; omega]; rfl⟩ (fun y hG => ?_)
  obtain ⟨k1, k2, k3⟩ := hG
  refine a_seq ?_
  refine a_seq ?_
  refine a_region ?_
  refine rv (v := .int _ _) (v_move il nf) ?_
  refine rv (v := .bool _) (v_geq il il) ?_
  refine r_nil ?_
  refine a_cond rfl (fun ht33 => ?_) (fun ht33 => ?_)
  ·
   skip
   refine a_skip ?_
   refine a_seq ?_
   refine a_block ?_
   refine a_seq ?_
   have hy1 : 1 ≤ y.1 := (by simp at ht33; omega)
   have hp1 : a * 1 + 1 ≤ (acells y.2).length := (by rw [acells_length]; omega)
   have hp2 : (a + (y.1 - 1)) * 1 + 1 ≤ ((acells y.2).set (a * 1) (.int .i64 y.2[(a + (y.1 - 1))]!)).length := (by rw [List.length_set, acells_length]; omega)
   have hset : ((acells y.2).set (a * 1) (.int .i64 y.2[(a + (y.1 - 1))]!)).set ((a + (y.1 - 1)) * 1) (.int .i64 y.2[a]!) = acells (swp y.2 a (a + (y.1 - 1))) := (by rw [Nat.mul_one, Nat.mul_one]; exact acells_swp _ _ _)
   refine a_region_w [(36, true), (37, true), (38, true), (39, true), (40, true), (41, true), (42, true), (43, true), (44, true), (45, true), (46, true), (47, true), (48, true), (49, true), (50, true), (51, true), (52, true), (INH, false), (53, true), (INH, false)] mixed (by kernel_rfl) ?_
   refine wv (v := .rsl _ _ _ _ _) (v_move il nf) ?_
   refine wv (v := .int _ _) (v_move il nf) ?_
   refine wv (v := .rsl _ _ _ _ _) (v_move il nf) ?_
   refine wv (v := .int _ _) (v_move il nf) ?_
   refine wv (v := .int _ _) (v_move il nf) ?_
   refine wv (v := .int .i64 ((a + (y.1 - 1) : Nat) : Int)) ((v_add il il (fun _ => by omega)).cast (int_eq (by omega))) ?_
   refine wv (v := .rsl _ _ _ _ _) (v_move il nf) ?_
   refine wv (v := .int _ _) (v_move il nf) ?_
   refine wv (v := .int _ _) (v_move il nf) ?_
   refine wv (v := .int .i64 ((a + (y.1 - 1) : Nat) : Int)) ((v_add il il (fun _ => by omega)).cast (int_eq (by omega))) ?_
   refine wv (v := .rp _ _) (v_indexAddr_rsl0 es42 il il (fun _ => by omega)) ?_
   refine wv (v := .int .i64 y.2[a + (y.1 - 1)]!) (v_load_rp1 ta3 il rfl (fun _ => by rw [Nat.mul_one]; exact acells_get (by omega)) rfl) ?_
   refine wv (v := .rsl _ _ _ _ _) (v_move il nf) ?_
   refine wv (v := .int _ _) (v_move il nf) ?_
   refine wv (v := .rp _ _) (v_indexAddr_rsl0 es42 il il (fun _ => by omega)) ?_
   refine wv (v := .int .i64 y.2[a]!) (v_load_rp1 ta3 il rfl (fun _ => by rw [Nat.mul_one]; exact acells_get (by omega)) rfl) ?_
   refine wv (v := .rp _ _) (v_indexAddr_rsl0 es42 il il (fun _ => by omega)) ?_
   refine w_store (v := .int _ _) (y' := .osl _ _ _ _) rfl rfl rfl ta3 (.inl rfl) (.inl rfl) rfl rfl rfl rfl rfl rfl hp1 (by decide) rfl rfl rfl (by kernel_rfl) ?_
   refine wv (v := .rp _ _) (v_indexAddr_rsl0 es42 il il (fun _ => by omega)) ?_
   refine w_store (v := .int _ _) (y' := .osl _ _ _ _) rfl rfl rfl ta3 (.inl rfl) (.inl rfl) rfl rfl rfl rfl rfl rfl hp2 (by decide) rfl (congrArg (fun c => AV.osl 1 c n none) hset) rfl (by kernel_rfl) ?_
   refine w_nil ?_
   refine a_region ?_
   refine rv (v := .rsl _ _ _ _ _) (v_move il nf) ?_
   refine rv (v := .int .i64 ((0 : Nat) : Int)) ((v_move il nf).cast (int_eq (by omega))) ?_
   refine rv (v := .int .i64 ((y.1 - 1 : Nat) : Int)) ((v_move il nf).cast (int_eq (by omega))) ?_
   refine rv (v := .int _ _) (v_move il nf) ?_
   refine rv (v := .fn _ _ _) (v_mv rfl) ?_
   refine r_step rfl (o_callIOk (q := (INH, [])) (vs := [.rsl _ _ _ _ _, .int _ _, .int _ _, .int _ _, .fn _ _ _]) (args := [.rsl (INH, []) _ _ _ _, .int .i64 _, .int .i64 _, .int .i64 _, .fn _ _ _]) (x0 := .osl _ _ _ _) (x1 := .osl _ _ _ _) (res := .tup []) rfl hb119 rfl (by decide) ⟨.inl rfl, .inl rfl, .inl rfl, .inl rfl, .inl rfl, trivial⟩ rfl rfl (siftDown_c f hb cf hc _ n 0 (y.1 - 1) a (by rw [swp_size]; exact k2) (by omega) hn) (by simp [stays]; omega) rfl rfl rfl (ac_noSh _) (ac_noRef _) (Nat.le_of_ble_eq_true rfl) (by decide) rfl) ?_
   refine r_nil ?_
   refine a_pre (ent_look (L := [(0, .rsl _ _ _ _ _), (3, .fn _ _ _), (8, .int _ _), (9, .int _ _), (12, .int _ _), (INH, .osl _ _ _ _)]) ⟨Weak.rfl, Weak.rfl, Weak.rfl, Weak.rfl, Weak.rfl, Weak.rfl, trivial⟩) ?_
   refine a_region ?_
   refine rv (v := .int _ _) (v_move il nf) ?_
   refine rv (v := .int _ _) (v_sub il il (fun _ => by omega)) ?_
   refine rv (v := .int _ _) (v_assign il nf) ?_
   refine r_nil ?_
   refine ⟨(y.1 - 1, siftDown (ltc cf) (y.1 - 1) a 0 (swp y.2 a (a + (y.1 - 1)))), ent_look ⟨Weak.of_eq rfl, Weak.of_eq rfl, Weak.of_eq rfl, Weak.of_eq rfl, Weak.of_eq (int_eq (by omega)), Weak.of_eq rfl, trivial⟩, ⟨by dsimp only; omega, by rw [sift_size, swp_size]; exact k2, by rw [← k3]; exact heapPop_more (by omega)⟩, by dsimp only; omega⟩
  ·
   skip
   refine a_exit ?_
   refine ret0_look Try.results107 (by decide) ?_ rfl
   exact Weak.of_eq (osl_eq (by rw [← k3, show y.1 = 0 by simp at ht33; omega]; rfl))
end Go.Av
namespace Go.Av
open Go Go.Proofs Go.Sort
set_option maxRecDepth 10000
theorem partEq_c (f : Nat) (hb : hasBody Try.prog f = true) (cf : Int → Int → Int) (hc : ∀ x y, ACall Try.prog f [.int .i64 x, .int .i64 y] [] (.int .i64 (cf x y)) []) (d : Array Int) (n a b pivot : Nat) (hd : d.size = n) (hab : a ≤ pivot ∧ pivot < b ∧ b ≤ n) (hn : n ≤ 1152921504606846976) : ACall Try.prog 112 [.rsl (INH, []) 1 0 n none, .int .i64 ((a : Nat) : Int), .int .i64 ((b : Nat) : Int), .int .i64 ((pivot : Nat) : Int), .fn f [] []] [.osl 1 (acells d) n none] (.int .i64 (((partitionEqual (ltc cf) d a b pivot).1 : Nat) : Int)) [.osl 1 (acells (partitionEqual (ltc cf) d a b pivot).2) n none] := by
 refine ACall.intro Try.func112 rfl (N := 90) rfl (by decide) (by simp) ?_
 refine a_seq ?_
 refine a_region ?_
 refine rv (v := .int _ _) (v_assign il nf) ?_
 refine r_nil ?_
 refine a_seq ?_
 have hp1 : a * 1 + 1 ≤ (acells d).length := (by rw [acells_length]; omega)
 have hp2 : pivot * 1 + 1 ≤ ((acells d).set (a * 1) (.int .i64 d[pivot]!)).length := (by rw [List.length_set, acells_length]; omega)
 have hset : ((acells d).set (a * 1) (.int .i64 d[pivot]!)).set (pivot * 1) (.int .i64 d[a]!) = acells (swp d a pivot) := (by rw [Nat.mul_one, Nat.mul_one]; exact acells_swp _ _ _)
 refine a_region_w [(13, true), (14, true), (15, true), (16, true), (17, true), (18, true), (19, true), (20, true), (21, true), (22, true), (23, true), (24, true), (25, true), (INH, false), (26, true), (INH, false)] mixed (by kernel_rfl) ?_
 refine wv (v := .rsl _ _ _ _ _) (v_move il nf) ?_
 refine wv (v := .int _ _) (v_move il nf) ?_
 refine wv (v := .rsl _ _ _ _ _) (v_move il nf) ?_
 refine wv (v := .int _ _) (v_move il nf) ?_
 refine wv (v := .rsl _ _ _ _ _) (v_move il nf) ?_
 refine wv (v := .int _ _) (v_move il nf) ?_
 refine wv (v := .rp _ _) (v_indexAddr_rsl0 es42 il il (fun _ => by omega)) ?_
 refine wv (v := .int .i64 d[pivot]!) (v_load_rp1 ta3 il rfl (fun _ => by rw [Nat.mul_one]; exact acells_get (by omega)) rfl) ?_
 refine wv (v := .rsl _ _ _ _ _) (v_move il nf) ?_
 refine wv (v := .int _ _) (v_move il nf) ?_
 refine wv (v := .rp _ _) (v_indexAddr_rsl0 es42 il il (fun _ => by omega)) ?_
 refine wv (v := .int .i64 d[a]!) (v_load_rp1 ta3 il rfl (fun _ => by rw [Nat.mul_one]; exact acells_get (by omega)) rfl) ?_
 refine wv (v := .rp _ _) (v_indexAddr_rsl0 es42 il il (fun _ => by omega)) ?_
 refine w_store (v := .int _ _) (y' := .osl _ _ _ _) rfl rfl rfl ta3 (.inl rfl) (.inl rfl) rfl rfl rfl rfl rfl rfl hp1 (by decide) rfl rfl rfl (by kernel_rfl) ?_
 refine wv (v := .rp _ _) (v_indexAddr_rsl0 es42 il il (fun _ => by omega)) ?_
 refine w_store (v := .int _ _) (y' := .osl _ _ _ _) rfl rfl rfl ta3 (.inl rfl) (.inl rfl) rfl rfl rfl rfl rfl rfl hp2 (by decide) rfl (congrArg (fun c => AV.osl 1 c n none) hset) rfl (by kernel_rfl) ?_
 refine w_nil ?_
 refine a_seq ?_
 refine a_region ?_
 refine rv (v := .int _ _) (v_move il nf) ?_
 refine rv (v := .int _ _) (v_add il il (fun _ => by omega)) ?_
 refine rv (v := .int _ _) (v_move il nf) ?_
 refine rv (v := .int _ _) (v_sub il il (fun _ => by omega)) ?_
 refine rv (v := .int _ _) (v_assign il nf) ?_
 refine rv (v := .int _ _) (v_assign il nf) ?_
 refine r_nil ?_
 refine a_seq ?_
 refine a_block ?_
 refine a_loop (X := (Nat × Nat × Array Int)) (fun x => look [(0, .rsl (INH, []) 1 0 n none), (1, .int .i64 ((a : Nat) : Int)), (4, .fn f [] []), (11, .int .i64 ((x.1 : Nat) : Int)), (12, .int .i64 ((x.2.1 : Nat) : Int)), (INH, .osl 1 (acells x.2.2) n none)]) (fun x => a < x.1 ∧ x.2.1 < b ∧ x.2.2.size = n ∧ x.1 ≤ n ∧ partEqLoop (ltc cf) a x.1 x.2.1 x.2.2 = partitionEqual (ltc cf) d a b pivot) (fun x => x.2.1 + 1 - x.1) (a + 1, b - 1, swp d a pivot) (ent_look ⟨Weak.of_eq rfl, Weak.of_eq rfl, Weak.of_eq rfl, Weak.of_eq (int_eq (by dsimp only; omega)), Weak.of_eq (int_eq (by dsimp only; omega)), Weak.of_eq rfl, trivial⟩) ⟨by dsimp only; omega, by dsimp only; omega, by rw [swp_size]; exact hd, by dsimp only; omega, rfl⟩ (fun x hG => ?_)
 obtain ⟨g1, g2, g3, g4, g5⟩ := hG
 refine a_block ?_
 refine a_seq ?_
 refine a_block ?_
 refine a_loop (X := Nat) (fun u => look [(0, .rsl (INH, []) 1 0 n none), (1, .int .i64 ((a : Nat) : Int)), (4, .fn f [] []), (11, .int .i64 ((u : Nat) : Int)), (12, .int .i64 ((x.2.1 : Nat) : Int)), (INH, .osl 1 (acells x.2.2) n none)]) (fun u => x.1 ≤ u ∧ u ≤ n ∧ scanUp (fun w => !ltc cf x.2.2[a]! w) x.2.2 x.2.1 u = scanUp (fun w => !ltc cf x.2.2[a]! w) x.2.2 x.2.1 x.1) (fun u => x.2.1 + 1 - u) x.1 (ent_look ⟨Weak.of_eq rfl, Weak.of_eq rfl, Weak.of_eq rfl, Weak.of_eq rfl, Weak.of_eq rfl, Weak.of_eq rfl, trivial⟩) ⟨Nat.le_refl _, g4, rfl⟩ (fun u hG => ?_)
 obtain ⟨u1, u2, u3⟩ := hG
 refine a_seq ?_
 refine a_seq ?_
 refine a_region_any mixed (by kernel_rfl) ?_
 refine yv (v := .int _ _) (v_move il nf) ?_
 refine yv (v := .int _ _) (v_move il nf) ?_
 refine yv (v := .bool _) (v_leq il il) ?_
 refine yv (v := .bool _) (v_move il nf) ?_
 refine yg (v := .fn _ _ _) (v_move il nf).quiet rfl rfl rfl (by decide) (.inl ⟨_, rfl, rfl⟩) ?_
 refine yg (v := .rsl _ _ _ _ _) (v_move il nf).quiet rfl rfl rfl (by decide) (.inl ⟨_, rfl, rfl⟩) ?_
 refine yg (v := .int _ _) (v_move il nf).quiet rfl rfl rfl (by decide) (.inl ⟨_, rfl, rfl⟩) ?_
 refine yg (v := .rp _ _) (v_indexAddr_rsl0 es42 (.inr ⟨_, rfl, fun h => h⟩) (.inr ⟨_, rfl, fun h => h⟩) (fun hA => by simp at hA; omega)).quiet rfl rfl rfl (by decide) (.inl ⟨_, rfl, rfl⟩) ?_
 refine yg (v := .int .i64 x.2.2[a]!) (v_load_rp1 ta3 (.inr ⟨_, rfl, fun h => h⟩) rfl (fun hA => by simp at hA; rw [Nat.mul_one]; exact acells_get (by omega)) rfl).quiet rfl rfl rfl (by decide) (.inl ⟨_, rfl, rfl⟩) ?_
 refine yg (v := .rsl _ _ _ _ _) (v_move il nf).quiet rfl rfl rfl (by decide) (.inl ⟨_, rfl, rfl⟩) ?_
 refine yg (v := .int _ _) (v_move il nf).quiet rfl rfl rfl (by decide) (.inl ⟨_, rfl, rfl⟩) ?_
 refine yg (v := .rp _ _) (v_indexAddr_rsl0 es42 (.inr ⟨_, rfl, fun h => h⟩) (.inr ⟨_, rfl, fun h => h⟩) (fun hA => by simp at hA; omega)).quiet rfl rfl rfl (by decide) (.inl ⟨_, rfl, rfl⟩) ?_
 refine yg (v := .int .i64 x.2.2[u]!) (v_load_rp1 ta3 (.inr ⟨_, rfl, fun h => h⟩) rfl (fun hA => by simp at hA; rw [Nat.mul_one]; exact acells_get (by omega)) rfl).quiet rfl rfl rfl (by decide) (.inl ⟨_, rfl, rfl⟩) ?_
 refine yg (v := .int _ _) (q_clo (vs := [.int _ _, .int _ _]) (args := [.int .i64 _, .int .i64 _]) hb (.inr ⟨_, rfl, fun h => h⟩) ⟨.inr ⟨_, rfl, fun h => h⟩, .inr ⟨_, rfl, fun h => h⟩, trivial⟩ rfl (fun hA => hc _ _) rfl rfl) rfl rfl rfl (by decide) (.inl ⟨_, rfl, rfl⟩) ?_
 refine yg (v := .bool _) (v_lss (.inr ⟨_, rfl, fun h => h⟩) il).quiet rfl rfl rfl (by decide) (.inl ⟨_, rfl, rfl⟩) ?_
 refine yg (v := .bool _) (v_not (.inr ⟨_, rfl, fun h => h⟩)).quiet rfl rfl rfl (by decide) (.inl ⟨_, rfl, rfl⟩) ?_
 refine yv (v := .bool _) (v_pick (.inl rfl) (.inr ⟨_, rfl, fun h h2 => by simp_all⟩) (.inl rfl)) ?_
 refine y_nil ?_
 refine a_cond rfl (fun ht47 => ?_) (fun ht47 => ?_)
 ·
  skip
  refine a_skip ?_
  refine a_block ?_
  refine a_region ?_
  refine rv (v := .int _ _) (v_move il nf) ?_
  refine rv (v := .int _ _) (v_add il il (fun _ => by omega)) ?_
  refine rv (v := .int _ _) (v_assign il nf) ?_
  refine r_nil ?_
  have hcu : (decide (u ≤ x.2.1) && !ltc cf x.2.2[a]! x.2.2[u]!) = true := (by simpa [ltc] using ht47)
  refine ⟨u + 1, ent_look ⟨Weak.of_eq rfl, Weak.of_eq rfl, Weak.of_eq rfl, Weak.of_eq (int_eq (by omega)), Weak.of_eq rfl, Weak.of_eq rfl, trivial⟩, ⟨by omega, by simp at hcu; omega, by rw [← u3]; exact up_more hcu⟩, by simp at hcu; omega⟩
 ·
  skip
  refine a_exit ?_
  refine a_seq ?_
  refine a_block ?_
  refine a_loop (X := Nat) (fun v => look [(0, .rsl (INH, []) 1 0 n none), (1, .int .i64 ((a : Nat) : Int)), (4, .fn f [] []), (11, .int .i64 ((u : Nat) : Int)), (12, .int .i64 ((v : Nat) : Int)), (INH, .osl 1 (acells x.2.2) n none)]) (fun v => v ≤ x.2.1 ∧ scanDown (fun w => ltc cf x.2.2[a]! w) x.2.2 u v = scanDown (fun w => ltc cf x.2.2[a]! w) x.2.2 u x.2.1) (fun v => v) x.2.1 (ent_look ⟨Weak.of_eq rfl, Weak.of_eq rfl, Weak.of_eq rfl, Weak.of_eq rfl, Weak.of_eq rfl, Weak.of_eq rfl, trivial⟩) ⟨Nat.le_refl _, rfl⟩ (fun v hG => ?_)
  obtain ⟨v1, v2⟩ := hG
  refine a_seq ?_
  refine a_seq ?_
  refine a_region_any mixed (by kernel_rfl) ?_
  refine yv (v := .int _ _) (v_move il nf) ?_
  refine yv (v := .int _ _) (v_move il nf) ?_
  refine yv (v := .bool _) (v_leq il il) ?_
  refine yv (v := .bool _) (v_move il nf) ?_
  refine yg (v := .fn _ _ _) (v_move il nf).quiet rfl rfl rfl (by decide) (.inl ⟨_, rfl, rfl⟩) ?_
  refine yg (v := .rsl _ _ _ _ _) (v_move il nf).quiet rfl rfl rfl (by decide) (.inl ⟨_, rfl, rfl⟩) ?_
  refine yg (v := .int _ _) (v_move il nf).quiet rfl rfl rfl (by decide) (.inl ⟨_, rfl, rfl⟩) ?_
  refine yg (v := .rp _ _) (v_indexAddr_rsl0 es42 (.inr ⟨_, rfl, fun h => h⟩) (.inr ⟨_, rfl, fun h => h⟩) (fun hA => by simp at hA; omega)).quiet rfl rfl rfl (by decide) (.inl ⟨_, rfl, rfl⟩) ?_
  refine yg (v := .int .i64 x.2.2[a]!) (v_load_rp1 ta3 (.inr ⟨_, rfl, fun h => h⟩) rfl (fun hA => by simp at hA; rw [Nat.mul_one]; exact acells_get (by omega)) rfl).quiet rfl rfl rfl (by decide) (.inl ⟨_, rfl, rfl⟩) ?_
  refine yg (v := .rsl _ _ _ _ _) (v_move il nf).quiet rfl rfl rfl (by decide) (.inl ⟨_, rfl, rfl⟩) ?_
  refine yg (v := .int _ _) (v_move il nf).quiet rfl rfl rfl (by decide) (.inl ⟨_, rfl, rfl⟩) ?_
  refine yg (v := .rp _ _) (v_indexAddr_rsl0 es42 (.inr ⟨_, rfl, fun h => h⟩) (.inr ⟨_, rfl, fun h => h⟩) (fun hA => by simp at hA; omega)).quiet rfl rfl rfl (by decide) (.inl ⟨_, rfl, rfl⟩) ?_
  refine yg (v := .int .i64 x.2.2[v]!) (v_load_rp1 ta3 (.inr ⟨_, rfl, fun h => h⟩) rfl (fun hA => by simp at hA; rw [Nat.mul_one]; exact acells_get (by omega)) rfl).quiet rfl rfl rfl (by decide) (.inl ⟨_, rfl, rfl⟩) ?_
  refine yg (v := .int _ _) (q_clo (vs := [.int _ _, .int _ _]) (args := [.int .i64 _, .int .i64 _]) hb (.inr ⟨_, rfl, fun h => h⟩) ⟨.inr ⟨_, rfl, fun h => h⟩, .inr ⟨_, rfl, fun h => h⟩, trivial⟩ rfl (fun hA => hc _ _) rfl rfl) rfl rfl rfl (by decide) (.inl ⟨_, rfl, rfl⟩) ?_
  refine yg (v := .bool _) (v_lss (.inr ⟨_, rfl, fun h => h⟩) il).quiet rfl rfl rfl (by decide) (.inl ⟨_, rfl, rfl⟩) ?_
  refine yv (v := .bool _) (v_pick (.inl rfl) (.inr ⟨_, rfl, fun h h2 => by simp_all⟩) (.inl rfl)) ?_
  refine y_nil ?_
  refine a_cond rfl (fun ht65 => ?_) (fun ht65 => ?_)
  ·
   skip
   refine a_skip ?_
   refine a_block ?_
   refine a_region ?_
   refine rv (v := .int _ _) (v_move il nf) ?_
   refine rv (v := .int _ _) (v_sub il il (fun _ => by omega)) ?_
   refine rv (v := .int _ _) (v_assign il nf) ?_
   refine r_nil ?_
   have hcv : (decide (u ≤ v) && ltc cf x.2.2[a]! x.2.2[v]!) = true := (by simpa [ltc] using ht65)
   refine ⟨v - 1, ent_look ⟨Weak.of_eq rfl, Weak.of_eq rfl, Weak.of_eq rfl, Weak.of_eq rfl, Weak.of_eq (int_eq (by simp at hcv; omega)), Weak.of_eq rfl, trivial⟩, ⟨by omega, by rw [← v2]; exact down_more (by simp at hcv; omega) hcv⟩, by simp at hcv; omega⟩
  ·
   skip
   refine a_exit ?_
   refine a_seq ?_
   refine a_seq ?_
   have hup : scanUp (fun w => !ltc cf x.2.2[a]! w) x.2.2 x.2.1 x.1 = u := (by rw [← u3]; exact up_stop (by simpa [ltc] using ht47))
   have hdn : scanDown (fun w => ltc cf x.2.2[a]! w) x.2.2 u x.2.1 = v := (by rw [← v2]; exact down_stop (by simpa [ltc] using ht65))
   refine a_region ?_
   refine rv (v := .int _ _) (v_move il nf) ?_
   refine rv (v := .int _ _) (v_move il nf) ?_
   refine rv (v := .bool _) (v_gtr il il) ?_
   refine r_nil ?_
   refine a_cond rfl (fun ht70 => ?_) (fun ht70 => ?_)
   ·
    skip
    refine a_exit ?_
    refine a_seq ?_
    have hfin : partitionEqual (ltc cf) d a b pivot = (u, x.2.2) := (by rw [← g5]; exact peq_end hup hdn (by simp at ht70; omega))
    refine a_region ?_
    refine rv (v := .int _ _) (v_move il nf) ?_
    refine rv (v := .int _ _) (v_assign il nf) ?_
    refine r_nil ?_
    refine a_ret ?_
    refine ret1 Try.results112 (by decide) (by decide) (Weak.of_eq (int_eq ?_)) rfl (Leaves.one (Weak.of_eq (osl_eq (by rw [hfin]))) rfl)
    rw [hfin]
   ·
    skip
    refine a_skip ?_
    refine a_seq ?_
    have huv : u ≤ v := (by simp at ht70; omega)
    have hp1 : u * 1 + 1 ≤ (acells x.2.2).length := (by rw [acells_length]; omega)
    have hp2 : v * 1 + 1 ≤ ((acells x.2.2).set (u * 1) (.int .i64 x.2.2[v]!)).length := (by rw [List.length_set, acells_length]; omega)
    have hset : ((acells x.2.2).set (u * 1) (.int .i64 x.2.2[v]!)).set (v * 1) (.int .i64 x.2.2[u]!) = acells (swp x.2.2 u v) := (by rw [Nat.mul_one, Nat.mul_one]; exact acells_swp _ _ _)
    refine a_region_w [(71, true), (72, true), (73, true), (74, true), (75, true), (76, true), (77, true), (78, true), (79, true), (80, true), (81, true), (82, true), (83, true), (INH, false), (84, true), (INH, false)] mixed (by kernel_rfl) ?_
    refine wv (v := .rsl _ _ _ _ _) (v_move il nf) ?_
    refine wv (v := .int _ _) (v_move il nf) ?_
    refine wv (v := .rsl _ _ _ _ _) (v_move il nf) ?_
    refine wv (v := .int _ _) (v_move il nf) ?_
    refine wv (v := .rsl _ _ _ _ _) (v_move il nf) ?_
    refine wv (v := .int _ _) (v_move il nf) ?_
    refine wv (v := .rp _ _) (v_indexAddr_rsl0 es42 il il (fun _ => by omega)) ?_
    refine wv (v := .int .i64 x.2.2[v]!) (v_load_rp1 ta3 il rfl (fun _ => by rw [Nat.mul_one]; exact acells_get (by omega)) rfl) ?_
    refine wv (v := .rsl _ _ _ _ _) (v_move il nf) ?_
    refine wv (v := .int _ _) (v_move il nf) ?_
    refine wv (v := .rp _ _) (v_indexAddr_rsl0 es42 il il (fun _ => by omega)) ?_
    refine wv (v := .int .i64 x.2.2[u]!) (v_load_rp1 ta3 il rfl (fun _ => by rw [Nat.mul_one]; exact acells_get (by omega)) rfl) ?_
    refine wv (v := .rp _ _) (v_indexAddr_rsl0 es42 il il (fun _ => by omega)) ?_
    refine w_store (v := .int _ _) (y' := .osl _ _ _ _) rfl rfl rfl ta3 (.inl rfl) (.inl rfl) rfl rfl rfl rfl rfl rfl hp1 (by decide) rfl rfl rfl (by kernel_rfl) ?_
    refine wv (v := .rp _ _) (v_indexAddr_rsl0 es42 il il (fun _ => by omega)) ?_
    refine w_store (v := .int _ _) (y' := .osl _ _ _ _) rfl rfl rfl ta3 (.inl rfl) (.inl rfl) rfl rfl rfl rfl rfl rfl hp2 (by decide) rfl (congrArg (fun c => AV.osl 1 c n none) hset) rfl (by kernel_rfl) ?_
    refine w_nil ?_
    refine a_seq ?_
    refine a_pre (ent_look (L := [(0, .rsl _ _ _ _ _), (1, .int _ _), (4, .fn _ _ _), (11, .int _ _), (12, .int _ _), (INH, .osl _ _ _ _)]) ⟨Weak.rfl, Weak.rfl, Weak.rfl, Weak.rfl, Weak.rfl, Weak.rfl, trivial⟩) ?_
    refine a_region ?_
    refine rv (v := .int _ _) (v_move il nf) ?_
    refine rv (v := .int _ _) (v_add il il (fun _ => by omega)) ?_
    refine rv (v := .int _ _) (v_assign il nf) ?_
    refine r_nil ?_
    refine a_region ?_
    refine rv (v := .int _ _) (v_move il nf) ?_
    refine rv (v := .int _ _) (v_sub il il (fun _ => by omega)) ?_
    refine rv (v := .int _ _) (v_assign il nf) ?_
    refine r_nil ?_
    refine ⟨(u + 1, v - 1, swp x.2.2 u v), ent_look ⟨Weak.of_eq rfl, Weak.of_eq rfl, Weak.of_eq rfl, Weak.of_eq (int_eq (by dsimp only; omega)), Weak.of_eq (int_eq (by dsimp only; omega)), Weak.of_eq rfl, trivial⟩, ⟨by dsimp only; omega, by dsimp only; omega, by rw [swp_size]; exact g3, by dsimp only; omega, by rw [← g5]; exact (peq_more hup hdn (by omega)).symm⟩, by dsimp only; omega⟩
end Go.Av
namespace Go.Av
open Go Go.Proofs Go.Sort
set_option maxRecDepth 10000
theorem partition_c (f : Nat) (hb : hasBody Try.prog f = true) (cf : Int → Int → Int) (hc : ∀ x y, ACall Try.prog f [.int .i64 x, .int .i64 y] [] (.int .i64 (cf x y)) []) (d : Array Int) (n a b pivot : Nat) (hd : d.size = n) (hab : a ≤ pivot ∧ pivot < b ∧ b ≤ n) (hn : n ≤ 1152921504606846976) : ACall Try.prog 113 [.rsl (INH, []) 1 0 n none, .int .i64 ((a : Nat) : Int), .int .i64 ((b : Nat) : Int), .int .i64 ((pivot : Nat) : Int), .fn f [] []] [.osl 1 (acells d) n none] (.tup [.int .i64 (((partition (ltc cf) d a b pivot).1 : Nat) : Int), .bool (partition (ltc cf) d a b pivot).2.1]) [.osl 1 (acells ((partition (ltc cf) d a b pivot).2.2)) n none] := by
  refine ACall.intro Try.func113 rfl (N := 178) rfl (by decide) (by simp) ?_
  refine a_seq ?_
  refine a_region ?_
  refine rv (v := .int _ _) (v_assign il nf) ?_
  refine rv (v := .bool _) (v_assign il nf) ?_
  refine r_nil ?_
  refine a_seq ?_
  have hp1 : a * 1 + 1 ≤ (acells d).length := (by rw [acells_length]; omega)
  have hp2 : pivot * 1 + 1 ≤ ((acells d).set (a * 1) (.int .i64 d[pivot]!)).length := (by rw [List.length_set, acells_length]; omega)
  have hset : ((acells d).set (a * 1) (.int .i64 d[pivot]!)).set (pivot * 1) (.int .i64 d[a]!) = acells (swp d a pivot) := (by rw [Nat.mul_one, Nat.mul_one]; exact acells_swp _ _ _)
  refine a_region_w [(14, true), (15, true), (16, true), (17, true), (18, true), (19, true), (20, true), (21, true), (22, true), (23, true), (24, true), (25, true), (26, true), (INH, false), (27, true), (INH, false)] mixed (by kernel_rfl) ?_
  refine wv (v := .rsl _ _ _ _ _) (v_move il nf) ?_
  refine wv (v := .int _ _) (v_move il nf) ?_
  refine wv (v := .rsl _ _ _ _ _) (v_move il nf) ?_
  refine wv (v := .int _ _) (v_move il nf) ?_
  refine wv (v := .rsl _ _ _ _ _) (v_move il nf) ?_
  refine wv (v := .int _ _) (v_move il nf) ?_
  refine wv (v := .rp _ _) (v_indexAddr_rsl0 es42 il il (fun _ => by omega)) ?_
  refine wv (v := .int .i64 d[pivot]!) (v_load_rp1 ta3 il rfl (fun _ => by rw [Nat.mul_one]; exact acells_get (by omega)) rfl) ?_
  refine wv (v := .rsl _ _ _ _ _) (v_move il nf) ?_
  refine wv (v := .int _ _) (v_move il nf) ?_
  refine wv (v := .rp _ _) (v_indexAddr_rsl0 es42 il il (fun _ => by omega)) ?_
  refine wv (v := .int .i64 d[a]!) (v_load_rp1 ta3 il rfl (fun _ => by rw [Nat.mul_one]; exact acells_get (by omega)) rfl) ?_
  refine wv (v := .rp _ _) (v_indexAddr_rsl0 es42 il il (fun _ => by omega)) ?_
  refine w_store (v := .int _ _) (y' := .osl _ _ _ _) rfl rfl rfl ta3 (.inl rfl) (.inl rfl) rfl rfl rfl rfl rfl rfl hp1 (by decide) rfl rfl rfl (by kernel_rfl) ?_
  refine wv (v := .rp _ _) (v_indexAddr_rsl0 es42 il il (fun _ => by omega)) ?_
  refine w_store (v := .int _ _) (y' := .osl _ _ _ _) rfl rfl rfl ta3 (.inl rfl) (.inl rfl) rfl rfl rfl rfl rfl rfl hp2 (by decide) rfl (congrArg (fun c => AV.osl 1 c n none) hset) rfl (by kernel_rfl) ?_
  refine w_nil ?_
  refine a_seq ?_
  refine a_region ?_
  refine rv (v := .int _ _) (v_move il nf) ?_
  refine rv (v := .int _ _) (v_add il il (fun _ => by omega)) ?_
  refine rv (v := .int _ _) (v_move il nf) ?_
  refine rv (v := .int _ _) (v_sub il il (fun _ => by omega)) ?_
  refine rv (v := .int _ _) (v_assign il nf) ?_
  refine rv (v := .int _ _) (v_assign il nf) ?_
  refine r_nil ?_
  refine a_seq ?_
  refine a_block ?_
  refine a_loop (X := Nat) (fun u0 => look [(0, .rsl (INH, []) 1 0 n none), (1, .int .i64 ((a : Nat) : Int)), (4, .fn f [] []), (12, .int .i64 ((u0 : Nat) : Int)), (13, .int .i64 ((b - 1 : Nat) : Int)), (INH, .osl 1 (acells (swp d a pivot)) n none)]) (fun u0 => a + 1 ≤ u0 ∧ u0 ≤ n ∧ scanUp (fun w => ltc cf w (swp d a pivot)[a]!) (swp d a pivot) (b - 1) u0 = scanUp (fun w => ltc cf w (swp d a pivot)[a]!) (swp d a pivot) (b - 1) (a + 1)) (fun u0 => b - u0) (a + 1) (ent_look ⟨Weak.of_eq rfl, Weak.of_eq rfl, Weak.of_eq rfl, Weak.of_eq (int_eq (by omega)), Weak.of_eq (int_eq (by omega)), Weak.of_eq rfl, trivial⟩) ⟨Nat.le_refl _, by omega, rfl⟩ (fun u0 hG => ?_)
  obtain ⟨a1, a2, a3⟩ := hG
  refine a_seq ?_
  refine a_seq ?_
  have hsz := swp_size (d := d) (i := a) (j := pivot)
  refine a_region_any mixed (by kernel_rfl) ?_
  refine yv (v := .int _ _) (v_move il nf) ?_
  refine yv (v := .int _ _) (v_move il nf) ?_
  refine yv (v := .bool _) (v_leq il il) ?_
  refine yv (v := .bool _) (v_move il nf) ?_
  refine yg (v := .fn _ _ _) (v_move il nf).quiet rfl rfl rfl (by decide) (.inl ⟨_, rfl, rfl⟩) ?_
  refine yg (v := .rsl _ _ _ _ _) (v_move il nf).quiet rfl rfl rfl (by decide) (.inl ⟨_, rfl, rfl⟩) ?_
  refine yg (v := .int _ _) (v_move il nf).quiet rfl rfl rfl (by decide) (.inl ⟨_, rfl, rfl⟩) ?_
  refine yg (v := .rp _ _) (v_indexAddr_rsl0 es42 (.inr ⟨_, rfl, fun h => h⟩) (.inr ⟨_, rfl, fun h => h⟩) (fun hA => by simp at hA; omega)).quiet rfl rfl rfl (by decide) (.inl ⟨_, rfl, rfl⟩) ?_
  refine yg (v := .int .i64 (swp d a pivot)[u0]!) (v_load_rp1 ta3 (.inr ⟨_, rfl, fun h => h⟩) rfl (fun hA => by simp at hA; rw [Nat.mul_one]; exact acells_get (by omega)) rfl).quiet rfl rfl rfl (by decide) (.inl ⟨_, rfl, rfl⟩) ?_
  refine yg (v := .rsl _ _ _ _ _) (v_move il nf).quiet rfl rfl rfl (by decide) (.inl ⟨_, rfl, rfl⟩) ?_
  refine yg (v := .int _ _) (v_move il nf).quiet rfl rfl rfl (by decide) (.inl ⟨_, rfl, rfl⟩) ?_
  refine yg (v := .rp _ _) (v_indexAddr_rsl0 es42 (.inr ⟨_, rfl, fun h => h⟩) (.inr ⟨_, rfl, fun h => h⟩) (fun hA => by simp at hA; omega)).quiet rfl rfl rfl (by decide) (.inl ⟨_, rfl, rfl⟩) ?_
  refine yg (v := .int .i64 (swp d a pivot)[a]!) (v_load_rp1 ta3 (.inr ⟨_, rfl, fun h => h⟩) rfl (fun hA => by simp at hA; rw [Nat.mul_one]; exact acells_get (by omega)) rfl).quiet rfl rfl rfl (by decide) (.inl ⟨_, rfl, rfl⟩) ?_
  refine yg (v := .int _ _) (q_clo (vs := [.int _ _, .int _ _]) (args := [.int .i64 _, .int .i64 _]) hb (.inr ⟨_, rfl, fun h => h⟩) ⟨.inr ⟨_, rfl, fun h => h⟩, .inr ⟨_, rfl, fun h => h⟩, trivial⟩ rfl (fun hA => hc _ _) rfl rfl) rfl rfl rfl (by decide) (.inl ⟨_, rfl, rfl⟩) ?_
  refine yg (v := .bool _) (v_lss (.inr ⟨_, rfl, fun h => h⟩) il).quiet rfl rfl rfl (by decide) (.inl ⟨_, rfl, rfl⟩) ?_
  refine yv (v := .bool _) (v_pick (.inl rfl) (.inr ⟨_, rfl, fun h h2 => by simp_all⟩) (.inl rfl)) ?_
  refine y_nil ?_
  refine a_cond rfl (fun ht47 => ?_) (fun ht47 => ?_)
  ·
    skip
    refine a_skip ?_
    refine a_block ?_
    refine a_region ?_
    refine rv (v := .int _ _) (v_move il nf) ?_
    refine rv (v := .int _ _) (v_add il il (fun _ => by omega)) ?_
    refine rv (v := .int _ _) (v_assign il nf) ?_
    refine r_nil ?_
    have hcu : (decide (u0 ≤ b - 1) && ltc cf (swp d a pivot)[u0]! (swp d a pivot)[a]!) = true := (by simpa [ltc] using ht47)
    refine ⟨u0 + 1, ent_look ⟨Weak.of_eq rfl, Weak.of_eq rfl, Weak.of_eq rfl, Weak.of_eq (int_eq (by omega)), Weak.of_eq rfl, Weak.of_eq rfl, trivial⟩, ⟨by omega, by simp at hcu; omega, by rw [← a3]; exact up_more hcu⟩, by simp at hcu; omega⟩
  ·
    skip
    refine a_exit ?_
    refine a_seq ?_
    refine a_block ?_
    refine a_loop (X := Nat) (fun v0 => look [(0, .rsl (INH, []) 1 0 n none), (1, .int .i64 ((a : Nat) : Int)), (4, .fn f [] []), (12, .int .i64 ((u0 : Nat) : Int)), (13, .int .i64 ((v0 : Nat) : Int)), (INH, .osl 1 (acells (swp d a pivot)) n none)]) (fun v0 => v0 ≤ b - 1 ∧ scanDown (fun w => !ltc cf w (swp d a pivot)[a]!) (swp d a pivot) u0 v0 = scanDown (fun w => !ltc cf w (swp d a pivot)[a]!) (swp d a pivot) u0 (b - 1)) (fun v0 => v0) (b - 1) (ent_look ⟨Weak.of_eq rfl, Weak.of_eq rfl, Weak.of_eq rfl, Weak.of_eq rfl, Weak.of_eq rfl, Weak.of_eq rfl, trivial⟩) ⟨Nat.le_refl _, rfl⟩ (fun v0 hG => ?_)
    obtain ⟨b1, b2⟩ := hG
    refine a_seq ?_
    refine a_seq ?_
    have hsz := swp_size (d := d) (i := a) (j := pivot)
    refine a_region_any mixed (by kernel_rfl) ?_
    refine yv (v := .int _ _) (v_move il nf) ?_
    refine yv (v := .int _ _) (v_move il nf) ?_
    refine yv (v := .bool _) (v_leq il il) ?_
    refine yv (v := .bool _) (v_move il nf) ?_
    refine yg (v := .fn _ _ _) (v_move il nf).quiet rfl rfl rfl (by decide) (.inl ⟨_, rfl, rfl⟩) ?_
    refine yg (v := .rsl _ _ _ _ _) (v_move il nf).quiet rfl rfl rfl (by decide) (.inl ⟨_, rfl, rfl⟩) ?_
    refine yg (v := .int _ _) (v_move il nf).quiet rfl rfl rfl (by decide) (.inl ⟨_, rfl, rfl⟩) ?_
    refine yg (v := .rp _ _) (v_indexAddr_rsl0 es42 (.inr ⟨_, rfl, fun h => h⟩) (.inr ⟨_, rfl, fun h => h⟩) (fun hA => by simp at hA; omega)).quiet rfl rfl rfl (by decide) (.inl ⟨_, rfl, rfl⟩) ?_
    refine yg (v := .int .i64 (swp d a pivot)[v0]!) (v_load_rp1 ta3 (.inr ⟨_, rfl, fun h => h⟩) rfl (fun hA => by simp at hA; rw [Nat.mul_one]; exact acells_get (by omega)) rfl).quiet rfl rfl rfl (by decide) (.inl ⟨_, rfl, rfl⟩) ?_
    refine yg (v := .rsl _ _ _ _ _) (v_move il nf).quiet rfl rfl rfl (by decide) (.inl ⟨_, rfl, rfl⟩) ?_
    refine yg (v := .int _ _) (v_move il nf).quiet rfl rfl rfl (by decide) (.inl ⟨_, rfl, rfl⟩) ?_
    refine yg (v := .rp _ _) (v_indexAddr_rsl0 es42 (.inr ⟨_, rfl, fun h => h⟩) (.inr ⟨_, rfl, fun h => h⟩) (fun hA => by simp at hA; omega)).quiet rfl rfl rfl (by decide) (.inl ⟨_, rfl, rfl⟩) ?_
    refine yg (v := .int .i64 (swp d a pivot)[a]!) (v_load_rp1 ta3 (.inr ⟨_, rfl, fun h => h⟩) rfl (fun hA => by simp at hA; rw [Nat.mul_one]; exact acells_get (by omega)) rfl).quiet rfl rfl rfl (by decide) (.inl ⟨_, rfl, rfl⟩) ?_
    refine yg (v := .int _ _) (q_clo (vs := [.int _ _, .int _ _]) (args := [.int .i64 _, .int .i64 _]) hb (.inr ⟨_, rfl, fun h => h⟩) ⟨.inr ⟨_, rfl, fun h => h⟩, .inr ⟨_, rfl, fun h => h⟩, trivial⟩ rfl (fun hA => hc _ _) rfl rfl) rfl rfl rfl (by decide) (.inl ⟨_, rfl, rfl⟩) ?_
    refine yg (v := .bool _) (v_lss (.inr ⟨_, rfl, fun h => h⟩) il).quiet rfl rfl rfl (by decide) (.inl ⟨_, rfl, rfl⟩) ?_
    refine yg (v := .bool _) (v_not (.inr ⟨_, rfl, fun h => h⟩)).quiet rfl rfl rfl (by decide) (.inl ⟨_, rfl, rfl⟩) ?_
    refine yv (v := .bool _) (v_pick (.inl rfl) (.inr ⟨_, rfl, fun h h2 => by simp_all⟩) (.inl rfl)) ?_
    refine y_nil ?_
    refine a_cond rfl (fun ht66 => ?_) (fun ht66 => ?_)
    ·
      skip
      refine a_skip ?_
      refine a_block ?_
      refine a_region ?_
      refine rv (v := .int _ _) (v_move il nf) ?_
      refine rv (v := .int _ _) (v_sub il il (fun _ => by omega)) ?_
      refine rv (v := .int _ _) (v_assign il nf) ?_
      refine r_nil ?_
      have hcv : (decide (u0 ≤ v0) && !ltc cf (swp d a pivot)[v0]! (swp d a pivot)[a]!) = true := (by simpa [ltc] using ht66)
      refine ⟨v0 - 1, ent_look ⟨Weak.of_eq rfl, Weak.of_eq rfl, Weak.of_eq rfl, Weak.of_eq rfl, Weak.of_eq (int_eq (by simp at hcv; omega)), Weak.of_eq rfl, trivial⟩, ⟨by omega, by rw [← b2]; exact down_more (by simp at hcv; omega) hcv⟩, by simp at hcv; omega⟩
    ·
      skip
      refine a_exit ?_
      refine a_seq ?_
      refine a_seq ?_
      have hsz := swp_size (d := d) (i := a) (j := pivot)
      have hup0 : scanUp (fun w => ltc cf w (swp d a pivot)[a]!) (swp d a pivot) (b - 1) (a + 1) = u0 := (by rw [← a3]; exact up_stop (by simpa [ltc] using ht47))
      have hdn0 : scanDown (fun w => !ltc cf w (swp d a pivot)[a]!) (swp d a pivot) u0 (b - 1) = v0 := (by rw [← b2]; exact down_stop (by simpa [ltc] using ht66))
      refine a_region ?_
      refine rv (v := .int _ _) (v_move il nf) ?_
      refine rv (v := .int _ _) (v_move il nf) ?_
      refine rv (v := .bool _) (v_gtr il il) ?_
      refine r_nil ?_
      refine a_cond rfl (fun ht71 => ?_) (fun ht71 => ?_)
      ·
        skip
        refine a_seq ?_
        have hfin : (partition (ltc cf) d a b pivot) = (v0, true, swp (swp d a pivot) v0 a) := part_end hup0 hdn0 (by simp at ht71; omega)
        have hp1 : v0 * 1 + 1 ≤ (acells (swp d a pivot)).length := (by rw [acells_length]; omega)
        have hp2 : a * 1 + 1 ≤ ((acells (swp d a pivot)).set (v0 * 1) (.int .i64 (swp d a pivot)[a]!)).length := (by rw [List.length_set, acells_length]; omega)
        have hset : ((acells (swp d a pivot)).set (v0 * 1) (.int .i64 (swp d a pivot)[a]!)).set (a * 1) (.int .i64 (swp d a pivot)[v0]!) = acells (swp (swp d a pivot) v0 a) := (by rw [Nat.mul_one, Nat.mul_one]; exact acells_swp _ _ _)
        refine a_region_w [(72, true), (73, true), (74, true), (75, true), (76, true), (77, true), (78, true), (79, true), (80, true), (81, true), (82, true), (83, true), (84, true), (INH, false), (85, true), (INH, false)] mixed (by kernel_rfl) ?_
        refine wv (v := .rsl _ _ _ _ _) (v_move il nf) ?_
        refine wv (v := .int _ _) (v_move il nf) ?_
        refine wv (v := .rsl _ _ _ _ _) (v_move il nf) ?_
        refine wv (v := .int _ _) (v_move il nf) ?_
        refine wv (v := .rsl _ _ _ _ _) (v_move il nf) ?_
        refine wv (v := .int _ _) (v_move il nf) ?_
        refine wv (v := .rp _ _) (v_indexAddr_rsl0 es42 il il (fun _ => by omega)) ?_
        refine wv (v := .int .i64 (swp d a pivot)[a]!) (v_load_rp1 ta3 il rfl (fun _ => by rw [Nat.mul_one]; exact acells_get (by omega)) rfl) ?_
        refine wv (v := .rsl _ _ _ _ _) (v_move il nf) ?_
        refine wv (v := .int _ _) (v_move il nf) ?_
        refine wv (v := .rp _ _) (v_indexAddr_rsl0 es42 il il (fun _ => by omega)) ?_
        refine wv (v := .int .i64 (swp d a pivot)[v0]!) (v_load_rp1 ta3 il rfl (fun _ => by rw [Nat.mul_one]; exact acells_get (by omega)) rfl) ?_
        refine wv (v := .rp _ _) (v_indexAddr_rsl0 es42 il il (fun _ => by omega)) ?_
        refine w_store (v := .int _ _) (y' := .osl _ _ _ _) rfl rfl rfl ta3 (.inl rfl) (.inl rfl) rfl rfl rfl rfl rfl rfl hp1 (by decide) rfl rfl rfl (by kernel_rfl) ?_
        refine wv (v := .rp _ _) (v_indexAddr_rsl0 es42 il il (fun _ => by omega)) ?_
        refine w_store (v := .int _ _) (y' := .osl _ _ _ _) rfl rfl rfl ta3 (.inl rfl) (.inl rfl) rfl rfl rfl rfl rfl rfl hp2 (by decide) rfl (congrArg (fun c => AV.osl 1 c n none) hset) rfl (by kernel_rfl) ?_
        refine w_nil ?_
        refine a_seq ?_
        refine a_pre (ent_look (L := [(0, .rsl _ _ _ _ _), (1, .int _ _), (4, .fn _ _ _), (12, .int _ _), (13, .int _ _), (INH, .osl _ _ _ _)]) ⟨Weak.rfl, Weak.rfl, Weak.rfl, Weak.rfl, Weak.rfl, Weak.rfl, trivial⟩) ?_
        refine a_region ?_
        refine rv (v := .int _ _) (v_move il nf) ?_
        refine rv (v := .int _ _) (v_assign il nf) ?_
        refine rv (v := .bool _) (v_assign il nf) ?_
        refine r_nil ?_
        refine a_ret ?_
        refine retLO (rs := [.tmp 10, .tmp 11]) [(10, _), (11, _)] ⟨(Weak.of_eq (osl_eq (by rw [hfin]))), Weak.rfl, Weak.rfl, trivial⟩ rfl Try.results113 (by decide) ⟨by decide, by decide, rfl⟩ (by decide) (by decide) (l2_eq (int_eq ?_) (bool_eq ?_)) rfl rfl
        · rw [hfin]
        · rw [hfin]
      ·
        skip
        refine a_skip ?_
        refine a_seq ?_
        have huv0 : u0 ≤ v0 := (by simp at ht71; omega)
        have hpm := part_more (lt := ltc cf) (d := d) (a := a) (b := b) (pivot := pivot) hup0 hdn0 (by omega)
        have hp1 : u0 * 1 + 1 ≤ (acells (swp d a pivot)).length := (by rw [acells_length]; omega)
        have hp2 : v0 * 1 + 1 ≤ ((acells (swp d a pivot)).set (u0 * 1) (.int .i64 (swp d a pivot)[v0]!)).length := (by rw [List.length_set, acells_length]; omega)
        have hset : ((acells (swp d a pivot)).set (u0 * 1) (.int .i64 (swp d a pivot)[v0]!)).set (v0 * 1) (.int .i64 (swp d a pivot)[u0]!) = acells (swp (swp d a pivot) u0 v0) := (by rw [Nat.mul_one, Nat.mul_one]; exact acells_swp _ _ _)
        refine a_region_w [(87, true), (88, true), (89, true), (90, true), (91, true), (92, true), (93, true), (94, true), (95, true), (96, true), (97, true), (98, true), (99, true), (INH, false), (100, true), (INH, false)] mixed (by kernel_rfl) ?_
        refine wv (v := .rsl _ _ _ _ _) (v_move il nf) ?_
        refine wv (v := .int _ _) (v_move il nf) ?_
        refine wv (v := .rsl _ _ _ _ _) (v_move il nf) ?_
        refine wv (v := .int _ _) (v_move il nf) ?_
        refine wv (v := .rsl _ _ _ _ _) (v_move il nf) ?_
        refine wv (v := .int _ _) (v_move il nf) ?_
        refine wv (v := .rp _ _) (v_indexAddr_rsl0 es42 il il (fun _ => by omega)) ?_
        refine wv (v := .int .i64 (swp d a pivot)[v0]!) (v_load_rp1 ta3 il rfl (fun _ => by rw [Nat.mul_one]; exact acells_get (by omega)) rfl) ?_
        refine wv (v := .rsl _ _ _ _ _) (v_move il nf) ?_
        refine wv (v := .int _ _) (v_move il nf) ?_
        refine wv (v := .rp _ _) (v_indexAddr_rsl0 es42 il il (fun _ => by omega)) ?_
        refine wv (v := .int .i64 (swp d a pivot)[u0]!) (v_load_rp1 ta3 il rfl (fun _ => by rw [Nat.mul_one]; exact acells_get (by omega)) rfl) ?_
        refine wv (v := .rp _ _) (v_indexAddr_rsl0 es42 il il (fun _ => by omega)) ?_
        refine w_store (v := .int _ _) (y' := .osl _ _ _ _) rfl rfl rfl ta3 (.inl rfl) (.inl rfl) rfl rfl rfl rfl rfl rfl hp1 (by decide) rfl rfl rfl (by kernel_rfl) ?_
        refine wv (v := .rp _ _) (v_indexAddr_rsl0 es42 il il (fun _ => by omega)) ?_
        refine w_store (v := .int _ _) (y' := .osl _ _ _ _) rfl rfl rfl ta3 (.inl rfl) (.inl rfl) rfl rfl rfl rfl rfl rfl hp2 (by decide) rfl (congrArg (fun c => AV.osl 1 c n none) hset) rfl (by kernel_rfl) ?_
        refine w_nil ?_
        refine a_seq ?_
        refine a_pre (ent_look (L := [(0, .rsl _ _ _ _ _), (1, .int _ _), (4, .fn _ _ _), (12, .int _ _), (13, .int _ _), (INH, .osl _ _ _ _)]) ⟨Weak.rfl, Weak.rfl, Weak.rfl, Weak.rfl, Weak.rfl, Weak.rfl, trivial⟩) ?_
        refine a_region ?_
        refine rv (v := .int _ _) (v_move il nf) ?_
        refine rv (v := .int _ _) (v_add il il (fun _ => by omega)) ?_
        refine rv (v := .int _ _) (v_assign il nf) ?_
        refine r_nil ?_
        refine a_seq ?_
        refine a_region ?_
        refine rv (v := .int _ _) (v_move il nf) ?_
        refine rv (v := .int _ _) (v_sub il il (fun _ => by omega)) ?_
        refine rv (v := .int _ _) (v_assign il nf) ?_
        refine r_nil ?_
        refine a_seq ?_
        refine a_block ?_
        refine a_loop (X := (Nat × Nat × Array Int)) (fun x => look [(0, .rsl (INH, []) 1 0 n none), (1, .int .i64 ((a : Nat) : Int)), (4, .fn f [] []), (12, .int .i64 ((x.1 : Nat) : Int)), (13, .int .i64 ((x.2.1 : Nat) : Int)), (INH, .osl 1 (acells x.2.2) n none)]) (fun x => a < x.1 ∧ x.2.1 < b ∧ x.2.2.size = n ∧ x.1 ≤ n ∧ partLoop (ltc cf) a x.1 x.2.1 x.2.2 = partLoop (ltc cf) a (u0 + 1) (v0 - 1) (swp (swp d a pivot) u0 v0)) (fun x => x.2.1 + 1 - x.1) (u0 + 1, v0 - 1, swp (swp d a pivot) u0 v0) (ent_look ⟨Weak.of_eq rfl, Weak.of_eq rfl, Weak.of_eq rfl, Weak.of_eq (int_eq (by dsimp only; omega)), Weak.of_eq (int_eq (by dsimp only; omega)), Weak.of_eq rfl, trivial⟩) ⟨by dsimp only; omega, by dsimp only; omega, by rw [swp_size, swp_size]; exact hd, by dsimp only; omega, rfl⟩ (fun x hG => ?_)
        obtain ⟨g1, g2, g3, g4, g5⟩ := hG
        refine a_block ?_
        refine a_seq ?_
        refine a_block ?_
        refine a_loop (X := Nat) (fun u => look [(0, .rsl (INH, []) 1 0 n none), (1, .int .i64 ((a : Nat) : Int)), (4, .fn f [] []), (12, .int .i64 ((u : Nat) : Int)), (13, .int .i64 ((x.2.1 : Nat) : Int)), (INH, .osl 1 (acells x.2.2) n none)]) (fun u => x.1 ≤ u ∧ u ≤ n ∧ scanUp (fun w => ltc cf w x.2.2[a]!) x.2.2 x.2.1 u = scanUp (fun w => ltc cf w x.2.2[a]!) x.2.2 x.2.1 x.1) (fun u => x.2.1 + 1 - u) x.1 (ent_look ⟨Weak.of_eq rfl, Weak.of_eq rfl, Weak.of_eq rfl, Weak.of_eq rfl, Weak.of_eq rfl, Weak.of_eq rfl, trivial⟩) ⟨Nat.le_refl _, g4, rfl⟩ (fun u hG => ?_)
        obtain ⟨u1, u2, u3⟩ := hG
        refine a_seq ?_
        refine a_seq ?_
        refine a_region_any mixed (by kernel_rfl) ?_
        refine yv (v := .int _ _) (v_move il nf) ?_
        refine yv (v := .int _ _) (v_move il nf) ?_
        refine yv (v := .bool _) (v_leq il il) ?_
        refine yv (v := .bool _) (v_move il nf) ?_
        refine yg (v := .fn _ _ _) (v_move il nf).quiet rfl rfl rfl (by decide) (.inl ⟨_, rfl, rfl⟩) ?_
        refine yg (v := .rsl _ _ _ _ _) (v_move il nf).quiet rfl rfl rfl (by decide) (.inl ⟨_, rfl, rfl⟩) ?_
        refine yg (v := .int _ _) (v_move il nf).quiet rfl rfl rfl (by decide) (.inl ⟨_, rfl, rfl⟩) ?_
        refine yg (v := .rp _ _) (v_indexAddr_rsl0 es42 (.inr ⟨_, rfl, fun h => h⟩) (.inr ⟨_, rfl, fun h => h⟩) (fun hA => by simp at hA; omega)).quiet rfl rfl rfl (by decide) (.inl ⟨_, rfl, rfl⟩) ?_
        refine yg (v := .int .i64 x.2.2[u]!) (v_load_rp1 ta3 (.inr ⟨_, rfl, fun h => h⟩) rfl (fun hA => by simp at hA; rw [Nat.mul_one]; exact acells_get (by omega)) rfl).quiet rfl rfl rfl (by decide) (.inl ⟨_, rfl, rfl⟩) ?_
        refine yg (v := .rsl _ _ _ _ _) (v_move il nf).quiet rfl rfl rfl (by decide) (.inl ⟨_, rfl, rfl⟩) ?_
        refine yg (v := .int _ _) (v_move il nf).quiet rfl rfl rfl (by decide) (.inl ⟨_, rfl, rfl⟩) ?_
        refine yg (v := .rp _ _) (v_indexAddr_rsl0 es42 (.inr ⟨_, rfl, fun h => h⟩) (.inr ⟨_, rfl, fun h => h⟩) (fun hA => by simp at hA; omega)).quiet rfl rfl rfl (by decide) (.inl ⟨_, rfl, rfl⟩) ?_
        refine yg (v := .int .i64 x.2.2[a]!) (v_load_rp1 ta3 (.inr ⟨_, rfl, fun h => h⟩) rfl (fun hA => by simp at hA; rw [Nat.mul_one]; exact acells_get (by omega)) rfl).quiet rfl rfl rfl (by decide) (.inl ⟨_, rfl, rfl⟩) ?_
        refine yg (v := .int _ _) (q_clo (vs := [.int _ _, .int _ _]) (args := [.int .i64 _, .int .i64 _]) hb (.inr ⟨_, rfl, fun h => h⟩) ⟨.inr ⟨_, rfl, fun h => h⟩, .inr ⟨_, rfl, fun h => h⟩, trivial⟩ rfl (fun hA => hc _ _) rfl rfl) rfl rfl rfl (by decide) (.inl ⟨_, rfl, rfl⟩) ?_
        refine yg (v := .bool _) (v_lss (.inr ⟨_, rfl, fun h => h⟩) il).quiet rfl rfl rfl (by decide) (.inl ⟨_, rfl, rfl⟩) ?_
        refine yv (v := .bool _) (v_pick (.inl rfl) (.inr ⟨_, rfl, fun h h2 => by simp_all⟩) (.inl rfl)) ?_
        refine y_nil ?_
        refine a_cond rfl (fun ht120 => ?_) (fun ht120 => ?_)
        ·
          skip
          refine a_skip ?_
          refine a_block ?_
          refine a_region ?_
          refine rv (v := .int _ _) (v_move il nf) ?_
          refine rv (v := .int _ _) (v_add il il (fun _ => by omega)) ?_
          refine rv (v := .int _ _) (v_assign il nf) ?_
          refine r_nil ?_
          have hcu : (decide (u ≤ x.2.1) && ltc cf x.2.2[u]! x.2.2[a]!) = true := (by simpa [ltc] using ht120)
          refine ⟨u + 1, ent_look ⟨Weak.of_eq rfl, Weak.of_eq rfl, Weak.of_eq rfl, Weak.of_eq (int_eq (by omega)), Weak.of_eq rfl, Weak.of_eq rfl, trivial⟩, ⟨by omega, by simp at hcu; omega, by rw [← u3]; exact up_more hcu⟩, by simp at hcu; omega⟩
        ·
          skip
          refine a_exit ?_
          refine a_seq ?_
          refine a_block ?_
          refine a_loop (X := Nat) (fun v => look [(0, .rsl (INH, []) 1 0 n none), (1, .int .i64 ((a : Nat) : Int)), (4, .fn f [] []), (12, .int .i64 ((u : Nat) : Int)), (13, .int .i64 ((v : Nat) : Int)), (INH, .osl 1 (acells x.2.2) n none)]) (fun v => v ≤ x.2.1 ∧ scanDown (fun w => !ltc cf w x.2.2[a]!) x.2.2 u v = scanDown (fun w => !ltc cf w x.2.2[a]!) x.2.2 u x.2.1) (fun v => v) x.2.1 (ent_look ⟨Weak.of_eq rfl, Weak.of_eq rfl, Weak.of_eq rfl, Weak.of_eq rfl, Weak.of_eq rfl, Weak.of_eq rfl, trivial⟩) ⟨Nat.le_refl _, rfl⟩ (fun v hG => ?_)
          obtain ⟨v1, v2⟩ := hG
          refine a_seq ?_
          refine a_seq ?_
          refine a_region_any mixed (by kernel_rfl) ?_
          refine yv (v := .int _ _) (v_move il nf) ?_
          refine yv (v := .int _ _) (v_move il nf) ?_
          refine yv (v := .bool _) (v_leq il il) ?_
          refine yv (v := .bool _) (v_move il nf) ?_
          refine yg (v := .fn _ _ _) (v_move il nf).quiet rfl rfl rfl (by decide) (.inl ⟨_, rfl, rfl⟩) ?_
          refine yg (v := .rsl _ _ _ _ _) (v_move il nf).quiet rfl rfl rfl (by decide) (.inl ⟨_, rfl, rfl⟩) ?_
          refine yg (v := .int _ _) (v_move il nf).quiet rfl rfl rfl (by decide) (.inl ⟨_, rfl, rfl⟩) ?_
          refine yg (v := .rp _ _) (v_indexAddr_rsl0 es42 (.inr ⟨_, rfl, fun h => h⟩) (.inr ⟨_, rfl, fun h => h⟩) (fun hA => by simp at hA; omega)).quiet rfl rfl rfl (by decide) (.inl ⟨_, rfl, rfl⟩) ?_
          refine yg (v := .int .i64 x.2.2[v]!) (v_load_rp1 ta3 (.inr ⟨_, rfl, fun h => h⟩) rfl (fun hA => by simp at hA; rw [Nat.mul_one]; exact acells_get (by omega)) rfl).quiet rfl rfl rfl (by decide) (.inl ⟨_, rfl, rfl⟩) ?_
          refine yg (v := .rsl _ _ _ _ _) (v_move il nf).quiet rfl rfl rfl (by decide) (.inl ⟨_, rfl, rfl⟩) ?_
          refine yg (v := .int _ _) (v_move il nf).quiet rfl rfl rfl (by decide) (.inl ⟨_, rfl, rfl⟩) ?_
          refine yg (v := .rp _ _) (v_indexAddr_rsl0 es42 (.inr ⟨_, rfl, fun h => h⟩) (.inr ⟨_, rfl, fun h => h⟩) (fun hA => by simp at hA; omega)).quiet rfl rfl rfl (by decide) (.inl ⟨_, rfl, rfl⟩) ?_
          refine yg (v := .int .i64 x.2.2[a]!) (v_load_rp1 ta3 (.inr ⟨_, rfl, fun h => h⟩) rfl (fun hA => by simp at hA; rw [Nat.mul_one]; exact acells_get (by omega)) rfl).quiet rfl rfl rfl (by decide) (.inl ⟨_, rfl, rfl⟩) ?_
          refine yg (v := .int _ _) (q_clo (vs := [.int _ _, .int _ _]) (args := [.int .i64 _, .int .i64 _]) hb (.inr ⟨_, rfl, fun h => h⟩) ⟨.inr ⟨_, rfl, fun h => h⟩, .inr ⟨_, rfl, fun h => h⟩, trivial⟩ rfl (fun hA => hc _ _) rfl rfl) rfl rfl rfl (by decide) (.inl ⟨_, rfl, rfl⟩) ?_
          refine yg (v := .bool _) (v_lss (.inr ⟨_, rfl, fun h => h⟩) il).quiet rfl rfl rfl (by decide) (.inl ⟨_, rfl, rfl⟩) ?_
          refine yg (v := .bool _) (v_not (.inr ⟨_, rfl, fun h => h⟩)).quiet rfl rfl rfl (by decide) (.inl ⟨_, rfl, rfl⟩) ?_
          refine yv (v := .bool _) (v_pick (.inl rfl) (.inr ⟨_, rfl, fun h h2 => by simp_all⟩) (.inl rfl)) ?_
          refine y_nil ?_
          refine a_cond rfl (fun ht139 => ?_) (fun ht139 => ?_)
          ·
            skip
            refine a_skip ?_
            refine a_block ?_
            refine a_region ?_
            refine rv (v := .int _ _) (v_move il nf) ?_
            refine rv (v := .int _ _) (v_sub il il (fun _ => by omega)) ?_
            refine rv (v := .int _ _) (v_assign il nf) ?_
            refine r_nil ?_
            have hcv : (decide (u ≤ v) && !ltc cf x.2.2[v]! x.2.2[a]!) = true := (by simpa [ltc] using ht139)
            refine ⟨v - 1, ent_look ⟨Weak.of_eq rfl, Weak.of_eq rfl, Weak.of_eq rfl, Weak.of_eq rfl, Weak.of_eq (int_eq (by simp at hcv; omega)), Weak.of_eq rfl, trivial⟩, ⟨by omega, by rw [← v2]; exact down_more (by simp at hcv; omega) hcv⟩, by simp at hcv; omega⟩
          ·
            skip
            refine a_exit ?_
            refine a_seq ?_
            refine a_seq ?_
            have hup : scanUp (fun w => ltc cf w x.2.2[a]!) x.2.2 x.2.1 x.1 = u := (by rw [← u3]; exact up_stop (by simpa [ltc] using ht120))
            have hdn : scanDown (fun w => !ltc cf w x.2.2[a]!) x.2.2 u x.2.1 = v := (by rw [← v2]; exact down_stop (by simpa [ltc] using ht139))
            refine a_region ?_
            refine rv (v := .int _ _) (v_move il nf) ?_
            refine rv (v := .int _ _) (v_move il nf) ?_
            refine rv (v := .bool _) (v_gtr il il) ?_
            refine r_nil ?_
            refine a_cond rfl (fun ht144 => ?_) (fun ht144 => ?_)
            ·
              skip
              refine a_exit ?_
              refine a_seq ?_
              have hfin : (partition (ltc cf) d a b pivot) = (v, false, swp x.2.2 v a) := (by rw [hpm, ← g5, pl_end hup hdn (by simp at ht144; omega)])
              have hp1 : v * 1 + 1 ≤ (acells x.2.2).length := (by rw [acells_length]; omega)
              have hp2 : a * 1 + 1 ≤ ((acells x.2.2).set (v * 1) (.int .i64 x.2.2[a]!)).length := (by rw [List.length_set, acells_length]; omega)
              have hset : ((acells x.2.2).set (v * 1) (.int .i64 x.2.2[a]!)).set (a * 1) (.int .i64 x.2.2[v]!) = acells (swp x.2.2 v a) := (by rw [Nat.mul_one, Nat.mul_one]; exact acells_swp _ _ _)
              refine a_region_w [(163, true), (164, true), (165, true), (166, true), (167, true), (168, true), (169, true), (170, true), (171, true), (172, true), (173, true), (174, true), (175, true), (INH, false), (176, true), (INH, false)] mixed (by kernel_rfl) ?_
              refine wv (v := .rsl _ _ _ _ _) (v_move il nf) ?_
              refine wv (v := .int _ _) (v_move il nf) ?_
              refine wv (v := .rsl _ _ _ _ _) (v_move il nf) ?_
              refine wv (v := .int _ _) (v_move il nf) ?_
              refine wv (v := .rsl _ _ _ _ _) (v_move il nf) ?_
              refine wv (v := .int _ _) (v_move il nf) ?_
              refine wv (v := .rp _ _) (v_indexAddr_rsl0 es42 il il (fun _ => by omega)) ?_
              refine wv (v := .int .i64 x.2.2[a]!) (v_load_rp1 ta3 il rfl (fun _ => by rw [Nat.mul_one]; exact acells_get (by omega)) rfl) ?_
              refine wv (v := .rsl _ _ _ _ _) (v_move il nf) ?_
              refine wv (v := .int _ _) (v_move il nf) ?_
              refine wv (v := .rp _ _) (v_indexAddr_rsl0 es42 il il (fun _ => by omega)) ?_
              refine wv (v := .int .i64 x.2.2[v]!) (v_load_rp1 ta3 il rfl (fun _ => by rw [Nat.mul_one]; exact acells_get (by omega)) rfl) ?_
              refine wv (v := .rp _ _) (v_indexAddr_rsl0 es42 il il (fun _ => by omega)) ?_
              refine w_store (v := .int _ _) (y' := .osl _ _ _ _) rfl rfl rfl ta3 (.inl rfl) (.inl rfl) rfl rfl rfl rfl rfl rfl hp1 (by decide) rfl rfl rfl (by kernel_rfl) ?_
              refine wv (v := .rp _ _) (v_indexAddr_rsl0 es42 il il (fun _ => by omega)) ?_
              refine w_store (v := .int _ _) (y' := .osl _ _ _ _) rfl rfl rfl ta3 (.inl rfl) (.inl rfl) rfl rfl rfl rfl rfl rfl hp2 (by decide) rfl (congrArg (fun c => AV.osl 1 c n none) hset) rfl (by kernel_rfl) ?_
              refine w_nil ?_
              refine a_seq ?_
              refine a_pre (ent_look (L := [(0, .rsl _ _ _ _ _), (1, .int _ _), (4, .fn _ _ _), (12, .int _ _), (13, .int _ _), (INH, .osl _ _ _ _)]) ⟨Weak.rfl, Weak.rfl, Weak.rfl, Weak.rfl, Weak.rfl, Weak.rfl, trivial⟩) ?_
              refine a_region ?_
              refine rv (v := .int _ _) (v_move il nf) ?_
              refine rv (v := .int _ _) (v_assign il nf) ?_
              refine rv (v := .bool _) (v_assign il nf) ?_
              refine r_nil ?_
              refine a_ret ?_
              refine retLO (rs := [.tmp 10, .tmp 11]) [(10, _), (11, _)] ⟨(Weak.of_eq (osl_eq (by rw [hfin]))), Weak.rfl, Weak.rfl, trivial⟩ rfl Try.results113 (by decide) ⟨by decide, by decide, rfl⟩ (by decide) (by decide) (l2_eq (int_eq ?_) (bool_eq ?_)) rfl rfl
              · rw [hfin]
              · rw [hfin]
            ·
              skip
              refine a_skip ?_
              refine a_seq ?_
              have huv : u ≤ v := (by simp at ht144; omega)
              have hp1 : u * 1 + 1 ≤ (acells x.2.2).length := (by rw [acells_length]; omega)
              have hp2 : v * 1 + 1 ≤ ((acells x.2.2).set (u * 1) (.int .i64 x.2.2[v]!)).length := (by rw [List.length_set, acells_length]; omega)
              have hset : ((acells x.2.2).set (u * 1) (.int .i64 x.2.2[v]!)).set (v * 1) (.int .i64 x.2.2[u]!) = acells (swp x.2.2 u v) := (by rw [Nat.mul_one, Nat.mul_one]; exact acells_swp _ _ _)
              refine a_region_w [(145, true), (146, true), (147, true), (148, true), (149, true), (150, true), (151, true), (152, true), (153, true), (154, true), (155, true), (156, true), (157, true), (INH, false), (158, true), (INH, false)] mixed (by kernel_rfl) ?_
              refine wv (v := .rsl _ _ _ _ _) (v_move il nf) ?_
              refine wv (v := .int _ _) (v_move il nf) ?_
              refine wv (v := .rsl _ _ _ _ _) (v_move il nf) ?_
              refine wv (v := .int _ _) (v_move il nf) ?_
              refine wv (v := .rsl _ _ _ _ _) (v_move il nf) ?_
              refine wv (v := .int _ _) (v_move il nf) ?_
              refine wv (v := .rp _ _) (v_indexAddr_rsl0 es42 il il (fun _ => by omega)) ?_
              refine wv (v := .int .i64 x.2.2[v]!) (v_load_rp1 ta3 il rfl (fun _ => by rw [Nat.mul_one]; exact acells_get (by omega)) rfl) ?_
              refine wv (v := .rsl _ _ _ _ _) (v_move il nf) ?_
              refine wv (v := .int _ _) (v_move il nf) ?_
              refine wv (v := .rp _ _) (v_indexAddr_rsl0 es42 il il (fun _ => by omega)) ?_
              refine wv (v := .int .i64 x.2.2[u]!) (v_load_rp1 ta3 il rfl (fun _ => by rw [Nat.mul_one]; exact acells_get (by omega)) rfl) ?_
              refine wv (v := .rp _ _) (v_indexAddr_rsl0 es42 il il (fun _ => by omega)) ?_
              refine w_store (v := .int _ _) (y' := .osl _ _ _ _) rfl rfl rfl ta3 (.inl rfl) (.inl rfl) rfl rfl rfl rfl rfl rfl hp1 (by decide) rfl rfl rfl (by kernel_rfl) ?_
              refine wv (v := .rp _ _) (v_indexAddr_rsl0 es42 il il (fun _ => by omega)) ?_
              refine w_store (v := .int _ _) (y' := .osl _ _ _ _) rfl rfl rfl ta3 (.inl rfl) (.inl rfl) rfl rfl rfl rfl rfl rfl hp2 (by decide) rfl (congrArg (fun c => AV.osl 1 c n none) hset) rfl (by kernel_rfl) ?_
              refine w_nil ?_
              refine a_seq ?_
              refine a_pre (ent_look (L := [(0, .rsl _ _ _ _ _), (1, .int _ _), (4, .fn _ _ _), (12, .int _ _), (13, .int _ _), (INH, .osl _ _ _ _)]) ⟨Weak.rfl, Weak.rfl, Weak.rfl, Weak.rfl, Weak.rfl, Weak.rfl, trivial⟩) ?_
              refine a_region ?_
              refine rv (v := .int _ _) (v_move il nf) ?_
              refine rv (v := .int _ _) (v_add il il (fun _ => by omega)) ?_
              refine rv (v := .int _ _) (v_assign il nf) ?_
              refine r_nil ?_
              refine a_region ?_
              refine rv (v := .int _ _) (v_move il nf) ?_
              refine rv (v := .int _ _) (v_sub il il (fun _ => by omega)) ?_
              refine rv (v := .int _ _) (v_assign il nf) ?_
              refine r_nil ?_
              refine ⟨(u + 1, v - 1, swp x.2.2 u v), ent_look ⟨Weak.of_eq rfl, Weak.of_eq rfl, Weak.of_eq rfl, Weak.of_eq (int_eq (by dsimp only; omega)), Weak.of_eq (int_eq (by dsimp only; omega)), Weak.of_eq rfl, trivial⟩, ⟨by dsimp only; omega, by dsimp only; omega, by rw [swp_size]; exact g3, by dsimp only; omega, by rw [← g5]; exact (pl_more hup hdn (by omega)).symm⟩, by dsimp only; omega⟩
end Go.Av
namespace Go.Av
open Go Go.Proofs Go.Sort
set_option maxRecDepth 10000
theorem partialIns_c (f : Nat) (hb : hasBody Try.prog f = true) (cf : Int → Int → Int) (hc : ∀ x y, ACall Try.prog f [.int .i64 x, .int .i64 y] [] (.int .i64 (cf x y)) []) (d : Array Int) (n a b : Nat) (hd : d.size = n) (hab : a < b ∧ b ≤ n) (hn : n ≤ 1152921504606846976) : ACall Try.prog 111 [.rsl (INH, []) 1 0 n none, .int .i64 ((a : Nat) : Int), .int .i64 ((b : Nat) : Int), .fn f [] []] [.osl 1 (acells d) n none] (.bool (partialInsertionSort (ltc cf) d a b).2) [.osl 1 (acells ((partialInsertionSort (ltc cf) d a b).1)) n none] := by
 refine ACall.intro Try.func111 rfl (N := 141) rfl (by decide) (by simp) ?_
 refine a_seq ?_
 refine a_region ?_
 refine rv (v := .bool _) (v_assign il nf) ?_
 refine r_nil ?_
 refine a_seq ?_
 refine a_region ?_
 refine rv (v := .int _ _) (v_move il nf) ?_
 refine rv (v := .int _ _) (v_add il il (fun _ => by omega)) ?_
 refine rv (v := .int _ _) (v_assign il nf) ?_
 refine r_nil ?_
 refine a_seq ?_
 refine a_seq ?_
 refine a_region ?_
 refine rv (v := .int _ _) (v_assign il nf) ?_
 refine r_nil ?_
 refine a_block ?_
 refine a_loop (X := (Nat × Nat × Array Int)) (fun x => look [(0, .rsl (INH, []) 1 0 n none), (1, .int .i64 ((a : Nat) : Int)), (2, .int .i64 ((b : Nat) : Int)), (3, .fn f [] []), (9, .int .i64 ((x.2.1 : Nat) : Int)), (10, .int .i64 ((x.1 : Nat) : Int)), (INH, .osl 1 (acells x.2.2) n none)]) (fun x => x.1 ≤ 5 ∧ a < x.2.1 ∧ x.2.1 ≤ b ∧ x.2.2.size = n ∧ partialIns (ltc cf) a b (5 - x.1) x.2.1 x.2.2 = (partialInsertionSort (ltc cf) d a b)) (fun x => 5 - x.1) (0, a + 1, d) (ent_look ⟨Weak.of_eq rfl, Weak.of_eq rfl, Weak.of_eq rfl, Weak.of_eq rfl, Weak.of_eq (int_eq (by dsimp only; omega)), Weak.of_eq (int_eq (by dsimp only; omega)), Weak.of_eq rfl, trivial⟩) ⟨by dsimp only; omega, by dsimp only; omega, by dsimp only; omega, hd, rfl⟩ (fun x hG => ?_)
 obtain ⟨g1, g2, g3, g4, g5⟩ := hG
 refine a_seq ?_
 refine a_seq ?_
 refine a_region ?_
 refine rv (v := .int _ _) (v_move il nf) ?_
 refine rv (v := .bool _) (v_lss il il) ?_
 refine r_nil ?_
 refine a_cond rfl (fun ht16 => ?_) (fun ht16 => ?_)
 ·
  skip
  refine a_skip ?_
  refine a_seq ?_
  refine a_block ?_
  refine a_seq ?_
  refine a_block ?_
  refine a_loop (X := Nat) (fun u => look [(0, .rsl (INH, []) 1 0 n none), (1, .int .i64 ((a : Nat) : Int)), (2, .int .i64 ((b : Nat) : Int)), (3, .fn f [] []), (9, .int .i64 ((u : Nat) : Int)), (10, .int .i64 ((x.1 : Nat) : Int)), (INH, .osl 1 (acells x.2.2) n none)]) (fun u => x.2.1 ≤ u ∧ u ≤ b ∧ scanSorted (ltc cf) x.2.2 b u = scanSorted (ltc cf) x.2.2 b x.2.1) (fun u => b - u) x.2.1 (ent_look ⟨Weak.of_eq rfl, Weak.of_eq rfl, Weak.of_eq rfl, Weak.of_eq rfl, Weak.of_eq rfl, Weak.of_eq rfl, Weak.of_eq rfl, trivial⟩) ⟨Nat.le_refl _, g3, rfl⟩ (fun u hG => ?_)
  obtain ⟨u1, u2, u3⟩ := hG
  refine a_seq ?_
  refine a_seq ?_
  refine a_region_any mixed (by kernel_rfl) ?_
  refine yv (v := .int _ _) (v_move il nf) ?_
  refine yv (v := .int _ _) (v_move il nf) ?_
  refine yv (v := .bool _) (v_lss il il) ?_
  refine yv (v := .bool _) (v_move il nf) ?_
  refine yg (v := .fn _ _ _) (v_move il nf).quiet rfl rfl rfl (by decide) (.inl ⟨_, rfl, rfl⟩) ?_
  refine yg (v := .rsl _ _ _ _ _) (v_move il nf).quiet rfl rfl rfl (by decide) (.inl ⟨_, rfl, rfl⟩) ?_
  refine yg (v := .int _ _) (v_move il nf).quiet rfl rfl rfl (by decide) (.inl ⟨_, rfl, rfl⟩) ?_
  refine yg (v := .rp _ _) (v_indexAddr_rsl0 es42 (.inr ⟨_, rfl, fun h => h⟩) (.inr ⟨_, rfl, fun h => h⟩) (fun hA => by simp at hA; omega)).quiet rfl rfl rfl (by decide) (.inl ⟨_, rfl, rfl⟩) ?_
  refine yg (v := .int .i64 x.2.2[u]!) (v_load_rp1 ta3 (.inr ⟨_, rfl, fun h => h⟩) rfl (fun hA => by simp at hA; rw [Nat.mul_one]; exact acells_get (by omega)) rfl).quiet rfl rfl rfl (by decide) (.inl ⟨_, rfl, rfl⟩) ?_
  refine yg (v := .rsl _ _ _ _ _) (v_move il nf).quiet rfl rfl rfl (by decide) (.inl ⟨_, rfl, rfl⟩) ?_
  refine yg (v := .int _ _) (v_move il nf).quiet rfl rfl rfl (by decide) (.inl ⟨_, rfl, rfl⟩) ?_
  refine yg (v := .int _ _) (v_sub (.inr ⟨_, rfl, fun h => h⟩) il (fun hA => by simp at hA; omega)).quiet rfl rfl rfl (by decide) (.inl ⟨_, rfl, rfl⟩) ?_
  refine yg (v := .rp _ _) (v_indexAddr_rsl0 es42 (.inr ⟨_, rfl, fun h => h⟩) (.inr ⟨_, rfl, fun h => h⟩) (fun hA => by simp at hA; omega)).quiet rfl rfl rfl (by decide) (.inl ⟨_, rfl, rfl⟩) ?_
  refine yg (v := .int .i64 x.2.2[u - 1]!) (v_load_rp1 ta3 (.inr ⟨_, rfl, fun h => h⟩) rfl (fun hA => by simp at hA; rw [show ((u : Int) - 1).toNat = u - 1 by omega, Nat.mul_one]; exact acells_get (by omega)) rfl).quiet rfl rfl rfl (by decide) (.inl ⟨_, rfl, rfl⟩) ?_
  refine yg (v := .int _ _) (q_clo (vs := [.int _ _, .int _ _]) (args := [.int .i64 _, .int .i64 _]) hb (.inr ⟨_, rfl, fun h => h⟩) ⟨.inr ⟨_, rfl, fun h => h⟩, .inr ⟨_, rfl, fun h => h⟩, trivial⟩ rfl (fun hA => hc _ _) rfl rfl) rfl rfl rfl (by decide) (.inl ⟨_, rfl, rfl⟩) ?_
  refine yg (v := .bool _) (v_lss (.inr ⟨_, rfl, fun h => h⟩) il).quiet rfl rfl rfl (by decide) (.inl ⟨_, rfl, rfl⟩) ?_
  refine yg (v := .bool _) (v_not (.inr ⟨_, rfl, fun h => h⟩)).quiet rfl rfl rfl (by decide) (.inl ⟨_, rfl, rfl⟩) ?_
  refine yv (v := .bool _) (v_pick (.inl rfl) (.inr ⟨_, rfl, fun h h2 => by simp_all⟩) (.inl rfl)) ?_
  refine y_nil ?_
  refine a_cond rfl (fun ht36 => ?_) (fun ht36 => ?_)
  ·
   skip
   refine a_skip ?_
   refine a_block ?_
   refine a_region ?_
   refine rv (v := .int _ _) (v_move il nf) ?_
   refine rv (v := .int _ _) (v_add il il (fun _ => by omega)) ?_
   refine rv (v := .int _ _) (v_assign il nf) ?_
   refine r_nil ?_
   have hcu : (decide (u < b) && !ltc cf x.2.2[u]! x.2.2[u - 1]!) = true := (by simpa [ltc] using ht36)
   refine ⟨u + 1, ent_look ⟨Weak.of_eq rfl, Weak.of_eq rfl, Weak.of_eq rfl, Weak.of_eq rfl, Weak.of_eq (int_eq (by omega)), Weak.of_eq rfl, Weak.of_eq rfl, trivial⟩, ⟨by omega, by simp at hcu; omega, by rw [← u3]; exact ss_more hcu⟩, by simp at hcu; omega⟩
  ·
   skip
   refine a_exit ?_
   refine a_seq ?_
   refine a_seq ?_
   have hss : scanSorted (ltc cf) x.2.2 b x.2.1 = u := (by rw [← u3]; exact ss_stop (by simpa [ltc] using ht36))
   have hx4 : x.1 < 5 := (by simp at ht16; omega)
   have e5 : 5 - x.1 = (5 - (x.1 + 1)) + 1 := (by omega)
   refine a_region ?_
   refine rv (v := .int _ _) (v_move il nf) ?_
   refine rv (v := .int _ _) (v_move il nf) ?_
   refine rv (v := .bool _) (v_eql il il) ?_
   refine r_nil ?_
   refine a_cond rfl (fun ht41 => ?_) (fun ht41 => ?_)
   ·
    skip
    refine a_seq ?_
    have hfin : (partialInsertionSort (ltc cf) d a b) = (x.2.2, true) := (by rw [← g5, e5]; exact pi_true hss (by simp at ht41; omega))
    refine a_region ?_
    refine rv (v := .bool _) (v_assign il nf) ?_
    refine r_nil ?_
    refine a_ret ?_
    refine ret1 Try.results111 (by decide) (by decide) (Weak.of_eq (bool_eq ?_)) rfl (Leaves.one (Weak.of_eq (osl_eq (by rw [hfin]))) rfl)
    rw [hfin]
   ·
    skip
    refine a_skip ?_
    refine a_seq ?_
    refine a_seq ?_
    have hub : ¬ u = b := (by simp at ht41; omega)
    refine a_region ?_
    refine rv (v := .int _ _) (v_move il nf) ?_
    refine rv (v := .int _ _) (v_move il nf) ?_
    refine rv (v := .int _ _) (v_sub il il (fun _ => by omega)) ?_
    refine rv (v := .bool _) (v_lss il il) ?_
    refine r_nil ?_
    refine a_cond rfl (fun ht45 => ?_) (fun ht45 => ?_)
    ·
     skip
     refine a_seq ?_
     refine a_pre (ent_look (L := [(0, .rsl _ _ _ _ _), (1, .int _ _), (2, .int _ _), (3, .fn _ _ _), (9, .int _ _), (10, .int _ _), (INH, .osl _ _ _ _)]) ⟨Weak.rfl, Weak.rfl, Weak.rfl, Weak.rfl, Weak.rfl, Weak.rfl, Weak.rfl, trivial⟩) ?_
     have hfin : (partialInsertionSort (ltc cf) d a b) = (x.2.2, false) := (by rw [← g5, e5]; exact pi_false hss hub (by simp at ht45; omega))
     refine a_region ?_
     refine rv (v := .bool _) (v_assign il nf) ?_
     refine r_nil ?_
     refine a_ret ?_
     refine ret1 Try.results111 (by decide) (by decide) (Weak.of_eq (bool_eq ?_)) rfl (Leaves.one (Weak.of_eq (osl_eq (by rw [hfin]))) rfl)
     rw [hfin]
    ·
     skip
     refine a_skip ?_
     refine a_seq ?_
     refine a_pre (ent_look (L := [(0, .rsl _ _ _ _ _), (1, .int _ _), (2, .int _ _), (3, .fn _ _ _), (9, .int _ _), (10, .int _ _), (INH, .osl _ _ _ _)]) ⟨Weak.rfl, Weak.rfl, Weak.rfl, Weak.rfl, Weak.rfl, Weak.rfl, Weak.rfl, trivial⟩) ?_
     have h50 : ¬ b - a < 50 := (by simp at ht45; omega)
     have hp1 : u * 1 + 1 ≤ (acells x.2.2).length := (by rw [acells_length]; omega)
     have hp2 : (u - 1) * 1 + 1 ≤ ((acells x.2.2).set (u * 1) (.int .i64 x.2.2[(u - 1)]!)).length := (by rw [List.length_set, acells_length]; omega)
     have hset : ((acells x.2.2).set (u * 1) (.int .i64 x.2.2[(u - 1)]!)).set ((u - 1) * 1) (.int .i64 x.2.2[u]!) = acells (swp x.2.2 u (u - 1)) := (by rw [Nat.mul_one, Nat.mul_one]; exact acells_swp _ _ _)
     refine a_region_w [(46, true), (47, true), (48, true), (49, true), (50, true), (51, true), (52, true), (53, true), (54, true), (55, true), (56, true), (57, true), (58, true), (59, true), (60, true), (INH, false), (61, true), (INH, false)] mixed (by kernel_rfl) ?_
     refine wv (v := .rsl _ _ _ _ _) (v_move il nf) ?_
     refine wv (v := .int _ _) (v_move il nf) ?_
     refine wv (v := .rsl _ _ _ _ _) (v_move il nf) ?_
     refine wv (v := .int _ _) (v_move il nf) ?_
     refine wv (v := .int .i64 ((u - 1 : Nat) : Int)) ((v_sub il il (fun _ => by omega)).cast (int_eq (by omega))) ?_
     refine wv (v := .rsl _ _ _ _ _) (v_move il nf) ?_
     refine wv (v := .int _ _) (v_move il nf) ?_
     refine wv (v := .int .i64 ((u - 1 : Nat) : Int)) ((v_sub il il (fun _ => by omega)).cast (int_eq (by omega))) ?_
     refine wv (v := .rp _ _) (v_indexAddr_rsl0 es42 il il (fun _ => by omega)) ?_
     refine wv (v := .int .i64 x.2.2[u - 1]!) (v_load_rp1 ta3 il rfl (fun _ => by rw [Nat.mul_one]; exact acells_get (by omega)) rfl) ?_
     refine wv (v := .rsl _ _ _ _ _) (v_move il nf) ?_
     refine wv (v := .int _ _) (v_move il nf) ?_
     refine wv (v := .rp _ _) (v_indexAddr_rsl0 es42 il il (fun _ => by omega)) ?_
     refine wv (v := .int .i64 x.2.2[u]!) (v_load_rp1 ta3 il rfl (fun _ => by rw [Nat.mul_one]; exact acells_get (by omega)) rfl) ?_
     refine wv (v := .rp _ _) (v_indexAddr_rsl0 es42 il il (fun _ => by omega)) ?_
     refine w_store (v := .int _ _) (y' := .osl _ _ _ _) rfl rfl rfl ta3 (.inl rfl) (.inl rfl) rfl rfl rfl rfl rfl rfl hp1 (by decide) rfl rfl rfl (by kernel_rfl) ?_
     refine wv (v := .rp _ _) (v_indexAddr_rsl0 es42 il il (fun _ => by omega)) ?_
     refine w_store (v := .int _ _) (y' := .osl _ _ _ _) rfl rfl rfl ta3 (.inl rfl) (.inl rfl) rfl rfl rfl rfl rfl rfl hp2 (by decide) rfl (congrArg (fun c => AV.osl 1 c n none) hset) rfl (by kernel_rfl) ?_
     refine w_nil ?_
     refine a_seq ?_
     refine a_seq ?_
     refine a_region ?_
     refine rv (v := .int _ _) (v_move il nf) ?_
     refine rv (v := .int _ _) (v_move il nf) ?_
     refine rv (v := .int _ _) (v_sub il il (fun _ => by omega)) ?_
     refine rv (v := .bool _) (v_geq il il) ?_
     refine r_nil ?_
     refine a_cond rfl (fun ht65 => ?_) (fun ht65 => ?_)
     ·
      skip
      refine a_seq ?_
      refine a_region ?_
      refine rv (v := .int _ _) (v_move il nf) ?_
      refine rv (v := .int _ _) (v_sub il il (fun _ => by omega)) ?_
      refine rv (v := .int _ _) (v_assign il nf) ?_
      refine r_nil ?_
      refine a_block ?_
      refine a_loop (X := (Nat × Array Int)) (fun y => look [(0, .rsl (INH, []) 1 0 n none), (1, .int .i64 ((a : Nat) : Int)), (2, .int .i64 ((b : Nat) : Int)), (3, .fn f [] []), (9, .int .i64 ((u : Nat) : Int)), (10, .int .i64 ((x.1 : Nat) : Int)), (11, .int .i64 ((y.1 : Nat) : Int)), (INH, .osl 1 (acells y.2) n none)]) (fun y => y.1 < n ∧ y.2.size = n ∧ shiftDown (ltc cf) y.1 y.2 = shiftDown (ltc cf) (u - 1) (swp x.2.2 u (u - 1))) (fun y => y.1) (u - 1, swp x.2.2 u (u - 1)) (ent_look ⟨Weak.of_eq rfl, Weak.of_eq rfl, Weak.of_eq rfl, Weak.of_eq rfl, Weak.of_eq rfl, Weak.of_eq rfl, Weak.of_eq (int_eq (by dsimp only; omega)), Weak.of_eq rfl, trivial⟩) ⟨by dsimp only; omega, by rw [swp_size]; exact g4, rfl⟩ (fun y hG => ?_)
      obtain ⟨y1, y2, y3⟩ := hG
      refine a_seq ?_
      refine a_seq ?_
      refine a_region ?_
      refine rv (v := .int _ _) (v_move il nf) ?_
      refine rv (v := .bool _) (v_geq il il) ?_
      refine r_nil ?_
      refine a_cond rfl (fun ht69 => ?_) (fun ht69 => ?_)
      ·
       skip
       refine a_skip ?_
       refine a_seq ?_
       refine a_block ?_
       refine a_seq ?_
       refine a_seq ?_
       have hy1 : 1 ≤ y.1 := (by simp at ht69; omega)
       refine a_region_any mixed (by kernel_rfl) ?_
       refine yv (v := .fn _ _ _) (v_mv rfl) ?_
       refine yv (v := .rsl _ _ _ _ _) (v_move il nf) ?_
       refine yv (v := .int _ _) (v_move il nf) ?_
       refine yv (v := .rp _ _) (v_indexAddr_rsl0 es42 il il (fun _ => by omega)) ?_
       refine yv (v := .int .i64 y.2[y.1]!) (v_load_rp1 ta3 il rfl (fun _ => by rw [Nat.mul_one]; exact acells_get (by omega)) rfl) ?_
       refine yv (v := .rsl _ _ _ _ _) (v_move il nf) ?_
       refine yv (v := .int _ _) (v_move il nf) ?_
       refine yv (v := .int .i64 ((y.1 - 1 : Nat) : Int)) ((v_sub il il (fun _ => by omega)).cast (int_eq (by omega))) ?_
       refine yv (v := .rp _ _) (v_indexAddr_rsl0 es42 il il (fun _ => by omega)) ?_
       refine yv (v := .int .i64 y.2[y.1 - 1]!) (v_load_rp1 ta3 il rfl (fun _ => by rw [Nat.mul_one]; exact acells_get (by omega)) rfl) ?_
       refine y_new (v := .int _ _) (q_clo (vs := [.int _ _, .int _ _]) (args := [.int .i64 _, .int .i64 _]) hb (.inl rfl) ⟨.inl rfl, .inl rfl, trivial⟩ rfl (fun hA => hc _ _) rfl rfl) rfl rfl (by decide) (by kernel_rfl) ?_
       refine yv (v := .bool _) (v_lss il il) ?_
       refine yv (v := .bool _) (v_not il) ?_
       refine y_nil ?_
       refine a_cond rfl (fun ht84 => ?_) (fun ht84 => ?_)
       ·
        skip
        refine a_exit ?_
        refine a_seq ?_
        refine a_pre (ent_eq (t := INH) (v' := .osl 1 (acells (afterDown (ltc cf) a u (swp x.2.2 u (u - 1)))) n none) (Weak.of_eq (osl_eq (by unfold afterDown; first | (rw [if_pos (by simp at ht65; omega), ← y3, show y.1 = 0 by simp at ht69; omega]; rfl) | (rw [if_pos (by simp at ht65; omega), ← y3, sd_stop (by simpa [ltc] using ht84)]; done) | (rw [if_neg (by simp at ht65; omega)]))))) ?_
        refine a_region ?_
        refine rv (v := .int _ _) (v_move il nf) ?_
        refine rv (v := .int _ _) (v_move il nf) ?_
        refine rv (v := .int _ _) (v_sub il il (fun _ => by omega)) ?_
        refine rv (v := .bool _) (v_geq il il) ?_
        refine r_nil ?_
        refine a_cond rfl (fun ht104 => ?_) (fun ht104 => ?_)
        ·
         skip
         refine a_seq ?_
         have hup2 : b - u ≥ 2 := (by simp at ht104; omega)
         refine a_region ?_
         refine rv (v := .int _ _) (v_move il nf) ?_
         refine rv (v := .int _ _) (v_add il il (fun _ => by omega)) ?_
         refine rv (v := .int _ _) (v_assign il nf) ?_
         refine r_nil ?_
         refine a_block ?_
         refine a_loop (X := (Nat × Array Int)) (fun z => look [(0, .rsl (INH, []) 1 0 n none), (1, .int .i64 ((a : Nat) : Int)), (2, .int .i64 ((b : Nat) : Int)), (3, .fn f [] []), (9, .int .i64 ((u : Nat) : Int)), (10, .int .i64 ((x.1 : Nat) : Int)), (12, .int .i64 ((z.1 : Nat) : Int)), (INH, .osl 1 (acells z.2) n none)]) (fun z => 1 ≤ z.1 ∧ z.1 ≤ n ∧ z.2.size = n ∧ shiftUp (ltc cf) b z.1 z.2 = shiftUp (ltc cf) b (u + 1) (afterDown (ltc cf) a u (swp x.2.2 u (u - 1)))) (fun z => b - z.1) (u + 1, (afterDown (ltc cf) a u (swp x.2.2 u (u - 1)))) (ent_look ⟨Weak.of_eq rfl, Weak.of_eq rfl, Weak.of_eq rfl, Weak.of_eq rfl, Weak.of_eq rfl, Weak.of_eq rfl, Weak.of_eq (int_eq (by dsimp only; omega)), Weak.of_eq rfl, trivial⟩) ⟨by dsimp only; omega, by dsimp only; omega, by rw [ad_size, swp_size]; exact g4, rfl⟩ (fun z hG => ?_)
         obtain ⟨w0, w1, w2, w3⟩ := hG
         refine a_seq ?_
         refine a_seq ?_
         refine a_region ?_
         refine rv (v := .int _ _) (v_move il nf) ?_
         refine rv (v := .int _ _) (v_move il nf) ?_
         refine rv (v := .bool _) (v_lss il il) ?_
         refine r_nil ?_
         refine a_cond rfl (fun ht109 => ?_) (fun ht109 => ?_)
         ·
          skip
          refine a_skip ?_
          refine a_seq ?_
          refine a_block ?_
          refine a_seq ?_
          refine a_seq ?_
          have hzb : z.1 < b := (by simpa using ht109)
          refine a_region_any mixed (by kernel_rfl) ?_
          refine yv (v := .fn _ _ _) (v_mv rfl) ?_
          refine yv (v := .rsl _ _ _ _ _) (v_move il nf) ?_
          refine yv (v := .int _ _) (v_move il nf) ?_
          refine yv (v := .rp _ _) (v_indexAddr_rsl0 es42 il il (fun _ => by omega)) ?_
          refine yv (v := .int .i64 z.2[z.1]!) (v_load_rp1 ta3 il rfl (fun _ => by rw [Nat.mul_one]; exact acells_get (by omega)) rfl) ?_
          refine yv (v := .rsl _ _ _ _ _) (v_move il nf) ?_
          refine yv (v := .int _ _) (v_move il nf) ?_
          refine yv (v := .int .i64 ((z.1 - 1 : Nat) : Int)) ((v_sub il il (fun _ => by omega)).cast (int_eq (by omega))) ?_
          refine yv (v := .rp _ _) (v_indexAddr_rsl0 es42 il il (fun _ => by omega)) ?_
          refine yv (v := .int .i64 z.2[z.1 - 1]!) (v_load_rp1 ta3 il rfl (fun _ => by rw [Nat.mul_one]; exact acells_get (by omega)) rfl) ?_
          refine y_new (v := .int _ _) (q_clo (vs := [.int _ _, .int _ _]) (args := [.int .i64 _, .int .i64 _]) hb (.inl rfl) ⟨.inl rfl, .inl rfl, trivial⟩ rfl (fun hA => hc _ _) rfl rfl) rfl rfl (by decide) (by kernel_rfl) ?_
          refine yv (v := .bool _) (v_lss il il) ?_
          refine yv (v := .bool _) (v_not il) ?_
          refine y_nil ?_
          refine a_cond rfl (fun ht124 => ?_) (fun ht124 => ?_)
          ·
           skip
           refine a_exit ?_
           refine a_region ?_
           refine rv (v := .int _ _) (v_move il nf) ?_
           refine rv (v := .int _ _) (v_add il il (fun _ => by omega)) ?_
           refine rv (v := .int _ _) (v_assign il nf) ?_
           refine r_nil ?_
           refine ⟨(x.1 + 1, u, afterUp (ltc cf) b u (afterDown (ltc cf) a u (swp x.2.2 u (u - 1)))), ent_look ⟨Weak.of_eq rfl, Weak.of_eq rfl, Weak.of_eq rfl, Weak.of_eq rfl, Weak.of_eq rfl, Weak.of_eq (int_eq (by dsimp only; omega)), Weak.of_eq (osl_eq (by unfold afterUp; first | (rw [if_pos hup2, ← w3, su_end (by simpa using ht109)]; done) | (rw [if_pos hup2, ← w3, su_stop (by simpa [ltc] using ht124)]; done) | (rw [if_neg (by simp at ht104; omega)]))), trivial⟩, ⟨by dsimp only; omega, by dsimp only; omega, by dsimp only; omega, by rw [au_size, ad_size, swp_size]; exact g4, by rw [← g5, show 5 - x.1 = (5 - (x.1 + 1)) + 1 by omega]; exact (pi_more hss hub h50).symm⟩, by dsimp only; omega⟩
          ·
           skip
           refine a_skip ?_
           have hzl : ltc cf z.2[z.1]! z.2[z.1 - 1]! = true := (by simpa [ltc] using ht124)
           have hp1 : z.1 * 1 + 1 ≤ (acells z.2).length := (by rw [acells_length]; omega)
           have hp2 : (z.1 - 1) * 1 + 1 ≤ ((acells z.2).set (z.1 * 1) (.int .i64 z.2[(z.1 - 1)]!)).length := (by rw [List.length_set, acells_length]; omega)
           have hset : ((acells z.2).set (z.1 * 1) (.int .i64 z.2[(z.1 - 1)]!)).set ((z.1 - 1) * 1) (.int .i64 z.2[z.1]!) = acells (swp z.2 z.1 (z.1 - 1)) := (by rw [Nat.mul_one, Nat.mul_one]; exact acells_swp _ _ _)
           refine a_region_w [(125, true), (126, true), (127, true), (128, true), (129, true), (130, true), (131, true), (132, true), (133, true), (134, true), (135, true), (136, true), (137, true), (138, true), (139, true), (INH, false), (140, true), (INH, false)] mixed (by kernel_rfl) ?_
           refine wv (v := .rsl _ _ _ _ _) (v_move il nf) ?_
           refine wv (v := .int _ _) (v_move il nf) ?_
           refine wv (v := .rsl _ _ _ _ _) (v_move il nf) ?_
           refine wv (v := .int _ _) (v_move il nf) ?_
           refine wv (v := .int .i64 ((z.1 - 1 : Nat) : Int)) ((v_sub il il (fun _ => by omega)).cast (int_eq (by omega))) ?_
           refine wv (v := .rsl _ _ _ _ _) (v_move il nf) ?_
           refine wv (v := .int _ _) (v_move il nf) ?_
           refine wv (v := .int .i64 ((z.1 - 1 : Nat) : Int)) ((v_sub il il (fun _ => by omega)).cast (int_eq (by omega))) ?_
           refine wv (v := .rp _ _) (v_indexAddr_rsl0 es42 il il (fun _ => by omega)) ?_
           refine wv (v := .int .i64 z.2[z.1 - 1]!) (v_load_rp1 ta3 il rfl (fun _ => by rw [Nat.mul_one]; exact acells_get (by omega)) rfl) ?_
           refine wv (v := .rsl _ _ _ _ _) (v_move il nf) ?_
           refine wv (v := .int _ _) (v_move il nf) ?_
           refine wv (v := .rp _ _) (v_indexAddr_rsl0 es42 il il (fun _ => by omega)) ?_
           refine wv (v := .int .i64 z.2[z.1]!) (v_load_rp1 ta3 il rfl (fun _ => by rw [Nat.mul_one]; exact acells_get (by omega)) rfl) ?_
           refine wv (v := .rp _ _) (v_indexAddr_rsl0 es42 il il (fun _ => by omega)) ?_
           refine w_store (v := .int _ _) (y' := .osl _ _ _ _) rfl rfl rfl ta3 (.inl rfl) (.inl rfl) rfl rfl rfl rfl rfl rfl hp1 (by decide) rfl rfl rfl (by kernel_rfl) ?_
           refine wv (v := .rp _ _) (v_indexAddr_rsl0 es42 il il (fun _ => by omega)) ?_
           refine w_store (v := .int _ _) (y' := .osl _ _ _ _) rfl rfl rfl ta3 (.inl rfl) (.inl rfl) rfl rfl rfl rfl rfl rfl hp2 (by decide) rfl (congrArg (fun c => AV.osl 1 c n none) hset) rfl (by kernel_rfl) ?_
           refine w_nil ?_
           refine a_pre (ent_look (L := [(0, .rsl _ _ _ _ _), (1, .int _ _), (2, .int _ _), (3, .fn _ _ _), (9, .int _ _), (10, .int _ _), (12, .int _ _), (INH, .osl _ _ _ _)]) ⟨Weak.rfl, Weak.rfl, Weak.rfl, Weak.rfl, Weak.rfl, Weak.rfl, Weak.rfl, Weak.rfl, trivial⟩) ?_
           refine a_region ?_
           refine rv (v := .int _ _) (v_move il nf) ?_
           refine rv (v := .int _ _) (v_add il il (fun _ => by omega)) ?_
           refine rv (v := .int _ _) (v_assign il nf) ?_
           refine r_nil ?_
           refine ⟨(z.1 + 1, swp z.2 z.1 (z.1 - 1)), ent_look ⟨Weak.of_eq rfl, Weak.of_eq rfl, Weak.of_eq rfl, Weak.of_eq rfl, Weak.of_eq rfl, Weak.of_eq rfl, Weak.of_eq (int_eq (by dsimp only; omega)), Weak.of_eq rfl, trivial⟩, ⟨by dsimp only; omega, by dsimp only; omega, by rw [swp_size]; exact w2, by rw [← w3]; exact su_more hzb hzl⟩, by dsimp only; omega⟩
         ·
          skip
          refine a_exit ?_
          refine a_region ?_
          refine rv (v := .int _ _) (v_move il nf) ?_
          refine rv (v := .int _ _) (v_add il il (fun _ => by omega)) ?_
          refine rv (v := .int _ _) (v_assign il nf) ?_
          refine r_nil ?_
          refine ⟨(x.1 + 1, u, afterUp (ltc cf) b u (afterDown (ltc cf) a u (swp x.2.2 u (u - 1)))), ent_look ⟨Weak.of_eq rfl, Weak.of_eq rfl, Weak.of_eq rfl, Weak.of_eq rfl, Weak.of_eq rfl, Weak.of_eq (int_eq (by dsimp only; omega)), Weak.of_eq (osl_eq (by unfold afterUp; first | (rw [if_pos hup2, ← w3, su_end (by simpa using ht109)]; done) | (rw [if_pos hup2, ← w3, su_stop (by simpa [ltc] using ht124)]; done) | (rw [if_neg (by simp at ht104; omega)]))), trivial⟩, ⟨by dsimp only; omega, by dsimp only; omega, by dsimp only; omega, by rw [au_size, ad_size, swp_size]; exact g4, by rw [← g5, show 5 - x.1 = (5 - (x.1 + 1)) + 1 by omega]; exact (pi_more hss hub h50).symm⟩, by dsimp only; omega⟩
        ·
         skip
         refine a_skip ?_
         refine a_region ?_
         refine rv (v := .int _ _) (v_move il nf) ?_
         refine rv (v := .int _ _) (v_add il il (fun _ => by omega)) ?_
         refine rv (v := .int _ _) (v_assign il nf) ?_
         refine r_nil ?_
         refine ⟨(x.1 + 1, u, afterUp (ltc cf) b u (afterDown (ltc cf) a u (swp x.2.2 u (u - 1)))), ent_look ⟨Weak.of_eq rfl, Weak.of_eq rfl, Weak.of_eq rfl, Weak.of_eq rfl, Weak.of_eq rfl, Weak.of_eq (int_eq (by dsimp only; omega)), Weak.of_eq (osl_eq (by unfold afterUp; first | (rw [if_pos hup2, ← w3, su_end (by simpa using ht109)]; done) | (rw [if_pos hup2, ← w3, su_stop (by simpa [ltc] using ht124)]; done) | (rw [if_neg (by simp at ht104; omega)]))), trivial⟩, ⟨by dsimp only; omega, by dsimp only; omega, by dsimp only; omega, by rw [au_size, ad_size, swp_size]; exact g4, by rw [← g5, show 5 - x.1 = (5 - (x.1 + 1)) + 1 by omega]; exact (pi_more hss hub h50).symm⟩, by dsimp only; omega⟩
       ·
        skip
        refine a_skip ?_
        have hyl : ltc cf y.2[y.1]! y.2[y.1 - 1]! = true := (by simpa [ltc] using ht84)
        have hp1 : y.1 * 1 + 1 ≤ (acells y.2).length := (by rw [acells_length]; omega)
        have hp2 : (y.1 - 1) * 1 + 1 ≤ ((acells y.2).set (y.1 * 1) (.int .i64 y.2[(y.1 - 1)]!)).length := (by rw [List.length_set, acells_length]; omega)
        have hset : ((acells y.2).set (y.1 * 1) (.int .i64 y.2[(y.1 - 1)]!)).set ((y.1 - 1) * 1) (.int .i64 y.2[y.1]!) = acells (swp y.2 y.1 (y.1 - 1)) := (by rw [Nat.mul_one, Nat.mul_one]; exact acells_swp _ _ _)
        refine a_region_w [(85, true), (86, true), (87, true), (88, true), (89, true), (90, true), (91, true), (92, true), (93, true), (94, true), (95, true), (96, true), (97, true), (98, true), (99, true), (INH, false), (100, true), (INH, false)] mixed (by kernel_rfl) ?_
        refine wv (v := .rsl _ _ _ _ _) (v_move il nf) ?_
        refine wv (v := .int _ _) (v_move il nf) ?_
        refine wv (v := .rsl _ _ _ _ _) (v_move il nf) ?_
        refine wv (v := .int _ _) (v_move il nf) ?_
        refine wv (v := .int .i64 ((y.1 - 1 : Nat) : Int)) ((v_sub il il (fun _ => by omega)).cast (int_eq (by omega))) ?_
        refine wv (v := .rsl _ _ _ _ _) (v_move il nf) ?_
        refine wv (v := .int _ _) (v_move il nf) ?_
        refine wv (v := .int .i64 ((y.1 - 1 : Nat) : Int)) ((v_sub il il (fun _ => by omega)).cast (int_eq (by omega))) ?_
        refine wv (v := .rp _ _) (v_indexAddr_rsl0 es42 il il (fun _ => by omega)) ?_
        refine wv (v := .int .i64 y.2[y.1 - 1]!) (v_load_rp1 ta3 il rfl (fun _ => by rw [Nat.mul_one]; exact acells_get (by omega)) rfl) ?_
        refine wv (v := .rsl _ _ _ _ _) (v_move il nf) ?_
        refine wv (v := .int _ _) (v_move il nf) ?_
        refine wv (v := .rp _ _) (v_indexAddr_rsl0 es42 il il (fun _ => by omega)) ?_
        refine wv (v := .int .i64 y.2[y.1]!) (v_load_rp1 ta3 il rfl (fun _ => by rw [Nat.mul_one]; exact acells_get (by omega)) rfl) ?_
        refine wv (v := .rp _ _) (v_indexAddr_rsl0 es42 il il (fun _ => by omega)) ?_
        refine w_store (v := .int _ _) (y' := .osl _ _ _ _) rfl rfl rfl ta3 (.inl rfl) (.inl rfl) rfl rfl rfl rfl rfl rfl hp1 (by decide) rfl rfl rfl (by kernel_rfl) ?_
        refine wv (v := .rp _ _) (v_indexAddr_rsl0 es42 il il (fun _ => by omega)) ?_
        refine w_store (v := .int _ _) (y' := .osl _ _ _ _) rfl rfl rfl ta3 (.inl rfl) (.inl rfl) rfl rfl rfl rfl rfl rfl hp2 (by decide) rfl (congrArg (fun c => AV.osl 1 c n none) hset) rfl (by kernel_rfl) ?_
        refine w_nil ?_
        refine a_pre (ent_look (L := [(0, .rsl _ _ _ _ _), (1, .int _ _), (2, .int _ _), (3, .fn _ _ _), (9, .int _ _), (10, .int _ _), (11, .int _ _), (INH, .osl _ _ _ _)]) ⟨Weak.rfl, Weak.rfl, Weak.rfl, Weak.rfl, Weak.rfl, Weak.rfl, Weak.rfl, Weak.rfl, trivial⟩) ?_
        refine a_region ?_
        refine rv (v := .int _ _) (v_move il nf) ?_
        refine rv (v := .int _ _) (v_sub il il (fun _ => by omega)) ?_
        refine rv (v := .int _ _) (v_assign il nf) ?_
        refine r_nil ?_
        refine ⟨(y.1 - 1, swp y.2 y.1 (y.1 - 1)), ent_look ⟨Weak.of_eq rfl, Weak.of_eq rfl, Weak.of_eq rfl, Weak.of_eq rfl, Weak.of_eq rfl, Weak.of_eq rfl, Weak.of_eq (int_eq (by dsimp only; omega)), Weak.of_eq rfl, trivial⟩, ⟨by dsimp only; omega, by rw [swp_size]; exact y2, by rw [← y3]; exact sd_more hy1 hyl⟩, by dsimp only; omega⟩
      ·
       skip
       refine a_exit ?_
       refine a_seq ?_
       refine a_pre (ent_eq (t := INH) (v' := .osl 1 (acells (afterDown (ltc cf) a u (swp x.2.2 u (u - 1)))) n none) (Weak.of_eq (osl_eq (by unfold afterDown; first | (rw [if_pos (by simp at ht65; omega), ← y3, show y.1 = 0 by simp at ht69; omega]; rfl) | (rw [if_pos (by simp at ht65; omega), ← y3, sd_stop (by simpa [ltc] using ht84)]; done) | (rw [if_neg (by simp at ht65; omega)]))))) ?_
       refine a_region ?_
       refine rv (v := .int _ _) (v_move il nf) ?_
       refine rv (v := .int _ _) (v_move il nf) ?_
       refine rv (v := .int _ _) (v_sub il il (fun _ => by omega)) ?_
       refine rv (v := .bool _) (v_geq il il) ?_
       refine r_nil ?_
       refine a_cond rfl (fun ht104 => ?_) (fun ht104 => ?_)
       ·
        skip
        refine a_seq ?_
        have hup2 : b - u ≥ 2 := (by simp at ht104; omega)
        refine a_region ?_
        refine rv (v := .int _ _) (v_move il nf) ?_
        refine rv (v := .int _ _) (v_add il il (fun _ => by omega)) ?_
        refine rv (v := .int _ _) (v_assign il nf) ?_
        refine r_nil ?_
        refine a_block ?_
        refine a_loop (X := (Nat × Array Int)) (fun z => look [(0, .rsl (INH, []) 1 0 n none), (1, .int .i64 ((a : Nat) : Int)), (2, .int .i64 ((b : Nat) : Int)), (3, .fn f [] []), (9, .int .i64 ((u : Nat) : Int)), (10, .int .i64 ((x.1 : Nat) : Int)), (12, .int .i64 ((z.1 : Nat) : Int)), (INH, .osl 1 (acells z.2) n none)]) (fun z => 1 ≤ z.1 ∧ z.1 ≤ n ∧ z.2.size = n ∧ shiftUp (ltc cf) b z.1 z.2 = shiftUp (ltc cf) b (u + 1) (afterDown (ltc cf) a u (swp x.2.2 u (u - 1)))) (fun z => b - z.1) (u + 1, (afterDown (ltc cf) a u (swp x.2.2 u (u - 1)))) (ent_look ⟨Weak.of_eq rfl, Weak.of_eq rfl, Weak.of_eq rfl, Weak.of_eq rfl, Weak.of_eq rfl, Weak.of_eq rfl, Weak.of_eq (int_eq (by dsimp only; omega)), Weak.of_eq rfl, trivial⟩) ⟨by dsimp only; omega, by dsimp only; omega, by rw [ad_size, swp_size]; exact g4, rfl⟩ (fun z hG => ?_)
        obtain ⟨w0, w1, w2, w3⟩ := hG
        refine a_seq ?_
        refine a_seq ?_
        refine a_region ?_
        refine rv (v := .int _ _) (v_move il nf) ?_
        refine rv (v := .int _ _) (v_move il nf) ?_
        refine rv (v := .bool _) (v_lss il il) ?_
        refine r_nil ?_
        refine a_cond rfl (fun ht109 => ?_) (fun ht109 => ?_)
        ·
         skip
         refine a_skip ?_
         refine a_seq ?_
         refine a_block ?_
         refine a_seq ?_
         refine a_seq ?_
         have hzb : z.1 < b := (by simpa using ht109)
         refine a_region_any mixed (by kernel_rfl) ?_
         refine yv (v := .fn _ _ _) (v_mv rfl) ?_
         refine yv (v := .rsl _ _ _ _ _) (v_move il nf) ?_
         refine yv (v := .int _ _) (v_move il nf) ?_
         refine yv (v := .rp _ _) (v_indexAddr_rsl0 es42 il il (fun _ => by omega)) ?_
         refine yv (v := .int .i64 z.2[z.1]!) (v_load_rp1 ta3 il rfl (fun _ => by rw [Nat.mul_one]; exact acells_get (by omega)) rfl) ?_
         refine yv (v := .rsl _ _ _ _ _) (v_move il nf) ?_
         refine yv (v := .int _ _) (v_move il nf) ?_
         refine yv (v := .int .i64 ((z.1 - 1 : Nat) : Int)) ((v_sub il il (fun _ => by omega)).cast (int_eq (by omega))) ?_
         refine yv (v := .rp _ _) (v_indexAddr_rsl0 es42 il il (fun _ => by omega)) ?_
         refine yv (v := .int .i64 z.2[z.1 - 1]!) (v_load_rp1 ta3 il rfl (fun _ => by rw [Nat.mul_one]; exact acells_get (by omega)) rfl) ?_
         refine y_new (v := .int _ _) (q_clo (vs := [.int _ _, .int _ _]) (args := [.int .i64 _, .int .i64 _]) hb (.inl rfl) ⟨.inl rfl, .inl rfl, trivial⟩ rfl (fun hA => hc _ _) rfl rfl) rfl rfl (by decide) (by kernel_rfl) ?_
         refine yv (v := .bool _) (v_lss il il) ?_
         refine yv (v := .bool _) (v_not il) ?_
         refine y_nil ?_
         refine a_cond rfl (fun ht124 => ?_) (fun ht124 => ?_)
         ·
          skip
          refine a_exit ?_
          refine a_region ?_
          refine rv (v := .int _ _) (v_move il nf) ?_
          refine rv (v := .int _ _) (v_add il il (fun _ => by omega)) ?_
          refine rv (v := .int _ _) (v_assign il nf) ?_
          refine r_nil ?_
          refine ⟨(x.1 + 1, u, afterUp (ltc cf) b u (afterDown (ltc cf) a u (swp x.2.2 u (u - 1)))), ent_look ⟨Weak.of_eq rfl, Weak.of_eq rfl, Weak.of_eq rfl, Weak.of_eq rfl, Weak.of_eq rfl, Weak.of_eq (int_eq (by dsimp only; omega)), Weak.of_eq (osl_eq (by unfold afterUp; first | (rw [if_pos hup2, ← w3, su_end (by simpa using ht109)]; done) | (rw [if_pos hup2, ← w3, su_stop (by simpa [ltc] using ht124)]; done) | (rw [if_neg (by simp at ht104; omega)]))), trivial⟩, ⟨by dsimp only; omega, by dsimp only; omega, by dsimp only; omega, by rw [au_size, ad_size, swp_size]; exact g4, by rw [← g5, show 5 - x.1 = (5 - (x.1 + 1)) + 1 by omega]; exact (pi_more hss hub h50).symm⟩, by dsimp only; omega⟩
         ·
          skip
          refine a_skip ?_
          have hzl : ltc cf z.2[z.1]! z.2[z.1 - 1]! = true := (by simpa [ltc] using ht124)
          have hp1 : z.1 * 1 + 1 ≤ (acells z.2).length := (by rw [acells_length]; omega)
          have hp2 : (z.1 - 1) * 1 + 1 ≤ ((acells z.2).set (z.1 * 1) (.int .i64 z.2[(z.1 - 1)]!)).length := (by rw [List.length_set, acells_length]; omega)
          have hset : ((acells z.2).set (z.1 * 1) (.int .i64 z.2[(z.1 - 1)]!)).set ((z.1 - 1) * 1) (.int .i64 z.2[z.1]!) = acells (swp z.2 z.1 (z.1 - 1)) := (by rw [Nat.mul_one, Nat.mul_one]; exact acells_swp _ _ _)
          refine a_region_w [(125, true), (126, true), (127, true), (128, true), (129, true), (130, true), (131, true), (132, true), (133, true), (134, true), (135, true), (136, true), (137, true), (138, true), (139, true), (INH, false), (140, true), (INH, false)] mixed (by kernel_rfl) ?_
          refine wv (v := .rsl _ _ _ _ _) (v_move il nf) ?_
          refine wv (v := .int _ _) (v_move il nf) ?_
          refine wv (v := .rsl _ _ _ _ _) (v_move il nf) ?_
          refine wv (v := .int _ _) (v_move il nf) ?_
          refine wv (v := .int .i64 ((z.1 - 1 : Nat) : Int)) ((v_sub il il (fun _ => by omega)).cast (int_eq (by omega))) ?_
          refine wv (v := .rsl _ _ _ _ _) (v_move il nf) ?_
          refine wv (v := .int _ _) (v_move il nf) ?_
          refine wv (v := .int .i64 ((z.1 - 1 : Nat) : Int)) ((v_sub il il (fun _ => by omega)).cast (int_eq (by omega))) ?_
          refine wv (v := .rp _ _) (v_indexAddr_rsl0 es42 il il (fun _ => by omega)) ?_
          refine wv (v := .int .i64 z.2[z.1 - 1]!) (v_load_rp1 ta3 il rfl (fun _ => by rw [Nat.mul_one]; exact acells_get (by omega)) rfl) ?_
          refine wv (v := .rsl _ _ _ _ _) (v_move il nf) ?_
          refine wv (v := .int _ _) (v_move il nf) ?_
          refine wv (v := .rp _ _) (v_indexAddr_rsl0 es42 il il (fun _ => by omega)) ?_
          refine wv (v := .int .i64 z.2[z.1]!) (v_load_rp1 ta3 il rfl (fun _ => by rw [Nat.mul_one]; exact acells_get (by omega)) rfl) ?_
          refine wv (v := .rp _ _) (v_indexAddr_rsl0 es42 il il (fun _ => by omega)) ?_
          refine w_store (v := .int _ _) (y' := .osl _ _ _ _) rfl rfl rfl ta3 (.inl rfl) (.inl rfl) rfl rfl rfl rfl rfl rfl hp1 (by decide) rfl rfl rfl (by kernel_rfl) ?_
          refine wv (v := .rp _ _) (v_indexAddr_rsl0 es42 il il (fun _ => by omega)) ?_
          refine w_store (v := .int _ _) (y' := .osl _ _ _ _) rfl rfl rfl ta3 (.inl rfl) (.inl rfl) rfl rfl rfl rfl rfl rfl hp2 (by decide) rfl (congrArg (fun c => AV.osl 1 c n none) hset) rfl (by kernel_rfl) ?_
          refine w_nil ?_
          refine a_pre (ent_look (L := [(0, .rsl _ _ _ _ _), (1, .int _ _), (2, .int _ _), (3, .fn _ _ _), (9, .int _ _), (10, .int _ _), (12, .int _ _), (INH, .osl _ _ _ _)]) ⟨Weak.rfl, Weak.rfl, Weak.rfl, Weak.rfl, Weak.rfl, Weak.rfl, Weak.rfl, Weak.rfl, trivial⟩) ?_
          refine a_region ?_
          refine rv (v := .int _ _) (v_move il nf) ?_
          refine rv (v := .int _ _) (v_add il il (fun _ => by omega)) ?_
          refine rv (v := .int _ _) (v_assign il nf) ?_
          refine r_nil ?_
          refine ⟨(z.1 + 1, swp z.2 z.1 (z.1 - 1)), ent_look ⟨Weak.of_eq rfl, Weak.of_eq rfl, Weak.of_eq rfl, Weak.of_eq rfl, Weak.of_eq rfl, Weak.of_eq rfl, Weak.of_eq (int_eq (by dsimp only; omega)), Weak.of_eq rfl, trivial⟩, ⟨by dsimp only; omega, by dsimp only; omega, by rw [swp_size]; exact w2, by rw [← w3]; exact su_more hzb hzl⟩, by dsimp only; omega⟩
        ·
         skip
         refine a_exit ?_
         refine a_region ?_
         refine rv (v := .int _ _) (v_move il nf) ?_
         refine rv (v := .int _ _) (v_add il il (fun _ => by omega)) ?_
         refine rv (v := .int _ _) (v_assign il nf) ?_
         refine r_nil ?_
         refine ⟨(x.1 + 1, u, afterUp (ltc cf) b u (afterDown (ltc cf) a u (swp x.2.2 u (u - 1)))), ent_look ⟨Weak.of_eq rfl, Weak.of_eq rfl, Weak.of_eq rfl, Weak.of_eq rfl, Weak.of_eq rfl, Weak.of_eq (int_eq (by dsimp only; omega)), Weak.of_eq (osl_eq (by unfold afterUp; first | (rw [if_pos hup2, ← w3, su_end (by simpa using ht109)]; done) | (rw [if_pos hup2, ← w3, su_stop (by simpa [ltc] using ht124)]; done) | (rw [if_neg (by simp at ht104; omega)]))), trivial⟩, ⟨by dsimp only; omega, by dsimp only; omega, by dsimp only; omega, by rw [au_size, ad_size, swp_size]; exact g4, by rw [← g5, show 5 - x.1 = (5 - (x.1 + 1)) + 1 by omega]; exact (pi_more hss hub h50).symm⟩, by dsimp only; omega⟩
       ·
        skip
        refine a_skip ?_
        refine a_region ?_
        refine rv (v := .int _ _) (v_move il nf) ?_
        refine rv (v := .int _ _) (v_add il il (fun _ => by omega)) ?_
        refine rv (v := .int _ _) (v_assign il nf) ?_
        refine r_nil ?_
        refine ⟨(x.1 + 1, u, afterUp (ltc cf) b u (afterDown (ltc cf) a u (swp x.2.2 u (u - 1)))), ent_look ⟨Weak.of_eq rfl, Weak.of_eq rfl, Weak.of_eq rfl, Weak.of_eq rfl, Weak.of_eq rfl, Weak.of_eq (int_eq (by dsimp only; omega)), Weak.of_eq (osl_eq (by unfold afterUp; first | (rw [if_pos hup2, ← w3, su_end (by simpa using ht109)]; done) | (rw [if_pos hup2, ← w3, su_stop (by simpa [ltc] using ht124)]; done) | (rw [if_neg (by simp at ht104; omega)]))), trivial⟩, ⟨by dsimp only; omega, by dsimp only; omega, by dsimp only; omega, by rw [au_size, ad_size, swp_size]; exact g4, by rw [← g5, show 5 - x.1 = (5 - (x.1 + 1)) + 1 by omega]; exact (pi_more hss hub h50).symm⟩, by dsimp only; omega⟩
     ·
      skip
      refine a_skip ?_
      refine a_seq ?_
      refine a_pre (ent_eq (t := INH) (v' := .osl 1 (acells (afterDown (ltc cf) a u (swp x.2.2 u (u - 1)))) n none) (Weak.of_eq (osl_eq (by unfold afterDown; first | (rw [if_pos (by simp at ht65; omega), ← y3, show y.1 = 0 by simp at ht69; omega]; rfl) | (rw [if_pos (by simp at ht65; omega), ← y3, sd_stop (by simpa [ltc] using ht84)]; done) | (rw [if_neg (by simp at ht65; omega)]))))) ?_
      refine a_region ?_
      refine rv (v := .int _ _) (v_move il nf) ?_
      refine rv (v := .int _ _) (v_move il nf) ?_
      refine rv (v := .int _ _) (v_sub il il (fun _ => by omega)) ?_
      refine rv (v := .bool _) (v_geq il il) ?_
      refine r_nil ?_
      refine a_cond rfl (fun ht104 => ?_) (fun ht104 => ?_)
      ·
       skip
       refine a_seq ?_
       refine a_pre (ent_look (L := [(0, .rsl _ _ _ _ _), (1, .int _ _), (2, .int _ _), (3, .fn _ _ _), (9, .int _ _), (10, .int _ _), (INH, .osl _ _ _ _)]) ⟨Weak.rfl, Weak.rfl, Weak.rfl, Weak.rfl, Weak.rfl, Weak.rfl, Weak.rfl, trivial⟩) ?_
       have hup2 : b - u ≥ 2 := (by simp at ht104; omega)
       refine a_region ?_
       refine rv (v := .int _ _) (v_move il nf) ?_
       refine rv (v := .int _ _) (v_add il il (fun _ => by omega)) ?_
       refine rv (v := .int _ _) (v_assign il nf) ?_
       refine r_nil ?_
       refine a_block ?_
       refine a_loop (X := (Nat × Array Int)) (fun z => look [(0, .rsl (INH, []) 1 0 n none), (1, .int .i64 ((a : Nat) : Int)), (2, .int .i64 ((b : Nat) : Int)), (3, .fn f [] []), (9, .int .i64 ((u : Nat) : Int)), (10, .int .i64 ((x.1 : Nat) : Int)), (12, .int .i64 ((z.1 : Nat) : Int)), (INH, .osl 1 (acells z.2) n none)]) (fun z => 1 ≤ z.1 ∧ z.1 ≤ n ∧ z.2.size = n ∧ shiftUp (ltc cf) b z.1 z.2 = shiftUp (ltc cf) b (u + 1) (afterDown (ltc cf) a u (swp x.2.2 u (u - 1)))) (fun z => b - z.1) (u + 1, (afterDown (ltc cf) a u (swp x.2.2 u (u - 1)))) (ent_look ⟨Weak.of_eq rfl, Weak.of_eq rfl, Weak.of_eq rfl, Weak.of_eq rfl, Weak.of_eq rfl, Weak.of_eq rfl, Weak.of_eq (int_eq (by dsimp only; omega)), Weak.of_eq rfl, trivial⟩) ⟨by dsimp only; omega, by dsimp only; omega, by rw [ad_size, swp_size]; exact g4, rfl⟩ (fun z hG => ?_)
       obtain ⟨w0, w1, w2, w3⟩ := hG
       refine a_seq ?_
       refine a_seq ?_
       refine a_region ?_
       refine rv (v := .int _ _) (v_move il nf) ?_
       refine rv (v := .int _ _) (v_move il nf) ?_
       refine rv (v := .bool _) (v_lss il il) ?_
       refine r_nil ?_
       refine a_cond rfl (fun ht109 => ?_) (fun ht109 => ?_)
       ·
        skip
        refine a_skip ?_
        refine a_seq ?_
        refine a_block ?_
        refine a_seq ?_
        refine a_seq ?_
        have hzb : z.1 < b := (by simpa using ht109)
        refine a_region_any mixed (by kernel_rfl) ?_
        refine yv (v := .fn _ _ _) (v_mv rfl) ?_
        refine yv (v := .rsl _ _ _ _ _) (v_move il nf) ?_
        refine yv (v := .int _ _) (v_move il nf) ?_
        refine yv (v := .rp _ _) (v_indexAddr_rsl0 es42 il il (fun _ => by omega)) ?_
        refine yv (v := .int .i64 z.2[z.1]!) (v_load_rp1 ta3 il rfl (fun _ => by rw [Nat.mul_one]; exact acells_get (by omega)) rfl) ?_
        refine yv (v := .rsl _ _ _ _ _) (v_move il nf) ?_
        refine yv (v := .int _ _) (v_move il nf) ?_
        refine yv (v := .int .i64 ((z.1 - 1 : Nat) : Int)) ((v_sub il il (fun _ => by omega)).cast (int_eq (by omega))) ?_
        refine yv (v := .rp _ _) (v_indexAddr_rsl0 es42 il il (fun _ => by omega)) ?_
        refine yv (v := .int .i64 z.2[z.1 - 1]!) (v_load_rp1 ta3 il rfl (fun _ => by rw [Nat.mul_one]; exact acells_get (by omega)) rfl) ?_
        refine y_new (v := .int _ _) (q_clo (vs := [.int _ _, .int _ _]) (args := [.int .i64 _, .int .i64 _]) hb (.inl rfl) ⟨.inl rfl, .inl rfl, trivial⟩ rfl (fun hA => hc _ _) rfl rfl) rfl rfl (by decide) (by kernel_rfl) ?_
        refine yv (v := .bool _) (v_lss il il) ?_
        refine yv (v := .bool _) (v_not il) ?_
        refine y_nil ?_
        refine a_cond rfl (fun ht124 => ?_) (fun ht124 => ?_)
        ·
         skip
         refine a_exit ?_
         refine a_region ?_
         refine rv (v := .int _ _) (v_move il nf) ?_
         refine rv (v := .int _ _) (v_add il il (fun _ => by omega)) ?_
         refine rv (v := .int _ _) (v_assign il nf) ?_
         refine r_nil ?_
         refine ⟨(x.1 + 1, u, afterUp (ltc cf) b u (afterDown (ltc cf) a u (swp x.2.2 u (u - 1)))), ent_look ⟨Weak.of_eq rfl, Weak.of_eq rfl, Weak.of_eq rfl, Weak.of_eq rfl, Weak.of_eq rfl, Weak.of_eq (int_eq (by dsimp only; omega)), Weak.of_eq (osl_eq (by unfold afterUp; first | (rw [if_pos hup2, ← w3, su_end (by simpa using ht109)]; done) | (rw [if_pos hup2, ← w3, su_stop (by simpa [ltc] using ht124)]; done) | (rw [if_neg (by simp at ht104; omega)]))), trivial⟩, ⟨by dsimp only; omega, by dsimp only; omega, by dsimp only; omega, by rw [au_size, ad_size, swp_size]; exact g4, by rw [← g5, show 5 - x.1 = (5 - (x.1 + 1)) + 1 by omega]; exact (pi_more hss hub h50).symm⟩, by dsimp only; omega⟩
        ·
         skip
         refine a_skip ?_
         have hzl : ltc cf z.2[z.1]! z.2[z.1 - 1]! = true := (by simpa [ltc] using ht124)
         have hp1 : z.1 * 1 + 1 ≤ (acells z.2).length := (by rw [acells_length]; omega)
         have hp2 : (z.1 - 1) * 1 + 1 ≤ ((acells z.2).set (z.1 * 1) (.int .i64 z.2[(z.1 - 1)]!)).length := (by rw [List.length_set, acells_length]; omega)
         have hset : ((acells z.2).set (z.1 * 1) (.int .i64 z.2[(z.1 - 1)]!)).set ((z.1 - 1) * 1) (.int .i64 z.2[z.1]!) = acells (swp z.2 z.1 (z.1 - 1)) := (by rw [Nat.mul_one, Nat.mul_one]; exact acells_swp _ _ _)
         refine a_region_w [(125, true), (126, true), (127, true), (128, true), (129, true), (130, true), (131, true), (132, true), (133, true), (134, true), (135, true), (136, true), (137, true), (138, true), (139, true), (INH, false), (140, true), (INH, false)] mixed (by kernel_rfl) ?_
         refine wv (v := .rsl _ _ _ _ _) (v_move il nf) ?_
         refine wv (v := .int _ _) (v_move il nf) ?_
         refine wv (v := .rsl _ _ _ _ _) (v_move il nf) ?_
         refine wv (v := .int _ _) (v_move il nf) ?_
         refine wv (v := .int .i64 ((z.1 - 1 : Nat) : Int)) ((v_sub il il (fun _ => by omega)).cast (int_eq (by omega))) ?_
         refine wv (v := .rsl _ _ _ _ _) (v_move il nf) ?_
         refine wv (v := .int _ _) (v_move il nf) ?_
         refine wv (v := .int .i64 ((z.1 - 1 : Nat) : Int)) ((v_sub il il (fun _ => by omega)).cast (int_eq (by omega))) ?_
         refine wv (v := .rp _ _) (v_indexAddr_rsl0 es42 il il (fun _ => by omega)) ?_
         refine wv (v := .int .i64 z.2[z.1 - 1]!) (v_load_rp1 ta3 il rfl (fun _ => by rw [Nat.mul_one]; exact acells_get (by omega)) rfl) ?_
         refine wv (v := .rsl _ _ _ _ _) (v_move il nf) ?_
         refine wv (v := .int _ _) (v_move il nf) ?_
         refine wv (v := .rp _ _) (v_indexAddr_rsl0 es42 il il (fun _ => by omega)) ?_
         refine wv (v := .int .i64 z.2[z.1]!) (v_load_rp1 ta3 il rfl (fun _ => by rw [Nat.mul_one]; exact acells_get (by omega)) rfl) ?_
         refine wv (v := .rp _ _) (v_indexAddr_rsl0 es42 il il (fun _ => by omega)) ?_
         refine w_store (v := .int _ _) (y' := .osl _ _ _ _) rfl rfl rfl ta3 (.inl rfl) (.inl rfl) rfl rfl rfl rfl rfl rfl hp1 (by decide) rfl rfl rfl (by kernel_rfl) ?_
         refine wv (v := .rp _ _) (v_indexAddr_rsl0 es42 il il (fun _ => by omega)) ?_
         refine w_store (v := .int _ _) (y' := .osl _ _ _ _) rfl rfl rfl ta3 (.inl rfl) (.inl rfl) rfl rfl rfl rfl rfl rfl hp2 (by decide) rfl (congrArg (fun c => AV.osl 1 c n none) hset) rfl (by kernel_rfl) ?_
         refine w_nil ?_
         refine a_pre (ent_look (L := [(0, .rsl _ _ _ _ _), (1, .int _ _), (2, .int _ _), (3, .fn _ _ _), (9, .int _ _), (10, .int _ _), (12, .int _ _), (INH, .osl _ _ _ _)]) ⟨Weak.rfl, Weak.rfl, Weak.rfl, Weak.rfl, Weak.rfl, Weak.rfl, Weak.rfl, Weak.rfl, trivial⟩) ?_
         refine a_region ?_
         refine rv (v := .int _ _) (v_move il nf) ?_
         refine rv (v := .int _ _) (v_add il il (fun _ => by omega)) ?_
         refine rv (v := .int _ _) (v_assign il nf) ?_
         refine r_nil ?_
         refine ⟨(z.1 + 1, swp z.2 z.1 (z.1 - 1)), ent_look ⟨Weak.of_eq rfl, Weak.of_eq rfl, Weak.of_eq rfl, Weak.of_eq rfl, Weak.of_eq rfl, Weak.of_eq rfl, Weak.of_eq (int_eq (by dsimp only; omega)), Weak.of_eq rfl, trivial⟩, ⟨by dsimp only; omega, by dsimp only; omega, by rw [swp_size]; exact w2, by rw [← w3]; exact su_more hzb hzl⟩, by dsimp only; omega⟩
       ·
        skip
        refine a_exit ?_
        refine a_region ?_
        refine rv (v := .int _ _) (v_move il nf) ?_
        refine rv (v := .int _ _) (v_add il il (fun _ => by omega)) ?_
        refine rv (v := .int _ _) (v_assign il nf) ?_
        refine r_nil ?_
        refine ⟨(x.1 + 1, u, afterUp (ltc cf) b u (afterDown (ltc cf) a u (swp x.2.2 u (u - 1)))), ent_look ⟨Weak.of_eq rfl, Weak.of_eq rfl, Weak.of_eq rfl, Weak.of_eq rfl, Weak.of_eq rfl, Weak.of_eq (int_eq (by dsimp only; omega)), Weak.of_eq (osl_eq (by unfold afterUp; first | (rw [if_pos hup2, ← w3, su_end (by simpa using ht109)]; done) | (rw [if_pos hup2, ← w3, su_stop (by simpa [ltc] using ht124)]; done) | (rw [if_neg (by simp at ht104; omega)]))), trivial⟩, ⟨by dsimp only; omega, by dsimp only; omega, by dsimp only; omega, by rw [au_size, ad_size, swp_size]; exact g4, by rw [← g5, show 5 - x.1 = (5 - (x.1 + 1)) + 1 by omega]; exact (pi_more hss hub h50).symm⟩, by dsimp only; omega⟩
      ·
       skip
       refine a_skip ?_
       refine a_pre (ent_look (L := [(0, .rsl _ _ _ _ _), (1, .int _ _), (2, .int _ _), (3, .fn _ _ _), (9, .int _ _), (10, .int _ _), (INH, .osl _ _ _ _)]) ⟨Weak.rfl, Weak.rfl, Weak.rfl, Weak.rfl, Weak.rfl, Weak.rfl, Weak.rfl, trivial⟩) ?_
       refine a_region ?_
       refine rv (v := .int _ _) (v_move il nf) ?_
       refine rv (v := .int _ _) (v_add il il (fun _ => by omega)) ?_
       refine rv (v := .int _ _) (v_assign il nf) ?_
       refine r_nil ?_
       refine ⟨(x.1 + 1, u, afterUp (ltc cf) b u (afterDown (ltc cf) a u (swp x.2.2 u (u - 1)))), ent_look ⟨Weak.of_eq rfl, Weak.of_eq rfl, Weak.of_eq rfl, Weak.of_eq rfl, Weak.of_eq rfl, Weak.of_eq (int_eq (by dsimp only; omega)), Weak.of_eq (osl_eq (by unfold afterUp; first | (rw [if_pos hup2, ← w3, su_end (by simpa using ht109)]; done) | (rw [if_pos hup2, ← w3, su_stop (by simpa [ltc] using ht124)]; done) | (rw [if_neg (by simp at ht104; omega)]))), trivial⟩, ⟨by dsimp only; omega, by dsimp only; omega, by dsimp only; omega, by rw [au_size, ad_size, swp_size]; exact g4, by rw [← g5, show 5 - x.1 = (5 - (x.1 + 1)) + 1 by omega]; exact (pi_more hss hub h50).symm⟩, by dsimp only; omega⟩
 ·
  skip
  refine a_exit ?_
  refine a_seq ?_
  have hfin : (partialInsertionSort (ltc cf) d a b) = (x.2.2, false) := (by rw [← g5, show 5 - x.1 = 0 by simp at ht16; omega]; rfl)
  refine a_region ?_
  refine rv (v := .bool _) (v_assign il nf) ?_
  refine r_nil ?_
  refine a_ret ?_
  refine ret1 Try.results111 (by decide) (by decide) (Weak.of_eq (bool_eq ?_)) rfl (Leaves.one (Weak.of_eq (osl_eq (by rw [hfin]))) rfl)
  rw [hfin]
end Go.Av
namespace Go.Av
open Go Go.Proofs Go.Sort
set_option maxRecDepth 10000
theorem order2_c (f : Nat) (hb : hasBody Try.prog f = true) (cf : Int → Int → Int) (hc : ∀ x y, ACall Try.prog f [.int .i64 x, .int .i64 y] [] (.int .i64 (cf x y)) []) (d : Array Int) (n a b s : Nat) (hd : d.size = n) (hab : a < n ∧ b < n ∧ s ≤ 1000) (hn : n ≤ 1152921504606846976) : ACall Try.prog 124 [.sl (acells d) n, .int .i64 ((a : Nat) : Int), .int .i64 ((b : Nat) : Int), .rp (INH, []) 0, .fn f [] []] [.op [.int .i64 ((s : Nat) : Int)]] (.tup [.int .i64 (((order2 (ltc cf) d a b s).1 : Nat) : Int), .int .i64 (((order2 (ltc cf) d a b s).2.1 : Nat) : Int)]) [.op [.int .i64 (((order2 (ltc cf) d a b s).2.2 : Nat) : Int)]] := by
  refine ACall.intro Try.func124 rfl (N := 32) rfl (by decide) (by simp) ?_
  refine a_seq ?_
  refine a_region ?_
  refine rv (v := .int _ _) (v_assign il nf) ?_
  refine rv (v := .int _ _) (v_assign il nf) ?_
  refine r_nil ?_
  refine a_seq ?_
  refine a_seq ?_
  refine a_region_any mixed (by kernel_rfl) ?_
  refine yv (v := .fn _ _ _) (v_mv rfl) ?_
  refine yv (v := .sl _ _) (v_move il nf) ?_
  refine yv (v := .int _ _) (v_move il nf) ?_
  refine yv (v := .pp _ _) (v_indexAddr_sl es42 il il (fun _ => ⟨by omega, by omega, acells_ne (d := d) (i := b) (by omega)⟩)) ?_
  refine yv (v := .int .i64 d[b]!) (v_load_pp ta3 il (fun _ => by rw [Nat.mul_one]; exact acells_get (by omega)) rfl) ?_
  refine yv (v := .sl _ _) (v_move il nf) ?_
  refine yv (v := .int _ _) (v_move il nf) ?_
  refine yv (v := .pp _ _) (v_indexAddr_sl es42 il il (fun _ => ⟨by omega, by omega, acells_ne (d := d) (i := a) (by omega)⟩)) ?_
  refine yv (v := .int .i64 d[a]!) (v_load_pp ta3 il (fun _ => by rw [Nat.mul_one]; exact acells_get (by omega)) rfl) ?_
  refine y_new (v := .int _ _) (q_clo (vs := [.int _ _, .int _ _]) (args := [.int .i64 _, .int .i64 _]) hb (.inl rfl) ⟨.inl rfl, .inl rfl, trivial⟩ rfl (fun hA => hc _ _) rfl rfl) rfl rfl (by decide) (by kernel_rfl) ?_
  refine yv (v := .bool _) (v_lss il il) ?_
  refine y_nil ?_
  refine a_cond rfl (fun ht22 => ?_) (fun ht22 => ?_)
  ·
    skip
    refine a_seq ?_
    have hl : ltc cf d[b]! d[a]! = true := (by simpa [ltc] using ht22)
    have hfin : (order2 (ltc cf) d a b s) = (b, a, s + 1) := (by unfold order2; rw [if_pos hl])
    refine a_region ?_
    refine rv (v := .rp _ _) (v_move il nf) ?_
    refine rv (v := .rp _ _) (v_nilCheck il rfl) ?_
    refine rv (v := .int _ _) (v_load_rp1 ta3 il rfl (fun _ => rfl) rfl) ?_
    refine rv (v := .int .i64 ((s + 1 : Nat) : Int)) ((v_add il il (fun _ => by omega)).cast (int_eq (by omega))) ?_
    refine rv (v := .rp _ _) (v_nilCheck il rfl) ?_
    refine r_step rfl (o_store (v := .int _ _) (y' := .op [.int _ _]) rfl rfl ta3 il il rfl rfl rfl rfl rfl rfl (Nat.le_of_ble_eq_true rfl) (by decide) rfl rfl) ?_
    refine r_nil ?_
    refine a_seq ?_
    refine a_region ?_
    refine rv (v := .int _ _) (v_move il nf) ?_
    refine rv (v := .int _ _) (v_move il nf) ?_
    refine rv (v := .int _ _) (v_assign il nf) ?_
    refine rv (v := .int _ _) (v_assign il nf) ?_
    refine r_nil ?_
    refine a_ret ?_
    refine retLO (rs := [.tmp 10, .tmp 11]) [(10, _), (11, _)] ⟨(Weak.of_eq (congrArg (fun z : Nat => AV.op [.int .i64 (z : Int)]) (by rw [hfin]))), Weak.rfl, Weak.rfl, trivial⟩ rfl Try.results124 (by decide) ⟨by decide, by decide, rfl⟩ (by decide) (by decide) (l2_eq (int_eq ?_) (int_eq ?_)) rfl rfl
    · rw [hfin]
    · rw [hfin]
  ·
    skip
    refine a_skip ?_
    refine a_seq ?_
    have hl : ¬ ltc cf d[b]! d[a]! = true := (by simpa [ltc] using ht22)
    have hfin : (order2 (ltc cf) d a b s) = (a, b, s) := (by unfold order2; rw [if_neg hl])
    refine a_region ?_
    refine rv (v := .int _ _) (v_move il nf) ?_
    refine rv (v := .int _ _) (v_move il nf) ?_
    refine rv (v := .int _ _) (v_assign il nf) ?_
    refine rv (v := .int _ _) (v_assign il nf) ?_
    refine r_nil ?_
    refine a_ret ?_
    refine retLO (rs := [.tmp 10, .tmp 11]) [(10, _), (11, _)] ⟨(Weak.of_eq (congrArg (fun z : Nat => AV.op [.int .i64 (z : Int)]) (by rw [hfin]))), Weak.rfl, Weak.rfl, trivial⟩ rfl Try.results124 (by decide) ⟨by decide, by decide, rfl⟩ (by decide) (by decide) (l2_eq (int_eq ?_) (int_eq ?_)) rfl rfl
    · rw [hfin]
    · rw [hfin]
end Go.Av
namespace Go.Av
open Go Go.Proofs Go.Sort
set_option maxRecDepth 10000
theorem hb123 : hasBody Try.prog 123 = true := by kernel_rfl
theorem hb124 : hasBody Try.prog 124 = true := by kernel_rfl
theorem median_c (f : Nat) (hb : hasBody Try.prog f = true) (cf : Int → Int → Int) (hc : ∀ x y, ACall Try.prog f [.int .i64 x, .int .i64 y] [] (.int .i64 (cf x y)) []) (d : Array Int) (n a b c s : Nat) (hd : d.size = n) (hab : a < n ∧ b < n ∧ c < n ∧ s ≤ 900) (hn : n ≤ 1152921504606846976) : ACall Try.prog 123 [.sl (acells d) n, .int .i64 ((a : Nat) : Int), .int .i64 ((b : Nat) : Int), .int .i64 ((c : Nat) : Int), .rp (INH, []) 0, .fn f [] []] [.op [.int .i64 ((s : Nat) : Int)]] (.int .i64 (((median (ltc cf) d a b c s).1 : Nat) : Int)) [.op [.int .i64 (((median (ltc cf) d a b c s).2 : Nat) : Int)]] := by
 have q1 := o2_bd (lt := ltc cf) (d := d) (s := s) hab.1 hab.2.1
 have q2 := o2_bd (lt := ltc cf) (d := d) (s := (order2 (ltc cf) d a b s).2.2) q1.2.1 hab.2.2.1
 have q3 := o2_bd (lt := ltc cf) (d := d) (s := (order2 (ltc cf) d (order2 (ltc cf) d a b s).2.1 c (order2 (ltc cf) d a b s).2.2).2.2) q1.1 q2.1
 refine ACall.intro Try.func123 rfl (N := 41) rfl (by decide) (by simp) ?_
 refine a_seq ?_
 refine a_region ?_
 refine rv (v := .int _ _) (v_assign il nf) ?_
 refine r_nil ?_
 refine a_seq ?_
 refine a_region ?_
 refine rv (v := .sl _ _) (v_move il nf) ?_
 refine rv (v := .int _ _) (v_move il nf) ?_
 refine rv (v := .int _ _) (v_move il nf) ?_
 refine rv (v := .rp _ _) (v_move il nf) ?_
 refine rv (v := .fn _ _ _) (v_mv rfl) ?_
 refine r_step rfl (o_callIOp (q := (INH, [])) (vs := [.sl _ _, .int _ _, .int _ _, .rp _ _, .fn _ _ _]) (args := [.sl _ _, .int .i64 _, .int .i64 _, .rp (INH, []) _, .fn _ _ _]) (cs0 := [.int _ _]) (cs1 := [.int _ _]) (res := .tup [.int _ _, .int _ _]) rfl hb124 rfl (by decide) ⟨.inl rfl, .inl rfl, .inl rfl, .inl rfl, .inl rfl, trivial⟩ rfl rfl (order2_c f hb cf hc d n _ _ _ hd (by omega) hn) rfl rfl rfl rfl rfl (Nat.le_of_ble_eq_true rfl) (by decide) rfl) ?_
 refine rv (v := .tup [.int _ _, .int _ _]) (v_mv rfl) ?_
 refine rv (v := .int _ _) (v_extract rfl rfl) ?_
 refine rv (v := .int _ _) (v_extract rfl rfl) ?_
 refine rv (v := .int _ _) (v_assign il nf) ?_
 refine rv (v := .int _ _) (v_assign il nf) ?_
 refine r_nil ?_
 refine a_seq ?_
 refine a_region ?_
 refine rv (v := .sl _ _) (v_move il nf) ?_
 refine rv (v := .int _ _) (v_move il nf) ?_
 refine rv (v := .int _ _) (v_move il nf) ?_
 refine rv (v := .rp _ _) (v_move il nf) ?_
 refine rv (v := .fn _ _ _) (v_mv rfl) ?_
 refine r_step rfl (o_callIOp (q := (INH, [])) (vs := [.sl _ _, .int _ _, .int _ _, .rp _ _, .fn _ _ _]) (args := [.sl _ _, .int .i64 _, .int .i64 _, .rp (INH, []) _, .fn _ _ _]) (cs0 := [.int _ _]) (cs1 := [.int _ _]) (res := .tup [.int _ _, .int _ _]) rfl hb124 rfl (by decide) ⟨.inl rfl, .inl rfl, .inl rfl, .inl rfl, .inl rfl, trivial⟩ rfl rfl (order2_c f hb cf hc d n _ _ _ hd (by omega) hn) rfl rfl rfl rfl rfl (Nat.le_of_ble_eq_true rfl) (by decide) rfl) ?_
 refine rv (v := .tup [.int _ _, .int _ _]) (v_mv rfl) ?_
 refine rv (v := .int _ _) (v_extract rfl rfl) ?_
 refine rv (v := .int _ _) (v_extract rfl rfl) ?_
 refine rv (v := .int _ _) (v_assign il nf) ?_
 refine rv (v := .int _ _) (v_assign il nf) ?_
 refine r_nil ?_
 refine a_seq ?_
 refine a_region ?_
 refine rv (v := .sl _ _) (v_move il nf) ?_
 refine rv (v := .int _ _) (v_move il nf) ?_
 refine rv (v := .int _ _) (v_move il nf) ?_
 refine rv (v := .rp _ _) (v_move il nf) ?_
 refine rv (v := .fn _ _ _) (v_mv rfl) ?_
 refine r_step rfl (o_callIOp (q := (INH, [])) (vs := [.sl _ _, .int _ _, .int _ _, .rp _ _, .fn _ _ _]) (args := [.sl _ _, .int .i64 _, .int .i64 _, .rp (INH, []) _, .fn _ _ _]) (cs0 := [.int _ _]) (cs1 := [.int _ _]) (res := .tup [.int _ _, .int _ _]) rfl hb124 rfl (by decide) ⟨.inl rfl, .inl rfl, .inl rfl, .inl rfl, .inl rfl, trivial⟩ rfl rfl (order2_c f hb cf hc d n _ _ _ hd (by omega) hn) rfl rfl rfl rfl rfl (Nat.le_of_ble_eq_true rfl) (by decide) rfl) ?_
 refine rv (v := .tup [.int _ _, .int _ _]) (v_mv rfl) ?_
 refine rv (v := .int _ _) (v_extract rfl rfl) ?_
 refine rv (v := .int _ _) (v_extract rfl rfl) ?_
 refine rv (v := .int _ _) (v_assign il nf) ?_
 refine rv (v := .int _ _) (v_assign il nf) ?_
 refine r_nil ?_
 refine a_seq ?_
 refine a_pre (ent_look (L := [(2, .int _ _), (12, .int _ _), (INH, .op [.int _ _])]) ⟨Weak.rfl, Weak.rfl, Weak.rfl, trivial⟩) ?_
 refine a_region ?_
 refine rv (v := .int _ _) (v_move il nf) ?_
 refine rv (v := .int _ _) (v_assign il nf) ?_
 refine r_nil ?_
 refine a_ret ?_
 refine ret1 Try.results123 (by decide) (by decide) (Weak.of_eq (int_eq ?_)) rfl (Leaves.one (Weak.of_eq rfl) rfl)
 rfl
theorem medianAdj_c (f : Nat) (hb : hasBody Try.prog f = true) (cf : Int → Int → Int) (hc : ∀ x y, ACall Try.prog f [.int .i64 x, .int .i64 y] [] (.int .i64 (cf x y)) []) (d : Array Int) (n a s : Nat) (hd : d.size = n) (hab : 1 ≤ a ∧ a + 1 < n ∧ s ≤ 900) (hn : n ≤ 1152921504606846976) : ACall Try.prog 122 [.sl (acells d) n, .int .i64 ((a : Nat) : Int), .rp (INH, []) 0, .fn f [] []] [.op [.int .i64 ((s : Nat) : Int)]] (.int .i64 (((medianAdjacent (ltc cf) d a s).1 : Nat) : Int)) [.op [.int .i64 (((medianAdjacent (ltc cf) d a s).2 : Nat) : Int)]] := by
 refine ACall.intro Try.func122 rfl (N := 18) rfl (by decide) (by simp) ?_
 refine a_seq ?_
 refine a_region ?_
 refine rv (v := .int _ _) (v_assign il nf) ?_
 refine r_nil ?_
 refine a_seq ?_
 refine a_region ?_
 refine rv (v := .sl _ _) (v_move il nf) ?_
 refine rv (v := .int _ _) (v_move il nf) ?_
 refine rv (v := .int .i64 ((a - 1 : Nat) : Int)) ((v_sub il il (fun _ => by omega)).cast (int_eq (by omega))) ?_
 refine rv (v := .int _ _) (v_move il nf) ?_
 refine rv (v := .int _ _) (v_move il nf) ?_
 refine rv (v := .int .i64 ((a + 1 : Nat) : Int)) ((v_add il il (fun _ => by omega)).cast (int_eq (by omega))) ?_
 refine rv (v := .rp _ _) (v_move il nf) ?_
 refine rv (v := .fn _ _ _) (v_mv rfl) ?_
 refine r_step rfl (o_callIOp (q := (INH, [])) (vs := [.sl _ _, .int _ _, .int _ _, .int _ _, .rp _ _, .fn _ _ _]) (args := [.sl _ _, .int .i64 _, .int .i64 _, .int .i64 _, .rp (INH, []) _, .fn _ _ _]) (cs0 := [.int _ _]) (cs1 := [.int _ _]) (res := .int _ _) rfl hb123 rfl (by decide) ⟨.inl rfl, .inl rfl, .inl rfl, .inl rfl, .inl rfl, .inl rfl, trivial⟩ rfl rfl (median_c f hb cf hc d n (a - 1) a (a + 1) s hd (by omega) hn) rfl rfl rfl rfl rfl (Nat.le_of_ble_eq_true rfl) (by decide) rfl) ?_
 refine rv (v := .int _ _) (v_assign il nf) ?_
 refine r_nil ?_
 refine a_ret ?_
 refine ret1 Try.results122 (by decide) (by decide) (Weak.of_eq (int_eq ?_)) rfl (Leaves.one (Weak.of_eq rfl) rfl)
 rfl
end Go.Av
namespace Go.Av
open Go Go.Proofs Go.Sort
set_option maxRecDepth 10000
theorem hb122 : hasBody Try.prog 122 = true := by kernel_rfl
theorem choosePivot_c (f : Nat) (hb : hasBody Try.prog f = true) (cf : Int → Int → Int) (hc : ∀ x y, ACall Try.prog f [.int .i64 x, .int .i64 y] [] (.int .i64 (cf x y)) []) (d : Array Int) (n a b : Nat) (hd : d.size = n) (hab : a < b ∧ b ≤ n) (hn : n ≤ 1152921504606846976) : ACall Try.prog 109 [.sl (acells d) n, .int .i64 ((a : Nat) : Int), .int .i64 ((b : Nat) : Int), .fn f [] []] [] (.tup [.int .i64 (((choosePivot (ltc cf) d a b).1 : Nat) : Int), .int .i64 ((hintN (choosePivot (ltc cf) d a b).2 : Nat) : Int)]) [] := by
  refine ACall.intro Try.func109 rfl (N := 63) rfl (by decide) (by simp) ?_
  refine a_seq ?_
  refine a_region ?_
  refine rv (v := .int _ _) (v_assign il nf) ?_
  refine rv (v := .int _ _) (v_assign il nf) ?_
  refine r_nil ?_
  refine a_seq ?_
  refine a_region ?_
  refine rv (v := .int _ _) (v_move il nf) ?_
  refine rv (v := .int _ _) (v_move il nf) ?_
  refine rv (v := .int .i64 ((b - a : Nat) : Int)) ((v_sub il il (fun _ => by omega)).cast (int_eq (by omega))) ?_
  refine rv (v := .int _ _) (v_assign il nf) ?_
  refine r_nil ?_
  refine a_seq ?_
  refine a_region ?_
  refine rn (v := .op [.int _ _]) (q_alloc zc3) ?_
  refine r_nil ?_
  refine a_seq ?_
  refine a_pre (ent_eq (t := 11) (v' := .op [.int .i64 ((0 : Nat) : Int)]) (Weak.of_eq rfl)) ?_
  refine a_region ?_
  refine rv (v := .int _ _) (v_move il nf) ?_
  refine rv (v := .int _ _) (v_move il nf) ?_
  refine rv (v := .int .i64 (((b - a) / 4 : Nat) : Int)) ((v_quo il il (fun _ => by omega)).cast (int_eq (by omega))) ?_
  refine rv (v := .int .i64 (((b - a) / 4 * 1 : Nat) : Int)) ((v_mul il il (fun _ => by omega)).cast (int_eq (by omega))) ?_
  refine rv (v := .int .i64 ((a + (b - a) / 4 * 1 : Nat) : Int)) ((v_add il il (fun _ => by omega)).cast (int_eq (by omega))) ?_
  refine rv (v := .int _ _) (v_assign il nf) ?_
  refine r_nil ?_
  refine a_seq ?_
  refine a_region ?_
  refine rv (v := .int _ _) (v_move il nf) ?_
  refine rv (v := .int _ _) (v_move il nf) ?_
  refine rv (v := .int .i64 (((b - a) / 4 : Nat) : Int)) ((v_quo il il (fun _ => by omega)).cast (int_eq (by omega))) ?_
  refine rv (v := .int .i64 (((b - a) / 4 * 2 : Nat) : Int)) ((v_mul il il (fun _ => by omega)).cast (int_eq (by omega))) ?_
  refine rv (v := .int .i64 ((a + (b - a) / 4 * 2 : Nat) : Int)) ((v_add il il (fun _ => by omega)).cast (int_eq (by omega))) ?_
  refine rv (v := .int _ _) (v_assign il nf) ?_
  refine r_nil ?_
  refine a_seq ?_
  refine a_region ?_
  refine rv (v := .int _ _) (v_move il nf) ?_
  refine rv (v := .int _ _) (v_move il nf) ?_
  refine rv (v := .int .i64 (((b - a) / 4 : Nat) : Int)) ((v_quo il il (fun _ => by omega)).cast (int_eq (by omega))) ?_
  refine rv (v := .int .i64 (((b - a) / 4 * 3 : Nat) : Int)) ((v_mul il il (fun _ => by omega)).cast (int_eq (by omega))) ?_
  refine rv (v := .int .i64 ((a + (b - a) / 4 * 3 : Nat) : Int)) ((v_add il il (fun _ => by omega)).cast (int_eq (by omega))) ?_
  refine rv (v := .int _ _) (v_assign il nf) ?_
  refine r_nil ?_
  refine a_seq ?_
  refine a_seq ?_
  refine a_region ?_
  refine rv (v := .int _ _) (v_move il nf) ?_
  refine rv (v := .bool _) (v_geq il il) ?_
  refine r_nil ?_
  refine a_cond rfl (fun ht34 => ?_) (fun ht34 => ?_)
  ·
    skip
    refine a_seq ?_
    refine a_seq ?_
    have h8 : b - a ≥ 8 := (by simp at ht34; omega)
    refine a_region ?_
    refine rv (v := .int _ _) (v_move il nf) ?_
    refine rv (v := .bool _) (v_geq il il) ?_
    refine r_nil ?_
    refine a_cond rfl (fun ht36 => ?_) (fun ht36 => ?_)
    ·
      skip
      refine a_seq ?_
      have h50 : b - a ≥ 50 := (by simp at ht36; omega)
      have m1 : (medianAdjacent (ltc cf) d (a + (b - a) / 4 * 1) 0).1 < n ∧ (medianAdjacent (ltc cf) d (a + (b - a) / 4 * 1) 0).2 ≤ 0 + 3 := med_bd (by omega) (by omega) (by omega)
      have m2 : (medianAdjacent (ltc cf) d (a + (b - a) / 4 * 2) (medianAdjacent (ltc cf) d (a + (b - a) / 4 * 1) 0).2).1 < n ∧ (medianAdjacent (ltc cf) d (a + (b - a) / 4 * 2) (medianAdjacent (ltc cf) d (a + (b - a) / 4 * 1) 0).2).2 ≤ (medianAdjacent (ltc cf) d (a + (b - a) / 4 * 1) 0).2 + 3 := med_bd (by omega) (by omega) (by omega)
      have m3 : (medianAdjacent (ltc cf) d (a + (b - a) / 4 * 3) (medianAdjacent (ltc cf) d (a + (b - a) / 4 * 2) (medianAdjacent (ltc cf) d (a + (b - a) / 4 * 1) 0).2).2).1 < n ∧ (medianAdjacent (ltc cf) d (a + (b - a) / 4 * 3) (medianAdjacent (ltc cf) d (a + (b - a) / 4 * 2) (medianAdjacent (ltc cf) d (a + (b - a) / 4 * 1) 0).2).2).2 ≤ (medianAdjacent (ltc cf) d (a + (b - a) / 4 * 2) (medianAdjacent (ltc cf) d (a + (b - a) / 4 * 1) 0).2).2 + 3 := med_bd (by omega) (by omega) (by omega)
      refine a_region ?_
      refine rv (v := .sl _ _) (v_move il nf) ?_
      refine rv (v := .int _ _) (v_move il nf) ?_
      refine rv (v := .fn _ _ _) (v_mv rfl) ?_
      refine r_step rfl (o_callIOp (q := (11, [])) (vs := [.sl _ _, .int _ _, .rp _ _, .fn _ _ _]) (args := [.sl _ _, .int .i64 _, .rp (INH, []) _, .fn _ _ _]) (cs0 := [.int _ _]) (cs1 := [.int _ _]) (res := .int _ _) rfl hb122 rfl (by decide) ⟨.inl rfl, .inl rfl, .inl rfl, .inl rfl, trivial⟩ rfl rfl (medianAdj_c f hb cf hc d n (a + (b - a) / 4 * 1) 0 hd (by omega) hn) rfl rfl rfl rfl rfl (Nat.le_of_ble_eq_true rfl) (by decide) rfl) ?_
      refine rv (v := .int _ _) (v_assign il nf) ?_
      refine r_nil ?_
      refine a_seq ?_
      refine a_pre (ent_look (L := [(0, .sl _ _), (3, .fn _ _ _), (8, .int _ _), (9, .int _ _), (11, .op [.int _ _]), (12, .int _ _), (13, .int _ _), (14, .int _ _)]) ⟨Weak.rfl, Weak.rfl, Weak.rfl, Weak.rfl, Weak.rfl, Weak.rfl, Weak.rfl, Weak.rfl, trivial⟩) ?_
      refine a_region ?_
      refine rv (v := .sl _ _) (v_move il nf) ?_
      refine rv (v := .int _ _) (v_move il nf) ?_
      refine rv (v := .fn _ _ _) (v_mv rfl) ?_
      refine r_step rfl (o_callIOp (q := (11, [])) (vs := [.sl _ _, .int _ _, .rp _ _, .fn _ _ _]) (args := [.sl _ _, .int .i64 _, .rp (INH, []) _, .fn _ _ _]) (cs0 := [.int _ _]) (cs1 := [.int _ _]) (res := .int _ _) rfl hb122 rfl (by decide) ⟨.inl rfl, .inl rfl, .inl rfl, .inl rfl, trivial⟩ rfl rfl (medianAdj_c f hb cf hc d n (a + (b - a) / 4 * 2) _ hd (by omega) hn) rfl rfl rfl rfl rfl (Nat.le_of_ble_eq_true rfl) (by decide) rfl) ?_
      refine rv (v := .int _ _) (v_assign il nf) ?_
      refine r_nil ?_
      refine a_region ?_
      refine rv (v := .sl _ _) (v_move il nf) ?_
      refine rv (v := .int _ _) (v_move il nf) ?_
      refine rv (v := .fn _ _ _) (v_mv rfl) ?_
      refine r_step rfl (o_callIOp (q := (11, [])) (vs := [.sl _ _, .int _ _, .rp _ _, .fn _ _ _]) (args := [.sl _ _, .int .i64 _, .rp (INH, []) _, .fn _ _ _]) (cs0 := [.int _ _]) (cs1 := [.int _ _]) (res := .int _ _) rfl hb122 rfl (by decide) ⟨.inl rfl, .inl rfl, .inl rfl, .inl rfl, trivial⟩ rfl rfl (medianAdj_c f hb cf hc d n (a + (b - a) / 4 * 3) _ hd (by omega) hn) rfl rfl rfl rfl rfl (Nat.le_of_ble_eq_true rfl) (by decide) rfl) ?_
      refine rv (v := .int _ _) (v_assign il nf) ?_
      refine r_nil ?_
      refine a_region ?_
      refine rv (v := .sl _ _) (v_move il nf) ?_
      refine rv (v := .int _ _) (v_move il nf) ?_
      refine rv (v := .int _ _) (v_move il nf) ?_
      refine rv (v := .int _ _) (v_move il nf) ?_
      refine rv (v := .fn _ _ _) (v_mv rfl) ?_
      refine r_step rfl (o_callIOp (q := (11, [])) (vs := [.sl _ _, .int _ _, .int _ _, .int _ _, .rp _ _, .fn _ _ _]) (args := [.sl _ _, .int .i64 _, .int .i64 _, .int .i64 _, .rp (INH, []) _, .fn _ _ _]) (cs0 := [.int _ _]) (cs1 := [.int _ _]) (res := .int _ _) rfl hb123 rfl (by decide) ⟨.inl rfl, .inl rfl, .inl rfl, .inl rfl, .inl rfl, .inl rfl, trivial⟩ rfl rfl (median_c f hb cf hc d n _ _ _ _ hd (by omega) hn) rfl rfl rfl rfl rfl (Nat.le_of_ble_eq_true rfl) (by decide) rfl) ?_
      refine rv (v := .int _ _) (v_assign il nf) ?_
      refine r_nil ?_
      refine a_seq ?_
      refine a_pre (ent_eq (t := 13) (v' := .int .i64 (((cpR (ltc cf) d a b).1 : Nat) : Int)) (Weak.of_eq (int_eq (congrArg Nat.cast (by unfold cpR; first | (rw [if_pos h8, if_pos h50]; done) | (rw [if_pos h8, if_neg (by simp at ht36; omega)]; done) | (rw [if_neg (by simp at ht34; omega)])))))) ?_
      refine a_pre (ent_eq (t := 11) (v' := .op [.int .i64 (((cpR (ltc cf) d a b).2 : Nat) : Int)]) (Weak.of_eq (congrArg (fun z : Nat => AV.op [.int .i64 (z : Int)]) (by unfold cpR; first | (rw [if_pos h8, if_pos h50]; done) | (rw [if_pos h8, if_neg (by simp at ht36; omega)]; done) | (rw [if_neg (by simp at ht34; omega)]))))) ?_
      refine a_region ?_
      refine rv (v := .int _ _) (v_load_rp1 ta3 il rfl (fun _ => rfl) rfl) ?_
      refine r_nil ?_
      refine a_block ?_
      refine a_seq ?_
      refine a_region ?_
      refine rv (v := .bool _) (v_eql il il) ?_
      refine rv (v := .bool _) (v_assign il nf) ?_
      refine r_nil ?_
      refine a_cond rfl (fun ht57 => ?_) (fun ht57 => ?_)
      ·
        skip
        refine a_seq ?_
        refine a_region ?_
        refine rv (v := .int _ _) (v_move il nf) ?_
        refine rv (v := .int _ _) (v_assign il nf) ?_
        refine rv (v := .int _ _) (v_assign il nf) ?_
        refine r_nil ?_
        refine a_ret ?_
        refine retL (rs := [.tmp 8, .tmp 9]) [(8, _), (9, _)] ⟨Weak.rfl, Weak.rfl, trivial⟩ rfl Try.results109 (by decide) ⟨by decide, by decide, rfl⟩ (by decide) (by decide) (l2_eq (int_eq ?_) (int_eq ?_)) rfl
        · rw [cp_eq]
        · rw [cp_eq]; dsimp only; rw [if_pos (by simp at ht57; omega)]; rfl
      ·
        skip
        refine a_seq ?_
        refine a_region ?_
        refine rv (v := .bool _) (v_eql il il) ?_
        refine rv (v := .bool _) (v_assign il nf) ?_
        refine r_nil ?_
        refine a_cond rfl (fun ht60 => ?_) (fun ht60 => ?_)
        ·
          skip
          refine a_seq ?_
          refine a_pre (ent_look (L := [(8, .int _ _), (9, .int _ _), (13, .int _ _)]) ⟨Weak.rfl, Weak.rfl, Weak.rfl, trivial⟩) ?_
          refine a_region ?_
          refine rv (v := .int _ _) (v_move il nf) ?_
          refine rv (v := .int _ _) (v_assign il nf) ?_
          refine rv (v := .int _ _) (v_assign il nf) ?_
          refine r_nil ?_
          refine a_ret ?_
          refine retL (rs := [.tmp 8, .tmp 9]) [(8, _), (9, _)] ⟨Weak.rfl, Weak.rfl, trivial⟩ rfl Try.results109 (by decide) ⟨by decide, by decide, rfl⟩ (by decide) (by decide) (l2_eq (int_eq ?_) (int_eq ?_)) rfl
          · rw [cp_eq]
          · rw [cp_eq]; dsimp only; rw [if_neg (by simp at ht57; omega), if_pos (by simp at ht60; omega)]; rfl
        ·
          skip
          refine a_seq ?_
          refine a_pre (ent_look (L := [(8, .int _ _), (9, .int _ _), (13, .int _ _)]) ⟨Weak.rfl, Weak.rfl, Weak.rfl, trivial⟩) ?_
          refine a_region ?_
          refine rv (v := .int _ _) (v_move il nf) ?_
          refine rv (v := .int _ _) (v_assign il nf) ?_
          refine rv (v := .int _ _) (v_assign il nf) ?_
          refine r_nil ?_
          refine a_ret ?_
          refine retL (rs := [.tmp 8, .tmp 9]) [(8, _), (9, _)] ⟨Weak.rfl, Weak.rfl, trivial⟩ rfl Try.results109 (by decide) ⟨by decide, by decide, rfl⟩ (by decide) (by decide) (l2_eq (int_eq ?_) (int_eq ?_)) rfl
          · rw [cp_eq]
          · rw [cp_eq]; dsimp only; rw [if_neg (by simp at ht57; omega), if_neg (by simp at ht60; omega)]; rfl
    ·
      skip
      refine a_skip ?_
      refine a_region ?_
      refine rv (v := .sl _ _) (v_move il nf) ?_
      refine rv (v := .int _ _) (v_move il nf) ?_
      refine rv (v := .int _ _) (v_move il nf) ?_
      refine rv (v := .int _ _) (v_move il nf) ?_
      refine rv (v := .fn _ _ _) (v_mv rfl) ?_
      refine r_step rfl (o_callIOp (q := (11, [])) (vs := [.sl _ _, .int _ _, .int _ _, .int _ _, .rp _ _, .fn _ _ _]) (args := [.sl _ _, .int .i64 _, .int .i64 _, .int .i64 _, .rp (INH, []) _, .fn _ _ _]) (cs0 := [.int _ _]) (cs1 := [.int _ _]) (res := .int _ _) rfl hb123 rfl (by decide) ⟨.inl rfl, .inl rfl, .inl rfl, .inl rfl, .inl rfl, .inl rfl, trivial⟩ rfl rfl (median_c f hb cf hc d n _ _ _ _ hd (by omega) hn) rfl rfl rfl rfl rfl (Nat.le_of_ble_eq_true rfl) (by decide) rfl) ?_
      refine rv (v := .int _ _) (v_assign il nf) ?_
      refine r_nil ?_
      refine a_seq ?_
      refine a_pre (ent_look (L := [(8, .int _ _), (9, .int _ _), (11, .op [.int _ _]), (13, .int _ _)]) ⟨Weak.rfl, Weak.rfl, Weak.rfl, Weak.rfl, trivial⟩) ?_
      refine a_pre (ent_eq (t := 13) (v' := .int .i64 (((cpR (ltc cf) d a b).1 : Nat) : Int)) (Weak.of_eq (int_eq (congrArg Nat.cast (by unfold cpR; first | (rw [if_pos h8, if_pos h50]; done) | (rw [if_pos h8, if_neg (by simp at ht36; omega)]; done) | (rw [if_neg (by simp at ht34; omega)])))))) ?_
      refine a_pre (ent_eq (t := 11) (v' := .op [.int .i64 (((cpR (ltc cf) d a b).2 : Nat) : Int)]) (Weak.of_eq (congrArg (fun z : Nat => AV.op [.int .i64 (z : Int)]) (by unfold cpR; first | (rw [if_pos h8, if_pos h50]; done) | (rw [if_pos h8, if_neg (by simp at ht36; omega)]; done) | (rw [if_neg (by simp at ht34; omega)]))))) ?_
      refine a_region ?_
      refine rv (v := .int _ _) (v_load_rp1 ta3 il rfl (fun _ => rfl) rfl) ?_
      refine r_nil ?_
      refine a_block ?_
      refine a_seq ?_
      refine a_region ?_
      refine rv (v := .bool _) (v_eql il il) ?_
      refine rv (v := .bool _) (v_assign il nf) ?_
      refine r_nil ?_
      refine a_cond rfl (fun ht57 => ?_) (fun ht57 => ?_)
      ·
        skip
        refine a_seq ?_
        refine a_region ?_
        refine rv (v := .int _ _) (v_move il nf) ?_
        refine rv (v := .int _ _) (v_assign il nf) ?_
        refine rv (v := .int _ _) (v_assign il nf) ?_
        refine r_nil ?_
        refine a_ret ?_
        refine retL (rs := [.tmp 8, .tmp 9]) [(8, _), (9, _)] ⟨Weak.rfl, Weak.rfl, trivial⟩ rfl Try.results109 (by decide) ⟨by decide, by decide, rfl⟩ (by decide) (by decide) (l2_eq (int_eq ?_) (int_eq ?_)) rfl
        · rw [cp_eq]
        · rw [cp_eq]; dsimp only; rw [if_pos (by simp at ht57; omega)]; rfl
      ·
        skip
        refine a_seq ?_
        refine a_region ?_
        refine rv (v := .bool _) (v_eql il il) ?_
        refine rv (v := .bool _) (v_assign il nf) ?_
        refine r_nil ?_
        refine a_cond rfl (fun ht60 => ?_) (fun ht60 => ?_)
        ·
          skip
          refine a_seq ?_
          refine a_region ?_
          refine rv (v := .int _ _) (v_move il nf) ?_
          refine rv (v := .int _ _) (v_assign il nf) ?_
          refine rv (v := .int _ _) (v_assign il nf) ?_
          refine r_nil ?_
          refine a_ret ?_
          refine retL (rs := [.tmp 8, .tmp 9]) [(8, _), (9, _)] ⟨Weak.rfl, Weak.rfl, trivial⟩ rfl Try.results109 (by decide) ⟨by decide, by decide, rfl⟩ (by decide) (by decide) (l2_eq (int_eq ?_) (int_eq ?_)) rfl
          · rw [cp_eq]
          · rw [cp_eq]; dsimp only; rw [if_neg (by simp at ht57; omega), if_pos (by simp at ht60; omega)]; rfl
        ·
          skip
          refine a_seq ?_
          refine a_region ?_
          refine rv (v := .int _ _) (v_move il nf) ?_
          refine rv (v := .int _ _) (v_assign il nf) ?_
          refine rv (v := .int _ _) (v_assign il nf) ?_
          refine r_nil ?_
          refine a_ret ?_
          refine retL (rs := [.tmp 8, .tmp 9]) [(8, _), (9, _)] ⟨Weak.rfl, Weak.rfl, trivial⟩ rfl Try.results109 (by decide) ⟨by decide, by decide, rfl⟩ (by decide) (by decide) (l2_eq (int_eq ?_) (int_eq ?_)) rfl
          · rw [cp_eq]
          · rw [cp_eq]; dsimp only; rw [if_neg (by simp at ht57; omega), if_neg (by simp at ht60; omega)]; rfl
  ·
    skip
    refine a_skip ?_
    refine a_seq ?_
    refine a_pre (ent_eq (t := 13) (v' := .int .i64 (((cpR (ltc cf) d a b).1 : Nat) : Int)) (Weak.of_eq (int_eq (congrArg Nat.cast (by unfold cpR; first | (rw [if_pos h8, if_pos h50]; done) | (rw [if_pos h8, if_neg (by simp at ht36; omega)]; done) | (rw [if_neg (by simp at ht34; omega)])))))) ?_
    refine a_pre (ent_eq (t := 11) (v' := .op [.int .i64 (((cpR (ltc cf) d a b).2 : Nat) : Int)]) (Weak.of_eq (congrArg (fun z : Nat => AV.op [.int .i64 (z : Int)]) (by unfold cpR; first | (rw [if_pos h8, if_pos h50]; done) | (rw [if_pos h8, if_neg (by simp at ht36; omega)]; done) | (rw [if_neg (by simp at ht34; omega)]))))) ?_
    refine a_region ?_
    refine rv (v := .int _ _) (v_load_rp1 ta3 il rfl (fun _ => rfl) rfl) ?_
    refine r_nil ?_
    refine a_block ?_
    refine a_seq ?_
    refine a_region ?_
    refine rv (v := .bool _) (v_eql il il) ?_
    refine rv (v := .bool _) (v_assign il nf) ?_
    refine r_nil ?_
    refine a_cond rfl (fun ht57 => ?_) (fun ht57 => ?_)
    ·
      skip
      refine a_seq ?_
      refine a_pre (ent_look (L := [(8, .int _ _), (9, .int _ _), (13, .int _ _), (55, .int _ _)]) ⟨Weak.rfl, Weak.rfl, Weak.rfl, Weak.rfl, trivial⟩) ?_
      refine a_region ?_
      refine rv (v := .int _ _) (v_move il nf) ?_
      refine rv (v := .int _ _) (v_assign il nf) ?_
      refine rv (v := .int _ _) (v_assign il nf) ?_
      refine r_nil ?_
      refine a_ret ?_
      refine retL (rs := [.tmp 8, .tmp 9]) [(8, _), (9, _)] ⟨Weak.rfl, Weak.rfl, trivial⟩ rfl Try.results109 (by decide) ⟨by decide, by decide, rfl⟩ (by decide) (by decide) (l2_eq (int_eq ?_) (int_eq ?_)) rfl
      · rw [cp_eq]
      · rw [cp_eq]; dsimp only; rw [if_pos (by simp at ht57; omega)]; rfl
    ·
      skip
      refine a_seq ?_
      refine a_pre (ent_look (L := [(8, .int _ _), (9, .int _ _), (13, .int _ _), (55, .int _ _)]) ⟨Weak.rfl, Weak.rfl, Weak.rfl, Weak.rfl, trivial⟩) ?_
      refine a_region ?_
      refine rv (v := .bool _) (v_eql il il) ?_
      refine rv (v := .bool _) (v_assign il nf) ?_
      refine r_nil ?_
      refine a_cond rfl (fun ht60 => ?_) (fun ht60 => ?_)
      ·
        skip
        refine a_seq ?_
        refine a_region ?_
        refine rv (v := .int _ _) (v_move il nf) ?_
        refine rv (v := .int _ _) (v_assign il nf) ?_
        refine rv (v := .int _ _) (v_assign il nf) ?_
        refine r_nil ?_
        refine a_ret ?_
        refine retL (rs := [.tmp 8, .tmp 9]) [(8, _), (9, _)] ⟨Weak.rfl, Weak.rfl, trivial⟩ rfl Try.results109 (by decide) ⟨by decide, by decide, rfl⟩ (by decide) (by decide) (l2_eq (int_eq ?_) (int_eq ?_)) rfl
        · rw [cp_eq]
        · rw [cp_eq]; dsimp only; rw [if_neg (by simp at ht57; omega), if_pos (by simp at ht60; omega)]; rfl
      ·
        skip
        refine a_seq ?_
        refine a_region ?_
        refine rv (v := .int _ _) (v_move il nf) ?_
        refine rv (v := .int _ _) (v_assign il nf) ?_
        refine rv (v := .int _ _) (v_assign il nf) ?_
        refine r_nil ?_
        refine a_ret ?_
        refine retL (rs := [.tmp 8, .tmp 9]) [(8, _), (9, _)] ⟨Weak.rfl, Weak.rfl, trivial⟩ rfl Try.results109 (by decide) ⟨by decide, by decide, rfl⟩ (by decide) (by decide) (l2_eq (int_eq ?_) (int_eq ?_)) rfl
        · rw [cp_eq]
        · rw [cp_eq]; dsimp only; rw [if_neg (by simp at ht57; omega), if_neg (by simp at ht60; omega)]; rfl
end Go.Av
namespace Go.Av
open Go Go.Proofs Go.Sort
set_option maxRecDepth 10000
theorem ta133 : tyAgg Try.prog 133 = some (false, 1) := by kernel_rfl
theorem next_c (r : Nat) (h : r < 18446744073709551616) : ACall Try.prog 121 [.rp (INH, []) 0] [.op [.int .u64 ((r : Nat) : Int)]] (.int .u64 ((xorNextN r : Nat) : Int)) [.op [.int .u64 ((xorNextN r : Nat) : Int)]] := by
 have ha : (r ^^^ (r * 8192 % 18446744073709551616)) < 2 ^ 64 := Nat.xor_lt_two_pow (by omega) (by omega)
 have hb0 : ((r ^^^ (r * 8192 % 18446744073709551616)) ^^^ ((r ^^^ (r * 8192 % 18446744073709551616)) / 128)) < 2 ^ 64 := Nat.xor_lt_two_pow ha (by omega)
 refine ACall.intro Try.func121 rfl (N := 33) rfl (by decide) (by simp) ?_
 refine a_seq ?_
 refine a_region ?_
 refine rv (v := .int _ _) (v_assign il nf) ?_
 refine r_nil ?_
 refine a_seq ?_
 refine a_region_w [(3, true), (4, true), (5, true), (6, true), (7, true), (8, true), (9, true), (10, true), (11, true), (INH, false)] mixed (by kernel_rfl) ?_
 refine wv (v := .rp _ _) (v_move il nf) ?_
 refine wv (v := .rp _ _) (v_nilCheck il rfl) ?_
 refine wv (v := .int _ _) (v_load_rp1 ta133 il rfl (fun _ => rfl) rfl) ?_
 refine wv (v := .rp _ _) (v_move il nf) ?_
 refine wv (v := .rp _ _) (v_nilCheck il rfl) ?_
 refine wv (v := .int _ _) (v_load_rp1 ta133 il rfl (fun _ => rfl) rfl) ?_
 refine wv (v := .int .u64 ((r * 8192 % 18446744073709551616 : Nat) : Int)) ((v_shlu il il (fun _ => by omega)).cast (int_eq rfl)) ?_
 refine wv (v := .int .u64 (((r ^^^ (r * 8192 % 18446744073709551616)) : Nat) : Int)) (v_xoru il il (fun _ => by omega)) ?_
 refine wv (v := .rp _ _) (v_nilCheck il rfl) ?_
 refine w_store (v := .int _ _) (y' := .op [.int _ _]) rfl rfl rfl ta133 (.inl rfl) (.inl rfl) rfl rfl rfl rfl rfl rfl (Nat.le_of_ble_eq_true rfl) (by decide) rfl rfl rfl (by kernel_rfl) ?_
 refine w_nil ?_
 refine a_seq ?_
 refine a_region_w [(12, true), (13, true), (14, true), (15, true), (16, true), (17, true), (18, true), (19, true), (20, true), (INH, false)] mixed (by kernel_rfl) ?_
 refine wv (v := .rp _ _) (v_move il nf) ?_
 refine wv (v := .rp _ _) (v_nilCheck il rfl) ?_
 refine wv (v := .int _ _) (v_load_rp1 ta133 il rfl (fun _ => rfl) rfl) ?_
 refine wv (v := .rp _ _) (v_move il nf) ?_
 refine wv (v := .rp _ _) (v_nilCheck il rfl) ?_
 refine wv (v := .int _ _) (v_load_rp1 ta133 il rfl (fun _ => rfl) rfl) ?_
 refine wv (v := .int .u64 (((r ^^^ (r * 8192 % 18446744073709551616)) / 128 : Nat) : Int)) ((v_shru il il (fun _ => by omega)).cast (int_eq (by simp))) ?_
 refine wv (v := .int .u64 ((((r ^^^ (r * 8192 % 18446744073709551616)) ^^^ ((r ^^^ (r * 8192 % 18446744073709551616)) / 128)) : Nat) : Int)) (v_xoru il il (fun _ => by omega)) ?_
 refine wv (v := .rp _ _) (v_nilCheck il rfl) ?_
 refine w_store (v := .int _ _) (y' := .op [.int _ _]) rfl rfl rfl ta133 (.inl rfl) (.inl rfl) rfl rfl rfl rfl rfl rfl (Nat.le_of_ble_eq_true rfl) (by decide) rfl rfl rfl (by kernel_rfl) ?_
 refine w_nil ?_
 refine a_seq ?_
 refine a_region_w [(21, true), (22, true), (23, true), (24, true), (25, true), (26, true), (27, true), (28, true), (29, true), (INH, false)] mixed (by kernel_rfl) ?_
 refine wv (v := .rp _ _) (v_move il nf) ?_
 refine wv (v := .rp _ _) (v_nilCheck il rfl) ?_
 refine wv (v := .int _ _) (v_load_rp1 ta133 il rfl (fun _ => rfl) rfl) ?_
 refine wv (v := .rp _ _) (v_move il nf) ?_
 refine wv (v := .rp _ _) (v_nilCheck il rfl) ?_
 refine wv (v := .int _ _) (v_load_rp1 ta133 il rfl (fun _ => rfl) rfl) ?_
 refine wv (v := .int .u64 ((((r ^^^ (r * 8192 % 18446744073709551616)) ^^^ ((r ^^^ (r * 8192 % 18446744073709551616)) / 128)) * 131072 % 18446744073709551616 : Nat) : Int)) ((v_shlu il il (fun _ => by omega)).cast (int_eq rfl)) ?_
 refine wv (v := .int .u64 ((xorNextN r : Nat) : Int)) ((v_xoru il il (fun _ => by omega)).cast (int_eq rfl)) ?_
 refine wv (v := .rp _ _) (v_nilCheck il rfl) ?_
 refine w_store (v := .int _ _) (y' := .op [.int _ _]) rfl rfl rfl ta133 (.inl rfl) (.inl rfl) rfl rfl rfl rfl rfl rfl (Nat.le_of_ble_eq_true rfl) (by decide) rfl rfl rfl (by kernel_rfl) ?_
 refine w_nil ?_
 refine a_seq ?_
 refine a_pre (ent_look (L := [(0, .rp _ _), (2, .int _ _), (INH, .op [.int _ _])]) ⟨Weak.rfl, Weak.rfl, Weak.rfl, trivial⟩) ?_
 refine a_region ?_
 refine rv (v := .rp _ _) (v_move il nf) ?_
 refine rv (v := .rp _ _) (v_nilCheck il rfl) ?_
 refine rv (v := .int _ _) (v_load_rp1 ta133 il rfl (fun _ => rfl) rfl) ?_
 refine rv (v := .int _ _) (v_assign il nf) ?_
 refine r_nil ?_
 refine a_ret ?_
 refine ret1 Try.results121 (by decide) (by decide) (Weak.of_eq (int_eq ?_)) rfl (Leaves.one (Weak.of_eq rfl) rfl)
 rfl
end Go.Av
namespace Go.Av
open Go Go.Proofs Go.Sort
set_option maxRecDepth 10000
theorem iss5 : (Try.prog.underlying 5).isSome = true := by kernel_rfl
theorem un9 : Try.prog.underlying 9 = some .string := by kernel_rfl
theorem uni5 : Try.prog.underlying 5 = some (.int .u8) := by kernel_rfl
theorem len64_c (n : Nat) (h : n < 18446744073709551616) : ACall Try.prog 115 [.int .u64 ((n : Nat) : Int)] [] (.int .i64 ((bitsLen n : Nat) : Int)) [] := by
 have hx1 : lx 32 n < 4294967296 := (by unfold lx; split <;> omega)
 have hx2 : lx 16 (lx 32 n) < 65536 := (by have h9 := hx1; generalize lx 32 n = m at h9 ⊢; unfold lx; split <;> omega)
 have hx3 : lx 8 (lx 16 (lx 32 n)) < 256 := (by have h9 := hx2; generalize lx 16 (lx 32 n) = m at h9 ⊢; unfold lx; split <;> omega)
 have hl3 : bitsLen (lx 8 (lx 16 (lx 32 n))) ≤ 8 := (bitsLen_le_iff _ _).2 hx3
 have hlen : bitsLen n = ll 32 n + ll 16 (lx 32 n) + ll 8 (lx 16 (lx 32 n)) + bitsLen (lx 8 (lx 16 (lx 32 n))) := (by have e1 := lx_len 32 n; have e2 := lx_len 16 (lx 32 n); have e3 := lx_len 8 (lx 16 (lx 32 n)); omega)
 have hb1 : ll 32 n ≤ 32 := (by unfold ll; split <;> omega)
 have hb2 : ll 16 (lx 32 n) ≤ 16 := (by unfold ll; split <;> omega)
 have hb3 : ll 8 (lx 16 (lx 32 n)) ≤ 8 := (by unfold ll; split <;> omega)
 refine ACall.intro Try.func115 rfl (N := 25) rfl (by decide) (by simp) ?_
 refine a_seq ?_
 refine a_region ?_
 refine rv (v := .int _ _) (v_assign il nf) ?_
 refine r_nil ?_
 refine a_seq ?_
 refine a_seq ?_
 refine a_region ?_
 refine rv (v := .int _ _) (v_move il nf) ?_
 refine rv (v := .bool _) (v_geq il il) ?_
 refine r_nil ?_
 refine a_cond rfl (fun ht4 => ?_) (fun ht4 => ?_)
 ·
  skip
  refine a_seq ?_
  refine a_region ?_
  refine rv (v := .int _ _) (v_move il nf) ?_
  refine rv (v := .int .u64 ((n / 4294967296 : Nat) : Int)) ((v_shru il il (fun _ => by omega)).cast (int_eq (by simp))) ?_
  refine rv (v := .int _ _) (v_assign il nf) ?_
  refine r_nil ?_
  refine a_region ?_
  refine rv (v := .int _ _) (v_assign il nf) ?_
  refine r_nil ?_
  refine a_seq ?_
  refine a_seq ?_
  refine a_pre (ent_eq (t := 0) (v' := .int .u64 ((lx 32 n : Nat) : Int)) (Weak.of_eq (int_eq (congrArg Nat.cast (by first | exact (if_pos (show 2 ^ 32 ≤ n by simp at ht4; omega)).symm | exact (if_neg (show ¬ 2 ^ 32 ≤ n by simp at ht4; omega)).symm))))) ?_
  refine a_pre (ent_eq (t := 2) (v' := .int .i64 ((ll 32 n : Nat) : Int)) (Weak.of_eq (int_eq (by first | (rw [show ll 32 (n) = 32 from if_pos (show 2 ^ 32 ≤ n by simp at ht4; omega)]; rfl) | (rw [show ll 32 (n) = 0 from if_neg (show ¬ 2 ^ 32 ≤ n by simp at ht4; omega)]; rfl))))) ?_
  refine a_region ?_
  refine rv (v := .int _ _) (v_move il nf) ?_
  refine rv (v := .bool _) (v_geq il il) ?_
  refine r_nil ?_
  refine a_cond rfl (fun ht8 => ?_) (fun ht8 => ?_)
  ·
   skip
   refine a_seq ?_
   refine a_region ?_
   refine rv (v := .int _ _) (v_move il nf) ?_
   refine rv (v := .int .u64 ((lx 32 n / 65536 : Nat) : Int)) ((v_shru il il (fun _ => by omega)).cast (int_eq (by simp))) ?_
   refine rv (v := .int _ _) (v_assign il nf) ?_
   refine r_nil ?_
   refine a_region ?_
   refine rv (v := .int _ _) (v_move il nf) ?_
   refine rv (v := .int _ _) (v_add il il (fun _ => by omega)) ?_
   refine rv (v := .int _ _) (v_assign il nf) ?_
   refine r_nil ?_
   refine a_seq ?_
   refine a_seq ?_
   refine a_pre (ent_eq (t := 0) (v' := .int .u64 ((lx 16 (lx 32 n) : Nat) : Int)) (Weak.of_eq (int_eq (congrArg Nat.cast (by first | exact (if_pos (show 2 ^ 16 ≤ lx 32 n by simp at ht8; omega)).symm | exact (if_neg (show ¬ 2 ^ 16 ≤ lx 32 n by simp at ht8; omega)).symm))))) ?_
   refine a_pre (ent_eq (t := 2) (v' := .int .i64 ((ll 32 n + ll 16 (lx 32 n) : Nat) : Int)) (Weak.of_eq (int_eq (by first | (rw [show ll 16 (lx 32 n) = 16 from if_pos (show 2 ^ 16 ≤ lx 32 n by simp at ht8; omega)]; rfl) | (rw [show ll 16 (lx 32 n) = 0 from if_neg (show ¬ 2 ^ 16 ≤ lx 32 n by simp at ht8; omega)]; rfl))))) ?_
   refine a_region ?_
   refine rv (v := .int _ _) (v_move il nf) ?_
   refine rv (v := .bool _) (v_geq il il) ?_
   refine r_nil ?_
   refine a_cond rfl (fun ht14 => ?_) (fun ht14 => ?_)
   ·
    skip
    refine a_seq ?_
    refine a_region ?_
    refine rv (v := .int _ _) (v_move il nf) ?_
    refine rv (v := .int .u64 ((lx 16 (lx 32 n) / 256 : Nat) : Int)) ((v_shru il il (fun _ => by omega)).cast (int_eq (by simp))) ?_
    refine rv (v := .int _ _) (v_assign il nf) ?_
    refine r_nil ?_
    refine a_region ?_
    refine rv (v := .int _ _) (v_move il nf) ?_
    refine rv (v := .int _ _) (v_add il il (fun _ => by omega)) ?_
    refine rv (v := .int _ _) (v_assign il nf) ?_
    refine r_nil ?_
    refine a_seq ?_
    refine a_pre (ent_eq (t := 0) (v' := .int .u64 ((lx 8 (lx 16 (lx 32 n)) : Nat) : Int)) (Weak.of_eq (int_eq (congrArg Nat.cast (by first | exact (if_pos (show 2 ^ 8 ≤ lx 16 (lx 32 n) by simp at ht14; omega)).symm | exact (if_neg (show ¬ 2 ^ 8 ≤ lx 16 (lx 32 n) by simp at ht14; omega)).symm))))) ?_
    refine a_pre (ent_eq (t := 2) (v' := .int .i64 ((ll 32 n + ll 16 (lx 32 n) + ll 8 (lx 16 (lx 32 n)) : Nat) : Int)) (Weak.of_eq (int_eq (by first | (rw [show ll 8 (lx 16 (lx 32 n)) = 8 from if_pos (show 2 ^ 8 ≤ lx 16 (lx 32 n) by simp at ht14; omega)]; rfl) | (rw [show ll 8 (lx 16 (lx 32 n)) = 0 from if_neg (show ¬ 2 ^ 8 ≤ lx 16 (lx 32 n) by simp at ht14; omega)]; rfl))))) ?_
    refine a_region ?_
    refine rv (v := .int _ _) (v_move il nf) ?_
    refine rv (v := .int _ _) (v_move il nf) ?_
    refine rv (v := .int .u8 ((lx 8 (lx 16 (lx 32 n)) : Nat) : Int)) (v_conv iss132 uni5 il (fun _ => IntWalk.u8_in _ (by omega))) ?_
    refine rv (v := .int .u8 ((bitsLen (lx 8 (lx 16 (lx 32 n))) : Nat) : Int)) ((v_index_str un9 il il (fun _ => ⟨by omega, Int.lt_of_lt_of_le (Int.ofNat_lt.2 hx3) (by decide +kernel)⟩)).cast (int_eq (congrArg Nat.cast (by revert hx3; generalize lx 8 (lx 16 (lx 32 n)) = m; revert m; decide +kernel)))) ?_
    refine rv (v := .int _ _) (v_conv iss5 uni3 il (fun _ => by first | rfl | exact IntWalk.i64_in _ (by omega))) ?_
    refine rv (v := .int _ _) (v_add il il (fun _ => by omega)) ?_
    refine rv (v := .int _ _) (v_assign il nf) ?_
    refine r_nil ?_
    refine a_ret ?_
    refine ret1 Try.results115 (by decide) (by decide) (Weak.of_eq (int_eq ?_)) rfl Leaves.nil
    rw [hlen]; simp
   ·
    skip
    refine a_skip ?_
    refine a_seq ?_
    refine a_pre (ent_eq (t := 0) (v' := .int .u64 ((lx 8 (lx 16 (lx 32 n)) : Nat) : Int)) (Weak.of_eq (int_eq (congrArg Nat.cast (by first | exact (if_pos (show 2 ^ 8 ≤ lx 16 (lx 32 n) by simp at ht14; omega)).symm | exact (if_neg (show ¬ 2 ^ 8 ≤ lx 16 (lx 32 n) by simp at ht14; omega)).symm))))) ?_
    refine a_pre (ent_eq (t := 2) (v' := .int .i64 ((ll 32 n + ll 16 (lx 32 n) + ll 8 (lx 16 (lx 32 n)) : Nat) : Int)) (Weak.of_eq (int_eq (by first | (rw [show ll 8 (lx 16 (lx 32 n)) = 8 from if_pos (show 2 ^ 8 ≤ lx 16 (lx 32 n) by simp at ht14; omega)]; rfl) | (rw [show ll 8 (lx 16 (lx 32 n)) = 0 from if_neg (show ¬ 2 ^ 8 ≤ lx 16 (lx 32 n) by simp at ht14; omega)]; rfl))))) ?_
    refine a_region ?_
    refine rv (v := .int _ _) (v_move il nf) ?_
    refine rv (v := .int _ _) (v_move il nf) ?_
    refine rv (v := .int .u8 ((lx 8 (lx 16 (lx 32 n)) : Nat) : Int)) (v_conv iss132 uni5 il (fun _ => IntWalk.u8_in _ (by omega))) ?_
    refine rv (v := .int .u8 ((bitsLen (lx 8 (lx 16 (lx 32 n))) : Nat) : Int)) ((v_index_str un9 il il (fun _ => ⟨by omega, Int.lt_of_lt_of_le (Int.ofNat_lt.2 hx3) (by decide +kernel)⟩)).cast (int_eq (congrArg Nat.cast (by revert hx3; generalize lx 8 (lx 16 (lx 32 n)) = m; revert m; decide +kernel)))) ?_
    refine rv (v := .int _ _) (v_conv iss5 uni3 il (fun _ => by first | rfl | exact IntWalk.i64_in _ (by omega))) ?_
    refine rv (v := .int _ _) (v_add il il (fun _ => by omega)) ?_
    refine rv (v := .int _ _) (v_assign il nf) ?_
    refine r_nil ?_
    refine a_ret ?_
    refine ret1 Try.results115 (by decide) (by decide) (Weak.of_eq (int_eq ?_)) rfl Leaves.nil
    rw [hlen]; simp
  ·
   skip
   refine a_skip ?_
   refine a_seq ?_
   refine a_seq ?_
   refine a_pre (ent_eq (t := 0) (v' := .int .u64 ((lx 16 (lx 32 n) : Nat) : Int)) (Weak.of_eq (int_eq (congrArg Nat.cast (by first | exact (if_pos (show 2 ^ 16 ≤ lx 32 n by simp at ht8; omega)).symm | exact (if_neg (show ¬ 2 ^ 16 ≤ lx 32 n by simp at ht8; omega)).symm))))) ?_
   refine a_pre (ent_eq (t := 2) (v' := .int .i64 ((ll 32 n + ll 16 (lx 32 n) : Nat) : Int)) (Weak.of_eq (int_eq (by first | (rw [show ll 16 (lx 32 n) = 16 from if_pos (show 2 ^ 16 ≤ lx 32 n by simp at ht8; omega)]; rfl) | (rw [show ll 16 (lx 32 n) = 0 from if_neg (show ¬ 2 ^ 16 ≤ lx 32 n by simp at ht8; omega)]; rfl))))) ?_
   refine a_region ?_
   refine rv (v := .int _ _) (v_move il nf) ?_
   refine rv (v := .bool _) (v_geq il il) ?_
   refine r_nil ?_
   refine a_cond rfl (fun ht14 => ?_) (fun ht14 => ?_)
   ·
    skip
    refine a_seq ?_
    refine a_region ?_
    refine rv (v := .int _ _) (v_move il nf) ?_
    refine rv (v := .int .u64 ((lx 16 (lx 32 n) / 256 : Nat) : Int)) ((v_shru il il (fun _ => by omega)).cast (int_eq (by simp))) ?_
    refine rv (v := .int _ _) (v_assign il nf) ?_
    refine r_nil ?_
    refine a_region ?_
    refine rv (v := .int _ _) (v_move il nf) ?_
    refine rv (v := .int _ _) (v_add il il (fun _ => by omega)) ?_
    refine rv (v := .int _ _) (v_assign il nf) ?_
    refine r_nil ?_
    refine a_seq ?_
    refine a_pre (ent_eq (t := 0) (v' := .int .u64 ((lx 8 (lx 16 (lx 32 n)) : Nat) : Int)) (Weak.of_eq (int_eq (congrArg Nat.cast (by first | exact (if_pos (show 2 ^ 8 ≤ lx 16 (lx 32 n) by simp at ht14; omega)).symm | exact (if_neg (show ¬ 2 ^ 8 ≤ lx 16 (lx 32 n) by simp at ht14; omega)).symm))))) ?_
    refine a_pre (ent_eq (t := 2) (v' := .int .i64 ((ll 32 n + ll 16 (lx 32 n) + ll 8 (lx 16 (lx 32 n)) : Nat) : Int)) (Weak.of_eq (int_eq (by first | (rw [show ll 8 (lx 16 (lx 32 n)) = 8 from if_pos (show 2 ^ 8 ≤ lx 16 (lx 32 n) by simp at ht14; omega)]; rfl) | (rw [show ll 8 (lx 16 (lx 32 n)) = 0 from if_neg (show ¬ 2 ^ 8 ≤ lx 16 (lx 32 n) by simp at ht14; omega)]; rfl))))) ?_
    refine a_region ?_
    refine rv (v := .int _ _) (v_move il nf) ?_
    refine rv (v := .int _ _) (v_move il nf) ?_
    refine rv (v := .int .u8 ((lx 8 (lx 16 (lx 32 n)) : Nat) : Int)) (v_conv iss132 uni5 il (fun _ => IntWalk.u8_in _ (by omega))) ?_
    refine rv (v := .int .u8 ((bitsLen (lx 8 (lx 16 (lx 32 n))) : Nat) : Int)) ((v_index_str un9 il il (fun _ => ⟨by omega, Int.lt_of_lt_of_le (Int.ofNat_lt.2 hx3) (by decide +kernel)⟩)).cast (int_eq (congrArg Nat.cast (by revert hx3; generalize lx 8 (lx 16 (lx 32 n)) = m; revert m; decide +kernel)))) ?_
    refine rv (v := .int _ _) (v_conv iss5 uni3 il (fun _ => by first | rfl | exact IntWalk.i64_in _ (by omega))) ?_
    refine rv (v := .int _ _) (v_add il il (fun _ => by omega)) ?_
    refine rv (v := .int _ _) (v_assign il nf) ?_
    refine r_nil ?_
    refine a_ret ?_
    refine ret1 Try.results115 (by decide) (by decide) (Weak.of_eq (int_eq ?_)) rfl Leaves.nil
    rw [hlen]; simp
   ·
    skip
    refine a_skip ?_
    refine a_seq ?_
    refine a_pre (ent_eq (t := 0) (v' := .int .u64 ((lx 8 (lx 16 (lx 32 n)) : Nat) : Int)) (Weak.of_eq (int_eq (congrArg Nat.cast (by first | exact (if_pos (show 2 ^ 8 ≤ lx 16 (lx 32 n) by simp at ht14; omega)).symm | exact (if_neg (show ¬ 2 ^ 8 ≤ lx 16 (lx 32 n) by simp at ht14; omega)).symm))))) ?_
    refine a_pre (ent_eq (t := 2) (v' := .int .i64 ((ll 32 n + ll 16 (lx 32 n) + ll 8 (lx 16 (lx 32 n)) : Nat) : Int)) (Weak.of_eq (int_eq (by first | (rw [show ll 8 (lx 16 (lx 32 n)) = 8 from if_pos (show 2 ^ 8 ≤ lx 16 (lx 32 n) by simp at ht14; omega)]; rfl) | (rw [show ll 8 (lx 16 (lx 32 n)) = 0 from if_neg (show ¬ 2 ^ 8 ≤ lx 16 (lx 32 n) by simp at ht14; omega)]; rfl))))) ?_
    refine a_region ?_
    refine rv (v := .int _ _) (v_move il nf) ?_
    refine rv (v := .int _ _) (v_move il nf) ?_
    refine rv (v := .int .u8 ((lx 8 (lx 16 (lx 32 n)) : Nat) : Int)) (v_conv iss132 uni5 il (fun _ => IntWalk.u8_in _ (by omega))) ?_
    refine rv (v := .int .u8 ((bitsLen (lx 8 (lx 16 (lx 32 n))) : Nat) : Int)) ((v_index_str un9 il il (fun _ => ⟨by omega, Int.lt_of_lt_of_le (Int.ofNat_lt.2 hx3) (by decide +kernel)⟩)).cast (int_eq (congrArg Nat.cast (by revert hx3; generalize lx 8 (lx 16 (lx 32 n)) = m; revert m; decide +kernel)))) ?_
    refine rv (v := .int _ _) (v_conv iss5 uni3 il (fun _ => by first | rfl | exact IntWalk.i64_in _ (by omega))) ?_
    refine rv (v := .int _ _) (v_add il il (fun _ => by omega)) ?_
    refine rv (v := .int _ _) (v_assign il nf) ?_
    refine r_nil ?_
    refine a_ret ?_
    refine ret1 Try.results115 (by decide) (by decide) (Weak.of_eq (int_eq ?_)) rfl Leaves.nil
    rw [hlen]; simp
 ·
  skip
  refine a_skip ?_
  refine a_seq ?_
  refine a_seq ?_
  refine a_pre (ent_eq (t := 0) (v' := .int .u64 ((lx 32 n : Nat) : Int)) (Weak.of_eq (int_eq (congrArg Nat.cast (by first | exact (if_pos (show 2 ^ 32 ≤ n by simp at ht4; omega)).symm | exact (if_neg (show ¬ 2 ^ 32 ≤ n by simp at ht4; omega)).symm))))) ?_
  refine a_pre (ent_eq (t := 2) (v' := .int .i64 ((ll 32 n : Nat) : Int)) (Weak.of_eq (int_eq (by first | (rw [show ll 32 (n) = 32 from if_pos (show 2 ^ 32 ≤ n by simp at ht4; omega)]; rfl) | (rw [show ll 32 (n) = 0 from if_neg (show ¬ 2 ^ 32 ≤ n by simp at ht4; omega)]; rfl))))) ?_
  refine a_region ?_
  refine rv (v := .int _ _) (v_move il nf) ?_
  refine rv (v := .bool _) (v_geq il il) ?_
  refine r_nil ?_
  refine a_cond rfl (fun ht8 => ?_) (fun ht8 => ?_)
  ·
   skip
   refine a_seq ?_
   refine a_region ?_
   refine rv (v := .int _ _) (v_move il nf) ?_
   refine rv (v := .int .u64 ((lx 32 n / 65536 : Nat) : Int)) ((v_shru il il (fun _ => by omega)).cast (int_eq (by simp))) ?_
   refine rv (v := .int _ _) (v_assign il nf) ?_
   refine r_nil ?_
   refine a_region ?_
   refine rv (v := .int _ _) (v_move il nf) ?_
   refine rv (v := .int _ _) (v_add il il (fun _ => by omega)) ?_
   refine rv (v := .int _ _) (v_assign il nf) ?_
   refine r_nil ?_
   refine a_seq ?_
   refine a_seq ?_
   refine a_pre (ent_eq (t := 0) (v' := .int .u64 ((lx 16 (lx 32 n) : Nat) : Int)) (Weak.of_eq (int_eq (congrArg Nat.cast (by first | exact (if_pos (show 2 ^ 16 ≤ lx 32 n by simp at ht8; omega)).symm | exact (if_neg (show ¬ 2 ^ 16 ≤ lx 32 n by simp at ht8; omega)).symm))))) ?_
   refine a_pre (ent_eq (t := 2) (v' := .int .i64 ((ll 32 n + ll 16 (lx 32 n) : Nat) : Int)) (Weak.of_eq (int_eq (by first | (rw [show ll 16 (lx 32 n) = 16 from if_pos (show 2 ^ 16 ≤ lx 32 n by simp at ht8; omega)]; rfl) | (rw [show ll 16 (lx 32 n) = 0 from if_neg (show ¬ 2 ^ 16 ≤ lx 32 n by simp at ht8; omega)]; rfl))))) ?_
   refine a_region ?_
   refine rv (v := .int _ _) (v_move il nf) ?_
   refine rv (v := .bool _) (v_geq il il) ?_
   refine r_nil ?_
   refine a_cond rfl (fun ht14 => ?_) (fun ht14 => ?_)
   ·
    skip
    refine a_seq ?_
    refine a_region ?_
    refine rv (v := .int _ _) (v_move il nf) ?_
    refine rv (v := .int .u64 ((lx 16 (lx 32 n) / 256 : Nat) : Int)) ((v_shru il il (fun _ => by omega)).cast (int_eq (by simp))) ?_
    refine rv (v := .int _ _) (v_assign il nf) ?_
    refine r_nil ?_
    refine a_region ?_
    refine rv (v := .int _ _) (v_move il nf) ?_
    refine rv (v := .int _ _) (v_add il il (fun _ => by omega)) ?_
    refine rv (v := .int _ _) (v_assign il nf) ?_
    refine r_nil ?_
    refine a_seq ?_
    refine a_pre (ent_eq (t := 0) (v' := .int .u64 ((lx 8 (lx 16 (lx 32 n)) : Nat) : Int)) (Weak.of_eq (int_eq (congrArg Nat.cast (by first | exact (if_pos (show 2 ^ 8 ≤ lx 16 (lx 32 n) by simp at ht14; omega)).symm | exact (if_neg (show ¬ 2 ^ 8 ≤ lx 16 (lx 32 n) by simp at ht14; omega)).symm))))) ?_
    refine a_pre (ent_eq (t := 2) (v' := .int .i64 ((ll 32 n + ll 16 (lx 32 n) + ll 8 (lx 16 (lx 32 n)) : Nat) : Int)) (Weak.of_eq (int_eq (by first | (rw [show ll 8 (lx 16 (lx 32 n)) = 8 from if_pos (show 2 ^ 8 ≤ lx 16 (lx 32 n) by simp at ht14; omega)]; rfl) | (rw [show ll 8 (lx 16 (lx 32 n)) = 0 from if_neg (show ¬ 2 ^ 8 ≤ lx 16 (lx 32 n) by simp at ht14; omega)]; rfl))))) ?_
    refine a_region ?_
    refine rv (v := .int _ _) (v_move il nf) ?_
    refine rv (v := .int _ _) (v_move il nf) ?_
    refine rv (v := .int .u8 ((lx 8 (lx 16 (lx 32 n)) : Nat) : Int)) (v_conv iss132 uni5 il (fun _ => IntWalk.u8_in _ (by omega))) ?_
    refine rv (v := .int .u8 ((bitsLen (lx 8 (lx 16 (lx 32 n))) : Nat) : Int)) ((v_index_str un9 il il (fun _ => ⟨by omega, Int.lt_of_lt_of_le (Int.ofNat_lt.2 hx3) (by decide +kernel)⟩)).cast (int_eq (congrArg Nat.cast (by revert hx3; generalize lx 8 (lx 16 (lx 32 n)) = m; revert m; decide +kernel)))) ?_
    refine rv (v := .int _ _) (v_conv iss5 uni3 il (fun _ => by first | rfl | exact IntWalk.i64_in _ (by omega))) ?_
    refine rv (v := .int _ _) (v_add il il (fun _ => by omega)) ?_
    refine rv (v := .int _ _) (v_assign il nf) ?_
    refine r_nil ?_
    refine a_ret ?_
    refine ret1 Try.results115 (by decide) (by decide) (Weak.of_eq (int_eq ?_)) rfl Leaves.nil
    rw [hlen]; simp
   ·
    skip
    refine a_skip ?_
    refine a_seq ?_
    refine a_pre (ent_eq (t := 0) (v' := .int .u64 ((lx 8 (lx 16 (lx 32 n)) : Nat) : Int)) (Weak.of_eq (int_eq (congrArg Nat.cast (by first | exact (if_pos (show 2 ^ 8 ≤ lx 16 (lx 32 n) by simp at ht14; omega)).symm | exact (if_neg (show ¬ 2 ^ 8 ≤ lx 16 (lx 32 n) by simp at ht14; omega)).symm))))) ?_
    refine a_pre (ent_eq (t := 2) (v' := .int .i64 ((ll 32 n + ll 16 (lx 32 n) + ll 8 (lx 16 (lx 32 n)) : Nat) : Int)) (Weak.of_eq (int_eq (by first | (rw [show ll 8 (lx 16 (lx 32 n)) = 8 from if_pos (show 2 ^ 8 ≤ lx 16 (lx 32 n) by simp at ht14; omega)]; rfl) | (rw [show ll 8 (lx 16 (lx 32 n)) = 0 from if_neg (show ¬ 2 ^ 8 ≤ lx 16 (lx 32 n) by simp at ht14; omega)]; rfl))))) ?_
    refine a_region ?_
    refine rv (v := .int _ _) (v_move il nf) ?_
    refine rv (v := .int _ _) (v_move il nf) ?_
    refine rv (v := .int .u8 ((lx 8 (lx 16 (lx 32 n)) : Nat) : Int)) (v_conv iss132 uni5 il (fun _ => IntWalk.u8_in _ (by omega))) ?_
    refine rv (v := .int .u8 ((bitsLen (lx 8 (lx 16 (lx 32 n))) : Nat) : Int)) ((v_index_str un9 il il (fun _ => ⟨by omega, Int.lt_of_lt_of_le (Int.ofNat_lt.2 hx3) (by decide +kernel)⟩)).cast (int_eq (congrArg Nat.cast (by revert hx3; generalize lx 8 (lx 16 (lx 32 n)) = m; revert m; decide +kernel)))) ?_
    refine rv (v := .int _ _) (v_conv iss5 uni3 il (fun _ => by first | rfl | exact IntWalk.i64_in _ (by omega))) ?_
    refine rv (v := .int _ _) (v_add il il (fun _ => by omega)) ?_
    refine rv (v := .int _ _) (v_assign il nf) ?_
    refine r_nil ?_
    refine a_ret ?_
    refine ret1 Try.results115 (by decide) (by decide) (Weak.of_eq (int_eq ?_)) rfl Leaves.nil
    rw [hlen]; simp
  ·
   skip
   refine a_skip ?_
   refine a_seq ?_
   refine a_seq ?_
   refine a_pre (ent_eq (t := 0) (v' := .int .u64 ((lx 16 (lx 32 n) : Nat) : Int)) (Weak.of_eq (int_eq (congrArg Nat.cast (by first | exact (if_pos (show 2 ^ 16 ≤ lx 32 n by simp at ht8; omega)).symm | exact (if_neg (show ¬ 2 ^ 16 ≤ lx 32 n by simp at ht8; omega)).symm))))) ?_
   refine a_pre (ent_eq (t := 2) (v' := .int .i64 ((ll 32 n + ll 16 (lx 32 n) : Nat) : Int)) (Weak.of_eq (int_eq (by first | (rw [show ll 16 (lx 32 n) = 16 from if_pos (show 2 ^ 16 ≤ lx 32 n by simp at ht8; omega)]; rfl) | (rw [show ll 16 (lx 32 n) = 0 from if_neg (show ¬ 2 ^ 16 ≤ lx 32 n by simp at ht8; omega)]; rfl))))) ?_
   refine a_region ?_
   refine rv (v := .int _ _) (v_move il nf) ?_
   refine rv (v := .bool _) (v_geq il il) ?_
   refine r_nil ?_
   refine a_cond rfl (fun ht14 => ?_) (fun ht14 => ?_)
   ·
    skip
    refine a_seq ?_
    refine a_region ?_
    refine rv (v := .int _ _) (v_move il nf) ?_
    refine rv (v := .int .u64 ((lx 16 (lx 32 n) / 256 : Nat) : Int)) ((v_shru il il (fun _ => by omega)).cast (int_eq (by simp))) ?_
    refine rv (v := .int _ _) (v_assign il nf) ?_
    refine r_nil ?_
    refine a_region ?_
    refine rv (v := .int _ _) (v_move il nf) ?_
    refine rv (v := .int _ _) (v_add il il (fun _ => by omega)) ?_
    refine rv (v := .int _ _) (v_assign il nf) ?_
    refine r_nil ?_
    refine a_seq ?_
    refine a_pre (ent_eq (t := 0) (v' := .int .u64 ((lx 8 (lx 16 (lx 32 n)) : Nat) : Int)) (Weak.of_eq (int_eq (congrArg Nat.cast (by first | exact (if_pos (show 2 ^ 8 ≤ lx 16 (lx 32 n) by simp at ht14; omega)).symm | exact (if_neg (show ¬ 2 ^ 8 ≤ lx 16 (lx 32 n) by simp at ht14; omega)).symm))))) ?_
    refine a_pre (ent_eq (t := 2) (v' := .int .i64 ((ll 32 n + ll 16 (lx 32 n) + ll 8 (lx 16 (lx 32 n)) : Nat) : Int)) (Weak.of_eq (int_eq (by first | (rw [show ll 8 (lx 16 (lx 32 n)) = 8 from if_pos (show 2 ^ 8 ≤ lx 16 (lx 32 n) by simp at ht14; omega)]; rfl) | (rw [show ll 8 (lx 16 (lx 32 n)) = 0 from if_neg (show ¬ 2 ^ 8 ≤ lx 16 (lx 32 n) by simp at ht14; omega)]; rfl))))) ?_
    refine a_region ?_
    refine rv (v := .int _ _) (v_move il nf) ?_
    refine rv (v := .int _ _) (v_move il nf) ?_
    refine rv (v := .int .u8 ((lx 8 (lx 16 (lx 32 n)) : Nat) : Int)) (v_conv iss132 uni5 il (fun _ => IntWalk.u8_in _ (by omega))) ?_
    refine rv (v := .int .u8 ((bitsLen (lx 8 (lx 16 (lx 32 n))) : Nat) : Int)) ((v_index_str un9 il il (fun _ => ⟨by omega, Int.lt_of_lt_of_le (Int.ofNat_lt.2 hx3) (by decide +kernel)⟩)).cast (int_eq (congrArg Nat.cast (by revert hx3; generalize lx 8 (lx 16 (lx 32 n)) = m; revert m; decide +kernel)))) ?_
    refine rv (v := .int _ _) (v_conv iss5 uni3 il (fun _ => by first | rfl | exact IntWalk.i64_in _ (by omega))) ?_
    refine rv (v := .int _ _) (v_add il il (fun _ => by omega)) ?_
    refine rv (v := .int _ _) (v_assign il nf) ?_
    refine r_nil ?_
    refine a_ret ?_
    refine ret1 Try.results115 (by decide) (by decide) (Weak.of_eq (int_eq ?_)) rfl Leaves.nil
    rw [hlen]; simp
   ·
    skip
    refine a_skip ?_
    refine a_seq ?_
    refine a_pre (ent_eq (t := 0) (v' := .int .u64 ((lx 8 (lx 16 (lx 32 n)) : Nat) : Int)) (Weak.of_eq (int_eq (congrArg Nat.cast (by first | exact (if_pos (show 2 ^ 8 ≤ lx 16 (lx 32 n) by simp at ht14; omega)).symm | exact (if_neg (show ¬ 2 ^ 8 ≤ lx 16 (lx 32 n) by simp at ht14; omega)).symm))))) ?_
    refine a_pre (ent_eq (t := 2) (v' := .int .i64 ((ll 32 n + ll 16 (lx 32 n) + ll 8 (lx 16 (lx 32 n)) : Nat) : Int)) (Weak.of_eq (int_eq (by first | (rw [show ll 8 (lx 16 (lx 32 n)) = 8 from if_pos (show 2 ^ 8 ≤ lx 16 (lx 32 n) by simp at ht14; omega)]; rfl) | (rw [show ll 8 (lx 16 (lx 32 n)) = 0 from if_neg (show ¬ 2 ^ 8 ≤ lx 16 (lx 32 n) by simp at ht14; omega)]; rfl))))) ?_
    refine a_region ?_
    refine rv (v := .int _ _) (v_move il nf) ?_
    refine rv (v := .int _ _) (v_move il nf) ?_
    refine rv (v := .int .u8 ((lx 8 (lx 16 (lx 32 n)) : Nat) : Int)) (v_conv iss132 uni5 il (fun _ => IntWalk.u8_in _ (by omega))) ?_
    refine rv (v := .int .u8 ((bitsLen (lx 8 (lx 16 (lx 32 n))) : Nat) : Int)) ((v_index_str un9 il il (fun _ => ⟨by omega, Int.lt_of_lt_of_le (Int.ofNat_lt.2 hx3) (by decide +kernel)⟩)).cast (int_eq (congrArg Nat.cast (by revert hx3; generalize lx 8 (lx 16 (lx 32 n)) = m; revert m; decide +kernel)))) ?_
    refine rv (v := .int _ _) (v_conv iss5 uni3 il (fun _ => by first | rfl | exact IntWalk.i64_in _ (by omega))) ?_
    refine rv (v := .int _ _) (v_add il il (fun _ => by omega)) ?_
    refine rv (v := .int _ _) (v_assign il nf) ?_
    refine r_nil ?_
    refine a_ret ?_
    refine ret1 Try.results115 (by decide) (by decide) (Weak.of_eq (int_eq ?_)) rfl Leaves.nil
    rw [hlen]; simp
end Go.Av
namespace Go.Av
open Go Go.Proofs Go.Sort
set_option maxRecDepth 10000
theorem hb101 : hasBody Try.prog 101 = true := by kernel_rfl
theorem hb115 : hasBody Try.prog 115 = true := by kernel_rfl
theorem len_c (n : Nat) (h : n < 18446744073709551616) : ACall Try.prog 101 [.int .u64 ((n : Nat) : Int)] [] (.int .i64 ((bitsLen n : Nat) : Int)) [] := by
 refine ACall.intro Try.func101 rfl (N := 8) rfl (by decide) (by simp) ?_
 refine a_seq ?_
 refine a_region ?_
 refine rv (v := .int _ _) (v_assign il nf) ?_
 refine r_nil ?_
 refine a_seq ?_
 refine a_condF ?_
 refine a_skip ?_
 refine a_seq ?_
 refine a_region ?_
 refine rv (v := .int _ _) (v_move il nf) ?_
 refine rn (v := .int _ _) (q_call (vs := [.int _ _]) (args := [.int .u64 ((_ : Nat) : Int)]) hb115 ⟨il, trivial⟩ rfl (fun hA => len64_c _ h) rfl rfl) ?_
 refine rv (v := .int _ _) (v_assign il nf) ?_
 refine r_nil ?_
 refine a_ret ?_
 refine ret1 Try.results101 (by decide) (by decide) (Weak.of_eq (int_eq ?_)) rfl Leaves.nil
 rfl
theorem nextPow_c (n : Nat) (h : n ≤ 1152921504606846976) : ACall Try.prog 120 [.int .i64 ((n : Nat) : Int)] [] (.int .u64 ((2 ^ bitsLen n : Nat) : Int)) [] := by
 have hb : bitsLen n ≤ 61 := (bitsLen_le_iff _ _).2 (by omega)
 have hp : 2 ^ bitsLen n ≤ 2 ^ 61 := Nat.pow_le_pow_right (by decide) hb
 refine ACall.intro Try.func120 rfl (N := 7) rfl (by decide) (by simp) ?_
 refine a_seq ?_
 refine a_region ?_
 refine rv (v := .int _ _) (v_assign il nf) ?_
 refine r_nil ?_
 refine a_seq ?_
 refine a_region ?_
 refine rv (v := .int _ _) (v_move il nf) ?_
 refine rv (v := .int _ _) (v_conv iss3 uni120 il (fun _ => IntWalk.u64_in _ (by omega))) ?_
 refine rn (v := .int _ _) (q_call (vs := [.int _ _]) (args := [.int .u64 ((_ : Nat) : Int)]) hb101 ⟨il, trivial⟩ rfl (fun hA => len_c _ (by omega)) rfl rfl) ?_
 refine rv (v := .int .u64 ((2 ^ bitsLen n : Nat) : Int)) ((v_shlu (m := 1) il il (fun _ => by omega)).cast (int_eq (congrArg Nat.cast (by rw [Nat.one_mul, Int.toNat_natCast]; exact Nat.mod_eq_of_lt (by omega))))) ?_
 refine rv (v := .int _ _) (v_assign il nf) ?_
 refine r_nil ?_
 refine a_ret ?_
 refine ret1 Try.results120 (by decide) (by decide) (Weak.of_eq (int_eq ?_)) rfl Leaves.nil
 rfl
end Go.Av
namespace Go.Av
open Go Go.Proofs Go.Sort
set_option maxRecDepth 10000
theorem hb120 : hasBody Try.prog 120 = true := by kernel_rfl
theorem hb121 : hasBody Try.prog 121 = true := by kernel_rfl
theorem iss120 : (Try.prog.underlying 120).isSome = true := by kernel_rfl
theorem uni133 : Try.prog.underlying 133 = some (.int .u64) := by kernel_rfl
theorem zc133 : zeroCells Try.prog 133 = some [.int .u64 0] := by kernel_rfl
theorem breakPatterns_c (f : Nat) (d : Array Int) (n a b : Nat) (hd : d.size = n) (hab : a < b ∧ b ≤ n) (hn : n ≤ 1152921504606846976) : ACall Try.prog 108 [.rsl (INH, []) 1 0 n none, .int .i64 ((a : Nat) : Int), .int .i64 ((b : Nat) : Int), .fn f [] []] [.osl 1 (acells d) n none] (.tup []) [.osl 1 (acells (breakPatterns d a b)) n none] := by
 have hbl : bitsLen (b - a) ≤ 61 := (bitsLen_le_iff _ _).2 (by omega)
 have hpw : 2 ^ bitsLen (b - a) ≤ 2 ^ 61 := Nat.pow_le_pow_right (by decide) hbl
 have hp0 : 0 < 2 ^ bitsLen (b - a) := Nat.two_pow_pos _
 refine ACall.intro Try.func108 rfl (N := 67) rfl (by decide) (by simp) ?_
 refine a_seq ?_
 refine a_region ?_
 refine rv (v := .int _ _) (v_move il nf) ?_
 refine rv (v := .int _ _) (v_move il nf) ?_
 refine rv (v := .int .i64 ((b - a : Nat) : Int)) ((v_sub il il (fun _ => by omega)).cast (int_eq (by omega))) ?_
 refine rv (v := .int _ _) (v_assign il nf) ?_
 refine r_nil ?_
 refine a_seq ?_
 refine a_region ?_
 refine rv (v := .int _ _) (v_move il nf) ?_
 refine rv (v := .bool _) (v_geq il il) ?_
 refine r_nil ?_
 refine a_cond rfl (fun ht17 => ?_) (fun ht17 => ?_)
 ·
  skip
  refine a_seq ?_
  have h8 : b - a ≥ 8 := (by simp at ht17; omega)
  refine a_region ?_
  refine rv (v := .int _ _) (v_move il nf) ?_
  refine rv (v := .int _ _) (v_conv iss3 uni133 il (fun _ => IntWalk.u64_in _ (by omega))) ?_
  refine rn (v := .op [.int _ _]) (q_alloc zc133) ?_
  refine r_step rfl (o_store (v := .int _ _) (y' := .op [.int _ _]) rfl rfl ta133 il il rfl rfl rfl rfl rfl rfl (Nat.le_of_ble_eq_true rfl) (by decide) rfl rfl) ?_
  refine r_nil ?_
  refine a_seq ?_
  refine a_region ?_
  refine rv (v := .int _ _) (v_move il nf) ?_
  refine rn (v := .int _ _) (q_call (vs := [.int _ _]) (args := [.int .i64 ((_ : Nat) : Int)]) hb120 ⟨il, trivial⟩ rfl (fun hA => nextPow_c (b - a) (by omega)) rfl rfl) ?_
  refine rv (v := .int _ _) (v_assign il nf) ?_
  refine r_nil ?_
  refine a_seq ?_
  refine a_region ?_
  refine rv (v := .int _ _) (v_move il nf) ?_
  refine rv (v := .int _ _) (v_move il nf) ?_
  refine rv (v := .int .i64 (((b - a) / 4 : Nat) : Int)) ((v_quo il il (fun _ => by omega)).cast (int_eq (by omega))) ?_
  refine rv (v := .int .i64 (((b - a) / 4 * 2 : Nat) : Int)) ((v_mul il il (fun _ => by omega)).cast (int_eq (by omega))) ?_
  refine rv (v := .int .i64 ((a + (b - a) / 4 * 2 : Nat) : Int)) ((v_add il il (fun _ => by omega)).cast (int_eq (by omega))) ?_
  refine rv (v := .int .i64 ((a + (b - a) / 4 * 2 - 1 : Nat) : Int)) ((v_sub il il (fun _ => by omega)).cast (int_eq (by omega))) ?_
  refine rv (v := .int _ _) (v_assign il nf) ?_
  refine r_nil ?_
  refine a_block ?_
  refine a_loop (X := (Nat × Nat × Array Int)) (fun x => look [(0, .rsl (INH, []) 1 0 n none), (1, .int .i64 ((a : Nat) : Int)), (8, .int .i64 ((b - a : Nat) : Int)), (9, .op [.int .u64 ((x.2.1 : Nat) : Int)]), (10, .int .u64 ((2 ^ bitsLen (b - a) : Nat) : Int)), (11, .int .i64 (((a + (b - a) / 4 * 2 - 1 + x.1) : Nat) : Int)), (INH, .osl 1 (acells x.2.2) n none)]) (fun x => x.1 ≤ 3 ∧ x.2.1 < 18446744073709551616 ∧ x.2.2.size = n ∧ bpN a (b - a) (3 - x.1) (a + (b - a) / 4 * 2 - 1 + x.1) x.2.1 x.2.2 = breakPatterns d a b) (fun x => 3 - x.1) (0, b - a, d) (ent_look ⟨Weak.of_eq rfl, Weak.of_eq rfl, Weak.of_eq rfl, Weak.of_eq rfl, Weak.of_eq rfl, Weak.of_eq (int_eq (by dsimp only; omega)), Weak.of_eq rfl, trivial⟩) ⟨by dsimp only; omega, by dsimp only; omega, hd, (bp_eq h8 (by omega)).symm⟩ (fun x hG => ?_)
  obtain ⟨g1, g2, g3, g4⟩ := hG
  refine a_seq ?_
  refine a_seq ?_
  refine a_region ?_
  refine rv (v := .int _ _) (v_move il nf) ?_
  refine rv (v := .int _ _) (v_move il nf) ?_
  refine rv (v := .int _ _) (v_move il nf) ?_
  refine rv (v := .int .i64 (((b - a) / 4 : Nat) : Int)) ((v_quo il il (fun _ => by omega)).cast (int_eq (by omega))) ?_
  refine rv (v := .int .i64 (((b - a) / 4 * 2 : Nat) : Int)) ((v_mul il il (fun _ => by omega)).cast (int_eq (by omega))) ?_
  refine rv (v := .int .i64 ((a + (b - a) / 4 * 2 : Nat) : Int)) ((v_add il il (fun _ => by omega)).cast (int_eq (by omega))) ?_
  refine rv (v := .int .i64 ((a + (b - a) / 4 * 2 + 1 : Nat) : Int)) ((v_add il il (fun _ => by omega)).cast (int_eq (by omega))) ?_
  refine rv (v := .bool _) (v_leq il il) ?_
  refine r_nil ?_
  refine a_cond rfl (fun ht35 => ?_) (fun ht35 => ?_)
  ·
   skip
   refine a_skip ?_
   refine a_seq ?_
   refine a_block ?_
   refine a_seq ?_
   have hx3 : x.1 < 3 := (by simp at ht35; omega)
   have hmk : xorNextN x.2.1 &&& (2 ^ bitsLen (b - a) - 1) ≤ 2 ^ bitsLen (b - a) - 1 := Nat.and_le_right
   have hnx := xorNextN_lt _ g2
   have hbo := bpO_lt (L := b - a) (r := x.2.1) (by omega)
   refine a_region ?_
   refine r_step rfl (o_callIOp (q := (9, [])) (vs := [.rp _ _]) (args := [.rp (INH, []) _]) (cs0 := [.int _ _]) (cs1 := [.int _ _]) (res := .int _ _) rfl hb121 rfl (by decide) ⟨.inl rfl, trivial⟩ rfl rfl (next_c x.2.1 g2) rfl rfl rfl rfl rfl (Nat.le_of_ble_eq_true rfl) (by decide) rfl) ?_
   refine rv (v := .int _ _) (v_move il nf) ?_
   refine rv (v := .int .u64 ((2 ^ bitsLen (b - a) - 1 : Nat) : Int)) ((v_subu il il (fun _ => by omega)).cast (int_eq (by omega))) ?_
   refine rv (v := .int _ _) (v_andn il il (fun _ => by omega)) ?_
   refine rv (v := .int _ _) (v_conv iss120 uni3 il (fun _ => IntWalk.i64_in _ (by omega))) ?_
   refine rv (v := .int _ _) (v_assign il nf) ?_
   refine r_nil ?_
   refine a_seq ?_
   refine a_seq ?_
   refine a_region ?_
   refine rv (v := .int _ _) (v_move il nf) ?_
   refine rv (v := .int _ _) (v_move il nf) ?_
   refine rv (v := .bool _) (v_geq il il) ?_
   refine r_nil ?_
   refine a_cond rfl (fun ht45 => ?_) (fun ht45 => ?_)
   ·
    skip
    refine a_region ?_
    refine rv (v := .int _ _) (v_move il nf) ?_
    refine rv (v := .int _ _) (v_move il nf) ?_
    refine rv (v := .int _ _) (v_sub il il (fun _ => by omega)) ?_
    refine rv (v := .int _ _) (v_assign il nf) ?_
    refine r_nil ?_
    refine a_pre (ent_eq (t := 12) (v' := .int .i64 ((bpO (b - a) x.2.1 : Nat) : Int)) (Weak.of_eq (int_eq (by first | (have h45 := of_decide_eq_true ht45; rw [show bpO (b - a) x.2.1 = (xorNextN x.2.1 &&& (2 ^ bitsLen (b - a) - 1)) - (b - a) from if_pos (by omega)]; omega) | (have h45 := of_decide_eq_false ht45; rw [show bpO (b - a) x.2.1 = (xorNextN x.2.1 &&& (2 ^ bitsLen (b - a) - 1)) from if_neg (by omega)]))))) ?_
    have hp1 : (a + (b - a) / 4 * 2 - 1 + x.1) * 1 + 1 ≤ (acells x.2.2).length := (by rw [acells_length]; omega)
    have hp2 : (a + bpO (b - a) x.2.1) * 1 + 1 ≤ ((acells x.2.2).set ((a + (b - a) / 4 * 2 - 1 + x.1) * 1) (.int .i64 x.2.2[(a + bpO (b - a) x.2.1)]!)).length := (by rw [List.length_set, acells_length]; omega)
    have hset : ((acells x.2.2).set ((a + (b - a) / 4 * 2 - 1 + x.1) * 1) (.int .i64 x.2.2[(a + bpO (b - a) x.2.1)]!)).set ((a + bpO (b - a) x.2.1) * 1) (.int .i64 x.2.2[(a + (b - a) / 4 * 2 - 1 + x.1)]!) = acells (swp x.2.2 (a + (b - a) / 4 * 2 - 1 + x.1) (a + bpO (b - a) x.2.1)) := (by rw [Nat.mul_one, Nat.mul_one]; exact acells_swp _ _ _)
    refine a_region_w [(49, true), (50, true), (51, true), (52, true), (53, true), (54, true), (55, true), (56, true), (57, true), (58, true), (59, true), (60, true), (61, true), (62, true), (63, true), (64, true), (65, true), (INH, false), (66, true), (INH, false)] mixed (by kernel_rfl) ?_
    refine wv (v := .rsl _ _ _ _ _) (v_move il nf) ?_
    refine wv (v := .int _ _) (v_move il nf) ?_
    refine wv (v := .rsl _ _ _ _ _) (v_move il nf) ?_
    refine wv (v := .int _ _) (v_move il nf) ?_
    refine wv (v := .int _ _) (v_move il nf) ?_
    refine wv (v := .int .i64 (((a + bpO (b - a) x.2.1) : Nat) : Int)) ((v_add il il (fun _ => by omega)).cast (int_eq (by omega))) ?_
    refine wv (v := .rsl _ _ _ _ _) (v_move il nf) ?_
    refine wv (v := .int _ _) (v_move il nf) ?_
    refine wv (v := .int _ _) (v_move il nf) ?_
    refine wv (v := .int .i64 (((a + bpO (b - a) x.2.1) : Nat) : Int)) ((v_add il il (fun _ => by omega)).cast (int_eq (by omega))) ?_
    refine wv (v := .rp _ _) (v_indexAddr_rsl0 es42 il il (fun _ => by omega)) ?_
    refine wv (v := .int .i64 x.2.2[(a + bpO (b - a) x.2.1)]!) (v_load_rp1 ta3 il rfl (fun _ => by rw [Nat.mul_one]; exact acells_get (by omega)) rfl) ?_
    refine wv (v := .rsl _ _ _ _ _) (v_move il nf) ?_
    refine wv (v := .int _ _) (v_move il nf) ?_
    refine wv (v := .rp _ _) (v_indexAddr_rsl0 es42 il il (fun _ => by omega)) ?_
    refine wv (v := .int .i64 x.2.2[(a + (b - a) / 4 * 2 - 1 + x.1)]!) (v_load_rp1 ta3 il rfl (fun _ => by rw [Nat.mul_one]; exact acells_get (by omega)) rfl) ?_
    refine wv (v := .rp _ _) (v_indexAddr_rsl0 es42 il il (fun _ => by omega)) ?_
    refine w_store (v := .int _ _) (y' := .osl _ _ _ _) rfl rfl rfl ta3 (.inl rfl) (.inl rfl) rfl rfl rfl rfl rfl rfl hp1 (by decide) rfl rfl rfl (by kernel_rfl) ?_
    refine wv (v := .rp _ _) (v_indexAddr_rsl0 es42 il il (fun _ => by omega)) ?_
    refine w_store (v := .int _ _) (y' := .osl _ _ _ _) rfl rfl rfl ta3 (.inl rfl) (.inl rfl) rfl rfl rfl rfl rfl rfl hp2 (by decide) rfl (congrArg (fun c => AV.osl 1 c n none) hset) rfl (by kernel_rfl) ?_
    refine w_nil ?_
    refine a_pre (ent_look (L := [(0, .rsl _ _ _ _ _), (1, .int _ _), (8, .int _ _), (9, .op [.int _ _]), (10, .int _ _), (11, .int _ _), (INH, .osl _ _ _ _)]) ⟨Weak.rfl, Weak.rfl, Weak.rfl, Weak.rfl, Weak.rfl, Weak.rfl, Weak.rfl, trivial⟩) ?_
    refine a_region ?_
    refine rv (v := .int _ _) (v_move il nf) ?_
    refine rv (v := .int _ _) (v_add il il (fun _ => by omega)) ?_
    refine rv (v := .int _ _) (v_assign il nf) ?_
    refine r_nil ?_
    refine ⟨(x.1 + 1, xorNextN x.2.1, swp x.2.2 (a + (b - a) / 4 * 2 - 1 + x.1) (a + bpO (b - a) x.2.1)), ent_look ⟨Weak.of_eq rfl, Weak.of_eq rfl, Weak.of_eq rfl, Weak.of_eq rfl, Weak.of_eq rfl, Weak.of_eq (int_eq (by dsimp only; omega)), Weak.of_eq rfl, trivial⟩, ⟨by dsimp only; omega, xorNextN_lt _ g2, by rw [swp_size]; exact g3, by rw [← g4, show 3 - x.1 = (3 - (x.1 + 1)) + 1 by omega]; rfl⟩, by dsimp only; omega⟩
   ·
    skip
    refine a_skip ?_
    refine a_pre (ent_eq (t := 12) (v' := .int .i64 ((bpO (b - a) x.2.1 : Nat) : Int)) (Weak.of_eq (int_eq (by first | (have h45 := of_decide_eq_true ht45; rw [show bpO (b - a) x.2.1 = (xorNextN x.2.1 &&& (2 ^ bitsLen (b - a) - 1)) - (b - a) from if_pos (by omega)]; omega) | (have h45 := of_decide_eq_false ht45; rw [show bpO (b - a) x.2.1 = (xorNextN x.2.1 &&& (2 ^ bitsLen (b - a) - 1)) from if_neg (by omega)]))))) ?_
    have hp1 : (a + (b - a) / 4 * 2 - 1 + x.1) * 1 + 1 ≤ (acells x.2.2).length := (by rw [acells_length]; omega)
    have hp2 : (a + bpO (b - a) x.2.1) * 1 + 1 ≤ ((acells x.2.2).set ((a + (b - a) / 4 * 2 - 1 + x.1) * 1) (.int .i64 x.2.2[(a + bpO (b - a) x.2.1)]!)).length := (by rw [List.length_set, acells_length]; omega)
    have hset : ((acells x.2.2).set ((a + (b - a) / 4 * 2 - 1 + x.1) * 1) (.int .i64 x.2.2[(a + bpO (b - a) x.2.1)]!)).set ((a + bpO (b - a) x.2.1) * 1) (.int .i64 x.2.2[(a + (b - a) / 4 * 2 - 1 + x.1)]!) = acells (swp x.2.2 (a + (b - a) / 4 * 2 - 1 + x.1) (a + bpO (b - a) x.2.1)) := (by rw [Nat.mul_one, Nat.mul_one]; exact acells_swp _ _ _)
    refine a_region_w [(49, true), (50, true), (51, true), (52, true), (53, true), (54, true), (55, true), (56, true), (57, true), (58, true), (59, true), (60, true), (61, true), (62, true), (63, true), (64, true), (65, true), (INH, false), (66, true), (INH, false)] mixed (by kernel_rfl) ?_
    refine wv (v := .rsl _ _ _ _ _) (v_move il nf) ?_
    refine wv (v := .int _ _) (v_move il nf) ?_
    refine wv (v := .rsl _ _ _ _ _) (v_move il nf) ?_
    refine wv (v := .int _ _) (v_move il nf) ?_
    refine wv (v := .int _ _) (v_move il nf) ?_
    refine wv (v := .int .i64 (((a + bpO (b - a) x.2.1) : Nat) : Int)) ((v_add il il (fun _ => by omega)).cast (int_eq (by omega))) ?_
    refine wv (v := .rsl _ _ _ _ _) (v_move il nf) ?_
    refine wv (v := .int _ _) (v_move il nf) ?_
    refine wv (v := .int _ _) (v_move il nf) ?_
    refine wv (v := .int .i64 (((a + bpO (b - a) x.2.1) : Nat) : Int)) ((v_add il il (fun _ => by omega)).cast (int_eq (by omega))) ?_
    refine wv (v := .rp _ _) (v_indexAddr_rsl0 es42 il il (fun _ => by omega)) ?_
    refine wv (v := .int .i64 x.2.2[(a + bpO (b - a) x.2.1)]!) (v_load_rp1 ta3 il rfl (fun _ => by rw [Nat.mul_one]; exact acells_get (by omega)) rfl) ?_
    refine wv (v := .rsl _ _ _ _ _) (v_move il nf) ?_
    refine wv (v := .int _ _) (v_move il nf) ?_
    refine wv (v := .rp _ _) (v_indexAddr_rsl0 es42 il il (fun _ => by omega)) ?_
    refine wv (v := .int .i64 x.2.2[(a + (b - a) / 4 * 2 - 1 + x.1)]!) (v_load_rp1 ta3 il rfl (fun _ => by rw [Nat.mul_one]; exact acells_get (by omega)) rfl) ?_
    refine wv (v := .rp _ _) (v_indexAddr_rsl0 es42 il il (fun _ => by omega)) ?_
    refine w_store (v := .int _ _) (y' := .osl _ _ _ _) rfl rfl rfl ta3 (.inl rfl) (.inl rfl) rfl rfl rfl rfl rfl rfl hp1 (by decide) rfl rfl rfl (by kernel_rfl) ?_
    refine wv (v := .rp _ _) (v_indexAddr_rsl0 es42 il il (fun _ => by omega)) ?_
    refine w_store (v := .int _ _) (y' := .osl _ _ _ _) rfl rfl rfl ta3 (.inl rfl) (.inl rfl) rfl rfl rfl rfl rfl rfl hp2 (by decide) rfl (congrArg (fun c => AV.osl 1 c n none) hset) rfl (by kernel_rfl) ?_
    refine w_nil ?_
    refine a_pre (ent_look (L := [(0, .rsl _ _ _ _ _), (1, .int _ _), (8, .int _ _), (9, .op [.int _ _]), (10, .int _ _), (11, .int _ _), (INH, .osl _ _ _ _)]) ⟨Weak.rfl, Weak.rfl, Weak.rfl, Weak.rfl, Weak.rfl, Weak.rfl, Weak.rfl, trivial⟩) ?_
    refine a_region ?_
    refine rv (v := .int _ _) (v_move il nf) ?_
    refine rv (v := .int _ _) (v_add il il (fun _ => by omega)) ?_
    refine rv (v := .int _ _) (v_assign il nf) ?_
    refine r_nil ?_
    refine ⟨(x.1 + 1, xorNextN x.2.1, swp x.2.2 (a + (b - a) / 4 * 2 - 1 + x.1) (a + bpO (b - a) x.2.1)), ent_look ⟨Weak.of_eq rfl, Weak.of_eq rfl, Weak.of_eq rfl, Weak.of_eq rfl, Weak.of_eq rfl, Weak.of_eq (int_eq (by dsimp only; omega)), Weak.of_eq rfl, trivial⟩, ⟨by dsimp only; omega, xorNextN_lt _ g2, by rw [swp_size]; exact g3, by rw [← g4, show 3 - x.1 = (3 - (x.1 + 1)) + 1 by omega]; rfl⟩, by dsimp only; omega⟩
  ·
   skip
   refine a_exit ?_
   refine ret0_look Try.results108 (by decide) ?_ rfl
   exact Weak.of_eq (osl_eq (by rw [← g4, show 3 - x.1 = 0 by simp at ht35; omega]; rfl))
 ·
  skip
  refine a_skip ?_
  refine ret0_look Try.results108 (by decide) ?_ rfl
  exact Weak.of_eq (osl_eq (by unfold breakPatterns; simp only []; rw [if_neg (by simp at ht17; omega)]))
end Go.Av
namespace Go.Av
open Go Go.Proofs Go.Sort
set_option maxRecDepth 10000
theorem hb100 : hasBody Try.prog 100 = true := by kernel_rfl
theorem hb106 : hasBody Try.prog 106 = true := by kernel_rfl
theorem hb107 : hasBody Try.prog 107 = true := by kernel_rfl
theorem hb108 : hasBody Try.prog 108 = true := by kernel_rfl
theorem hb109 : hasBody Try.prog 109 = true := by kernel_rfl
theorem hb110 : hasBody Try.prog 110 = true := by kernel_rfl
theorem hb111 : hasBody Try.prog 111 = true := by kernel_rfl
theorem hb112 : hasBody Try.prog 112 = true := by kernel_rfl
theorem hb113 : hasBody Try.prog 113 = true := by kernel_rfl
theorem pdq_step (f : Nat) (hb : hasBody Try.prog f = true) (cf : Int → Int → Int) (hc : ∀ x y, ACall Try.prog f [.int .i64 x, .int .i64 y] [] (.int .i64 (cf x y)) []) (hS : SWO (ltc cf)) (n N : Nat) (hn : n ≤ 1152921504606846976) (ih : ∀ (d' : Array Int) (a' b' l' : Nat), d'.size = n → a' ≤ b' → b' ≤ n → b' - a' < N → l' ≤ 100 → Below (ltc cf) a' b' d' → ACall Try.prog 100 [.rsl (INH, []) 1 0 n none, .int .i64 ((a' : Nat) : Int), .int .i64 ((b' : Nat) : Int), .int .i64 ((l' : Nat) : Int), .fn f [] []] [.osl 1 (acells d') n none] (.tup []) [.osl 1 (acells (pdq (ltc cf) d' a' b' l' true true)) n none]) (d : Array Int) (a b limit : Nat) (hd : d.size = n) (hab : a ≤ b ∧ b ≤ n ∧ b - a ≤ N ∧ limit ≤ 100) (hB : Below (ltc cf) a b d)  : ACall Try.prog 100 [.rsl (INH, []) 1 0 n none, .int .i64 ((a : Nat) : Int), .int .i64 ((b : Nat) : Int), .int .i64 ((limit : Nat) : Int), .fn f [] []] [.osl 1 (acells d) n none] (.tup []) [.osl 1 (acells (pdq (ltc cf) d a b limit true true)) n none] := by
 refine ACall.intro Try.func100 rfl (N := 148) rfl (by decide) (by simp) ?_
 refine a_seq ?_
 refine a_region ?_
 refine rv (v := .bool _) (v_assign il nf) ?_
 refine r_nil ?_
 refine a_seq ?_
 refine a_region ?_
 refine rv (v := .bool _) (v_assign il nf) ?_
 refine r_nil ?_
 refine a_block ?_
 refine a_loop (X := PS) (fun x => look [(0, .rsl (INH, []) 1 0 n none), (1, .int .i64 ((x.a : Nat) : Int)), (2, .int .i64 ((x.b : Nat) : Int)), (3, .int .i64 ((x.lim : Nat) : Int)), (4, .fn f [] []), (10, .bool x.wb), (11, .bool x.wp), (INH, .osl 1 (acells x.d) n none)]) (fun x => PInv (ltc cf) n N (pdq (ltc cf) d a b limit true true) x) (fun x => x.b - x.a) ⟨a, b, limit, true, true, d⟩ (ent_look ⟨Weak.of_eq rfl, Weak.of_eq rfl, Weak.of_eq rfl, Weak.of_eq rfl, Weak.of_eq rfl, Weak.of_eq rfl, Weak.of_eq rfl, Weak.of_eq rfl, trivial⟩) ⟨hab.1, hab.2.1, hab.2.2.1, hab.2.2.2, hd, hB, rfl⟩ (fun x hG => ?_)
 have hP := hG
 obtain ⟨g1, g2, g3, g4, g5, g6, g7⟩ := hG
 refine a_block ?_
 refine a_seq ?_
 refine a_region ?_
 refine rv (v := .int _ _) (v_move il nf) ?_
 refine rv (v := .int _ _) (v_move il nf) ?_
 refine rv (v := .int .i64 ((x.b - x.a : Nat) : Int)) ((v_sub il il (fun _ => by omega)).cast (int_eq (by omega))) ?_
 refine rv (v := .int _ _) (v_assign il nf) ?_
 refine r_nil ?_
 refine a_seq ?_
 refine a_seq ?_
 refine a_region ?_
 refine rv (v := .int _ _) (v_move il nf) ?_
 refine rv (v := .bool _) (v_leq il il) ?_
 refine r_nil ?_
 refine a_cond rfl (fun ht25 => ?_) (fun ht25 => ?_)
 ·
  skip
  refine a_seq ?_
  have h12 : x.b - x.a ≤ 12 := (by simp at ht25; omega)
  refine a_region ?_
  refine rv (v := .rsl _ _ _ _ _) (v_move il nf) ?_
  refine rv (v := .int _ _) (v_move il nf) ?_
  refine rv (v := .int _ _) (v_move il nf) ?_
  refine rv (v := .fn _ _ _) (v_mv rfl) ?_
  refine r_step rfl (o_callIO (q := (INH, [])) (vs := [.rsl _ _ _ _ _, .int _ _, .int _ _, .fn _ _ _]) (args := [.rsl (INH, []) _ _ _ _, .int .i64 _, .int .i64 _, .fn _ _ _]) (x0 := .osl _ _ _ _) (x1 := .osl _ _ _ _) (res := .tup []) rfl hb106 rfl (by decide) ⟨.inl rfl, .inl rfl, .inl rfl, .inl rfl, trivial⟩ rfl rfl (insertion_c f hb cf hc x.d n x.a x.b g5 (by omega) (by omega)) rfl rfl rfl (ac_noSh _) (ac_noRef _) (Nat.le_of_ble_eq_true rfl) (by decide) rfl) ?_
  refine r_nil ?_
  refine a_ret ?_
  refine ret0_look Try.results100 (by decide) ?_ rfl
  exact Weak.of_eq (osl_eq (by rw [← g7, pdq_small h12]))
 ·
  skip
  refine a_skip ?_
  refine a_seq ?_
  refine a_seq ?_
  refine a_region ?_
  refine rv (v := .int _ _) (v_move il nf) ?_
  refine rv (v := .bool _) (v_eql il il) ?_
  refine r_nil ?_
  refine a_cond rfl (fun ht32 => ?_) (fun ht32 => ?_)
  ·
   skip
   refine a_seq ?_
   have h12 : ¬ x.b - x.a ≤ 12 := (by simp at ht25; omega)
   have h0 : x.lim = 0 := (by simp at ht32; omega)
   refine a_region ?_
   refine rv (v := .rsl _ _ _ _ _) (v_move il nf) ?_
   refine rv (v := .int _ _) (v_move il nf) ?_
   refine rv (v := .int _ _) (v_move il nf) ?_
   refine rv (v := .fn _ _ _) (v_mv rfl) ?_
   refine r_step rfl (o_callIOk (q := (INH, [])) (vs := [.rsl _ _ _ _ _, .int _ _, .int _ _, .fn _ _ _]) (args := [.rsl (INH, []) _ _ _ _, .int .i64 _, .int .i64 _, .fn _ _ _]) (x0 := .osl _ _ _ _) (x1 := .osl _ _ _ _) (res := .tup []) rfl hb107 rfl (by decide) ⟨.inl rfl, .inl rfl, .inl rfl, .inl rfl, trivial⟩ rfl rfl (heapSort_c f hb cf hc x.d n x.a x.b g5 (by omega) hn) (by simp [stays]; omega) rfl rfl rfl (ac_noSh _) (ac_noRef _) (Nat.le_of_ble_eq_true rfl) (by decide) rfl) ?_
   refine r_nil ?_
   refine a_ret ?_
   refine ret0_look Try.results100 (by decide) ?_ rfl
   exact Weak.of_eq (osl_eq (by rw [← g7, pdq_heap h12 h0]))
  ·
   skip
   refine a_skip ?_
   refine a_join (X := Unit) (fun _u => look [(0, .rsl (INH, []) 1 0 n none), (1, .int .i64 ((x.a : Nat) : Int)), (2, .int .i64 ((x.b : Nat) : Int)), (3, .int .i64 (((x.rd (ltc cf)).lim : Nat) : Int)), (4, .fn f [] []), (10, .bool x.wb), (11, .bool x.wp), (12, .int .i64 ((x.b - x.a : Nat) : Int)), (INH, .osl 1 (acells (x.rd (ltc cf)).d1) n none)]) (fun _u => True) ?_ (fun _u hJ => ?_)
   ·
    skip
    refine a_seq ?_
    have h12 : ¬ x.b - x.a ≤ 12 := (by simp at ht25; omega)
    have h0 : ¬ x.lim = 0 := (by simp at ht32; omega)
    have hf := hP.facts hS h12
    refine a_region ?_
    refine rv (v := .bool _) (v_move il nf) ?_
    refine rv (v := .bool _) (v_not il) ?_
    refine r_nil ?_
    refine a_cond rfl (fun ht39 => ?_) (fun ht39 => ?_)
    ·
     skip
     refine a_seq ?_
     refine a_region ?_
     refine rv (v := .rsl _ _ _ _ _) (v_move il nf) ?_
     refine rv (v := .int _ _) (v_move il nf) ?_
     refine rv (v := .int _ _) (v_move il nf) ?_
     refine rv (v := .fn _ _ _) (v_mv rfl) ?_
     refine r_step rfl (o_callIOk (q := (INH, [])) (vs := [.rsl _ _ _ _ _, .int _ _, .int _ _, .fn _ _ _]) (args := [.rsl (INH, []) _ _ _ _, .int .i64 _, .int .i64 _, .fn _ _ _]) (x0 := .osl _ _ _ _) (x1 := .osl _ _ _ _) (res := .tup []) rfl hb108 rfl (by decide) ⟨.inl rfl, .inl rfl, .inl rfl, .inl rfl, trivial⟩ rfl rfl (breakPatterns_c f x.d n x.a x.b g5 (by omega) hn) (by simp [stays]; omega) rfl rfl rfl (ac_noSh _) (ac_noRef _) (Nat.le_of_ble_eq_true rfl) (by decide) rfl) ?_
     refine r_nil ?_
     refine a_region ?_
     refine rv (v := .int _ _) (v_move il nf) ?_
     refine rv (v := .int _ _) (v_sub il il (fun _ => by omega)) ?_
     refine rv (v := .int _ _) (v_assign il nf) ?_
     refine r_nil ?_
     have hw : x.wb = false := (by simpa using ht39)
     have hl := (rdF (lt := (ltc cf)) hw)
     exact ⟨(), ent_look ⟨Weak.of_eq rfl, Weak.of_eq rfl, Weak.of_eq rfl, Weak.of_eq (int_eq (by have := hl.1; omega)), Weak.of_eq rfl, Weak.of_eq rfl, Weak.of_eq rfl, Weak.of_eq rfl, Weak.of_eq (osl_eq (by rw [hl.2])), trivial⟩, trivial⟩
    ·
     skip
     refine a_skip ?_
     have hw : x.wb = true := (by simpa using ht39)
     have hl := (rdT (lt := (ltc cf)) hw)
     exact ⟨(), ent_look ⟨Weak.of_eq rfl, Weak.of_eq rfl, Weak.of_eq rfl, Weak.of_eq (int_eq (by have := hl.1; omega)), Weak.of_eq rfl, Weak.of_eq rfl, Weak.of_eq rfl, Weak.of_eq rfl, Weak.of_eq (osl_eq (by rw [hl.2])), trivial⟩, trivial⟩
   ·
    skip
    have h12 : ¬ x.b - x.a ≤ 12 := (by simp at ht25; omega)
    have h0 : ¬ x.lim = 0 := (by simp at ht32; omega)
    have hf := hP.facts hS h12
    refine a_seq ?_
    refine a_region ?_
    refine rv (v := .rsl _ _ _ _ _) (v_move il nf) ?_
    refine rv (v := .int _ _) (v_move il nf) ?_
    refine rv (v := .int _ _) (v_move il nf) ?_
    refine rv (v := .fn _ _ _) (v_mv rfl) ?_
    refine rn (v := .tup [.int _ _, .int _ _]) (q_call (vs := [.rsl _ _ _ _ _, .int _ _, .int _ _, .fn _ _ _]) (args := [.sl _ _, .int .i64 _, .int .i64 _, .fn _ _ _]) hb109 ⟨il, il, il, il, trivial⟩ (l4_eq (sl_sh (ac_pure _)) rfl rfl rfl) (fun hA => choosePivot_c f hb cf hc _ n x.a x.b hf.1 (by omega) hn) rfl rfl) ?_
    refine rv (v := .tup [.int _ _, .int _ _]) (v_mv rfl) ?_
    refine rv (v := .int .i64 (((x.rd (ltc cf)).c.1 : Nat) : Int)) ((v_extract rfl rfl).cast (int_eq rfl)) ?_
    refine rv (v := .int .i64 ((hintN (x.rd (ltc cf)).c.2 : Nat) : Int)) ((v_extract rfl rfl).cast (int_eq rfl)) ?_
    refine rv (v := .int _ _) (v_assign il nf) ?_
    refine rv (v := .int _ _) (v_assign il nf) ?_
    refine r_nil ?_
    refine a_join (X := Unit) (fun _u => look [(0, .rsl (INH, []) 1 0 n none), (1, .int .i64 ((x.a : Nat) : Int)), (2, .int .i64 ((x.b : Nat) : Int)), (3, .int .i64 (((x.rd (ltc cf)).lim : Nat) : Int)), (4, .fn f [] []), (10, .bool x.wb), (11, .bool x.wp), (12, .int .i64 ((x.b - x.a : Nat) : Int)), (13, .int .i64 (((x.rd (ltc cf)).pivot : Nat) : Int)), (14, .int .i64 ((hintN (x.rd (ltc cf)).hint : Nat) : Int)), (INH, .osl 1 (acells (x.rd (ltc cf)).d2) n none)]) (fun _u => True) ?_ (fun _u hJ => ?_)
    ·
     skip
     refine a_seq ?_
     refine a_region ?_
     refine rv (v := .int _ _) (v_move il nf) ?_
     refine rv (v := .bool _) (v_eql il il) ?_
     refine r_nil ?_
     refine a_cond rfl (fun ht56 => ?_) (fun ht56 => ?_)
     ·
      skip
      refine a_seq ?_
      refine a_region ?_
      refine rv (v := .rsl _ _ _ _ _) (v_move il nf) ?_
      refine rv (v := .int _ _) (v_move il nf) ?_
      refine rv (v := .int _ _) (v_move il nf) ?_
      refine rv (v := .fn _ _ _) (v_mv rfl) ?_
      refine r_step rfl (o_callIOk (q := (INH, [])) (vs := [.rsl _ _ _ _ _, .int _ _, .int _ _, .fn _ _ _]) (args := [.rsl (INH, []) _ _ _ _, .int .i64 _, .int .i64 _, .fn _ _ _]) (x0 := .osl _ _ _ _) (x1 := .osl _ _ _ _) (res := .tup []) rfl hb110 rfl (by decide) ⟨.inl rfl, .inl rfl, .inl rfl, .inl rfl, trivial⟩ rfl rfl (reverse_c f _ n x.a x.b hf.1 (by omega) hn) (by simp [stays]; omega) rfl rfl rfl (ac_noSh _) (ac_noRef _) (Nat.le_of_ble_eq_true rfl) (by decide) rfl) ?_
      refine r_nil ?_
      refine a_seq ?_
      refine a_region ?_
      refine rv (v := .int _ _) (v_move il nf) ?_
      refine rv (v := .int _ _) (v_sub il il (fun _ => by omega)) ?_
      refine rv (v := .int _ _) (v_move il nf) ?_
      refine rv (v := .int _ _) (v_move il nf) ?_
      refine rv (v := .int _ _) (v_sub il il (fun _ => by omega)) ?_
      refine rv (v := .int _ _) (v_sub il il (fun _ => by omega)) ?_
      refine rv (v := .int _ _) (v_assign il nf) ?_
      refine r_nil ?_
      refine a_pre (ent_look (L := [(0, .rsl _ _ _ _ _), (1, .int _ _), (2, .int _ _), (3, .int _ _), (4, .fn _ _ _), (10, .bool _), (11, .bool _), (12, .int _ _), (13, .int _ _), (14, .int _ _), (INH, .osl _ _ _ _)]) ⟨Weak.rfl, Weak.rfl, Weak.rfl, Weak.rfl, Weak.rfl, Weak.rfl, Weak.rfl, Weak.rfl, Weak.rfl, Weak.rfl, Weak.rfl, trivial⟩) ?_
      refine a_region ?_
      refine rv (v := .int _ _) (v_assign il nf) ?_
      refine r_nil ?_
      have hd2 := rd_dec (lt := (ltc cf)) (hintN_two.1 (of_decide_eq_true ht56) : (x.rd (ltc cf)).c.2 = .decreasing)
      exact ⟨(), ent_look ⟨Weak.of_eq rfl, Weak.of_eq rfl, Weak.of_eq rfl, Weak.of_eq rfl, Weak.of_eq rfl, Weak.of_eq rfl, Weak.of_eq rfl, Weak.of_eq rfl, Weak.of_eq (int_eq (by have h1 := hd2.2.1; have h2 := hf.2.1; dsimp only [PS.rd] at *; omega)), Weak.of_eq (int_eq (by rw [hd2.2.2]; rfl)), Weak.of_eq (osl_eq (by rw [hd2.1])), trivial⟩, trivial⟩
     ·
      skip
      refine a_skip ?_
      have hd2 := rd_not (lt := (ltc cf)) (fun h => of_decide_eq_false ht56 (hintN_two.2 h) : (x.rd (ltc cf)).c.2 ≠ .decreasing)
      exact ⟨(), ent_look ⟨Weak.of_eq rfl, Weak.of_eq rfl, Weak.of_eq rfl, Weak.of_eq rfl, Weak.of_eq rfl, Weak.of_eq rfl, Weak.of_eq rfl, Weak.of_eq rfl, Weak.of_eq (int_eq (by rw [hd2.2.1])), Weak.of_eq (int_eq (by rw [hd2.2.2])), Weak.of_eq (osl_eq (by rw [hd2.1])), trivial⟩, trivial⟩
    ·
     skip
     refine a_join (X := Unit) (fun _u => look [(0, .rsl (INH, []) 1 0 n none), (1, .int .i64 ((x.a : Nat) : Int)), (2, .int .i64 ((x.b : Nat) : Int)), (3, .int .i64 (((x.rd (ltc cf)).lim : Nat) : Int)), (4, .fn f [] []), (10, .bool x.wb), (11, .bool x.wp), (12, .int .i64 ((x.b - x.a : Nat) : Int)), (13, .int .i64 (((x.rd (ltc cf)).pivot : Nat) : Int)), (INH, .osl 1 (acells (x.rd (ltc cf)).pi.1) n none)]) (fun _u => (x.rd (ltc cf)).pi.2 = false) ?_ (fun _u hJ => ?_)
     ·
      skip
      refine a_seq ?_
      refine a_region ?_
      refine rv (v := .bool _) (v_move il nf) ?_
      refine rv (v := .bool _) (v_move il nf) ?_
      refine r_gval (v := .bool _) (v_move il nf) rfl rfl rfl (by decide) (.inl ⟨_, rfl, rfl⟩) rfl (by decide) ?_
      refine rv (v := .bool _) (v_pick (.inl rfl) (.inr ⟨_, rfl, fun h h2 => by simp_all⟩) (.inl rfl)) ?_
      refine rv (v := .bool _) (v_move il nf) ?_
      refine r_gval (v := .int _ _) (v_move il nf) rfl rfl rfl (by decide) (.inl ⟨_, rfl, rfl⟩) rfl (by decide) ?_
      refine r_gval (v := .bool _) (v_eql (.inr ⟨_, rfl, fun h => h⟩) il) rfl rfl rfl (by decide) (.inl ⟨_, rfl, rfl⟩) rfl (by decide) ?_
      refine rv (v := .bool _) (v_pick (.inl rfl) (.inr ⟨_, rfl, fun h h2 => by simp_all⟩) (.inl rfl)) ?_
      refine r_nil ?_
      refine a_cond rfl (fun ht75 => ?_) (fun ht75 => ?_)
      ·
       skip
       refine a_seq ?_
       have hpi := rd_pi_yes (lt := (ltc cf)) (d := x.d) (a := x.a) (b := x.b) (limit := x.lim) (wb := x.wb) (wp := x.wp) (pi_cond ht75)
       refine a_region ?_
       refine rv (v := .rsl _ _ _ _ _) (v_move il nf) ?_
       refine rv (v := .int _ _) (v_move il nf) ?_
       refine rv (v := .int _ _) (v_move il nf) ?_
       refine rv (v := .fn _ _ _) (v_mv rfl) ?_
       refine r_step rfl (o_callIOk (q := (INH, [])) (vs := [.rsl _ _ _ _ _, .int _ _, .int _ _, .fn _ _ _]) (args := [.rsl (INH, []) _ _ _ _, .int .i64 _, .int .i64 _, .fn _ _ _]) (x0 := .osl _ _ _ _) (x1 := .osl _ _ _ _) (res := .bool _) rfl hb111 rfl (by decide) ⟨.inl rfl, .inl rfl, .inl rfl, .inl rfl, trivial⟩ rfl rfl (partialIns_c f hb cf hc _ n x.a x.b hf.2.2.1 (by omega) hn) (by simp [stays]; omega) rfl rfl rfl (ac_noSh _) (ac_noRef _) (Nat.le_of_ble_eq_true rfl) (by decide) rfl) ?_
       refine r_nil ?_
       refine a_cond rfl (fun ht80 => ?_) (fun ht80 => ?_)
       ·
        skip
        refine a_ret ?_
        refine ret0_look Try.results100 (by decide) ?_ rfl
        exact Weak.of_eq (osl_eq (by rw [← g7, pdq_done h12 h0 (by rw [hpi]; exact ht80), hpi]))
       ·
        skip
        refine a_skip ?_
        exact ⟨(), ent_look ⟨Weak.of_eq rfl, Weak.of_eq rfl, Weak.of_eq rfl, Weak.of_eq rfl, Weak.of_eq rfl, Weak.of_eq rfl, Weak.of_eq rfl, Weak.of_eq rfl, Weak.of_eq rfl, Weak.of_eq (osl_eq (by rw [hpi])), trivial⟩, (by rw [hpi]; exact ht80)⟩
      ·
       skip
       refine a_skip ?_
       have hpi := rd_pi_no (lt := (ltc cf)) (d := x.d) (a := x.a) (b := x.b) (limit := x.lim) (wb := x.wb) (wp := x.wp) (pi_cond ht75)
       exact ⟨(), ent_look ⟨Weak.of_eq rfl, Weak.of_eq rfl, Weak.of_eq rfl, Weak.of_eq rfl, Weak.of_eq rfl, Weak.of_eq rfl, Weak.of_eq rfl, Weak.of_eq rfl, Weak.of_eq rfl, Weak.of_eq (osl_eq (by rw [hpi])), trivial⟩, (by rw [hpi])⟩
     ·
      skip
      have hpf := hJ
      refine a_seq ?_
      refine a_seq ?_
      refine a_region_any mixed (by kernel_rfl) ?_
      refine yv (v := .int _ _) (v_move il nf) ?_
      refine yv (v := .bool _) (v_gtr il il) ?_
      refine yv (v := .bool _) (v_move il nf) ?_
      refine yg (v := .fn _ _ _) (v_move il nf).quiet rfl rfl rfl (by decide) (.inl ⟨_, rfl, rfl⟩) ?_
      refine yg (v := .rsl _ _ _ _ _) (v_move il nf).quiet rfl rfl rfl (by decide) (.inl ⟨_, rfl, rfl⟩) ?_
      refine yg (v := .int _ _) (v_move il nf).quiet rfl rfl rfl (by decide) (.inl ⟨_, rfl, rfl⟩) ?_
      refine yg (v := .int _ _) (v_sub (.inr ⟨_, rfl, fun h => h⟩) il (fun _ => by omega)).quiet rfl rfl rfl (by decide) (.inl ⟨_, rfl, rfl⟩) ?_
      refine yg (v := .rp _ _) (v_indexAddr_rsl0 es42 (.inr ⟨_, rfl, fun h => h⟩) (.inr ⟨_, rfl, fun h => h⟩) (fun hA => by simp at hA; omega)).quiet rfl rfl rfl (by decide) (.inl ⟨_, rfl, rfl⟩) ?_
      refine yg (v := .int .i64 (x.rd (ltc cf)).pi.1[x.a - 1]!) (v_load_rp1 ta3 (.inr ⟨_, rfl, fun h => h⟩) rfl (fun hA => by simp at hA; rw [show ((x.a : Int) - 1).toNat = x.a - 1 by omega, Nat.mul_one]; exact acells_get (by omega)) rfl).quiet rfl rfl rfl (by decide) (.inl ⟨_, rfl, rfl⟩) ?_
      refine yg (v := .rsl _ _ _ _ _) (v_move il nf).quiet rfl rfl rfl (by decide) (.inl ⟨_, rfl, rfl⟩) ?_
      refine yg (v := .int _ _) (v_move il nf).quiet rfl rfl rfl (by decide) (.inl ⟨_, rfl, rfl⟩) ?_
      refine yg (v := .rp _ _) (v_indexAddr_rsl0 es42 (.inr ⟨_, rfl, fun h => h⟩) (.inr ⟨_, rfl, fun h => h⟩) (fun hA => by simp at hA; omega)).quiet rfl rfl rfl (by decide) (.inl ⟨_, rfl, rfl⟩) ?_
      refine yg (v := .int .i64 (x.rd (ltc cf)).pi.1[(x.rd (ltc cf)).pivot]!) (v_load_rp1 ta3 (.inr ⟨_, rfl, fun h => h⟩) rfl (fun hA => by simp at hA; rw [Nat.mul_one]; exact acells_get (by omega)) rfl).quiet rfl rfl rfl (by decide) (.inl ⟨_, rfl, rfl⟩) ?_
      refine yg (v := .int _ _) (q_clo (vs := [.int _ _, .int _ _]) (args := [.int .i64 _, .int .i64 _]) hb (.inr ⟨_, rfl, fun h => h⟩) ⟨.inr ⟨_, rfl, fun h => h⟩, .inr ⟨_, rfl, fun h => h⟩, trivial⟩ rfl (fun hA => hc _ _) rfl rfl) rfl rfl rfl (by decide) (.inl ⟨_, rfl, rfl⟩) ?_
      refine yg (v := .bool _) (v_lss (.inr ⟨_, rfl, fun h => h⟩) il).quiet rfl rfl rfl (by decide) (.inl ⟨_, rfl, rfl⟩) ?_
      refine yg (v := .bool _) (v_not (.inr ⟨_, rfl, fun h => h⟩)).quiet rfl rfl rfl (by decide) (.inl ⟨_, rfl, rfl⟩) ?_
      refine yv (v := .bool _) (v_pick (.inl rfl) (.inr ⟨_, rfl, fun h h2 => by simp_all⟩) (.inl rfl)) ?_
      refine y_nil ?_
      refine a_cond rfl (fun ht97 => ?_) (fun ht97 => ?_)
      ·
       skip
       refine a_seq ?_
       have hts : x.test (ltc cf) = true := test_cond ht97
       have hnx := hP.eq hS h12 h0 hpf hts
       refine a_region ?_
       refine rv (v := .rsl _ _ _ _ _) (v_move il nf) ?_
       refine rv (v := .int _ _) (v_move il nf) ?_
       refine rv (v := .int _ _) (v_move il nf) ?_
       refine rv (v := .int _ _) (v_move il nf) ?_
       refine rv (v := .fn _ _ _) (v_mv rfl) ?_
       refine r_step rfl (o_callIOk (q := (INH, [])) (vs := [.rsl _ _ _ _ _, .int _ _, .int _ _, .int _ _, .fn _ _ _]) (args := [.rsl (INH, []) _ _ _ _, .int .i64 _, .int .i64 _, .int .i64 _, .fn _ _ _]) (x0 := .osl _ _ _ _) (x1 := .osl _ _ _ _) (res := .int _ _) rfl hb112 rfl (by decide) ⟨.inl rfl, .inl rfl, .inl rfl, .inl rfl, .inl rfl, trivial⟩ rfl rfl (partEq_c f hb cf hc _ n x.a x.b _ hf.2.2.2.2.1 (by have := hf.2.2.2.1; omega) hn) (by simp [stays]; omega) rfl rfl rfl (ac_noSh _) (ac_noRef _) (Nat.le_of_ble_eq_true rfl) (by decide) rfl) ?_
       refine rv (v := .int _ _) (v_assign il nf) ?_
       refine r_nil ?_
       refine a_seq ?_
       refine a_pre (ent_look (L := [(0, .rsl _ _ _ _ _), (1, .int _ _), (2, .int _ _), (3, .int _ _), (4, .fn _ _ _), (10, .bool _), (11, .bool _), (12, .int _ _), (13, .int _ _), (15, .int _ _), (INH, .osl _ _ _ _)]) ⟨Weak.rfl, Weak.rfl, Weak.rfl, Weak.rfl, Weak.rfl, Weak.rfl, Weak.rfl, Weak.rfl, Weak.rfl, Weak.rfl, Weak.rfl, trivial⟩) ?_
       refine a_region ?_
       refine rv (v := .int _ _) (v_move il nf) ?_
       refine rv (v := .int _ _) (v_assign il nf) ?_
       refine r_nil ?_
       refine a_exit ?_
       refine ⟨(x.eq (ltc cf)), ent_look ⟨Weak.of_eq rfl, Weak.of_eq rfl, Weak.of_eq rfl, Weak.of_eq rfl, Weak.of_eq rfl, Weak.of_eq rfl, Weak.of_eq rfl, Weak.of_eq rfl, trivial⟩, hnx.1, (by have h1 := hnx.2; have h2 := hnx.1.1; have h3 : (x.eq (ltc cf)).b = x.b := rfl; omega)⟩
      ·
       skip
       refine a_skip ?_
       refine a_seq ?_
       have hts : x.test (ltc cf) = false := test_cond ht97
       have hpt := hP.part hS h12
       refine a_region ?_
       refine rv (v := .rsl _ _ _ _ _) (v_move il nf) ?_
       refine rv (v := .int _ _) (v_move il nf) ?_
       refine rv (v := .int _ _) (v_move il nf) ?_
       refine rv (v := .int _ _) (v_move il nf) ?_
       refine rv (v := .fn _ _ _) (v_mv rfl) ?_
       refine r_step rfl (o_callIOk (q := (INH, [])) (vs := [.rsl _ _ _ _ _, .int _ _, .int _ _, .int _ _, .fn _ _ _]) (args := [.rsl (INH, []) _ _ _ _, .int .i64 _, .int .i64 _, .int .i64 _, .fn _ _ _]) (x0 := .osl _ _ _ _) (x1 := .osl _ _ _ _) (res := .tup [.int _ _, .bool _]) rfl hb113 rfl (by decide) ⟨.inl rfl, .inl rfl, .inl rfl, .inl rfl, .inl rfl, trivial⟩ rfl rfl (partition_c f hb cf hc _ n x.a x.b _ hf.2.2.2.2.1 (by have := hf.2.2.2.1; omega) hn) (by simp [stays]; omega) rfl rfl rfl (ac_noSh _) (ac_noRef _) (Nat.le_of_ble_eq_true rfl) (by decide) rfl) ?_
       refine rv (v := .tup [.int _ _, .bool _]) (v_mv rfl) ?_
       refine rv (v := .int .i64 (((x.pt (ltc cf)).1 : Nat) : Int)) ((v_extract rfl rfl).cast (int_eq rfl)) ?_
       refine rv (v := .bool (x.pt (ltc cf)).2.1) ((v_extract rfl rfl).cast (bool_eq rfl)) ?_
       refine rv (v := .int _ _) (v_assign il nf) ?_
       refine rv (v := .bool _) (v_assign il nf) ?_
       refine r_nil ?_
       refine a_seq ?_
       refine a_pre (ent_look (L := [(0, .rsl _ _ _ _ _), (1, .int _ _), (2, .int _ _), (3, .int _ _), (4, .fn _ _ _), (10, .bool _), (11, .bool _), (12, .int _ _), (16, .int _ _), (17, .bool _), (INH, .osl _ _ _ _)]) ⟨Weak.rfl, Weak.rfl, Weak.rfl, Weak.rfl, Weak.rfl, Weak.rfl, Weak.rfl, Weak.rfl, Weak.rfl, Weak.rfl, Weak.rfl, trivial⟩) ?_
       refine a_region ?_
       refine rv (v := .bool _) (v_move il nf) ?_
       refine rv (v := .bool _) (v_assign il nf) ?_
       refine r_nil ?_
       refine a_seq ?_
       refine a_region ?_
       refine rv (v := .int _ _) (v_move il nf) ?_
       refine rv (v := .int _ _) (v_move il nf) ?_
       refine rv (v := .int .i64 (((x.pt (ltc cf)).1 - x.a : Nat) : Int)) ((v_sub il il (fun _ => by omega)).cast (int_eq (by omega))) ?_
       refine rv (v := .int _ _) (v_move il nf) ?_
       refine rv (v := .int _ _) (v_move il nf) ?_
       refine rv (v := .int .i64 ((x.b - (x.pt (ltc cf)).1 : Nat) : Int)) ((v_sub il il (fun _ => by omega)).cast (int_eq (by omega))) ?_
       refine rv (v := .int _ _) (v_assign il nf) ?_
       refine rv (v := .int _ _) (v_assign il nf) ?_
       refine r_nil ?_
       refine a_seq ?_
       refine a_region ?_
       refine rv (v := .int _ _) (v_move il nf) ?_
       refine rv (v := .int .i64 (((x.b - x.a) / 8 : Nat) : Int)) ((v_quo il il (fun _ => by omega)).cast (int_eq (by omega))) ?_
       refine rv (v := .int _ _) (v_assign il nf) ?_
       refine r_nil ?_
       refine a_seq ?_
       refine a_region ?_
       refine rv (v := .int _ _) (v_move il nf) ?_
       refine rv (v := .int _ _) (v_move il nf) ?_
       refine rv (v := .bool _) (v_lss il il) ?_
       refine r_nil ?_
       refine a_cond rfl (fun ht125 => ?_) (fun ht125 => ?_)
       ·
        skip
        refine a_seq ?_
        have hll : (x.pt (ltc cf)).1 - x.a < x.b - (x.pt (ltc cf)).1 := (by simp at ht125; omega)
        have hnx := hP.left hS h12 h0 hpf hts hll
        refine a_region ?_
        refine rv (v := .int _ _) (v_move il nf) ?_
        refine rv (v := .int _ _) (v_move il nf) ?_
        refine rv (v := .bool _) (v_geq il il) ?_
        refine rv (v := .bool _) (v_assign il nf) ?_
        refine r_nil ?_
        refine a_seq ?_
        refine a_pre (ent_look (L := [(0, .rsl _ _ _ _ _), (1, .int _ _), (2, .int _ _), (3, .int _ _), (4, .fn _ _ _), (10, .bool _), (11, .bool _), (16, .int _ _), (19, .int _ _), (20, .int _ _), (INH, .osl _ _ _ _)]) ⟨Weak.rfl, Weak.rfl, Weak.rfl, Weak.rfl, Weak.rfl, Weak.rfl, Weak.rfl, Weak.rfl, Weak.rfl, Weak.rfl, Weak.rfl, trivial⟩) ?_
        refine a_region ?_
        refine rv (v := .rsl _ _ _ _ _) (v_move il nf) ?_
        refine rv (v := .int _ _) (v_move il nf) ?_
        refine rv (v := .int _ _) (v_move il nf) ?_
        refine rv (v := .int _ _) (v_move il nf) ?_
        refine rv (v := .fn _ _ _) (v_mv rfl) ?_
        refine r_step rfl (o_callIOk (q := (INH, [])) (vs := [.rsl _ _ _ _ _, .int _ _, .int _ _, .int _ _, .fn _ _ _]) (args := [.rsl (INH, []) _ _ _ _, .int .i64 _, .int .i64 _, .int .i64 _, .fn _ _ _]) (x0 := .osl _ _ _ _) (x1 := .osl _ _ _ _) (res := .tup []) rfl hb100 rfl (by decide) ⟨.inl rfl, .inl rfl, .inl rfl, .inl rfl, .inl rfl, trivial⟩ rfl rfl (ih _ _ _ _ hpt.2.2.1 hpt.1 (by omega) (by omega) hf.2.2.2.2.2.2 hpt.2.2.2.1) (by simp [stays]; omega) rfl rfl rfl (ac_noSh _) (ac_noRef _) (Nat.le_of_ble_eq_true rfl) (by decide) rfl) ?_
        refine r_nil ?_
        refine a_region ?_
        refine rv (v := .int _ _) (v_move il nf) ?_
        refine rv (v := .int .i64 (((x.pt (ltc cf)).1 + 1 : Nat) : Int)) ((v_add il il (fun _ => by omega)).cast (int_eq (by omega))) ?_
        refine rv (v := .int _ _) (v_assign il nf) ?_
        refine r_nil ?_
        refine ⟨(x.left (ltc cf)), ent_look ⟨Weak.of_eq rfl, Weak.of_eq rfl, Weak.of_eq rfl, Weak.of_eq rfl, Weak.of_eq rfl, Weak.of_eq (bool_eq (decide_eq_decide.2 (by simp only [ge_iff_le]; omega))), Weak.of_eq rfl, Weak.of_eq rfl, trivial⟩, hnx.1, hnx.2⟩
       ·
        skip
        refine a_seq ?_
        have hll : ¬ (x.pt (ltc cf)).1 - x.a < x.b - (x.pt (ltc cf)).1 := (by simp at ht125; omega)
        have hnx := hP.right hS h12 h0 hpf hts hll
        refine a_region ?_
        refine rv (v := .int _ _) (v_move il nf) ?_
        refine rv (v := .int _ _) (v_move il nf) ?_
        refine rv (v := .bool _) (v_geq il il) ?_
        refine rv (v := .bool _) (v_assign il nf) ?_
        refine r_nil ?_
        refine a_seq ?_
        refine a_pre (ent_look (L := [(0, .rsl _ _ _ _ _), (1, .int _ _), (2, .int _ _), (3, .int _ _), (4, .fn _ _ _), (10, .bool _), (11, .bool _), (16, .int _ _), (INH, .osl _ _ _ _)]) ⟨Weak.rfl, Weak.rfl, Weak.rfl, Weak.rfl, Weak.rfl, Weak.rfl, Weak.rfl, Weak.rfl, Weak.rfl, trivial⟩) ?_
        refine a_region ?_
        refine rv (v := .rsl _ _ _ _ _) (v_move il nf) ?_
        refine rv (v := .int _ _) (v_move il nf) ?_
        refine rv (v := .int .i64 (((x.pt (ltc cf)).1 + 1 : Nat) : Int)) ((v_add il il (fun _ => by omega)).cast (int_eq (by omega))) ?_
        refine rv (v := .int _ _) (v_move il nf) ?_
        refine rv (v := .int _ _) (v_move il nf) ?_
        refine rv (v := .fn _ _ _) (v_mv rfl) ?_
        refine r_step rfl (o_callIOk (q := (INH, [])) (vs := [.rsl _ _ _ _ _, .int _ _, .int _ _, .int _ _, .fn _ _ _]) (args := [.rsl (INH, []) _ _ _ _, .int .i64 _, .int .i64 _, .int .i64 _, .fn _ _ _]) (x0 := .osl _ _ _ _) (x1 := .osl _ _ _ _) (res := .tup []) rfl hb100 rfl (by decide) ⟨.inl rfl, .inl rfl, .inl rfl, .inl rfl, .inl rfl, trivial⟩ rfl rfl (ih _ _ _ _ hpt.2.2.1 (by omega) (by omega) (by omega) hf.2.2.2.2.2.2 hpt.2.2.2.2) (by simp [stays]; omega) rfl rfl rfl (ac_noSh _) (ac_noRef _) (Nat.le_of_ble_eq_true rfl) (by decide) rfl) ?_
        refine r_nil ?_
        refine a_region ?_
        refine rv (v := .int _ _) (v_move il nf) ?_
        refine rv (v := .int _ _) (v_assign il nf) ?_
        refine r_nil ?_
        refine ⟨(x.right (ltc cf)), ent_look ⟨Weak.of_eq rfl, Weak.of_eq rfl, Weak.of_eq rfl, Weak.of_eq rfl, Weak.of_eq rfl, Weak.of_eq (bool_eq (decide_eq_decide.2 (by simp only [ge_iff_le]; omega))), Weak.of_eq rfl, Weak.of_eq rfl, trivial⟩, hnx.1, hnx.2⟩
theorem pdq_c (f : Nat) (hb : hasBody Try.prog f = true) (cf : Int → Int → Int) (hc : ∀ x y, ACall Try.prog f [.int .i64 x, .int .i64 y] [] (.int .i64 (cf x y)) []) (hS : SWO (ltc cf)) (n : Nat) (hn : n ≤ 1152921504606846976) (d : Array Int) (a b limit : Nat) (hd : d.size = n) (hab : a ≤ b ∧ b ≤ n ∧ limit ≤ 100) (hB : Below (ltc cf) a b d) :
  ACall Try.prog 100 [.rsl (INH, []) 1 0 n none, .int .i64 ((a : Nat) : Int), .int .i64 ((b : Nat) : Int), .int .i64 ((limit : Nat) : Int), .fn f [] []] [.osl 1 (acells d) n none] (.tup []) [.osl 1 (acells (pdq (ltc cf) d a b limit true true)) n none] := by
 have key : ∀ (N : Nat) (d : Array Int) (a b limit : Nat), d.size = n → a ≤ b → b ≤ n → b - a < N → limit ≤ 100 → Below (ltc cf) a b d → ACall Try.prog 100 [.rsl (INH, []) 1 0 n none, .int .i64 ((a : Nat) : Int), .int .i64 ((b : Nat) : Int), .int .i64 ((limit : Nat) : Int), .fn f [] []] [.osl 1 (acells d) n none] (.tup []) [.osl 1 (acells (pdq (ltc cf) d a b limit true true)) n none] := by
  intro N
  induction N with
  | zero => intro d a b limit _ _ _ h; omega
  | succ N ih => intro d a b limit h1 h2 h3 h4 h5 h6; exact pdq_step f hb cf hc hS n N hn ih d a b limit h1 ⟨h2, h3, by omega, h5⟩ h6
 exact key (b - a + 1) d a b limit hd hab.1 hab.2.1 (by omega) hab.2.2 hB
end Go.Av
