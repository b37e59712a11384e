/- Lemmas, part 6. -/
import Derived.Test.YtknoopcjhjhggaaGreatA5
import Derived.RangeFuncLeaves
import Derived.RangeFuncRecord
import Derived.RangeFuncSeq
import Derived.RangeFuncBound
set_option linter.unusedVariables false
set_option linter.unusedSimpArgs false
namespace Go.Av
open Go Go.Proofs Go.Sort
set_option maxRecDepth 10000
theorem breakPatternsQ_c (d : Array Int) (n a b : Nat) (hd : d.size = n) (hab : a < b ∧ b ≤ n) (hn : n ≤ 1152921504606846976) : ACall Tryz.prog 101 [.rsl (INH, []) 1 0 n none, .int .i64 ((a : Nat) : Int), .int .i64 ((b : Nat) : Int)] [.osl 1 (acells d) n none] (.tup []) [.osl 1 (acells (breakPatterns d a b)) n none] := by
 have hbl : bitsLen (b - a) ≤ 61 := (bitsLen_le_iff _ _).2 (by omega)
 have hpw : 2 ^ bitsLen (b - a) ≤ 2 ^ 61 := Nat.pow_le_pow_right (by decide) hbl
 have hp0 : 0 < 2 ^ bitsLen (b - a) := Nat.two_pow_pos _
 refine ACall.intro Tryz.func101 rfl (N := 65) rfl (by decide) (by simp) ?_
 refine a_seq ?_
 refine a_region ?_
 refine rv (v := .int _ _) (v_move il nf) ?_
 refine rv (v := .int _ _) (v_move il nf) ?_
 refine rv (v := .int .i64 ((b - a : Nat) : Int)) ((v_sub il il (fun _ => by omega)).cast (int_eq (by omega))) ?_
 refine rv (v := .int _ _) (v_assign il nf) ?_
 refine r_nil ?_
 refine a_seq ?_
 refine a_region ?_
 refine rv (v := .int _ _) (v_move il nf) ?_
 refine rv (v := .bool _) (v_geq il il) ?_
 refine r_nil ?_
 refine a_cond rfl (fun ht15 => ?_) (fun ht15 => ?_)
 ·
  skip
  refine a_seq ?_
  have h8 : b - a ≥ 8 := (by simp at ht15; omega)
  refine a_region ?_
  refine rv (v := .int _ _) (v_move il nf) ?_
  refine rv (v := .int _ _) (v_conv iss3 uni113 il (fun _ => IntWalk.u64_in _ (by omega))) ?_
  refine rn (v := .op [.int _ _]) (q_alloc zc113) ?_
  refine r_step rfl (o_store (v := .int _ _) (y' := .op [.int _ _]) rfl rfl ta113 il il rfl rfl rfl rfl rfl rfl (Nat.le_of_ble_eq_true rfl) (by decide) rfl rfl) ?_
  refine r_nil ?_
  refine a_seq ?_
  refine a_region ?_
  refine rv (v := .int _ _) (v_move il nf) ?_
  refine rn (v := .int _ _) (q_call (vs := [.int _ _]) (args := [.int .i64 ((_ : Nat) : Int)]) hb117 ⟨il, trivial⟩ rfl (fun hA => nextPow_c (b - a) (by omega)) rfl rfl) ?_
  refine rv (v := .int _ _) (v_assign il nf) ?_
  refine r_nil ?_
  refine a_seq ?_
  refine a_region ?_
  refine rv (v := .int _ _) (v_move il nf) ?_
  refine rv (v := .int _ _) (v_move il nf) ?_
  refine rv (v := .int .i64 (((b - a) / 4 : Nat) : Int)) ((v_quo il il (fun _ => by omega)).cast (int_eq (by omega))) ?_
  refine rv (v := .int .i64 (((b - a) / 4 * 2 : Nat) : Int)) ((v_mul il il (fun _ => by omega)).cast (int_eq (by omega))) ?_
  refine rv (v := .int .i64 ((a + (b - a) / 4 * 2 : Nat) : Int)) ((v_add il il (fun _ => by omega)).cast (int_eq (by omega))) ?_
  refine rv (v := .int .i64 ((a + (b - a) / 4 * 2 - 1 : Nat) : Int)) ((v_sub il il (fun _ => by omega)).cast (int_eq (by omega))) ?_
  refine rv (v := .int _ _) (v_assign il nf) ?_
  refine r_nil ?_
  refine a_block ?_
  refine a_loop (X := (Nat × Nat × Array Int)) (fun x => look [(0, .rsl (INH, []) 1 0 n none), (1, .int .i64 ((a : Nat) : Int)), (6, .int .i64 ((b - a : Nat) : Int)), (7, .op [.int .u64 ((x.2.1 : Nat) : Int)]), (8, .int .u64 ((2 ^ bitsLen (b - a) : Nat) : Int)), (9, .int .i64 (((a + (b - a) / 4 * 2 - 1 + x.1) : Nat) : Int)), (INH, .osl 1 (acells x.2.2) n none)]) (fun x => x.1 ≤ 3 ∧ x.2.1 < 18446744073709551616 ∧ x.2.2.size = n ∧ bpN a (b - a) (3 - x.1) (a + (b - a) / 4 * 2 - 1 + x.1) x.2.1 x.2.2 = breakPatterns d a b) (fun x => 3 - x.1) (0, b - a, d) (ent_look ⟨Weak.of_eq rfl, Weak.of_eq rfl, Weak.of_eq rfl, Weak.of_eq rfl, Weak.of_eq rfl, Weak.of_eq (int_eq (by dsimp only; omega)), Weak.of_eq rfl, trivial⟩) ⟨by dsimp only; omega, by dsimp only; omega, hd, (bp_eq h8 (by omega)).symm⟩ (fun x hG => ?_)
  obtain ⟨g1, g2, g3, g4⟩ := hG
  refine a_seq ?_
  refine a_seq ?_
  refine a_region ?_
  refine rv (v := .int _ _) (v_move il nf) ?_
  refine rv (v := .int _ _) (v_move il nf) ?_
  refine rv (v := .int _ _) (v_move il nf) ?_
  refine rv (v := .int .i64 (((b - a) / 4 : Nat) : Int)) ((v_quo il il (fun _ => by omega)).cast (int_eq (by omega))) ?_
  refine rv (v := .int .i64 (((b - a) / 4 * 2 : Nat) : Int)) ((v_mul il il (fun _ => by omega)).cast (int_eq (by omega))) ?_
  refine rv (v := .int .i64 ((a + (b - a) / 4 * 2 : Nat) : Int)) ((v_add il il (fun _ => by omega)).cast (int_eq (by omega))) ?_
  refine rv (v := .int .i64 ((a + (b - a) / 4 * 2 + 1 : Nat) : Int)) ((v_add il il (fun _ => by omega)).cast (int_eq (by omega))) ?_
  refine rv (v := .bool _) (v_leq il il) ?_
  refine r_nil ?_
  refine a_cond rfl (fun ht33 => ?_) (fun ht33 => ?_)
  ·
   skip
   refine a_skip ?_
   refine a_seq ?_
   refine a_block ?_
   refine a_seq ?_
   have hx3 : x.1 < 3 := (by simp at ht33; omega)
   have hmk : xorNextN x.2.1 &&& (2 ^ bitsLen (b - a) - 1) ≤ 2 ^ bitsLen (b - a) - 1 := Nat.and_le_right
   have hnx := xorNextN_lt _ g2
   have hbo := bpO_lt (L := b - a) (r := x.2.1) (by omega)
   refine a_region ?_
   refine r_step rfl (o_callIOp (q := (7, [])) (vs := [.rp _ _]) (args := [.rp (INH, []) _]) (cs0 := [.int _ _]) (cs1 := [.int _ _]) (res := .int _ _) rfl hb118 rfl (by decide) ⟨.inl rfl, trivial⟩ rfl rfl (next_c x.2.1 g2) rfl rfl rfl rfl rfl (Nat.le_of_ble_eq_true rfl) (by decide) rfl) ?_
   refine rv (v := .int _ _) (v_move il nf) ?_
   refine rv (v := .int .u64 ((2 ^ bitsLen (b - a) - 1 : Nat) : Int)) ((v_subu il il (fun _ => by omega)).cast (int_eq (by omega))) ?_
   refine rv (v := .int _ _) (v_andn il il (fun _ => by omega)) ?_
   refine rv (v := .int _ _) (v_conv iss91 uni3 il (fun _ => IntWalk.i64_in _ (by omega))) ?_
   refine rv (v := .int _ _) (v_assign il nf) ?_
   refine r_nil ?_
   refine a_seq ?_
   refine a_seq ?_
   refine a_region ?_
   refine rv (v := .int _ _) (v_move il nf) ?_
   refine rv (v := .int _ _) (v_move il nf) ?_
   refine rv (v := .bool _) (v_geq il il) ?_
   refine r_nil ?_
   refine a_cond rfl (fun ht43 => ?_) (fun ht43 => ?_)
   ·
    skip
    refine a_region ?_
    refine rv (v := .int _ _) (v_move il nf) ?_
    refine rv (v := .int _ _) (v_move il nf) ?_
    refine rv (v := .int _ _) (v_sub il il (fun _ => by omega)) ?_
    refine rv (v := .int _ _) (v_assign il nf) ?_
    refine r_nil ?_
    refine a_pre (ent_eq (t := 10) (v' := .int .i64 ((bpO (b - a) x.2.1 : Nat) : Int)) (Weak.of_eq (int_eq (by first | (have h45 := of_decide_eq_true ht43; rw [show bpO (b - a) x.2.1 = (xorNextN x.2.1 &&& (2 ^ bitsLen (b - a) - 1)) - (b - a) from if_pos (by omega)]; omega) | (have h45 := of_decide_eq_false ht43; rw [show bpO (b - a) x.2.1 = (xorNextN x.2.1 &&& (2 ^ bitsLen (b - a) - 1)) from if_neg (by omega)]))))) ?_
    have hp1 : (a + (b - a) / 4 * 2 - 1 + x.1) * 1 + 1 ≤ (acells x.2.2).length := (by rw [acells_length]; omega)
    have hp2 : (a + bpO (b - a) x.2.1) * 1 + 1 ≤ ((acells x.2.2).set ((a + (b - a) / 4 * 2 - 1 + x.1) * 1) (.int .i64 x.2.2[(a + bpO (b - a) x.2.1)]!)).length := (by rw [List.length_set, acells_length]; omega)
    have hset : ((acells x.2.2).set ((a + (b - a) / 4 * 2 - 1 + x.1) * 1) (.int .i64 x.2.2[(a + bpO (b - a) x.2.1)]!)).set ((a + bpO (b - a) x.2.1) * 1) (.int .i64 x.2.2[(a + (b - a) / 4 * 2 - 1 + x.1)]!) = acells (swp x.2.2 (a + (b - a) / 4 * 2 - 1 + x.1) (a + bpO (b - a) x.2.1)) := (by rw [Nat.mul_one, Nat.mul_one]; exact acells_swp _ _ _)
    refine a_region_w [(47, true), (48, true), (49, true), (50, true), (51, true), (52, true), (53, true), (54, true), (55, true), (56, true), (57, true), (58, true), (59, true), (60, true), (61, true), (62, true), (63, true), (INH, false), (64, true), (INH, false)] mixed (by kernel_rfl) ?_
    refine wv (v := .rsl _ _ _ _ _) (v_move il nf) ?_
    refine wv (v := .int _ _) (v_move il nf) ?_
    refine wv (v := .rsl _ _ _ _ _) (v_move il nf) ?_
    refine wv (v := .int _ _) (v_move il nf) ?_
    refine wv (v := .int _ _) (v_move il nf) ?_
    refine wv (v := .int .i64 (((a + bpO (b - a) x.2.1) : Nat) : Int)) ((v_add il il (fun _ => by omega)).cast (int_eq (by omega))) ?_
    refine wv (v := .rsl _ _ _ _ _) (v_move il nf) ?_
    refine wv (v := .int _ _) (v_move il nf) ?_
    refine wv (v := .int _ _) (v_move il nf) ?_
    refine wv (v := .int .i64 (((a + bpO (b - a) x.2.1) : Nat) : Int)) ((v_add il il (fun _ => by omega)).cast (int_eq (by omega))) ?_
    refine wv (v := .rp _ _) (v_indexAddr_rsl0 es25 il il (fun _ => by omega)) ?_
    refine wv (v := .int .i64 x.2.2[(a + bpO (b - a) x.2.1)]!) (v_load_rp1 ta3 il rfl (fun _ => by rw [Nat.mul_one]; exact acells_get (by omega)) rfl) ?_
    refine wv (v := .rsl _ _ _ _ _) (v_move il nf) ?_
    refine wv (v := .int _ _) (v_move il nf) ?_
    refine wv (v := .rp _ _) (v_indexAddr_rsl0 es25 il il (fun _ => by omega)) ?_
    refine wv (v := .int .i64 x.2.2[(a + (b - a) / 4 * 2 - 1 + x.1)]!) (v_load_rp1 ta3 il rfl (fun _ => by rw [Nat.mul_one]; exact acells_get (by omega)) rfl) ?_
    refine wv (v := .rp _ _) (v_indexAddr_rsl0 es25 il il (fun _ => by omega)) ?_
    refine w_store (v := .int _ _) (y' := .osl _ _ _ _) rfl rfl rfl ta3 (.inl rfl) (.inl rfl) rfl rfl rfl rfl rfl rfl hp1 (by decide) rfl rfl rfl (by kernel_rfl) ?_
    refine wv (v := .rp _ _) (v_indexAddr_rsl0 es25 il il (fun _ => by omega)) ?_
    refine w_store (v := .int _ _) (y' := .osl _ _ _ _) rfl rfl rfl ta3 (.inl rfl) (.inl rfl) rfl rfl rfl rfl rfl rfl hp2 (by decide) rfl (congrArg (fun c => AV.osl 1 c n none) hset) rfl (by kernel_rfl) ?_
    refine w_nil ?_
    refine a_pre (ent_look (L := [(0, .rsl _ _ _ _ _), (1, .int _ _), (6, .int _ _), (7, .op [.int _ _]), (8, .int _ _), (9, .int _ _), (INH, .osl _ _ _ _)]) ⟨Weak.rfl, Weak.rfl, Weak.rfl, Weak.rfl, Weak.rfl, Weak.rfl, Weak.rfl, trivial⟩) ?_
    refine a_region ?_
    refine rv (v := .int _ _) (v_move il nf) ?_
    refine rv (v := .int _ _) (v_add il il (fun _ => by omega)) ?_
    refine rv (v := .int _ _) (v_assign il nf) ?_
    refine r_nil ?_
    refine ⟨(x.1 + 1, xorNextN x.2.1, swp x.2.2 (a + (b - a) / 4 * 2 - 1 + x.1) (a + bpO (b - a) x.2.1)), ent_look ⟨Weak.of_eq rfl, Weak.of_eq rfl, Weak.of_eq rfl, Weak.of_eq rfl, Weak.of_eq rfl, Weak.of_eq (int_eq (by dsimp only; omega)), Weak.of_eq rfl, trivial⟩, ⟨by dsimp only; omega, xorNextN_lt _ g2, by rw [swp_size]; exact g3, by rw [← g4, show 3 - x.1 = (3 - (x.1 + 1)) + 1 by omega]; rfl⟩, by dsimp only; omega⟩
   ·
    skip
    refine a_skip ?_
    refine a_pre (ent_eq (t := 10) (v' := .int .i64 ((bpO (b - a) x.2.1 : Nat) : Int)) (Weak.of_eq (int_eq (by first | (have h45 := of_decide_eq_true ht43; rw [show bpO (b - a) x.2.1 = (xorNextN x.2.1 &&& (2 ^ bitsLen (b - a) - 1)) - (b - a) from if_pos (by omega)]; omega) | (have h45 := of_decide_eq_false ht43; rw [show bpO (b - a) x.2.1 = (xorNextN x.2.1 &&& (2 ^ bitsLen (b - a) - 1)) from if_neg (by omega)]))))) ?_
    have hp1 : (a + (b - a) / 4 * 2 - 1 + x.1) * 1 + 1 ≤ (acells x.2.2).length := (by rw [acells_length]; omega)
    have hp2 : (a + bpO (b - a) x.2.1) * 1 + 1 ≤ ((acells x.2.2).set ((a + (b - a) / 4 * 2 - 1 + x.1) * 1) (.int .i64 x.2.2[(a + bpO (b - a) x.2.1)]!)).length := (by rw [List.length_set, acells_length]; omega)
    have hset : ((acells x.2.2).set ((a + (b - a) / 4 * 2 - 1 + x.1) * 1) (.int .i64 x.2.2[(a + bpO (b - a) x.2.1)]!)).set ((a + bpO (b - a) x.2.1) * 1) (.int .i64 x.2.2[(a + (b - a) / 4 * 2 - 1 + x.1)]!) = acells (swp x.2.2 (a + (b - a) / 4 * 2 - 1 + x.1) (a + bpO (b - a) x.2.1)) := (by rw [Nat.mul_one, Nat.mul_one]; exact acells_swp _ _ _)
    refine a_region_w [(47, true), (48, true), (49, true), (50, true), (51, true), (52, true), (53, true), (54, true), (55, true), (56, true), (57, true), (58, true), (59, true), (60, true), (61, true), (62, true), (63, true), (INH, false), (64, true), (INH, false)] mixed (by kernel_rfl) ?_
    refine wv (v := .rsl _ _ _ _ _) (v_move il nf) ?_
    refine wv (v := .int _ _) (v_move il nf) ?_
    refine wv (v := .rsl _ _ _ _ _) (v_move il nf) ?_
    refine wv (v := .int _ _) (v_move il nf) ?_
    refine wv (v := .int _ _) (v_move il nf) ?_
    refine wv (v := .int .i64 (((a + bpO (b - a) x.2.1) : Nat) : Int)) ((v_add il il (fun _ => by omega)).cast (int_eq (by omega))) ?_
    refine wv (v := .rsl _ _ _ _ _) (v_move il nf) ?_
    refine wv (v := .int _ _) (v_move il nf) ?_
    refine wv (v := .int _ _) (v_move il nf) ?_
    refine wv (v := .int .i64 (((a + bpO (b - a) x.2.1) : Nat) : Int)) ((v_add il il (fun _ => by omega)).cast (int_eq (by omega))) ?_
    refine wv (v := .rp _ _) (v_indexAddr_rsl0 es25 il il (fun _ => by omega)) ?_
    refine wv (v := .int .i64 x.2.2[(a + bpO (b - a) x.2.1)]!) (v_load_rp1 ta3 il rfl (fun _ => by rw [Nat.mul_one]; exact acells_get (by omega)) rfl) ?_
    refine wv (v := .rsl _ _ _ _ _) (v_move il nf) ?_
    refine wv (v := .int _ _) (v_move il nf) ?_
    refine wv (v := .rp _ _) (v_indexAddr_rsl0 es25 il il (fun _ => by omega)) ?_
    refine wv (v := .int .i64 x.2.2[(a + (b - a) / 4 * 2 - 1 + x.1)]!) (v_load_rp1 ta3 il rfl (fun _ => by rw [Nat.mul_one]; exact acells_get (by omega)) rfl) ?_
    refine wv (v := .rp _ _) (v_indexAddr_rsl0 es25 il il (fun _ => by omega)) ?_
    refine w_store (v := .int _ _) (y' := .osl _ _ _ _) rfl rfl rfl ta3 (.inl rfl) (.inl rfl) rfl rfl rfl rfl rfl rfl hp1 (by decide) rfl rfl rfl (by kernel_rfl) ?_
    refine wv (v := .rp _ _) (v_indexAddr_rsl0 es25 il il (fun _ => by omega)) ?_
    refine w_store (v := .int _ _) (y' := .osl _ _ _ _) rfl rfl rfl ta3 (.inl rfl) (.inl rfl) rfl rfl rfl rfl rfl rfl hp2 (by decide) rfl (congrArg (fun c => AV.osl 1 c n none) hset) rfl (by kernel_rfl) ?_
    refine w_nil ?_
    refine a_pre (ent_look (L := [(0, .rsl _ _ _ _ _), (1, .int _ _), (6, .int _ _), (7, .op [.int _ _]), (8, .int _ _), (9, .int _ _), (INH, .osl _ _ _ _)]) ⟨Weak.rfl, Weak.rfl, Weak.rfl, Weak.rfl, Weak.rfl, Weak.rfl, Weak.rfl, trivial⟩) ?_
    refine a_region ?_
    refine rv (v := .int _ _) (v_move il nf) ?_
    refine rv (v := .int _ _) (v_add il il (fun _ => by omega)) ?_
    refine rv (v := .int _ _) (v_assign il nf) ?_
    refine r_nil ?_
    refine ⟨(x.1 + 1, xorNextN x.2.1, swp x.2.2 (a + (b - a) / 4 * 2 - 1 + x.1) (a + bpO (b - a) x.2.1)), ent_look ⟨Weak.of_eq rfl, Weak.of_eq rfl, Weak.of_eq rfl, Weak.of_eq rfl, Weak.of_eq rfl, Weak.of_eq (int_eq (by dsimp only; omega)), Weak.of_eq rfl, trivial⟩, ⟨by dsimp only; omega, xorNextN_lt _ g2, by rw [swp_size]; exact g3, by rw [← g4, show 3 - x.1 = (3 - (x.1 + 1)) + 1 by omega]; rfl⟩, by dsimp only; omega⟩
  ·
   skip
   refine a_exit ?_
   refine ret0_look Tryz.results101 (by decide) ?_ rfl
   exact Weak.of_eq (osl_eq (by rw [← g4, show 3 - x.1 = 0 by simp at ht33; omega]; rfl))
 ·
  skip
  refine a_skip ?_
  refine ret0_look Tryz.results101 (by decide) ?_ rfl
  exact Weak.of_eq (osl_eq (by unfold breakPatterns; simp only []; rw [if_neg (by simp at ht15; omega)]))
end Go.Av
namespace Go.Av
open Go Go.Proofs Go.Sort
set_option maxRecDepth 10000
theorem hb100 : hasBody Tryz.prog 100 = true := by kernel_rfl
theorem hb101 : hasBody Tryz.prog 101 = true := by kernel_rfl
theorem hb102 : hasBody Tryz.prog 102 = true := by kernel_rfl
theorem hb103 : hasBody Tryz.prog 103 = true := by kernel_rfl
theorem hb104 : hasBody Tryz.prog 104 = true := by kernel_rfl
theorem hb106 : hasBody Tryz.prog 106 = true := by kernel_rfl
theorem hb107 : hasBody Tryz.prog 107 = true := by kernel_rfl
theorem pdqQ_step (hS : SWO (ltc cmpI)) (n N : Nat) (hn : n ≤ 1152921504606846976) (ih : ∀ (d' : Array Int) (a' b' l' : Nat), d'.size = n → a' ≤ b' → b' ≤ n → b' - a' < N → l' ≤ 100 → Below (ltc cmpI) a' b' d' → ACall Tryz.prog 83 [.rsl (INH, []) 1 0 n none, .int .i64 ((a' : Nat) : Int), .int .i64 ((b' : Nat) : Int), .int .i64 ((l' : Nat) : Int)] [.osl 1 (acells d') n none] (.tup []) [.osl 1 (acells (pdq (ltc cmpI) d' a' b' l' true true)) n none]) (d : Array Int) (a b limit : Nat) (hd : d.size = n) (hab : a ≤ b ∧ b ≤ n ∧ b - a ≤ N ∧ limit ≤ 100) (hB : Below (ltc cmpI) a b d)  : ACall Tryz.prog 83 [.rsl (INH, []) 1 0 n none, .int .i64 ((a : Nat) : Int), .int .i64 ((b : Nat) : Int), .int .i64 ((limit : Nat) : Int)] [.osl 1 (acells d) n none] (.tup []) [.osl 1 (acells (pdq (ltc cmpI) d a b limit true true)) n none] := by
 refine ACall.intro Tryz.func83 rfl (N := 134) rfl (by decide) (by simp) ?_
 refine a_seq ?_
 refine a_region ?_
 refine rv (v := .bool _) (v_assign il nf) ?_
 refine r_nil ?_
 refine a_seq ?_
 refine a_region ?_
 refine rv (v := .bool _) (v_assign il nf) ?_
 refine r_nil ?_
 refine a_block ?_
 refine a_loop (X := PS) (fun x => look [(0, .rsl (INH, []) 1 0 n none), (1, .int .i64 ((x.a : Nat) : Int)), (2, .int .i64 ((x.b : Nat) : Int)), (3, .int .i64 ((x.lim : Nat) : Int)), (8, .bool x.wb), (9, .bool x.wp), (INH, .osl 1 (acells x.d) n none)]) (fun x => PInv (ltc cmpI) n N (pdq (ltc cmpI) d a b limit true true) x) (fun x => x.b - x.a) ⟨a, b, limit, true, true, d⟩ (ent_look ⟨Weak.of_eq rfl, Weak.of_eq rfl, Weak.of_eq rfl, Weak.of_eq rfl, Weak.of_eq rfl, Weak.of_eq rfl, Weak.of_eq rfl, trivial⟩) ⟨hab.1, hab.2.1, hab.2.2.1, hab.2.2.2, hd, hB, rfl⟩ (fun x hG => ?_)
 have hP := hG
 obtain ⟨g1, g2, g3, g4, g5, g6, g7⟩ := hG
 refine a_block ?_
 refine a_seq ?_
 refine a_region ?_
 refine rv (v := .int _ _) (v_move il nf) ?_
 refine rv (v := .int _ _) (v_move il nf) ?_
 refine rv (v := .int .i64 ((x.b - x.a : Nat) : Int)) ((v_sub il il (fun _ => by omega)).cast (int_eq (by omega))) ?_
 refine rv (v := .int _ _) (v_assign il nf) ?_
 refine r_nil ?_
 refine a_seq ?_
 refine a_seq ?_
 refine a_region ?_
 refine rv (v := .int _ _) (v_move il nf) ?_
 refine rv (v := .bool _) (v_leq il il) ?_
 refine r_nil ?_
 refine a_cond rfl (fun ht23 => ?_) (fun ht23 => ?_)
 ·
  skip
  refine a_seq ?_
  have h12 : x.b - x.a ≤ 12 := (by simp at ht23; omega)
  refine a_region ?_
  refine rv (v := .rsl _ _ _ _ _) (v_move il nf) ?_
  refine rv (v := .int _ _) (v_move il nf) ?_
  refine rv (v := .int _ _) (v_move il nf) ?_
  refine r_step rfl (o_callIO (q := (INH, [])) (vs := [.rsl _ _ _ _ _, .int _ _, .int _ _]) (args := [.rsl (INH, []) _ _ _ _, .int .i64 _, .int .i64 _]) (x0 := .osl _ _ _ _) (x1 := .osl _ _ _ _) (res := .tup []) rfl hb99 rfl (by decide) ⟨.inl rfl, .inl rfl, .inl rfl, trivial⟩ rfl rfl (insertionQ_c x.d n x.a x.b g5 (by omega) (by omega)) rfl rfl rfl (ac_noSh _) (ac_noRef _) (Nat.le_of_ble_eq_true rfl) (by decide) rfl) ?_
  refine r_nil ?_
  refine a_ret ?_
  refine ret0_look Tryz.results83 (by decide) ?_ rfl
  exact Weak.of_eq (osl_eq (by rw [← g7, pdq_small h12]))
 ·
  skip
  refine a_skip ?_
  refine a_seq ?_
  refine a_seq ?_
  refine a_region ?_
  refine rv (v := .int _ _) (v_move il nf) ?_
  refine rv (v := .bool _) (v_eql il il) ?_
  refine r_nil ?_
  refine a_cond rfl (fun ht29 => ?_) (fun ht29 => ?_)
  ·
   skip
   refine a_seq ?_
   have h12 : ¬ x.b - x.a ≤ 12 := (by simp at ht23; omega)
   have h0 : x.lim = 0 := (by simp at ht29; omega)
   refine a_region ?_
   refine rv (v := .rsl _ _ _ _ _) (v_move il nf) ?_
   refine rv (v := .int _ _) (v_move il nf) ?_
   refine rv (v := .int _ _) (v_move il nf) ?_
   refine r_step rfl (o_callIOk (q := (INH, [])) (vs := [.rsl _ _ _ _ _, .int _ _, .int _ _]) (args := [.rsl (INH, []) _ _ _ _, .int .i64 _, .int .i64 _]) (x0 := .osl _ _ _ _) (x1 := .osl _ _ _ _) (res := .tup []) rfl hb100 rfl (by decide) ⟨.inl rfl, .inl rfl, .inl rfl, trivial⟩ rfl rfl (heapSortQ_c x.d n x.a x.b g5 (by omega) hn) (by simp [stays]; omega) rfl rfl rfl (ac_noSh _) (ac_noRef _) (Nat.le_of_ble_eq_true rfl) (by decide) rfl) ?_
   refine r_nil ?_
   refine a_ret ?_
   refine ret0_look Tryz.results83 (by decide) ?_ rfl
   exact Weak.of_eq (osl_eq (by rw [← g7, pdq_heap h12 h0]))
  ·
   skip
   refine a_skip ?_
   refine a_join (X := Unit) (fun _u => look [(0, .rsl (INH, []) 1 0 n none), (1, .int .i64 ((x.a : Nat) : Int)), (2, .int .i64 ((x.b : Nat) : Int)), (3, .int .i64 (((x.rd (ltc cmpI)).lim : Nat) : Int)), (8, .bool x.wb), (9, .bool x.wp), (10, .int .i64 ((x.b - x.a : Nat) : Int)), (INH, .osl 1 (acells (x.rd (ltc cmpI)).d1) n none)]) (fun _u => True) ?_ (fun _u hJ => ?_)
   ·
    skip
    refine a_seq ?_
    have h12 : ¬ x.b - x.a ≤ 12 := (by simp at ht23; omega)
    have h0 : ¬ x.lim = 0 := (by simp at ht29; omega)
    have hf := hP.facts hS h12
    refine a_region ?_
    refine rv (v := .bool _) (v_move il nf) ?_
    refine rv (v := .bool _) (v_not il) ?_
    refine r_nil ?_
    refine a_cond rfl (fun ht35 => ?_) (fun ht35 => ?_)
    ·
     skip
     refine a_seq ?_
     refine a_region ?_
     refine rv (v := .rsl _ _ _ _ _) (v_move il nf) ?_
     refine rv (v := .int _ _) (v_move il nf) ?_
     refine rv (v := .int _ _) (v_move il nf) ?_
     refine r_step rfl (o_callIOk (q := (INH, [])) (vs := [.rsl _ _ _ _ _, .int _ _, .int _ _]) (args := [.rsl (INH, []) _ _ _ _, .int .i64 _, .int .i64 _]) (x0 := .osl _ _ _ _) (x1 := .osl _ _ _ _) (res := .tup []) rfl hb101 rfl (by decide) ⟨.inl rfl, .inl rfl, .inl rfl, trivial⟩ rfl rfl (breakPatternsQ_c x.d n x.a x.b g5 (by omega) hn) (by simp [stays]; omega) rfl rfl rfl (ac_noSh _) (ac_noRef _) (Nat.le_of_ble_eq_true rfl) (by decide) rfl) ?_
     refine r_nil ?_
     refine a_region ?_
     refine rv (v := .int _ _) (v_move il nf) ?_
     refine rv (v := .int _ _) (v_sub il il (fun _ => by omega)) ?_
     refine rv (v := .int _ _) (v_assign il nf) ?_
     refine r_nil ?_
     have hw : x.wb = false := (by simpa using ht35)
     have hl := (rdF (lt := (ltc cmpI)) hw)
     exact ⟨(), ent_look ⟨Weak.of_eq rfl, Weak.of_eq rfl, Weak.of_eq rfl, Weak.of_eq (int_eq (by have := hl.1; omega)), Weak.of_eq rfl, Weak.of_eq rfl, Weak.of_eq rfl, Weak.of_eq (osl_eq (by rw [hl.2])), trivial⟩, trivial⟩
    ·
     skip
     refine a_skip ?_
     have hw : x.wb = true := (by simpa using ht35)
     have hl := (rdT (lt := (ltc cmpI)) hw)
     exact ⟨(), ent_look ⟨Weak.of_eq rfl, Weak.of_eq rfl, Weak.of_eq rfl, Weak.of_eq (int_eq (by have := hl.1; omega)), Weak.of_eq rfl, Weak.of_eq rfl, Weak.of_eq rfl, Weak.of_eq (osl_eq (by rw [hl.2])), trivial⟩, trivial⟩
   ·
    skip
    have h12 : ¬ x.b - x.a ≤ 12 := (by simp at ht23; omega)
    have h0 : ¬ x.lim = 0 := (by simp at ht29; omega)
    have hf := hP.facts hS h12
    refine a_seq ?_
    refine a_region ?_
    refine rv (v := .rsl _ _ _ _ _) (v_move il nf) ?_
    refine rv (v := .int _ _) (v_move il nf) ?_
    refine rv (v := .int _ _) (v_move il nf) ?_
    refine rn (v := .tup [.int _ _, .int _ _]) (q_call (vs := [.rsl _ _ _ _ _, .int _ _, .int _ _]) (args := [.sl _ _, .int .i64 _, .int .i64 _]) hb102 ⟨il, il, il, trivial⟩ (l3_eq (sl_sh (ac_pure _)) rfl rfl) (fun hA => choosePivotQ_c _ n x.a x.b hf.1 (by omega) hn) rfl rfl) ?_
    refine rv (v := .tup [.int _ _, .int _ _]) (v_mv rfl) ?_
    refine rv (v := .int .i64 (((x.rd (ltc cmpI)).c.1 : Nat) : Int)) ((v_extract rfl rfl).cast (int_eq rfl)) ?_
    refine rv (v := .int .i64 ((hintN (x.rd (ltc cmpI)).c.2 : Nat) : Int)) ((v_extract rfl rfl).cast (int_eq rfl)) ?_
    refine rv (v := .int _ _) (v_assign il nf) ?_
    refine rv (v := .int _ _) (v_assign il nf) ?_
    refine r_nil ?_
    refine a_join (X := Unit) (fun _u => look [(0, .rsl (INH, []) 1 0 n none), (1, .int .i64 ((x.a : Nat) : Int)), (2, .int .i64 ((x.b : Nat) : Int)), (3, .int .i64 (((x.rd (ltc cmpI)).lim : Nat) : Int)), (8, .bool x.wb), (9, .bool x.wp), (10, .int .i64 ((x.b - x.a : Nat) : Int)), (11, .int .i64 (((x.rd (ltc cmpI)).pivot : Nat) : Int)), (12, .int .i64 ((hintN (x.rd (ltc cmpI)).hint : Nat) : Int)), (INH, .osl 1 (acells (x.rd (ltc cmpI)).d2) n none)]) (fun _u => True) ?_ (fun _u hJ => ?_)
    ·
     skip
     refine a_seq ?_
     refine a_region ?_
     refine rv (v := .int _ _) (v_move il nf) ?_
     refine rv (v := .bool _) (v_eql il il) ?_
     refine r_nil ?_
     refine a_cond rfl (fun ht50 => ?_) (fun ht50 => ?_)
     ·
      skip
      refine a_seq ?_
      refine a_region ?_
      refine rv (v := .rsl _ _ _ _ _) (v_move il nf) ?_
      refine rv (v := .int _ _) (v_move il nf) ?_
      refine rv (v := .int _ _) (v_move il nf) ?_
      refine r_step rfl (o_callIOk (q := (INH, [])) (vs := [.rsl _ _ _ _ _, .int _ _, .int _ _]) (args := [.rsl (INH, []) _ _ _ _, .int .i64 _, .int .i64 _]) (x0 := .osl _ _ _ _) (x1 := .osl _ _ _ _) (res := .tup []) rfl hb103 rfl (by decide) ⟨.inl rfl, .inl rfl, .inl rfl, trivial⟩ rfl rfl (reverseQ_c _ n x.a x.b hf.1 (by omega) hn) (by simp [stays]; omega) rfl rfl rfl (ac_noSh _) (ac_noRef _) (Nat.le_of_ble_eq_true rfl) (by decide) rfl) ?_
      refine r_nil ?_
      refine a_seq ?_
      refine a_region ?_
      refine rv (v := .int _ _) (v_move il nf) ?_
      refine rv (v := .int _ _) (v_sub il il (fun _ => by omega)) ?_
      refine rv (v := .int _ _) (v_move il nf) ?_
      refine rv (v := .int _ _) (v_move il nf) ?_
      refine rv (v := .int _ _) (v_sub il il (fun _ => by omega)) ?_
      refine rv (v := .int _ _) (v_sub il il (fun _ => by omega)) ?_
      refine rv (v := .int _ _) (v_assign il nf) ?_
      refine r_nil ?_
      refine a_pre (ent_look (L := [(0, .rsl _ _ _ _ _), (1, .int _ _), (2, .int _ _), (3, .int _ _), (8, .bool _), (9, .bool _), (10, .int _ _), (11, .int _ _), (12, .int _ _), (INH, .osl _ _ _ _)]) ⟨Weak.rfl, Weak.rfl, Weak.rfl, Weak.rfl, Weak.rfl, Weak.rfl, Weak.rfl, Weak.rfl, Weak.rfl, Weak.rfl, trivial⟩) ?_
      refine a_region ?_
      refine rv (v := .int _ _) (v_assign il nf) ?_
      refine r_nil ?_
      have hd2 := rd_dec (lt := (ltc cmpI)) (hintN_two.1 (of_decide_eq_true ht50) : (x.rd (ltc cmpI)).c.2 = .decreasing)
      exact ⟨(), ent_look ⟨Weak.of_eq rfl, Weak.of_eq rfl, Weak.of_eq rfl, Weak.of_eq rfl, Weak.of_eq rfl, Weak.of_eq rfl, Weak.of_eq rfl, Weak.of_eq (int_eq (by have h1 := hd2.2.1; have h2 := hf.2.1; dsimp only [PS.rd] at *; omega)), Weak.of_eq (int_eq (by rw [hd2.2.2]; rfl)), Weak.of_eq (osl_eq (by rw [hd2.1])), trivial⟩, trivial⟩
     ·
      skip
      refine a_skip ?_
      have hd2 := rd_not (lt := (ltc cmpI)) (fun h => of_decide_eq_false ht50 (hintN_two.2 h) : (x.rd (ltc cmpI)).c.2 ≠ .decreasing)
      exact ⟨(), ent_look ⟨Weak.of_eq rfl, Weak.of_eq rfl, Weak.of_eq rfl, Weak.of_eq rfl, Weak.of_eq rfl, Weak.of_eq rfl, Weak.of_eq rfl, Weak.of_eq (int_eq (by rw [hd2.2.1])), Weak.of_eq (int_eq (by rw [hd2.2.2])), Weak.of_eq (osl_eq (by rw [hd2.1])), trivial⟩, trivial⟩
    ·
     skip
     refine a_join (X := Unit) (fun _u => look [(0, .rsl (INH, []) 1 0 n none), (1, .int .i64 ((x.a : Nat) : Int)), (2, .int .i64 ((x.b : Nat) : Int)), (3, .int .i64 (((x.rd (ltc cmpI)).lim : Nat) : Int)), (8, .bool x.wb), (9, .bool x.wp), (10, .int .i64 ((x.b - x.a : Nat) : Int)), (11, .int .i64 (((x.rd (ltc cmpI)).pivot : Nat) : Int)), (INH, .osl 1 (acells (x.rd (ltc cmpI)).pi.1) n none)]) (fun _u => (x.rd (ltc cmpI)).pi.2 = false) ?_ (fun _u hJ => ?_)
     ·
      skip
      refine a_seq ?_
      refine a_region ?_
      refine rv (v := .bool _) (v_move il nf) ?_
      refine rv (v := .bool _) (v_move il nf) ?_
      refine r_gval (v := .bool _) (v_move il nf) rfl rfl rfl (by decide) (.inl ⟨_, rfl, rfl⟩) rfl (by decide) ?_
      refine rv (v := .bool _) (v_pick (.inl rfl) (.inr ⟨_, rfl, fun h h2 => by simp_all⟩) (.inl rfl)) ?_
      refine rv (v := .bool _) (v_move il nf) ?_
      refine r_gval (v := .int _ _) (v_move il nf) rfl rfl rfl (by decide) (.inl ⟨_, rfl, rfl⟩) rfl (by decide) ?_
      refine r_gval (v := .bool _) (v_eql (.inr ⟨_, rfl, fun h => h⟩) il) rfl rfl rfl (by decide) (.inl ⟨_, rfl, rfl⟩) rfl (by decide) ?_
      refine rv (v := .bool _) (v_pick (.inl rfl) (.inr ⟨_, rfl, fun h h2 => by simp_all⟩) (.inl rfl)) ?_
      refine r_nil ?_
      refine a_cond rfl (fun ht68 => ?_) (fun ht68 => ?_)
      ·
       skip
       refine a_seq ?_
       have hpi := rd_pi_yes (lt := (ltc cmpI)) (d := x.d) (a := x.a) (b := x.b) (limit := x.lim) (wb := x.wb) (wp := x.wp) (pi_cond ht68)
       refine a_region ?_
       refine rv (v := .rsl _ _ _ _ _) (v_move il nf) ?_
       refine rv (v := .int _ _) (v_move il nf) ?_
       refine rv (v := .int _ _) (v_move il nf) ?_
       refine r_step rfl (o_callIOk (q := (INH, [])) (vs := [.rsl _ _ _ _ _, .int _ _, .int _ _]) (args := [.rsl (INH, []) _ _ _ _, .int .i64 _, .int .i64 _]) (x0 := .osl _ _ _ _) (x1 := .osl _ _ _ _) (res := .bool _) rfl hb104 rfl (by decide) ⟨.inl rfl, .inl rfl, .inl rfl, trivial⟩ rfl rfl (partialInsQ_c _ n x.a x.b hf.2.2.1 (by omega) hn) (by simp [stays]; omega) rfl rfl rfl (ac_noSh _) (ac_noRef _) (Nat.le_of_ble_eq_true rfl) (by decide) rfl) ?_
       refine r_nil ?_
       refine a_cond rfl (fun ht72 => ?_) (fun ht72 => ?_)
       ·
        skip
        refine a_ret ?_
        refine ret0_look Tryz.results83 (by decide) ?_ rfl
        exact Weak.of_eq (osl_eq (by rw [← g7, pdq_done h12 h0 (by rw [hpi]; exact ht72), hpi]))
       ·
        skip
        refine a_skip ?_
        exact ⟨(), ent_look ⟨Weak.of_eq rfl, Weak.of_eq rfl, Weak.of_eq rfl, Weak.of_eq rfl, Weak.of_eq rfl, Weak.of_eq rfl, Weak.of_eq rfl, Weak.of_eq rfl, Weak.of_eq (osl_eq (by rw [hpi])), trivial⟩, (by rw [hpi]; exact ht72)⟩
      ·
       skip
       refine a_skip ?_
       have hpi := rd_pi_no (lt := (ltc cmpI)) (d := x.d) (a := x.a) (b := x.b) (limit := x.lim) (wb := x.wb) (wp := x.wp) (pi_cond ht68)
       exact ⟨(), ent_look ⟨Weak.of_eq rfl, Weak.of_eq rfl, Weak.of_eq rfl, Weak.of_eq rfl, Weak.of_eq rfl, Weak.of_eq rfl, Weak.of_eq rfl, Weak.of_eq rfl, Weak.of_eq (osl_eq (by rw [hpi])), trivial⟩, (by rw [hpi])⟩
     ·
      skip
      have hpf := hJ
      refine a_seq ?_
      refine a_seq ?_
      refine a_region_any mixed (by kernel_rfl) ?_
      refine yv (v := .int _ _) (v_move il nf) ?_
      refine yv (v := .bool _) (v_gtr il il) ?_
      refine yv (v := .bool _) (v_move il nf) ?_
      refine yg (v := .rsl _ _ _ _ _) (v_move il nf).quiet rfl rfl rfl (by decide) (.inl ⟨_, rfl, rfl⟩) ?_
      refine yg (v := .int _ _) (v_move il nf).quiet rfl rfl rfl (by decide) (.inl ⟨_, rfl, rfl⟩) ?_
      refine yg (v := .int _ _) (v_sub (.inr ⟨_, rfl, fun h => h⟩) il (fun _ => by omega)).quiet rfl rfl rfl (by decide) (.inl ⟨_, rfl, rfl⟩) ?_
      refine yg (v := .rp _ _) (v_indexAddr_rsl0 es25 (.inr ⟨_, rfl, fun h => h⟩) (.inr ⟨_, rfl, fun h => h⟩) (fun hA => by simp at hA; omega)).quiet rfl rfl rfl (by decide) (.inl ⟨_, rfl, rfl⟩) ?_
      refine yg (v := .int .i64 (x.rd (ltc cmpI)).pi.1[x.a - 1]!) (v_load_rp1 ta3 (.inr ⟨_, rfl, fun h => h⟩) rfl (fun hA => by simp at hA; rw [show ((x.a : Int) - 1).toNat = x.a - 1 by omega, Nat.mul_one]; exact acells_get (by omega)) rfl).quiet rfl rfl rfl (by decide) (.inl ⟨_, rfl, rfl⟩) ?_
      refine yg (v := .rsl _ _ _ _ _) (v_move il nf).quiet rfl rfl rfl (by decide) (.inl ⟨_, rfl, rfl⟩) ?_
      refine yg (v := .int _ _) (v_move il nf).quiet rfl rfl rfl (by decide) (.inl ⟨_, rfl, rfl⟩) ?_
      refine yg (v := .rp _ _) (v_indexAddr_rsl0 es25 (.inr ⟨_, rfl, fun h => h⟩) (.inr ⟨_, rfl, fun h => h⟩) (fun hA => by simp at hA; omega)).quiet rfl rfl rfl (by decide) (.inl ⟨_, rfl, rfl⟩) ?_
      refine yg (v := .int .i64 (x.rd (ltc cmpI)).pi.1[(x.rd (ltc cmpI)).pivot]!) (v_load_rp1 ta3 (.inr ⟨_, rfl, fun h => h⟩) rfl (fun hA => by simp at hA; rw [Nat.mul_one]; exact acells_get (by omega)) rfl).quiet rfl rfl rfl (by decide) (.inl ⟨_, rfl, rfl⟩) ?_
      refine yg (v := .bool _) (q_call (vs := [.int _ _, .int _ _]) (args := [.int .i64 _, .int .i64 _]) hb105 ⟨.inr ⟨_, rfl, fun h => h⟩, .inr ⟨_, rfl, fun h => h⟩, trivial⟩ rfl (fun hA => lessQ_c _ _) rfl rfl) rfl rfl rfl (by decide) (.inl ⟨_, rfl, rfl⟩) ?_
      refine yg (v := .bool _) (v_not (.inr ⟨_, rfl, fun h => h⟩)).quiet rfl rfl rfl (by decide) (.inl ⟨_, rfl, rfl⟩) ?_
      refine yv (v := .bool _) (v_pick (.inl rfl) (.inr ⟨_, rfl, fun h h2 => by simp_all⟩) (.inl rfl)) ?_
      refine y_nil ?_
      refine a_cond rfl (fun ht87 => ?_) (fun ht87 => ?_)
      ·
       skip
       refine a_seq ?_
       have hts : x.test (ltc cmpI) = true := test_cond ht87
       have hnx := hP.eq hS h12 h0 hpf hts
       refine a_region ?_
       refine rv (v := .rsl _ _ _ _ _) (v_move il nf) ?_
       refine rv (v := .int _ _) (v_move il nf) ?_
       refine rv (v := .int _ _) (v_move il nf) ?_
       refine rv (v := .int _ _) (v_move il nf) ?_
       refine r_step rfl (o_callIOk (q := (INH, [])) (vs := [.rsl _ _ _ _ _, .int _ _, .int _ _, .int _ _]) (args := [.rsl (INH, []) _ _ _ _, .int .i64 _, .int .i64 _, .int .i64 _]) (x0 := .osl _ _ _ _) (x1 := .osl _ _ _ _) (res := .int _ _) rfl hb106 rfl (by decide) ⟨.inl rfl, .inl rfl, .inl rfl, .inl rfl, trivial⟩ rfl rfl (partEqQ_c _ n x.a x.b _ hf.2.2.2.2.1 (by have := hf.2.2.2.1; omega) hn) (by simp [stays]; omega) rfl rfl rfl (ac_noSh _) (ac_noRef _) (Nat.le_of_ble_eq_true rfl) (by decide) rfl) ?_
       refine rv (v := .int _ _) (v_assign il nf) ?_
       refine r_nil ?_
       refine a_seq ?_
       refine a_pre (ent_look (L := [(0, .rsl _ _ _ _ _), (1, .int _ _), (2, .int _ _), (3, .int _ _), (8, .bool _), (9, .bool _), (10, .int _ _), (11, .int _ _), (13, .int _ _), (INH, .osl _ _ _ _)]) ⟨Weak.rfl, Weak.rfl, Weak.rfl, Weak.rfl, Weak.rfl, Weak.rfl, Weak.rfl, Weak.rfl, Weak.rfl, Weak.rfl, trivial⟩) ?_
       refine a_region ?_
       refine rv (v := .int _ _) (v_move il nf) ?_
       refine rv (v := .int _ _) (v_assign il nf) ?_
       refine r_nil ?_
       refine a_exit ?_
       refine ⟨(x.eq (ltc cmpI)), ent_look ⟨Weak.of_eq rfl, Weak.of_eq rfl, Weak.of_eq rfl, Weak.of_eq rfl, Weak.of_eq rfl, Weak.of_eq rfl, Weak.of_eq rfl, trivial⟩, hnx.1, (by have h1 := hnx.2; have h2 := hnx.1.1; have h3 : (x.eq (ltc cmpI)).b = x.b := rfl; omega)⟩
      ·
       skip
       refine a_skip ?_
       refine a_seq ?_
       have hts : x.test (ltc cmpI) = false := test_cond ht87
       have hpt := hP.part hS h12
       refine a_region ?_
       refine rv (v := .rsl _ _ _ _ _) (v_move il nf) ?_
       refine rv (v := .int _ _) (v_move il nf) ?_
       refine rv (v := .int _ _) (v_move il nf) ?_
       refine rv (v := .int _ _) (v_move il nf) ?_
       refine r_step rfl (o_callIOk (q := (INH, [])) (vs := [.rsl _ _ _ _ _, .int _ _, .int _ _, .int _ _]) (args := [.rsl (INH, []) _ _ _ _, .int .i64 _, .int .i64 _, .int .i64 _]) (x0 := .osl _ _ _ _) (x1 := .osl _ _ _ _) (res := .tup [.int _ _, .bool _]) rfl hb107 rfl (by decide) ⟨.inl rfl, .inl rfl, .inl rfl, .inl rfl, trivial⟩ rfl rfl (partitionQ_c _ n x.a x.b _ hf.2.2.2.2.1 (by have := hf.2.2.2.1; omega) hn) (by simp [stays]; omega) rfl rfl rfl (ac_noSh _) (ac_noRef _) (Nat.le_of_ble_eq_true rfl) (by decide) rfl) ?_
       refine rv (v := .tup [.int _ _, .bool _]) (v_mv rfl) ?_
       refine rv (v := .int .i64 (((x.pt (ltc cmpI)).1 : Nat) : Int)) ((v_extract rfl rfl).cast (int_eq rfl)) ?_
       refine rv (v := .bool (x.pt (ltc cmpI)).2.1) ((v_extract rfl rfl).cast (bool_eq rfl)) ?_
       refine rv (v := .int _ _) (v_assign il nf) ?_
       refine rv (v := .bool _) (v_assign il nf) ?_
       refine r_nil ?_
       refine a_seq ?_
       refine a_pre (ent_look (L := [(0, .rsl _ _ _ _ _), (1, .int _ _), (2, .int _ _), (3, .int _ _), (8, .bool _), (9, .bool _), (10, .int _ _), (14, .int _ _), (15, .bool _), (INH, .osl _ _ _ _)]) ⟨Weak.rfl, Weak.rfl, Weak.rfl, Weak.rfl, Weak.rfl, Weak.rfl, Weak.rfl, Weak.rfl, Weak.rfl, Weak.rfl, trivial⟩) ?_
       refine a_region ?_
       refine rv (v := .bool _) (v_move il nf) ?_
       refine rv (v := .bool _) (v_assign il nf) ?_
       refine r_nil ?_
       refine a_seq ?_
       refine a_region ?_
       refine rv (v := .int _ _) (v_move il nf) ?_
       refine rv (v := .int _ _) (v_move il nf) ?_
       refine rv (v := .int .i64 (((x.pt (ltc cmpI)).1 - x.a : Nat) : Int)) ((v_sub il il (fun _ => by omega)).cast (int_eq (by omega))) ?_
       refine rv (v := .int _ _) (v_move il nf) ?_
       refine rv (v := .int _ _) (v_move il nf) ?_
       refine rv (v := .int .i64 ((x.b - (x.pt (ltc cmpI)).1 : Nat) : Int)) ((v_sub il il (fun _ => by omega)).cast (int_eq (by omega))) ?_
       refine rv (v := .int _ _) (v_assign il nf) ?_
       refine rv (v := .int _ _) (v_assign il nf) ?_
       refine r_nil ?_
       refine a_seq ?_
       refine a_region ?_
       refine rv (v := .int _ _) (v_move il nf) ?_
       refine rv (v := .int .i64 (((x.b - x.a) / 8 : Nat) : Int)) ((v_quo il il (fun _ => by omega)).cast (int_eq (by omega))) ?_
       refine rv (v := .int _ _) (v_assign il nf) ?_
       refine r_nil ?_
       refine a_seq ?_
       refine a_region ?_
       refine rv (v := .int _ _) (v_move il nf) ?_
       refine rv (v := .int _ _) (v_move il nf) ?_
       refine rv (v := .bool _) (v_lss il il) ?_
       refine r_nil ?_
       refine a_cond rfl (fun ht113 => ?_) (fun ht113 => ?_)
       ·
        skip
        refine a_seq ?_
        have hll : (x.pt (ltc cmpI)).1 - x.a < x.b - (x.pt (ltc cmpI)).1 := (by simp at ht113; omega)
        have hnx := hP.left hS h12 h0 hpf hts hll
        refine a_region ?_
        refine rv (v := .int _ _) (v_move il nf) ?_
        refine rv (v := .int _ _) (v_move il nf) ?_
        refine rv (v := .bool _) (v_geq il il) ?_
        refine rv (v := .bool _) (v_assign il nf) ?_
        refine r_nil ?_
        refine a_seq ?_
        refine a_pre (ent_look (L := [(0, .rsl _ _ _ _ _), (1, .int _ _), (2, .int _ _), (3, .int _ _), (8, .bool _), (9, .bool _), (14, .int _ _), (17, .int _ _), (18, .int _ _), (INH, .osl _ _ _ _)]) ⟨Weak.rfl, Weak.rfl, Weak.rfl, Weak.rfl, Weak.rfl, Weak.rfl, Weak.rfl, Weak.rfl, Weak.rfl, Weak.rfl, trivial⟩) ?_
        refine a_region ?_
        refine rv (v := .rsl _ _ _ _ _) (v_move il nf) ?_
        refine rv (v := .int _ _) (v_move il nf) ?_
        refine rv (v := .int _ _) (v_move il nf) ?_
        refine rv (v := .int _ _) (v_move il nf) ?_
        refine r_step rfl (o_callIOk (q := (INH, [])) (vs := [.rsl _ _ _ _ _, .int _ _, .int _ _, .int _ _]) (args := [.rsl (INH, []) _ _ _ _, .int .i64 _, .int .i64 _, .int .i64 _]) (x0 := .osl _ _ _ _) (x1 := .osl _ _ _ _) (res := .tup []) rfl hb83 rfl (by decide) ⟨.inl rfl, .inl rfl, .inl rfl, .inl rfl, trivial⟩ rfl rfl (ih _ _ _ _ hpt.2.2.1 hpt.1 (by omega) (by omega) hf.2.2.2.2.2.2 hpt.2.2.2.1) (by simp [stays]; omega) rfl rfl rfl (ac_noSh _) (ac_noRef _) (Nat.le_of_ble_eq_true rfl) (by decide) rfl) ?_
        refine r_nil ?_
        refine a_region ?_
        refine rv (v := .int _ _) (v_move il nf) ?_
        refine rv (v := .int .i64 (((x.pt (ltc cmpI)).1 + 1 : Nat) : Int)) ((v_add il il (fun _ => by omega)).cast (int_eq (by omega))) ?_
        refine rv (v := .int _ _) (v_assign il nf) ?_
        refine r_nil ?_
        refine ⟨(x.left (ltc cmpI)), ent_look ⟨Weak.of_eq rfl, Weak.of_eq rfl, Weak.of_eq rfl, Weak.of_eq rfl, Weak.of_eq (bool_eq (decide_eq_decide.2 (by simp only [ge_iff_le]; omega))), Weak.of_eq rfl, Weak.of_eq rfl, trivial⟩, hnx.1, hnx.2⟩
       ·
        skip
        refine a_seq ?_
        have hll : ¬ (x.pt (ltc cmpI)).1 - x.a < x.b - (x.pt (ltc cmpI)).1 := (by simp at ht113; omega)
        have hnx := hP.right hS h12 h0 hpf hts hll
        refine a_region ?_
        refine rv (v := .int _ _) (v_move il nf) ?_
        refine rv (v := .int _ _) (v_move il nf) ?_
        refine rv (v := .bool _) (v_geq il il) ?_
        refine rv (v := .bool _) (v_assign il nf) ?_
        refine r_nil ?_
        refine a_seq ?_
        refine a_pre (ent_look (L := [(0, .rsl _ _ _ _ _), (1, .int _ _), (2, .int _ _), (3, .int _ _), (8, .bool _), (9, .bool _), (14, .int _ _), (INH, .osl _ _ _ _)]) ⟨Weak.rfl, Weak.rfl, Weak.rfl, Weak.rfl, Weak.rfl, Weak.rfl, Weak.rfl, Weak.rfl, trivial⟩) ?_
        refine a_region ?_
        refine rv (v := .rsl _ _ _ _ _) (v_move il nf) ?_
        refine rv (v := .int _ _) (v_move il nf) ?_
        refine rv (v := .int .i64 (((x.pt (ltc cmpI)).1 + 1 : Nat) : Int)) ((v_add il il (fun _ => by omega)).cast (int_eq (by omega))) ?_
        refine rv (v := .int _ _) (v_move il nf) ?_
        refine rv (v := .int _ _) (v_move il nf) ?_
        refine r_step rfl (o_callIOk (q := (INH, [])) (vs := [.rsl _ _ _ _ _, .int _ _, .int _ _, .int _ _]) (args := [.rsl (INH, []) _ _ _ _, .int .i64 _, .int .i64 _, .int .i64 _]) (x0 := .osl _ _ _ _) (x1 := .osl _ _ _ _) (res := .tup []) rfl hb83 rfl (by decide) ⟨.inl rfl, .inl rfl, .inl rfl, .inl rfl, trivial⟩ rfl rfl (ih _ _ _ _ hpt.2.2.1 (by omega) (by omega) (by omega) hf.2.2.2.2.2.2 hpt.2.2.2.2) (by simp [stays]; omega) rfl rfl rfl (ac_noSh _) (ac_noRef _) (Nat.le_of_ble_eq_true rfl) (by decide) rfl) ?_
        refine r_nil ?_
        refine a_region ?_
        refine rv (v := .int _ _) (v_move il nf) ?_
        refine rv (v := .int _ _) (v_assign il nf) ?_
        refine r_nil ?_
        refine ⟨(x.right (ltc cmpI)), ent_look ⟨Weak.of_eq rfl, Weak.of_eq rfl, Weak.of_eq rfl, Weak.of_eq rfl, Weak.of_eq (bool_eq (decide_eq_decide.2 (by simp only [ge_iff_le]; omega))), Weak.of_eq rfl, Weak.of_eq rfl, trivial⟩, hnx.1, hnx.2⟩
theorem pdqQ_c (hS : SWO (ltc cmpI)) (n : Nat) (hn : n ≤ 1152921504606846976) (d : Array Int) (a b limit : Nat) (hd : d.size = n) (hab : a ≤ b ∧ b ≤ n ∧ limit ≤ 100) (hB : Below (ltc cmpI) a b d) :
  ACall Tryz.prog 83 [.rsl (INH, []) 1 0 n none, .int .i64 ((a : Nat) : Int), .int .i64 ((b : Nat) : Int), .int .i64 ((limit : Nat) : Int)] [.osl 1 (acells d) n none] (.tup []) [.osl 1 (acells (pdq (ltc cmpI) d a b limit true true)) n none] := by
 have key : ∀ (N : Nat) (d : Array Int) (a b limit : Nat), d.size = n → a ≤ b → b ≤ n → b - a < N → limit ≤ 100 → Below (ltc cmpI) a b d → ACall Tryz.prog 83 [.rsl (INH, []) 1 0 n none, .int .i64 ((a : Nat) : Int), .int .i64 ((b : Nat) : Int), .int .i64 ((limit : Nat) : Int)] [.osl 1 (acells d) n none] (.tup []) [.osl 1 (acells (pdq (ltc cmpI) d a b limit true true)) n none] := by
  intro N
  induction N with
  | zero => intro d a b limit _ _ _ h; omega
  | succ N ih => intro d a b limit h1 h2 h3 h4 h5 h6; exact pdqQ_step hS n N hn ih d a b limit h1 ⟨h2, h3, by omega, h5⟩ h6
 exact key (b - a + 1) d a b limit hd hab.1 hab.2.1 (by omega) hab.2.2 hB
end Go.Av
namespace Go.Av
open Go Go.Proofs Go.Sort
set_option maxRecDepth 10000
theorem sortQ_c (hS : SWO (ltc cmpI)) (d : Array Int) (n : Nat) (hd : d.size = n) (hn : n ≤ 1152921504606846976) : ACall Tryz.prog 55 [.rsl (INH, []) 1 0 n none] [.osl 1 (acells d) n none] (.tup []) [.osl 1 (acells (Go.Sort.sort (ltc cmpI) d)) n none] := by
 have hbl : bitsLen n ≤ 61 := (bitsLen_le_iff _ _).2 (by omega)
 refine ACall.intro Tryz.func55 rfl (N := 11) rfl (by decide) (by simp) ?_
 refine a_seq ?_
 refine a_region ?_
 refine rv (v := .rsl _ _ _ _ _) (v_move il nf) ?_
 refine rv (v := .int _ _) (v_len_rsl sl25 il) ?_
 refine rv (v := .int _ _) (v_assign il nf) ?_
 refine r_nil ?_
 refine a_region ?_
 refine rv (v := .rsl _ _ _ _ _) (v_move il nf) ?_
 refine rv (v := .int _ _) (v_move il nf) ?_
 refine rv (v := .int _ _) (v_move il nf) ?_
 refine rv (v := .int .u64 ((n : Nat) : Int)) ((v_conv iss3 uni91 il (fun _ => IntWalk.u64_in _ (by omega))).cast (int_eq rfl)) ?_
 refine rn (v := .int _ _) (q_call (vs := [.int _ _]) (args := [.int .u64 ((_ : Nat) : Int)]) hb84 ⟨il, trivial⟩ rfl (fun hA => len_c n (by omega)) rfl rfl) ?_
 refine r_step rfl (o_callIO (q := (INH, [])) (vs := [.rsl _ _ _ _ _, .int _ _, .int _ _, .int _ _]) (args := [.rsl (INH, []) _ _ _ _, .int .i64 _, .int .i64 _, .int .i64 _]) (x0 := .osl _ _ _ _) (x1 := .osl _ _ _ _) (res := .tup []) rfl hb83 rfl (by decide) ⟨.inl rfl, .inl rfl, .inl rfl, .inl rfl, trivial⟩ rfl rfl (pdqQ_c hS n hn d 0 n (bitsLen n) hd ⟨Nat.zero_le _, Nat.le_refl _, Nat.le_trans hbl (by decide)⟩ (Or.inl rfl)) rfl rfl rfl (ac_noSh _) (ac_noRef _) (Nat.le_of_ble_eq_true rfl) (by decide) rfl) ?_
 refine r_nil ?_
 refine ret0_look Tryz.results55 (by decide) ?_ rfl
 exact Weak.of_eq (osl_eq (by unfold Go.Sort.sort; rw [hd]))
end Go.Av
namespace Go.Av
open Go
def cval (c a : List Int) : Int := if c.any (fun l => decide (l ∈ a)) then 1 else if c.all (fun l => decide (-l ∈ a)) then -1 else 0
def cvP (c a : List Int) (i : Nat) : Int := if (c.take i).all (fun l => decide (-l ∈ a)) then -1 else 0
theorem cvP_succ {c a : List Int} {i : Nat} (h : i < c.length) : cvP c a (i + 1) = if -(gd c i) ∈ a then cvP c a i else 0 := by
  unfold cvP
  rw [take_gd h, List.all_append]
  by_cases hx : -(gd c i) ∈ a <;> simp [hx]
theorem cval_one {c a : List Int} {i : Nat} (h : i < c.length) (hx : gd c i ∈ a) : cval c a = 1 := by
  unfold cval
  rw [if_pos]
  rw [List.any_eq_true]; exact ⟨gd c i, gd_mem h, by simpa using hx⟩
theorem cval_end {c a : List Int} {i : Nat} (hi : c.length ≤ i) (h : ∀ j, j < i → ¬ gd c j ∈ a) : cval c a = cvP c a i := by
  unfold cval cvP
  rw [if_neg, List.take_of_length_le hi]
  intro hc
  obtain ⟨x, hx, hxa⟩ := List.any_eq_true.1 hc
  obtain ⟨j, hj, rfl⟩ := mem_gd hx
  exact h j (by omega) (by simpa using hxa)
def opn (c a : List Int) : List Int := c.filter fun l => !decide (-l ∈ a)
theorem opn_len (c a : List Int) : (opn c a).length ≤ c.length := List.length_filter_le _ _
theorem opn_succ {c a : List Int} {i : Nat} (h : i < c.length) : opn (c.take (i + 1)) a = if -(gd c i) ∈ a then opn (c.take i) a else opn (c.take i) a ++ [gd c i] := by
  unfold opn
  rw [take_gd h, List.filter_append]
  by_cases hx : -(gd c i) ∈ a <;> simp [hx]
def unitL (c a : List Int) : Int := if cval c a = 0 ∧ (opn c a).length = 1 then gd (opn c a) 0 else 0
theorem unit_yes {c a : List Int} (h : cval c a = 0) (h2 : (opn c a).length = 1) : unitL c a = gd (opn c a) 0 := if_pos ⟨h, h2⟩
theorem unit_open {c a : List Int} (h : unitL c a ≠ 0) : unitL c a ∈ c ∧ ¬ unitL c a ∈ a ∧ ¬ -(unitL c a) ∈ a := by
  unfold unitL at h ⊢
  split at h
  · rename_i h2
    rw [if_pos h2]
    have hm : gd (opn c a) 0 ∈ opn c a := gd_mem (by omega)
    have hm2 := List.mem_filter.1 (show gd (opn c a) 0 ∈ c.filter (fun l => !decide (-l ∈ a)) from hm)
    refine ⟨hm2.1, fun hx => ?_, by simpa using hm2.2⟩
    have := h2.1
    unfold cval at this
    rw [if_pos (List.any_eq_true.2 ⟨_, hm2.1, by simpa using hx⟩)] at this
    omega
  · exact absurd rfl h
def falP (L : List (List Int)) (a : List Int) (i : Nat) : List Int := ((List.range i).filter fun j => decide (cval (gl L j) a < 0)).map fun j : Nat => (j : Int)
theorem falP_succ {L : List (List Int)} {a : List Int} {i : Nat} : falP L a (i + 1) = if cval (gl L i) a < 0 then falP L a i ++ [(i : Int)] else falP L a i := by
  unfold falP
  rw [List.range_succ, List.filter_append]
  by_cases h : cval (gl L i) a < 0 <;> simp [h]
theorem falP_len (L : List (List Int)) (a : List Int) (i : Nat) : (falP L a i).length ≤ i := by
  unfold falP; rw [List.length_map]; have := List.length_filter_le (fun j => decide (cval (gl L j) a < 0)) (List.range i); simp at this ⊢; exact this
def uix (L : List (List Int)) (a : List Int) : Int := fidx (fun i => decide (unitL (gl L i) a ≠ 0)) L.length
theorem clB_of {vars : Int} {c : List Int} (hv : 0 ≤ vars ∧ vars ≤ 12) (hs : Strict c) (hl : ∀ x ∈ c, litB vars x = true) : clB vars c = true := by
  refine clB_true (inR_spec.2 hv) fun j hj => ?_
  unfold okC
  rw [hl _ (gd_mem hj), Bool.true_and, Bool.or_eq_true, decide_eq_true_iff, decide_eq_true_iff]
  rcases Nat.eq_zero_or_pos j with h | h
  · exact .inl h
  · right
    have := List.pairwise_iff_getElem.1 hs (j - 1) j (by omega) hj (by omega)
    unfold gd
    rw [List.getElem?_eq_getElem hj, List.getElem?_eq_getElem (by omega)]
    simpa using this
theorem wo_new {a : List Int} {l : Int} (h1 : ¬ l ∈ a) (h2 : ¬ -l ∈ a) : woS a (vr l) = a := by
  unfold woS
  rw [List.filter_eq_self]
  intro x hx
  simp only [decide_eq_true_eq]
  intro e
  rcases vr_same e with rfl | rfl
  · exact h1 hx
  · exact h2 hx
theorem set_new {vars : Int} {a : List Int} {l : Int} (hc : clB vars a = true) (hl : litB vars l = true) (h1 : ¬ l ∈ a) (h2 : ¬ -l ∈ a) : clB vars (setLit a l) = true ∧ (setLit a l).length = a.length + 1 := by
  unfold setLit
  rw [wo_new h1 h2]
  refine ⟨clB_of (clB_spec hc).1 (strict_put (clB_strict hc) fun y hy e => ?_) fun x hx => ?_, putL_length _ _⟩
  · rcases vr_same e with rfl | rfl
    · exact h1 hy
    · exact h2 hy
  · rcases mem_putL.1 hx with rfl | hx
    · exact hl
    · exact (clB_mem hc hx).1
end Go.Av
namespace Go.Av
open Go
section
variable {P : Program} {N : Nat} {A : Bool} {σ τ : Sig} {ty : TypeId}
variable {e : Ctx} {val : Nat → Value} {w : World} {β : Place → Option (Nat × Nat)} {F : Nat → Prop} {x : AV} {d : Nat}
theorem Inv.freeze (h : Inv e (upd τ d x) val w β F) (hf : ∀ r y b s, node x r = some y → y.isOwn = true → β (d, r) = some (b, s) → e.w0.heap.size ≤ b) :
    Inv e (upd τ d (sh x)) val w β (fun b => F b ∨ ∃ r y s, node x r = some y ∧ y.isOwn = true ∧ β (d, r) = some (b, s)) := by
  have own : ∀ q, OwnAt (upd τ d (sh x)) q → q.1 ≠ d ∧ OwnAt (upd τ d x) q := fun q hq => by
    by_cases hi : q.1 = d
    · obtain ⟨y, hy, ho⟩ := hq
      rw [hi, upd_same] at hy
      rw [pure_own (pure_sh x) hy] at ho; cases ho
    · exact ⟨hi, (own_upd_other hi).2 ((own_upd_other hi).1 hq)⟩
  have hx := h.rep d
  rw [upd_same] at hx
  have ownx : ∀ r y, node x r = some y → y.isOwn = true → OwnAt (upd τ d x) (d, r) := fun r y hy ho => ⟨y, by rw [upd_same]; exact hy, ho⟩
  refine ⟨fun i => ?_, fun q q' b s s' hq hq' => h.disj q q' b s s' (own q hq).2 (own q' hq').2, fun q b s hq hb => ⟨?_, (h.sep q b s (own q hq).2 hb).2⟩, fun b hb => ?_, h.kept, h.grow, h.tame⟩
  · by_cases hi : i = d
    · subst hi
      rw [upd_same]
      exact hx.sh x (fun b hb => .inl hb) (fun r y b s hy ho hb => .inr ⟨r, y, s, hy, ho, by simpa using hb⟩)
    · have := h.rep i
      rw [upd_other _ _ hi] at this ⊢
      exact this.tr _ (fun b hb => ⟨.inl hb, rfl⟩) (fun _ _ _ _ => ⟨rfl, fun _ _ _ => rfl⟩) (fun _ _ => rfl)
  · rintro (hF | ⟨r, y, s', hy, ho, hb'⟩)
    · exact (h.sep q b s (own q hq).2 hb).1 hF
    · have := h.disj q (d, r) b s s' (own q hq).2 (ownx r y hy ho) hb hb'
      exact (own q hq).1 (by rw [this])
  · rcases hb with hb | ⟨r, y, s, hy, ho, hb⟩
    · exact h.fr b hb
    · refine ⟨h.own_lt (ownx r y hy ho) hb, fun hlt => ?_⟩
      have := hf r y b s hy ho hb
      omega
theorem call_coreZ {f : FuncId} {args : List AV} {res : AV} (hc : ACall P f args [] res []) (hp : pureL args = true) (hn : noSh res = true) (hr : noRef res = true) (h : Inv e σ val w β F) {vs : List Value}
    (hl : vs.length = args.length) (ha : RepL (fun _ => none) (lent σ β F) w args (0, []) 0 vs) (d : Nat) :
    Calls P f vs.toArray w fun en w' => ∃ v β' F', en = .returned v ∧ Inv e (upd (fun i => purgeV d (σ i)) d (sh res)) (upd val d v) w' β' F' := by
  have hinv : Inv ⟨w, fun _ => False, lent σ β F, []⟩ (argSig args []) (fun i => vs.getD i undef) w (fun _ => none) (lent σ β F) := by
    refine ⟨fun i => ?_, fun q q' b s s' hq => (noOwn_argSig hp q hq).elim, fun q b s hq => (noOwn_argSig hp q hq).elim, fun b hb => ⟨?_, fun _ => hb⟩, fun _ _ _ => rfl, Nat.le_refl _, Tame.refl _⟩
    · unfold argSig
      split
      · cases hx : args[i]? with
        | none => simp [Rep]
        | some c =>
          obtain ⟨u, hu, hru⟩ := RepL_iff.1 ha i c hx
          rw [List.getD_eq_getElem?_getD, hu]
          exact hru.pure_any (pureL_mem hp (List.mem_of_getElem? hx))
      · simp [Rep]
    · rcases hb with hb | ⟨q, s, hq, hb⟩
      · exact (h.fr b hb).1
      · exact h.own_lt hq hb
  refine (hc _ vs _ w _ _ hl (fun _ _ => rfl) hinv).mono fun en w' ⟨v, β', F', he, hi⟩ => ⟨v, ?_⟩
  have hkept : ∀ b, b < w.heap.size → w'.heap[b]? = w.heap[b]? := fun b hb => hi.kept b hb (fun h => h)
  have hI := h.more hkept hi.grow (h.tame.trans hi.tame hkept)
  have h0 : argSig [res] [] 0 = res := by simp [argSig, INH]
  have hge : ∀ r y b s, node res r = some y → y.isOwn = true → β' (0, r) = some (b, s) → w.heap.size ≤ b := fun r y b s hy ho hb => by
    have hs := hi.sep (0, r) b s ⟨y, by rw [h0]; exact hy, ho⟩ hb
    rcases hs.2 with h | h; exact h; exact h.elim
  have hdet : Det e σ w' β F res v (fun r => β' (0, r)) := by
    refine ⟨?_, refs_of_noRef res hr, ?_, ?_⟩
    · have := hi.rep 0
      rw [h0, upd_same] at this
      exact (this.noSh (G := F) res hn).tr _ (fun b hb => ⟨hb, rfl⟩) (fun r y _ _ => ⟨by simp, fun _ _ _ => rfl⟩) (fun q hq => by rw [refs_of_noRef res hr] at hq; cases hq)
    · intro r r' y y' b s s' hy ho hy' ho' hb hb'
      have := hi.disj (0, r) (0, r') b s s' ⟨y, by rw [h0]; exact hy, ho⟩ ⟨y', by rw [h0]; exact hy', ho'⟩ hb hb'
      simpa using this
    · intro r y b s hy ho hb
      have hge := hge r y b s hy ho hb
      exact ⟨fun hF => by have := (h.fr b hF).1; omega, .inl (Nat.le_trans h.grow hge), fun q s' hq hb' => by have := h.own_lt hq hb'; omega⟩
  exact ⟨_, _, he, (hI.attach d hdet).freeze (fun r y b s hy ho hb => Nat.le_trans h.grow (hge r y b s hy ho (by simpa using hb)))⟩
theorem q_callZ {f : FuncId} {xs : List Operand} {tys : Array TypeId} {vs args : List AV} {res : AV} (hf : hasBody P f = true) (hx : RdL N A σ xs vs) (hs : snapL σ vs = args) (hc : A = true → ACall P f args [] res [])
    (hn : noSh res = true) (hr : noRef res = true) : QSem P N A (fnCall f xs tys) ty σ (slotsL xs ++ refRoots vs) (sh res) := by
  intro hA σ' hD gv e a w β F hi d o ho hty K Q hK
  have hp : pureL args = true := by rw [← hs]; exact pure_snapL σ _
  obtain ⟨hrep, hlen, hno⟩ := RdL.rep hA hi (0, []) (j := 0) hx (agree_l hD)
  have hsn := hi.snapL (β0 := fun _ => none) _ (p' := (0, [])) hrep (fun i c hc => hno c (List.mem_of_getElem? hc))
  have e2 : snapL σ' vs = args := by rw [← hs]; exact snapL_congr _ fun q hq => hD q.1 (List.mem_append_right _ (refRoots_mem hq))
  rw [e2] at hsn
  have hl : (xs.map a.eval).length = args.length := by rw [← e2, snapL_eq, hlen]; simp
  refine upon_enter' (f := f) (args := (xs.map a.eval).toArray) ?_ ((call_coreZ (hc hA) hp hn hr hi hl hsn d).mono fun en w' ⟨v, β', F', he, hi'⟩ => ⟨v, he, hK _ _ ⟨β', F', hi'⟩⟩)
  simp [execOp, ho, fnCall, resolve, Deferred.ofValue, Act.eval, invoke, run_callFunc_body hf]
end
end Go.Av
namespace Go.Av
open Go
theorem sl_shZ {cs : List AV} {n m : Nat} {c : Option Nat} (h : pureL cs = true ∧ noNilL cs = true) : sh (.osl m cs n c) = .sl cs n := by simp only [sh, shL_id cs h.1 h.2]
end Go.Av
namespace Go.Av
open Go Go.Sort
abbrev TN := Int × Int × Int × Int
def tncells (xs : List TN) : List AV := xs.flatMap fun x => [.int .i64 x.1, .int .i64 x.2.1, .int .i64 x.2.2.1, .int .i64 x.2.2.2]
def gn (xs : List TN) (i : Nat) : TN := xs.getD i (0, 0, 0, 0)
theorem tncells_length (xs : List TN) : (tncells xs).length = xs.length * 4 := by
 induction xs with
 | nil => rfl
 | cons x xs ih => simp only [tncells, List.flatMap_cons, List.length_append, List.length_cons, List.length_nil] at ih ⊢; omega
theorem set_put {a : List Int} {l : Int} (h1 : ¬ l ∈ a) (h2 : ¬ -l ∈ a) : setLit a l = putL a l := by unfold setLit; rw [wo_new h1 h2]
end Go.Av
namespace Go.Av
open Go
abbrev PcT := Int × List (Int × Int) × Int × Int × Int × Int
end Go.Av
namespace Go.Av
open Go Go.Sort
def ncell (x : TN) : List AV := [.int .i64 x.1, .int .i64 x.2.1, .int .i64 x.2.2.1, .int .i64 x.2.2.2]
theorem gn_get {xs : List TN} {i : Nat} (h : i < xs.length) : xs[i]? = some (gn xs i) := by simp [gn, List.getD, List.getElem?_eq_getElem h]
theorem tn_ne {xs : List TN} {i : Nat} (h : i < xs.length) : tncells xs ≠ [] := fun he => by
 have := tncells_length xs; rw [he] at this; simp at this; omega
theorem tn_four : ∀ {xs : List TN} {i : Nat}, i < xs.length → ((tncells xs).drop (i * 4)).take 4 = ncell (gn xs i)
 | [], i, h => by simp at h
 | x :: xs, 0, _ => rfl
 | x :: xs, i + 1, h => by
  have e : tncells (x :: xs) = ncell x ++ tncells xs := rfl
  rw [e, show (i + 1) * 4 = (ncell x).length + i * 4 by simp [ncell]; omega, List.drop_append]
  rw [show (ncell x).length + i * 4 - (ncell x).length = i * 4 by omega, List.drop_eq_nil_of_le (by omega), List.nil_append]
  exact tn_four (xs := xs) (by simpa using h)
theorem tn_pureL : ∀ (xs : List TN), pureL (tncells xs) = true
 | [] => rfl
 | x :: xs => by
  have := tn_pureL xs
  have e : tncells (x :: xs) = ncell x ++ tncells xs := rfl
  rw [e]; simp [ncell, pureL, pureV, this]
theorem tn_noNil : ∀ (xs : List TN), noNilL (tncells xs) = true
 | [] => rfl
 | x :: xs => by
  have := tn_noNil xs
  have e : tncells (x :: xs) = ncell x ++ tncells xs := rfl
  rw [e]; simp [ncell, noNilL, noNil, this]
theorem tn_pure (xs : List TN) : pureL (tncells xs) = true ∧ noNilL (tncells xs) = true := ⟨tn_pureL xs, tn_noNil xs⟩
theorem tn_noRef (xs : List TN) : noRefL (tncells xs) = true := noRefL_pure _ (tn_pureL xs)
theorem tn_noSh : ∀ (xs : List TN), noShL (tncells xs) = true
 | [] => rfl
 | x :: xs => by
  have := tn_noSh xs
  have e : tncells (x :: xs) = ncell x ++ tncells xs := rfl
  rw [e]; simp [ncell, noShL, noSh, this]
theorem tn_append (xs ys : List TN) : tncells (xs ++ ys) = tncells xs ++ tncells ys := by simp [tncells]
theorem gn_take {xs ys : List TN} {i : Nat} (hi : i < xs.length) (hi2 : i < ys.length) (h : xs.take i = ys.take i) (he : gn xs i = gn ys i) : xs.take (i + 1) = ys.take (i + 1) := by
 have e1 := gn_get hi
 have e2 := gn_get hi2
 rw [List.getElem?_eq_getElem hi] at e1
 rw [List.getElem?_eq_getElem hi2] at e2
 rw [List.take_succ_eq_append_getElem hi, List.take_succ_eq_append_getElem hi2, h, Option.some.inj e1, Option.some.inj e2, he]
end Go.Av
namespace Go.Av
open Go
section
variable {P : Program} {N : Nat} {A : Bool} {σ : Sig} {x : Operand} {ty : TypeId}
theorem v_off {op : Op} {v : AV} (hA : A = false) (hv : flat v = true) : VSem P N A op ty σ [] v := ⟨noOwn_flat hv, fun h => by rw [hA] at h; cases h⟩
end
section
variable {P : Program} {N : Nat} {o : Oper} {σ : Sig}
theorem o_store_keep {t off s y t8 off8 : Nat} {cs0 cs' : List AV} {g : Bool} {q : Place} {x : Operand} {z v y' : AV} (ho : o.op = .store t x (.tmp y)) (hd : o.dst = none) (ht : tyAgg P t = some (g, s)) (hx : RdTo N true σ x (.rp q off)) (hyN : y < N) (hy : σ y = v)
    (hyq : Nat.beq y q.1 = false) (hv : bigV v = true) (hn : noRefL (cellsOf v) = true) (hrv : refs v = [])
    (hz : node (σ q.1) q.2 = some z) (hzo : z.isOwn = true) (hc : cellL (cellsOf v) = true) (hs : (cellsOf v).length = s) (hl : off + s ≤ (kids z).length)
    (hr : refs (σ q.1) = []) (hres : setNode (σ q.1) q.2 (setKids z (setL (kids z) off (cellsOf v))) = y')
    (hk : σ t8 = .rp (q.1, []) off8) (h0 : σ q.1 = .op cs0) (h1 : y' = .op cs') : OStep P N o σ (upd (upd (fun i => purgeV q.1 (upd σ y .undef i)) q.1 y') t8 (.rp (q.1, []) off8)) := by
  intro gv e a w ⟨hdf, hsz, β, F, hi⟩ K Q hK
  have hyq' : y ≠ q.1 := fun h => by subst h; simp at hyq
  have ex := hx.rep rfl (fun _ _ => rfl) hi (0, [])
  obtain ⟨hi1, hd1⟩ := hi.detach_slot (t := y) (by rw [hy]; exact hrv)
  rw [hy] at hd1
  have hval : valOf N gv a y = a.eval (.tmp y) := by simp [valOf, hyN, Act.eval]
  rw [hval] at hd1
  obtain ⟨δ', hd2⟩ := hd1.cellsOf hv hn
  have hul := hd2.repL.1
  have hur := hd2.repL.2
  have hz1 : node (upd σ y .undef q.1) q.2 = some z := by rw [upd_other _ _ (Ne.symm hyq')]; exact hz
  have hr1 : refs (upd σ y .undef q.1) = [] := by rw [upd_other _ _ (Ne.symm hyq')]; exact hr
  have hq : blk (upd σ y .undef) q = some (kids z) := by
    unfold blk; rw [hz1]
    cases z <;> simp [AV.isOwn] at hzo <;> rfl
  simp only [Rep] at ex
  obtain ⟨b, s1, hb1, ex⟩ := ex
  rcases hi1.block hq with ⟨hb2, _⟩ | ⟨b2, s2, arr, tt, hb2, hh, hrc, hnr⟩
  · rw [hb1] at hb2; cases hb2
  · rw [hb1] at hb2
    simp only [Option.some.injEq, Prod.mk.injEq] at hb2
    obtain ⟨rfl, rfl⟩ := hb2
    have hcl := hrc.len
    simp only [Array.length_toList] at hcl
    have hrun := run_storeAt (b := b) (off := off) ht (v := a.eval (.tmp y)) (hul.trans hs) hh (by omega) (ones_of hur hul hc)
    obtain ⟨β', h⟩ := hi1.store (ns := cellsOf v) (off := off) (cs := kids z) hz1 hzo rfl hb1 hh hr1 hd2 hn hnr (by rw [← hul]; omega) (σ1 := fun i => purgeV q.1 (upd σ y .undef i)) (fun i _ => by
      rcases purgeV_or q.1 (upd σ y .undef i) with hp | hp
      · right
        refine ⟨hp, fun q' hq' => under_off fun hh => ?_⟩
        rw [← hp] at hq'
        exact refs_purge q' hq' hh.1
      · exact .inl hp)
    rw [upd_other _ _ (Ne.symm hyq'), hres] at h
    have r8 := hi.rep t8
    rw [hk] at r8
    simp only [Rep] at r8
    obtain ⟨b8, s8, hb8, hv8⟩ := r8
    have r0 := hi.rep q.1
    rw [h0] at r0
    simp only [Rep] at r0
    obtain ⟨_, b0, arr0, _, hb0, hv0, _⟩ := r0
    have r1 := h.rep q.1
    rw [upd_same, h1] at r1
    simp only [Rep] at r1
    obtain ⟨_, b9, arr9, _, hb9, hv9, _⟩ := r1
    rw [hb8] at hb0
    simp only [Option.some.injEq, Prod.mk.injEq] at hb0
    rw [hv0] at hv9
    have he : b9 = b8 := by
      have h3 := hb0.1
      simp at hv9
      omega
    have h9 := h.set t8 (x := .rp (q.1, []) off8) (v := valOf N gv a t8) (by simp only [Rep]; exact ⟨b9, arr9.size, hb9, by rw [hv8, he]⟩) (fun r y hy => by
      cases r with
      | nil => simp [node] at hy; subst hy; rfl
      | cons j r => simp [node, kids] at hy)
    rw [upd_self] at h9
    refine wp_unit (w' := w.setRow b (spliceV arr.toList off (a.eval (.tmp y)).cells.toList).toArray) ?_ (hK _ _ ⟨?_, ?_, β', F, ?_⟩)
    · simp only [execOp, ho, ex, hrun, Sem.run_bind, Sem.run_pure, Result.andThen_ok]
    · rw [hd]; exact hdf
    · rw [hd]; exact hsz
    · rw [hd]; exact h9
end
end Go.Av
namespace Go.Av
open Go Go.Proofs Go.Sort
set_option maxRecDepth 10000
end Go.Av
namespace Go.Av
open Go Go.Proofs Go.Sort
set_option maxRecDepth 10000
end Go.Av
namespace Go.Av
open Go Go.Proofs Go.Sort
set_option maxRecDepth 10000
end Go.Av
namespace Go.Av
open Go Go.Proofs Go.Sort
set_option maxRecDepth 10000
end Go.Av
namespace Go.Av
open Go Go.Proofs Go.Sort
set_option maxRecDepth 10000
end Go.Av
namespace Go.Av
open Go Go.Proofs Go.Sort
set_option maxRecDepth 10000
end Go.Av
namespace Go.Av
open Go Go.Proofs Go.Sort
set_option maxRecDepth 10000
end Go.Av
namespace Go.Av
open Go Go.Proofs Go.Sort
set_option maxRecDepth 10000
end Go.Av
namespace Go.Av
open Go Go.Proofs Go.Sort
set_option maxRecDepth 10000
end Go.Av
namespace Go.Av
open Go Go.Proofs Go.Sort
set_option maxRecDepth 10000
end Go.Av
namespace Go.Av
open Go Go.Proofs Go.Sort
set_option maxRecDepth 10000
end Go.Av
namespace Go.Av
open Go Go.Proofs Go.Sort
set_option maxRecDepth 10000
end Go.Av
namespace Go.Av
open Go Go.Proofs Go.Sort
set_option maxRecDepth 10000
end Go.Av
namespace Go.Av
open Go Go.Proofs Go.Sort
set_option maxRecDepth 10000
end Go.Av
namespace Go.Av
open Go Go.Proofs Go.Sort
set_option maxRecDepth 10000
end Go.Av
namespace Go.Av
open Go Go.Proofs Go.Sort
set_option maxRecDepth 10000
end Go.Av
namespace Go.Av
open Go Go.Proofs Go.Sort
set_option maxRecDepth 10000
end Go.Av
namespace Go.Av
open Go Go.Proofs Go.Sort
set_option maxRecDepth 10000
end Go.Av
namespace Go.Av
open Go Go.Proofs Go.Sort
set_option maxRecDepth 10000
end Go.Av
namespace Go.Av
open Go Go.Proofs Go.Sort
set_option maxRecDepth 10000
end Go.Av
namespace Go.Av
open Go Go.Proofs Go.Sort
set_option maxRecDepth 10000
end Go.Av
namespace Go.Av
open Go Go.Proofs Go.Sort
set_option maxRecDepth 10000
end Go.Av
namespace Go.Av
open Go Go.Proofs Go.Sort
set_option maxRecDepth 10000
end Go.Av
namespace Go.Av
open Go Go.Proofs Go.Sort
set_option maxRecDepth 10000
end Go.Av
namespace Go.Av
open Go Go.Proofs Go.Sort
set_option maxRecDepth 10000
end Go.Av
namespace Go.Av
open Go Go.Proofs Go.Sort
set_option maxRecDepth 10000
end Go.Av
namespace Go.Av
open Go Go.Proofs Go.Sort
set_option maxRecDepth 10000
end Go.Av
namespace Go.Av
open Go Go.Proofs Go.Sort
set_option maxRecDepth 10000
end Go.Av
namespace Go.Av
open Go Go.Proofs Go.Sort
set_option maxRecDepth 10000
end Go.Av
namespace Go.Av
open Go Go.Proofs Go.Sort
set_option maxRecDepth 10000
end Go.Av
namespace Go.Av
open Go Go.Proofs Go.Sort
set_option maxRecDepth 10000
end Go.Av
namespace Go.Av
open Go Go.Proofs Go.Sort
set_option maxRecDepth 10000
end Go.Av
namespace Go.Av
open Go Go.Proofs Go.Sort
set_option maxRecDepth 10000
theorem idx_mem (xs : List Int) (v : Int) : decide (fidx (fun i => decide (v = gd xs i)) xs.length ≥ 0) = decide (v ∈ xs) := by
  rw [show decide (fidx (fun i => decide (v = gd xs i)) xs.length ≥ 0) = decide (0 ≤ fidx (fun i => decide (v = gd xs i)) xs.length) from rfl, fidx_any, Bool.eq_iff_iff, decide_eq_true_iff]
  constructor
  · intro h
    obtain ⟨i, hi, hx⟩ := List.any_eq_true.1 h
    rw [of_decide_eq_true hx]; exact gd_mem (by simpa using hi)
  · intro h
    obtain ⟨j, hj, hx⟩ := mem_gd h
    exact List.any_eq_true.2 ⟨j, by simpa using hj, by simp [hx]⟩
theorem hb59 : hasBody Tryz.prog 59 = true := by kernel_rfl
theorem hb65 : hasBody Tryz.prog 65 = true := by kernel_rfl
theorem hb76 : hasBody Tryz.prog 76 = true := by kernel_rfl
theorem hb86 : hasBody Tryz.prog 86 = true := by kernel_rfl
theorem hb90 : hasBody Tryz.prog 90 = true := by kernel_rfl
theorem index_c (xs : List Int) (v : Int) (hl : xs.length ≤ 1048576) : ACall Tryz.prog 86 [.sl (icells xs) xs.length, .int .i64 v] [] (.int .i64 (fidx (fun i => decide (v = gd xs i)) xs.length)) [] := by
  refine ACall.intro Tryz.func86 rfl (N := 19) rfl (by decide) (by simp) ?_
  refine a_seq ?_
  refine a_region ?_
  refine rv (v := .int _ _) (v_assign il nf) ?_
  refine r_nil ?_
  refine a_seq ?_
  refine a_seq ?_
  refine a_region ?_
  refine rv (v := .sl _ _) (v_move il nf) ?_
  refine rv (v := .int _ _) (v_len_sl sl25 il) ?_
  refine rv (v := .int _ _) (v_move il nf) ?_
  refine r_nil ?_
  refine a_block ?_
  refine a_loop (X := Nat) (fun i => look [(0, .sl (icells xs) xs.length), (1, .int .i64 v), (7, .int .i64 ((xs.length : Nat) : Int)), (8, .int .i64 ((i : Nat) : Int))]) (fun i => i ≤ xs.length ∧ ∀ j, j < i → decide (v = gd xs j) = false) (fun i => xs.length - i) 0 (ent_look ⟨Weak.of_eq rfl, Weak.of_eq rfl, Weak.of_eq rfl, Weak.of_eq rfl, trivial⟩) ⟨Nat.zero_le _, fun j h => by omega⟩ (fun i hG => ?_)
  obtain ⟨h1, h2⟩ := hG
  refine a_seq ?_
  refine a_region ?_
  refine rv (v := .bool _) (v_lss il il) ?_
  refine r_nil ?_
  refine a_seq ?_
  refine a_cond rfl (fun ht9 => ?_) (fun ht9 => ?_)
  ·
    skip
    refine a_skip ?_
    refine a_seq ?_
    refine a_block ?_
    refine a_seq ?_
    have hi : i < xs.length := (by simp at ht9; omega)
    refine a_region ?_
    refine rv (v := .int _ _) (v_move il nf) ?_
    refine rv (v := .int _ _) (v_assign il nf) ?_
    refine r_nil ?_
    refine a_seq ?_
    refine a_region ?_
    refine rv (v := .int _ _) (v_move il nf) ?_
    refine rv (v := .sl _ _) (v_move il nf) ?_
    refine rv (v := .int _ _) (v_move il nf) ?_
    refine rv (v := .pp _ _) (v_indexAddr_sl es25 il il (fun _ => ⟨by omega, by omega, icells_ne hi⟩)) ?_
    refine rv (v := .int .i64 (gd xs i)) (v_load_pp ta3 il (fun _ => by rw [Nat.mul_one]; exact icells_get (gd_get hi)) rfl) ?_
    refine rv (v := .bool _) (v_eql il il) ?_
    refine r_nil ?_
    refine a_cond rfl (fun ht16 => ?_) (fun ht16 => ?_)
    ·
      skip
      refine a_seq ?_
      refine a_region ?_
      refine rv (v := .int _ _) (v_move il nf) ?_
      refine rv (v := .int _ _) (v_assign il nf) ?_
      refine r_nil ?_
      refine a_ret ?_
      refine ret1 Tryz.results86 (by decide) (by decide) (Weak.of_eq (int_eq ?_)) rfl Leaves.nil
      exact (fidx_found (p := fun j => decide (v = gd xs j)) hi (by simpa using ht16) h2).symm
    ·
      skip
      refine a_skip ?_
      refine a_region ?_
      refine rv (v := .int _ _) (v_add il il (fun _ => by omega)) ?_
      refine rv (v := .int _ _) (v_move il nf) ?_
      refine r_nil ?_
      refine ⟨i + 1, ent_look ⟨Weak.of_eq rfl, Weak.of_eq rfl, Weak.of_eq rfl, Weak.of_eq (int_eq (by omega)), trivial⟩, ⟨by omega, ok_stepF (p := fun j => decide (v = gd xs j)) h2 (by simpa using ht16)⟩, by omega⟩
  ·
    skip
    refine a_exit ?_
    refine a_seq ?_
    refine a_region ?_
    refine rv (v := .int _ _) (v_assign il nf) ?_
    refine r_nil ?_
    refine a_ret ?_
    refine ret1 Tryz.results86 (by decide) (by decide) (Weak.of_eq (int_eq ?_)) rfl Leaves.nil
    simp at ht9; exact (fidx_none (p := fun j => decide (v = gd xs j)) (fun j hj => h2 j (by omega))).symm
theorem contains_c (xs : List Int) (v : Int) (hl : xs.length ≤ 1048576) : ACall Tryz.prog 59 [.sl (icells xs) xs.length, .int .i64 v] [] (.bool (decide (v ∈ xs))) [] := by
  refine ACall.intro Tryz.func59 rfl (N := 9) rfl (by decide) (by simp) ?_
  refine a_seq ?_
  refine a_region ?_
  refine rv (v := .bool _) (v_assign il nf) ?_
  refine r_nil ?_
  refine a_seq ?_
  refine a_region ?_
  refine rv (v := .sl _ _) (v_move il nf) ?_
  refine rv (v := .int _ _) (v_move il nf) ?_
  refine rn (v := .int _ _) (q_call (vs := [.sl _ _, .int _ _]) (args := [.sl _ _, .int .i64 _]) hb86 ⟨il, il, trivial⟩ rfl (fun hA => index_c xs v hl) rfl rfl) ?_
  refine rv (v := .bool _) (v_geq il il) ?_
  refine rv (v := .bool _) (v_assign il nf) ?_
  refine r_nil ?_
  refine a_ret ?_
  refine ret1 Tryz.results59 (by decide) (by decide) (Weak.of_eq (bool_eq ?_)) rfl Leaves.nil
  exact idx_mem xs v
theorem iClv_c (c a : List Int) (hs : SmI c) (hc : c.length ≤ 1048576) (ha : a.length ≤ 1048576) : ACall Tryz.prog 90 [.sl (icells c) c.length, .sl (icells a) a.length] [] (.int .i64 (cval c a)) [] := by
  refine ACall.intro Tryz.func90 rfl (N := 26) rfl (by decide) (by simp) ?_
  refine a_seq ?_
  refine a_region ?_
  refine rv (v := .int _ _) (v_assign il nf) ?_
  refine r_nil ?_
  refine a_seq ?_
  refine a_region ?_
  refine rv (v := .int _ _) (v_assign il nf) ?_
  refine r_nil ?_
  refine a_seq ?_
  refine a_seq ?_
  refine a_region ?_
  refine rv (v := .sl _ _) (v_move il nf) ?_
  refine rv (v := .int _ _) (v_len_sl sl25 il) ?_
  refine rv (v := .int _ _) (v_move il nf) ?_
  refine r_nil ?_
  refine a_block ?_
  refine a_loop (X := Nat) (fun i => look [(1, .sl (icells a) a.length), (5, .int .i64 (cvP c a i)), (8, .sl (icells c) c.length), (9, .int .i64 ((c.length : Nat) : Int)), (10, .int .i64 ((i : Nat) : Int))]) (fun i => i ≤ c.length ∧ ∀ j, j < i → ¬ gd c j ∈ a) (fun i => c.length - i) 0 (ent_look ⟨Weak.of_eq rfl, Weak.of_eq rfl, Weak.of_eq rfl, Weak.of_eq rfl, Weak.of_eq rfl, trivial⟩) ⟨Nat.zero_le _, fun j h => by omega⟩ (fun i hG => ?_)
  obtain ⟨g1, g2⟩ := hG
  have hsi := hs i
  refine a_seq ?_
  refine a_region ?_
  refine rv (v := .bool _) (v_lss il il) ?_
  refine r_nil ?_
  refine a_seq ?_
  refine a_cond rfl (fun ht11 => ?_) (fun ht11 => ?_)
  ·
    skip
    refine a_skip ?_
    refine a_seq ?_
    refine a_block ?_
    refine a_seq ?_
    have hi : i < c.length := (by simp at ht11; omega)
    refine a_region ?_
    refine rv (v := .pp _ _) (v_indexAddr_sl es25 il il (fun _ => ⟨by omega, by omega, icells_ne hi⟩)) ?_
    refine rv (v := .int .i64 (gd c i)) (v_load_pp ta3 il (fun _ => by rw [Nat.mul_one]; exact icells_get (gd_get hi)) rfl) ?_
    refine rv (v := .int _ _) (v_assign il nf) ?_
    refine r_nil ?_
    refine a_block ?_
    refine a_seq ?_
    refine a_region ?_
    refine rv (v := .sl _ _) (v_move il nf) ?_
    refine rv (v := .int _ _) (v_move il nf) ?_
    refine rn (v := .bool _) (q_call (vs := [.sl _ _, .int _ _]) (args := [.sl _ _, .int .i64 _]) hb59 ⟨il, il, trivial⟩ rfl (fun hA => contains_c a _ ha) rfl rfl) ?_
    refine rv (v := .bool _) (v_assign il nf) ?_
    refine r_nil ?_
    refine a_cond rfl (fun ht14 => ?_) (fun ht14 => ?_)
    ·
      skip
      refine a_seq ?_
      refine a_region ?_
      refine rv (v := .int _ _) (v_assign il nf) ?_
      refine r_nil ?_
      refine a_ret ?_
      refine ret1 Tryz.results90 (by decide) (by decide) (Weak.of_eq (int_eq ?_)) rfl Leaves.nil
      exact (cval_one hi (by simpa using ht14)).symm
    ·
      skip
      refine a_seq ?_
      refine a_region ?_
      refine rv (v := .sl _ _) (v_move il nf) ?_
      refine rv (v := .int _ _) (v_move il nf) ?_
      refine rv (v := .int _ _) (v_neg il (fun _ => by omega)) ?_
      refine rn (v := .bool _) (q_call (vs := [.sl _ _, .int _ _]) (args := [.sl _ _, .int .i64 _]) hb59 ⟨il, il, trivial⟩ rfl (fun hA => contains_c a _ ha) rfl rfl) ?_
      refine rv (v := .bool _) (v_not il) ?_
      refine rv (v := .bool _) (v_assign il nf) ?_
      refine r_nil ?_
      refine a_cond rfl (fun ht18 => ?_) (fun ht18 => ?_)
      ·
        skip
        refine a_region ?_
        refine rv (v := .int _ _) (v_assign il nf) ?_
        refine r_nil ?_
        refine a_region ?_
        refine rv (v := .int _ _) (v_add il il (fun _ => by omega)) ?_
        refine rv (v := .int _ _) (v_move il nf) ?_
        refine r_nil ?_
        refine ⟨i + 1, ent_look ⟨Weak.of_eq rfl, Weak.of_eq (int_eq (by rw [cvP_succ hi, if_neg (by simpa using ht18)])), Weak.of_eq rfl, Weak.of_eq rfl, Weak.of_eq (int_eq (by omega)), trivial⟩, ⟨by omega, fun j h1 => by rcases Nat.lt_or_ge j i with h | h; exact g2 j h; (obtain rfl : j = i := by omega); simpa using ht14⟩, by omega⟩
      ·
        skip
        refine a_skip ?_
        refine a_region ?_
        refine rv (v := .int _ _) (v_add il il (fun _ => by omega)) ?_
        refine rv (v := .int _ _) (v_move il nf) ?_
        refine r_nil ?_
        refine ⟨i + 1, ent_look ⟨Weak.of_eq rfl, Weak.of_eq (int_eq (by rw [cvP_succ hi, if_pos (by simpa using ht18)])), Weak.of_eq rfl, Weak.of_eq rfl, Weak.of_eq (int_eq (by omega)), trivial⟩, ⟨by omega, fun j h1 => by rcases Nat.lt_or_ge j i with h | h; exact g2 j h; (obtain rfl : j = i := by omega); simpa using ht14⟩, by omega⟩
  ·
    skip
    refine a_exit ?_
    refine a_seq ?_
    have hcv := cval_end (c := c) (a := a) (i := i) (by simp at ht11; omega) g2
    refine a_region ?_
    refine rv (v := .int _ _) (v_move il nf) ?_
    refine rv (v := .int _ _) (v_assign il nf) ?_
    refine r_nil ?_
    refine a_ret ?_
    refine ret1 Tryz.results90 (by decide) (by decide) (Weak.of_eq (int_eq ?_)) rfl Leaves.nil
    exact hcv.symm
theorem sClv_c (c a : List Int) (hs : SmI c) (hc : c.length ≤ 1048576) (ha : a.length ≤ 1048576) : ACall Tryz.prog 76 [.sl (icells c) c.length, .sl (icells a) a.length] [] (.int .i64 (cval c a)) [] := by
  refine ACall.intro Tryz.func76 rfl (N := 28) rfl (by decide) (by simp) ?_
  refine a_seq ?_
  refine a_region ?_
  refine rv (v := .int _ _) (v_assign il nf) ?_
  refine r_nil ?_
  refine a_seq ?_
  refine a_region ?_
  refine rv (v := .int _ _) (v_assign il nf) ?_
  refine r_nil ?_
  refine a_seq ?_
  refine a_seq ?_
  refine a_region ?_
  refine rv (v := .int _ _) (v_assign il nf) ?_
  refine r_nil ?_
  refine a_block ?_
  refine a_loop (X := Nat) (fun i => look [(0, .sl (icells c) c.length), (1, .sl (icells a) a.length), (5, .int .i64 (cvP c a i)), (6, .int .i64 ((i : Nat) : Int))]) (fun i => i ≤ c.length ∧ ∀ j, j < i → ¬ gd c j ∈ a) (fun i => c.length - i) 0 (ent_look ⟨Weak.of_eq rfl, Weak.of_eq rfl, Weak.of_eq rfl, Weak.of_eq rfl, trivial⟩) ⟨Nat.zero_le _, fun j h => by omega⟩ (fun i hG => ?_)
  obtain ⟨g1, g2⟩ := hG
  have hsi := hs i
  refine a_seq ?_
  refine a_seq ?_
  refine a_region ?_
  refine rv (v := .int _ _) (v_move il nf) ?_
  refine rv (v := .sl _ _) (v_move il nf) ?_
  refine rv (v := .int _ _) (v_len_sl sl25 il) ?_
  refine rv (v := .bool _) (v_lss il il) ?_
  refine r_nil ?_
  refine a_cond rfl (fun ht10 => ?_) (fun ht10 => ?_)
  ·
    skip
    refine a_skip ?_
    refine a_seq ?_
    refine a_block ?_
    refine a_seq ?_
    refine a_seq ?_
    have hi : i < c.length := (by simp at ht10; omega)
    refine a_region ?_
    refine rv (v := .sl _ _) (v_move il nf) ?_
    refine rv (v := .sl _ _) (v_move il nf) ?_
    refine rv (v := .int _ _) (v_move il nf) ?_
    refine rv (v := .pp _ _) (v_indexAddr_sl es25 il il (fun _ => ⟨by omega, by omega, icells_ne hi⟩)) ?_
    refine rv (v := .int .i64 (gd c i)) (v_load_pp ta3 il (fun _ => by rw [Nat.mul_one]; exact icells_get (gd_get hi)) rfl) ?_
    refine rn (v := .bool _) (q_call (vs := [.sl _ _, .int _ _]) (args := [.sl _ _, .int .i64 _]) hb65 ⟨il, il, trivial⟩ rfl (fun hA => has2_c _ _ _ ⟨rfl, by omega⟩) rfl rfl) ?_
    refine r_nil ?_
    refine a_cond rfl (fun ht18 => ?_) (fun ht18 => ?_)
    ·
      skip
      refine a_seq ?_
      refine a_region ?_
      refine rv (v := .int _ _) (v_assign il nf) ?_
      refine r_nil ?_
      refine a_ret ?_
      refine ret1 Tryz.results76 (by decide) (by decide) (Weak.of_eq (int_eq ?_)) rfl Leaves.nil
      exact (cval_one hi (by simpa using ht18)).symm
    ·
      skip
      refine a_skip ?_
      refine a_seq ?_
      refine a_region ?_
      refine rv (v := .sl _ _) (v_move il nf) ?_
      refine rv (v := .sl _ _) (v_move il nf) ?_
      refine rv (v := .int _ _) (v_move il nf) ?_
      refine rv (v := .pp _ _) (v_indexAddr_sl es25 il il (fun _ => ⟨by omega, by omega, icells_ne hi⟩)) ?_
      refine rv (v := .int .i64 (gd c i)) (v_load_pp ta3 il (fun _ => by rw [Nat.mul_one]; exact icells_get (gd_get hi)) rfl) ?_
      refine rv (v := .int _ _) (v_neg il (fun _ => by omega)) ?_
      refine rn (v := .bool _) (q_call (vs := [.sl _ _, .int _ _]) (args := [.sl _ _, .int .i64 _]) hb65 ⟨il, il, trivial⟩ rfl (fun hA => has2_c _ _ _ ⟨rfl, by omega⟩) rfl rfl) ?_
      refine rv (v := .bool _) (v_not il) ?_
      refine r_nil ?_
      refine a_cond rfl (fun ht26 => ?_) (fun ht26 => ?_)
      ·
        skip
        refine a_region ?_
        refine rv (v := .int _ _) (v_assign il nf) ?_
        refine r_nil ?_
        refine a_region ?_
        refine rv (v := .int _ _) (v_move il nf) ?_
        refine rv (v := .int _ _) (v_add il il (fun _ => by omega)) ?_
        refine rv (v := .int _ _) (v_assign il nf) ?_
        refine r_nil ?_
        refine ⟨i + 1, ent_look ⟨Weak.of_eq rfl, Weak.of_eq rfl, Weak.of_eq (int_eq (by rw [cvP_succ hi, if_neg (by simpa using ht26)])), Weak.of_eq (int_eq (by omega)), trivial⟩, ⟨by omega, fun j h1 => by rcases Nat.lt_or_ge j i with h | h; exact g2 j h; (obtain rfl : j = i := by omega); simpa using ht18⟩, by omega⟩
      ·
        skip
        refine a_skip ?_
        refine a_region ?_
        refine rv (v := .int _ _) (v_move il nf) ?_
        refine rv (v := .int _ _) (v_add il il (fun _ => by omega)) ?_
        refine rv (v := .int _ _) (v_assign il nf) ?_
        refine r_nil ?_
        refine ⟨i + 1, ent_look ⟨Weak.of_eq rfl, Weak.of_eq rfl, Weak.of_eq (int_eq (by rw [cvP_succ hi, if_pos (by simpa using ht26)])), Weak.of_eq (int_eq (by omega)), trivial⟩, ⟨by omega, fun j h1 => by rcases Nat.lt_or_ge j i with h | h; exact g2 j h; (obtain rfl : j = i := by omega); simpa using ht18⟩, by omega⟩
  ·
    skip
    refine a_exit ?_
    refine a_seq ?_
    have hcv := cval_end (c := c) (a := a) (i := i) (by simp at ht10; omega) g2
    refine a_region ?_
    refine rv (v := .int _ _) (v_move il nf) ?_
    refine rv (v := .int _ _) (v_assign il nf) ?_
    refine r_nil ?_
    refine a_ret ?_
    refine ret1 Tryz.results76 (by decide) (by decide) (Weak.of_eq (int_eq ?_)) rfl Leaves.nil
    exact hcv.symm
end Go.Av
namespace Go.Av
open Go Go.Proofs Go.Sort
set_option maxRecDepth 10000
end Go.Av
namespace Go.Av
open Go Go.Proofs Go.Sort
set_option maxRecDepth 10000
end Go.Av
namespace Go.Av
open Go Go.Proofs Go.Sort
set_option maxRecDepth 10000
end Go.Av
namespace Go.Av
open Go Go.Proofs Go.Sort
set_option maxRecDepth 10000
end Go.Av
namespace Go.Av
open Go Go.Proofs Go.Sort
set_option maxRecDepth 10000
end Go.Av
namespace Go.Av
open Go Go.Proofs Go.Sort
set_option maxRecDepth 10000
end Go.Av
namespace Go.Av
open Go Go.Proofs Go.Sort
set_option maxRecDepth 10000
end Go.Av
namespace Go.Av
open Go Go.Proofs Go.Sort
set_option maxRecDepth 10000
theorem es27 : elemSize Tryz.prog 27 = some 4 := by kernel_rfl
theorem fo56_0 : fieldOff Tryz.prog 56 0 = some 0 := by kernel_rfl
theorem fo56_1 : fieldOff Tryz.prog 56 1 = some 1 := by kernel_rfl
theorem fo56_2 : fieldOff Tryz.prog 56 2 = some 2 := by kernel_rfl
theorem fo56_3 : fieldOff Tryz.prog 56 3 = some 3 := by kernel_rfl
theorem hb34 : hasBody Tryz.prog 34 = true := by kernel_rfl
theorem sl27 : isSlice Tryz.prog 27 = true := by kernel_rfl
theorem ta56 : tyAgg Tryz.prog 56 = some (true, 4) := by kernel_rfl
theorem eqTN_c (x y : TN) : ACall Tryz.prog 34 [.agg [.int .i64 x.1, .int .i64 x.2.1, .int .i64 x.2.2.1, .int .i64 x.2.2.2], .agg [.int .i64 y.1, .int .i64 y.2.1, .int .i64 y.2.2.1, .int .i64 y.2.2.2]] [] (.bool (decide (x = y))) [] := by
 refine ACall.intro Tryz.func34 rfl (N := 25) rfl (by decide) (by simp) ?_
 refine a_seq ?_
 refine a_region ?_
 refine rn (v := .op [.int _ _, .int _ _, .int _ _, .int _ _]) (q_box il rfl rfl) ?_
 refine rn (v := .op [.int _ _, .int _ _, .int _ _, .int _ _]) (q_box il rfl rfl) ?_
 refine rv (v := .bool _) (v_assign il nf) ?_
 refine r_nil ?_
 refine a_seq ?_
 refine a_seq ?_
 refine a_region ?_
 refine rv (v := .rp _ _) (v_fieldAddr_rp fo56_0 il) ?_
 refine rv (v := .int _ _) (v_load_rp1 ta3 il rfl (fun _ => rfl) rfl) ?_
 refine rv (v := .rp _ _) (v_fieldAddr_rp fo56_0 il) ?_
 refine rv (v := .int _ _) (v_load_rp1 ta3 il rfl (fun _ => rfl) rfl) ?_
 refine rv (v := .bool _) (v_neq il il) ?_
 refine r_nil ?_
 refine a_cond rfl (fun ht9 => ?_) (fun ht9 => ?_)
 ·
  skip
  refine a_seq ?_
  refine a_region ?_
  refine rv (v := .bool _) (v_assign il nf) ?_
  refine r_nil ?_
  refine a_ret ?_
  refine ret1 Tryz.results34 (by decide) (by decide) (Weak.of_eq (bool_eq ?_)) rfl Leaves.nil
  exact (decide_eq_false (fun h => by subst h; simp at ht9)).symm
 ·
  skip
  refine a_skip ?_
  refine a_seq ?_
  refine a_seq ?_
  refine a_region ?_
  refine rv (v := .rp _ _) (v_fieldAddr_rp fo56_1 il) ?_
  refine rv (v := .int _ _) (v_load_rp1 ta3 il rfl (fun _ => rfl) rfl) ?_
  refine rv (v := .rp _ _) (v_fieldAddr_rp fo56_1 il) ?_
  refine rv (v := .int _ _) (v_load_rp1 ta3 il rfl (fun _ => rfl) rfl) ?_
  refine rv (v := .bool _) (v_neq il il) ?_
  refine r_nil ?_
  refine a_cond rfl (fun ht14 => ?_) (fun ht14 => ?_)
  ·
   skip
   refine a_seq ?_
   refine a_region ?_
   refine rv (v := .bool _) (v_assign il nf) ?_
   refine r_nil ?_
   refine a_ret ?_
   refine ret1 Tryz.results34 (by decide) (by decide) (Weak.of_eq (bool_eq ?_)) rfl Leaves.nil
   exact (decide_eq_false (fun h => by subst h; simp at ht14)).symm
  ·
   skip
   refine a_skip ?_
   refine a_seq ?_
   refine a_seq ?_
   refine a_region ?_
   refine rv (v := .rp _ _) (v_fieldAddr_rp fo56_2 il) ?_
   refine rv (v := .int _ _) (v_load_rp1 ta3 il rfl (fun _ => rfl) rfl) ?_
   refine rv (v := .rp _ _) (v_fieldAddr_rp fo56_2 il) ?_
   refine rv (v := .int _ _) (v_load_rp1 ta3 il rfl (fun _ => rfl) rfl) ?_
   refine rv (v := .bool _) (v_neq il il) ?_
   refine r_nil ?_
   refine a_cond rfl (fun ht19 => ?_) (fun ht19 => ?_)
   ·
    skip
    refine a_seq ?_
    refine a_region ?_
    refine rv (v := .bool _) (v_assign il nf) ?_
    refine r_nil ?_
    refine a_ret ?_
    refine ret1 Tryz.results34 (by decide) (by decide) (Weak.of_eq (bool_eq ?_)) rfl Leaves.nil
    exact (decide_eq_false (fun h => by subst h; simp at ht19)).symm
   ·
    skip
    refine a_skip ?_
    refine a_seq ?_
    refine a_seq ?_
    refine a_region ?_
    refine rv (v := .rp _ _) (v_fieldAddr_rp fo56_3 il) ?_
    refine rv (v := .int _ _) (v_load_rp1 ta3 il rfl (fun _ => rfl) rfl) ?_
    refine rv (v := .rp _ _) (v_fieldAddr_rp fo56_3 il) ?_
    refine rv (v := .int _ _) (v_load_rp1 ta3 il rfl (fun _ => rfl) rfl) ?_
    refine rv (v := .bool _) (v_neq il il) ?_
    refine r_nil ?_
    refine a_cond rfl (fun ht24 => ?_) (fun ht24 => ?_)
    ·
     skip
     refine a_seq ?_
     refine a_region ?_
     refine rv (v := .bool _) (v_assign il nf) ?_
     refine r_nil ?_
     refine a_ret ?_
     refine ret1 Tryz.results34 (by decide) (by decide) (Weak.of_eq (bool_eq ?_)) rfl Leaves.nil
     exact (decide_eq_false (fun h => by subst h; simp at ht24)).symm
    ·
     skip
     refine a_skip ?_
     refine a_seq ?_
     refine a_region ?_
     refine rv (v := .bool _) (v_assign il nf) ?_
     refine r_nil ?_
     refine a_ret ?_
     refine ret1 Tryz.results34 (by decide) (by decide) (Weak.of_eq (bool_eq ?_)) rfl Leaves.nil
     exact (decide_eq_true (Prod.ext (by simpa using ht9) (Prod.ext (by simpa using ht14) (Prod.ext (by simpa using ht19) (by simpa using ht24))))).symm
theorem eqTNS_c (xs ys : List TN) (hl : (xs.length : Int) ≤ 9223372036854775807) (hl2 : (ys.length : Int) ≤ 9223372036854775807) : ACall Tryz.prog 10 [.sl (tncells xs) xs.length, .sl (tncells ys) ys.length] [] (.bool (decide (xs = ys))) [] := by
 refine ACall.intro Tryz.func10 rfl (N := 27) rfl (by decide) (by simp) ?_
 refine a_seq ?_
 refine a_region ?_
 refine rv (v := .bool _) (v_assign il nf) ?_
 refine r_nil ?_
 refine a_seq ?_
 refine a_seq ?_
 refine a_region ?_
 refine rv (v := .sl _ _) (v_move il nf) ?_
 refine rv (v := .int _ _) (v_len_sl sl27 il) ?_
 refine rv (v := .sl _ _) (v_move il nf) ?_
 refine rv (v := .int _ _) (v_len_sl sl27 il) ?_
 refine rv (v := .bool _) (v_neq il il) ?_
 refine r_nil ?_
 refine a_cond rfl (fun ht10 => ?_) (fun ht10 => ?_)
 ·
  skip
  refine a_seq ?_
  refine a_region ?_
  refine rv (v := .bool _) (v_assign il nf) ?_
  refine r_nil ?_
  refine a_ret ?_
  refine ret1 Tryz.results10 (by decide) (by decide) (Weak.of_eq (bool_eq ?_)) rfl Leaves.nil
  simp at ht10; exact (decide_eq_false (fun h => ht10 (by rw [h]))).symm
 ·
  skip
  refine a_skip ?_
  refine a_seq ?_
  refine a_seq ?_
  refine a_region ?_
  refine rv (v := .int _ _) (v_assign il nf) ?_
  refine r_nil ?_
  refine a_block ?_
  refine a_loop (X := Nat) (fun i => look [(0, .sl (tncells xs) xs.length), (1, .sl (tncells ys) ys.length), (5, .int .i64 ((i : Nat) : Int))]) (fun i => i ≤ xs.length ∧ xs.length = ys.length ∧ xs.take i = ys.take i) (fun i => xs.length - i) 0 (ent_look ⟨Weak.of_eq rfl, Weak.of_eq rfl, Weak.of_eq rfl, trivial⟩) ⟨Nat.zero_le _, by simp at ht10; omega, rfl⟩ (fun i hG => ?_)
  obtain ⟨g1, g2, g3⟩ := hG
  refine a_seq ?_
  refine a_seq ?_
  refine a_region ?_
  refine rv (v := .int _ _) (v_move il nf) ?_
  refine rv (v := .sl _ _) (v_move il nf) ?_
  refine rv (v := .int _ _) (v_len_sl sl27 il) ?_
  refine rv (v := .bool _) (v_lss il il) ?_
  refine r_nil ?_
  refine a_cond rfl (fun ht14 => ?_) (fun ht14 => ?_)
  ·
   skip
   refine a_skip ?_
   refine a_seq ?_
   refine a_block ?_
   refine a_seq ?_
   have hi : i < xs.length := (by simp at ht14; omega)
   refine a_region_any mixed (by kernel_rfl) ?_
   refine yv (v := .sl _ _) (v_move il nf) ?_
   refine yv (v := .int _ _) (v_move il nf) ?_
   refine yv (v := .pp _ _) (v_indexAddr_sl es27 il il (fun _ => ⟨by omega, by omega, tn_ne hi⟩)) ?_
   refine yv (v := .agg [.int .i64 (gn xs i).1, .int .i64 (gn xs i).2.1, .int .i64 (gn xs i).2.2.1, .int .i64 (gn xs i).2.2.2]) (v_load_ppa1 ta56 il rfl (fun _ => tn_four hi) rfl) ?_
   refine yv (v := .sl _ _) (v_move il nf) ?_
   refine yv (v := .int _ _) (v_move il nf) ?_
   refine yv (v := .pp _ _) (v_indexAddr_sl es27 il il (fun _ => ⟨by omega, by omega, tn_ne (xs := ys) (i := i) (by omega)⟩)) ?_
   refine yv (v := .agg [.int .i64 (gn ys i).1, .int .i64 (gn ys i).2.1, .int .i64 (gn ys i).2.2.1, .int .i64 (gn ys i).2.2.2]) (v_load_ppa1 ta56 il rfl (fun _ => tn_four (xs := ys) (by omega)) rfl) ?_
   refine y_new (v := .bool _) (q_call (vs := [.agg [.int _ _, .int _ _, .int _ _, .int _ _], .agg [.int _ _, .int _ _, .int _ _, .int _ _]]) (args := [.agg [.int .i64 _, .int .i64 _, .int .i64 _, .int .i64 _], .agg [.int .i64 _, .int .i64 _, .int .i64 _, .int .i64 _]]) hb34 ⟨.inl rfl, .inl rfl, trivial⟩ rfl (fun hA => eqTN_c (gn xs i) (gn ys i)) rfl rfl) rfl rfl (by decide) (by kernel_rfl) ?_
   refine yv (v := .bool _) (v_not il) ?_
   refine y_nil ?_
   refine a_cond rfl (fun ht26 => ?_) (fun ht26 => ?_)
   ·
    skip
    refine a_seq ?_
    refine a_region ?_
    refine rv (v := .bool _) (v_assign il nf) ?_
    refine r_nil ?_
    refine a_ret ?_
    refine ret1 Tryz.results10 (by decide) (by decide) (Weak.of_eq (bool_eq ?_)) rfl Leaves.nil
    simp at ht26; refine (decide_eq_false (fun h => ?_)).symm
    subst h
    simp at ht26
   ·
    skip
    refine a_skip ?_
    refine a_region ?_
    refine rv (v := .int _ _) (v_move il nf) ?_
    refine rv (v := .int _ _) (v_add il il (fun _ => by omega)) ?_
    refine rv (v := .int _ _) (v_assign il nf) ?_
    refine r_nil ?_
    refine ⟨i + 1, ent_look ⟨Weak.of_eq rfl, Weak.of_eq rfl, Weak.of_eq (int_eq (by omega)), trivial⟩, ⟨by omega, g2, gn_take hi (by omega) g3 (by simpa using ht26)⟩, by omega⟩
  ·
   skip
   refine a_exit ?_
   refine a_seq ?_
   refine a_region ?_
   refine rv (v := .bool _) (v_assign il nf) ?_
   refine r_nil ?_
   refine a_ret ?_
   refine ret1 Tryz.results10 (by decide) (by decide) (Weak.of_eq (bool_eq ?_)) rfl Leaves.nil
   simp at ht14; refine (decide_eq_true ?_).symm
   rw [List.take_of_length_le (by omega), List.take_of_length_le (by omega)] at g3; exact g3
end Go.Av
namespace Go.Av
open Go Go.Proofs Go.Sort
set_option maxRecDepth 10000
theorem hb66 : hasBody Tryz.prog 66 = true := by kernel_rfl
theorem hb70 : hasBody Tryz.prog 70 = true := by kernel_rfl
theorem iFal_c (vars : Int) (L : List (List Int)) (a : List Int) (hcl : ∀ i, i < L.length → clB vars (gl L i) = true) (hL : L.length ≤ 1048576) (ha : a.length ≤ 1048576) : ACall Tryz.prog 66 [.sl (sls L) L.length, .sl (icells a) a.length] [] (.osl 1 (icells (falP L a L.length)) (falP L a L.length).length none) [] := by
  refine ACall.intro Tryz.func66 rfl (N := 25) rfl (by decide) (by simp) ?_
  refine a_seq ?_
  refine a_region ?_
  refine rv (v := .nils) (v_assign il nf) ?_
  refine r_nil ?_
  refine a_seq ?_
  refine a_region ?_
  refine rv (v := .nils) (v_assign il nf) ?_
  refine r_nil ?_
  refine a_seq ?_
  refine a_seq ?_
  refine a_region ?_
  refine rv (v := .sl _ _) (v_move il nf) ?_
  refine rv (v := .int _ _) (v_len_sl sl22 il) ?_
  refine rv (v := .int _ _) (v_move il nf) ?_
  refine r_nil ?_
  refine a_block ?_
  refine a_pre (ent_nil (t := 5) (sz := 1) (cap := none) (.inl rfl) (fun _ h => by cases h)) ?_
  refine a_loop (X := Nat) (fun i => look [(1, .sl (icells a) a.length), (5, .osl 1 (icells (falP L a i)) (falP L a i).length none), (8, .sl (sls L) L.length), (9, .int .i64 (L.length : Int)), (10, .int .i64 ((i : Nat) : Int))]) (fun i => i ≤ L.length) (fun i => L.length - i) 0 (ent_look ⟨Weak.of_eq rfl, Weak.osl rfl rfl, Weak.of_eq rfl, Weak.of_eq rfl, Weak.of_eq rfl, trivial⟩) (Nat.zero_le _) (fun i hG => ?_)
  have hfl := falP_len L a i
  refine a_seq ?_
  refine a_region ?_
  refine rv (v := .bool _) (v_lss il il) ?_
  refine r_nil ?_
  refine a_seq ?_
  refine a_cond rfl (fun ht11 => ?_) (fun ht11 => ?_)
  ·
    skip
    refine a_skip ?_
    refine a_seq ?_
    refine a_block ?_
    refine a_seq ?_
    have hi : i < L.length := (by simp at ht11; omega)
    have hci := hcl i hi
    have hln := clB_len hci
    refine a_region ?_
    refine rv (v := .int _ _) (v_move il nf) ?_
    refine rv (v := .pp _ _) (v_indexAddr_sl es22 il il (fun _ => ⟨by omega, by omega, sls_ne hi⟩)) ?_
    refine rv (v := .sl (icells (gl L i)) (gl L i).length) (v_load_pp ta25 il (fun _ => by rw [Nat.mul_one]; exact sls_get hi) rfl) ?_
    refine rv (v := .int _ _) (v_assign il nf) ?_
    refine rv (v := .sl _ _) (v_assign il nf) ?_
    refine r_nil ?_
    refine a_seq ?_
    refine a_region ?_
    refine rv (v := .sl _ _) (v_move il nf) ?_
    refine rv (v := .sl _ _) (v_move il nf) ?_
    refine rn (v := .int _ _) (q_call (vs := [.sl _ _, .sl _ _]) (args := [.sl _ _, .sl _ _]) hb90 ⟨il, il, trivial⟩ rfl (fun hA => iClv_c (gl L i) a (clB_sm hci) (by omega) ha) rfl rfl) ?_
    refine rv (v := .bool _) (v_lss il il) ?_
    refine r_nil ?_
    refine a_cond rfl (fun ht18 => ?_) (fun ht18 => ?_)
    ·
      skip
      refine a_region ?_
      refine rv (v := .rsl _ _ _ _ _) (v_move il nf) ?_
      refine rv (v := .int _ _) (v_move il nf) ?_
      refine rn (v := .osl 1 (icells [(i : Int)]) 1 (some 1)) (q_sliceLit (n := 1) (parts := [(0, .tmp 20)]) lt25 rfl rfl rfl rfl) ?_
      refine r_pre (ent_reloc_sl (t := 19) rfl rfl) ?_
      refine r_step rfl (o_append rfl ap25 rfl (by decide) (by decide) rfl (src_lit (.inl rfl) rfl rfl (ic_pureL _)) (ic_cell _) (by rw [icells_length]; omega) (by omega)) ?_
      refine rv (v := .rsl _ _ _ _ _) (v_assign il nf) ?_
      refine r_pre (ent_reloc_sl (t := 5) rfl rfl) ?_
      refine r_nil ?_
      refine a_region ?_
      refine rv (v := .int _ _) (v_add il il (fun _ => by omega)) ?_
      refine rv (v := .int _ _) (v_move il nf) ?_
      refine r_nil ?_
      refine ⟨i + 1, ent_look ⟨Weak.of_eq rfl, Weak.osl (by rw [falP_succ, if_pos (by simpa using ht18), icells_append] <;> rfl) (by rw [falP_succ, if_pos (by simpa using ht18)]; simp), Weak.of_eq rfl, Weak.of_eq rfl, Weak.of_eq (int_eq (by omega)), trivial⟩, by omega, by omega⟩
    ·
      skip
      refine a_skip ?_
      refine a_region ?_
      refine rv (v := .int _ _) (v_add il il (fun _ => by omega)) ?_
      refine rv (v := .int _ _) (v_move il nf) ?_
      refine r_nil ?_
      refine ⟨i + 1, ent_look ⟨Weak.of_eq rfl, Weak.osl (by rw [falP_succ, if_neg (by simpa using ht18)]) (by rw [falP_succ, if_neg (by simpa using ht18)]), Weak.of_eq rfl, Weak.of_eq rfl, Weak.of_eq (int_eq (by omega)), trivial⟩, by omega, by omega⟩
  ·
    skip
    refine a_exit ?_
    refine a_seq ?_
    refine a_region ?_
    refine rv (v := .rsl _ _ _ _ _) (v_move il nf) ?_
    refine rv (v := .rsl _ _ _ _ _) (v_assign il nf) ?_
    refine r_pre (ent_reloc_sl (t := 4) rfl rfl) ?_
    refine r_nil ?_
    refine a_ret ?_
    refine ret1 Tryz.results66 (by decide) (by decide) (Weak.osl ?_ ?_) rfl Leaves.nil
    · simp at ht11; rw [show i = L.length by omega]
    · simp at ht11; rw [show i = L.length by omega]
end Go.Av
namespace Go.Av
open Go Go.Proofs Go.Sort
set_option maxRecDepth 10000
end Go.Av
namespace Go.Av
open Go Go.Proofs Go.Sort
set_option maxRecDepth 10000
theorem mkC_full {k : Int} {cs : List AV} {m : Nat} (h : cs.length = m) : mkC k cs m = icells (mkI k m) := by
 subst h
 simp [mkC, mkI, icells]
end Go.Av
namespace Go.Av
open Go Go.Proofs Go.Sort
set_option maxRecDepth 10000
end Go.Av
namespace Go.Av
open Go Go.Proofs Go.Sort
set_option maxRecDepth 10000
end Go.Av
namespace Go.Av
open Go Go.Proofs Go.Sort
set_option maxRecDepth 10000
end Go.Av
namespace Go.Av
open Go Go.Proofs Go.Sort
set_option maxRecDepth 10000
end Go.Av
namespace Go.Av
open Go Go.Proofs Go.Sort
set_option maxRecDepth 10000
end Go.Av
namespace Go.Av
open Go
section
variable {e : Ctx} {σ σ' : Sig} {val val' : Nat → Value} {w w' : World} {β β' : Place → Option (Nat × Nat)} {F F' : Nat → Prop} {ds : List Deferred}
theorem Inv.own_cells (h : Inv e σ val w β F) {q : Place} {b s : Nat} (ho : OwnAt σ q) (hb : β q = some (b, s)) : ∃ arr t fz, w.heap[b]? = some (.cells arr t fz) := by
  obtain ⟨x, hx, ho⟩ := ho
  obtain ⟨u, hu⟩ := (h.rep q.1).sub hx
  have hb' : β (q.1, [] ++ q.2) = some (b, s) := by simpa using hb
  cases x <;> simp [AV.isOwn] at ho <;> simp only [Rep] at hu
  · rcases hu with ⟨h0, _⟩ | ⟨_, b', _, _, _, h0, _, _, _, hh, _⟩
    · rw [h0] at hb'; cases hb'
    · rw [h0] at hb'; cases hb'; exact ⟨_, _, _, hh⟩
  · obtain ⟨_, b', _, _, h0, _, hh, _⟩ := hu
    rw [h0] at hb'; cases hb'; exact ⟨_, _, _, hh⟩
def nonCells : Obj → Prop
  | .cells .. => False
  | _ => True
theorem Inv.putObj (h : Inv e σ val w β F) {l : Nat} {o o' : Obj} (hl : w.heap[l]? = some o) (hc : nonCells o) (hc' : nonCells o') (hF : ¬ F l) (hk : e.w0.heap.size ≤ l) : Inv e σ val (w.putObj l o') β F := by
  have hlt : l < w.heap.size := (Array.getElem?_eq_some_iff.1 hl).1
  refine h.ext (fun b hb => World.putObj_heap_other (fun e => by subst e; exact hF hb)) (fun q b s hq hb => World.putObj_heap_other fun e => ?_) (fun b hb _ => World.putObj_heap_other (by omega)) (by simp) ?_
  · subst e
    obtain ⟨arr, t, fz, hh⟩ := h.own_cells hq hb
    rw [hl] at hh; cases hh; exact hc
  · refine ⟨h.tame.1, h.tame.2.1, fun b arr t fz hb hh => ?_⟩
    by_cases hbl : b = l
    · subst hbl
      rw [World.putObj_heap_same hlt] at hh
      cases hh; exact hc'.elim
    · rw [World.putObj_heap_other hbl] at hh
      exact h.tame.2.2 b arr t fz hb hh
end
def LND : Nat := 2000000
section
variable {N : Nat} {e : Ctx} {σ σ' : Sig} {w w' : World} {β β' : Place → Option (Nat × Nat)} {F F' : Nat → Prop} {gv : Nat → Value} {a a' : Act}
def BaseOk (N : Nat) (τ : Sig) : List (Nat × AV) → Prop
  | [] => True
  | (i, v) :: L => (i < N ∧ (pureV v = true ∨ v = refd (LND + i, []) (τ (LND + i)))) ∧ BaseOk N τ L
def keysFrom (N : Nat) : List (Nat × AV) → Bool
  | [] => true
  | (i, _) :: L => decide (N ≤ i) && keysFrom N L
end
end Go.Av
namespace Go.Av
open Go
def MkOk (e : Ctx) (ds : List Deferred) (w : World) (F : Nat → Prop) : Prop :=
  ds = [] ∨ ∃ D, ds = [{ target := .collected D, args := #[] }] ∧ w.heap[D]? = some (.deferred (some [])) ∧ e.w0.heap.size ≤ D ∧ ¬ F D
structure AllM (N : Nat) (gv : Nat → Value) (e : Ctx) (σ : Sig) (a : Act) (w : World) : Prop where
  size : a.tmps.size = N
  inv : ∃ β F, MkOk e a.defers w F ∧ Inv e σ (valOf N gv a) w β F
def BCode (P : Program) (N : Nat) (m : Bool) (c : Code) (σ : Sig) (Φ : Exit → Sig → Prop) : Prop :=
  ∀ (gv : Nat → Value) (e : Ctx) (a : Act) (w : World), (m = false → a.defers = []) → AllM N gv e σ a w → ∀ Q : Exit → Act → World → Prop, (∀ x a' w' σ', Φ x σ' → AllM N gv e σ' a' w' → Q x a' w') → c.wp P Q a w
section
variable {P : Program} {N : Nat} {m : Bool} {σ σ' : Sig} {Φ : Exit → Sig → Prop} {c c' : Code}
theorem BCall.intro {f : FuncId} {fn : Func} {args objs objs2 : List AV} {res : AV} (hf : P.funcs[f]? = some fn) (hb : fn.body = some c) (hN : fn.ntmps = N) (hNI : N < INH) (ha : args.length ≤ N)
    (h : BCode P N false c (argSig args objs) (fun x s => match x with | .normal => Returns P fn N s res objs2 | .ret => Returns P fn N s res objs2 | _ => False)) : ACall P f args objs res objs2 := by
  intro e vs val w β F hl hval hi
  refine (callsIn_wide (n := 1)).1 (callsIn_of_wp_marks hf hb trivial (wpIn_wide.2 ?_))
  have hsz : (vs.toArray ++ Array.replicate (fn.ntmps - vs.toArray.size) undef).size = N := by simp [hN]; omega
  refine h (fun i => val i) e _ w (fun _ => rfl) ⟨hsz, β, F, .inl rfl, ?_⟩ _ fun x a' w' s hx ha' => ?_
  · refine ⟨fun i => ?_, hi.disj, hi.sep, hi.fr, hi.kept, hi.grow, hi.tame⟩
    by_cases hlt : i < vs.length
    · have := hi.rep i
      rw [hval i hlt] at this
      have e1 : valOf N (fun i => val i) { tmps := vs.toArray ++ Array.replicate (fn.ntmps - vs.toArray.size) undef, defers := [] } i = vs.getD i undef := by
        have : i < N := by omega
        simp only [valOf, this, if_true]
        rw [Array.getD_eq_getD_getElem?, Array.getElem?_append_left (by simpa using hlt)]
        simp
      rw [e1]; exact this
    · by_cases hN' : i < N
      · have : argSig args objs i = .undef := by
          have h1 : i < INH := by omega
          have h2 : args[i]? = none := List.getElem?_eq_none (by omega)
          simp [argSig, h1, h2]
        rw [this]; simp [Rep]
      · have := hi.rep i
        simpa [valOf, hN'] using this
  · have key : ∀ (_ : Returns P fn N s res objs2), LeavesInM Fence.wide 1 P fn a'.tmps (fun en w' => ∃ v β' F', en = .returned v ∧ Inv e (argSig [res] objs2) (upd val 0 v) w' β' F') a'.defers .returning w' := by
      intro hret
      obtain ⟨hsz', β', F', hk, hi'⟩ := ha'
      rcases hk with hk | ⟨D, h1, h2, h3, h4⟩
      · obtain ⟨v, hr, β'', F'', hi''⟩ := hret (fun i => val i) { e with ds := [] } a' w' ⟨hk, hsz', β', F', ⟨hi'.rep, hi'.disj, hi'.sep, hi'.fr, hi'.kept, hi'.grow, hi'.tame⟩⟩
        rw [hk]
        exact ⟨v, hr, v, β'', F'', rfl, ⟨hi''.rep, hi''.disj, hi''.sep, hi''.fr, hi''.kept, hi''.grow, hi''.tame⟩⟩
      · rw [h1]
        have hi2 : Inv e s (valOf N (fun i => val i) a') (w'.putObj D (.deferred none)) β' F' := hi'.putObj h2 trivial trivial h4 h3
        obtain ⟨v, hr, β'', F'', hi''⟩ := hret (fun i => val i) { e with ds := a'.defers } a' _ ⟨rfl, hsz', β', F', ⟨hi2.rep, hi2.disj, hi2.sep, hi2.fr, hi2.kept, hi2.grow, hi2.tame⟩⟩
        refine ⟨by simp, .inl ⟨D, _, rfl, run_takeDeferred h2, ?_⟩⟩
        exact ⟨v, hr, v, β'', F'', rfl, ⟨hi''.rep, hi''.disj, hi''.sep, hi''.fr, hi''.kept, hi''.grow, hi''.tame⟩⟩
    cases x <;> simp only at hx
    · exact key hx
    · exact key hx
end
end Go.Av
namespace Go.Av
open Go
def NrAll (τ : Sig) : List Nat → Prop
 | [] => True
 | s :: S => noRef (τ (LND + s)) = true ∧ NrAll τ S
structure LpOk (N : Nat) (S : List Nat) (LB LP : List (Nat × AV)) : Prop where
 keys : keysFrom N LP = true
 base : BaseOk N (look LP) LB
 nr : NrAll (look LP) S
end Go.Av
namespace Go.Av
open Go Go.Sort
theorem falP_fidx {L : List (List Int)} {a : List Int} : ∀ (n : Nat), (falP L a n = [] ∧ ∀ c, c < n → ¬ cval (gl L c) a < 0) ∨ ∃ c : Nat, c < n ∧ cval (gl L c) a < 0 ∧ (∀ d, d < c → ¬ cval (gl L d) a < 0) ∧ gd (falP L a n) 0 = c ∧ 0 < (falP L a n).length
  | 0 => .inl ⟨rfl, fun c h => by omega⟩
  | n + 1 => by
    rcases falP_fidx (L := L) (a := a) n with ⟨h1, h2⟩ | ⟨c, h1, h2, h3, h4, h5⟩
    · by_cases h : cval (gl L n) a < 0
      · refine .inr ⟨n, by omega, h, h2, ?_, ?_⟩
        · rw [falP_succ, if_pos h, h1]; rfl
        · rw [falP_succ, if_pos h, h1]; simp
      · refine .inl ⟨by rw [falP_succ, if_neg h, h1], fun c hc => ?_⟩
        rcases Nat.lt_or_ge c n with hlt | hge
        · exact h2 c hlt
        · obtain rfl : c = n := by omega
          exact h
    · refine .inr ⟨c, by omega, h2, h3, ?_, ?_⟩
      · rw [falP_succ]; split
        · unfold gd at h4 ⊢; rw [List.getElem?_append_left h5]; exact h4
        · exact h4
      · rw [falP_succ]; split
        · simp
        · exact h5
end Go.Av
namespace Go.Av
open Go
set_option maxRecDepth 10000
def AskOk (vars : Int) (ask : List Int → Int) : Prop := ∀ a, clB vars a = true → ask a = 0 ∨ (1 ≤ ask a ∧ ask a ≤ vars ∧ ¬ ask a ∈ a ∧ ¬ -(ask a) ∈ a)
theorem ask_new {vars : Int} {ask : List Int → Int} {a : List Int} (h : AskOk vars ask) (hc : clB vars a = true) (h0 : ask a ≠ 0) :
    (litB vars (-(ask a)) = true ∧ litB vars (ask a) = true) ∧ (clB vars (setLit a (-(ask a))) = true ∧ (setLit a (-(ask a))).length = a.length + 1) ∧ (clB vars (setLit a (ask a)) = true ∧ (setLit a (ask a)).length = a.length + 1) ∧ 1 ≤ ask a ∧ ask a ≤ vars := by
  obtain ⟨h1, h2, h3, h4⟩ := (h a hc).resolve_left h0
  have hl : litB vars (ask a) = true := litB_spec.2 ⟨by omega, by omega⟩
  have hn : litB vars (-(ask a)) = true := litB_spec.2 ⟨by omega, by omega⟩
  exact ⟨⟨hn, hl⟩, set_new hc hn h4 (by rwa [Int.neg_neg]), set_new hc hl h3 h4, h1, h2⟩
def grA (xs : List TN) (x : TN) : Bool × List TN := (decide ((xs.length : Int) + 1 ≤ 199), xs ++ [x])
def grI (L : List (List Int)) (ask : List Int → Int) : Nat → List Int → List TN → Bool × List TN
  | 0, _, xs => (false, xs)
  | d + 1, a, xs =>
    if 0 < (falP L a L.length).length then grA xs (0, 0, 0, gd (falP L a L.length) 0)
    else if ask a = 0 then (false, xs)
    else if (grI L ask d (setLit a (-(ask a))) xs).1 = false then (false, (grI L ask d (setLit a (-(ask a))) xs).2)
    else if (grI L ask d (setLit a (ask a)) (grI L ask d (setLit a (-(ask a))) xs).2).1 = false then (false, (grI L ask d (setLit a (ask a)) (grI L ask d (setLit a (-(ask a))) xs).2).2)
    else grA (grI L ask d (setLit a (ask a)) (grI L ask d (setLit a (-(ask a))) xs).2).2 (ask a, ((grI L ask d (setLit a (-(ask a))) xs).2.length : Int) - 1, ((grI L ask d (setLit a (ask a)) (grI L ask d (setLit a (-(ask a))) xs).2).2.length : Int) - 1, 0)
section
variable {L : List (List Int)} {ask : List Int → Int} {d : Nat} {a : List Int} {xs ys zs : List TN}
theorem grI_leaf (h : 0 < (falP L a L.length).length) : grI L ask (d + 1) a xs = grA xs (0, 0, 0, gd (falP L a L.length) 0) := by rw [grI, if_pos h]
theorem grI_none (h : ¬ 0 < (falP L a L.length).length) (h0 : ask a = 0) : grI L ask (d + 1) a xs = (false, xs) := by rw [grI, if_neg h, if_pos h0]
theorem grI_low (h : ¬ 0 < (falP L a L.length).length) (h0 : ask a ≠ 0) (h1 : grI L ask d (setLit a (-(ask a))) xs = (false, ys)) : grI L ask (d + 1) a xs = (false, ys) := by
  rw [grI, if_neg h, if_neg h0, h1, if_pos rfl]
theorem grI_high (h : ¬ 0 < (falP L a L.length).length) (h0 : ask a ≠ 0) (h1 : grI L ask d (setLit a (-(ask a))) xs = (true, ys)) (h2 : grI L ask d (setLit a (ask a)) ys = (false, zs)) : grI L ask (d + 1) a xs = (false, zs) := by
  rw [grI, if_neg h, if_neg h0, h1, if_neg (by simp), h2, if_pos rfl]
theorem grI_both (h : ¬ 0 < (falP L a L.length).length) (h0 : ask a ≠ 0) (h1 : grI L ask d (setLit a (-(ask a))) xs = (true, ys)) (h2 : grI L ask d (setLit a (ask a)) ys = (true, zs)) :
    grI L ask (d + 1) a xs = grA zs (ask a, (ys.length : Int) - 1, (zs.length : Int) - 1, 0) := by
  rw [grI, if_neg h, if_neg h0, h1, if_neg (by simp), h2, if_neg (by simp)]
end
theorem grA_fst (xs : List TN) (x : TN) : (grA xs x).1 = decide ((xs.length : Int) + 1 ≤ 199) := by simp only [grA]
theorem grA_snd (xs : List TN) (x : TN) : (grA xs x).2 = xs ++ [x] := by simp only [grA]
theorem grA_len (xs : List TN) (x : TN) : (grA xs x).2.length = xs.length + 1 ∧ ((grA xs x).1 = true → xs.length + 1 ≤ 199) := by
  rw [grA_fst, grA_snd, List.length_append, decide_eq_true_iff]
  exact ⟨rfl, fun h => by omega⟩
theorem grI_ways (L : List (List Int)) (ask : List Int → Int) (d : Nat) (a : List Int) (xs : List TN) :
    (0 < (falP L a L.length).length) ∨ (¬ 0 < (falP L a L.length).length ∧ (ask a = 0 ∨ (ask a ≠ 0 ∧ ((∃ ys, grI L ask d (setLit a (-(ask a))) xs = (false, ys)) ∨ ∃ ys, grI L ask d (setLit a (-(ask a))) xs = (true, ys) ∧
      ((∃ zs, grI L ask d (setLit a (ask a)) ys = (false, zs)) ∨ ∃ zs, grI L ask d (setLit a (ask a)) ys = (true, zs)))))) := by
  by_cases h : 0 < (falP L a L.length).length
  · exact .inl h
  · refine .inr ⟨h, ?_⟩
    by_cases h0 : ask a = 0
    · exact .inl h0
    · refine .inr ⟨h0, ?_⟩
      cases h1 : grI L ask d (setLit a (-(ask a))) xs with
      | mk b ys =>
        cases b with
        | false => exact .inl ⟨ys, rfl⟩
        | true =>
          refine .inr ⟨ys, rfl, ?_⟩
          cases h2 : grI L ask d (setLit a (ask a)) ys with
          | mk b zs =>
            cases b with
            | false => exact .inl ⟨zs, rfl⟩
            | true => exact .inr ⟨zs, rfl⟩
theorem grI_len (L : List (List Int)) (ask : List Int → Int) : ∀ (d : Nat) (a : List Int) (xs : List TN), xs.length ≤ 199 →
    (grI L ask d a xs).2.length ≤ 200 ∧ ((grI L ask d a xs).1 = true → (grI L ask d a xs).2.length ≤ 199 ∧ 0 < (grI L ask d a xs).2.length)
  | 0, a, xs, h => by
    refine ⟨?_, fun h9 => ?_⟩
    · show xs.length ≤ 200; omega
    · exact absurd h9 (by show ¬ (false = true); simp)
  | d + 1, a, xs, h => by
    have key : ∀ (ws : List TN) (x : TN), ws.length ≤ 199 → (grA ws x).2.length ≤ 200 ∧ ((grA ws x).1 = true → (grA ws x).2.length ≤ 199 ∧ 0 < (grA ws x).2.length) := fun ws x hw => by
      obtain ⟨h1, h2⟩ := grA_len ws x
      exact ⟨by omega, fun h3 => by have := h2 h3; omega⟩
    rcases grI_ways L ask d a xs with h1 | ⟨h1, h2 | ⟨h2, ⟨ys, h3⟩ | ⟨ys, h3, ⟨zs, h4⟩ | ⟨zs, h4⟩⟩⟩⟩
    · rw [grI_leaf h1]; exact key _ _ h
    · rw [grI_none h1 h2]; exact ⟨by show xs.length ≤ 200; omega, fun h9 => by cases h9⟩
    · have := grI_len L ask d (setLit a (-(ask a))) xs h
      rw [h3] at this
      rw [grI_low h1 h2 h3]; exact ⟨this.1, fun h9 => by cases h9⟩
    · have g1 := grI_len L ask d (setLit a (-(ask a))) xs h
      rw [h3] at g1
      have g2 := grI_len L ask d (setLit a (ask a)) ys (g1.2 rfl).1
      rw [h4] at g2
      rw [grI_high h1 h2 h3 h4]; exact ⟨g2.1, fun h9 => by cases h9⟩
    · have g1 := grI_len L ask d (setLit a (-(ask a))) xs h
      rw [h3] at g1
      have g2 := grI_len L ask d (setLit a (ask a)) ys (g1.2 rfl).1
      rw [h4] at g2
      rw [grI_both h1 h2 h3 h4]; exact key _ _ (g2.2 rfl).1
section
variable {L : List (List Int)} {ask : List Int → Int} {d : Nat} {a : List Int} {xs : List TN}
theorem grI_leaf2 (h : 0 < (falP L a L.length).length) : (grI L ask (d + 1) a xs).1 = decide ((xs.length : Int) + 1 ≤ 199) ∧ (grI L ask (d + 1) a xs).2 = xs ++ [(0, 0, 0, gd (falP L a L.length) 0)] := by
  rw [grI_leaf h, grA_fst, grA_snd]; exact ⟨rfl, rfl⟩
theorem grI_none2 (h : ¬ 0 < (falP L a L.length).length) (h0 : ask a = 0) : (grI L ask (d + 1) a xs).1 = false ∧ (grI L ask (d + 1) a xs).2 = xs := by
  rw [grI_none h h0]; exact ⟨rfl, rfl⟩
theorem grI_low2 (h : ¬ 0 < (falP L a L.length).length) (h0 : ask a ≠ 0) (h1 : (grI L ask d (setLit a (-(ask a))) xs).1 = false) : (grI L ask (d + 1) a xs).1 = false ∧ (grI L ask (d + 1) a xs).2 = (grI L ask d (setLit a (-(ask a))) xs).2 := by
  rw [grI, if_neg h, if_neg h0, if_pos h1]; exact ⟨rfl, rfl⟩
theorem grI_high2 (h : ¬ 0 < (falP L a L.length).length) (h0 : ask a ≠ 0) (h1 : (grI L ask d (setLit a (-(ask a))) xs).1 = true) (h2 : (grI L ask d (setLit a (ask a)) (grI L ask d (setLit a (-(ask a))) xs).2).1 = false) :
    (grI L ask (d + 1) a xs).1 = false ∧ (grI L ask (d + 1) a xs).2 = (grI L ask d (setLit a (ask a)) (grI L ask d (setLit a (-(ask a))) xs).2).2 := by
  rw [grI, if_neg h, if_neg h0, if_neg (by simp [h1]), if_pos h2]; exact ⟨rfl, rfl⟩
theorem grI_both2 (h : ¬ 0 < (falP L a L.length).length) (h0 : ask a ≠ 0) (h1 : (grI L ask d (setLit a (-(ask a))) xs).1 = true) (h2 : (grI L ask d (setLit a (ask a)) (grI L ask d (setLit a (-(ask a))) xs).2).1 = true) :
    (grI L ask (d + 1) a xs).1 = decide (((grI L ask d (setLit a (ask a)) (grI L ask d (setLit a (-(ask a))) xs).2).2.length : Int) + 1 ≤ 199) ∧ (grI L ask (d + 1) a xs).2 = (grI L ask d (setLit a (ask a)) (grI L ask d (setLit a (-(ask a))) xs).2).2 ++
      [(ask a, ((grI L ask d (setLit a (-(ask a))) xs).2.length : Int) - 1, ((grI L ask d (setLit a (ask a)) (grI L ask d (setLit a (-(ask a))) xs).2).2.length : Int) - 1, 0)] := by
  rw [grI, if_neg h, if_neg h0, if_neg (by simp [h1]), if_neg (by simp [h2]), grA_fst, grA_snd]; exact ⟨rfl, rfl⟩
end
def gwB (L : List (List Int)) (ask : List Int → Int) : Bool := (grI L ask 13 [] []).1
def gwR (L : List (List Int)) (ask : List Int → Int) : List TN := if gwB L ask then (grI L ask 13 [] []).2 else []
theorem gwR_len (L : List (List Int)) (ask : List Int → Int) : (gwR L ask).length ≤ 200 := by
  unfold gwR; split
  · exact (grI_len L ask 13 [] [] (by simp)).1
  · simp
theorem gobj_nr {vars : Int} {L : List (List Int)} {xs : List TN} {f n : Nat} {cs : List AV} (h : pureL cs = true) : noRef (.op [.int .i64 vars, .sl (sls L) L.length, .osl 4 (tncells xs) n none, .fn f [] cs]) = true := by
  simp [noRef, noRefL, tn_noRef, noRefL_pure cs h]
end Go.Av
namespace Go.Av
open Go Go.Proofs Go.Sort
set_option maxRecDepth 10000
theorem ap27 : appTy Tryz.prog 27 = some (4, 32) := by kernel_rfl
theorem fo75_1 : fieldOff Tryz.prog 75 1 = some 2 := by kernel_rfl
theorem lt27 : litTy Tryz.prog 27 = some (4, [.int .i64 0, .int .i64 0, .int .i64 0, .int .i64 0]) := by kernel_rfl
theorem ta27 : tyAgg Tryz.prog 27 = some (false, 1) := by kernel_rfl
theorem gadd_c (vars : Int) (L : List (List Int)) (f : Nat) (cs : List AV) (hcs : pureL cs = true) (xs : List TN) (x : TN) (hl : xs.length ≤ 199) : ACall Tryz.prog 85 [.rp (INH, []) 0, .agg [.int .i64 x.1, .int .i64 x.2.1, .int .i64 x.2.2.1, .int .i64 x.2.2.2]] [.op [.int .i64 vars, .sl (sls L) L.length, .osl 4 (tncells xs) xs.length none, .fn f [] cs]] (.bool (decide ((xs.length : Int) + 1 ≤ 199))) [.op [.int .i64 vars, .sl (sls L) L.length, .osl 4 (tncells (xs ++ [x])) (xs ++ [x]).length none, .fn f [] cs]] := by
 refine ACall.intro Tryz.func85 rfl (N := 21) rfl (by decide) (by simp) ?_
 refine a_seq ?_
 refine a_region ?_
 refine rn (v := .op [.int _ _, .int _ _, .int _ _, .int _ _]) (q_box il rfl rfl) ?_
 refine rv (v := .bool _) (v_assign il nf) ?_
 refine r_nil ?_
 refine a_seq ?_
 refine a_region_z (n := 8) [[(5, true)], [(6, true)], [(7, true)], [(8, true)], [(9, true)], [(10, true)], [(11, true)], [(INH, false), (9, true), (11, false), (12, true)]] mixed (by kernel_rfl) ?_
 refine z_val (v := .rp _ _) (v_move il nf) rfl rfl (by decide) rfl (by kernel_rfl) ?_
 refine z_val (v := .rp _ _) (v_move il nf) rfl rfl (by decide) rfl (by kernel_rfl) ?_
 refine z_val (v := .rp _ _) (v_nilCheck il rfl) rfl rfl (by decide) rfl (by kernel_rfl) ?_
 refine z_val (v := .rp _ _) (v_fieldAddr_rp fo75_1 il) rfl rfl (by decide) rfl (by kernel_rfl) ?_
 refine z_val (v := .rsl _ _ _ _ _) (v_load_rp (c := .osl _ _ _ _) ta27 il rfl (fun _ => rfl)) rfl rfl (by decide) rfl (by kernel_rfl) ?_
 refine z_val (v := .agg [.int _ _, .int _ _, .int _ _, .int _ _]) (v_load_rpa1 ta56 il rfl rfl (fun _ => rfl) rfl) rfl rfl (by decide) rfl (by kernel_rfl) ?_
 refine z_new (v := .osl _ _ _ _) (q_sliceLit (n := 1) (parts := [(0, .tmp 10)]) lt27 rfl rfl rfl rfl) rfl rfl (by decide) rfl (by kernel_rfl) ?_
 refine z_append_own_ref rfl rfl ap27 rfl (by decide) (by decide) (by decide) (by decide) (by decide) (by decide) (by decide) (by decide) (by decide) rfl rfl rfl rfl rfl rfl (by rw [tncells_length]) rfl (by omega) rfl (by kernel_rfl) ?_
 refine z_nil ?_
 refine r_pre (ent_eq (t := 12) (v' := .osl 4 (tncells (xs ++ [x])) (xs ++ [x]).length none) (Weak.osl (by rw [tn_append]; rfl) (by simp))) ?_
 refine rv (v := .rp _ _) (v_nilCheck il rfl) ?_
 refine rv (v := .rp _ _) (v_fieldAddr_rp fo75_1 il) ?_
 refine r_step rfl (o_store_keep (t8 := 0) (v := .osl _ _ _ _) (y' := .op [.int _ _, .sl _ _, .osl _ _ _ _, .fn _ _ _]) rfl rfl ta27 (.inl rfl) (by decide) rfl (by decide) rfl (by simp [cellsOf, noRefL, noRef, tn_noRef]) rfl rfl rfl rfl rfl (Nat.le_of_ble_eq_true rfl) rfl rfl rfl rfl rfl) ?_
 refine r_nil ?_
 refine a_seq ?_
 refine a_region ?_
 refine rv (v := .rp _ _) (v_move il nf) ?_
 refine rv (v := .rp _ _) (v_nilCheck il rfl) ?_
 refine rv (v := .rp _ _) (v_fieldAddr_rp fo75_1 il) ?_
 refine rv (v := .rsl _ _ _ _ _) (v_load_rp (c := .osl _ _ _ _) ta27 il rfl (fun _ => rfl)) ?_
 refine rv (v := .int _ _) (v_len_rsl sl27 il) ?_
 refine rv (v := .bool _) (v_leq il il) ?_
 refine rv (v := .bool _) (v_assign il nf) ?_
 refine r_nil ?_
 refine a_ret ?_
 refine ret1 Tryz.results85 (by decide) (by decide) (Weak.of_eq (bool_eq ?_)) rfl (Leaves.one (Weak.of_eq rfl) rfl)
 rw [List.length_append]; rfl
end Go.Av
namespace Go.Av
open Go
section
variable {P : Program} {e : Ctx} {σ τ : Sig} {val : Nat → Value} {w : World} {β : Place → Option (Nat × Nat)} {F : Nat → Prop}
theorem callIO_coreG {f : FuncId} {args vs' : List AV} {res x0 x1 : AV} {q : Place} {vs : List Value} {d : Nat} (hc : ACall P f args [x0] res [x1]) (hr : noRef res = true) (hr1 : noRef x1 = true)
    (h : Inv e σ val w β F) (hz : node (σ q.1) q.2 = some x0) (hr0 : refs x0 = []) (hfr : ∀ b arr t fz, (∃ r y s, node x0 r = some y ∧ y.isOwn = true ∧ β (q.1, q.2 ++ r) = some (b, s)) → w.heap[b]? = some (.cells arr t fz) → fz = (0, 0))
    (hl : vs.length = args.length) (ha : RepL (passB q β) F w args (0, []) 0 vs) (hq2 : q.2 = []) (hai : ∀ c ∈ args, NoOwn c) (hlen : args.length < INH)
    (hds : d ≠ q.1) (hrs : ∀ p ∈ refs (σ q.1), p.1 ≠ q.1 ∧ p.1 ≠ d)
    (hτ : ∀ i, i ≠ q.1 → τ i = purgeV d (σ i) ∨ τ i = .undef)
    (hτr : ∀ i, i ≠ q.1 → ∀ p ∈ refs (τ i), p.1 = q.1 → p = q ∧ ∃ off, τ i = .rp q off) (hop0 : ∃ cs, x0 = .op cs) (hop1 : ∃ cs, x1 = .op cs) :
    Calls P f vs.toArray w fun en w' => ∃ v β' F2, en = .returned v ∧ Inv e (upd (upd τ q.1 (setNode (σ q.1) q.2 x1)) d res) (upd val d v) w' β' F2 := by
  obtain ⟨u, hu, hue⟩ : ∃ u, Rep β F w x0 (q.1, [] ++ q.2) u ∧ val q.1 = u := by
    have hx : σ q.1 = x0 := by rw [hq2] at hz; simpa [node] using hz
    exact ⟨val q.1, by rw [hq2, ← hx]; exact h.rep q.1, rfl⟩
  simp only [List.nil_append] at hu
  have hh := h.hole hz
  let inh : Nat → Prop := fun b => ∃ r y s, node x0 r = some y ∧ y.isOwn = true ∧ β (q.1, q.2 ++ r) = some (b, s)
  let G : Nat → Prop := F
  -- what is handed over is owned by nothing else
  have inh_own : ∀ {b}, inh b → ∃ p s, OwnAt σ p ∧ β p = some (b, s) ∧ (p.1 = q.1 ∧ q.2 <+: p.2) := fun {b} ⟨r, y, s, hy, ho, hb⟩ => ⟨(q.1, q.2 ++ r), s, ownAt_sub hz hy ho, hb, rfl, List.prefix_append _ _⟩
  have inh_not : ∀ {b}, inh b → ¬ F b ∧ (e.w0.heap.size ≤ b ∨ e.inh b) ∧ ∀ p s, OwnAt (hole σ q) p → β p ≠ some (b, s) := fun {b} hb => by
    obtain ⟨p, s, hp, hpb, hpq⟩ := inh_own hb
    refine ⟨(h.sep p b s hp hpb).1, (h.sep p b s hp hpb).2, fun p' s' hp' hb' => ?_⟩
    obtain ⟨h1, h2⟩ := ownAt_hole hz hp'
    have := h.disj p p' b s s' hp h1 hpb hb'
    subst this
    exact h2 hpq
  have hinv : Inv ⟨w, inh, G, []⟩ (argSig args [x0]) (fun i => if i = INH then u else vs.getD i undef) w (passB q β) G := by
    have own : ∀ {p}, OwnAt (argSig args [x0]) p → p.1 = INH ∧ ∃ y, node x0 p.2 = some y ∧ y.isOwn = true := by
      rintro ⟨i, r⟩ ⟨y, hy, ho⟩
      dsimp only at hy
      unfold argSig at hy
      split at hy
      · cases hx : args[i]? with
        | none => rw [hx] at hy; exact (undef_node hy ho).elim
        | some c =>
          rw [hx] at hy
          rw [hai c (List.mem_of_getElem? hx) r y hy] at ho; cases ho
      · rename_i hi
        cases hj : i - INH with
        | zero =>
          rw [hj] at hy
          exact ⟨by dsimp only; omega, y, by simpa using hy, ho⟩
        | succ k => rw [hj] at hy; simp at hy; exact (undef_node hy ho).elim
    refine ⟨fun i => ?_, fun p p' b s s' hp hp' hb hb' => ?_, fun p b s hp hb => ?_, fun b hb => ⟨?_, fun _ => hb⟩, fun _ _ _ => rfl, Nat.le_refl _, Tame.refl' w (fun b arr t fz hb hh => hfr b arr t fz hb hh)⟩
    · by_cases hi : i = INH
      · subst hi
        rw [argSig_inh']
        simp only [if_true]
        exact hu.tr _ (fun b hb => ⟨hb, rfl⟩) (fun r y _ _ => ⟨by simp [passB], fun _ _ _ => rfl⟩) (fun p hp => by rw [hr0] at hp; cases hp)
      · simp only [hi, if_false]
        unfold argSig
        split
        · cases hx : args[i]? with
          | none => simp [Rep]
          | some c =>
            obtain ⟨u', hu', hru⟩ := RepL_iff.1 ha i c hx
            rw [List.getD_eq_getElem?_getD, hu']
            exact hru.tr _ (fun b hb => ⟨hb, rfl⟩) (fun r y hy ho => by rw [hai c (List.mem_of_getElem? hx) r y hy] at ho; cases ho) (fun _ _ => rfl)
        · have : ([x0] : List AV)[i - INH]? = none := List.getElem?_eq_none (by simp; omega)
          rw [this]; simp [Rep]
    · obtain ⟨h1, y, hy, ho⟩ := own hp
      obtain ⟨h1', y', hy', ho'⟩ := own hp'
      simp only [passB, h1, h1', if_true] at hb hb'
      have := h.disj _ _ b s s' (ownAt_sub hz hy ho) (ownAt_sub hz hy' ho') hb hb'
      simp only [Prod.mk.injEq, true_and] at this
      exact Prod.ext (h1.trans h1'.symm) (List.append_cancel_left this)
    · obtain ⟨h1, y, hy, ho⟩ := own hp
      simp only [passB, h1, if_true] at hb
      have hi : inh b := ⟨p.2, y, s, hy, ho, hb⟩
      exact ⟨fun hG => (inh_not hi).1 hG, .inr hi⟩
    · exact (h.fr b hb).1
  refine (hc _ vs _ w _ _ hl (fun i hi => by
    have : i ≠ INH := by omega
    simp [this]) hinv).mono fun en w' ⟨v, β', F', he, hi⟩ => ⟨v, ?_⟩
  have hkept : ∀ b, b < w.heap.size → ¬ inh b → w'.heap[b]? = w.heap[b]? := fun b hb hnb => hi.kept b hb hnb
  have hgrow : w.heap.size ≤ w'.heap.size := hi.grow
  have oldnot : ∀ {p b s}, OwnAt (hole σ q) p → β p = some (b, s) → ¬ inh b := fun {p b s} hp hb hi => (inh_not hi).2.2 p s hp hb
  have hF' : ∀ b, F' b → F b ∨ w.heap.size ≤ b := fun b hb => by
    rcases Nat.lt_or_ge b w.heap.size with hlt | hge
    · exact .inl ((hi.fr b hb).2 hlt)
    · exact .inr hge
  let F2 : Nat → Prop := fun b => F b ∨ F' b
  have hH0 : Inv e (hole σ q) val w' β F := hh.ext (fun b hb => hkept b (h.fr b hb).1 (fun hi => (inh_not hi).1 hb)) (fun p b s hp hb => hkept b (hh.own_lt hp hb) (oldnot hp hb))
    (fun b hb hni => hkept b (Nat.lt_of_lt_of_le hb h.grow) (fun hi => by
      rcases (inh_not hi).2.1 with h1 | h1
      · omega
      · exact hni h1)) hgrow (h.tame.trans' hi.tame hkept)
  have hH : Inv e (hole σ q) val w' β F2 := hH0.moreF (fun b hb => .inl hb) (fun b hb => by
    rcases hb with hb | hb
    · exact hH0.fr b hb
    · refine ⟨(hi.fr b hb).1, fun hlt => ?_⟩
      rcases hF' b hb with hb | hge
      · exact (h.fr b hb).2 hlt
      · have := h.grow; omega) (fun p b s hp hb hF => by
    rcases hF with hF | hF
    · exact (hH0.sep p b s hp hb).1 hF
    · rcases hF' b hF with hF | hge
      · exact (hH0.sep p b s hp hb).1 hF
      · have := hh.own_lt hp hb; omega)
  have hres : argSig [res] [x1] 0 = res := argSig_zero _ _
  have hobj : argSig [res] [x1] INH = x1 := argSig_inh _ _
  have newb : ∀ {p b s}, OwnAt (argSig [res] [x1]) p → β' p = some (b, s) → ¬ F2 b ∧ (e.w0.heap.size ≤ b ∨ e.inh b) ∧ ∀ p' s', OwnAt (hole σ q) p' → β p' ≠ some (b, s') := fun {p b s} hp hb => by
    have hnF : ¬ F' b := (hi.sep p b s hp hb).1
    rcases (hi.sep p b s hp hb).2 with hge | hin
    · have hge : w.heap.size ≤ b := hge
      exact ⟨fun hF => by rcases hF with hF | hF; have := (h.fr b hF).1; omega; exact hnF hF, .inl (Nat.le_trans h.grow hge), fun p' s' hp' hb' => by have := hh.own_lt hp' hb'; omega⟩
    · exact ⟨fun hF => by rcases hF with hF | hF; exact (inh_not hin).1 hF; exact hnF hF, (inh_not hin).2⟩
  have d0 : Det e (hole σ q) w' β F2 res v (fun r => β' (0, r)) := by
    refine ⟨?_, refs_of_noRef res hr, fun r r' y y' b s s' hy ho hy' ho' hb hb' => ?_, fun r y b s hy ho hb => newb (p := (0, r)) ⟨y, by rw [hres]; exact hy, ho⟩ hb⟩
    · have := hi.rep 0
      rw [hres, upd_same] at this
      exact this.tr _ (fun b hb => ⟨.inr hb, rfl⟩) (fun r y _ _ => ⟨by simp, fun _ _ _ => rfl⟩) (fun p hp => by rw [refs_of_noRef res hr] at hp; cases hp)
    · have := hi.disj (0, r) (0, r') b s s' ⟨y, by rw [hres]; exact hy, ho⟩ ⟨y', by rw [hres]; exact hy', ho'⟩ hb hb'
      simpa using this
  have I1 := hH.attach d d0
  have hINH0 : (INH : Nat) ≠ 0 := by decide
  have repX := hi.rep INH
  rw [hobj, upd_other _ _ hINH0] at repX
  simp only [if_true] at repX
  have d1 : Det e (upd (fun i => purgeV d (hole σ q i)) d res) w' (fun p => if p.1 = d then β' (0, p.2) else β p) F2 x1 u (fun r => β' (INH, r)) := by
    refine ⟨?_, refs_of_noRef x1 hr1, fun r r' y y' b s s' hy ho hy' ho' hb hb' => ?_, fun r y b s hy ho hb => ⟨(newb (p := (INH, r)) ⟨y, by rw [hobj]; exact hy, ho⟩ hb).1, (newb (p := (INH, r)) ⟨y, by rw [hobj]; exact hy, ho⟩ hb).2.1, fun p s' hp hb' => ?_⟩⟩
    · exact repX.tr _ (fun b hb => ⟨.inr hb, rfl⟩) (fun r y _ _ => ⟨by simp, fun _ _ _ => rfl⟩) (fun p hp => by rw [refs_of_noRef x1 hr1] at hp; cases hp)
    · have := hi.disj (INH, r) (INH, r') b s s' ⟨y, by rw [hobj]; exact hy, ho⟩ ⟨y', by rw [hobj]; exact hy', ho'⟩ hb hb'
      simpa using this
    · by_cases hpd : p.1 = d
      · obtain ⟨y', hy', ho'⟩ := hp
        rw [hpd, upd_same] at hy'
        simp only [hpd, if_true] at hb'
        have := hi.disj (INH, r) (0, p.2) b s s' ⟨y, by rw [hobj]; exact hy, ho⟩ ⟨y', by rw [hres]; exact hy', ho'⟩ hb hb'
        simp [hINH0] at this
      · simp only [hpd, if_false] at hb'
        have hp' := (own_upd_other hpd).1 hp
        have : OwnAt (hole σ q) p := by
          obtain ⟨z, hz', hoz⟩ := hp'
          dsimp only at hz'
          rcases purgeV_or d (hole σ q p.1) with hp | hp
          · rw [hp] at hz'; exact ⟨z, hz', hoz⟩
          · rw [hp] at hz'; exact (undef_node hz' hoz).elim
        exact (newb (p := (INH, r)) ⟨y, by rw [hobj]; exact hy, ho⟩ hb).2.2 p s' this hb'
  have hs1 : upd (fun i => purgeV d (hole σ q i)) d res q.1 = setNode (σ q.1) q.2 .undef := by
    rw [upd_other _ _ (Ne.symm hds)]
    have : hole σ q q.1 = setNode (σ q.1) q.2 .undef := by simp [hole, upd]
    rw [this]
    exact purge_id fun p hp => (hrs p (refs_setNode (by simp [refs]) hz p hp)).2
  have hval : upd val d v q.1 = val q.1 := upd_other _ _ (Ne.symm hds)
  have hnz : node (upd (fun i => purgeV d (hole σ q i)) d res q.1) q.2 = some .undef := by rw [hs1]; exact node_set_self hz
  obtain ⟨b0, s0, hbq, hu0⟩ : ∃ b s, β q = some (b, s) ∧ u = .pointer (some ⟨b, 0, none⟩) := by
    obtain ⟨cs, rfl⟩ := hop0
    have hu' : Rep β F w (.op cs) q u := by simpa using hu
    simp only [Rep] at hu'
    obtain ⟨_, b, arr, t, h1, h2, _⟩ := hu'
    exact ⟨b, _, h1, h2⟩
  obtain ⟨s1, hbX⟩ : ∃ s, β' (INH, []) = some (b0, s) := by
    obtain ⟨cs, rfl⟩ := hop1
    have hx := repX
    simp only [Rep] at hx
    obtain ⟨_, b, arr, t, h1, h2, _⟩ := hx
    rw [hu0] at h2
    simp only [Value.pointer.injEq, Option.some.injEq, Addr.mk.injEq] at h2
    obtain ⟨rfl, _⟩ := h2
    exact ⟨_, h1⟩
  have hno1 : ¬ OwnAt (upd (fun i => purgeV d (hole σ q i)) d res) q := by
    rintro ⟨y, hy, ho⟩
    rw [hnz] at hy; cases hy; simp [AV.isOwn] at ho
  have hq1d : q.1 ≠ d := Ne.symm hds
  have I2 := I1.rebeta (q := q) (b := b0) (s := s0) s1 (by simp only [hq1d, if_false]; exact hbq) hno1 (τ := fun i => if i = q.1 then upd (fun i => purgeV d (hole σ q i)) d res q.1 else if i = d then res else τ i) (fun i => by
    by_cases h1 : i = q.1
    · subst h1; left; simp
    · simp only [h1, if_false]
      by_cases hid : i = d
      · subst hid; left; simp [upd_same]
      · simp only [hid, if_false]
        rw [upd_other _ _ hid]
        have : hole σ q i = σ i := by simp [hole, upd, h1]
        rw [this]
        exact hτ i h1) (fun i p hp hpq => by
    by_cases h1 : i = q.1
    · subst h1
      simp only [if_true] at hp
      rw [hs1] at hp
      exact absurd (by rw [hpq]) (hrs p (refs_setNode (by simp [refs]) hz p hp)).1
    · simp only [h1, if_false] at hp ⊢
      by_cases hid : i = d
      · simp only [hid, if_true] at hp
        rw [refs_of_noRef res hr] at hp; cases hp
      · simp only [hid, if_false] at hp ⊢
        exact (hτr i h1 p hp (by rw [hpq])).2)
  have own21 : ∀ p, OwnAt (fun i => if i = q.1 then upd (fun i => purgeV d (hole σ q i)) d res q.1 else if i = d then res else τ i) p → OwnAt (upd (fun i => purgeV d (hole σ q i)) d res) p := by
    rintro ⟨i, r⟩ ⟨y, hy, ho⟩
    dsimp only at hy
    by_cases h1 : i = q.1
    · subst h1; simp only [if_true] at hy; exact ⟨y, hy, ho⟩
    · simp only [h1, if_false] at hy
      by_cases hid : i = d
      · subst hid; simp only [if_true] at hy; exact ⟨y, by dsimp only; rw [upd_same]; exact hy, ho⟩
      · simp only [hid, if_false] at hy
        rcases hτ i h1 with ht | ht
        · refine ⟨y, ?_, ho⟩
          dsimp only
          rw [upd_other _ _ hid]
          have : hole σ q i = σ i := by simp [hole, upd, h1]
          rw [this, ← ht]; exact hy
        · rw [ht] at hy; exact (undef_node hy ho).elim
  have d2 : Det e (fun i => if i = q.1 then upd (fun i => purgeV d (hole σ q i)) d res q.1 else if i = d then res else τ i) w' (fun p => if p = q then some (b0, s1) else (if p.1 = d then β' (0, p.2) else β p)) F2 x1 u (fun r => β' (INH, r)) :=
    ⟨d1.rep, d1.nr, d1.inj, fun r y b s hy ho hb => ⟨(d1.sep r y b s hy ho hb).1, (d1.sep r y b s hy ho hb).2.1, fun p s' hp hb' => by
      have hp1 := own21 p hp
      have hne : p ≠ q := fun he => hno1 (by have h9 := hp1; rw [he] at h9; exact h9)
      simp only [hne, if_false] at hb'
      exact (d1.sep r y b s hy ho hb).2.2 p s' hp1 hb'⟩⟩
  have hs2 : (fun i => if i = q.1 then upd (fun i => purgeV d (hole σ q i)) d res q.1 else if i = d then res else τ i) q.1 = setNode (σ q.1) q.2 .undef := by simp only [if_true]; exact hs1
  have hnz2 : node ((fun i => if i = q.1 then upd (fun i => purgeV d (hole σ q i)) d res q.1 else if i = d then res else τ i) q.1) q.2 = some .undef := by rw [hs2]; exact node_set_self hz
  have fin := I2.put (τ := fun i => if i = d then res else τ i) hnz2 d2 (by
    rw [if_pos rfl, hs1, setNode_setNode hz, hval]
    have hs0 : setNode (σ q.1) q.2 x1 = x1 := by rw [hq2]; rfl
    have hu1 : val q.1 = u := hue
    rw [hs0, hu1]
    exact repX.tr _ (fun b hb => ⟨.inr hb, rfl⟩) (fun r y _ _ => ⟨by
        have := glueAt_in (β := fun p => if p = q then some (b0, s1) else (if p.1 = d then β' (0, p.2) else β p)) (t := q.1) (r := q.2) (s := r) (δ := fun r => β' (INH, r))
        rw [hq2] at this ⊢
        simpa using this, fun _ _ _ => rfl⟩) (fun p hp => by rw [refs_of_noRef x1 hr1] at hp; cases hp)) (fun i hiq => by
    simp only [hiq, if_false]
    left; trivial) (fun i hiq p hp => by
    by_cases hid : i = d
    · subst hid
      simp only [if_true] at hp
      rw [refs_of_noRef res hr] at hp; cases hp
    · simp only [hid, if_false] at hp
      by_cases hpq : p.1 = q.1
      · obtain ⟨hpe, _⟩ := hτr i hiq p hp hpq
        subst hpe
        have h1 := glueAt_in (β := fun r => if r = p then some (b0, s1) else (if r.1 = d then β' (0, r.2) else β r)) (t := p.1) (r := p.2) (s := []) (δ := fun r => β' (INH, r))
        rw [List.append_nil] at h1
        refine h1.trans ?_
        simp only [if_true]
        exact hbX
      · exact glueAt_out (fun hh => hpq hh.1))
  rw [if_pos rfl, hs1, setNode_setNode hz] at fin
  have e1 : upd (fun i => if i = d then res else τ i) q.1 (setNode (σ q.1) q.2 x1) = upd (upd τ q.1 (setNode (σ q.1) q.2 x1)) d res := by
    funext i
    by_cases h1 : i = q.1
    · subst h1; rw [upd_same, upd_other _ _ (Ne.symm hds), upd_same]
    · by_cases h2 : i = d
      · subst h2; rw [upd_other _ _ h1, upd_same]; simp
      · rw [upd_other _ _ h1, upd_other _ _ h2, upd_other _ _ h1]; simp [h2]
  rw [e1] at fin
  exact ⟨_, _, he, fin⟩
end
section
variable {P : Program} {N : Nat} {σ τ : Sig} {o : Oper} {d : Nat}
theorem step_IOG {f : FuncId} {args vs : List AV} {res x0 x1 : AV} {q : Place} {us : Act → List Value} (hc : ACall P f args [x0] res [x1]) (hd : o.dst = some d) (hN : d < N)
    (hrun : ∀ a w gv e β F, All N gv e σ a w → Inv e σ (valOf N gv a) w β F → (execOp a.eval o).run P w = .ok (.enter f (us a).toArray) w ∧ RepL β F w vs (0, []) 0 (us a) ∧ (us a).length = vs.length ∧ ∀ c ∈ vs, NoOwn c)
    (hz : node (σ q.1) q.2 = some x0) (hs : passL q (fun _ => .undef) vs = args) (hq2 : q.2 = []) (hr0 : refs x0 = []) (hr : noRef res = true) (hr1 : noRef x1 = true)
    (hlen : args.length < INH) (hds : d ≠ q.1) (hrs : (refs (σ q.1)).all (fun p => p.1 != q.1 && p.1 != d) = true) (hop0 : ∃ cs, x0 = .op cs) (hop1 : ∃ cs, x1 = .op cs)
    (hτ : ∀ i, i ≠ q.1 → τ i = purgeV d (σ i) ∨ τ i = .undef)
    (hτr : ∀ i, i ≠ q.1 → ∀ p ∈ refs (τ i), p.1 = q.1 → p = q ∧ ∃ off, τ i = .rp q off) :
    OStep P N o σ (upd (upd τ q.1 (setNode (σ q.1) q.2 x1)) d res) := by
  intro gv e a w ha K Q hK
  have ha0 := ha
  obtain ⟨hdf, hsz, β, F, hi⟩ := ha
  obtain ⟨h1, h2, h3, hno⟩ := hrun a w gv e β F ha0 hi
  have hi0 : Inv e (fun _ => .undef) (valOf N gv a) w β F := hi.weak (fun i => by simp [Rep]) (fun q ⟨y, hy, hoy⟩ => by
    cases hr : q.2 with
    | nil => rw [hr] at hy; simp [node] at hy; subst hy; simp [AV.isOwn] at hoy
    | cons j r => rw [hr] at hy; simp [node, kids] at hy)
  have hlent : ∀ b, lent (fun _ => .undef) β F b → F b := fun b hb => by
    rcases hb with hb | ⟨q, s, ⟨y, hy, hoy⟩, _⟩
    · exact hb
    · cases hr : q.2 with
      | nil => rw [hr] at hy; simp [node] at hy; subst hy; simp [AV.isOwn] at hoy
      | cons j r => rw [hr] at hy; simp [node, kids] at hy
  have hpass0 := hi0.passL q vs (p' := (0, [])) h2 (fun i c hc => hno c (List.mem_of_getElem? hc))
  rw [hs] at hpass0
  have hnoa : ∀ c ∈ args, NoOwn c := by rw [← hs]; exact noOwn_passL _ _ _ hno
  have hpass : RepL (passB q β) F w args (0, []) 0 (us a) := hpass0.tr _ (fun b hb => ⟨hlent b hb, rfl⟩) (fun i c r y hc hy ho => by
    rw [hnoa c (List.mem_of_getElem? hc) r y hy] at ho; cases ho) (fun _ _ _ _ => rfl)
  have hl : (us a).length = args.length := by rw [h3, ← hs, passL_eq]; simp
  have hrs' : ∀ p ∈ refs (σ q.1), p.1 ≠ q.1 ∧ p.1 ≠ d := fun p hp => by
    have := List.all_eq_true.1 hrs p hp
    simpa using this
  obtain ⟨vz, hvz⟩ := (hi.rep q.1).sub hz
  simp only [List.nil_append] at hvz
  refine upon_enter' h1 ((callIO_coreG hc hr hr1 hi hz hr0 (fun b arr t fz ⟨r, y, s, hy, ho, hb⟩ hh => own_fz hvz hy ho hb hh) hl hpass hq2 hnoa hlen hds hrs' hτ hτr hop0 hop1 (vs' := vs)).mono fun en w' ⟨v, β', F', he, hi'⟩ => ⟨v, he, hK _ _ ⟨?_, ?_, β', F', ?_⟩⟩)
  · rw [hd]; exact hdf
  · rw [hd, size_put]; exact hsz
  · rw [hd, valOf_put hsz hN]; exact hi'
theorem o_callIOg {f : FuncId} {xs : List Operand} {tys : Array TypeId} {vs args : List AV} {res : AV} {cs0 cs1 : List AV} {q : Place} (ho : o.op = fnCall f xs tys) (hf : hasBody P f = true) (hd : o.dst = some d) (hN : d < N) (hx : RdL N true σ xs vs)
    (hz : node (σ q.1) q.2 = some (.op cs0)) (hs : passL q (fun _ => .undef) vs = args) (hc : ACall P f args [.op cs0] res [.op cs1])
    (hq2 : q.2 = []) (hr0 : refs (.op cs0) = []) (hr : noRef res = true) (hr1 : noRef (.op cs1) = true) (hlen : args.length < INH) (hds : d ≠ q.1) (hrs : (refs (σ q.1)).all (fun p => p.1 != q.1 && p.1 != d) = true) :
    OStep P N o σ (upd (upd (fun i => keepP q (purgeV d (σ i))) q.1 (setNode (σ q.1) q.2 (.op cs1))) d res) :=
  step_IOG (us := fun a => xs.map a.eval) hc hd hN (fun a w gv e β F _ hi => run_fnCall ho hf hx hi) hz hs hq2 hr0 hr hr1 hlen hds hrs ⟨_, rfl⟩ ⟨_, rfl⟩
    (fun i _ => by
      rcases keepP_or q (purgeV d (σ i)) with h | h
      · exact .inl h
      · exact .inr h) (fun i _ p hp hpq => keepP_refs hp hpq)
end
end Go.Av
namespace Go.Av
open Go Go.Proofs Go.Sort
set_option maxRecDepth 10000
theorem fo75_0 : fieldOff Tryz.prog 75 0 = some 0 := by kernel_rfl
theorem fo75_2 : fieldOff Tryz.prog 75 2 = some 3 := by kernel_rfl
theorem hb58 : hasBody Tryz.prog 58 = true := by kernel_rfl
theorem hb85 : hasBody Tryz.prog 85 = true := by kernel_rfl
theorem sp56 : structPl Tryz.prog 56 = some ([.int .i64 0, .int .i64 0, .int .i64 0, .int .i64 0], [(0, 1), (1, 1), (2, 1), (3, 1)]) := by kernel_rfl
theorem ta53 : tyAgg Tryz.prog 53 = some (false, 1) := by kernel_rfl
theorem ggrow_c (vars : Int) (L : List (List Int)) (f : Nat) (cs : List AV) (hcap : capOk cs = true) (hb9 : hasBody Tryz.prog f = true) (ask : List Int → Int) (hcl : ∀ i, i < L.length → clB vars (gl L i) = true) (hL : L.length ≤ 60) (hA : AskOk vars ask) (hask : ∀ a, clB vars a = true → ACall Tryz.prog f (.sl (icells a) a.length :: cs) [] (.int .i64 (ask a)) []) (d : Nat) (ih : ∀ a xs, clB vars a = true → 13 ≤ a.length + d → xs.length ≤ 199 → ACall Tryz.prog 58 [.rp (INH, []) 0, .sl (icells a) a.length] [.op [.int .i64 vars, .sl (sls L) L.length, .osl 4 (tncells xs) xs.length none, .fn f [] cs]] (.bool (grI L ask d a xs).1) [.op [.int .i64 vars, .sl (sls L) L.length, .osl 4 (tncells (grI L ask d a xs).2) (grI L ask d a xs).2.length none, .fn f [] cs]]) (a : List Int) (xs : List TN) (hca : clB vars a = true) (had : 13 ≤ a.length + (d + 1)) (hxl : xs.length ≤ 199) : ACall Tryz.prog 58 [.rp (INH, []) 0, .sl (icells a) a.length] [.op [.int .i64 vars, .sl (sls L) L.length, .osl 4 (tncells xs) xs.length none, .fn f [] cs]] (.bool (grI L ask (d + 1) a xs).1) [.op [.int .i64 vars, .sl (sls L) L.length, .osl 4 (tncells (grI L ask (d + 1) a xs).2) (grI L ask (d + 1) a xs).2.length none, .fn f [] cs]] := by
 have hcs := (capOk_spec hcap).1
 have hv12 := (clB_spec hca).1
 have hla := clB_len hca
 have hfl := falP_len L a L.length
 refine ACall.intro Tryz.func58 rfl (N := 64) rfl (by decide) (by simp) ?_
 refine a_seq ?_
 refine a_region ?_
 refine rv (v := .bool _) (v_assign il nf) ?_
 refine r_nil ?_
 refine a_seq ?_
 refine a_seq ?_
 refine a_region ?_
 refine rv (v := .rp _ _) (v_move il nf) ?_
 refine rv (v := .rp _ _) (v_nilCheck il rfl) ?_
 refine rv (v := .rp _ _) (v_fieldAddr_rp fo75_0 il) ?_
 refine rv (v := .rp _ _) (v_fieldAddr_rp fo30_1 il) ?_
 refine rv (v := .sl _ _) (v_load_rp1 ta22 il rfl (fun _ => rfl) rfl) ?_
 refine rv (v := .sl _ _) (v_move il nf) ?_
 refine rn (v := .osl _ _ _ _) (q_call (vs := [.sl _ _, .sl _ _]) (args := [.sl _ _, .sl _ _]) hb66 ⟨il, il, trivial⟩ rfl (fun hA => iFal_c vars L a hcl (by omega) (by omega)) (ic_noSh _) (ic_noRef _)) ?_
 refine rv (v := .rsl _ _ _ _ _) (v_assign il nf) ?_
 refine r_pre (ent_reloc_sl (t := 5) rfl rfl) ?_
 refine r_nil ?_
 refine a_seq ?_
 refine a_region ?_
 refine rv (v := .rsl _ _ _ _ _) (v_move il nf) ?_
 refine rv (v := .int _ _) (v_len_rsl sl25 il) ?_
 refine rv (v := .bool _) (v_gtr il il) ?_
 refine r_nil ?_
 refine a_cond rfl (fun ht17 => ?_) (fun ht17 => ?_)
 ·
  skip
  refine a_seq ?_
  have hlf : 0 < (falP L a L.length).length := (by simpa using ht17)
  obtain ⟨hg1, hg2⟩ := grI_leaf2 (ask := ask) (d := d) (xs := xs) hlf
  refine a_region ?_
  refine rv (v := .rp _ _) (v_move il nf) ?_
  refine rv (v := .rsl _ _ _ _ _) (v_move il nf) ?_
  refine rv (v := .rp _ _) (v_indexAddr_rsl0 es25 il il (fun _ => by omega)) ?_
  refine rv (v := .int .i64 (gd (falP L a L.length) 0)) (v_load_rp1 ta3 il rfl (fun _ => icells_get (gd_get hlf)) rfl) ?_
  refine rv (v := .agg [.int _ _, .int _ _, .int _ _, .int _ _]) (v_build sp56 rfl rfl) ?_
  refine r_step rfl (o_callIOg (q := (INH, [])) (vs := [.rp _ _, .agg [.int _ _, .int _ _, .int _ _, .int _ _]]) (args := [.rp (INH, []) _, .agg [.int .i64 _, .int .i64 _, .int .i64 _, .int .i64 _]]) (cs0 := [.int _ _, .sl _ _, .osl _ _ _ _, .fn _ _ _]) (cs1 := [.int _ _, .sl _ _, .osl _ _ _ _, .fn _ _ _]) (res := .bool _) rfl hb85 rfl (by decide) ⟨.inl rfl, .inl rfl, trivial⟩ rfl rfl (gadd_c vars L f cs hcs xs (0, 0, 0, gd (falP L a L.length) 0) hxl) rfl rfl rfl (gobj_nr hcs) (Nat.le_of_ble_eq_true rfl) (by decide) rfl) ?_
  refine rv (v := .bool _) (v_assign il nf) ?_
  refine r_nil ?_
  refine a_ret ?_
  refine ret1 Tryz.results58 (by decide) (by decide) (Weak.of_eq (bool_eq ?_)) rfl (Leaves.one (Weak.of_eq (by rw [hg2]; rfl)) rfl)
  exact hg1.symm
 ·
  skip
  refine a_skip ?_
  refine a_seq ?_
  have hnf : ¬ 0 < (falP L a L.length).length := (by simpa using ht17)
  refine a_region ?_
  refine rv (v := .rp _ _) (v_move il nf) ?_
  refine rv (v := .rp _ _) (v_nilCheck il rfl) ?_
  refine rv (v := .rp _ _) (v_fieldAddr_rp fo75_2 il) ?_
  refine rv (v := .fn _ _ _) (v_load_rp1 ta53 il rfl (fun _ => rfl) (pure_fn hcap)) ?_
  refine rv (v := .sl _ _) (v_move il nf) ?_
  refine rn (v := .int _ _) (q_clo (vs := [.sl _ _]) (args := (.sl _ _ :: cs)) hb9 il ⟨il, trivial⟩ (snap_clo1 hcap rfl) (fun hA => hask a hca) rfl rfl) ?_
  refine rv (v := .int _ _) (v_assign il nf) ?_
  refine r_nil ?_
  refine a_seq ?_
  refine a_seq ?_
  by_cases h0 : ask a = 0
  ·
   skip
   refine a_region ?_
   refine rv (v := .int _ _) (v_move il nf) ?_
   refine rv (v := .bool true) ((v_eql il il).cast (bool_eq (decide_eq_true h0))) ?_
   refine rv (v := .bool _) (v_move il nf) ?_
   refine r_gval (v := .bool false) (v_off rfl rfl) rfl rfl rfl (by decide) (.inl ⟨_, rfl, rfl⟩) rfl (by decide) ?_
   refine r_gval (v := .bool false) (v_off rfl rfl) rfl rfl rfl (by decide) (.inl ⟨_, rfl, rfl⟩) rfl (by decide) ?_
   refine r_gval (v := .bool false) (v_off rfl rfl) rfl rfl rfl (by decide) (.inl ⟨_, rfl, rfl⟩) rfl (by decide) ?_
   refine r_gval (v := .bool false) (v_off rfl rfl) rfl rfl rfl (by decide) (.inl ⟨_, rfl, rfl⟩) rfl (by decide) ?_
   refine r_gval (v := .bool false) (v_off rfl rfl) rfl rfl rfl (by decide) (.inl ⟨_, rfl, rfl⟩) rfl (by decide) ?_
   refine r_gval (v := .bool false) (v_off rfl rfl) rfl rfl rfl (by decide) (.inl ⟨_, rfl, rfl⟩) rfl (by decide) ?_
   refine r_gval (v := .bool false) (v_off rfl rfl) rfl rfl rfl (by decide) (.inl ⟨_, rfl, rfl⟩) rfl (by decide) ?_
   refine rv (v := .bool _) (v_pick (.inl rfl) (.inl rfl) (.inr ⟨_, rfl, fun h h2 => by simp_all⟩)) ?_
   refine r_nil ?_
   refine a_cond rfl (fun ht40 => ?_) (fun ht40 => ?_)
   ·
    skip
    refine a_seq ?_
    refine a_pre (ent_look (L := [(0, .rp _ _), (1, .sl _ _), (4, .bool _), (6, .int _ _), (INH, .op [.int _ _, .sl _ _, .osl _ _ _ _, .fn _ _ _])]) ⟨Weak.rfl, Weak.rfl, Weak.rfl, Weak.rfl, Weak.rfl, trivial⟩) ?_
    obtain ⟨hg1, hg2⟩ := grI_none2 (ask := ask) (d := d) (xs := xs) hnf h0
    refine a_region ?_
    refine rv (v := .bool _) (v_assign il nf) ?_
    refine r_nil ?_
    refine a_ret ?_
    refine ret1 Tryz.results58 (by decide) (by decide) (Weak.of_eq (bool_eq ?_)) rfl (Leaves.one (Weak.of_eq (by rw [hg2]; rfl)) rfl)
    exact hg1.symm
   ·
    skip
    refine a_skip ?_
    refine a_seq ?_
    exfalso
    simp at ht40
  ·
   skip
   have hnw := ask_new hA hca h0
   have hgl := grI_len L ask d (setLit a (-(ask a))) xs hxl
   refine a_region ?_
   refine rv (v := .int _ _) (v_move il nf) ?_
   refine rv (v := .bool false) ((v_eql il il).cast (bool_eq (decide_eq_false h0))) ?_
   refine rv (v := .bool _) (v_move il nf) ?_
   refine r_act rfl rfl (by decide) (.inl ⟨_, rfl, rfl⟩) (VSem.step (v := .rp _ _) (v_move (.inl rfl) nf) rfl (by decide)) ?_
   refine r_act rfl rfl (by decide) (.inl ⟨_, rfl, rfl⟩) (VSem.step (v := .sl _ _) (v_move (.inl rfl) nf) rfl (by decide)) ?_
   refine r_act rfl rfl (by decide) (.inl ⟨_, rfl, rfl⟩) (VSem.step (v := .int _ _) (v_move (.inl rfl) nf) rfl (by decide)) ?_
   refine r_act rfl rfl (by decide) (.inl ⟨_, rfl, rfl⟩) (VSem.step (v := .int _ _) (v_neg (.inl rfl) (fun _ => by omega)) rfl (by decide)) ?_
   refine r_act rfl rfl (by decide) (.inl ⟨_, rfl, rfl⟩) (QSem.step (v := .sl _ _) (QSem.cast (q_callZ (vs := [.sl _ _, .int _ _]) (args := [.sl _ _, .int .i64 _]) hb70 ⟨.inl rfl, .inl rfl, trivial⟩ rfl (fun hA => set_c vars a _ hca hnw.1.1) (ic_noSh _) (ic_noRef _)) (sl_shZ (ic_pure _))) rfl (by decide)) ?_
   refine r_act rfl rfl (by decide) (.inl ⟨_, rfl, rfl⟩) (o_callIOg (q := (INH, [])) (vs := [.rp _ _, .sl _ _]) (args := [.rp (INH, []) _, .sl _ _]) (cs0 := [.int _ _, .sl _ _, .osl _ _ _ _, .fn _ _ _]) (cs1 := [.int _ _, .sl _ _, .osl _ _ _ _, .fn _ _ _]) (res := .bool _) rfl hb58 rfl (by decide) ⟨.inl rfl, .inl rfl, trivial⟩ rfl rfl (ih _ xs hnw.2.1.1 (by omega) hxl) rfl rfl rfl (gobj_nr hcs) (Nat.le_of_ble_eq_true rfl) (by decide) rfl) ?_
   refine r_act rfl rfl (by decide) (.inl ⟨_, rfl, rfl⟩) (VSem.step (v := .bool _) (v_not (.inl rfl)) rfl (by decide)) ?_
   refine rv (v := .bool _) (v_pick (.inl rfl) (.inl rfl) (.inl rfl)) ?_
   refine r_nil ?_
   refine a_cond rfl (fun ht40 => ?_) (fun ht40 => ?_)
   ·
    skip
    refine a_seq ?_
    refine a_pre (ent_look (L := [(0, .rp _ _), (1, .sl _ _), (4, .bool _), (6, .int _ _), (INH, .op [.int _ _, .sl _ _, .osl _ _ _ _, .fn _ _ _])]) ⟨Weak.rfl, Weak.rfl, Weak.rfl, Weak.rfl, Weak.rfl, trivial⟩) ?_
    have hy1 : (grI L ask d (setLit a (-(ask a))) xs).1 = false := (by simpa using ht40)
    obtain ⟨hg1, hg2⟩ := grI_low2 hnf h0 hy1
    refine a_region ?_
    refine rv (v := .bool _) (v_assign il nf) ?_
    refine r_nil ?_
    refine a_ret ?_
    refine ret1 Tryz.results58 (by decide) (by decide) (Weak.of_eq (bool_eq ?_)) rfl (Leaves.one (Weak.of_eq (by rw [hg2]; rfl)) rfl)
    exact hg1.symm
   ·
    skip
    refine a_skip ?_
    refine a_seq ?_
    refine a_pre (ent_look (L := [(0, .rp _ _), (1, .sl _ _), (4, .bool _), (6, .int _ _), (INH, .op [.int _ _, .sl _ _, .osl _ _ _ _, .fn _ _ _])]) ⟨Weak.rfl, Weak.rfl, Weak.rfl, Weak.rfl, Weak.rfl, trivial⟩) ?_
    have hy1 : (grI L ask d (setLit a (-(ask a))) xs).1 = true := (by simpa using ht40)
    have hgl1 := hgl.2 hy1
    have hgm := grI_len L ask d (setLit a (ask a)) (grI L ask d (setLit a (-(ask a))) xs).2 hgl1.1
    refine a_region ?_
    refine rv (v := .rp _ _) (v_move il nf) ?_
    refine rv (v := .rp _ _) (v_nilCheck il rfl) ?_
    refine rv (v := .rp _ _) (v_fieldAddr_rp fo75_1 il) ?_
    refine rv (v := .rsl _ _ _ _ _) (v_load_rp (c := .osl _ _ _ _) ta27 il rfl (fun _ => rfl)) ?_
    refine rv (v := .int _ _) (v_len_rsl sl27 il) ?_
    refine rv (v := .int _ _) (v_sub il il (fun _ => by omega)) ?_
    refine rv (v := .int _ _) (v_assign il nf) ?_
    refine r_nil ?_
    refine a_seq ?_
    refine a_seq ?_
    refine a_region ?_
    refine rv (v := .rp _ _) (v_move il nf) ?_
    refine rv (v := .sl _ _) (v_move il nf) ?_
    refine rv (v := .int _ _) (v_move il nf) ?_
    refine rn (v := .sl _ _) (QSem.cast (q_callZ (vs := [.sl _ _, .int _ _]) (args := [.sl _ _, .int .i64 _]) hb70 ⟨il, il, trivial⟩ rfl (fun hA => set_c vars a _ hca hnw.1.2) (ic_noSh _) (ic_noRef _)) (sl_shZ (ic_pure _))) ?_
    refine r_step rfl (o_callIOg (q := (INH, [])) (vs := [.rp _ _, .sl _ _]) (args := [.rp (INH, []) _, .sl _ _]) (cs0 := [.int _ _, .sl _ _, .osl _ _ _ _, .fn _ _ _]) (cs1 := [.int _ _, .sl _ _, .osl _ _ _ _, .fn _ _ _]) (res := .bool _) rfl hb58 rfl (by decide) ⟨.inl rfl, .inl rfl, trivial⟩ rfl rfl (ih _ _ hnw.2.2.1.1 (by omega) (by omega)) rfl rfl rfl (gobj_nr hcs) (Nat.le_of_ble_eq_true rfl) (by decide) rfl) ?_
    refine rv (v := .bool _) (v_not il) ?_
    refine r_nil ?_
    refine a_cond rfl (fun ht52 => ?_) (fun ht52 => ?_)
    ·
     skip
     refine a_seq ?_
     have hy2 : (grI L ask d (setLit a (ask a)) (grI L ask d (setLit a (-(ask a))) xs).2).1 = false := (by simpa using ht52)
     obtain ⟨hg1, hg2⟩ := grI_high2 hnf h0 hy1 hy2
     refine a_region ?_
     refine rv (v := .bool _) (v_assign il nf) ?_
     refine r_nil ?_
     refine a_ret ?_
     refine ret1 Tryz.results58 (by decide) (by decide) (Weak.of_eq (bool_eq ?_)) rfl (Leaves.one (Weak.of_eq (by rw [hg2]; rfl)) rfl)
     exact hg1.symm
    ·
     skip
     refine a_skip ?_
     refine a_seq ?_
     have hy2 : (grI L ask d (setLit a (ask a)) (grI L ask d (setLit a (-(ask a))) xs).2).1 = true := (by simpa using ht52)
     have hgm1 := hgm.2 hy2
     obtain ⟨hg1, hg2⟩ := grI_both2 hnf h0 hy1 hy2
     refine a_region ?_
     refine rv (v := .rp _ _) (v_move il nf) ?_
     refine rv (v := .int _ _) (v_move il nf) ?_
     refine rv (v := .int _ _) (v_move il nf) ?_
     refine rv (v := .rp _ _) (v_move il nf) ?_
     refine rv (v := .rp _ _) (v_nilCheck il rfl) ?_
     refine rv (v := .rp _ _) (v_fieldAddr_rp fo75_1 il) ?_
     refine rv (v := .rsl _ _ _ _ _) (v_load_rp (c := .osl _ _ _ _) ta27 il rfl (fun _ => rfl)) ?_
     refine rv (v := .int _ _) (v_len_rsl sl27 il) ?_
     refine rv (v := .int _ _) (v_sub il il (fun _ => by omega)) ?_
     refine rv (v := .agg [.int _ _, .int _ _, .int _ _, .int _ _]) (v_build sp56 rfl rfl) ?_
     refine r_step rfl (o_callIOg (q := (INH, [])) (vs := [.rp _ _, .agg [.int _ _, .int _ _, .int _ _, .int _ _]]) (args := [.rp (INH, []) _, .agg [.int .i64 _, .int .i64 _, .int .i64 _, .int .i64 _]]) (cs0 := [.int _ _, .sl _ _, .osl _ _ _ _, .fn _ _ _]) (cs1 := [.int _ _, .sl _ _, .osl _ _ _ _, .fn _ _ _]) (res := .bool _) rfl hb85 rfl (by decide) ⟨.inl rfl, .inl rfl, trivial⟩ rfl rfl (gadd_c vars L f cs hcs (grI L ask d (setLit a (ask a)) (grI L ask d (setLit a (-(ask a))) xs).2).2 (ask a, ((grI L ask d (setLit a (-(ask a))) xs).2.length : Int) - 1, ((grI L ask d (setLit a (ask a)) (grI L ask d (setLit a (-(ask a))) xs).2).2.length : Int) - 1, 0) hgm1.1) rfl rfl rfl (gobj_nr hcs) (Nat.le_of_ble_eq_true rfl) (by decide) rfl) ?_
     refine rv (v := .bool _) (v_assign il nf) ?_
     refine r_nil ?_
     refine a_ret ?_
     refine ret1 Tryz.results58 (by decide) (by decide) (Weak.of_eq (bool_eq ?_)) rfl (Leaves.one (Weak.of_eq (by rw [hg2]; rfl)) rfl)
     exact hg1.symm
end Go.Av
namespace Go.Av
open Go Go.Proofs Go.Sort
set_option maxRecDepth 10000
theorem ggrowR_c (vars : Int) (L : List (List Int)) (f : Nat) (cs : List AV) (hcap : capOk cs = true) (hb9 : hasBody Tryz.prog f = true) (ask : List Int → Int) (hcl : ∀ i, i < L.length → clB vars (gl L i) = true) (hL : L.length ≤ 60) (hA : AskOk vars ask) (hask : ∀ a, clB vars a = true → ACall Tryz.prog f (.sl (icells a) a.length :: cs) [] (.int .i64 (ask a)) []) : ∀ (d : Nat) (a : List Int) (xs : List TN), clB vars a = true → 13 ≤ a.length + d → xs.length ≤ 199 → ACall Tryz.prog 58 [.rp (INH, []) 0, .sl (icells a) a.length] [.op [.int .i64 vars, .sl (sls L) L.length, .osl 4 (tncells xs) xs.length none, .fn f [] cs]] (.bool (grI L ask d a xs).1) [.op [.int .i64 vars, .sl (sls L) L.length, .osl 4 (tncells (grI L ask d a xs).2) (grI L ask d a xs).2.length none, .fn f [] cs]]
 | 0, a, xs, h1, h2, h3 => by have := clB_len h1; omega
 | d + 1, a, xs, h1, h2, h3 => ggrow_c vars L f cs hcap hb9 ask hcl hL hA hask d (fun a xs h1 h2 h3 => ggrowR_c vars L f cs hcap hb9 ask hcl hL hA hask d a xs h1 h2 h3) a xs h1 h2 h3
theorem sp75 : structPl Tryz.prog 75 = some ([.int .i64 0, .nils, .nils, .undef], [(0, 2), (2, 1), (3, 1)]) := by kernel_rfl
theorem grown_c (vars : Int) (L : List (List Int)) (f : Nat) (cs : List AV) (hcap : capOk cs = true) (hb9 : hasBody Tryz.prog f = true) (ask : List Int → Int) (hcl : ∀ i, i < L.length → clB vars (gl L i) = true) (hL : L.length ≤ 60) (hca0 : clB vars [] = true) (hA : AskOk vars ask) (hask : ∀ a, clB vars a = true → ACall Tryz.prog f (.sl (icells a) a.length :: cs) [] (.int .i64 (ask a)) [])  : ACall Tryz.prog 31 [.agg [.int .i64 vars, .sl (sls L) L.length], .fn f [] cs] [] (.tup [.osl 4 (tncells (gwR L ask)) (gwR L ask).length none, .bool (gwB L ask)]) [] := by
 have hcs := (capOk_spec hcap).1
 refine ACall.intro Tryz.func31 rfl (N := 18) rfl (by decide) (by simp) ?_
 refine a_seq ?_
 refine a_region ?_
 refine rn (v := .op [.int _ _, .sl _ _]) (q_box il rfl rfl) ?_
 refine rv (v := .nils) (v_assign il nf) ?_
 refine rv (v := .bool _) (v_assign il nf) ?_
 refine r_nil ?_
 refine a_seq ?_
 refine a_pre (ent_eq (t := 1) (v' := .fn f [] cs) (Weak.of_eq (purge_fn hcap))) ?_
 refine a_region ?_
 refine rv (v := .agg [.int _ _, .sl _ _]) (v_load_rpa1 ta30 il rfl rfl (fun _ => rfl) rfl) ?_
 refine rv (v := .fn _ _ _) (v_mv rfl) ?_
 refine rv (v := .agg [.int _ _, .sl _ _, .nils, .fn _ _ _]) (v_build sp75 rfl rfl) ?_
 refine rn (v := .op [.int _ _, .sl _ _, .nils, .fn _ _ _]) (q_box il rfl (show pureL [.int .i64 vars, .sl (sls L) L.length, .nils, .fn f [] cs] = true by simp [pureL, pureV, hcs])) ?_
 refine rv (v := .rp _ _) (v_assign il nf) ?_
 refine r_pre (ent_reloc_op (t := 6) rfl rfl) ?_
 refine r_nil ?_
 refine a_seq ?_
 refine a_seq ?_
 refine a_pre (ent_nil_at (t := 6) (r := [2]) (sz := 4) rfl (.inl rfl) rfl rfl) ?_
 refine a_region ?_
 refine rv (v := .rp _ _) (v_move il nf) ?_
 refine r_step rfl (o_callIOg (q := (6, [])) (vs := [.rp _ _, .nils]) (args := [.rp (INH, []) _, .sl _ _]) (cs0 := [.int _ _, .sl _ _, .osl _ _ _ _, .fn _ _ _]) (cs1 := [.int _ _, .sl _ _, .osl _ _ _ _, .fn _ _ _]) (res := .bool _) rfl hb58 rfl (by decide) ⟨.inl rfl, .inl rfl, trivial⟩ rfl rfl (ggrowR_c vars L f cs hcap hb9 ask hcl hL hA hask 13 [] [] hca0 (by omega) (by simp)) rfl rfl rfl (gobj_nr hcs) (Nat.le_of_ble_eq_true rfl) (by decide) rfl) ?_
 refine rv (v := .bool _) (v_not il) ?_
 refine r_nil ?_
 refine a_cond rfl (fun ht13 => ?_) (fun ht13 => ?_)
 ·
  skip
  refine a_seq ?_
  have hgn : gwB L ask = false := (by unfold gwB; simpa using ht13)
  have hgr : gwR L ask = [] := (by unfold gwR; rw [hgn]; rfl)
  refine a_region ?_
  refine rv (v := .nils) (v_assign il nf) ?_
  refine rv (v := .bool _) (v_assign il nf) ?_
  refine r_nil ?_
  refine a_pre (ent_nil (t := 4) (sz := 4) (cap := none) (.inl rfl) (fun _ h => by cases h)) ?_
  refine a_ret ?_
  refine retL (rs := [.tmp 4, .tmp 5]) [(4, .osl _ _ _ none), (5, _)] ⟨Weak.osl rfl rfl, Weak.rfl, trivial⟩ rfl Tryz.results31 (by decide) ⟨by decide, by decide, rfl⟩ (by decide) (by decide) (l2_eq (osl_eq2 ?_ ?_) (bool_eq ?_)) rfl
  all_goals (first | exact hgn.symm | (rw [hgr]; done) | (rw [hgr]; rfl))
 ·
  skip
  refine a_skip ?_
  refine a_seq ?_
  have hgn : gwB L ask = true := (by unfold gwB; simpa using ht13)
  have hgr : gwR L ask = (grI L ask 13 [] []).2 := (by unfold gwR; rw [hgn]; rfl)
  refine a_region ?_
  refine rv (v := .rp _ _) (v_move il nf) ?_
  refine rv (v := .rp _ _) (v_nilCheck il rfl) ?_
  refine rv (v := .rp _ _) (v_fieldAddr_rp fo75_1 il) ?_
  refine rv (v := .rsl _ _ _ _ _) (v_load_rp (c := .osl _ _ _ _) ta27 il rfl (fun _ => rfl)) ?_
  refine rv (v := .rsl _ _ _ _ _) (v_assign il nf) ?_
  refine r_pre (ent_reloc_sl (t := 4) rfl rfl) ?_
  refine rv (v := .bool _) (v_assign il nf) ?_
  refine r_nil ?_
  refine a_ret ?_
  refine retL (rs := [.tmp 4, .tmp 5]) [(4, .osl _ _ _ none), (5, _)] ⟨Weak.osl rfl rfl, Weak.rfl, trivial⟩ rfl Tryz.results31 (by decide) ⟨by decide, by decide, rfl⟩ (by decide) (by decide) (l2_eq (osl_eq2 ?_ ?_) (bool_eq ?_)) rfl
  all_goals (first | exact hgn.symm | (rw [hgr]; done) | (rw [hgr]; rfl))
end Go.Av
namespace Go.Av
open Go
set_option maxRecDepth 10000
def ffL (L : List (List Int)) (a : List Int) : Int := fidx (fun c => decide (cval (gl L c) a < 0)) L.length
theorem ff_fal {L : List (List Int)} {a : List Int} : (¬ 0 < (falP L a L.length).length ∧ ffL L a = -1) ∨ (0 < (falP L a L.length).length ∧ ffL L a = gd (falP L a L.length) 0 ∧ 0 ≤ ffL L a) := by
  rcases falP_fidx (L := L) (a := a) L.length with ⟨h1, h2⟩ | ⟨c, h1, h2, h3, h4, h5⟩
  · exact .inl ⟨by rw [h1]; simp, fidx_none fun j hj => by simpa using h2 j hj⟩
  · have : ffL L a = c := fidx_found h1 (by simpa using h2) (fun j hj => by simpa using h3 j hj)
    exact .inr ⟨h5, by rw [this, h4], by omega⟩
def grS (L : List (List Int)) (ask : List Int → Int) : Nat → List Int → List TN → List TN
  | 0, _, xs => xs
  | d + 1, a, xs => if 199 < xs.length then xs else if 0 ≤ ffL L a then xs ++ [(0, 0, 0, ffL L a)] else
    grS L ask d (setLit a (ask a)) (grS L ask d (setLit a (-(ask a))) xs) ++ [(ask a, ((grS L ask d (setLit a (-(ask a))) xs).length : Int) - 1, ((grS L ask d (setLit a (ask a)) (grS L ask d (setLit a (-(ask a))) xs)).length : Int) - 1, 0)]
section
variable {L : List (List Int)} {ask : List Int → Int} {d : Nat} {a : List Int} {xs : List TN}
theorem grS_full (h : 199 < xs.length) : grS L ask (d + 1) a xs = xs := by rw [grS, if_pos h]
theorem grS_leaf (h : ¬ 199 < xs.length) (h2 : 0 ≤ ffL L a) : grS L ask (d + 1) a xs = xs ++ [(0, 0, 0, ffL L a)] := by rw [grS, if_neg h, if_pos h2]
theorem grS_node (h : ¬ 199 < xs.length) (h2 : ¬ 0 ≤ ffL L a) : grS L ask (d + 1) a xs = grS L ask d (setLit a (ask a)) (grS L ask d (setLit a (-(ask a))) xs) ++ [(ask a, ((grS L ask d (setLit a (-(ask a))) xs).length : Int) - 1, ((grS L ask d (setLit a (ask a)) (grS L ask d (setLit a (-(ask a))) xs)).length : Int) - 1, 0)] := by
  rw [grS, if_neg h, if_neg h2]
end
theorem grS_len (L : List (List Int)) (ask : List Int → Int) : ∀ (d : Nat) (a : List Int) (xs : List TN), (grS L ask d a xs).length ≤ max xs.length (200 + d) ∧ xs.length ≤ (grS L ask d a xs).length
  | 0, a, xs => by show xs.length ≤ _ ∧ xs.length ≤ xs.length; omega
  | d + 1, a, xs => by
    by_cases h : 199 < xs.length
    · rw [grS_full h]; omega
    · by_cases h2 : 0 ≤ ffL L a
      · rw [grS_leaf h h2, List.length_append]; simp only [List.length_cons, List.length_nil]; omega
      · have h3 := grS_len L ask d (setLit a (-(ask a))) xs
        have h4 := grS_len L ask d (setLit a (ask a)) (grS L ask d (setLit a (-(ask a))) xs)
        rw [grS_node h h2, List.length_append]; simp only [List.length_cons, List.length_nil]; omega
theorem gr_same {vars : Int} {L : List (List Int)} {ask : List Int → Int} (hA : AskOk vars ask) (hU : ∀ a, clB vars a = true → ¬ 0 < (falP L a L.length).length → ask a ≠ 0) : ∀ (d : Nat) (a : List Int) (xs : List TN), clB vars a = true → 13 ≤ a.length + d → xs.length ≤ 199 →
    ((grI L ask d a xs).1 = true → grS L ask d a xs = (grI L ask d a xs).2) ∧ ((grI L ask d a xs).1 = false → 199 < (grS L ask d a xs).length)
  | 0, a, xs, h1, h2, h3 => by have := clB_len h1; omega
  | d + 1, a, xs, h1, h2, h3 => by
    have hn : ¬ 199 < xs.length := by omega
    rcases ff_fal (L := L) (a := a) with ⟨hf, hff⟩ | ⟨hf, hff, hfn⟩
    · have h0 := hU a h1 hf
      obtain ⟨_, ⟨c1, l1⟩, ⟨c2, l2⟩, _⟩ := ask_new hA h1 h0
      have ih1 := gr_same hA hU d (setLit a (-(ask a))) xs c1 (by omega) h3
      rw [grS_node hn (by omega)]
      cases hb1 : (grI L ask d (setLit a (-(ask a))) xs).1 with
      | false =>
        obtain ⟨g1, g2⟩ := grI_low2 hf h0 hb1
        rw [g1]
        have h5 := ih1.2 hb1
        have h6 := (grS_len L ask d (setLit a (ask a)) (grS L ask d (setLit a (-(ask a))) xs)).2
        refine ⟨fun h => by (cases h), fun _ => ?_⟩
        rw [List.length_append]; omega
      | true =>
        have e1 := ih1.1 hb1
        have hl := (grI_len L ask d (setLit a (-(ask a))) xs h3).2 hb1
        rw [e1]
        have ih2 := gr_same hA hU d (setLit a (ask a)) (grI L ask d (setLit a (-(ask a))) xs).2 c2 (by omega) hl.1
        cases hb2 : (grI L ask d (setLit a (ask a)) (grI L ask d (setLit a (-(ask a))) xs).2).1 with
        | false =>
          obtain ⟨g1, g2⟩ := grI_high2 hf h0 hb1 hb2
          rw [g1]
          have h5 := ih2.2 hb2
          refine ⟨fun h => by (cases h), fun _ => ?_⟩
          rw [List.length_append]; omega
        | true =>
          obtain ⟨g1, g2⟩ := grI_both2 hf h0 hb1 hb2
          rw [g1, g2, ih2.1 hb2]
          refine ⟨fun _ => rfl, fun h => ?_⟩
          rw [decide_eq_false_iff_not] at h
          rw [List.length_append]; simp only [List.length_cons, List.length_nil]; omega
    · obtain ⟨g1, g2⟩ := grI_leaf2 (ask := ask) (d := d) (xs := xs) hf
      rw [g1, g2, grS_leaf hn hfn, hff]
      refine ⟨fun _ => rfl, fun h => ?_⟩
      rw [decide_eq_false_iff_not] at h
      rw [List.length_append]; simp only [List.length_cons, List.length_nil]; omega
def gsB (L : List (List Int)) (ask : List Int → Int) : Bool := !decide (((grS L ask 13 [] []).length : Int) > 199)
def gsR (L : List (List Int)) (ask : List Int → Int) : List TN := if gsB L ask then grS L ask 13 [] [] else []
theorem gs_same {vars : Int} {L : List (List Int)} {ask : List Int → Int} (h0 : clB vars [] = true) (hA : AskOk vars ask) (hU : ∀ a, clB vars a = true → ¬ 0 < (falP L a L.length).length → ask a ≠ 0) : gsB L ask = gwB L ask ∧ gsR L ask = gwR L ask := by
  have h := gr_same hA hU 13 [] [] h0 (by simp) (by simp)
  have hB : gsB L ask = gwB L ask := by
    unfold gsB gwB
    cases hb : (grI L ask 13 [] []).1 with
    | true =>
      have := (grI_len L ask 13 [] [] (by simp)).2 hb
      rw [h.1 hb, decide_eq_false (by omega)]; rfl
    | false => rw [decide_eq_true (by have := h.2 hb; omega)]; rfl
  refine ⟨hB, ?_⟩
  unfold gsR gwR
  rw [hB]
  cases hb : gwB L ask with
  | true => rw [if_pos rfl, if_pos rfl, h.1 hb]
  | false => rfl
theorem gr_sat {vars : Int} {L : List (List Int)} {ask : List Int → Int} (hA : AskOk vars ask) (τ : Int → Bool) (hτ : ∀ x, x ≠ 0 → τ (-x) = !τ x) (hs : ∀ i, i < L.length → ∃ l ∈ gl L i, τ l = true) : ∀ (d : Nat) (a : List Int) (xs : List TN), clB vars a = true → (∀ l ∈ a, τ l = true) →
    (grI L ask d a xs).1 = false
  | 0, a, xs, _, _ => rfl
  | d + 1, a, xs, h1, h2 => by
    have hf : ¬ 0 < (falP L a L.length).length := fun hf => by
      rcases falP_fidx (L := L) (a := a) L.length with ⟨e1, _⟩ | ⟨c, e1, e2, _⟩
      · rw [e1] at hf; simp at hf
      · obtain ⟨l, hl, ht⟩ := hs c e1
        unfold cval at e2
        split at e2
        · omega
        · split at e2
          · rename_i hal
            have h5 := h2 (-l) (by simpa using List.all_eq_true.1 hal l hl)
            by_cases hl0 : l = 0
            · subst hl0
              have : litB vars (-0) = true := (clB_mem h1 (by simpa using List.all_eq_true.1 hal 0 hl)).1
              exact (litB_spec.1 this).2 rfl
            · rw [hτ l hl0, ht] at h5; cases h5
          · omega
    by_cases h0 : ask a = 0
    · exact (grI_none2 hf h0).1
    · obtain ⟨_, ⟨c1, l1⟩, ⟨c2, l2⟩, hr⟩ := ask_new hA h1 h0
      have hmem : ∀ (x : Int) (y : Int), y ∈ setLit a x → y = x ∨ y ∈ a := fun x y hy => by
        unfold setLit at hy
        rcases mem_putL.1 hy with rfl | hy
        · exact .inl rfl
        · unfold woS at hy; exact .inr (List.mem_filter.1 hy).1
      cases hb1 : (grI L ask d (setLit a (-(ask a))) xs).1 with
      | false => exact (grI_low2 hf h0 hb1).1
      | true =>
        cases hb2 : (grI L ask d (setLit a (ask a)) (grI L ask d (setLit a (-(ask a))) xs).2).1 with
        | false => exact (grI_high2 hf h0 hb1 hb2).1
        | true =>
          exfalso
          cases ht : τ (ask a) with
          | true =>
            have := gr_sat hA τ hτ hs d (setLit a (ask a)) (grI L ask d (setLit a (-(ask a))) xs).2 c2 (fun l hl => by
              rcases hmem _ _ hl with rfl | hl
              · exact ht
              · exact h2 l hl)
            rw [this] at hb2; cases hb2
          | false =>
            have := gr_sat hA τ hτ hs d (setLit a (-(ask a))) xs c1 (fun l hl => by
              rcases hmem _ _ hl with rfl | hl
              · rw [hτ _ h0, ht]; rfl
              · exact h2 l hl)
            rw [this] at hb1; cases hb1
end Go.Av
namespace Go.Av
open Go
def opB (a : List Int) (v : Int) : Bool := !decide (v ∈ a) && !decide (-v ∈ a)
theorem opB_spec {a : List Int} {v : Int} : opB a v = true ↔ ¬ v ∈ a ∧ ¬ -v ∈ a := by simp [opB]
def fopen (vs a : List Int) : Int := (vs.find? fun v => opB a v).getD 0
theorem fopen_found {vs a : List Int} {i : Nat} (hi : i < vs.length) (h : opB a (gd vs i) = true) (hn : ∀ j, j < i → opB a (gd vs j) = false) : fopen vs a = gd vs i := by
  unfold fopen
  have : vs.find? (fun v => opB a v) = some (gd vs i) := by
    rw [List.find?_eq_some_iff_getElem]
    refine ⟨h, i, hi, ?_, fun j hj => ?_⟩
    · have := gd_get hi; rw [List.getElem?_eq_getElem hi] at this; exact Option.some.inj this
    · have h2 := hn j hj
      have hjl : j < vs.length := by omega
      have := gd_get hjl; rw [List.getElem?_eq_getElem hjl] at this
      rw [Option.some.inj this, h2]; rfl
  rw [this]; rfl
theorem fopen_none {vs a : List Int} (hn : ∀ j, j < vs.length → opB a (gd vs j) = false) : fopen vs a = 0 := by
  unfold fopen
  have : vs.find? (fun v => opB a v) = none := by
    rw [List.find?_eq_none]
    intro x hx
    obtain ⟨j, hj, rfl⟩ := mem_gd hx
    rw [hn j hj]; simp
  rw [this]; rfl
theorem fopen_ways (vs a : List Int) : (fopen vs a = 0 ∧ ∀ v ∈ vs, opB a v = false) ∨ (fopen vs a ∈ vs ∧ opB a (fopen vs a) = true) := by
  unfold fopen
  cases h : vs.find? (fun v => opB a v) with
  | none => exact .inl ⟨rfl, fun v hv => by have := List.find?_eq_none.1 h v hv; simpa using this⟩
  | some v => exact .inr ⟨List.mem_of_find?_eq_some h, List.find?_some h⟩
def upL (n : Int) : List Int := (List.range n.toNat).map fun i : Nat => (i : Int) + 1
def upP (k : Nat) : List Int := (List.range k).map fun i : Nat => (i : Int) + 1
theorem upP_len (k : Nat) : (upP k).length = k := by simp [upP]
theorem upP_succ (k : Nat) : upP (k + 1) = upP k ++ [(k : Int) + 1] := by unfold upP; rw [List.range_succ, List.map_append]; rfl
theorem upL_eq {n : Int} {k : Nat} (h : (k : Int) = n ∨ (n ≤ 0 ∧ k = 0)) : upP k = upL n := by
  unfold upL upP
  rcases h with h | ⟨h, rfl⟩
  · rw [show n.toNat = k by omega]
  · rw [show n.toNat = 0 by omega]
theorem mem_upL {n v : Int} : v ∈ upL n ↔ 1 ≤ v ∧ v ≤ n := by
  unfold upL
  rw [List.mem_map]
  constructor
  · rintro ⟨i, hi, rfl⟩; have := List.mem_range.1 hi; omega
  · rintro ⟨h1, h2⟩; exact ⟨(v - 1).toNat, List.mem_range.2 (by omega), by omega⟩
theorem unit_iff {vars : Int} {c a : List Int} (hc : clB vars c = true) (ha : clB vars a = true) : ((opn c a).length = 1 ∧ opB a (vr (gd (opn c a) 0)) = true) ↔ unitL c a ≠ 0 := by
  constructor
  · rintro ⟨h1, h2⟩
    have hm : gd (opn c a) 0 ∈ opn c a := gd_mem (by omega)
    have hm2 := List.mem_filter.1 (show gd (opn c a) 0 ∈ c.filter (fun l => !decide (-l ∈ a)) from hm)
    have hl := litB_spec.1 (clB_mem hc hm2.1).1
    have h3 := opB_spec.1 h2
    have hna : ¬ gd (opn c a) 0 ∈ a := fun h => by
      unfold vr at h3; split at h3
      · rw [Int.neg_neg] at h3; exact h3.2 h
      · exact h3.1 h
    have hv : cval c a = 0 := by
      unfold cval
      rw [if_neg, if_neg]
      · intro hall
        have := List.all_eq_true.1 hall _ hm2.1
        have h5 := hm2.2
        rw [this] at h5; simp at h5
      · intro hany
        obtain ⟨l, hl1, hl2⟩ := List.any_eq_true.1 hany
        have hla : l ∈ a := by simpa using hl2
        have hl0 := (litB_spec.1 (clB_mem hc hl1).1).2
        have : l ∈ opn c a := List.mem_filter.2 ⟨hl1, by simpa using fun h => strict_opp (clB_strict ha) hl0 hla h⟩
        obtain ⟨j, hj, he⟩ := mem_gd this
        obtain rfl : j = 0 := by omega
        rw [he] at hna; exact hna hla
    rw [unit_yes hv h1]; omega
  · intro h
    obtain ⟨g1, g2, g3⟩ := unit_open h
    unfold unitL at h g2 g3
    split at h
    · rename_i h2
      rw [if_pos h2] at g2 g3
      refine ⟨h2.2, opB_spec.2 ?_⟩
      unfold vr
      split
      · rw [Int.neg_neg]; exact ⟨g3, g2⟩
      · exact ⟨g2, g3⟩
    · exact absurd rfl h
theorem unit_gd {c a : List Int} (h : unitL c a ≠ 0) : unitL c a = gd (opn c a) 0 := by
  unfold unitL at h ⊢
  split at h
  · rename_i h2; rw [if_pos h2]
  · exact absurd rfl h
theorem upL_len {n : Int} (h : 0 ≤ n ∧ n ≤ 12) : (upL n).length ≤ 12 := by simp [upL]; omega
theorem opn_sm {c a : List Int} (h : SmI c) : SmI (opn c a) := fun i => by
  rcases Nat.lt_or_ge i (opn c a).length with hi | hi
  · exact h.mem (List.mem_filter.1 (show gd (opn c a) i ∈ c.filter (fun l => !decide (-l ∈ a)) from gd_mem hi)).1
  · rw [show gd (opn c a) i = 0 by unfold gd; rw [List.getElem?_eq_none hi]; rfl]; omega
def u9 (L : List (List Int)) (a : List Int) : Int := if uix L a = -1 then 0 else vr (unitL (gl L (uix L a).toNat) a)
theorem u9_found {L : List (List Int)} {a : List Int} {i : Nat} (h : uix L a = i) : u9 L a = vr (unitL (gl L i) a) := by
  unfold u9; rw [h, if_neg (by omega)]; rfl
theorem u9_none {L : List (List Int)} {a : List Int} (h : uix L a = -1) : u9 L a = 0 := by unfold u9; rw [h, if_pos rfl]
def nextV (b : Bool) (vs : List Int) (L : List (List Int)) (a : List Int) : Int := if (b && decide (u9 L a > 0)) = true then u9 L a else fopen vs a
end Go.Av
namespace Go.Av
open Go Go.Proofs Go.Sort
set_option maxRecDepth 10000
theorem fopen_c (vs a : List Int) (hs : SmI vs) (hvl : vs.length ≤ 1048576) (ha : a.length ≤ 1048576) : ACall Tryz.prog 33 [.sl (icells vs) vs.length, .sl (icells a) a.length] [] (.int .i64 (fopen vs a)) [] := by
 refine ACall.intro Tryz.func33 rfl (N := 26) rfl (by decide) (by simp) ?_
 refine a_seq ?_
 refine a_region ?_
 refine rv (v := .int _ _) (v_assign il nf) ?_
 refine r_nil ?_
 refine a_seq ?_
 refine a_seq ?_
 refine a_region ?_
 refine rv (v := .sl _ _) (v_move il nf) ?_
 refine rv (v := .int _ _) (v_len_sl sl25 il) ?_
 refine rv (v := .int _ _) (v_move il nf) ?_
 refine r_nil ?_
 refine a_block ?_
 refine a_loop (X := Nat) (fun i => look [(1, .sl (icells a) a.length), (7, .sl (icells vs) vs.length), (8, .int .i64 ((vs.length : Nat) : Int)), (9, .int .i64 ((i : Nat) : Int))]) (fun i => i ≤ vs.length ∧ ∀ j, j < i → opB a (gd vs j) = false) (fun i => vs.length - i) 0 (ent_look ⟨Weak.of_eq rfl, Weak.of_eq rfl, Weak.of_eq rfl, Weak.of_eq rfl, trivial⟩) ⟨Nat.zero_le _, fun j h => by omega⟩ (fun i hG => ?_)
 obtain ⟨g1, g2⟩ := hG
 have hsi := hs i
 refine a_seq ?_
 refine a_region ?_
 refine rv (v := .bool _) (v_lss il il) ?_
 refine r_nil ?_
 refine a_seq ?_
 refine a_cond rfl (fun ht10 => ?_) (fun ht10 => ?_)
 ·
  skip
  refine a_skip ?_
  refine a_seq ?_
  refine a_block ?_
  refine a_seq ?_
  have hi : i < vs.length := (by simp at ht10; omega)
  refine a_region ?_
  refine rv (v := .pp _ _) (v_indexAddr_sl es25 il il (fun _ => ⟨by omega, by omega, icells_ne hi⟩)) ?_
  refine rv (v := .int .i64 (gd vs i)) (v_load_pp ta3 il (fun _ => by rw [Nat.mul_one]; exact icells_get (gd_get hi)) rfl) ?_
  refine rv (v := .int _ _) (v_assign il nf) ?_
  refine r_nil ?_
  refine a_seq ?_
  have hob : (bif !decide ((gd vs i) ∈ a) then !decide (-(gd vs i) ∈ a) else false) = opB a (gd vs i) := (by unfold opB; cases decide ((gd vs i) ∈ a) <;> simp)
  refine a_region ?_
  refine rv (v := .sl _ _) (v_move il nf) ?_
  refine rv (v := .int _ _) (v_move il nf) ?_
  refine rn (v := .bool _) (q_call (vs := [.sl _ _, .int _ _]) (args := [.sl _ _, .int .i64 _]) hb59 ⟨il, il, trivial⟩ rfl (fun hA => contains_c _ _ (by omega)) rfl rfl) ?_
  refine rv (v := .bool _) (v_not il) ?_
  refine rv (v := .bool _) (v_move il nf) ?_
  refine r_gval (v := .sl _ _) (v_move il nf) rfl rfl rfl (by decide) (.inl ⟨_, rfl, rfl⟩) rfl (by decide) ?_
  refine r_gval (v := .int _ _) (v_move il nf) rfl rfl rfl (by decide) (.inl ⟨_, rfl, rfl⟩) rfl (by decide) ?_
  refine r_gval (v := .int _ _) (v_neg (.inr ⟨_, rfl, fun h => h⟩) (fun _ => by omega)) rfl rfl rfl (by decide) (.inl ⟨_, rfl, rfl⟩) rfl (by decide) ?_
  refine r_guard (v := .bool _) (q_call (vs := [.sl _ _, .int _ _]) (args := [.sl _ _, .int .i64 _]) hb59 ⟨.inr ⟨_, rfl, fun h => h⟩, .inr ⟨_, rfl, fun h => h⟩, trivial⟩ rfl (fun hA => contains_c _ _ (by omega)) rfl rfl) rfl rfl rfl (by decide) (.inl ⟨_, rfl, rfl⟩) rfl (by decide) ?_
  refine r_gval (v := .bool _) (v_not (.inr ⟨_, rfl, fun h => h⟩)) rfl rfl rfl (by decide) (.inl ⟨_, rfl, rfl⟩) rfl (by decide) ?_
  refine rv (v := .bool _) (v_pick (.inl rfl) (.inr ⟨_, rfl, fun h h2 => by simp_all⟩) (.inl rfl)) ?_
  refine r_nil ?_
  refine a_cond rfl (fun ht23 => ?_) (fun ht23 => ?_)
  ·
   skip
   refine a_seq ?_
   refine a_region ?_
   refine rv (v := .int _ _) (v_move il nf) ?_
   refine rv (v := .int _ _) (v_assign il nf) ?_
   refine r_nil ?_
   refine a_ret ?_
   refine ret1 Tryz.results33 (by decide) (by decide) (Weak.of_eq (int_eq ?_)) rfl Leaves.nil
   exact (fopen_found hi (by rw [← hob]; exact ht23) g2).symm
  ·
   skip
   refine a_skip ?_
   refine a_region ?_
   refine rv (v := .int _ _) (v_add il il (fun _ => by omega)) ?_
   refine rv (v := .int _ _) (v_move il nf) ?_
   refine r_nil ?_
   refine ⟨i + 1, ent_look ⟨Weak.of_eq rfl, Weak.of_eq rfl, Weak.of_eq rfl, Weak.of_eq (int_eq (by omega)), trivial⟩, ⟨by omega, ok_stepF (p := fun j => opB a (gd vs j)) g2 (by rw [← hob]; exact ht23)⟩, by omega⟩
 ·
  skip
  refine a_exit ?_
  refine a_seq ?_
  refine a_region ?_
  refine rv (v := .int _ _) (v_assign il nf) ?_
  refine r_nil ?_
  refine a_ret ?_
  refine ret1 Tryz.results33 (by decide) (by decide) (Weak.of_eq (int_eq ?_)) rfl Leaves.nil
  simp at ht10; exact (fopen_none (fun j hj => g2 j (by omega))).symm
theorem upTo9_c (n : Int) (hn : 0 ≤ n ∧ n ≤ 12) : ACall Tryz.prog 57 [.int .i64 n] [] (.osl 1 (icells (upL n)) (upL n).length none) [] := by
 refine ACall.intro Tryz.func57 rfl (N := 15) rfl (by decide) (by simp) ?_
 refine a_seq ?_
 refine a_region ?_
 refine rv (v := .nils) (v_assign il nf) ?_
 refine r_nil ?_
 refine a_seq ?_
 refine a_region ?_
 refine rv (v := .nils) (v_assign il nf) ?_
 refine r_nil ?_
 refine a_seq ?_
 refine a_seq ?_
 refine a_region ?_
 refine rv (v := .int _ _) (v_assign il nf) ?_
 refine r_nil ?_
 refine a_block ?_
 refine a_pre (ent_nil (t := 3) (sz := 1) (cap := none) (.inl rfl) (fun _ h => by cases h)) ?_
 refine a_loop (X := Nat) (fun k => look [(0, .int .i64 n), (3, .osl 1 (icells (upP k)) (upP k).length none), (4, .int .i64 ((k + 1 : Nat) : Int))]) (fun k => (k : Int) ≤ n) (fun k => n.toNat - k) 0 (ent_look ⟨Weak.of_eq rfl, Weak.osl rfl rfl, Weak.of_eq rfl, trivial⟩) (by omega) (fun k hG => ?_)
 have hul := upP_len k
 refine a_seq ?_
 refine a_seq ?_
 refine a_region ?_
 refine rv (v := .int _ _) (v_move il nf) ?_
 refine rv (v := .int _ _) (v_move il nf) ?_
 refine rv (v := .bool _) (v_leq il il) ?_
 refine r_nil ?_
 refine a_cond rfl (fun ht7 => ?_) (fun ht7 => ?_)
 ·
  skip
  refine a_skip ?_
  refine a_seq ?_
  refine a_block ?_
  have hi : ((k + 1 : Nat) : Int) ≤ n := (by simpa using ht7)
  refine a_region ?_
  refine rv (v := .rsl _ _ _ _ _) (v_move il nf) ?_
  refine rv (v := .int _ _) (v_move il nf) ?_
  refine rn (v := .osl 1 (icells [((k + 1 : Nat) : Int)]) 1 (some 1)) (q_sliceLit (n := 1) (parts := [(0, .tmp 11)]) lt25 rfl rfl rfl rfl) ?_
  refine r_pre (ent_reloc_sl (t := 10) rfl rfl) ?_
  refine r_step rfl (o_append rfl ap25 rfl (by decide) (by decide) rfl (src_lit (.inl rfl) rfl rfl (ic_pureL _)) (ic_cell _) (by rw [icells_length]; omega) (by omega)) ?_
  refine rv (v := .rsl _ _ _ _ _) (v_assign il nf) ?_
  refine r_pre (ent_reloc_sl (t := 3) rfl rfl) ?_
  refine r_nil ?_
  refine a_region ?_
  refine rv (v := .int _ _) (v_move il nf) ?_
  refine rv (v := .int _ _) (v_add il il (fun _ => by omega)) ?_
  refine rv (v := .int _ _) (v_assign il nf) ?_
  refine r_nil ?_
  refine ⟨k + 1, ent_look ⟨Weak.of_eq rfl, Weak.osl (by rw [upP_succ, icells_append] <;> rfl) (by rw [upP_succ]; simp), Weak.of_eq (int_eq (by omega)), trivial⟩, by omega, by omega⟩
 ·
  skip
  refine a_exit ?_
  refine a_seq ?_
  refine a_region ?_
  refine rv (v := .rsl _ _ _ _ _) (v_move il nf) ?_
  refine rv (v := .rsl _ _ _ _ _) (v_assign il nf) ?_
  refine r_pre (ent_reloc_sl (t := 2) rfl rfl) ?_
  refine r_nil ?_
  refine a_ret ?_
  refine ret1 Tryz.results57 (by decide) (by decide) (Weak.osl ?_ ?_) rfl Leaves.nil
  all_goals (rw [upL_eq (n := n) (.inl (by simp at ht7; omega))])
end Go.Av
namespace Go.Av
open Go Go.Proofs Go.Sort
set_option maxRecDepth 10000
theorem open9_c (a : List Int) (v : Int) (ha : a.length ≤ 1048576) (hv : -4611686018427387904 ≤ v ∧ v ≤ 4611686018427387904) : ACall Tryz.prog 38 [.sl (icells a) a.length, .int .i64 v] [] (.bool (opB a v)) [] := by
 refine ACall.intro Tryz.func38 rfl (N := 16) rfl (by decide) (by simp) ?_
 refine a_seq ?_
 refine a_region ?_
 refine rv (v := .bool _) (v_assign il nf) ?_
 refine r_nil ?_
 refine a_seq ?_
 refine a_region ?_
 refine rv (v := .sl _ _) (v_move il nf) ?_
 refine rv (v := .int _ _) (v_move il nf) ?_
 refine rn (v := .bool _) (q_call (vs := [.sl _ _, .int _ _]) (args := [.sl _ _, .int .i64 _]) hb65 ⟨il, il, trivial⟩ rfl (fun hA => has2_c _ _ _ ⟨rfl, by omega⟩) rfl rfl) ?_
 refine rv (v := .bool _) (v_not il) ?_
 refine rv (v := .bool _) (v_move il nf) ?_
 refine r_gval (v := .sl _ _) (v_move il nf) rfl rfl rfl (by decide) (.inl ⟨_, rfl, rfl⟩) rfl (by decide) ?_
 refine r_gval (v := .int _ _) (v_move il nf) rfl rfl rfl (by decide) (.inl ⟨_, rfl, rfl⟩) rfl (by decide) ?_
 refine r_gval (v := .int _ _) (v_neg (.inr ⟨_, rfl, fun h => h⟩) (fun _ => by omega)) rfl rfl rfl (by decide) (.inl ⟨_, rfl, rfl⟩) rfl (by decide) ?_
 refine r_guard (v := .bool _) (q_call (vs := [.sl _ _, .int _ _]) (args := [.sl _ _, .int .i64 _]) hb65 ⟨.inr ⟨_, rfl, fun h => h⟩, .inr ⟨_, rfl, fun h => h⟩, trivial⟩ rfl (fun hA => has2_c _ _ _ ⟨rfl, by omega⟩) rfl rfl) rfl rfl rfl (by decide) (.inl ⟨_, rfl, rfl⟩) rfl (by decide) ?_
 refine r_gval (v := .bool _) (v_not (.inr ⟨_, rfl, fun h => h⟩)) rfl rfl rfl (by decide) (.inl ⟨_, rfl, rfl⟩) rfl (by decide) ?_
 refine rv (v := .bool _) (v_pick (.inl rfl) (.inr ⟨_, rfl, fun h h2 => by simp_all⟩) (.inl rfl)) ?_
 refine rv (v := .bool _) (v_assign il nf) ?_
 refine r_nil ?_
 refine a_ret ?_
 refine ret1 Tryz.results38 (by decide) (by decide) (Weak.of_eq (bool_eq ?_)) rfl Leaves.nil
 unfold opB; cases decide (v ∈ a) <;> simp
end Go.Av
namespace Go.Av
open Go Go.Proofs Go.Sort
set_option maxRecDepth 10000
theorem fo49_0 : fieldOff Tryz.prog 49 0 = some 0 := by kernel_rfl
theorem fo49_1 : fieldOff Tryz.prog 49 1 = some 1 := by kernel_rfl
theorem fo49_2 : fieldOff Tryz.prog 49 2 = some 2 := by kernel_rfl
theorem hb38 : hasBody Tryz.prog 38 = true := by kernel_rfl
theorem hb77 : hasBody Tryz.prog 77 = true := by kernel_rfl
theorem ta4 : tyAgg Tryz.prog 4 = some (false, 1) := by kernel_rfl
theorem false9h_c (vars : Int) (L : List (List Int)) (a : List Int) (hcl : ∀ i, i < L.length → clB vars (gl L i) = true) (hL : L.length ≤ 1048576) (ha : a.length ≤ 1048576) : ACall Tryz.prog 50 [.agg [.int .i64 vars, .sl (sls L) L.length], .sl (icells a) a.length] [] (.int .i64 (ffL L a)) [] := by
 refine ACall.intro Tryz.func50 rfl (N := 22) rfl (by decide) (by simp) ?_
 refine a_seq ?_
 refine a_region ?_
 refine rn (v := .op [.int _ _, .sl _ _]) (q_box il rfl rfl) ?_
 refine rv (v := .int _ _) (v_assign il nf) ?_
 refine r_nil ?_
 refine a_seq ?_
 refine a_seq ?_
 refine a_region ?_
 refine rv (v := .int _ _) (v_assign il nf) ?_
 refine r_nil ?_
 refine a_block ?_
 refine a_loop (X := Nat) (fun i => look [(1, .sl (icells a) a.length), (2, .op [.int .i64 vars, .sl (sls L) L.length]), (5, .int .i64 ((i : Nat) : Int))]) (fun i => i ≤ L.length ∧ ∀ j, j < i → decide (cval (gl L j) a < 0) = false) (fun i => L.length - i) 0 (ent_look ⟨Weak.of_eq rfl, Weak.of_eq rfl, Weak.of_eq rfl, trivial⟩) ⟨Nat.zero_le _, fun j h => by omega⟩ (fun i hG => ?_)
 obtain ⟨g1, g2⟩ := hG
 refine a_seq ?_
 refine a_seq ?_
 refine a_region ?_
 refine rv (v := .int _ _) (v_move il nf) ?_
 refine rv (v := .rp _ _) (v_fieldAddr_rp fo30_1 il) ?_
 refine rv (v := .sl _ _) (v_load_rp1 ta22 il rfl (fun _ => rfl) rfl) ?_
 refine rv (v := .int _ _) (v_len_sl sl22 il) ?_
 refine rv (v := .bool _) (v_lss il il) ?_
 refine r_nil ?_
 refine a_cond rfl (fun ht10 => ?_) (fun ht10 => ?_)
 ·
  skip
  refine a_skip ?_
  refine a_seq ?_
  refine a_block ?_
  refine a_seq ?_
  have hi : i < L.length := (by simp at ht10; omega)
  have hcl9 := clB_len (hcl i hi)
  refine a_region ?_
  refine rv (v := .rp _ _) (v_fieldAddr_rp fo30_1 il) ?_
  refine rv (v := .sl _ _) (v_load_rp1 ta22 il rfl (fun _ => rfl) rfl) ?_
  refine rv (v := .int _ _) (v_move il nf) ?_
  refine rv (v := .pp _ _) (v_indexAddr_sl es22 il il (fun _ => ⟨by omega, by omega, sls_ne hi⟩)) ?_
  refine rv (v := .sl (icells (gl L i)) (gl L i).length) (v_load_pp ta25 il (fun _ => by rw [Nat.mul_one]; exact sls_get hi) rfl) ?_
  refine rv (v := .sl _ _) (v_move il nf) ?_
  refine rn (v := .int _ _) (q_call (vs := [.sl _ _, .sl _ _]) (args := [.sl _ _, .sl _ _]) hb76 ⟨il, il, trivial⟩ rfl (fun hA => sClv_c (gl L i) a (clB_sm (hcl i hi)) (by omega) ha) rfl rfl) ?_
  refine rv (v := .bool _) (v_lss il il) ?_
  refine r_nil ?_
  refine a_cond rfl (fun ht20 => ?_) (fun ht20 => ?_)
  ·
   skip
   refine a_seq ?_
   refine a_region ?_
   refine rv (v := .int _ _) (v_move il nf) ?_
   refine rv (v := .int _ _) (v_assign il nf) ?_
   refine r_nil ?_
   refine a_ret ?_
   refine ret1 Tryz.results50 (by decide) (by decide) (Weak.of_eq (int_eq ?_)) rfl Leaves.nil
   exact (fidx_found (p := (fun c => decide (cval (gl L c) a < 0))) hi ht20 g2).symm
  ·
   skip
   refine a_skip ?_
   refine a_region ?_
   refine rv (v := .int _ _) (v_move il nf) ?_
   refine rv (v := .int _ _) (v_add il il (fun _ => by omega)) ?_
   refine rv (v := .int _ _) (v_assign il nf) ?_
   refine r_nil ?_
   refine ⟨i + 1, ent_look ⟨Weak.of_eq rfl, Weak.of_eq rfl, Weak.of_eq (int_eq (by omega)), trivial⟩, ⟨by omega, ok_stepF (p := (fun c => decide (cval (gl L c) a < 0))) g2 ht20⟩, by omega⟩
 ·
  skip
  refine a_exit ?_
  refine a_seq ?_
  refine a_region ?_
  refine rv (v := .int _ _) (v_assign il nf) ?_
  refine r_nil ?_
  refine a_ret ?_
  refine ret1 Tryz.results50 (by decide) (by decide) (Weak.of_eq (int_eq ?_)) rfl Leaves.nil
  simp at ht10; exact (fidx_none (p := (fun c => decide (cval (gl L c) a < 0))) (fun j hj => g2 j (by omega))).symm
theorem unit9_c (vars : Int) (L : List (List Int)) (a : List Int) (hcl : ∀ i, i < L.length → clB vars (gl L i) = true) (hL : L.length ≤ 60) (hca : clB vars a = true) : ACall Tryz.prog 77 [.agg [.int .i64 vars, .sl (sls L) L.length], .sl (icells a) a.length] [] (.int .i64 (u9 L a)) [] := by
 have hla := clB_len hca
 refine ACall.intro Tryz.func77 rfl (N := 58) rfl (by decide) (by simp) ?_
 refine a_seq ?_
 refine a_region ?_
 refine rn (v := .op [.int _ _, .sl _ _]) (q_box il rfl rfl) ?_
 refine rv (v := .int _ _) (v_assign il nf) ?_
 refine r_nil ?_
 refine a_seq ?_
 refine a_seq ?_
 refine a_region ?_
 refine rv (v := .int _ _) (v_assign il nf) ?_
 refine r_nil ?_
 refine a_block ?_
 refine a_loop (X := Nat) (fun i => look [(1, .sl (icells a) a.length), (2, .op [.int .i64 vars, .sl (sls L) L.length]), (5, .int .i64 ((i : Nat) : Int))]) (fun i => i ≤ L.length ∧ ∀ j, j < i → decide (unitL (gl L j) a ≠ 0) = false) (fun i => L.length - i) 0 (ent_look ⟨Weak.of_eq rfl, Weak.of_eq rfl, Weak.of_eq rfl, trivial⟩) ⟨Nat.zero_le _, fun j h => by omega⟩ (fun i hG => ?_)
 obtain ⟨g1, g2⟩ := hG
 refine a_seq ?_
 refine a_seq ?_
 refine a_region ?_
 refine rv (v := .int _ _) (v_move il nf) ?_
 refine rv (v := .rp _ _) (v_fieldAddr_rp fo30_1 il) ?_
 refine rv (v := .sl _ _) (v_load_rp1 ta22 il rfl (fun _ => rfl) rfl) ?_
 refine rv (v := .int _ _) (v_len_sl sl22 il) ?_
 refine rv (v := .bool _) (v_lss il il) ?_
 refine r_nil ?_
 refine a_cond rfl (fun ht13 => ?_) (fun ht13 => ?_)
 ·
  skip
  refine a_skip ?_
  refine a_seq ?_
  refine a_block ?_
  refine a_seq ?_
  have hi : i < L.length := (by simp at ht13; omega)
  have hci := hcl i hi
  have hlc := clB_len hci
  refine a_region ?_
  refine rn (v := .osl _ _ _ _) (q_sliceLit (n := 0) (parts := []) lt25 rfl rfl rfl rfl) ?_
  refine rv (v := .rsl _ _ _ _ _) (v_assign il nf) ?_
  refine r_pre (ent_reloc_sl (t := 6) rfl rfl) ?_
  refine r_nil ?_
  refine a_seq ?_
  refine a_region ?_
  refine rv (v := .rp _ _) (v_fieldAddr_rp fo30_1 il) ?_
  refine rv (v := .sl _ _) (v_load_rp1 ta22 il rfl (fun _ => rfl) rfl) ?_
  refine rv (v := .int _ _) (v_move il nf) ?_
  refine rv (v := .pp _ _) (v_indexAddr_sl es22 il il (fun _ => ⟨by omega, by omega, sls_ne hi⟩)) ?_
  refine rv (v := .sl (icells (gl L i)) (gl L i).length) (v_load_pp ta25 il (fun _ => by rw [Nat.mul_one]; exact sls_get hi) rfl) ?_
  refine rv (v := .sl _ _) (v_assign il nf) ?_
  refine r_nil ?_
  refine a_seq ?_
  refine a_seq ?_
  refine a_region ?_
  refine rv (v := .int _ _) (v_assign il nf) ?_
  refine r_nil ?_
  refine a_block ?_
  refine a_loop (X := Nat) (fun k => look [(1, .sl (icells a) a.length), (2, .op [.int .i64 vars, .sl (sls L) L.length]), (5, .int .i64 ((i : Nat) : Int)), (6, .osl 1 (icells (opn ((gl L i).take k) a)) (opn ((gl L i).take k) a).length none), (7, .sl (icells (gl L i)) (gl L i).length), (8, .int .i64 ((k : Nat) : Int))]) (fun k => k ≤ (gl L i).length) (fun k => (gl L i).length - k) 0 (ent_look ⟨Weak.of_eq rfl, Weak.of_eq rfl, Weak.of_eq rfl, Weak.osl rfl rfl, Weak.of_eq rfl, Weak.of_eq rfl, trivial⟩) (Nat.zero_le _) (fun k hG => ?_)
  have hsk := clB_sm hci k
  have hol := opn_len ((gl L i).take k) a
  have htk : ((gl L i).take k).length = k := (by rw [List.length_take]; omega)
  refine a_seq ?_
  refine a_seq ?_
  refine a_region ?_
  refine rv (v := .int _ _) (v_move il nf) ?_
  refine rv (v := .sl _ _) (v_move il nf) ?_
  refine rv (v := .int _ _) (v_len_sl sl25 il) ?_
  refine rv (v := .bool _) (v_lss il il) ?_
  refine r_nil ?_
  refine a_cond rfl (fun ht25 => ?_) (fun ht25 => ?_)
  ·
   skip
   refine a_skip ?_
   refine a_seq ?_
   refine a_block ?_
   refine a_seq ?_
   have hk2 : k < (gl L i).length := (by simp at ht25; omega)
   refine a_region ?_
   refine rv (v := .sl _ _) (v_move il nf) ?_
   refine rv (v := .sl _ _) (v_move il nf) ?_
   refine rv (v := .int _ _) (v_move il nf) ?_
   refine rv (v := .pp _ _) (v_indexAddr_sl es25 il il (fun _ => ⟨by omega, by omega, icells_ne hk2⟩)) ?_
   refine rv (v := .int .i64 (gd (gl L i) k)) (v_load_pp ta3 il (fun _ => by rw [Nat.mul_one]; exact icells_get (gd_get hk2)) rfl) ?_
   refine rv (v := .int _ _) (v_neg il (fun _ => by omega)) ?_
   refine rn (v := .bool _) (q_call (vs := [.sl _ _, .int _ _]) (args := [.sl _ _, .int .i64 _]) hb65 ⟨il, il, trivial⟩ rfl (fun hA => has2_c _ _ _ ⟨rfl, by omega⟩) rfl rfl) ?_
   refine rv (v := .bool _) (v_not il) ?_
   refine r_nil ?_
   refine a_cond rfl (fun ht35 => ?_) (fun ht35 => ?_)
   ·
    skip
    refine a_region ?_
    refine rv (v := .rsl _ _ _ _ _) (v_move il nf) ?_
    refine rv (v := .sl _ _) (v_move il nf) ?_
    refine rv (v := .int _ _) (v_move il nf) ?_
    refine rv (v := .pp _ _) (v_indexAddr_sl es25 il il (fun _ => ⟨by omega, by omega, icells_ne hk2⟩)) ?_
    refine rv (v := .int .i64 (gd (gl L i) k)) (v_load_pp ta3 il (fun _ => by rw [Nat.mul_one]; exact icells_get (gd_get hk2)) rfl) ?_
    refine rn (v := .osl 1 (icells [(gd (gl L i) k)]) 1 (some 1)) (q_sliceLit (n := 1) (parts := [(0, .tmp 40)]) lt25 rfl rfl rfl rfl) ?_
    refine r_pre (ent_reloc_sl (t := 36) rfl rfl) ?_
    refine r_step rfl (o_append rfl ap25 rfl (by decide) (by decide) rfl (src_lit (.inl rfl) rfl rfl (ic_pureL _)) (ic_cell _) (by rw [icells_length]; omega) (by omega)) ?_
    refine rv (v := .rsl _ _ _ _ _) (v_assign il nf) ?_
    refine r_pre (ent_reloc_sl (t := 6) rfl rfl) ?_
    refine r_nil ?_
    refine a_region ?_
    refine rv (v := .int _ _) (v_move il nf) ?_
    refine rv (v := .int _ _) (v_add il il (fun _ => by omega)) ?_
    refine rv (v := .int _ _) (v_assign il nf) ?_
    refine r_nil ?_
    refine ⟨k + 1, ent_look ⟨Weak.of_eq rfl, Weak.of_eq rfl, Weak.of_eq rfl, Weak.osl (by rw [opn_succ hk2, if_neg (by simpa using ht35), icells_append] <;> rfl) (by rw [opn_succ hk2, if_neg (by simpa using ht35)]; simp), Weak.of_eq rfl, Weak.of_eq (int_eq (by omega)), trivial⟩, by omega, by omega⟩
   ·
    skip
    refine a_skip ?_
    refine a_region ?_
    refine rv (v := .int _ _) (v_move il nf) ?_
    refine rv (v := .int _ _) (v_add il il (fun _ => by omega)) ?_
    refine rv (v := .int _ _) (v_assign il nf) ?_
    refine r_nil ?_
    refine ⟨k + 1, ent_look ⟨Weak.of_eq rfl, Weak.of_eq rfl, Weak.of_eq rfl, Weak.osl (by rw [opn_succ hk2, if_pos (by simpa using ht35)]) (by rw [opn_succ hk2, if_pos (by simpa using ht35)]), Weak.of_eq rfl, Weak.of_eq (int_eq (by omega)), trivial⟩, by omega, by omega⟩
  ·
   skip
   refine a_exit ?_
   refine a_seq ?_
   have hkl : (gl L i).take k = gl L i := List.take_of_length_le (by simp at ht25; omega)
   refine a_pre (ent_eq (t := 6) (v' := .osl 1 (icells (opn (gl L i) a)) (opn (gl L i) a).length none) (Weak.osl (by rw [hkl]) (by rw [hkl]))) ?_
   have hso := opn_sm (a := a) (clB_sm hci) 0
   refine a_region ?_
   refine rv (v := .rsl _ _ _ _ _) (v_move il nf) ?_
   refine rv (v := .int _ _) (v_len_rsl sl25 il) ?_
   refine rv (v := .bool _) (v_eql il il) ?_
   refine rv (v := .bool _) (v_move il nf) ?_
   refine r_gval (v := .sl _ _) (v_move il nf) rfl rfl rfl (by decide) (.inl ⟨_, rfl, rfl⟩) rfl (by decide) ?_
   refine r_gval (v := .rsl _ _ _ _ _) (v_move il nf) rfl rfl rfl (by decide) (.inl ⟨_, rfl, rfl⟩) rfl (by decide) ?_
   refine r_gval (v := .rp _ _) (v_indexAddr_rsl0 es25 (.inr ⟨_, rfl, fun h => h⟩) il (fun hA => by simp at hA; omega)) rfl rfl rfl (by decide) (.inl ⟨_, rfl, rfl⟩) rfl (by decide) ?_
   refine r_gval (v := .int .i64 (gd (opn (gl L i) a) 0)) (v_load_rp1 ta3 (.inr ⟨_, rfl, fun h => h⟩) rfl (fun hA => by simp at hA; exact icells_get (gd_get (by omega))) rfl) rfl rfl rfl (by decide) (.inl ⟨_, rfl, rfl⟩) rfl (by decide) ?_
   refine r_guard (v := .int _ _) (q_call (vs := [.int _ _]) (args := [.int .i64 _]) hb60 ⟨.inr ⟨_, rfl, fun h => h⟩, trivial⟩ rfl (fun hA => l2Var_c _ (by omega)) rfl rfl) rfl rfl rfl (by decide) (.inl ⟨_, rfl, rfl⟩) rfl (by decide) ?_
   refine r_guard (v := .bool _) (q_call (vs := [.sl _ _, .int _ _]) (args := [.sl _ _, .int .i64 _]) hb38 ⟨.inr ⟨_, rfl, fun h => h⟩, .inr ⟨_, rfl, fun h => h⟩, trivial⟩ rfl (fun hA => open9_c a (vr (gd (opn (gl L i) a) 0)) (by omega) (by unfold vr; split <;> omega)) rfl rfl) rfl rfl rfl (by decide) (.inl ⟨_, rfl, rfl⟩) rfl (by decide) ?_
   refine rv (v := .bool _) (v_pick (.inl rfl) (.inr ⟨_, rfl, fun h h2 => by simp_all⟩) (.inl rfl)) ?_
   refine r_nil ?_
   refine a_cond rfl (fun ht53 => ?_) (fun ht53 => ?_)
   ·
    skip
    refine a_seq ?_
    have hun : unitL (gl L i) a ≠ 0 := (unit_iff hci hca).1 (by cases h1 : decide (((opn (gl L i) a).length : Int) = 1) with
  | true => rw [h1] at ht53; exact ⟨by have := of_decide_eq_true h1; omega, by simpa using ht53⟩
  | false => rw [h1] at ht53; simp at ht53)
    have hux : uix L a = i := fidx_found (p := (fun c => decide (unitL (gl L c) a ≠ 0))) hi (by simpa using hun) g2
    have hl1 := ((unit_iff hci hca).2 hun).1
    refine a_region ?_
    refine rv (v := .rsl _ _ _ _ _) (v_move il nf) ?_
    refine rv (v := .rp _ _) (v_indexAddr_rsl0 es25 il il (fun _ => by omega)) ?_
    refine rv (v := .int .i64 (gd (opn (gl L i) a) 0)) (v_load_rp1 ta3 il rfl (fun _ => icells_get (gd_get (by omega))) rfl) ?_
    refine rn (v := .int _ _) (q_call (vs := [.int _ _]) (args := [.int .i64 _]) hb60 ⟨il, trivial⟩ rfl (fun hA => l2Var_c _ (by omega)) rfl rfl) ?_
    refine rv (v := .int _ _) (v_assign il nf) ?_
    refine r_nil ?_
    refine a_ret ?_
    refine ret1 Tryz.results77 (by decide) (by decide) (Weak.of_eq (int_eq ?_)) rfl Leaves.nil
    rw [u9_found hux, unit_gd hun]
   ·
    skip
    refine a_skip ?_
    refine a_region ?_
    refine rv (v := .int _ _) (v_move il nf) ?_
    refine rv (v := .int _ _) (v_add il il (fun _ => by omega)) ?_
    refine rv (v := .int _ _) (v_assign il nf) ?_
    refine r_nil ?_
    have hnu : decide (unitL (gl L i) a ≠ 0) = false := (by rw [decide_eq_false_iff_not]; intro h; have h9 := (unit_iff hci hca).2 h; rw [decide_eq_true (show (((opn (gl L i) a).length : Int) = 1) by omega), h9.2] at ht53; simp at ht53)
    refine ⟨i + 1, ent_look ⟨Weak.of_eq rfl, Weak.of_eq rfl, Weak.of_eq (int_eq (by omega)), trivial⟩, ⟨by omega, ok_stepF (p := (fun c => decide (unitL (gl L c) a ≠ 0))) g2 hnu⟩, by omega⟩
 ·
  skip
  refine a_exit ?_
  refine a_seq ?_
  refine a_region ?_
  refine rv (v := .int _ _) (v_assign il nf) ?_
  refine r_nil ?_
  refine a_ret ?_
  refine ret1 Tryz.results77 (by decide) (by decide) (Weak.of_eq (int_eq ?_)) rfl Leaves.nil
  simp at ht13; exact (u9_none (fidx_none (p := (fun c => decide (unitL (gl L c) a ≠ 0))) (fun j hj => g2 j (by omega)))).symm
theorem next9_c (vars : Int) (L : List (List Int)) (a : List Int) (hcl : ∀ i, i < L.length → clB vars (gl L i) = true) (hL : L.length ≤ 60) (hca : clB vars a = true) (b : Bool) (vs : List Int) (hvs : SmI vs) (hvl : vs.length ≤ 1048576) : ACall Tryz.prog 51 [.agg [.int .i64 vars, .sl (sls L) L.length], .sl (icells a) a.length, .agg [.sl (icells vs) vs.length, .bool b, .sl [] 0]] [] (.int .i64 (nextV b vs L a)) [] := by
 have hla := clB_len hca
 refine ACall.intro Tryz.func51 rfl (N := 74) rfl (by decide) (by simp) ?_
 refine a_seq ?_
 refine a_region ?_
 refine rn (v := .op [.int _ _, .sl _ _]) (q_box il rfl rfl) ?_
 refine rn (v := .op [.sl _ _, .bool _, .sl _ _]) (q_box il rfl rfl) ?_
 refine rv (v := .int _ _) (v_assign il nf) ?_
 refine r_nil ?_
 refine a_seq ?_
 refine a_seq ?_
 refine a_region ?_
 refine rv (v := .rp _ _) (v_fieldAddr_rp fo49_1 il) ?_
 refine rv (v := .bool _) (v_load_rp1 ta4 il rfl (fun _ => rfl) rfl) ?_
 refine r_nil ?_
 refine a_cond rfl (fun ht15 => ?_) (fun ht15 => ?_)
 ·
  skip
  refine a_seq ?_
  refine a_region ?_
  refine rv (v := .agg [.int _ _, .sl _ _]) (v_load_rpa1 ta30 il rfl rfl (fun _ => rfl) rfl) ?_
  refine rv (v := .sl _ _) (v_move il nf) ?_
  refine rn (v := .int _ _) (q_call (vs := [.agg [.int _ _, .sl _ _], .sl _ _]) (args := [.agg [.int .i64 _, .sl _ _], .sl _ _]) hb77 ⟨il, il, trivial⟩ rfl (fun hA => unit9_c vars L a hcl hL hca) rfl rfl) ?_
  refine rv (v := .int _ _) (v_assign il nf) ?_
  refine r_nil ?_
  refine a_seq ?_
  refine a_region ?_
  refine rv (v := .int _ _) (v_move il nf) ?_
  refine rv (v := .bool _) (v_gtr il il) ?_
  refine r_nil ?_
  refine a_cond rfl (fun ht20 => ?_) (fun ht20 => ?_)
  ·
   skip
   refine a_seq ?_
   refine a_region ?_
   refine rv (v := .int _ _) (v_move il nf) ?_
   refine rv (v := .int _ _) (v_assign il nf) ?_
   refine r_nil ?_
   refine a_ret ?_
   refine ret1 Tryz.results51 (by decide) (by decide) (Weak.of_eq (int_eq ?_)) rfl Leaves.nil
   unfold nextV; rw [ht15, ht20]; rfl
  ·
   skip
   refine a_skip ?_
   refine a_seq ?_
   refine a_region ?_
   refine rv (v := .int _ _) (v_assign il nf) ?_
   refine r_nil ?_
   refine a_seq ?_
   refine a_seq ?_
   refine a_region ?_
   refine rv (v := .rp _ _) (v_fieldAddr_rp fo49_2 il) ?_
   refine rv (v := .sl _ _) (v_load_rp1 ta25 il rfl (fun _ => rfl) rfl) ?_
   refine rv (v := .int _ _) (v_len_sl sl25 il) ?_
   refine rv (v := .bool _) (v_gtr il il) ?_
   refine r_nil ?_
   refine a_cond rfl (fun ht25 => ?_) (fun ht25 => ?_)
   ·
    skip
    exfalso
    simp at ht25
   ·
    skip
    refine a_skip ?_
    refine a_seq ?_
    refine a_seq ?_
    refine a_region ?_
    refine rv (v := .int _ _) (v_assign il nf) ?_
    refine r_nil ?_
    refine a_block ?_
    refine a_loop (X := Nat) (fun i => look [(1, .sl (icells a) a.length), (5, .op [.sl (icells vs) vs.length, .bool b, .sl [] 0]), (9, .int .i64 ((i : Nat) : Int))]) (fun i => i ≤ vs.length ∧ ∀ j, j < i → opB a (gd vs j) = false) (fun i => vs.length - i) 0 (ent_look ⟨Weak.of_eq rfl, Weak.of_eq rfl, Weak.of_eq rfl, trivial⟩) ⟨Nat.zero_le _, fun j h => by omega⟩ (fun i hG => ?_)
    obtain ⟨g1, g2⟩ := hG
    have hsi := hvs i
    refine a_seq ?_
    refine a_seq ?_
    refine a_region ?_
    refine rv (v := .int _ _) (v_move il nf) ?_
    refine rv (v := .rp _ _) (v_fieldAddr_rp fo49_0 il) ?_
    refine rv (v := .sl _ _) (v_load_rp1 ta25 il rfl (fun _ => rfl) rfl) ?_
    refine rv (v := .int _ _) (v_len_sl sl25 il) ?_
    refine rv (v := .bool _) (v_lss il il) ?_
    refine r_nil ?_
    refine a_cond rfl (fun ht32 => ?_) (fun ht32 => ?_)
    ·
     skip
     refine a_skip ?_
     refine a_seq ?_
     refine a_block ?_
     refine a_seq ?_
     have hi : i < vs.length := (by simp at ht32; omega)
     refine a_region ?_
     refine rv (v := .rp _ _) (v_fieldAddr_rp fo49_0 il) ?_
     refine rv (v := .sl _ _) (v_load_rp1 ta25 il rfl (fun _ => rfl) rfl) ?_
     refine rv (v := .int _ _) (v_move il nf) ?_
     refine rv (v := .pp _ _) (v_indexAddr_sl es25 il il (fun _ => ⟨by omega, by omega, icells_ne hi⟩)) ?_
     refine rv (v := .int .i64 (gd vs i)) (v_load_pp ta3 il (fun _ => by rw [Nat.mul_one]; exact icells_get (gd_get hi)) rfl) ?_
     refine rv (v := .int _ _) (v_assign il nf) ?_
     refine r_nil ?_
     refine a_seq ?_
     refine a_seq ?_
     refine a_region ?_
     refine rv (v := .sl _ _) (v_move il nf) ?_
     refine rv (v := .int _ _) (v_move il nf) ?_
     refine rn (v := .bool _) (q_call (vs := [.sl _ _, .int _ _]) (args := [.sl _ _, .int .i64 _]) hb38 ⟨il, il, trivial⟩ rfl (fun hA => open9_c a (gd vs i) (by omega) (by omega)) rfl rfl) ?_
     refine rv (v := .bool _) (v_not il) ?_
     refine r_nil ?_
     refine a_cond rfl (fun ht43 => ?_) (fun ht43 => ?_)
     ·
      skip
      refine a_exit ?_
      refine a_region ?_
      refine rv (v := .int _ _) (v_move il nf) ?_
      refine rv (v := .int _ _) (v_add il il (fun _ => by omega)) ?_
      refine rv (v := .int _ _) (v_assign il nf) ?_
      refine r_nil ?_
      refine ⟨i + 1, ent_look ⟨Weak.of_eq rfl, Weak.of_eq rfl, Weak.of_eq (int_eq (by omega)), trivial⟩, ⟨by omega, ok_stepF (p := fun j => opB a (gd vs j)) g2 (by simpa using ht43)⟩, by omega⟩
     ·
      skip
      refine a_skip ?_
      refine a_seq ?_
      refine a_seq ?_
      refine a_region ?_
      refine rv (v := .rp _ _) (v_fieldAddr_rp fo49_2 il) ?_
      refine rv (v := .sl _ _) (v_load_rp1 ta25 il rfl (fun _ => rfl) rfl) ?_
      refine rv (v := .int _ _) (v_len_sl sl25 il) ?_
      refine rv (v := .bool _) (v_eql il il) ?_
      refine r_nil ?_
      refine a_cond rfl (fun ht47 => ?_) (fun ht47 => ?_)
      ·
       skip
       refine a_seq ?_
       refine a_region ?_
       refine rv (v := .int _ _) (v_move il nf) ?_
       refine rv (v := .int _ _) (v_assign il nf) ?_
       refine r_nil ?_
       refine a_ret ?_
       refine ret1 Tryz.results51 (by decide) (by decide) (Weak.of_eq (int_eq ?_)) rfl Leaves.nil
       rw [(show nextV b vs L a = fopen vs a by unfold nextV; first | (rw [ht20, Bool.and_false]; rfl) | (rw [ht15]; rfl))]; exact (fopen_found hi (by simpa using ht43) g2).symm
      ·
       skip
       refine a_skip ?_
       refine a_seq ?_
       exfalso
       simp at ht47
    ·
     skip
     refine a_exit ?_
     refine a_seq ?_
     refine a_region ?_
     refine rv (v := .int _ _) (v_assign il nf) ?_
     refine r_nil ?_
     refine a_ret ?_
     refine ret1 Tryz.results51 (by decide) (by decide) (Weak.of_eq (int_eq ?_)) rfl Leaves.nil
     rw [(show nextV b vs L a = fopen vs a by unfold nextV; first | (rw [ht20, Bool.and_false]; rfl) | (rw [ht15]; rfl))]; simp at ht32; exact (fopen_none (fun j hj => g2 j (by omega))).symm
 ·
  skip
  refine a_skip ?_
  refine a_seq ?_
  refine a_region ?_
  refine rv (v := .int _ _) (v_assign il nf) ?_
  refine r_nil ?_
  refine a_seq ?_
  refine a_seq ?_
  refine a_region ?_
  refine rv (v := .rp _ _) (v_fieldAddr_rp fo49_2 il) ?_
  refine rv (v := .sl _ _) (v_load_rp1 ta25 il rfl (fun _ => rfl) rfl) ?_
  refine rv (v := .int _ _) (v_len_sl sl25 il) ?_
  refine rv (v := .bool _) (v_gtr il il) ?_
  refine r_nil ?_
  refine a_cond rfl (fun ht25 => ?_) (fun ht25 => ?_)
  ·
   skip
   exfalso
   simp at ht25
  ·
   skip
   refine a_skip ?_
   refine a_seq ?_
   refine a_seq ?_
   refine a_region ?_
   refine rv (v := .int _ _) (v_assign il nf) ?_
   refine r_nil ?_
   refine a_block ?_
   refine a_loop (X := Nat) (fun i => look [(1, .sl (icells a) a.length), (5, .op [.sl (icells vs) vs.length, .bool b, .sl [] 0]), (9, .int .i64 ((i : Nat) : Int))]) (fun i => i ≤ vs.length ∧ ∀ j, j < i → opB a (gd vs j) = false) (fun i => vs.length - i) 0 (ent_look ⟨Weak.of_eq rfl, Weak.of_eq rfl, Weak.of_eq rfl, trivial⟩) ⟨Nat.zero_le _, fun j h => by omega⟩ (fun i hG => ?_)
   obtain ⟨g1, g2⟩ := hG
   have hsi := hvs i
   refine a_seq ?_
   refine a_seq ?_
   refine a_region ?_
   refine rv (v := .int _ _) (v_move il nf) ?_
   refine rv (v := .rp _ _) (v_fieldAddr_rp fo49_0 il) ?_
   refine rv (v := .sl _ _) (v_load_rp1 ta25 il rfl (fun _ => rfl) rfl) ?_
   refine rv (v := .int _ _) (v_len_sl sl25 il) ?_
   refine rv (v := .bool _) (v_lss il il) ?_
   refine r_nil ?_
   refine a_cond rfl (fun ht32 => ?_) (fun ht32 => ?_)
   ·
    skip
    refine a_skip ?_
    refine a_seq ?_
    refine a_block ?_
    refine a_seq ?_
    have hi : i < vs.length := (by simp at ht32; omega)
    refine a_region ?_
    refine rv (v := .rp _ _) (v_fieldAddr_rp fo49_0 il) ?_
    refine rv (v := .sl _ _) (v_load_rp1 ta25 il rfl (fun _ => rfl) rfl) ?_
    refine rv (v := .int _ _) (v_move il nf) ?_
    refine rv (v := .pp _ _) (v_indexAddr_sl es25 il il (fun _ => ⟨by omega, by omega, icells_ne hi⟩)) ?_
    refine rv (v := .int .i64 (gd vs i)) (v_load_pp ta3 il (fun _ => by rw [Nat.mul_one]; exact icells_get (gd_get hi)) rfl) ?_
    refine rv (v := .int _ _) (v_assign il nf) ?_
    refine r_nil ?_
    refine a_seq ?_
    refine a_seq ?_
    refine a_region ?_
    refine rv (v := .sl _ _) (v_move il nf) ?_
    refine rv (v := .int _ _) (v_move il nf) ?_
    refine rn (v := .bool _) (q_call (vs := [.sl _ _, .int _ _]) (args := [.sl _ _, .int .i64 _]) hb38 ⟨il, il, trivial⟩ rfl (fun hA => open9_c a (gd vs i) (by omega) (by omega)) rfl rfl) ?_
    refine rv (v := .bool _) (v_not il) ?_
    refine r_nil ?_
    refine a_cond rfl (fun ht43 => ?_) (fun ht43 => ?_)
    ·
     skip
     refine a_exit ?_
     refine a_region ?_
     refine rv (v := .int _ _) (v_move il nf) ?_
     refine rv (v := .int _ _) (v_add il il (fun _ => by omega)) ?_
     refine rv (v := .int _ _) (v_assign il nf) ?_
     refine r_nil ?_
     refine ⟨i + 1, ent_look ⟨Weak.of_eq rfl, Weak.of_eq rfl, Weak.of_eq (int_eq (by omega)), trivial⟩, ⟨by omega, ok_stepF (p := fun j => opB a (gd vs j)) g2 (by simpa using ht43)⟩, by omega⟩
    ·
     skip
     refine a_skip ?_
     refine a_seq ?_
     refine a_seq ?_
     refine a_region ?_
     refine rv (v := .rp _ _) (v_fieldAddr_rp fo49_2 il) ?_
     refine rv (v := .sl _ _) (v_load_rp1 ta25 il rfl (fun _ => rfl) rfl) ?_
     refine rv (v := .int _ _) (v_len_sl sl25 il) ?_
     refine rv (v := .bool _) (v_eql il il) ?_
     refine r_nil ?_
     refine a_cond rfl (fun ht47 => ?_) (fun ht47 => ?_)
     ·
      skip
      refine a_seq ?_
      refine a_region ?_
      refine rv (v := .int _ _) (v_move il nf) ?_
      refine rv (v := .int _ _) (v_assign il nf) ?_
      refine r_nil ?_
      refine a_ret ?_
      refine ret1 Tryz.results51 (by decide) (by decide) (Weak.of_eq (int_eq ?_)) rfl Leaves.nil
      rw [(show nextV b vs L a = fopen vs a by unfold nextV; first | (rw [ht20, Bool.and_false]; rfl) | (rw [ht15]; rfl))]; exact (fopen_found hi (by simpa using ht43) g2).symm
     ·
      skip
      refine a_skip ?_
      refine a_seq ?_
      exfalso
      simp at ht47
   ·
    skip
    refine a_exit ?_
    refine a_seq ?_
    refine a_region ?_
    refine rv (v := .int _ _) (v_assign il nf) ?_
    refine r_nil ?_
    refine a_ret ?_
    refine ret1 Tryz.results51 (by decide) (by decide) (Weak.of_eq (int_eq ?_)) rfl Leaves.nil
    rw [(show nextV b vs L a = fopen vs a by unfold nextV; first | (rw [ht20, Bool.and_false]; rfl) | (rw [ht15]; rfl))]; simp at ht32; exact (fopen_none (fun j hj => g2 j (by omega))).symm
end Go.Av
namespace Go.Av
open Go Go.Proofs Go.Sort
set_option maxRecDepth 10000
theorem hb27 : hasBody Tryz.prog 27 = true := by kernel_rfl
theorem hb50 : hasBody Tryz.prog 50 = true := by kernel_rfl
theorem hb51 : hasBody Tryz.prog 51 = true := by kernel_rfl
theorem ta49 : tyAgg Tryz.prog 49 = some (true, 3) := by kernel_rfl
theorem zc56 : zeroCells Tryz.prog 56 = some [.int .i64 0, .int .i64 0, .int .i64 0, .int .i64 0] := by kernel_rfl
theorem grow9_c (vars : Int) (L : List (List Int)) (hcl : ∀ i, i < L.length → clB vars (gl L i) = true) (hL : L.length ≤ 60) (b : Bool) (vs : List Int) (hvs : SmI vs) (hvl : vs.length ≤ 1048576) (ask : List Int → Int) (hA : AskOk vars ask) (hnx : ∀ a, clB vars a = true → nextV b vs L a = ask a) (hU : ∀ a, clB vars a = true → ¬ 0 < (falP L a L.length).length → ask a ≠ 0) (d : Nat) (hd : d + 1 ≤ 13) (ih : ∀ (a : List Int) (xs : List TN), clB vars a = true → 13 ≤ a.length + d → xs.length ≤ 213 → ACall Tryz.prog 27 [.agg [.int .i64 vars, .sl (sls L) L.length], .sl (icells a) a.length, .agg [.sl (icells vs) vs.length, .bool b, .sl [] 0], .rsl (INH, []) 4 0 xs.length none] [.osl 4 (tncells xs) xs.length none] (.osl 4 (tncells (grS L ask d a xs)) (grS L ask d a xs).length none) [.undef]) (a : List Int) (xs : List TN) (hca : clB vars a = true) (had : 13 ≤ a.length + (d + 1)) (hxl : xs.length ≤ 213) : ACall Tryz.prog 27 [.agg [.int .i64 vars, .sl (sls L) L.length], .sl (icells a) a.length, .agg [.sl (icells vs) vs.length, .bool b, .sl [] 0], .rsl (INH, []) 4 0 xs.length none] [.osl 4 (tncells xs) xs.length none] (.osl 4 (tncells (grS L ask (d + 1) a xs)) (grS L ask (d + 1) a xs).length none) [.undef] := by
  have hla := clB_len hca
  have hsma := clB_sm hca
  have hv12 := (clB_spec hca).1
  have hl1 := grS_len L ask d (setLit a (-(ask a))) xs
  have hl2 := grS_len L ask d (setLit a (ask a)) (grS L ask d (setLit a (-(ask a))) xs)
  refine ACall.intro Tryz.func27 rfl (N := 59) rfl (by decide) (by simp) ?_
  refine a_seq ?_
  refine a_region ?_
  refine rn (v := .op [.int _ _, .sl _ _]) (q_box il rfl rfl) ?_
  refine rn (v := .op [.sl _ _, .bool _, .sl _ _]) (q_box il rfl rfl) ?_
  refine rv (v := .nils) (v_assign il nf) ?_
  refine r_nil ?_
  refine a_seq ?_
  refine a_seq ?_
  refine a_region ?_
  refine rv (v := .rsl _ _ _ _ _) (v_move il nf) ?_
  refine rv (v := .int _ _) (v_len_rsl sl27 il) ?_
  refine rv (v := .bool _) (v_gtr il il) ?_
  refine r_nil ?_
  refine a_cond rfl (fun ht14 => ?_) (fun ht14 => ?_)
  ·
    skip
    refine a_seq ?_
    have hfu : 199 < xs.length := (by simp at ht14; omega)
    refine a_region ?_
    refine rv (v := .rsl _ _ _ _ _) (v_move il nf) ?_
    refine rv (v := .rsl _ _ _ _ _) (v_assign il nf) ?_
    refine r_nil ?_
    refine a_pre (ent_reloc_sl (t := 8) rfl rfl) ?_
    refine a_ret ?_
    refine ret1 Tryz.results27 (by decide) (by decide) (Weak.osl ?_ ?_) rfl (Leaves.one Weak.undef rfl)
    all_goals (rw [grS_full hfu])
  ·
    skip
    refine a_skip ?_
    refine a_seq ?_
    refine a_seq ?_
    have hnf : ¬ 199 < xs.length := (by simp at ht14; omega)
    refine a_region ?_
    refine rv (v := .agg [.int _ _, .sl _ _]) (v_load_rpa1 ta30 il rfl rfl (fun _ => rfl) rfl) ?_
    refine rv (v := .sl _ _) (v_move il nf) ?_
    refine rn (v := .int _ _) (q_call (vs := [.agg [.int _ _, .sl _ _], .sl _ _]) (args := [.agg [.int .i64 _, .sl _ _], .sl _ _]) hb50 ⟨il, il, trivial⟩ rfl (fun hA => false9h_c vars L a hcl (by omega) (by omega)) rfl rfl) ?_
    refine rv (v := .int _ _) (v_assign il nf) ?_
    refine r_nil ?_
    refine a_seq ?_
    refine a_region ?_
    refine rv (v := .int _ _) (v_move il nf) ?_
    refine rv (v := .bool _) (v_geq il il) ?_
    refine r_nil ?_
    refine a_cond rfl (fun ht20 => ?_) (fun ht20 => ?_)
    ·
      skip
      refine a_seq ?_
      have hlf : 0 ≤ ffL L a := (by simpa using ht20)
      refine a_region ?_
      refine rv (v := .rsl _ _ _ _ _) (v_move il nf) ?_
      refine rv (v := .int _ _) (v_move il nf) ?_
      refine rv (v := .agg [.int _ _, .int _ _, .int _ _, .int _ _]) (v_build sp56 rfl rfl) ?_
      refine rn (v := .osl _ _ _ _) (q_sliceLit (n := 1) (parts := [(0, .tmp 23)]) lt27 rfl rfl rfl rfl) ?_
      refine r_pre (ent_reloc_sl (t := 21) rfl rfl) ?_
      refine r_step rfl (o_append rfl ap27 rfl (by decide) (by decide) rfl (src_lit (.inl rfl) rfl rfl rfl) rfl (by rw [tncells_length]) (by omega)) ?_
      refine rv (v := .rsl _ _ _ _ _) (v_assign il nf) ?_
      refine r_pre (ent_reloc_sl (t := 8) rfl rfl) ?_
      refine r_nil ?_
      refine a_ret ?_
      refine ret1 Tryz.results27 (by decide) (by decide) (Weak.osl ?_ ?_) rfl (Leaves.one Weak.undef rfl)
      · rw [grS_leaf hnf hlf, tn_append]; rfl
      · rw [grS_leaf hnf hlf]; simp
    ·
      skip
      refine a_skip ?_
      refine a_seq ?_
      have hlf : ¬ 0 ≤ ffL L a := (by simpa using ht20)
      have hnp : ¬ 0 < (falP L a L.length).length := (by rcases ff_fal (L := L) (a := a) with h | h; exact h.1; (exfalso; have := h.2.2; omega))
      have h0 := hU a hca hnp
      have hnw := ask_new hA hca h0
      obtain ⟨q1, q2, q3, q4⟩ := (hA a hca).resolve_left h0
      have hp1 : setLit a (-(ask a)) = putL a (-(ask a)) := set_put q4 (by rwa [Int.neg_neg])
      have hp2 : setLit a (ask a) = putL a (ask a) := set_put q3 q4
      refine a_region ?_
      refine rv (v := .agg [.int _ _, .sl _ _]) (v_load_rpa1 ta30 il rfl rfl (fun _ => rfl) rfl) ?_
      refine rv (v := .sl _ _) (v_move il nf) ?_
      refine rv (v := .agg [.sl _ _, .bool _, .sl _ _]) (v_load_rpa1 ta49 il rfl rfl (fun _ => rfl) rfl) ?_
      refine rn (v := .int .i64 (ask a)) (QSem.cast (q_call (vs := [.agg [.int _ _, .sl _ _], .sl _ _, .agg [.sl _ _, .bool _, .sl _ _]]) (args := [.agg [.int .i64 _, .sl _ _], .sl _ _, .agg [.sl _ _, .bool _, .sl _ _]]) hb51 ⟨il, il, il, trivial⟩ rfl (fun hA => next9_c vars L a hcl hL hca b vs hvs hvl) rfl rfl) (int_eq (hnx a hca))) ?_
      refine rv (v := .int _ _) (v_assign il nf) ?_
      refine r_nil ?_
      refine a_seq ?_
      refine a_region ?_
      refine rv (v := .int _ _) (v_move il nf) ?_
      refine rv (v := .agg [.int _ _, .int _ _, .int _ _, .int _ _]) (v_build sp56 rfl rfl) ?_
      refine rn (v := .op [.int _ _, .int _ _, .int _ _, .int _ _]) (q_alloc zc56) ?_
      refine r_step rfl (o_store (v := .agg [.int _ _, .int _ _, .int _ _, .int _ _]) (y' := .op [.int _ _, .int _ _, .int _ _, .int _ _]) rfl rfl ta56 il il rfl rfl rfl rfl rfl rfl (Nat.le_of_ble_eq_true rfl) (by decide) rfl rfl) ?_
      refine r_nil ?_
      refine a_seq ?_
      refine a_region_z (n := 7) [[(32, true)], [(33, true)], [(34, true)], [(35, true)], [(36, true)], [(37, true)], [(38, true)]] mixed (by kernel_rfl) ?_
      refine z_val (v := .agg [.int _ _, .sl _ _]) (v_load_rpa1 ta30 il rfl rfl (fun _ => rfl) rfl) rfl rfl (by decide) rfl (by kernel_rfl) ?_
      refine z_val (v := .sl _ _) (v_move il nf) rfl rfl (by decide) rfl (by kernel_rfl) ?_
      refine z_val (v := .int _ _) (v_move il nf) rfl rfl (by decide) rfl (by kernel_rfl) ?_
      refine z_val (v := .int _ _) (v_neg il (fun _ => by omega)) rfl rfl (by decide) rfl (by kernel_rfl) ?_
      refine z_new (v := .sl (icells (setLit a (-(ask a)))) (setLit a (-(ask a))).length) (QSem.cast (QSem.cast (q_callZ (vs := [.sl _ _, .int _ _]) (args := [.sl _ _, .int .i64 _]) hb35 ⟨il, il, trivial⟩ rfl (fun hA => put_c a a.length (-(ask a)) ⟨rfl, by omega⟩ hsma (by omega)) (ic_noSh _) (ic_noRef _)) (sl_shZ (ic_pure _))) (sl_eq2 (by rw [hp1]) (by rw [hp1, putL_length]))) rfl rfl (by decide) rfl (by kernel_rfl) ?_
      refine z_val (v := .agg [.sl _ _, .bool _, .sl _ _]) (v_load_rpa1 ta49 il rfl rfl (fun _ => rfl) rfl) rfl rfl (by decide) rfl (by kernel_rfl) ?_
      refine z_val (v := .rsl _ _ _ _ _) (v_move il nf) rfl rfl (by decide) rfl (by kernel_rfl) ?_
      refine z_nil ?_
      refine r_step rfl (o_callIO (q := (INH, [])) (vs := [.agg [.int _ _, .sl _ _], .sl _ _, .agg [.sl _ _, .bool _, .sl _ _], .rsl _ _ _ _ _]) (args := [.agg [.int .i64 _, .sl _ _], .sl _ _, .agg [.sl _ _, .bool _, .sl _ _], .rsl (INH, []) _ _ _ _]) (x0 := .osl _ _ _ _) (x1 := .undef) (res := .osl _ _ _ _) rfl hb27 rfl (by decide) ⟨.inl rfl, .inl rfl, .inl rfl, .inl rfl, trivial⟩ rfl rfl (ih _ xs hnw.2.1.1 (by omega) (by omega)) rfl (tn_noSh _) (tn_noRef _) rfl rfl (Nat.le_of_ble_eq_true rfl) (by decide) rfl) ?_
      refine rv (v := .rsl _ _ _ _ _) (v_assign il nf) ?_
      refine r_pre (ent_reloc_sl (t := 3) rfl rfl) ?_
      refine r_nil ?_
      refine a_seq ?_
      refine a_pre (ent_look (L := [(1, .sl _ _), (3, .osl _ _ _ _), (4, .op [.int _ _, .sl _ _]), (6, .op [.sl _ _, .bool _, .sl _ _]), (8, .nils), (10, .int _ _), (11, .op [.int _ _, .int _ _, .int _ _, .int _ _])]) ⟨Weak.rfl, Weak.rfl, Weak.rfl, Weak.rfl, Weak.rfl, Weak.rfl, Weak.rfl, trivial⟩) ?_
      refine a_region ?_
      refine rv (v := .rsl _ _ _ _ _) (v_move il nf) ?_
      refine rv (v := .int _ _) (v_len_rsl sl27 il) ?_
      refine rv (v := .int _ _) (v_sub il il (fun _ => by omega)) ?_
      refine rv (v := .rp _ _) (v_fieldAddr_rp fo56_1 il) ?_
      refine r_step rfl (o_store (v := .int _ _) (y' := .op [.int _ _, .int _ _, .int _ _, .int _ _]) rfl rfl ta3 il il rfl rfl rfl rfl rfl rfl (Nat.le_of_ble_eq_true rfl) (by decide) rfl rfl) ?_
      refine r_nil ?_
      refine a_seq ?_
      refine a_region_z (n := 6) [[(44, true)], [(45, true)], [(46, true)], [(47, true)], [(48, true)], [(49, true)]] mixed (by kernel_rfl) ?_
      refine z_val (v := .agg [.int _ _, .sl _ _]) (v_load_rpa1 ta30 il rfl rfl (fun _ => rfl) rfl) rfl rfl (by decide) rfl (by kernel_rfl) ?_
      refine z_val (v := .sl _ _) (v_move il nf) rfl rfl (by decide) rfl (by kernel_rfl) ?_
      refine z_val (v := .int _ _) (v_move il nf) rfl rfl (by decide) rfl (by kernel_rfl) ?_
      refine z_new (v := .sl (icells (setLit a (ask a))) (setLit a (ask a)).length) (QSem.cast (QSem.cast (q_callZ (vs := [.sl _ _, .int _ _]) (args := [.sl _ _, .int .i64 _]) hb35 ⟨il, il, trivial⟩ rfl (fun hA => put_c a a.length (ask a) ⟨rfl, by omega⟩ hsma (by omega)) (ic_noSh _) (ic_noRef _)) (sl_shZ (ic_pure _))) (sl_eq2 (by rw [hp2]) (by rw [hp2, putL_length]))) rfl rfl (by decide) rfl (by kernel_rfl) ?_
      refine z_val (v := .agg [.sl _ _, .bool _, .sl _ _]) (v_load_rpa1 ta49 il rfl rfl (fun _ => rfl) rfl) rfl rfl (by decide) rfl (by kernel_rfl) ?_
      refine z_val (v := .rsl _ _ _ _ _) (v_move il nf) rfl rfl (by decide) rfl (by kernel_rfl) ?_
      refine z_nil ?_
      refine r_step rfl (o_callIO (q := (3, [])) (vs := [.agg [.int _ _, .sl _ _], .sl _ _, .agg [.sl _ _, .bool _, .sl _ _], .rsl _ _ _ _ _]) (args := [.agg [.int .i64 _, .sl _ _], .sl _ _, .agg [.sl _ _, .bool _, .sl _ _], .rsl (INH, []) _ _ _ _]) (x0 := .osl _ _ _ _) (x1 := .undef) (res := .osl _ _ _ _) rfl hb27 rfl (by decide) ⟨.inl rfl, .inl rfl, .inl rfl, .inl rfl, trivial⟩ rfl rfl (ih _ _ hnw.2.2.1.1 (by omega) (by omega)) rfl (tn_noSh _) (tn_noRef _) rfl rfl (Nat.le_of_ble_eq_true rfl) (by decide) rfl) ?_
      refine rv (v := .rsl _ _ _ _ _) (v_assign il nf) ?_
      refine r_pre (ent_reloc_sl (t := 3) rfl rfl) ?_
      refine r_nil ?_
      refine a_seq ?_
      refine a_region ?_
      refine rv (v := .rsl _ _ _ _ _) (v_move il nf) ?_
      refine rv (v := .int _ _) (v_len_rsl sl27 il) ?_
      refine rv (v := .int _ _) (v_sub il il (fun _ => by omega)) ?_
      refine rv (v := .rp _ _) (v_fieldAddr_rp fo56_2 il) ?_
      refine r_step rfl (o_store (v := .int _ _) (y' := .op [.int _ _, .int _ _, .int _ _, .int _ _]) rfl rfl ta3 il il rfl rfl rfl rfl rfl rfl (Nat.le_of_ble_eq_true rfl) (by decide) rfl rfl) ?_
      refine r_nil ?_
      refine a_seq ?_
      refine a_region ?_
      refine rv (v := .rsl _ _ _ _ _) (v_move il nf) ?_
      refine rv (v := .agg [.int _ _, .int _ _, .int _ _, .int _ _]) (v_load_rpa1 ta56 il rfl rfl (fun _ => rfl) rfl) ?_
      refine rn (v := .osl _ _ _ _) (q_sliceLit (n := 1) (parts := [(0, .tmp 56)]) lt27 rfl rfl rfl rfl) ?_
      refine r_pre (ent_reloc_sl (t := 55) rfl rfl) ?_
      refine r_step rfl (o_append rfl ap27 rfl (by decide) (by decide) rfl (src_lit (.inl rfl) rfl rfl rfl) rfl (by rw [tncells_length]) (by omega)) ?_
      refine rv (v := .rsl _ _ _ _ _) (v_assign il nf) ?_
      refine r_pre (ent_reloc_sl (t := 8) rfl rfl) ?_
      refine r_nil ?_
      refine a_ret ?_
      refine ret1 Tryz.results27 (by decide) (by decide) (Weak.osl ?_ ?_) rfl (Leaves.one Weak.undef rfl)
      · rw [grS_node hnf hlf, tn_append]; rfl
      · rw [grS_node hnf hlf]; simp
end Go.Av
namespace Go.Av
open Go Go.Proofs Go.Sort
set_option maxRecDepth 10000
theorem growR9_c (vars : Int) (L : List (List Int)) (hcl : ∀ i, i < L.length → clB vars (gl L i) = true) (hL : L.length ≤ 60) (b : Bool) (vs : List Int) (hvs : SmI vs) (hvl : vs.length ≤ 1048576) (ask : List Int → Int) (hA : AskOk vars ask) (hnx : ∀ a, clB vars a = true → nextV b vs L a = ask a) (hU : ∀ a, clB vars a = true → ¬ 0 < (falP L a L.length).length → ask a ≠ 0) : ∀ (d : Nat), d ≤ 13 → ∀ (a : List Int) (xs : List TN), clB vars a = true → 13 ≤ a.length + d → xs.length ≤ 213 → ACall Tryz.prog 27 [.agg [.int .i64 vars, .sl (sls L) L.length], .sl (icells a) a.length, .agg [.sl (icells vs) vs.length, .bool b, .sl [] 0], .rsl (INH, []) 4 0 xs.length none] [.osl 4 (tncells xs) xs.length none] (.osl 4 (tncells (grS L ask d a xs)) (grS L ask d a xs).length none) [.undef]
 | 0, hd, a, xs, h1, h2, h3 => by have := clB_len h1; omega
 | d + 1, hd, a, xs, h1, h2, h3 => grow9_c vars L hcl hL b vs hvs hvl ask hA hnx hU d hd (fun a xs h1 h2 h3 => growR9_c vars L hcl hL b vs hvs hvl ask hA hnx hU d (by omega) a xs h1 h2 h3) a xs h1 h2 h3
end Go.Av
namespace Go.Av
open Go Go.Proofs Go.Sort
set_option maxRecDepth 10000
theorem give9_c (xs : List TN) (hl : xs.length ≤ 213) : ACall Tryz.prog 26 [.rsl (INH, []) 4 0 xs.length none] [.osl 4 (tncells xs) xs.length none] (.tup [.osl 4 (tncells (if (xs.length : Int) > 199 then [] else xs)) (if (xs.length : Int) > 199 then [] else xs).length none, .bool (!decide ((xs.length : Int) > 199))]) [.undef] := by
 refine ACall.intro Tryz.func26 rfl (N := 9) rfl (by decide) (by simp) ?_
 refine a_seq ?_
 refine a_region ?_
 refine rv (v := .nils) (v_assign il nf) ?_
 refine rv (v := .bool _) (v_assign il nf) ?_
 refine r_nil ?_
 refine a_seq ?_
 refine a_seq ?_
 refine a_region ?_
 refine rv (v := .rsl _ _ _ _ _) (v_move il nf) ?_
 refine rv (v := .int _ _) (v_len_rsl sl27 il) ?_
 refine rv (v := .bool _) (v_gtr il il) ?_
 refine r_nil ?_
 refine a_cond rfl (fun ht6 => ?_) (fun ht6 => ?_)
 ·
  skip
  refine a_seq ?_
  refine a_region ?_
  refine rn (v := .osl _ _ _ _) (q_sliceLit (n := 0) (parts := []) lt27 rfl rfl rfl rfl) ?_
  refine rv (v := .rsl _ _ _ _ _) (v_assign il nf) ?_
  refine r_pre (ent_reloc_sl (t := 2) rfl rfl) ?_
  refine rv (v := .bool _) (v_assign il nf) ?_
  refine r_nil ?_
  refine a_ret ?_
  refine retLU (rs := [.tmp 2, .tmp 3]) [(2, .osl _ _ _ none), (3, _)] ⟨Weak.osl rfl rfl, Weak.rfl, trivial⟩ rfl Tryz.results26 (by decide) ⟨by decide, by decide, rfl⟩ (by decide) (by decide) (l2_eq (osl_eq2 ?_ ?_) (bool_eq ?_)) rfl
  all_goals (have h9 : (xs.length : Int) > 199 := (by simpa using ht6); first | (rw [if_pos h9]; done) | (rw [if_pos h9]; rfl) | (rw [decide_eq_true h9]; rfl))
 ·
  skip
  refine a_skip ?_
  refine a_seq ?_
  refine a_region ?_
  refine rv (v := .rsl _ _ _ _ _) (v_move il nf) ?_
  refine rv (v := .rsl _ _ _ _ _) (v_assign il nf) ?_
  refine rv (v := .bool _) (v_assign il nf) ?_
  refine r_nil ?_
  refine a_pre (ent_reloc_sl (t := 2) rfl rfl) ?_
  refine a_ret ?_
  refine retLU (rs := [.tmp 2, .tmp 3]) [(2, .osl _ _ _ none), (3, _)] ⟨Weak.osl rfl rfl, Weak.rfl, trivial⟩ rfl Tryz.results26 (by decide) ⟨by decide, by decide, rfl⟩ (by decide) (by decide) (l2_eq (osl_eq2 ?_ ?_) (bool_eq ?_)) rfl
  all_goals (have h9 : ¬ (xs.length : Int) > 199 := (by simpa using ht6); first | (rw [if_neg h9]; done) | (rw [decide_eq_false h9]; rfl))
end Go.Av
namespace Go.Av
open Go
set_option maxRecDepth 10000
def bT (w : Nat) (v : Int) : Bool := decide ((((((w : Nat) : Int) / 2 ^ (v - 1).toNat).toNat &&& (1 : Int).toNat : Nat) : Int) = 1)
theorem bT_bit {w : Nat} {v : Int} : bT w v = w.testBit (v - 1).toNat := by
  unfold bT
  have h : (((w : Nat) : Int) / 2 ^ (v - 1).toNat).toNat = w / 2 ^ (v - 1).toNat := by
    rw [show ((w : Nat) : Int) / 2 ^ (v - 1).toNat = ((w / 2 ^ (v - 1).toNat : Nat) : Int) by push_cast; rfl]; rfl
  rw [h, show (1 : Int).toNat = 1 from rfl, Nat.and_one_is_mod, Nat.testBit_eq_decide_div_mod_eq, Bool.eq_iff_iff, decide_eq_true_iff, decide_eq_true_iff]
  omega
def litT (w : Nat) (x : Int) : Bool := bT w (vr x) == decide (x > 0)
theorem litT_neg {w : Nat} {x : Int} (h : x ≠ 0) : litT w (-x) = !litT w x := by
  unfold litT
  rw [vr_neg]
  have : decide (-x > 0) = !decide (x > 0) := by
    by_cases hx : x > 0
    · rw [decide_eq_true hx, decide_eq_false (by omega)]; rfl
    · rw [decide_eq_false hx, decide_eq_true (by omega)]; rfl
  rw [this]
  cases bT w (vr x) <;> cases decide (x > 0) <;> rfl
theorem bits_of (p : Nat → Bool) : ∀ n, ∃ w : Nat, w < 2 ^ n ∧ ∀ i, i < n → w.testBit i = p i
  | 0 => ⟨0, by simp, fun i h => by omega⟩
  | n + 1 => by
    obtain ⟨w, h1, h2⟩ := bits_of p n
    have hp : 2 ^ (n + 1) = 2 ^ n + 2 ^ n := by rw [Nat.pow_succ]; omega
    by_cases hb : p n = true
    · refine ⟨2 ^ n + w, by omega, fun i hi => ?_⟩
      by_cases h : i = n
      · subst h; rw [Nat.testBit_two_pow_add_eq, Nat.testBit_lt_two_pow h1, hb]; rfl
      · rw [Nat.testBit_two_pow_add_gt (by omega)]; exact h2 i (by omega)
    · refine ⟨w, by omega, fun i hi => ?_⟩
      by_cases h : i = n
      · subst h; rw [Nat.testBit_lt_two_pow h1]; simpa using hb
      · exact h2 i (by omega)
def tW (w : Nat) (c : List Int) : Bool := (List.range c.length).any fun i => litT w (gd c i)
def aW (L : List (List Int)) (w : Nat) : Bool := !(List.range L.length).any fun j => !tW w (gl L j)
def fW (vars : Int) (L : List (List Int)) : Int := fidx (fun w => aW L w) (2 ^ vars.toNat)
theorem aW_spec {L : List (List Int)} {w : Nat} : aW L w = true ↔ ∀ j, j < L.length → ∃ l ∈ gl L j, litT w l = true := by
  unfold aW tW
  rw [Bool.not_eq_true', List.any_eq_false]
  constructor
  · intro h j hj
    have h1 := h j (List.mem_range.2 hj)
    rw [Bool.not_eq_true'] at h1
    have h2 : ((List.range (gl L j).length).any fun i => litT w (gd (gl L j) i)) = true := by simpa only [Bool.not_eq_false] using h1
    obtain ⟨i, hi, ht⟩ := List.any_eq_true.1 h2
    exact ⟨gd (gl L j) i, gd_mem (List.mem_range.1 hi), ht⟩
  · intro h j hj
    obtain ⟨l, hl, ht⟩ := h j (List.mem_range.1 hj)
    obtain ⟨i, hi, rfl⟩ := mem_gd hl
    have : ((List.range (gl L j).length).any fun i => litT w (gd (gl L j) i)) = true := List.any_eq_true.2 ⟨i, List.mem_range.2 hi, ht⟩
    rw [this]; simp
theorem fW_sat {vars : Int} {L : List (List Int)} (h : 0 ≤ fW vars L) : ∃ w, aW L w = true := by
  unfold fW fidx at h
  split at h
  · rename_i w hw
    exact ⟨w, List.find?_some hw⟩
  · omega
theorem fW_no {vars : Int} {L : List (List Int)} (h : ¬ 0 ≤ fW vars L) : ∀ w, w < 2 ^ vars.toNat → aW L w = false := fun w hw => by
  unfold fW fidx at h
  split at h
  · omega
  · rename_i hn
    have := List.find?_eq_none.1 hn w (List.mem_range.2 hw)
    simpa using this
section
variable {vars : Int} {L : List (List Int)}
theorem gw_sat {ask : List Int → Int} (h0 : clB vars [] = true) (hA : AskOk vars ask) (h : 0 ≤ fW vars L) : gwB L ask = false := by
  obtain ⟨w, hw⟩ := fW_sat h
  exact gr_sat hA (litT w) (fun x hx => litT_neg hx) (aW_spec.1 hw) 13 [] [] h0 (fun l hl => by cases hl)
theorem un_ask {ask : List Int → Int} (hcl : ∀ i, i < L.length → clB vars (gl L i) = true) (hall : ∀ a, clB vars a = true → ask a = 0 → ∀ v, 1 ≤ v → v ≤ vars → v ∈ a ∨ -v ∈ a) (h : ¬ 0 ≤ fW vars L) :
    ∀ a, clB vars a = true → ¬ 0 < (falP L a L.length).length → ask a ≠ 0 := fun a hc hf h0 => by
  have hset := hall a hc h0
  obtain ⟨w, hw1, hw2⟩ := bits_of (fun i => decide (((i : Nat) : Int) + 1 ∈ a)) vars.toNat
  have hbit : ∀ v, 1 ≤ v → v ≤ vars → bT w v = decide (v ∈ a) := fun v h1 h2 => by
    rw [bT_bit, hw2 _ (by omega), show (((v - 1).toNat : Nat) : Int) + 1 = v by omega]
  have hlit : ∀ l ∈ a, litT w l = true := fun l hl => by
    have hb := litB_spec.1 (clB_mem hc hl).1
    unfold litT
    by_cases hp : l > 0
    · rw [show vr l = l by unfold vr; rw [if_neg (by omega)], hbit l (by omega) (by omega), decide_eq_true hl, decide_eq_true hp]; rfl
    · rw [show vr l = -l by unfold vr; rw [if_pos (by omega)], hbit (-l) (by omega) (by omega), decide_eq_false hp, decide_eq_false (fun hn => strict_opp (clB_strict hc) hb.2 hl hn)]; rfl
  have hsat : aW L w = true := aW_spec.2 fun j hj => by
    have hcj := hcl j hj
    have hv : ¬ cval (gl L j) a < 0 := fun hv => by
      rcases falP_fidx (L := L) (a := a) L.length with ⟨_, g2⟩ | ⟨c, _, _, _, _, g5⟩
      · exact g2 j hj hv
      · exact hf g5
    unfold cval at hv
    split at hv
    · rename_i hany
      obtain ⟨l, hl1, hl2⟩ := List.any_eq_true.1 hany
      exact ⟨l, hl1, hlit l (by simpa using hl2)⟩
    · split at hv
      · omega
      · rename_i hno hnall
        exfalso
        apply hnall
        rw [List.all_eq_true]
        intro l hl
        have hb := litB_spec.1 (clB_mem hcj hl).1
        have hnl : ¬ l ∈ a := fun hla => hno (List.any_eq_true.2 ⟨l, hl, by simpa using hla⟩)
        rcases hset (vr l) (by unfold vr; split <;> omega) (by unfold vr; split <;> omega) with h5 | h5
        · unfold vr at h5; split at h5
          · simpa using h5
          · exact absurd h5 hnl
        · unfold vr at h5; split at h5
          · rw [Int.neg_neg] at h5; exact absurd h5 hnl
          · simpa using h5
  rw [fW_no h w hw1] at hsat; cases hsat
end
theorem nil_cl {vars : Int} {L : List (List Int)} (h : cnfB vars L = true) : clB vars [] = true := clB_of (cnfB_spec h).1 (by simp [Strict]) (fun x hx => by cases hx)
theorem gwR_no {L : List (List Int)} {ask : List Int → Int} (h : gwB L ask = false) : gwR L ask = [] := by unfold gwR; rw [h]; rfl
theorem cl_vr {vars : Int} {c : List Int} (h : clB vars c = true) {j : Nat} (hj : j < c.length) : 1 ≤ vr (gd c j) ∧ vr (gd c j) ≤ 12 := by
  have h1 := litB_spec.1 (clB_mem h (gd_mem hj)).1
  have h2 := (clB_spec h).1
  unfold vr; split <;> omega
theorem pow12 {v : Int} (h : 0 ≤ v ∧ v ≤ 12) : 2 ^ v.toNat ≤ 4096 ∧ (2 : Int) ^ v.toNat = ((2 ^ v.toNat : Nat) : Int) := by
  have : 2 ^ v.toNat ≤ 2 ^ 12 := Nat.pow_le_pow_right (by decide) (by omega)
  refine ⟨this, by push_cast; rfl⟩
theorem div_bd {w : Nat} (hw : w ≤ 4096) (k : Nat) : 0 ≤ ((w : Nat) : Int) / 2 ^ k ∧ ((w : Nat) : Int) / 2 ^ k ≤ 4096 := by
  have h : ((w : Nat) : Int) / 2 ^ k = ((w / 2 ^ k : Nat) : Int) := by push_cast; rfl
  rw [h]
  exact ⟨Int.natCast_nonneg _, Int.ofNat_le.2 (Nat.le_trans (Nat.div_le_self _ _) hw)⟩
end Go.Av
namespace Go.Av
open Go Go.Proofs Go.Sort
set_option maxRecDepth 10000
theorem hb49 : hasBody Tryz.prog 49 = true := by kernel_rfl
theorem hb75 : hasBody Tryz.prog 75 = true := by kernel_rfl
theorem hb97 : hasBody Tryz.prog 97 = true := by kernel_rfl
theorem un4 : Tryz.prog.underlying 4 = some .bool := by kernel_rfl
theorem true5_c (c : List Int) (w : Nat) (hw : w ≤ 4096) (hs : ∀ i, i < c.length → 1 ≤ vr (gd c i) ∧ vr (gd c i) ≤ 12) (hsm : SmI c) (hc : c.length ≤ 1048576) : ACall Tryz.prog 97 [.sl (icells c) c.length, .int .i64 ((w : Nat) : Int)] [] (.bool (tW w c)) [] := by
 refine ACall.intro Tryz.func97 rfl (N := 28) rfl (by decide) (by simp) ?_
 refine a_seq ?_
 refine a_region ?_
 refine rv (v := .bool _) (v_assign il nf) ?_
 refine r_nil ?_
 refine a_seq ?_
 refine a_seq ?_
 refine a_region ?_
 refine rv (v := .int _ _) (v_assign il nf) ?_
 refine r_nil ?_
 refine a_block ?_
 refine a_loop (X := Nat) (fun i => look [(0, .sl (icells c) c.length), (1, .int .i64 ((w : Nat) : Int)), (5, .int .i64 ((i : Nat) : Int))]) (fun i => i ≤ c.length ∧ ∀ j, j < i → litT w (gd c j) = false) (fun i => c.length - i) 0 (ent_look ⟨Weak.of_eq rfl, Weak.of_eq rfl, Weak.of_eq rfl, trivial⟩) ⟨Nat.zero_le _, fun j h => by omega⟩ (fun i hG => ?_)
 obtain ⟨g1, g2⟩ := hG
 have hsi := hsm i
 refine a_seq ?_
 refine a_seq ?_
 refine a_region ?_
 refine rv (v := .int _ _) (v_move il nf) ?_
 refine rv (v := .sl _ _) (v_move il nf) ?_
 refine rv (v := .int _ _) (v_len_sl sl25 il) ?_
 refine rv (v := .bool _) (v_lss il il) ?_
 refine r_nil ?_
 refine a_cond rfl (fun ht9 => ?_) (fun ht9 => ?_)
 ·
  skip
  refine a_skip ?_
  refine a_seq ?_
  refine a_block ?_
  refine a_seq ?_
  have hi : i < c.length := (by simp at ht9; omega)
  have hvi := hs i hi
  have hdv := div_bd hw ((vr (gd c i)) - 1).toNat
  refine a_region_any mixed (by kernel_rfl) ?_
  refine yv (v := .int _ _) (v_move il nf) ?_
  refine yv (v := .sl _ _) (v_move il nf) ?_
  refine yv (v := .int _ _) (v_move il nf) ?_
  refine yv (v := .pp _ _) (v_indexAddr_sl es25 il il (fun _ => ⟨by omega, by omega, icells_ne hi⟩)) ?_
  refine yv (v := .int .i64 (gd c i)) (v_load_pp ta3 il (fun _ => by rw [Nat.mul_one]; exact icells_get (gd_get hi)) rfl) ?_
  refine y_new (v := .int _ _) (q_call (vs := [.int _ _]) (args := [.int .i64 _]) hb60 ⟨.inl rfl, trivial⟩ rfl (fun hA => l2Var_c _ (by omega)) rfl rfl) rfl rfl (by decide) (by kernel_rfl) ?_
  refine yv (v := .int _ _) (v_sub il il (fun _ => by omega)) ?_
  refine yv (v := .int _ _) (v_shr il il (fun _ => by omega)) ?_
  refine yv (v := .int _ _) (v_and il il (fun _ => by omega)) ?_
  refine yv (v := .bool _) (v_eql il il) ?_
  refine yv (v := .sl _ _) (v_move il nf) ?_
  refine yv (v := .int _ _) (v_move il nf) ?_
  refine yv (v := .pp _ _) (v_indexAddr_sl es25 il il (fun _ => ⟨by omega, by omega, icells_ne hi⟩)) ?_
  refine yv (v := .int .i64 (gd c i)) (v_load_pp ta3 il (fun _ => by rw [Nat.mul_one]; exact icells_get (gd_get hi)) rfl) ?_
  refine yv (v := .bool _) (v_gtr il il) ?_
  refine yv (v := .bool _) (v_beq un4 il il) ?_
  refine y_nil ?_
  refine a_cond rfl (fun ht27 => ?_) (fun ht27 => ?_)
  ·
   skip
   refine a_seq ?_
   refine a_region ?_
   refine rv (v := .bool _) (v_assign il nf) ?_
   refine r_nil ?_
   refine a_ret ?_
   refine ret1 Tryz.results97 (by decide) (by decide) (Weak.of_eq (bool_eq ?_)) rfl Leaves.nil
   exact (List.any_eq_true.2 ⟨i, List.mem_range.2 hi, ht27⟩).symm
  ·
   skip
   refine a_skip ?_
   refine a_region ?_
   refine rv (v := .int _ _) (v_move il nf) ?_
   refine rv (v := .int _ _) (v_add il il (fun _ => by omega)) ?_
   refine rv (v := .int _ _) (v_assign il nf) ?_
   refine r_nil ?_
   refine ⟨i + 1, ent_look ⟨Weak.of_eq rfl, Weak.of_eq rfl, Weak.of_eq (int_eq (by omega)), trivial⟩, ⟨by omega, ok_stepF (p := fun j => litT w (gd c j)) g2 ht27⟩, by omega⟩
 ·
  skip
  refine a_exit ?_
  refine a_seq ?_
  refine a_region ?_
  refine rv (v := .bool _) (v_assign il nf) ?_
  refine r_nil ?_
  refine a_ret ?_
  refine ret1 Tryz.results97 (by decide) (by decide) (Weak.of_eq (bool_eq ?_)) rfl Leaves.nil
  simp at ht9; exact (List.any_eq_false.2 (fun j hj => by rw [g2 j (by have := List.mem_range.1 hj; omega)]; simp)).symm
theorem all5_c (L : List (List Int)) (w : Nat) (hw : w ≤ 4096) (vars : Int) (hcl : ∀ i, i < L.length → clB vars (gl L i) = true) (hL : L.length ≤ 1048576) : ACall Tryz.prog 75 [.sl (sls L) L.length, .int .i64 ((w : Nat) : Int)] [] (.bool (aW L w)) [] := by
 refine ACall.intro Tryz.func75 rfl (N := 19) rfl (by decide) (by simp) ?_
 refine a_seq ?_
 refine a_region ?_
 refine rv (v := .bool _) (v_assign il nf) ?_
 refine r_nil ?_
 refine a_seq ?_
 refine a_seq ?_
 refine a_region ?_
 refine rv (v := .int _ _) (v_assign il nf) ?_
 refine r_nil ?_
 refine a_block ?_
 refine a_loop (X := Nat) (fun i => look [(0, .sl (sls L) L.length), (1, .int .i64 ((w : Nat) : Int)), (5, .int .i64 ((i : Nat) : Int))]) (fun i => i ≤ L.length ∧ ∀ j, j < i → (!tW w (gl L j)) = false) (fun i => L.length - i) 0 (ent_look ⟨Weak.of_eq rfl, Weak.of_eq rfl, Weak.of_eq rfl, trivial⟩) ⟨Nat.zero_le _, fun j h => by omega⟩ (fun i hG => ?_)
 obtain ⟨g1, g2⟩ := hG
 refine a_seq ?_
 refine a_seq ?_
 refine a_region ?_
 refine rv (v := .int _ _) (v_move il nf) ?_
 refine rv (v := .sl _ _) (v_move il nf) ?_
 refine rv (v := .int _ _) (v_len_sl sl22 il) ?_
 refine rv (v := .bool _) (v_lss il il) ?_
 refine r_nil ?_
 refine a_cond rfl (fun ht9 => ?_) (fun ht9 => ?_)
 ·
  skip
  refine a_skip ?_
  refine a_seq ?_
  refine a_block ?_
  refine a_seq ?_
  have hi : i < L.length := (by simp at ht9; omega)
  have hci := hcl i hi
  have hlc := clB_len hci
  refine a_region ?_
  refine rv (v := .sl _ _) (v_move il nf) ?_
  refine rv (v := .int _ _) (v_move il nf) ?_
  refine rv (v := .pp _ _) (v_indexAddr_sl es22 il il (fun _ => ⟨by omega, by omega, sls_ne hi⟩)) ?_
  refine rv (v := .sl (icells (gl L i)) (gl L i).length) (v_load_pp ta25 il (fun _ => by rw [Nat.mul_one]; exact sls_get hi) rfl) ?_
  refine rv (v := .int _ _) (v_move il nf) ?_
  refine rn (v := .bool _) (q_call (vs := [.sl _ _, .int _ _]) (args := [.sl _ _, .int .i64 _]) hb97 ⟨il, il, trivial⟩ rfl (fun hA => true5_c (gl L i) w hw (fun j hj => cl_vr hci hj) (clB_sm hci) (by omega)) rfl rfl) ?_
  refine rv (v := .bool _) (v_not il) ?_
  refine r_nil ?_
  refine a_cond rfl (fun ht18 => ?_) (fun ht18 => ?_)
  ·
   skip
   refine a_seq ?_
   refine a_region ?_
   refine rv (v := .bool _) (v_assign il nf) ?_
   refine r_nil ?_
   refine a_ret ?_
   refine ret1 Tryz.results75 (by decide) (by decide) (Weak.of_eq (bool_eq ?_)) rfl Leaves.nil
   unfold aW; rw [List.any_eq_true.2 ⟨i, List.mem_range.2 hi, ht18⟩]; rfl
  ·
   skip
   refine a_skip ?_
   refine a_region ?_
   refine rv (v := .int _ _) (v_move il nf) ?_
   refine rv (v := .int _ _) (v_add il il (fun _ => by omega)) ?_
   refine rv (v := .int _ _) (v_assign il nf) ?_
   refine r_nil ?_
   refine ⟨i + 1, ent_look ⟨Weak.of_eq rfl, Weak.of_eq rfl, Weak.of_eq (int_eq (by omega)), trivial⟩, ⟨by omega, ok_stepF (p := fun j => !tW w (gl L j)) g2 ht18⟩, by omega⟩
 ·
  skip
  refine a_exit ?_
  refine a_seq ?_
  refine a_region ?_
  refine rv (v := .bool _) (v_assign il nf) ?_
  refine r_nil ?_
  refine a_ret ?_
  refine ret1 Tryz.results75 (by decide) (by decide) (Weak.of_eq (bool_eq ?_)) rfl Leaves.nil
  simp at ht9; unfold aW; rw [List.any_eq_false.2 (fun j hj => by rw [g2 j (by have := List.mem_range.1 hj; omega)]; simp)]; rfl
theorem first5_c (vars : Int) (L : List (List Int)) (hcl : ∀ i, i < L.length → clB vars (gl L i) = true) (hL : L.length ≤ 1048576) (hv : 0 ≤ vars ∧ vars ≤ 12) : ACall Tryz.prog 49 [.int .i64 vars, .sl (sls L) L.length] [] (.int .i64 (fW vars L)) [] := by
 have hp12 := pow12 hv
 refine ACall.intro Tryz.func49 rfl (N := 16) rfl (by decide) (by simp) ?_
 refine a_seq ?_
 refine a_region ?_
 refine rv (v := .int _ _) (v_assign il nf) ?_
 refine r_nil ?_
 refine a_seq ?_
 refine a_seq ?_
 refine a_region ?_
 refine rv (v := .int _ _) (v_assign il nf) ?_
 refine r_nil ?_
 refine a_block ?_
 refine a_loop (X := Nat) (fun w => look [(0, .int .i64 vars), (1, .sl (sls L) L.length), (5, .int .i64 ((w : Nat) : Int))]) (fun w => w ≤ 2 ^ vars.toNat ∧ ∀ j, j < w → aW L j = false) (fun w => 2 ^ vars.toNat - w) 0 (ent_look ⟨Weak.of_eq rfl, Weak.of_eq rfl, Weak.of_eq rfl, trivial⟩) ⟨Nat.zero_le _, fun j h => by omega⟩ (fun w hG => ?_)
 obtain ⟨g1, g2⟩ := hG
 refine a_seq ?_
 refine a_seq ?_
 refine a_region ?_
 refine rv (v := .int _ _) (v_move il nf) ?_
 refine rv (v := .int _ _) (v_move il nf) ?_
 refine rv (v := .int .i64 (((2 ^ vars.toNat : Nat) : Nat) : Int)) ((v_shl il il (fun _ => by omega)).cast (int_eq (by push_cast; omega))) ?_
 refine rv (v := .bool _) (v_lss il il) ?_
 refine r_nil ?_
 refine a_cond rfl (fun ht9 => ?_) (fun ht9 => ?_)
 ·
  skip
  refine a_skip ?_
  refine a_seq ?_
  refine a_block ?_
  refine a_seq ?_
  have hi : w < 2 ^ vars.toNat := (by simp at ht9; omega)
  refine a_region ?_
  refine rv (v := .sl _ _) (v_move il nf) ?_
  refine rv (v := .int _ _) (v_move il nf) ?_
  refine rn (v := .bool _) (q_call (vs := [.sl _ _, .int _ _]) (args := [.sl _ _, .int .i64 _]) hb75 ⟨il, il, trivial⟩ rfl (fun hA => all5_c L w (by omega) vars hcl hL) rfl rfl) ?_
  refine r_nil ?_
  refine a_cond rfl (fun ht14 => ?_) (fun ht14 => ?_)
  ·
   skip
   refine a_seq ?_
   refine a_region ?_
   refine rv (v := .int _ _) (v_move il nf) ?_
   refine rv (v := .int _ _) (v_assign il nf) ?_
   refine r_nil ?_
   refine a_ret ?_
   refine ret1 Tryz.results49 (by decide) (by decide) (Weak.of_eq (int_eq ?_)) rfl Leaves.nil
   exact (fidx_found (p := fun w => aW L w) hi ht14 g2).symm
  ·
   skip
   refine a_skip ?_
   refine a_region ?_
   refine rv (v := .int _ _) (v_move il nf) ?_
   refine rv (v := .int _ _) (v_add il il (fun _ => by omega)) ?_
   refine rv (v := .int _ _) (v_assign il nf) ?_
   refine r_nil ?_
   refine ⟨w + 1, ent_look ⟨Weak.of_eq rfl, Weak.of_eq rfl, Weak.of_eq (int_eq (by omega)), trivial⟩, ⟨by omega, ok_stepF (p := fun j => aW L j) g2 ht14⟩, by omega⟩
 ·
  skip
  refine a_exit ?_
  refine a_seq ?_
  refine a_region ?_
  refine rv (v := .int _ _) (v_assign il nf) ?_
  refine r_nil ?_
  refine a_ret ?_
  refine ret1 Tryz.results49 (by decide) (by decide) (Weak.of_eq (int_eq ?_)) rfl Leaves.nil
  simp at ht9; exact (fidx_none (p := fun w => aW L w) (fun j hj => g2 j (by omega))).symm
theorem sat5_c (vars : Int) (L : List (List Int)) (hcf : cnfB vars L = true) : ACall Tryz.prog 25 [.agg [.int .i64 vars, .sl (sls L) L.length]] [] (.bool (decide (0 ≤ fW vars L))) [] := by
 have hcs := cnfB_spec hcf
 refine ACall.intro Tryz.func25 rfl (N := 9) rfl (by decide) (by simp) ?_
 refine a_seq ?_
 refine a_region ?_
 refine rn (v := .op [.int _ _, .sl _ _]) (q_box il rfl rfl) ?_
 refine rv (v := .bool _) (v_assign il nf) ?_
 refine r_nil ?_
 refine a_seq ?_
 refine a_region ?_
 refine rv (v := .rp _ _) (v_fieldAddr_rp fo30_0 il) ?_
 refine rv (v := .int _ _) (v_load_rp1 ta3 il rfl (fun _ => rfl) rfl) ?_
 refine rv (v := .rp _ _) (v_fieldAddr_rp fo30_1 il) ?_
 refine rv (v := .sl _ _) (v_load_rp1 ta22 il rfl (fun _ => rfl) rfl) ?_
 refine rn (v := .int _ _) (q_call (vs := [.int _ _, .sl _ _]) (args := [.int .i64 _, .sl _ _]) hb49 ⟨il, il, trivial⟩ rfl (fun hA => first5_c vars L hcs.2.2 (by omega) hcs.1) rfl rfl) ?_
 refine rv (v := .bool _) (v_geq il il) ?_
 refine rv (v := .bool _) (v_assign il nf) ?_
 refine r_nil ?_
 refine a_ret ?_
 refine ret1 Tryz.results25 (by decide) (by decide) (Weak.of_eq (bool_eq ?_)) rfl Leaves.nil
 rfl
end Go.Av
